/- A text of this claim, what is not used left out. -/
import Derived.Test.YtlhaopjdpkhogaaGtP0
import Derived.Test.YtlhaopjdpkhogaaGtP13
namespace Go.Proofs.Ytlhaopjdpkhogaa.P
open Go.RowKit Go.Proofs.YtlhaopjdpkhogaaW.PrintWords Go.Proofs.YtlhaopjdpkhogaaW.PrintLast Go.Proofs.YtlhaopjdpkhogaaW.PrintMore
attribute [local go_sem] max2_int min2_int max_two min_two max_three min_three max_four min_four   
set_option linter.unusedVariables false
set_option linter.unusedSimpArgs false
theorem gt_F_of_S {α : Type} {d : Kd α} {e : Nat} {w : World} {base : Nat} {ok : Nat → Prop} {A : Option Addr} {n c : Nat} {xs : List α} (h : Kd.S d e w base ok (.slice A n c) xs) : Kd.F d w (fun k => ok k ∧ base ≤ k ∧ k < w.heap.size) A n xs := by
 have hn := (Kd.S_reads' h).1
 have h2 := Kd.S_mono (ok' := fun k => ok k ∧ base ≤ k ∧ k < w.heap.size) (Kd.S_bound h) (fun k hk => ⟨hk.1, hk.2.1, hk.2.2.1⟩)
 intro W' hW
 have := (Kd.S_reads' (Kd.S_step h2 hW)).2.2
 rw [hn]
 exact this
def gtOk (s : List (List Int)) : Bool := decide (s.length ≤ 1099511627776) && s.all (fun l => l.all (fun t => decide (0 ≤ t ∧ t < (s.length : Int))))
theorem gtOk_out {s : List (List Int)} (h : gtOk s = true) : s.length ≤ 1099511627776 ∧ ∀ l ∈ s, ∀ t ∈ l, 0 ≤ t ∧ t < (s.length : Int) := by
 unfold gtOk at h
 simp only [Bool.and_eq_true, decide_eq_true_eq, List.all_eq_true] at h
 exact h
def gtPut (k t : Int) (o : List (List Int)) : List (List Int) := o.set t.toNat (o.getD t.toNat [] ++ [k])
def gtPr (s : List (List Int)) (n : Nat) : Nat → List (List Int)
 | 0 => List.replicate n []
 | k + 1 => (s.getD k []).foldl (fun o t => gtPut (k : Int) t o) (gtPr s n k)
def gtTot (s : List (List Int)) : Nat → Nat
 | 0 => 0
 | k + 1 => gtTot s k + (s.getD k []).length
theorem gtPut_bd {o : List (List Int)} {m : Nat} (h : ∀ i : Nat, (o.getD i []).length ≤ m) (k t : Int) : ∀ i : Nat, ((gtPut k t o).getD i []).length ≤ m + 1 := by
 intro i
 unfold gtPut
 rw [List.getD_eq_getElem?_getD, List.getElem?_set]
 split
 ·split
  ·have := h t.toNat
   simp only [Option.getD_some, List.length_append, List.length_singleton]
   omega
  ·simp
 ·rw [← List.getD_eq_getElem?_getD]
  exact Nat.le_succ_of_le (h i)
theorem gtFold_bd (k : Int) (l : List Int) : ∀ {o : List (List Int)} {m : Nat}, (∀ i : Nat, (o.getD i []).length ≤ m) → ∀ i : Nat, ((l.foldl (fun o t => gtPut k t o) o).getD i []).length ≤ m + l.length := by
 induction l with
 | nil => intro o m h i; exact h i
 | cons t l ih =>
  intro o m h i
  have := ih (gtPut_bd h k t) i
  simp only [List.foldl_cons, List.length_cons]
  omega
theorem gtFold_len (k : Int) (l : List Int) : ∀ (o : List (List Int)), (l.foldl (fun o t => gtPut k t o) o).length = o.length := by
 induction l with
 | nil => intro o; rfl
 | cons t l ih => intro o; rw [List.foldl_cons, ih]; simp [gtPut]
theorem gtPr_len (s : List (List Int)) (n : Nat) : ∀ k, (gtPr s n k).length = n
 | 0 => by simp [gtPr]
 | k + 1 => by rw [gtPr, gtFold_len, gtPr_len s n k]
theorem gtPr_bd (s : List (List Int)) (n : Nat) : ∀ k, ∀ i : Nat, ((gtPr s n k).getD i []).length ≤ gtTot s k
 | 0 => fun i => by rw [gtPr, List.getD_eq_getElem?_getD, List.getElem?_replicate]; split <;> simp
 | k + 1 => fun i => gtFold_bd _ _ (gtPr_bd s n k) i
theorem gtTot_mono (s : List (List Int)) : ∀ {a b : Nat}, a ≤ b → gtTot s a ≤ gtTot s b := by
 intro a b h
 induction h with
 | refl => exact Nat.le_refl _
 | step _ ih => exact Nat.le_trans ih (Nat.le_add_right _ _)
def gtPok (s : List (List Int)) (n : Nat) : Bool := gtOk s && decide (s.length = n) && decide (gtTot s s.length ≤ 1099511627776)
theorem gtPok_out {s : List (List Int)} {n : Nat} (h : gtPok s n = true) : gtOk s = true ∧ s.length = n ∧ gtTot s s.length ≤ 1099511627776 := by
 unfold gtPok at h
 simp only [Bool.and_eq_true, decide_eq_true_eq] at h
 exact ⟨h.1.1, h.1.2, h.2⟩
theorem gt_fold_snoc (s : List (List Int)) (n k : Nat) (r : List Int) (j : Nat) (t : Int) (h : r.take (j + 1) = r.take j ++ [t]) : (r.take (j + 1)).foldl (fun o t => gtPut (k : Int) t o) (gtPr s n k) = gtPut (k : Int) t ((r.take j).foldl (fun o t => gtPut (k : Int) t o) (gtPr s n k)) := by
 rw [h, List.foldl_append]
 rfl
def graph_Preds.f (k : Nat) (a0_0 : ByteArray) (a0_1 : Int) (a0_2 : Int) (l0_3 : List Int) (l0_4 : List (List (S24))) : Option (List (List Int)) := (graph_Succs.f k a0_0 a0_1 a0_2 l0_3 l0_4).bind fun s => (if gtPok s l0_4.length = true then (some (gtPr s s.length s.length)) else none)
theorem graph_Preds.mono : ∀ a0 a1 a2 a3 a4 k, LeO (graph_Preds.f k a0 a1 a2 a3 a4) (graph_Preds.f (k + 1) a0 a1 a2 a3 a4) := by
 intro a0 a1 a2 a3 a4 k
 unfold graph_Preds.f
 exact LeO.bind (graph_Succs.mono _ _ _ _ _ _) (fun _ => LeO.refl _)
set_option maxHeartbeats 8000000 in
set_option maxRecDepth 100000 in
theorem graph_Preds.calls (k : Nat) (a0_0 : ByteArray) (a0_1 : Int) (a0_2 : Int) (A0_3 : Option Addr) (c0_3 : Nat) (l0_3 : List Int) (A0_4 : Option Addr) (c0_4 : Nat) (l0_4 : List (List (S24))) (r : List (List Int)) (w : World) (hr0_3 : Kd.C (Kd.int .i64) w A0_3 l0_3.length l0_3) (hc0_3 : l0_3.length ≤ c0_3) (hr0_4 : Kd.C (Kd.slice 24 k24) w A0_4 l0_4.length l0_4) (hc0_4 : l0_4.length ≤ c0_4) (h : graph_Preds.f k a0_0 a0_1 a0_2 l0_3 l0_4 = some r) :
  Calls Try.prog 33 #[.agg #[.string a0_0, .int .i64 a0_1, .int .i64 a0_2, .slice A0_3 l0_3.length c0_3, .slice A0_4 l0_4.length c0_4]] w fun e w' => ∃ v0_ : Value, e = .returned (v0_) ∧ Kd.S (Kd.slice 3 (Kd.int .i64)) 22 w' w.heap.size (fun _ => True) v0_ r ∧ Below w.heap.size w w' := by
 have hu35 := Try.underlying35
 unfold graph_Preds.f at h
 obtain ⟨s, hs, h⟩ := Option.bind_eq_some_iff.mp h
 by_cases hok : gtPok s l0_4.length = true
 rotate_left
 ·rw [if_neg hok] at h; cases h
 rw [if_pos hok] at h
 obtain ⟨hok, hsn, htot⟩ := gtPok_out hok
 obtain ⟨hls, hval⟩ := gtOk_out hok
 obtain rfl := Option.some.inj h
 have hz0 : (0 : Int) ≤ (l0_4.length : Int) := by omega
 have hz1 : ((l0_4.length : Int)).toNat ≤ 11728124029610 := by omega
 have HB := Aside0.mk (Below.refl w.heap.size w)
 have HR0_3 := Aside0.mk hr0_3
 have HC0_3 := Aside0.mk hc0_3
 have HR0_4 := Aside0.mk hr0_4
 have HC0_4 := Aside0.mk hc0_4
 have HS := Aside0.mk hs
 have HLS := Aside0.mk hls
 have HVAL := Aside0.mk hval
 have HSN := Aside0.mk hsn
 have HTOT := Aside0.mk htot
 have HZ0 := Aside0.mk hz0
 have HZ1 := Aside0.mk hz1
 clear hr0_3 hc0_3 hr0_4 hc0_4 hs hls hval hsn htot hok h hz0 hz1
 go_enter Try.func33, Try.ntmps33
 go_wp2_with (first | ((with_reducible refine gate_dst (N := 1) rfl ?_); refine box_event ?hg (N := 1) ?hd (cs := #[.string a0_0, .int .i64 a0_1, .int .i64 a0_2, .slice A0_3 l0_3.length c0_3, .slice A0_4 l0_4.length c0_4]) (t := 35) ?hr ?_; (case hd => rfl); (case hg => rfl); (case hr => first | (go_simp; done) | (go_simp; rfl)); intro gb266 hg w4 hbox hb; have n0_ := Aside0.mk (below_step HB.out hb); have n1_ := Aside0.mk hbox; have n2_ := Aside0.mk ((by rw [hg]; exact (below_size HB.out) : w.heap.size ≤ gb266)); clear HB; have HB := n0_; have BK266 := n1_; have GE266 := n2_; clear n0_ n1_ n2_; clear hb hbox hg; have hcz5_0 : w4.cell? ⟨gb266, 0, none⟩ = some (.string a0_0) := (blk_cell BK266.out 0).trans rfl; have hcz5_1 : w4.cell? ⟨gb266, 1, none⟩ = some (.int .i64 a0_1) := (blk_cell BK266.out 1).trans rfl; have hcz5_2 : w4.cell? ⟨gb266, 2, none⟩ = some (.int .i64 a0_2) := (blk_cell BK266.out 2).trans rfl; have hcz5_3 : w4.cell? ⟨gb266, 3, none⟩ = some (.slice A0_3 l0_3.length c0_3) := (blk_cell BK266.out 3).trans rfl; have hcz5_4 : w4.cell? ⟨gb266, 4, none⟩ = some (.slice A0_4 l0_4.length c0_4) := (blk_cell BK266.out 4).trans rfl; have hfz5_0 := blk_frozen BK266.out 0; have hfz5_1 := blk_frozen BK266.out 1; have hfz5_2 := blk_frozen BK266.out 2; have hfz5_3 := blk_frozen BK266.out 3; have hfz5_4 := blk_frozen BK266.out 4) | ((with_reducible refine gate_dst (N := 11) rfl ?_); refine Kd.S_make (Kd.slice 3 (Kd.int .i64)) _ 22 rfl (N := 11) rfl 42 _ _ rfl (l0_4.length : Int) rfl rfl Try.underlying42 (.slice none 0 0) 24 info22 rfl (by decide) (by omega) [] (ok := fun _ => True) (okp := fun _ => True) ⟨_, rfl, Kd.R_nil _ _ _ _ _⟩ (fun _ hk => hk) trivial HZ0.out (Nat.le_trans (Nat.mul_le_mul_right _ HZ1.out) (by omega)) (Below.refl _ _) (Nat.le_refl _) ?_; intro v268 w6 ho7 hb hg_ hnew_; clear hg_ hnew_; have n0_ := Aside0.mk (Kd.S_lower ho7 (below_size HB.out)); have n1_ := Aside0.mk (blk_below (g := gb266) BK266.out hb); have n2_ := Aside0.mk (below_step HB.out hb); clear BK266; clear HB; have HO269 := n0_; have BK266 := n1_; have HB := n2_; clear n0_ n1_ n2_; clear hb ho7; have hcz8_0 : w6.cell? ⟨gb266, 0, none⟩ = some (.string a0_0) := (blk_cell BK266.out 0).trans rfl; have hcz8_1 : w6.cell? ⟨gb266, 1, none⟩ = some (.int .i64 a0_1) := (blk_cell BK266.out 1).trans rfl; have hcz8_2 : w6.cell? ⟨gb266, 2, none⟩ = some (.int .i64 a0_2) := (blk_cell BK266.out 2).trans rfl; have hcz8_3 : w6.cell? ⟨gb266, 3, none⟩ = some (.slice A0_3 l0_3.length c0_3) := (blk_cell BK266.out 3).trans rfl; have hcz8_4 : w6.cell? ⟨gb266, 4, none⟩ = some (.slice A0_4 l0_4.length c0_4) := (blk_cell BK266.out 4).trans rfl; have hfz8_0 := blk_frozen BK266.out 0; have hfz8_1 := blk_frozen BK266.out 1; have hfz8_2 := blk_frozen BK266.out 2; have hfz8_3 := blk_frozen BK266.out 3; have hfz8_4 := blk_frozen BK266.out 4) | (go_at_call 31; ((with_reducible refine (graph_Succs.calls k a0_0 a0_1 a0_2 A0_3 c0_3 l0_3 A0_4 c0_4 l0_4 s w6 (Kd.C_below HR0_3.out HB.out) HC0_3.out (Kd.C_below HR0_4.out HB.out) HC0_4.out HS.out).mono ?_); rintro e w2 ⟨v_, rfl, hS_, hb⟩; obtain ⟨As, cs, rfl⟩ := Kd.S_slice hS_; have HF := Aside0.mk (Kd.F_mono (ok' := fun k_ => w6.heap.size ≤ k_ ∧ k_ < w2.heap.size) (gt_F_of_S hS_) (fun k_ hk_ => hk_.2)); have HB2 := Aside0.mk (below_step HB.out hb); have HO := Aside0.mk (Kd.S_below (Kd.S_mono (ok' := fun k_ => k_ < w6.heap.size ∨ w2.heap.size ≤ k_) (Kd.S_bound HO269.out) (fun k_ hk_ => .inl hk_.2.2.1)) hb); have HZ2 := Aside0.mk (Nat.le_trans HB.out.size hb.size); clear hS_ hb HO269 HB)))
 go_loopg [15] s.length (fun kq v15 w' => ∃ j : Nat, v15 = .int .i64 (j : Int) ∧ Aside0 (j + kq = s.length) ∧ Aside0 (Kd.S (Kd.slice 3 (Kd.int .i64)) 22 w' w.heap.size (fun k_ => k_ < w6.heap.size ∨ w2.heap.size ≤ k_) v268 (gtPr s s.length j)) ∧ Aside0 (Kd.F (Kd.slice 3 (Kd.int .i64)) w' (fun k_ => w6.heap.size ≤ k_ ∧ k_ < w2.heap.size) As s.length s) ∧ Aside0 (Below w.heap.size w w') ∧ Aside0 (w2.heap.size ≤ w'.heap.size))
 case atStart => exact ⟨0, rfl, ⟨by omega⟩, ⟨by have := HO.out; rw [Int.toNat_natCast, ← HSN.out] at this; exact this⟩, HF, HB2, ⟨Nat.le_refl _⟩⟩
 case round =>
  obtain ⟨j, rfl, HJ, HO1, HF1, HB1, HZ1⟩ := hrel
  clear HO HF HB2
  by_cases hlt : j < s.length
  ·have q1 : (0 : Int) ≤ (j : Int) := by omega
   have q2 : (j : Int) < (s.length : Int) := by omega
   obtain ⟨ad, c, hA, hcl, hFK, hcc, _⟩ := Kd.F_get HF1.out ([] : List Int) (j : Int) (by omega) (by omega)
   obtain ⟨l, hl⟩ : ∃ l, s.getD j [] = l := ⟨_, rfl⟩
   rw [show s.getD ((j : Int)).toNat [] = l from hl] at hFK
   obtain ⟨A5, c5, rfl, hc5, hF5⟩ := Kd.FK_slice_open hFK
   have e1 := hcc 0 _ rfl
   simp only [Int.toNat_natCast] at e1
   subst hA
   replace e1 : wr.cell? (ad.add j) = some (.slice A5 l.length c5) := by rw [← e1]; congr 1; show _ = ad.add (j * 1 + 0); rw [Nat.mul_one, Nat.add_zero]
   have hlv : ∀ t ∈ l, 0 ≤ t ∧ t < (s.length : Int) := HVAL.out l (by rw [← hl, List.getD_eq_getElem?_getD, List.getElem?_eq_getElem hlt]; exact List.getElem_mem hlt)
   have HLV := Aside0.mk hlv
   have HL := Aside0.mk hl
   have HF5 := Aside0.mk hF5
   have HM := Aside0.mk (Kd.F_max hF5)
   have HW := Aside0.mk (show wrap64 ((j : Int) + 1) = ((j + 1 : Nat) : Int) by have := HLS.out; unfold wrap64; omega)
   have HLT := Aside0.mk hlt
   have HTOT1 : Aside0 (gtTot s j + l.length ≤ 1099511627776) := ⟨by have := gtTot_mono s (show j + 1 ≤ s.length by omega); have h2 := HTOT.out; rw [gtTot, hl] at this; omega⟩
   clear hFK hcc hF5 hlv hl hlt
   go_wp2
   go_loopg [22] l.length (fun kq v22 w' => ∃ i : Nat, v22 = .int .i64 (i : Int) ∧ Aside0 (i + kq = l.length) ∧ Aside0 (Kd.S (Kd.slice 3 (Kd.int .i64)) 22 w' w.heap.size (fun k_ => k_ < w6.heap.size ∨ w2.heap.size ≤ k_) v268 ((l.take i).foldl (fun o t => gtPut (j : Int) t o) (gtPr s s.length j))) ∧ Aside0 (Kd.F (Kd.slice 3 (Kd.int .i64)) w' (fun k_ => w6.heap.size ≤ k_ ∧ k_ < w2.heap.size) (some ad) s.length s) ∧ Aside0 (Below w.heap.size w w') ∧ Aside0 (w2.heap.size ≤ w'.heap.size) ∧ Aside0 (Kd.F (Kd.int .i64) w' (fun k_ => w6.heap.size ≤ k_ ∧ k_ < w2.heap.size) A5 l.length l))
   case atStart => exact ⟨0, rfl, ⟨by omega⟩, HO1, HF1, HB1, HZ1, HF5⟩
   case round =>
    obtain ⟨i, rfl, HJI, HO2, HF2, HB2, HZ2', HF6⟩ := hrel
    by_cases hlt : i < l.length
    ·have u1 : (0 : Int) ≤ (i : Int) := by omega
     have u2 : (i : Int) < (l.length : Int) := by omega
     obtain ⟨ad0, e0, hx⟩ := Kd.at_int (Kd.F_now HF6.out) (i : Int) u1 u2
     cases e0
     have hx : wr.cell? (ad0.add i) = some (.int .i64 (rd l (i : Int))) := by simpa using hx
     have hri : rd l (i : Int) = l[i] := by simp [rd, List.getD_eq_getElem?_getD, hlt]
     obtain ⟨h0, h1⟩ := HLV.out l[i] (List.getElem_mem hlt)
     obtain ⟨t, ht⟩ : ∃ t : Int, l[i] = t := ⟨_, rfl⟩
     rw [ht] at h0 h1
     rw [hri, ht] at hx
     have htk : l.take (i + 1) = l.take i ++ [t] := by rw [List.take_succ_eq_append_getElem hlt, ht]
     have HTK := Aside0.mk (gt_fold_snoc s s.length j l i t htk)
     have hbd := gtFold_bd (j : Int) (l.take i) (gtPr_bd s s.length j)
     have hln : ((l.take i).foldl (fun o t => gtPut (j : Int) t o) (gtPr s s.length j)).length = s.length := (gtFold_len _ _ _).trans (gtPr_len _ _ _)
     obtain ⟨o1, ho1⟩ : ∃ o1, ((l.take i).foldl (fun o t => gtPut (j : Int) t o) (gtPr s s.length j)) = o1 := ⟨_, rfl⟩
     rw [ho1] at HO2 HTK hbd hln
     have hbd2 : (o1.getD t.toNat []).length ≤ 1099511627776 := by have := hbd t.toNat; have h3 := HTOT1.out; have h4 : (l.take i).length ≤ l.length := (by rw [List.length_take]; exact Nat.min_le_right _ _); omega
     obtain ⟨row, hrow⟩ : ∃ row, o1.getD t.toNat [] = row := ⟨_, rfl⟩
     have HPUT : Aside0 (gtPut (j : Int) t o1 = o1.set t.toNat (row ++ [(j : Int)])) := ⟨by rw [← hrow]; rfl⟩
     rw [hrow] at hbd2
     obtain ⟨go29, co29, eo29, gb29, gl29, cl29, HG29⟩ := Kd.S_form HO2.out (by omega)
     subst eo29
     have ht2 : t < (o1.length : Int) := by omega
     obtain ⟨oki29, ce29, hcl29, hM29, hcc29, hfr29, hoki29, hH29⟩ := Kd.S_elem HO2.out [] t h0 ht2
     rw [hrow] at hM29
     obtain ⟨ve29, rfl, ge29⟩ := hM29
     obtain ⟨A276, c276, rfl⟩ := Kd.R_slice ge29
     have hx276 := hcc29 0 _ rfl
     simp only [Nat.add_zero, show ((Kd.slice 3 (Kd.int .i64))).sz = 1 from rfl, Nat.mul_one] at hx276
     have hG29ok : ∀ k_, some go29 = some k_ → (fun k_ => k_ < w6.heap.size ∨ w2.heap.size ≤ k_) k_ := fun k_ e_ => by obtain ⟨f_, hR_⟩ := HO2.out; exact hR_.1 k_ (by simpa [Value.ownBlock] using e_)
     have hUok : ∀ k_, oki29 k_ → ¬ (w6.heap.size ≤ k_ ∧ k_ < w2.heap.size) := fun k_ e_ => by have := (hoki29 k_ e_).1; omega
     have hGok : ¬ (w6.heap.size ≤ go29 ∧ go29 < w2.heap.size) := by have := hG29ok go29 rfl; omega
     have GB29 := Aside0.mk gb29
     have HOKI29 := Aside0.mk hoki29
     have HH29 := Aside0.mk hH29
     have GE29 := Aside0.mk ge29
     have HUOK := Aside0.mk hUok
     have HGOK := Aside0.mk hGok
     have HLN := Aside0.mk hln
     have HBD2 := Aside0.mk hbd2
     have HROW := Aside0.mk hrow
     have HO1 := Aside0.mk ho1
     have HLT2 := Aside0.mk hlt
     have HT0 := Aside0.mk h0
     have HT2 := Aside0.mk ht2
     have HWI := Aside0.mk (show wrap64 ((i : Int) + 1) = ((i + 1 : Nat) : Int) by have := HM.out; unfold wrap64; omega)
     replace h0 := eq_true h0
     replace ht2 := eq_true ht2
     clear gb29 gl29 cl29 HG29 hcl29 hcc29 hfr29 hoki29 hH29 ge29 hG29ok hUok hGok hri h1 ht htk hbd hln hbd2 hrow hlt ho1
     go_wp2_with (first | ((with_reducible refine gate_builtin (b := .append) (xs := #[.tmp 31, .tmp 33]) rfl ?_); at_builtin; refine Kd.R_append (Kd.int .i64) (w0 := w) w.heap.size rfl (.tmp 31) (.tmp 33) 22 3 (.int .i64 0) 8 rfl Try.underlying22 info3 rfl (by decide) (by omega) (.slice A276 row.length c276) row (j : Int) [.int .i64 (j : Int)] (fun k_ => oki29 k_ ∨ (fun k_ => k_ < w6.heap.size ∨ w2.heap.size ≤ k_) k_ ∧ wr.heap.size ≤ k_) (fun _ => False) rfl rfl ?aP (fun _ hk => hk.elim) ?aF ?aO ?aB ?aS ?aL ?_; (case aP => exact rfl); (case aF => exact (fun k_ hk => .inr ⟨.inr (Nat.le_trans HZ2'.out hk), hk⟩)); (case aO => exact Kd.R_mono GE29.out (fun _ hk => .inl hk)); (case aB => exact HB2.out); (case aS => exact HB2.out.size); (case aL => have := HBD2.out; omega); intro v278 w30 ho hb hg hat; obtain ⟨A33, c33, eo33⟩ := Kd.R_slice ho; subst eo33; have hown : ∀ k_, (Value.slice A276 row.length c276).ownBlock = some k_ → oki29 k_ := GE29.out.1; have n0_ := Aside0.mk (Kd.F_step HF2.out (fun k_ hk_ hlt_ => hg.block k_ hlt_ (fun e_ => HUOK.out k_ (hown k_ e_.symm) hk_))); have n1_ := Aside0.mk (Kd.F_step HF6.out (fun k_ hk_ hlt_ => hg.block k_ hlt_ (fun e_ => HUOK.out k_ (hown k_ e_.symm) hk_))); have n2_ := Aside0.mk hb; have n3_ := Aside0.mk (Kd.H_grown (Kd.H_widen HH29.out) hg (fun k_ e_ => .inl (hown k_ e_))); have n4_ := Aside0.mk ho; have n5_ := Aside0.mk (Nat.le_trans HZ2'.out hg.size); clear HF2 HF6 HB2 HH29 HO2 GE29 HZ2'; have HF2 := n0_; have HF6 := n1_; have HB2 := n2_; have HH29 := n3_; have HO279 := n4_; have HZ2' := n5_; clear n0_ n1_ n2_ n3_ n4_ n5_; clear ho hb hg hat hown hx276; obtain ⟨_, _, hraw31, _, _, hcc31, _⟩ := Kd.H_raw HH29.out HT0.out HT2.out; obtain ⟨_, hfr31⟩ := Kd.H_at HH29.out HT0.out HT2.out; have hx31 := hcc31 0 _ rfl; have hf31 := hfr31 0; simp only [Nat.add_zero, show ((Kd.slice 3 (Kd.int .i64))).sz = 1 from rfl, Nat.mul_one] at hx31 hf31; have HP31 := Kd.S_seg0 HH29.out HT0.out HT2.out (seg := [.slice A33 (row ++ [(j : Int)]).length c33]) (j := 0) (show 1 ≤ 1 from by decide) (x' := row ++ [(j : Int)]) (Kd.M_row HO279.out) (fun _ hk => hk); (try simp only [show ((Kd.slice 3 (Kd.int .i64))).sz = 1 from rfl, Nat.mul_one, Nat.add_zero] at HP31); clear hcc31 hfr31 hraw31) | ((with_reducible refine gate_store (t := 22) (p := 35) rfl ?_); refine store_event (t := 22) (p := 35) (v := ?vo_w32) (w1 := (w30.setCell ⟨go29, t.toNat, none⟩ (.slice A33 (row ++ [(j : Int)]).length c33))) ?hg ?ho ?hn ?hr ?_; (case ho => rfl); (case hg => rfl); (case hn => rfl); (case hr => first | (go_simp; done) | (go_simp; rfl)); intro w32 hw; have hg : w30.grownBy w32 (some go29) := (by rw [hw]; exact HP31.2); have hp_ : Kd.S (Kd.slice 3 (Kd.int .i64)) 22 w32 w.heap.size (fun k_ => k_ < w6.heap.size ∨ w2.heap.size ≤ k_) (.slice (some ⟨go29, 0, none⟩) o1.length co29) (gtPut (j : Int) t o1) := (by rw [hw, HPUT.out]; exact HP31.1); clear HP31; have n0_ := Aside0.mk (Kd.F_step HF2.out (fun k_ hk_ hlt_ => hg.block k_ hlt_ (fun e_ => HGOK.out (by cases e_; exact hk_)))); have n1_ := Aside0.mk (Kd.F_step HF6.out (fun k_ hk_ hlt_ => hg.block k_ hlt_ (fun e_ => HGOK.out (by cases e_; exact hk_)))); have n2_ := Aside0.mk ((by rw [hw]; exact below_set HB2.out GB29.out : Below w.heap.size w w32)); have n3_ := Aside0.mk hp_; have n4_ := Aside0.mk (Nat.le_trans HZ2'.out hg.size); clear HF2 HF6 HB2 HO279 HH29 HZ2'; have HF2 := n0_; have HF6 := n1_; have HB2 := n2_; have HO2 := n3_; have HZ2' := n4_; clear n0_ n1_ n2_ n3_ n4_; clear hg hw hp_))
     go_roundg (gk - 1)
     case measure => have := HJI.out; have := HLT2.out; omega
     case rel => exact ⟨i + 1, by first | rfl | rw [HWI.out], ⟨by have := HJI.out; have := HLT2.out; omega⟩, ⟨by rw [HTK.out]; exact HO2.out⟩, HF2, HB2, HZ2', HF6⟩
    ·have hi : i = l.length := by have := HJI.out; omega
     subst hi
     rw [List.take_of_length_le (Nat.le_refl _)] at HO2
     clear hlt
     go_wp2
     go_roundg (s.length - (j + 1))
     case measure => have := HJ.out; have := HLT.out; omega
     case rel => exact ⟨j + 1, by first | rfl | rw [HW.out], ⟨by have := HJ.out; have := HLT.out; omega⟩, ⟨by rw [gtPr, HL.out]; exact HO2.out⟩, HF2, HB2, HZ2'⟩
  ·have hj : j = s.length := by have := HJ.out; omega
   subst hj
   clear hlt
   go_wp2
   go_ret
   exact ⟨_, rfl, Kd.S_mono HO1.out (fun _ _ => trivial), HB1.out⟩
def gtGo (s : List (List Int)) (but : Int) : Nat → Int → List Bool × List Int → List Bool × List Int
 | 0, _, st => st
 | n + 1, k, st => if k = but ∨ st.1.getD k.toNat false = true then st else
   let st2 := (s.getD k.toNat []).foldl (fun q t => gtGo s but n t q) (st.1.set k.toNat true, st.2)
   (st2.1, st2.2 ++ [k])
def gtUn (l : List Bool) : Nat := l.count false
theorem gtUn_set (l : List Bool) (i : Nat) : gtUn (l.set i true) ≤ gtUn l := by
 unfold gtUn
 induction l generalizing i with
 | nil => simp
 | cons x l ih =>
  cases i with
  | zero => cases x <;> simp
  | succ i => cases x <;> simp [ih i]
theorem gtUn_set_lt (l : List Bool) (i : Nat) (hi : i < l.length) (h : l.getD i false = false) : gtUn (l.set i true) + 1 = gtUn l := by
 unfold gtUn
 induction l generalizing i with
 | nil => simp at hi
 | cons x l ih =>
  cases i with
  | zero => simp at h; subst h; simp
  | succ i =>
   have := ih i (by simpa using hi) (by simpa using h)
   cases x <;> simp <;> omega
theorem gtGo_len (s : List (List Int)) (but : Int) : ∀ n k st, (gtGo s but n k st).1.length = st.1.length ∧ gtUn (gtGo s but n k st).1 ≤ gtUn st.1 := by
 intro n
 induction n with
 | zero => intro k st; exact ⟨rfl, Nat.le_refl _⟩
 | succ n ih =>
  intro k st
  have fold : ∀ (l : List Int) (q : List Bool × List Int), (l.foldl (fun q t => gtGo s but n t q) q).1.length = q.1.length ∧ gtUn (l.foldl (fun q t => gtGo s but n t q) q).1 ≤ gtUn q.1 := by
   intro l
   induction l with
   | nil => intro q; exact ⟨rfl, Nat.le_refl _⟩
   | cons t l ihl =>
    intro q
    have h1 := ih t q
    have h2 := ihl (gtGo s but n t q)
    exact ⟨h2.1.trans h1.1, Nat.le_trans h2.2 h1.2⟩
  unfold gtGo
  split
  ·exact ⟨rfl, Nat.le_refl _⟩
  ·have h := fold (s.getD k.toNat []) (st.1.set k.toNat true, st.2)
   refine ⟨h.1.trans (by simp), Nat.le_trans h.2 ?_⟩
   exact gtUn_set st.1 k.toNat
theorem gtGo_cnt (s : List (List Int)) (but : Int) (hv : ∀ l ∈ s, ∀ t ∈ l, 0 ≤ t ∧ t < (s.length : Int)) : ∀ n (k : Int) st, 0 ≤ k → k < (s.length : Int) → st.1.length = s.length → (gtGo s but n k st).2.length + gtUn (gtGo s but n k st).1 ≤ st.2.length + gtUn st.1 := by
 intro n
 induction n with
 | zero => intro k st _ _ _; exact Nat.le_refl _
 | succ n ih =>
  intro k st h0 h1 hs
  have fold : ∀ (l : List Int), (∀ t ∈ l, 0 ≤ t ∧ t < (s.length : Int)) → ∀ (q : List Bool × List Int), q.1.length = s.length → (l.foldl (fun q t => gtGo s but n t q) q).2.length + gtUn (l.foldl (fun q t => gtGo s but n t q) q).1 ≤ q.2.length + gtUn q.1 := by
   intro l
   induction l with
   | nil => intro _ q _; exact Nat.le_refl _
   | cons t l ihl =>
    intro hl q hq
    have a1 := ih t q (hl t (by simp)).1 (hl t (by simp)).2 hq
    have a2 := ihl (fun t ht => hl t (by simp [ht])) (gtGo s but n t q) ((gtGo_len s but n t q).1.trans hq)
    simp only [List.foldl_cons]
    omega
  unfold gtGo
  split
  ·exact Nat.le_refl _
  ·rename_i hn
   have hk : k.toNat < st.1.length := by omega
   have hf : st.1.getD k.toNat false = false := by
    cases hx : st.1.getD k.toNat false with
    | false => rfl
    | true => exact absurd (.inr hx) hn
   have hu := gtUn_set_lt st.1 k.toNat hk hf
   have hr : ∀ t ∈ s.getD k.toNat [], 0 ≤ t ∧ t < (s.length : Int) := by
    rw [List.getD_eq_getElem?_getD, List.getElem?_eq_getElem (by omega)]
    exact hv _ (List.getElem_mem _)
   have := fold _ hr (st.1.set k.toNat true, st.2) (by simpa using hs)
   simp only [List.length_append, List.length_singleton]
   simp only at this
   omega
theorem gt_zero (l : List Bool) (h : gtUn l = 0) (k : Nat) (hk : k < l.length) : l.getD k false = true := by
 unfold gtUn at h
 rw [List.count_eq_zero] at h
 cases hx : l.getD k false with
 | true => rfl
 | false =>
  exfalso
  apply h
  rw [List.getD_eq_getElem?_getD, List.getElem?_eq_getElem hk] at hx
  simp at hx
  rw [← hx]
  exact List.getElem_mem hk
def GtInv (n0 : Nat) (w0 Wc : World) (g Bo : Nat) (W : World) : Prop := Below n0 w0 W ∧ Kept Wc W (fun k => k = g ∨ k = Bo)
def GtAt (g : Nat) (seen : List Bool) (W : World) : Prop := W.heap[g]? = some (.cells (seen.map Value.bool).toArray 4 (0, 0))
theorem GtAt.cell {g : Nat} {seen : List Bool} {W : World} (h : GtAt g seen W) (k : Nat) (hk : k < seen.length) : W.cell? ⟨g, k, none⟩ = some (.bool (seen.getD k false)) := by
 have := blk_cell h k
 rw [this, List.getElem?_toArray, List.getElem?_map, List.getElem?_eq_getElem hk]
 simp [List.getD_eq_getElem?_getD, List.getElem?_eq_getElem hk]
theorem GtAt.set {g : Nat} {seen : List Bool} {W : World} (h : GtAt g seen W) (k : Nat) (b : Bool) : GtAt g (seen.set k b) (W.setCell ⟨g, k, none⟩ (.bool b)) := by
 have := blk_set h k (.bool b)
 unfold GtAt
 rw [this]
 congr 2
 simp [List.map_set]
theorem gt_F_to {α : Type} {d : Kd α} {n0 : Nat} {w0 Wc W : World} {g Bo : Nat} {A : Option Addr} {n : Nat} {xs : List α} (h : Kd.F d Wc (fun k => (k ≠ g ∧ k ≠ Bo) ∧ k < Wc.heap.size) A n xs) (hW : GtInv n0 w0 Wc g Bo W) : Kd.F d W (fun k => (k ≠ g ∧ k ≠ Bo) ∧ k < Wc.heap.size) A n xs :=
 Kd.F_step h (fun k hk hlt => hW.2.2 k hlt (fun hs => hs.elim hk.1.1 hk.1.2))
theorem gt_F_inv {α : Type} {d : Kd α} {n0 : Nat} {w0 Wc W1 W2 : World} {g Bo : Nat} {A : Option Addr} {n : Nat} {xs : List α} (h : Kd.F d W1 (fun k => (k ≠ g ∧ k ≠ Bo) ∧ k < Wc.heap.size) A n xs) (h1 : GtInv n0 w0 Wc g Bo W1) (h2 : GtInv n0 w0 Wc g Bo W2) : Kd.F d W2 (fun k => (k ≠ g ∧ k ≠ Bo) ∧ k < Wc.heap.size) A n xs :=
 Kd.F_step h (fun k hk _ => (h2.2.2 k hk.2 (fun hs => hs.elim hk.1.1 hk.1.2)).trans (h1.2.2 k hk.2 (fun hs => hs.elim hk.1.1 hk.1.2)).symm)
def GtPost_w (n0 : Nat) (w0 Wc : World) (g Bo : Nat) (J : List Int → World → Prop) (st : List Bool × List Int) (e : Ending) (W' : World) : Prop := e = .returned (.tuple #[]) ∧ GtInv n0 w0 Wc g Bo W' ∧ GtAt g st.1 W' ∧ J st.2 W'
set_option maxHeartbeats 8000000 in
set_option maxRecDepth 100000 in
theorem gt_into_w (s : List (List Int)) (but : Int) (n0 : Nat) (w0 Wc : World) (B1 B2 B3 B4 B5 g Bo : Nat) (A3 : Option Addr) (c3 : Nat) (J : List Int → World → Prop)
  (hval : ∀ l ∈ s, ∀ t ∈ l, 0 ≤ t ∧ t < (s.length : Int))
  (b1 : Wc.heap[B1]? = some (.cells #[.int .i64 but] 3 (0, 0))) (b2 : Wc.heap[B2]? = some (.cells #[.slice (some ⟨g, 0, none⟩) s.length s.length] 38 (0, 0))) (b3 : Wc.heap[B3]? = some (.cells #[.slice A3 s.length c3] 42 (0, 0)))
  (b4 : Wc.heap[B4]? = some (.cells #[.func (.func 63) #[] #[.pointer (some ⟨B1, 0, none⟩), .pointer (some ⟨B2, 0, none⟩), .pointer (some ⟨B3, 0, none⟩), .pointer (some ⟨B4, 0, none⟩), .pointer (some ⟨B5, 0, none⟩)]] 64 (0, 0))) (b5 : Wc.heap[B5]? = some (.cells #[.func (.func 55) #[] #[]] 64 (0, 0)))
  (hne : (B1 ≠ g ∧ B2 ≠ g ∧ B3 ≠ g ∧ B4 ≠ g ∧ B5 ≠ g) ∧ (B1 ≠ Bo ∧ B2 ≠ Bo ∧ B3 ≠ Bo ∧ B4 ≠ Bo ∧ B5 ≠ Bo))
  (hF : Kd.F (Kd.slice 3 (Kd.int .i64)) Wc (fun k => (k ≠ g ∧ k ≠ Bo) ∧ k < Wc.heap.size) A3 s.length s) (hn0 : n0 ≤ g) (M : Nat)
  (hJ : ∀ l W i b seen, GtAt g seen W → J l W → J l (W.setCell ⟨g, i, none⟩ (.bool b)))
  (hL : ∀ l (k : Int) W, l.length + 1 ≤ M → GtInv n0 w0 Wc g Bo W → J l W → Calls Try.prog 55 #[.int .i64 k] W fun e W' => e = .returned (.tuple #[]) ∧ GtInv n0 w0 Wc g Bo W' ∧ W'.heap[g]? = W.heap[g]? ∧ J (l ++ [k]) W') :
  ∀ (n k : Nat) (seen : List Bool) (left : List Int) (W : World), k < s.length → seen.length = s.length → gtUn seen ≤ n → left.length + gtUn seen ≤ M → GtInv n0 w0 Wc g Bo W → GtAt g seen W → J left W →
  Calls Try.prog 63 #[.int .i64 (k : Int), .pointer (some ⟨B1, 0, none⟩), .pointer (some ⟨B2, 0, none⟩), .pointer (some ⟨B3, 0, none⟩), .pointer (some ⟨B4, 0, none⟩), .pointer (some ⟨B5, 0, none⟩)] W (GtPost_w n0 w0 Wc g Bo J (gtGo s but n (k : Int) (seen, left))) := by
 have BX : ∀ W, GtInv n0 w0 Wc g Bo W → Aside0 (W.cell? ⟨B1, 0, none⟩ = some (.int .i64 but) ∧ W.cell? ⟨B2, 0, none⟩ = some (.slice (some ⟨g, 0, none⟩) s.length s.length) ∧ W.cell? ⟨B3, 0, none⟩ = some (.slice A3 s.length c3) ∧ W.cell? ⟨B4, 0, none⟩ = some (.func (.func 63) #[] #[.pointer (some ⟨B1, 0, none⟩), .pointer (some ⟨B2, 0, none⟩), .pointer (some ⟨B3, 0, none⟩), .pointer (some ⟨B4, 0, none⟩), .pointer (some ⟨B5, 0, none⟩)]) ∧ W.cell? ⟨B5, 0, none⟩ = some (.func (.func 55) #[] #[])) := fun W hW =>
  ⟨blk_cell (blk_kept b1 hW.2 (by have := hne; intro h; omega)) 0, blk_cell (blk_kept b2 hW.2 (by have := hne; intro h; omega)) 0, blk_cell (blk_kept b3 hW.2 (by have := hne; intro h; omega)) 0, blk_cell (blk_kept b4 hW.2 (by have := hne; intro h; omega)) 0, blk_cell (blk_kept b5 hW.2 (by have := hne; intro h; omega)) 0⟩
 have HBX := Aside0.mk BX
 have HVAL := Aside0.mk hval
 have HF := Aside0.mk hF
 have HJ := Aside0.mk hJ
 have HL := Aside0.mk hL
 have HN0 := Aside0.mk hn0
 have HNE := Aside0.mk hne
 clear BX hval hF hJ hL hn0 hne b1 b2 b3 b4 b5
 intro n
 induction n with
 | zero =>
  intro k seen left W hk hs hu hM hI hG hJ0
  have hz := gt_zero seen (by omega) k (by omega)
  by_cases hb : (k : Int) = but
  ·have t1 : ((k : Int) == but) = true := beq_iff_eq.mpr hb
   obtain ⟨c1, c2, c3_, c4, c5⟩ := (HBX.out W hI).out
   have cg := hG.cell k (by omega)
   have fg : W.frozen? ⟨g, k, none⟩ = false := blk_frozen hG k
   have HI := Aside0.mk hI
   have HG := Aside0.mk hG
   have HJ0 := Aside0.mk hJ0
   have HU := Aside0.mk hu
   have HS := Aside0.mk hs
   have p1 : (0 : Int) ≤ (k : Int) := by omega
   have p2 : (k : Int) < (s.length : Int) := by omega
   clear hI hG hJ0 hu hs
   clear hz hb hM
   go_enter Try.func63, Try.ntmps63
   go_wp2
   refine bodyPost_ret (results_none rfl _ _ _) rfl ?_
   exact ⟨rfl, HI.out, by rw [gtGo]; exact HG.out, by rw [gtGo]; exact HJ0.out⟩
  ·have t1 : ((k : Int) == but) = false := beq_eq_false_iff_ne.mpr hb
   obtain ⟨c1, c2, c3_, c4, c5⟩ := (HBX.out W hI).out
   have cg := hG.cell k (by omega)
   have fg : W.frozen? ⟨g, k, none⟩ = false := blk_frozen hG k
   have HI := Aside0.mk hI
   have HG := Aside0.mk hG
   have HJ0 := Aside0.mk hJ0
   have HU := Aside0.mk hu
   have HS := Aside0.mk hs
   have p1 : (0 : Int) ≤ (k : Int) := by omega
   have p2 : (k : Int) < (s.length : Int) := by omega
   clear hI hG hJ0 hu hs
   rw [hz] at cg
   clear hz hb hM
   go_enter Try.func63, Try.ntmps63
   go_wp2
   refine bodyPost_ret (results_none rfl _ _ _) rfl ?_
   exact ⟨rfl, HI.out, by rw [gtGo]; exact HG.out, by rw [gtGo]; exact HJ0.out⟩
 | succ n ih =>
  have IH := Aside0.mk ih
  clear ih
  intro k seen left W hk hs hu hM hI hG hJ0
  by_cases hb : (k : Int) = but
  ·have e : gtGo s but (n + 1) (k : Int) (seen, left) = (seen, left) := by unfold gtGo; rw [if_pos (.inl hb)]
   have E := Aside0.mk e
   have t1 : ((k : Int) == but) = true := beq_iff_eq.mpr hb
   obtain ⟨c1, c2, c3_, c4, c5⟩ := (HBX.out W hI).out
   have cg := hG.cell k (by omega)
   have fg : W.frozen? ⟨g, k, none⟩ = false := blk_frozen hG k
   have HI := Aside0.mk hI
   have HG := Aside0.mk hG
   have HJ0 := Aside0.mk hJ0
   have HU := Aside0.mk hu
   have HS := Aside0.mk hs
   have p1 : (0 : Int) ≤ (k : Int) := by omega
   have p2 : (k : Int) < (s.length : Int) := by omega
   clear hI hG hJ0 hu hs
   clear hb e hM
   go_enter Try.func63, Try.ntmps63
   go_wp2
   refine bodyPost_ret (results_none rfl _ _ _) rfl ?_
   exact ⟨rfl, HI.out, by rw [E.out]; exact HG.out, by rw [E.out]; exact HJ0.out⟩
  have t1 : ((k : Int) == but) = false := beq_eq_false_iff_ne.mpr hb
  cases hsk : seen.getD k false with
  | true =>
   have e : gtGo s but (n + 1) (k : Int) (seen, left) = (seen, left) := by unfold gtGo; rw [if_pos (.inr (by simpa using hsk))]
   have E := Aside0.mk e
   obtain ⟨c1, c2, c3_, c4, c5⟩ := (HBX.out W hI).out
   have cg := hG.cell k (by omega)
   have fg : W.frozen? ⟨g, k, none⟩ = false := blk_frozen hG k
   have HI := Aside0.mk hI
   have HG := Aside0.mk hG
   have HJ0 := Aside0.mk hJ0
   have HU := Aside0.mk hu
   have HS := Aside0.mk hs
   have p1 : (0 : Int) ≤ (k : Int) := by omega
   have p2 : (k : Int) < (s.length : Int) := by omega
   clear hI hG hJ0 hu hs
   rw [hsk] at cg
   clear hb e hsk hM
   go_enter Try.func63, Try.ntmps63
   go_wp2
   refine bodyPost_ret (results_none rfl _ _ _) rfl ?_
   exact ⟨rfl, HI.out, by rw [E.out]; exact HG.out, by rw [E.out]; exact HJ0.out⟩
  | false =>
   obtain ⟨r, hr⟩ : ∃ r, s.getD k [] = r := ⟨_, rfl⟩
   have e : gtGo s but (n + 1) (k : Int) (seen, left) = ((r.foldl (fun q t => gtGo s but n t q) (seen.set k true, left)).1, (r.foldl (fun q t => gtGo s but n t q) (seen.set k true, left)).2 ++ [(k : Int)]) := by
    rw [← hr]
    conv => lhs; unfold gtGo
    rw [if_neg (by rintro (h | h); exact hb h; rw [show (((seen, left) : List Bool × List Int).1.getD ((k : Int)).toNat false) = seen.getD k false from rfl, hsk] at h; cases h)]
    rfl
   have E := Aside0.mk e
   have hrv : ∀ t ∈ r, 0 ≤ t ∧ t < (s.length : Int) := HVAL.out r (by rw [← hr, List.getD_eq_getElem?_getD, List.getElem?_eq_getElem hk]; exact List.getElem_mem hk)
   have HRV := Aside0.mk hrv
   have hu1 := gtUn_set_lt seen k (by omega) hsk
   have HU1 : Aside0 (gtUn (seen.set k true) ≤ n) := ⟨by omega⟩
   have hI1 : GtInv n0 w0 Wc g Bo (W.setCell ⟨g, k, none⟩ (.bool true)) := ⟨hI.1.setCell (p := ⟨g, k, none⟩) HN0.out _, hI.2.setCell (p := ⟨g, k, none⟩) (.inl (.inl rfl)) _⟩
   have hG1 := hG.set k true
   have hJ1 := HJ.out left W k true seen hG hJ0
   have HM1 : Aside0 (left.length + gtUn (seen.set k true) + 1 ≤ M) := ⟨by omega⟩
   obtain ⟨d1, d2, d3, d4, d5⟩ := (HBX.out _ hI1).out
   obtain ⟨ad, c, hA, hcl, hFK, hcc, _⟩ := Kd.F_get (gt_F_to HF.out hI1) ([] : List Int) (k : Int) (by omega) (by omega)
   rw [show s.getD ((k : Int)).toNat [] = r from hr] at hFK
   obtain ⟨A0, c0, rfl, hc0, hF0⟩ := Kd.FK_slice_open hFK
   have e1 := hcc 0 _ rfl
   simp only [Int.toNat_natCast] at e1
   subst hA
   replace e1 : (W.setCell ⟨g, k, none⟩ (.bool true)).cell? (ad.add k) = some (.slice A0 r.length c0) := by rw [← e1]; congr 1; show _ = ad.add (k * 1 + 0); rw [Nat.mul_one, Nat.add_zero]
   have HF0 := Aside0.mk hF0
   have HM := Aside0.mk (Kd.F_max hF0)
   have HI1 := Aside0.mk hI1
   have HG1 := Aside0.mk hG1
   have HJ1 := Aside0.mk hJ1
   obtain ⟨c1, c2, c3_, c4, c5⟩ := (HBX.out W hI).out
   have cg := hG.cell k (by omega)
   have fg : W.frozen? ⟨g, k, none⟩ = false := blk_frozen hG k
   have HI := Aside0.mk hI
   have HG := Aside0.mk hG
   have HJ0 := Aside0.mk hJ0
   have HU := Aside0.mk hu
   have HS := Aside0.mk hs
   have p1 : (0 : Int) ≤ (k : Int) := by omega
   have p2 : (k : Int) < (s.length : Int) := by omega
   clear hI hG hJ0 hu hs
   rw [hsk] at cg
   clear hM hI1 hG1 hJ1 hF0 hFK hcc hb e hsk hr hrv hu1
   go_enter Try.func63, Try.ntmps63
   go_wp2
   go_loopg [26] r.length (fun kq v26 w2 => ∃ j : Nat, v26 = .int .i64 (j : Int) ∧ Aside0 (j + kq = r.length) ∧ Aside0 (GtInv n0 w0 Wc g Bo w2) ∧ Aside0 (GtAt g ((r.take j).foldl (fun q t => gtGo s but n t q) (seen.set k true, left)).1 w2) ∧ Aside0 (J ((r.take j).foldl (fun q t => gtGo s but n t q) (seen.set k true, left)).2 w2) ∧ Aside0 (((r.take j).foldl (fun q t => gtGo s but n t q) (seen.set k true, left)).1.length = s.length ∧ gtUn ((r.take j).foldl (fun q t => gtGo s but n t q) (seen.set k true, left)).1 ≤ n) ∧ Aside0 (((r.take j).foldl (fun q t => gtGo s but n t q) (seen.set k true, left)).2.length + gtUn ((r.take j).foldl (fun q t => gtGo s but n t q) (seen.set k true, left)).1 + 1 ≤ M) ∧ Aside0 (Kd.F (Kd.int .i64) w2 (fun k => (k ≠ g ∧ k ≠ Bo) ∧ k < Wc.heap.size) A0 r.length r))
   case atStart => exact ⟨0, rfl, ⟨by omega⟩, HI1, HG1, HJ1, ⟨⟨by have := HS.out; simp; omega, HU1.out⟩⟩, HM1, HF0⟩
   case round =>
   obtain ⟨j, rfl, HJJ, HI2, HG2, HJ2, HU2, HM2, HF2⟩ := hrel
   obtain ⟨f1, f2, f3, f4, f5⟩ := (HBX.out wr HI2.out).out
   by_cases hlt : j < r.length
   ·have q1 : (0 : Int) ≤ (j : Int) := by omega
    have q2 : (j : Int) < (r.length : Int) := by omega
    obtain ⟨ad0, e0, hx⟩ := Kd.at_int (Kd.F_now HF2.out) (j : Int) q1 q2
    cases e0
    replace hx : wr.cell? (ad0.add j) = some (.int .i64 (rd r (j : Int))) := by simpa using hx
    have hrj : rd r (j : Int) = r[j] := by simp [rd, List.getD_eq_getElem?_getD, hlt]
    obtain ⟨h0, h1⟩ := HRV.out r[j] (List.getElem_mem hlt)
    obtain ⟨tn, htn⟩ : ∃ tn : Nat, r[j] = (tn : Int) := ⟨r[j].toNat, by omega⟩
    rw [hrj, htn] at hx
    have htk : r.take (j + 1) = r.take j ++ [(tn : Int)] := by rw [List.take_succ_eq_append_getElem hlt, htn]
    have HTK := Aside0.mk htk
    have HTN : Aside0 (tn < s.length) := ⟨by omega⟩
    have HLT := Aside0.mk hlt
    obtain ⟨st, hst⟩ : ∃ st, (r.take j).foldl (fun q t => gtGo s but n t q) (seen.set k true, left) = st := ⟨_, rfl⟩
    rw [hst] at HG2 HJ2 HU2 HM2
    have HST := Aside0.mk hst
    have HW := Aside0.mk (show wrap64 ((j : Int) + 1) = ((j + 1 : Nat) : Int) by have := HM.out; unfold wrap64; omega)
    have mj : r.length ≤ 9223372036854775807 := HM.out
    clear hrj h0 h1 htn htk hst hlt
    go_wp2_with (first | (go_at_call 63; ((with_reducible refine (IH.out tn st.1 st.2 wr HTN.out HU2.out.1 HU2.out.2 (by have := HM2.out; omega) HI2.out HG2.out HJ2.out).mono ?_); rintro e w' ⟨rfl, hI3, hG3, hJ3⟩; have HI3 := Aside0.mk hI3; have HG3 := Aside0.mk hG3; have HJ3 := Aside0.mk hJ3; clear hI3 hG3 hJ3)))
    go_roundg (gk - 1)
    case measure => have := HJJ.out; have := HLT.out; omega
    case rel => exact ⟨j + 1, by first | rfl | rw [HW.out], ⟨by have := HJJ.out; have := HLT.out; omega⟩, HI3, ⟨by rw [HTK.out, List.foldl_append, HST.out]; exact HG3.out⟩, ⟨by rw [HTK.out, List.foldl_append, HST.out]; exact HJ3.out⟩, ⟨by rw [HTK.out, List.foldl_append, HST.out]; have := gtGo_len s but n (tn : Int) st; exact ⟨this.1.trans HU2.out.1, Nat.le_trans this.2 HU2.out.2⟩⟩, ⟨by rw [HTK.out, List.foldl_append, HST.out]; have := gtGo_cnt s but HVAL.out n (tn : Int) st (by omega) (by have := HTN.out; omega) HU2.out.1; have := HM2.out; simp only [List.foldl_cons, List.foldl_nil]; omega⟩, ⟨gt_F_inv HF0.out HI1.out HI3.out⟩⟩
   ·have hj : j = r.length := by have := HJJ.out; omega
    subst hj
    rw [List.take_of_length_le (Nat.le_refl _)] at HG2 HJ2 HU2 HM2
    clear hlt
    go_wp2_with (first | (go_at_call 55; ((with_reducible refine (HL.out _ (k : Int) wr (by have := HM2.out; omega) HI2.out HJ2.out).mono ?_); rintro e w' ⟨rfl, hI3, hG3, hJ3⟩; have HI3 := Aside0.mk hI3; have HG3 := Aside0.mk (hG3.trans HG2.out); have HJ3 := Aside0.mk hJ3; clear hI3 hG3 hJ3)))
    go_end0
    exact ⟨rfl, HI3.out, by rw [E.out]; exact HG3.out, by rw [E.out]; exact HJ3.out⟩
def GtPost_o (n0 : Nat) (w0 Wc : World) (g Bo : Nat) (J : List Int → World → Prop) (st : List Bool × List Int) (e : Ending) (W' : World) : Prop := e = .returned (.tuple #[]) ∧ GtInv n0 w0 Wc g Bo W' ∧ GtAt g st.1 W' ∧ J st.2 W'
set_option maxHeartbeats 8000000 in
set_option maxRecDepth 100000 in
theorem gt_into_o (s : List (List Int)) (but : Int) (n0 : Nat) (w0 Wc : World) (B1 B2 B3 B4 B5 g Bo : Nat) (A3 : Option Addr) (c3 : Nat) (J : List Int → World → Prop)
  (hval : ∀ l ∈ s, ∀ t ∈ l, 0 ≤ t ∧ t < (s.length : Int))
  (b1 : Wc.heap[B1]? = some (.cells #[.int .i64 but] 3 (0, 0))) (b2 : Wc.heap[B2]? = some (.cells #[.slice (some ⟨g, 0, none⟩) s.length s.length] 38 (0, 0))) (b3 : Wc.heap[B3]? = some (.cells #[.slice A3 s.length c3] 42 (0, 0)))
  (b4 : Wc.heap[B4]? = some (.cells #[.func (.func 63) #[] #[.pointer (some ⟨B1, 0, none⟩), .pointer (some ⟨B2, 0, none⟩), .pointer (some ⟨B3, 0, none⟩), .pointer (some ⟨B4, 0, none⟩), .pointer (some ⟨B5, 0, none⟩)]] 64 (0, 0))) (b5 : Wc.heap[B5]? = some (.cells #[.func (.func 56) #[] #[.pointer (some ⟨Bo, 0, none⟩)]] 64 (0, 0)))
  (hne : (B1 ≠ g ∧ B2 ≠ g ∧ B3 ≠ g ∧ B4 ≠ g ∧ B5 ≠ g) ∧ (B1 ≠ Bo ∧ B2 ≠ Bo ∧ B3 ≠ Bo ∧ B4 ≠ Bo ∧ B5 ≠ Bo))
  (hF : Kd.F (Kd.slice 3 (Kd.int .i64)) Wc (fun k => (k ≠ g ∧ k ≠ Bo) ∧ k < Wc.heap.size) A3 s.length s) (hn0 : n0 ≤ g) (M : Nat)
  (hJ : ∀ l W i b seen, GtAt g seen W → J l W → J l (W.setCell ⟨g, i, none⟩ (.bool b)))
  (hL : ∀ l (k : Int) W, l.length + 1 ≤ M → GtInv n0 w0 Wc g Bo W → J l W → Calls Try.prog 56 #[.int .i64 k, .pointer (some ⟨Bo, 0, none⟩)] W fun e W' => e = .returned (.tuple #[]) ∧ GtInv n0 w0 Wc g Bo W' ∧ W'.heap[g]? = W.heap[g]? ∧ J (l ++ [k]) W') :
  ∀ (n k : Nat) (seen : List Bool) (left : List Int) (W : World), k < s.length → seen.length = s.length → gtUn seen ≤ n → left.length + gtUn seen ≤ M → GtInv n0 w0 Wc g Bo W → GtAt g seen W → J left W →
  Calls Try.prog 63 #[.int .i64 (k : Int), .pointer (some ⟨B1, 0, none⟩), .pointer (some ⟨B2, 0, none⟩), .pointer (some ⟨B3, 0, none⟩), .pointer (some ⟨B4, 0, none⟩), .pointer (some ⟨B5, 0, none⟩)] W (GtPost_o n0 w0 Wc g Bo J (gtGo s but n (k : Int) (seen, left))) := by
 have BX : ∀ W, GtInv n0 w0 Wc g Bo W → Aside0 (W.cell? ⟨B1, 0, none⟩ = some (.int .i64 but) ∧ W.cell? ⟨B2, 0, none⟩ = some (.slice (some ⟨g, 0, none⟩) s.length s.length) ∧ W.cell? ⟨B3, 0, none⟩ = some (.slice A3 s.length c3) ∧ W.cell? ⟨B4, 0, none⟩ = some (.func (.func 63) #[] #[.pointer (some ⟨B1, 0, none⟩), .pointer (some ⟨B2, 0, none⟩), .pointer (some ⟨B3, 0, none⟩), .pointer (some ⟨B4, 0, none⟩), .pointer (some ⟨B5, 0, none⟩)]) ∧ W.cell? ⟨B5, 0, none⟩ = some (.func (.func 56) #[] #[.pointer (some ⟨Bo, 0, none⟩)])) := fun W hW =>
  ⟨blk_cell (blk_kept b1 hW.2 (by have := hne; intro h; omega)) 0, blk_cell (blk_kept b2 hW.2 (by have := hne; intro h; omega)) 0, blk_cell (blk_kept b3 hW.2 (by have := hne; intro h; omega)) 0, blk_cell (blk_kept b4 hW.2 (by have := hne; intro h; omega)) 0, blk_cell (blk_kept b5 hW.2 (by have := hne; intro h; omega)) 0⟩
 have HBX := Aside0.mk BX
 have HVAL := Aside0.mk hval
 have HF := Aside0.mk hF
 have HJ := Aside0.mk hJ
 have HL := Aside0.mk hL
 have HN0 := Aside0.mk hn0
 have HNE := Aside0.mk hne
 clear BX hval hF hJ hL hn0 hne b1 b2 b3 b4 b5
 intro n
 induction n with
 | zero =>
  intro k seen left W hk hs hu hM hI hG hJ0
  have hz := gt_zero seen (by omega) k (by omega)
  by_cases hb : (k : Int) = but
  ·have t1 : ((k : Int) == but) = true := beq_iff_eq.mpr hb
   obtain ⟨c1, c2, c3_, c4, c5⟩ := (HBX.out W hI).out
   have cg := hG.cell k (by omega)
   have fg : W.frozen? ⟨g, k, none⟩ = false := blk_frozen hG k
   have HI := Aside0.mk hI
   have HG := Aside0.mk hG
   have HJ0 := Aside0.mk hJ0
   have HU := Aside0.mk hu
   have HS := Aside0.mk hs
   have p1 : (0 : Int) ≤ (k : Int) := by omega
   have p2 : (k : Int) < (s.length : Int) := by omega
   clear hI hG hJ0 hu hs
   clear hz hb hM
   go_enter Try.func63, Try.ntmps63
   go_wp2
   refine bodyPost_ret (results_none rfl _ _ _) rfl ?_
   exact ⟨rfl, HI.out, by rw [gtGo]; exact HG.out, by rw [gtGo]; exact HJ0.out⟩
  ·have t1 : ((k : Int) == but) = false := beq_eq_false_iff_ne.mpr hb
   obtain ⟨c1, c2, c3_, c4, c5⟩ := (HBX.out W hI).out
   have cg := hG.cell k (by omega)
   have fg : W.frozen? ⟨g, k, none⟩ = false := blk_frozen hG k
   have HI := Aside0.mk hI
   have HG := Aside0.mk hG
   have HJ0 := Aside0.mk hJ0
   have HU := Aside0.mk hu
   have HS := Aside0.mk hs
   have p1 : (0 : Int) ≤ (k : Int) := by omega
   have p2 : (k : Int) < (s.length : Int) := by omega
   clear hI hG hJ0 hu hs
   rw [hz] at cg
   clear hz hb hM
   go_enter Try.func63, Try.ntmps63
   go_wp2
   refine bodyPost_ret (results_none rfl _ _ _) rfl ?_
   exact ⟨rfl, HI.out, by rw [gtGo]; exact HG.out, by rw [gtGo]; exact HJ0.out⟩
 | succ n ih =>
  have IH := Aside0.mk ih
  clear ih
  intro k seen left W hk hs hu hM hI hG hJ0
  by_cases hb : (k : Int) = but
  ·have e : gtGo s but (n + 1) (k : Int) (seen, left) = (seen, left) := by unfold gtGo; rw [if_pos (.inl hb)]
   have E := Aside0.mk e
   have t1 : ((k : Int) == but) = true := beq_iff_eq.mpr hb
   obtain ⟨c1, c2, c3_, c4, c5⟩ := (HBX.out W hI).out
   have cg := hG.cell k (by omega)
   have fg : W.frozen? ⟨g, k, none⟩ = false := blk_frozen hG k
   have HI := Aside0.mk hI
   have HG := Aside0.mk hG
   have HJ0 := Aside0.mk hJ0
   have HU := Aside0.mk hu
   have HS := Aside0.mk hs
   have p1 : (0 : Int) ≤ (k : Int) := by omega
   have p2 : (k : Int) < (s.length : Int) := by omega
   clear hI hG hJ0 hu hs
   clear hb e hM
   go_enter Try.func63, Try.ntmps63
   go_wp2
   refine bodyPost_ret (results_none rfl _ _ _) rfl ?_
   exact ⟨rfl, HI.out, by rw [E.out]; exact HG.out, by rw [E.out]; exact HJ0.out⟩
  have t1 : ((k : Int) == but) = false := beq_eq_false_iff_ne.mpr hb
  cases hsk : seen.getD k false with
  | true =>
   have e : gtGo s but (n + 1) (k : Int) (seen, left) = (seen, left) := by unfold gtGo; rw [if_pos (.inr (by simpa using hsk))]
   have E := Aside0.mk e
   obtain ⟨c1, c2, c3_, c4, c5⟩ := (HBX.out W hI).out
   have cg := hG.cell k (by omega)
   have fg : W.frozen? ⟨g, k, none⟩ = false := blk_frozen hG k
   have HI := Aside0.mk hI
   have HG := Aside0.mk hG
   have HJ0 := Aside0.mk hJ0
   have HU := Aside0.mk hu
   have HS := Aside0.mk hs
   have p1 : (0 : Int) ≤ (k : Int) := by omega
   have p2 : (k : Int) < (s.length : Int) := by omega
   clear hI hG hJ0 hu hs
   rw [hsk] at cg
   clear hb e hsk hM
   go_enter Try.func63, Try.ntmps63
   go_wp2
   refine bodyPost_ret (results_none rfl _ _ _) rfl ?_
   exact ⟨rfl, HI.out, by rw [E.out]; exact HG.out, by rw [E.out]; exact HJ0.out⟩
  | false =>
   obtain ⟨r, hr⟩ : ∃ r, s.getD k [] = r := ⟨_, rfl⟩
   have e : gtGo s but (n + 1) (k : Int) (seen, left) = ((r.foldl (fun q t => gtGo s but n t q) (seen.set k true, left)).1, (r.foldl (fun q t => gtGo s but n t q) (seen.set k true, left)).2 ++ [(k : Int)]) := by
    rw [← hr]
    conv => lhs; unfold gtGo
    rw [if_neg (by rintro (h | h); exact hb h; rw [show (((seen, left) : List Bool × List Int).1.getD ((k : Int)).toNat false) = seen.getD k false from rfl, hsk] at h; cases h)]
    rfl
   have E := Aside0.mk e
   have hrv : ∀ t ∈ r, 0 ≤ t ∧ t < (s.length : Int) := HVAL.out r (by rw [← hr, List.getD_eq_getElem?_getD, List.getElem?_eq_getElem hk]; exact List.getElem_mem hk)
   have HRV := Aside0.mk hrv
   have hu1 := gtUn_set_lt seen k (by omega) hsk
   have HU1 : Aside0 (gtUn (seen.set k true) ≤ n) := ⟨by omega⟩
   have hI1 : GtInv n0 w0 Wc g Bo (W.setCell ⟨g, k, none⟩ (.bool true)) := ⟨hI.1.setCell (p := ⟨g, k, none⟩) HN0.out _, hI.2.setCell (p := ⟨g, k, none⟩) (.inl (.inl rfl)) _⟩
   have hG1 := hG.set k true
   have hJ1 := HJ.out left W k true seen hG hJ0
   have HM1 : Aside0 (left.length + gtUn (seen.set k true) + 1 ≤ M) := ⟨by omega⟩
   obtain ⟨d1, d2, d3, d4, d5⟩ := (HBX.out _ hI1).out
   obtain ⟨ad, c, hA, hcl, hFK, hcc, _⟩ := Kd.F_get (gt_F_to HF.out hI1) ([] : List Int) (k : Int) (by omega) (by omega)
   rw [show s.getD ((k : Int)).toNat [] = r from hr] at hFK
   obtain ⟨A0, c0, rfl, hc0, hF0⟩ := Kd.FK_slice_open hFK
   have e1 := hcc 0 _ rfl
   simp only [Int.toNat_natCast] at e1
   subst hA
   replace e1 : (W.setCell ⟨g, k, none⟩ (.bool true)).cell? (ad.add k) = some (.slice A0 r.length c0) := by rw [← e1]; congr 1; show _ = ad.add (k * 1 + 0); rw [Nat.mul_one, Nat.add_zero]
   have HF0 := Aside0.mk hF0
   have HM := Aside0.mk (Kd.F_max hF0)
   have HI1 := Aside0.mk hI1
   have HG1 := Aside0.mk hG1
   have HJ1 := Aside0.mk hJ1
   obtain ⟨c1, c2, c3_, c4, c5⟩ := (HBX.out W hI).out
   have cg := hG.cell k (by omega)
   have fg : W.frozen? ⟨g, k, none⟩ = false := blk_frozen hG k
   have HI := Aside0.mk hI
   have HG := Aside0.mk hG
   have HJ0 := Aside0.mk hJ0
   have HU := Aside0.mk hu
   have HS := Aside0.mk hs
   have p1 : (0 : Int) ≤ (k : Int) := by omega
   have p2 : (k : Int) < (s.length : Int) := by omega
   clear hI hG hJ0 hu hs
   rw [hsk] at cg
   clear hM hI1 hG1 hJ1 hF0 hFK hcc hb e hsk hr hrv hu1
   go_enter Try.func63, Try.ntmps63
   go_wp2
   go_loopg [26] r.length (fun kq v26 w2 => ∃ j : Nat, v26 = .int .i64 (j : Int) ∧ Aside0 (j + kq = r.length) ∧ Aside0 (GtInv n0 w0 Wc g Bo w2) ∧ Aside0 (GtAt g ((r.take j).foldl (fun q t => gtGo s but n t q) (seen.set k true, left)).1 w2) ∧ Aside0 (J ((r.take j).foldl (fun q t => gtGo s but n t q) (seen.set k true, left)).2 w2) ∧ Aside0 (((r.take j).foldl (fun q t => gtGo s but n t q) (seen.set k true, left)).1.length = s.length ∧ gtUn ((r.take j).foldl (fun q t => gtGo s but n t q) (seen.set k true, left)).1 ≤ n) ∧ Aside0 (((r.take j).foldl (fun q t => gtGo s but n t q) (seen.set k true, left)).2.length + gtUn ((r.take j).foldl (fun q t => gtGo s but n t q) (seen.set k true, left)).1 + 1 ≤ M) ∧ Aside0 (Kd.F (Kd.int .i64) w2 (fun k => (k ≠ g ∧ k ≠ Bo) ∧ k < Wc.heap.size) A0 r.length r))
   case atStart => exact ⟨0, rfl, ⟨by omega⟩, HI1, HG1, HJ1, ⟨⟨by have := HS.out; simp; omega, HU1.out⟩⟩, HM1, HF0⟩
   case round =>
   obtain ⟨j, rfl, HJJ, HI2, HG2, HJ2, HU2, HM2, HF2⟩ := hrel
   obtain ⟨f1, f2, f3, f4, f5⟩ := (HBX.out wr HI2.out).out
   by_cases hlt : j < r.length
   ·have q1 : (0 : Int) ≤ (j : Int) := by omega
    have q2 : (j : Int) < (r.length : Int) := by omega
    obtain ⟨ad0, e0, hx⟩ := Kd.at_int (Kd.F_now HF2.out) (j : Int) q1 q2
    cases e0
    replace hx : wr.cell? (ad0.add j) = some (.int .i64 (rd r (j : Int))) := by simpa using hx
    have hrj : rd r (j : Int) = r[j] := by simp [rd, List.getD_eq_getElem?_getD, hlt]
    obtain ⟨h0, h1⟩ := HRV.out r[j] (List.getElem_mem hlt)
    obtain ⟨tn, htn⟩ : ∃ tn : Nat, r[j] = (tn : Int) := ⟨r[j].toNat, by omega⟩
    rw [hrj, htn] at hx
    have htk : r.take (j + 1) = r.take j ++ [(tn : Int)] := by rw [List.take_succ_eq_append_getElem hlt, htn]
    have HTK := Aside0.mk htk
    have HTN : Aside0 (tn < s.length) := ⟨by omega⟩
    have HLT := Aside0.mk hlt
    obtain ⟨st, hst⟩ : ∃ st, (r.take j).foldl (fun q t => gtGo s but n t q) (seen.set k true, left) = st := ⟨_, rfl⟩
    rw [hst] at HG2 HJ2 HU2 HM2
    have HST := Aside0.mk hst
    have HW := Aside0.mk (show wrap64 ((j : Int) + 1) = ((j + 1 : Nat) : Int) by have := HM.out; unfold wrap64; omega)
    have mj : r.length ≤ 9223372036854775807 := HM.out
    clear hrj h0 h1 htn htk hst hlt
    go_wp2_with (first | (go_at_call 63; ((with_reducible refine (IH.out tn st.1 st.2 wr HTN.out HU2.out.1 HU2.out.2 (by have := HM2.out; omega) HI2.out HG2.out HJ2.out).mono ?_); rintro e w' ⟨rfl, hI3, hG3, hJ3⟩; have HI3 := Aside0.mk hI3; have HG3 := Aside0.mk hG3; have HJ3 := Aside0.mk hJ3; clear hI3 hG3 hJ3)))
    go_roundg (gk - 1)
    case measure => have := HJJ.out; have := HLT.out; omega
    case rel => exact ⟨j + 1, by first | rfl | rw [HW.out], ⟨by have := HJJ.out; have := HLT.out; omega⟩, HI3, ⟨by rw [HTK.out, List.foldl_append, HST.out]; exact HG3.out⟩, ⟨by rw [HTK.out, List.foldl_append, HST.out]; exact HJ3.out⟩, ⟨by rw [HTK.out, List.foldl_append, HST.out]; have := gtGo_len s but n (tn : Int) st; exact ⟨this.1.trans HU2.out.1, Nat.le_trans this.2 HU2.out.2⟩⟩, ⟨by rw [HTK.out, List.foldl_append, HST.out]; have := gtGo_cnt s but HVAL.out n (tn : Int) st (by omega) (by have := HTN.out; omega) HU2.out.1; have := HM2.out; simp only [List.foldl_cons, List.foldl_nil]; omega⟩, ⟨gt_F_inv HF0.out HI1.out HI3.out⟩⟩
   ·have hj : j = r.length := by have := HJJ.out; omega
    subst hj
    rw [List.take_of_length_le (Nat.le_refl _)] at HG2 HJ2 HU2 HM2
    clear hlt
    go_wp2_with (first | (go_at_call 56; ((with_reducible refine (HL.out _ (k : Int) wr (by have := HM2.out; omega) HI2.out HJ2.out).mono ?_); rintro e w' ⟨rfl, hI3, hG3, hJ3⟩; have HI3 := Aside0.mk hI3; have HG3 := Aside0.mk (hG3.trans HG2.out); have HJ3 := Aside0.mk hJ3; clear hI3 hG3 hJ3)))
    go_end0
    exact ⟨rfl, HI3.out, by rw [E.out]; exact HG3.out, by rw [E.out]; exact HJ3.out⟩
theorem gt_heaps (w : World) (o1 o2 o3 o4 o5 o6 : Obj) : ∀ W, W = (((((w.alloc o1).alloc o2).alloc o3).alloc o4).alloc o5).alloc o6 → W.heap[w.heap.size]? = some o1 ∧ W.heap[w.heap.size + 1]? = some o2 ∧ W.heap[w.heap.size + 1 + 1]? = some o3 ∧
  W.heap[w.heap.size + 1 + 1 + 1]? = some o4 ∧ W.heap[w.heap.size + 1 + 1 + 1 + 1]? = some o5 ∧ W.heap[w.heap.size + 1 + 1 + 1 + 1 + 1]? = some o6 ∧ W.heap.size = w.heap.size + 1 + 1 + 1 + 1 + 1 + 1 ∧ Below w.heap.size w W := by
 rintro W rfl
 have h1 := blk_new (w.alloc o1) o2
 have h2 := blk_new ((w.alloc o1).alloc o2) o3
 have h3 := blk_new (((w.alloc o1).alloc o2).alloc o3) o4
 have h4 := blk_new ((((w.alloc o1).alloc o2).alloc o3).alloc o4) o5
 have h5 := blk_new (((((w.alloc o1).alloc o2).alloc o3).alloc o4).alloc o5) o6
 simp only [World.size_alloc] at h1 h2 h3 h4 h5
 exact ⟨blk_alloc (blk_alloc (blk_alloc (blk_alloc (blk_alloc (blk_new w o1) o2) o3) o4) o5) o6, blk_alloc (blk_alloc (blk_alloc (blk_alloc h1 o3) o4) o5) o6, blk_alloc (blk_alloc (blk_alloc h2 o4) o5) o6, blk_alloc (blk_alloc h3 o5) o6, blk_alloc h4 o6, h5, by simp,
  below_alloc (below_alloc (below_alloc (below_alloc (below_alloc (below_alloc (Below.refl _ _) _) _) _) _) _) _⟩
theorem gt_made (x : Value) (n : Nat) : madeCells #[x] n = (List.replicate n x).toArray := by
 apply Array.ext
 ·simp [madeCells]
 ·intro i h1 h2
  simp [madeCells, Nat.mod_one]
def gtAll (s : List (List Int)) (but : Int) : List Bool × List Int := gtGo s but s.length 0 (List.replicate s.length false, [])
theorem gt_info : (Try.prog.info? 4).map (fun i => (i.zero, i.size, i.bytes)) = some (some (.bool false), 1, 1) := by kernel_rfl
def GtEnd_w (n0 : Nat) (w0 : World) (J : List Int → World → Prop) (s : List (List Int)) (but : Int) (w : World) (e : Ending) (w' : World) : Prop := ∃ g, e = .returned (.slice (some ⟨g, 0, none⟩) s.length s.length) ∧ GtAt g (gtAll s but).1 w' ∧ J (gtAll s but).2 w' ∧ w.heap.size ≤ g ∧ Below n0 w0 w'
set_option maxHeartbeats 8000000 in
set_option maxRecDepth 100000 in
theorem gt_through_w (s : List (List Int)) (but : Int) (n0 : Nat) (w0 w : World) (A3 : Option Addr) (c3 : Nat) (J : List Int → World → Prop) (hval : ∀ l ∈ s, ∀ t ∈ l, 0 ≤ t ∧ t < (s.length : Int)) (hls : s.length ≤ 1099511627776)
  (hB : Below n0 w0 w) (hn : n0 ≤ w.heap.size) (hF : Kd.F (Kd.slice 3 (Kd.int .i64)) w (fun k => True) A3 s.length s)
  (hJ0 : J [] w) (hJA : ∀ l W o, J l W → J l (W.alloc o)) (hJ : ∀ l W g i b seen, w.heap.size ≤ g → GtAt g seen W → J l W → J l (W.setCell ⟨g, i, none⟩ (.bool b)))
  (hL : ∀ (Wc : World) (g : Nat), w.heap.size ≤ g → g < Wc.heap.size → Wc.heap.size = w.heap.size + 6 → ∀ l (k : Int) W, l.length + 1 ≤ s.length → GtInv n0 w0 Wc g g W → J l W → Calls Try.prog 55 #[.int .i64 k] W fun e W' => e = .returned (.tuple #[]) ∧ GtInv n0 w0 Wc g g W' ∧ W'.heap[g]? = W.heap[g]? ∧ J (l ++ [k]) W') :
  Calls Try.prog 54 #[.slice A3 s.length c3, .int .i64 but, .func (.func 55) #[] #[]] w (GtEnd_w n0 w0 J s but w) := by
 obtain ⟨i0, hi, hz0, hz1, hz2⟩ := info_parts gt_info
 have hmk : ∀ W : World, (Instr.makeSlice 38 (.int .i64 (s.length : Int)) (.int .i64 (s.length : Int))).run Try.prog W = .ok (.slice (some ⟨W.heap.size, 0, none⟩) s.length s.length) (W.alloc (.cells ((List.replicate s.length false).map Value.bool).toArray 4)) := by
  intro W
  have := run_make (P := Try.prog) W 38 4 i0 (.bool false) Try.underlying38 hi hz0 .i64 .i64 (s.length : Int) (s.length : Int) (by omega) (Int.le_refl _) (by rw [hz2]; omega) (by omega)
  rw [this, hz1, Int.toNat_natCast, Nat.mul_one]
  show Result.ok _ (W.alloc (.cells (madeCells #[.bool false] s.length) 4)) = _
  rw [gt_made, List.map_replicate]
 have HVAL_ := Aside0.mk hval
 have HLS_ := Aside0.mk hls
 have HB_ := Aside0.mk hB
 have HN_ := Aside0.mk hn
 have HF_ := Aside0.mk hF
 have HJ0_ := Aside0.mk hJ0
 have HJA_ := Aside0.mk hJA
 have HJ_ := Aside0.mk hJ
 have HL_ := Aside0.mk hL
 clear hi hz0 hz1 hz2 hval hls hB hn hF hJ0 hJA hJ hL
 go_enter Try.func54, Try.ntmps54
 go_upto_region 4 with (fail)
 have hW := gt_heaps w (.cells #[.slice A3 s.length c3] 42) (.cells #[.int .i64 but] 3) (.cells #[.func (.func 55) #[] #[]] 64) (.cells (Array.replicate s.length (.bool false)) 4) (.cells #[.slice (some ⟨w.heap.size + 1 + 1 + 1, 0, none⟩) s.length s.length] 38) (.cells #[.func (.func 63) #[] #[.pointer (some ⟨w.heap.size + 1, 0, none⟩), .pointer (some ⟨w.heap.size + 1 + 1 + 1 + 1, 0, none⟩), .pointer (some ⟨w.heap.size, 0, none⟩), .pointer (some ⟨w.heap.size + 1 + 1 + 1 + 1 + 1, 0, none⟩), .pointer (some ⟨w.heap.size + 1 + 1, 0, none⟩)]] 64)
 skip
 obtain ⟨W4, hW4⟩ : ∃ W4, ((((((w.alloc (.cells #[.slice A3 s.length c3] 42)).alloc (.cells #[.int .i64 but] 3)).alloc (.cells #[.func (.func 55) #[] #[]] 64)).alloc (.cells (Array.replicate s.length (.bool false)) 4)).alloc (.cells #[.slice (some ⟨w.heap.size + 1 + 1 + 1, 0, none⟩) s.length s.length] 38)).alloc (.cells #[.func (.func 63) #[] #[.pointer (some ⟨w.heap.size + 1, 0, none⟩), .pointer (some ⟨w.heap.size + 1 + 1 + 1 + 1, 0, none⟩), .pointer (some ⟨w.heap.size, 0, none⟩), .pointer (some ⟨w.heap.size + 1 + 1 + 1 + 1 + 1, 0, none⟩), .pointer (some ⟨w.heap.size + 1 + 1, 0, none⟩)]] 64)) = W4 := ⟨_, rfl⟩
 replace hW := hW W4 hW4.symm
 rw [hW4]
 obtain ⟨x0, x1, x2, x3, x4, x5, hz, hbW⟩ := hW
 have X0 := Aside0.mk x0
 have X1 := Aside0.mk x1
 have X2 := Aside0.mk x2
 have X4 := Aside0.mk x4
 have X5 := Aside0.mk x5
 have HZ := Aside0.mk hz
 have HBW := Aside0.mk hbW
 have HG : Aside0 (GtAt (w.heap.size + 1 + 1 + 1) (List.replicate s.length false) W4) := ⟨by unfold GtAt; rw [x3]; simp⟩
 have HJ4 : Aside0 (J [] W4) := ⟨by rw [← hW4]; exact HJA_.out _ _ _ (HJA_.out _ _ _ (HJA_.out _ _ _ (HJA_.out _ _ _ (HJA_.out _ _ _ (HJA_.out _ _ _ HJ0_.out)))))⟩
 have HB4 : Aside0 (Below n0 w0 W4) := ⟨HB_.out.trans (hbW.mono HN_.out)⟩
 have y0 : W4.cell? ⟨w.heap.size, 0, none⟩ = some (.slice A3 s.length c3) := blk_cell x0 0
 have y5 : W4.cell? ⟨w.heap.size + 1 + 1 + 1 + 1 + 1, 0, none⟩ = some (.func (.func 63) #[] #[.pointer (some ⟨w.heap.size + 1, 0, none⟩), .pointer (some ⟨w.heap.size + 1 + 1 + 1 + 1, 0, none⟩), .pointer (some ⟨w.heap.size, 0, none⟩), .pointer (some ⟨w.heap.size + 1 + 1 + 1 + 1 + 1, 0, none⟩), .pointer (some ⟨w.heap.size + 1 + 1, 0, none⟩)]) := blk_cell x5 0
 have y4 : W4.cell? ⟨w.heap.size + 1 + 1 + 1 + 1, 0, none⟩ = some (.slice (some ⟨w.heap.size + 1 + 1 + 1, 0, none⟩) s.length s.length) := blk_cell x4 0
 clear x0 x1 x2 x3 x4 x5 hz hbW hW4 hmk
 by_cases hs0 : 0 < s.length
 ·have t1 : decide (0 < s.length) = true := decide_eq_true hs0
  have hF4 : Kd.F (Kd.slice 3 (Kd.int .i64)) W4 (fun k => (k ≠ w.heap.size + 1 + 1 + 1 ∧ k ≠ (w.heap.size + 1 + 1 + 1)) ∧ k < W4.heap.size) A3 s.length s := Kd.F_mono (Kd.F_below (Kd.F_bound HF_.out) HBW.out) (fun k hk => ⟨⟨by have := hk.2; omega, by have := hk.2; omega⟩, by have := hk.2; have := HZ.out; omega⟩)
  have HF4 := Aside0.mk hF4
  clear hF4
  have hin := gt_into_w s but n0 w0 W4 (w.heap.size + 1) (w.heap.size + 1 + 1 + 1 + 1) w.heap.size (w.heap.size + 1 + 1 + 1 + 1 + 1) (w.heap.size + 1 + 1) (w.heap.size + 1 + 1 + 1) (w.heap.size + 1 + 1 + 1) A3 c3 J HVAL_.out X1.out X4.out X0.out X5.out X2.out (by omega) HF4.out (by have := HN_.out; omega) s.length (fun l W i b sn hg hj => HJ_.out l W _ i b sn (by omega) hg hj) (HL_.out W4 (w.heap.size + 1 + 1 + 1) (by omega) (by have := HZ.out; omega) (by have := HZ.out; omega)) s.length 0 (List.replicate s.length false) [] W4 hs0 (by simp) (by unfold gtUn; simp) (by unfold gtUn; simp) ⟨HB4.out, Kept.refl _ _⟩ HG.out HJ4.out
  rw [show (((0 : Nat) : Int)) = 0 from rfl] at hin
  have HIN := Aside0.mk hin
  clear hin
  go_wp2_with (first | (go_at_call 63; ((with_reducible refine HIN.out.mono ?_); rintro e w' ⟨rfl, hI, hG, hJ⟩; have z4 : w'.cell? ⟨w.heap.size + 1 + 1 + 1 + 1, 0, none⟩ = some (.slice (some ⟨w.heap.size + 1 + 1 + 1, 0, none⟩) s.length s.length) := blk_cell (blk_kept X4.out hI.2 (by intro h; omega)) 0; have HI := Aside0.mk hI; have HG' := Aside0.mk hG; have HJ' := Aside0.mk hJ; clear hI hG hJ)))
  go_ret
  exact ⟨w.heap.size + 1 + 1 + 1, rfl, HG'.out, HJ'.out, by omega, HI.out.1⟩
 ·have t1 : decide (0 < s.length) = false := decide_eq_false hs0
  have e0 : s = [] := List.eq_nil_of_length_eq_zero (by omega)
  have HG0 : Aside0 (GtAt (w.heap.size + 1 + 1 + 1) (gtAll s but).1 W4) := ⟨by have := HG.out; rw [e0] at this ⊢; exact this⟩
  have HJ0' : Aside0 (J (gtAll s but).2 W4) := ⟨by have := HJ4.out; rw [e0]; exact this⟩
  clear e0
  go_wp2
  go_ret
  exact ⟨w.heap.size + 1 + 1 + 1, rfl, HG0.out, HJ0'.out, by omega, HB4.out⟩
def GtEnd_o (n0 : Nat) (w0 : World) (J : List Int → World → Prop) (s : List (List Int)) (but : Int) (w : World) (e : Ending) (w' : World) : Prop := ∃ g, e = .returned (.slice (some ⟨g, 0, none⟩) s.length s.length) ∧ GtAt g (gtAll s but).1 w' ∧ J (gtAll s but).2 w' ∧ w.heap.size ≤ g ∧ Below n0 w0 w'
set_option maxHeartbeats 8000000 in
set_option maxRecDepth 100000 in
theorem gt_through_o (s : List (List Int)) (but : Int) (n0 : Nat) (w0 w : World) (Bo : Nat) (A3 : Option Addr) (c3 : Nat) (J : List Int → World → Prop) (hval : ∀ l ∈ s, ∀ t ∈ l, 0 ≤ t ∧ t < (s.length : Int)) (hls : s.length ≤ 1099511627776)
  (hB : Below n0 w0 w) (hn : n0 ≤ w.heap.size) (hBo : Bo < w.heap.size) (hF : Kd.F (Kd.slice 3 (Kd.int .i64)) w (fun k => k ≠ Bo) A3 s.length s)
  (hJ0 : J [] w) (hJA : ∀ l W o, J l W → J l (W.alloc o)) (hJ : ∀ l W g i b seen, w.heap.size ≤ g → GtAt g seen W → J l W → J l (W.setCell ⟨g, i, none⟩ (.bool b)))
  (hL : ∀ (Wc : World) (g : Nat), w.heap.size ≤ g → g < Wc.heap.size → Wc.heap.size = w.heap.size + 6 → ∀ l (k : Int) W, l.length + 1 ≤ s.length → GtInv n0 w0 Wc g Bo W → J l W → Calls Try.prog 56 #[.int .i64 k, .pointer (some ⟨Bo, 0, none⟩)] W fun e W' => e = .returned (.tuple #[]) ∧ GtInv n0 w0 Wc g Bo W' ∧ W'.heap[g]? = W.heap[g]? ∧ J (l ++ [k]) W') :
  Calls Try.prog 54 #[.slice A3 s.length c3, .int .i64 but, .func (.func 56) #[] #[.pointer (some ⟨Bo, 0, none⟩)]] w (GtEnd_o n0 w0 J s but w) := by
 obtain ⟨i0, hi, hz0, hz1, hz2⟩ := info_parts gt_info
 have hmk : ∀ W : World, (Instr.makeSlice 38 (.int .i64 (s.length : Int)) (.int .i64 (s.length : Int))).run Try.prog W = .ok (.slice (some ⟨W.heap.size, 0, none⟩) s.length s.length) (W.alloc (.cells ((List.replicate s.length false).map Value.bool).toArray 4)) := by
  intro W
  have := run_make (P := Try.prog) W 38 4 i0 (.bool false) Try.underlying38 hi hz0 .i64 .i64 (s.length : Int) (s.length : Int) (by omega) (Int.le_refl _) (by rw [hz2]; omega) (by omega)
  rw [this, hz1, Int.toNat_natCast, Nat.mul_one]
  show Result.ok _ (W.alloc (.cells (madeCells #[.bool false] s.length) 4)) = _
  rw [gt_made, List.map_replicate]
 have HVAL_ := Aside0.mk hval
 have HLS_ := Aside0.mk hls
 have HB_ := Aside0.mk hB
 have HN_ := Aside0.mk hn
 have HF_ := Aside0.mk hF
 have HJ0_ := Aside0.mk hJ0
 have HJA_ := Aside0.mk hJA
 have HJ_ := Aside0.mk hJ
 have HL_ := Aside0.mk hL
 have HBO_ := Aside0.mk hBo
 clear hi hz0 hz1 hz2 hval hls hB hn hF hJ0 hJA hJ hL hBo
 go_enter Try.func54, Try.ntmps54
 go_upto_region 4 with (fail)
 have hW := gt_heaps w (.cells #[.slice A3 s.length c3] 42) (.cells #[.int .i64 but] 3) (.cells #[.func (.func 56) #[] #[.pointer (some ⟨Bo, 0, none⟩)]] 64) (.cells (Array.replicate s.length (.bool false)) 4) (.cells #[.slice (some ⟨w.heap.size + 1 + 1 + 1, 0, none⟩) s.length s.length] 38) (.cells #[.func (.func 63) #[] #[.pointer (some ⟨w.heap.size + 1, 0, none⟩), .pointer (some ⟨w.heap.size + 1 + 1 + 1 + 1, 0, none⟩), .pointer (some ⟨w.heap.size, 0, none⟩), .pointer (some ⟨w.heap.size + 1 + 1 + 1 + 1 + 1, 0, none⟩), .pointer (some ⟨w.heap.size + 1 + 1, 0, none⟩)]] 64)
 skip
 obtain ⟨W4, hW4⟩ : ∃ W4, ((((((w.alloc (.cells #[.slice A3 s.length c3] 42)).alloc (.cells #[.int .i64 but] 3)).alloc (.cells #[.func (.func 56) #[] #[.pointer (some ⟨Bo, 0, none⟩)]] 64)).alloc (.cells (Array.replicate s.length (.bool false)) 4)).alloc (.cells #[.slice (some ⟨w.heap.size + 1 + 1 + 1, 0, none⟩) s.length s.length] 38)).alloc (.cells #[.func (.func 63) #[] #[.pointer (some ⟨w.heap.size + 1, 0, none⟩), .pointer (some ⟨w.heap.size + 1 + 1 + 1 + 1, 0, none⟩), .pointer (some ⟨w.heap.size, 0, none⟩), .pointer (some ⟨w.heap.size + 1 + 1 + 1 + 1 + 1, 0, none⟩), .pointer (some ⟨w.heap.size + 1 + 1, 0, none⟩)]] 64)) = W4 := ⟨_, rfl⟩
 replace hW := hW W4 hW4.symm
 rw [hW4]
 obtain ⟨x0, x1, x2, x3, x4, x5, hz, hbW⟩ := hW
 have X0 := Aside0.mk x0
 have X1 := Aside0.mk x1
 have X2 := Aside0.mk x2
 have X4 := Aside0.mk x4
 have X5 := Aside0.mk x5
 have HZ := Aside0.mk hz
 have HBW := Aside0.mk hbW
 have HG : Aside0 (GtAt (w.heap.size + 1 + 1 + 1) (List.replicate s.length false) W4) := ⟨by unfold GtAt; rw [x3]; simp⟩
 have HJ4 : Aside0 (J [] W4) := ⟨by rw [← hW4]; exact HJA_.out _ _ _ (HJA_.out _ _ _ (HJA_.out _ _ _ (HJA_.out _ _ _ (HJA_.out _ _ _ (HJA_.out _ _ _ HJ0_.out)))))⟩
 have HB4 : Aside0 (Below n0 w0 W4) := ⟨HB_.out.trans (hbW.mono HN_.out)⟩
 have y0 : W4.cell? ⟨w.heap.size, 0, none⟩ = some (.slice A3 s.length c3) := blk_cell x0 0
 have y5 : W4.cell? ⟨w.heap.size + 1 + 1 + 1 + 1 + 1, 0, none⟩ = some (.func (.func 63) #[] #[.pointer (some ⟨w.heap.size + 1, 0, none⟩), .pointer (some ⟨w.heap.size + 1 + 1 + 1 + 1, 0, none⟩), .pointer (some ⟨w.heap.size, 0, none⟩), .pointer (some ⟨w.heap.size + 1 + 1 + 1 + 1 + 1, 0, none⟩), .pointer (some ⟨w.heap.size + 1 + 1, 0, none⟩)]) := blk_cell x5 0
 have y4 : W4.cell? ⟨w.heap.size + 1 + 1 + 1 + 1, 0, none⟩ = some (.slice (some ⟨w.heap.size + 1 + 1 + 1, 0, none⟩) s.length s.length) := blk_cell x4 0
 clear x0 x1 x2 x3 x4 x5 hz hbW hW4 hmk
 by_cases hs0 : 0 < s.length
 ·have t1 : decide (0 < s.length) = true := decide_eq_true hs0
  have hF4 : Kd.F (Kd.slice 3 (Kd.int .i64)) W4 (fun k => (k ≠ w.heap.size + 1 + 1 + 1 ∧ k ≠ Bo) ∧ k < W4.heap.size) A3 s.length s := Kd.F_mono (Kd.F_below (Kd.F_bound HF_.out) HBW.out) (fun k hk => ⟨⟨by have := hk.2; omega, hk.1⟩, by have := hk.2; have := HZ.out; omega⟩)
  have HF4 := Aside0.mk hF4
  clear hF4
  have hin := gt_into_o s but n0 w0 W4 (w.heap.size + 1) (w.heap.size + 1 + 1 + 1 + 1) w.heap.size (w.heap.size + 1 + 1 + 1 + 1 + 1) (w.heap.size + 1 + 1) (w.heap.size + 1 + 1 + 1) Bo A3 c3 J HVAL_.out X1.out X4.out X0.out X5.out X2.out (by have := HBO_.out; omega) HF4.out (by have := HN_.out; omega) s.length (fun l W i b sn hg hj => HJ_.out l W _ i b sn (by omega) hg hj) (HL_.out W4 (w.heap.size + 1 + 1 + 1) (by omega) (by have := HZ.out; omega) (by have := HZ.out; omega)) s.length 0 (List.replicate s.length false) [] W4 hs0 (by simp) (by unfold gtUn; simp) (by unfold gtUn; simp) ⟨HB4.out, Kept.refl _ _⟩ HG.out HJ4.out
  rw [show (((0 : Nat) : Int)) = 0 from rfl] at hin
  have HIN := Aside0.mk hin
  clear hin
  go_wp2_with (first | (go_at_call 63; ((with_reducible refine HIN.out.mono ?_); rintro e w' ⟨rfl, hI, hG, hJ⟩; have z4 : w'.cell? ⟨w.heap.size + 1 + 1 + 1 + 1, 0, none⟩ = some (.slice (some ⟨w.heap.size + 1 + 1 + 1, 0, none⟩) s.length s.length) := blk_cell (blk_kept X4.out hI.2 (by have := HBO_.out; intro h; omega)) 0; have HI := Aside0.mk hI; have HG' := Aside0.mk hG; have HJ' := Aside0.mk hJ; clear hI hG hJ)))
  go_ret
  exact ⟨w.heap.size + 1 + 1 + 1, rfl, HG'.out, HJ'.out, by omega, HI.out.1⟩
 ·have t1 : decide (0 < s.length) = false := decide_eq_false hs0
  have e0 : s = [] := List.eq_nil_of_length_eq_zero (by omega)
  have HG0 : Aside0 (GtAt (w.heap.size + 1 + 1 + 1) (gtAll s but).1 W4) := ⟨by have := HG.out; rw [e0] at this ⊢; exact this⟩
  have HJ0' : Aside0 (J (gtAll s but).2 W4) := ⟨by have := HJ4.out; rw [e0]; exact this⟩
  clear e0
  go_wp2
  go_ret
  exact ⟨w.heap.size + 1 + 1 + 1, rfl, HG0.out, HJ0'.out, by omega, HB4.out⟩
theorem gt_own {g n base : Nat} {seen : List Bool} {W : World} (h : GtAt g seen W) (hn : seen.length = n) (hb : base ≤ g) (hm : n ≤ 1099511627776) : Kd.R Kd.bool 4 W base (fun _ => True) (.slice (some ⟨g, 0, none⟩) n n) seen := by
 subst hn
 refine Kd.R_of_own (enc := Value.bool) ⟨by simp [encs], .inr ⟨g, seen.length, _, rfl, hb, h, Nat.le_refl _, by unfold maxLen; omega, by simp, ?_⟩⟩ (fun _ _ => trivial)
 simp [encs, List.take_of_length_le]
theorem gtAll_len (s : List (List Int)) (but : Int) : (gtAll s but).1.length = s.length := (gtGo_len s but s.length 0 _).1.trans (by simp)
set_option maxHeartbeats 4000000 in
theorem gt_leftW (k : Int) (W : World) : Calls Try.prog 55 #[.int .i64 k] W fun e W' => e = .returned (.tuple #[]) ∧ W' = W := by
 go_enter Try.func55, Try.ntmps55
 go_wp2
 go_end0
 exact ⟨rfl, rfl⟩
end Go.Proofs.Ytlhaopjdpkhogaa.P

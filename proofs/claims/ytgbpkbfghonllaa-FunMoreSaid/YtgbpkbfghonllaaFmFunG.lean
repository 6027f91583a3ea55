/- A part of it. -/
import Derived.Test.YtgbpkbfghonllaaFmFunF
import Derived.Test.YtgbpkbfghonllaaFmM21
import Derived.Test.YtgbpkbfghonllaaFmP6
import Derived.Test.YtgbpkbfghonllaaFmP10
import Derived.Outline
set_option linter.unusedVariables false
set_option linter.unusedSimpArgs false
namespace Go.Proofs.Ytgbpkbfghonllaa.P
open Go Go.RowKit Go.Proofs.YtgbpkbfghonllaaW.PrintWords Go.Proofs.YtgbpkbfghonllaaW.PrintLast Go.Proofs.YtgbpkbfghonllaaW.PrintMore Go.Proofs.Ytgbpkbfghonllaa.Pure
attribute [local go_sem] max2_int min2_int max_two min_two
theorem results_c1 {P : Program} {fn : Func} {p : Tmp} {ty : TypeId} (h : fn.results = #[.cell p ty]) (tmps : Array Value) (w : World) (g : Nat) (t : TypeId) (cs : Array Value) (fr : Nat × Nat) (d : TypeDesc)
  (hp : tmps.getD p undef = .pointer (some ⟨g, 0, none⟩)) (hg : w.heap[g]? = some (.cells cs t fr))
  (hu : P.underlying ty = some d) (hd : (match d with | .struct _ | .array _ _ => true | _ => false) = true) (hi : (P.info? ty).map (·.size) = some cs.size) :
  (results fn tmps).run P w = .ok (.agg cs) w := by
 have hp' : tmps[p]?.getD undef = .pointer (some ⟨g, 0, none⟩) := by simpa using hp
 simp [results, h, hp', asAddr, run_loadVar_row w g t ty cs fr d hg hu hd hi]
def insV (L : LA) (k : Nat) (b : List S42) (j : Nat) : Int := if !formV b j then 5 else if !thereV L k (b.getD j z42) then 2 else if !fitsV L (b.getD j z42) then 11 else 0
def scanI (L : LA) (k : Nat) (b : List S42) : Nat → Nat → Int → Int × Int
 | 0, _, last => (last, 0)
 | d + 1, j, last => if insV L k b j ≠ 0 then ((j : Int), insV L k b j) else scanI L k b d (j + 1) (j : Int)
def scanB (L : LA) (k : Nat) (b : List S42) : Int × Int := if b.length = 0 then (-1, 5) else scanI L k b b.length 0 (-1)
def scanBs (L : LA) : Nat → Nat → Int × Int → Int × Int × Int
 | 0, _, last => (last.1, last.2, 0)
 | d + 1, k, last => if (scanB L k (L.bl.getD k [])).2 ≠ 0 then ((k : Int), (scanB L k (L.bl.getD k [])).1, (scanB L k (L.bl.getD k [])).2) else scanBs L d (k + 1) ((k : Int), (scanB L k (L.bl.getD k [])).1)
def predStep (pr : List Int) (t : Int) : List Int := if t < (pr.length : Int) then pr.set t.toNat (wrap64 (rd pr t + 1)) else pr
def predB (pr : List Int) (b : List S42) : List Int := if b.length = 0 then pr else (targetsI (b.getD (b.length - 1) z42)).foldl predStep pr
def predsV (bl : List (List S42)) : List Int := bl.foldl predB (List.replicate bl.length 0)
theorem predStep_len (pr : List Int) (t : Int) : (predStep pr t).length = pr.length := by unfold predStep; split <;> simp
theorem predFold_len (l : List Int) : ∀ pr : List Int, (l.foldl predStep pr).length = pr.length := by
 induction l with
 | nil => intro pr; rfl
 | cons t l ih => intro pr; exact (ih _).trans (predStep_len pr t)
theorem predB_len (pr : List Int) (b : List S42) : (predB pr b).length = pr.length := by
 unfold predB
 split
 ·rfl
 ·exact predFold_len _ _
theorem targets_pos (x : S42) : ∀ t ∈ targetsI x, 0 ≤ t := by
 unfold targetsI targetsV
 split
 ·rename_i h
  unfold rr_rightV rr_tailV at h
  simp only [Bool.and_eq_true] at h
  have h2 := h.2
  split
  ·rename_i h41
   rw [if_neg (by omega), if_neg (by omega), if_neg (by omega)] at h2
   split at h2
   ·cases h2
   ·(repeat (first | rw [if_neg (by omega)] at h2 | rw [if_pos (by omega)] at h2))
    have := of_decide_eq_true h2
    intro t ht
    simp only [List.mem_singleton] at ht
    omega
  ·split
   ·rename_i h41 h42
    rw [if_neg (by omega), if_neg (by omega), if_neg (by omega)] at h2
    split at h2
    ·cases h2
    ·(repeat (first | rw [if_neg (by omega)] at h2 | rw [if_pos (by omega)] at h2))
     have := of_decide_eq_true h2
     intro t ht
     simp only [List.mem_cons, List.not_mem_nil, or_false] at ht
     omega
   ·intro t ht; cases ht
 ·intro t ht; cases ht
theorem there_uses (L : LA) (k : Nat) (x : S42) (h : thereV L k x = true) : (∀ u ∈ usesI x, u < (L.rg.length : Int)) ∧ defI x < (L.rg.length : Int) ∧ (x.f0 = 39 → x.f5 < (L.fs.length : Int)) := by
 unfold thereV at h
 simp only [Bool.and_eq_true] at h
 obtain ⟨⟨⟨h1, h2⟩, _⟩, h4⟩ := h
 rw [List.all_eq_true] at h2
 refine ⟨fun u hu => of_decide_eq_true (h2 u hu), of_decide_eq_true h1, fun h39 => ?_⟩
 rw [if_pos h39] at h4
 exact of_decide_eq_true h4
theorem right_parts (x : S42) (h : rightI x = true) : (3 ≤ x.f0 ∧ x.f0 ≤ 45 ∧ ¬ (16 < x.f0 ∧ x.f0 < 20)) ∧ 0 ≤ x.f1 ∧ 0 ≤ x.f2 ∧ 0 ≤ x.f3 ∧ 0 ≤ x.f4 ∧ 0 ≤ x.f7 ∧ (∀ u ∈ x.f8, 0 ≤ u) ∧ rr_tailV x.f0 x.f5 x.f6 x.f8.length = true := by
 unfold rightI rr_rightV at h
 simp only [Bool.and_eq_true, decide_eq_true_eq, List.all_eq_true] at h
 obtain ⟨⟨⟨⟨⟨⟨⟨h0, h1⟩, h2⟩, h3⟩, h4⟩, h7⟩, h8⟩, ht⟩ := h
 have f : ∀ (q : Bool) (n : Int), rr_fitsV q n = true → 0 ≤ n := by
  intro q n hq
  unfold rr_fitsV at hq
  simp only [Bool.or_eq_true, Bool.and_eq_true, decide_eq_true_eq] at hq
  omega
 exact ⟨h0, f _ _ h1, f _ _ h2, f _ _ h3, f _ _ h4, f _ _ h7, h8, ht⟩
theorem right_call (x : S42) (h : rightI x = true) (h39 : x.f0 = 39) : 0 ≤ x.f5 := by
 have ht := (right_parts x h).2.2.2.2.2.2.2
 unfold rr_tailV at ht
 rw [if_pos h39] at ht
 exact (of_decide_eq_true ht).1
theorem uses_pos (x : S42) (h : rightI x = true) : ∀ u ∈ usesI x, 0 ≤ u := by
 obtain ⟨_, _, ha, hb, hc, _, hl, _⟩ := right_parts x h
 unfold usesI usesV
 rw [if_pos (show rr_rightV _ _ _ _ _ _ _ _ _ = true from h)]
 unfold usV
 intro u hu
 simp only [List.mem_append] at hu
 rcases hu with ((hu | hu) | hu) | hu
 ·split at hu
  ·rw [List.mem_singleton.1 hu]; exact ha
  ·cases hu
 ·split at hu
  ·rw [List.mem_singleton.1 hu]; exact hb
  ·cases hu
 ·split at hu
  ·rw [List.mem_singleton.1 hu]; exact hc
  ·cases hu
 ·exact hl u hu
theorem uses_has (x : S42) (h : rightI x = true) (ho : x.f0 = 3 ∨ x.f0 = 4 ∨ x.f0 = 23) : x.f2 ∈ usesI x := by
 unfold usesI usesV
 rw [if_pos (show rr_rightV _ _ _ _ _ _ _ _ _ = true from h)]
 unfold usV
 have : (Go.bits .and .i64 (hasV x.f0) 2 != 0) = true := by
  rcases ho with ho | ho | ho <;> rw [ho] <;> decide
 rw [this]
 simp
theorem def_phi (x : S42) (h : rightI x = true) (h44 : x.f0 = 44) : defI x = x.f1 ∧ 0 ≤ x.f1 := by
 refine ⟨?_, (right_parts x h).2.1⟩
 unfold defI defV
 rw [show rr_rightV _ _ _ _ _ _ _ _ _ = true from h, h44]
 rfl
theorem fits_needs (L : LA) (k : Nat) (x : S42) (hR : rightI x = true) (hT : thereV L k x = true) : (3 ≤ x.f0 ∧ x.f0 ≤ 45 ∧ ¬ (16 < x.f0 ∧ x.f0 < 20)) ∧ (x.f0 = 3 ∨ x.f0 = 4 ∨ x.f0 = 23 → 0 ≤ x.f2 ∧ x.f2 < (L.rg.length : Int)) ∧ (x.f0 = 44 → 0 ≤ x.f1 ∧ x.f1 < (L.rg.length : Int)) ∧ (x.f0 = 39 → 0 ≤ x.f5 ∧ x.f5 < (L.fs.length : Int)) ∧ (∀ i, i < (usesI x).length → 0 ≤ (usesI x).getD i 0 ∧ (usesI x).getD i 0 < (L.rg.length : Int)) ∧ defI x < (L.rg.length : Int) := by
 obtain ⟨hu, hd, h39⟩ := there_uses L k x hT
 have hr := right_range _ _ _ _ _ _ _ _ _ hR
 have hp := uses_pos x hR
 refine ⟨hr, fun h => ?_, fun h => ?_, fun h => ⟨right_call x hR h, h39 h⟩, fun i hi => ?_, hd⟩
 ·have hm := uses_has x hR h
  exact ⟨hp _ hm, hu _ hm⟩
 ·have hv := def_phi x hR h
  rw [hv.1] at hd
  exact ⟨hv.2, hd⟩
 ·have hm : (usesI x).getD i 0 ∈ usesI x := by
   rw [List.getD_eq_getElem?_getD, List.getElem?_eq_getElem hi]
   exact List.getElem_mem hi
  exact ⟨hp _ hm, hu _ hm⟩
section
variable {L : LA} {W : World} {g2 g11 g12 g13 g14 : Nat} {Ax : Option Addr} {cx : Nat} {b : List S42} {j k : Nat} {x : S42} {A8 : Option Addr} {c8 : Nat}
set_option maxHeartbeats 4000000 in
theorem clo1_at (h2 : W.heap[g2]? = some (.cells #[.slice L.Af L.fs.length L.cf, .int .i64 L.mn, .slice L.As L.ss.length L.cs, .string L.nm, .int .i64 L.ps, .int .i64 L.rt, .slice L.Ar L.rg.length L.cr, .slice L.Ab L.bl.length L.cb, .slice L.Aq L.pr.length L.cq] 74 (0, 0))) (h12 : W.heap[g12]? = some (.cells #[.slice Ax b.length cx] 40 (0, 0))) (h13 : W.heap[g13]? = some (.cells #[.int .i64 (j : Int)] 3 (0, 0))) (hb : k42.C W Ax b.length b) (hc : b.length ≤ cx) (ha : j < b.length) (hl : ∀ i, i < b.length → (b.getD i z42).f8.length < 100000) (e : Int) (he : (if formV b j then 0 else 5) = e) :
  Calls Try.prog 51 #[.pointer (some ⟨g2, 0, none⟩), .pointer (some ⟨g12, 0, none⟩), .pointer (some ⟨g13, 0, none⟩)] W fun r w' => r = .returned (.int .i64 e) ∧ Below W.heap.size W w' := by
 have HC := Aside0.mk (form_at L Ax cx b j W hb hc ha hl)
 rw [he] at HC
 have l0 := blk_cell h2 0
 have l1 := blk_cell h2 1
 have l2 := blk_cell h2 2
 have l3 := blk_cell h2 3
 have l4 := blk_cell h2 4
 have l5 := blk_cell h2 5
 have l6 := blk_cell h2 6
 have l7 := blk_cell h2 7
 have l8 := blk_cell h2 8
 have z0 := blk_cell h12 0
 have y0 := blk_cell h13 0
 simp only [List.getElem?_toArray, List.getElem?_cons_zero, List.getElem?_cons_succ] at l0 l1 l2 l3 l4 l5 l6 l7 l8 z0 y0
 clear h2 h12 h13 hb hc ha hl he
 go_enter Try.func51, Try.ntmps51
 go_wp2_with ((go_at_call 52; ((with_reducible refine HC.out.mono ?_); rintro r w' ⟨rfl, hb⟩; have HB := Aside0.mk hb; clear hb)))
 go_ret
 exact ⟨rfl, HB.out⟩
set_option maxHeartbeats 4000000 in
theorem clo2_at (h2 : W.heap[g2]? = some (.cells #[.slice L.Af L.fs.length L.cf, .int .i64 L.mn, .slice L.As L.ss.length L.cs, .string L.nm, .int .i64 L.ps, .int .i64 L.rt, .slice L.Ar L.rg.length L.cr, .slice L.Ab L.bl.length L.cb, .slice L.Aq L.pr.length L.cq] 74 (0, 0))) (h11 : W.heap[g11]? = some (.cells #[.int .i64 (k : Int)] 3 (0, 0))) (h14 : W.heap[g14]? = some (.cells #[.int .i64 x.f0, .int .i64 x.f1, .int .i64 x.f2, .int .i64 x.f3, .int .i64 x.f4, .int .i64 x.f5, .int .i64 x.f6, .int .i64 x.f7, .slice A8 x.f8.length c8] 42 (0, 0))) (hL : LOk L W) (hk : k < L.pr.length) (hA : (Kd.int .i64).C W A8 x.f8.length x.f8) (hc : x.f8.length ≤ c8) (hl : x.f8.length < 100000) (hR : rightI x = true) (e : Int) (he : (if thereV L k x then 0 else 2) = e) :
  Calls Try.prog 53 #[.pointer (some ⟨g2, 0, none⟩), .pointer (some ⟨g11, 0, none⟩), .pointer (some ⟨g14, 0, none⟩)] W fun r w' => r = .returned (.int .i64 e) ∧ Below W.heap.size W w' := by
 have HC := Aside0.mk (there_at L k x A8 c8 W hL hk hA hc hl hR)
 rw [he] at HC
 have l0 := blk_cell h2 0
 have l1 := blk_cell h2 1
 have l2 := blk_cell h2 2
 have l3 := blk_cell h2 3
 have l4 := blk_cell h2 4
 have l5 := blk_cell h2 5
 have l6 := blk_cell h2 6
 have l7 := blk_cell h2 7
 have l8 := blk_cell h2 8
 have z0 := blk_cell h14 0
 have z1 := blk_cell h14 1
 have z2 := blk_cell h14 2
 have z3 := blk_cell h14 3
 have z4 := blk_cell h14 4
 have z5 := blk_cell h14 5
 have z6 := blk_cell h14 6
 have z7 := blk_cell h14 7
 have z8 := blk_cell h14 8
 have y0 := blk_cell h11 0
 simp only [List.getElem?_toArray, List.getElem?_cons_zero, List.getElem?_cons_succ] at l0 l1 l2 l3 l4 l5 l6 l7 l8 z0 z1 z2 z3 z4 z5 z6 z7 z8 y0
 clear h2 h11 h14 hL hk hA hc hl hR he
 go_enter Try.func53, Try.ntmps53
 go_wp2_with ((go_at_call 54; ((with_reducible refine HC.out.mono ?_); rintro r w' ⟨rfl, hb⟩; have HB := Aside0.mk hb; clear hb)))
 go_ret
 exact ⟨rfl, HB.out⟩
set_option maxHeartbeats 4000000 in
theorem clo3_at (h2 : W.heap[g2]? = some (.cells #[.slice L.Af L.fs.length L.cf, .int .i64 L.mn, .slice L.As L.ss.length L.cs, .string L.nm, .int .i64 L.ps, .int .i64 L.rt, .slice L.Ar L.rg.length L.cr, .slice L.Ab L.bl.length L.cb, .slice L.Aq L.pr.length L.cq] 74 (0, 0))) (h14 : W.heap[g14]? = some (.cells #[.int .i64 x.f0, .int .i64 x.f1, .int .i64 x.f2, .int .i64 x.f3, .int .i64 x.f4, .int .i64 x.f5, .int .i64 x.f6, .int .i64 x.f7, .slice A8 x.f8.length c8] 42 (0, 0))) (hL : LOk L W) (hA : (Kd.int .i64).C W A8 x.f8.length x.f8) (hc : x.f8.length ≤ c8) (hl : x.f8.length < 100000) (hR : rightI x = true) (hT : thereV L k x = true) (e : Int) (he : (if fitsV L x then 0 else 11) = e) :
  Calls Try.prog 55 #[.pointer (some ⟨g2, 0, none⟩), .pointer (some ⟨g14, 0, none⟩)] W fun r w' => r = .returned (.int .i64 e) ∧ Below W.heap.size W w' := by
 obtain ⟨n1, n2, n3, n4, n5, n6⟩ := fits_needs L k x hR hT
 have HC := Aside0.mk (fits_at L x A8 c8 W hL hA hc hl n1 n2 n3 n4 n5 n6)
 rw [he] at HC
 have l0 := blk_cell h2 0
 have l1 := blk_cell h2 1
 have l2 := blk_cell h2 2
 have l3 := blk_cell h2 3
 have l4 := blk_cell h2 4
 have l5 := blk_cell h2 5
 have l6 := blk_cell h2 6
 have l7 := blk_cell h2 7
 have l8 := blk_cell h2 8
 have z0 := blk_cell h14 0
 have z1 := blk_cell h14 1
 have z2 := blk_cell h14 2
 have z3 := blk_cell h14 3
 have z4 := blk_cell h14 4
 have z5 := blk_cell h14 5
 have z6 := blk_cell h14 6
 have z7 := blk_cell h14 7
 have z8 := blk_cell h14 8
 simp only [List.getElem?_toArray, List.getElem?_cons_zero, List.getElem?_cons_succ] at l0 l1 l2 l3 l4 l5 l6 l7 l8 z0 z1 z2 z3 z4 z5 z6 z7 z8
 clear h2 h14 hL hA hc hl hR hT he n1 n2 n3 n4 n5 n6
 go_enter Try.func55, Try.ntmps55
 go_wp2_with ((go_at_call 56; ((with_reducible refine HC.out.mono ?_); rintro r w' ⟨rfl, hb⟩; have HB := Aside0.mk hb; clear hb)))
 go_ret
 exact ⟨rfl, HB.out⟩
end
end Go.Proofs.Ytgbpkbfghonllaa.P

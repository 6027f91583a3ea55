/- A part of it. -/
import Derived.Test.YtanpghbakbebiaaDoorFmZ
import Derived.Test.YtanpghbakbebiaaDoorFmFlowS2
import Derived.Test.YtanpghbakbebiaaDoorFmP0
import Derived.Test.YtanpghbakbebiaaDoorFmP2
import Derived.Test.YtanpghbakbebiaaDoorFmP4
import Derived.Test.YtanpghbakbebiaaDoorFmP5
import Derived.Test.YtanpghbakbebiaaDoorFmP6
import Derived.Outline
set_option linter.unusedVariables false
set_option linter.unusedSimpArgs false
namespace Go.Proofs.YtanpghbakbebiaaDoor.P
open Go Go.RowKit Go.Proofs.YtanpghbakbebiaaDoorW.PrintWords Go.Proofs.YtanpghbakbebiaaDoorW.PrintLast Go.Proofs.YtanpghbakbebiaaDoorW.PrintMore Go.Proofs.YtanpghbakbebiaaDoorQ
attribute [local go_sem] max2_int min2_int max_two min_two
theorem take_q {w0 : World} {g c b n : Nat} {L : List Int} (w : World) (h : QAt w g c b n L) (hB : Below w0.heap.size w0 w) (hcw : w0.heap.size ≤ c) (hbw : w0.heap.size ≤ b) :
  Calls Tryd.prog 30 #[.pointer (some ⟨g, 0, none⟩)] w fun e w' => e = .returned (.tuple #[.int .i64 (L.headD 0), .bool (!L.isEmpty)]) ∧ QAt w' g c b n L.tail ∧ Kept w w' (fun k => k = c ∨ k = b) ∧ Below w0.heap.size w0 w' := by
 cases L with
 | nil => exact Take_none w h hB hcw hbw
 | cons x L => exact Take_some w h hB hcw hbw
theorem q_far {w : World} {g c b n : Nat} {L : List Int} (h : QAt w g c b n L) {p : Addr} (hg : g ≠ p.block) (hc : c ≠ p.block) (hb : b ≠ p.block) (v : Value) : QAt (w.setCell p v) g c b n L :=
 h.step (fun k hk _ => Below.heap_setCell _ _ _ _ (by rcases hk with rfl | rfl | rfl <;> assumption))
theorem row_F {w : World} {ok : Nat → Prop} {A : Option Addr} {n : Nat} {xs : List (List Int)} (h : Kd.F (Kd.slice 3 (Kd.int .i64)) w ok A n xs) (i : Int) (h0 : 0 ≤ i) (h1 : i < n) : ∃ ad A0 c0, A = some ad ∧ w.cell? (ad.add i.toNat) = some (.slice A0 (rd_L1 xs i).length c0) ∧ (rd_L1 xs i).length ≤ c0 ∧ Kd.F (Kd.int .i64) w ok A0 (rd_L1 xs i).length (rd_L1 xs i) := by
 obtain ⟨ad, A0, c0, e, hx, hl, _⟩ := at_L1 (Kd.F_now h) i h0 h1
 have hbl : (ad.add i.toNat).block = ad.block := by unfold Addr.add; split <;> rfl
 have hlt : ad.block < w.heap.size := by have q := World.block_lt_of_cell? w (ad.add i.toNat) hx; rw [hbl] at q; exact q
 have hin : ok ad.block := by
  refine Classical.byContradiction (fun hn => ?_)
  obtain ⟨ad', A0', c0', e', hx', _, _⟩ := at_L1 (h ({ w with heap := w.heap.setIfInBounds ad.block (.cells #[] 3 (0, 0)) }) (fun k hk _ => by
   have : ad.block ≠ k := fun q => hn (q ▸ hk)
   exact Array.getElem?_setIfInBounds_ne this)) i h0 h1
  rw [e] at e'
  cases e'
  have e2 : (w.heap.setIfInBounds ad.block (.cells #[] 3 (0, 0)))[ad.block]? = some (.cells #[] 3 (0, 0)) := Array.getElem?_setIfInBounds_self_of_lt hlt
  simp [World.cell?, hbl, e2] at hx'
 refine ⟨ad, A0, c0, e, hx, hl, fun W' hW => ?_⟩
 obtain ⟨ad', A0', c0', e', hx', hl', hC⟩ := at_L1 (h W' hW) i h0 h1
 rw [e] at e'
 cases e'
 have hb := hW ad.block hin hlt
 have hx2 : W'.cell? (ad.add i.toNat) = w.cell? (ad.add i.toNat) := by simp only [World.cell?, hbl, hb]
 rw [hx2, hx] at hx'
 injection hx' with q
 injection q with q1 q2 q3
 subst q1
 exact hC
theorem rd_set (l : List (List Int)) (i : Int) (h0 : 0 ≤ i) (h1 : i < (l.length : Int)) (x : List Int) : rd_L3 (l.set i.toNat x) i = x := by
 have : i.toNat < l.length := by omega
 simp [rd_L3, List.getD_eq_getElem?_getD, this]
theorem infbs : (Tryd.prog.info? 30).map (fun i => (i.zero, i.size, i.bytes)) = some (some (.slice none 0 0), 1, 24) := by kernel_rfl
set_option maxHeartbeats 32000000 in
set_option maxRecDepth 100000 in
theorem fs_at (D : PD) (k : Nat) (q1 q2 : List (List Int)) (q3 : Bool) (w : World) (hT : TabW w) (hD : D.Ok w) (h : fs_f k D.l0 D.bk D.al D.wd D.l4 D.l5 D.l6 = some (q1, q2, q3)) :
  Calls Tryd.prog 9 #[.agg #[.slice D.A0 D.l0.length D.c0, .bool D.bk, .bool D.al, .int .i64 D.wd, .slice D.A4 D.l4.length D.c4, .slice D.A5 D.l5.length D.c5, .slice D.A6 D.l6.length D.c6]] w fun e w' => ∃ v0_ v1_ : Value, e = .returned (.tuple #[.agg #[v0_, v1_], .bool q3]) ∧ Kd.N (Kd.slice 72 (Kd.int .u64)) 30 w' w.heap.size (fun k_ => some k_ ≠ (v1_ : Value).ownBlock ∧ w.heap.size ≤ k_) v0_ q1 ∧ Kd.N (Kd.slice 72 (Kd.int .u64)) 30 w' w.heap.size (fun k_ => some k_ ≠ (v0_ : Value).ownBlock ∧ w.heap.size ≤ k_) v1_ q2 ∧ Below w.heap.size w w' := by
 have HT := Aside0.mk hT
 have HD := Aside0.mk hD
 have hu32 := Tryd.underlying32
 have hu36 := Tryd.underlying36
 have hu61 := Tryd.underlying61
 have hfl : ∀ (w : World), (Instr.field 61 (.agg #[.func (.func 42) #[] #[], .func (.func 43) #[] #[]]) 0).run Tryd.prog w = .ok (.func (.func 42) #[] #[]) w := fun _ => by kernel_rfl
 have hfl2 : ∀ (w : World), (Instr.field 61 (.agg #[.func (.func 22) #[] #[], .func (.func 15) #[] #[]]) 0).run Tryd.prog w = .ok (.func (.func 22) #[] #[]) w := fun _ => by kernel_rfl
 clear hT hD
 unfold fs_f at h
 obtain ⟨rt, hR, h⟩ := Option.bind_eq_some_iff.mp h
 have HR := Aside0.mk hR
 clear hR
 have BP := Aside0.mk (blk_alloc (blk_new w (.cells #[.slice D.A0 D.l0.length D.c0, .bool D.bk, .bool D.al, .int .i64 D.wd, .slice D.A4 D.l4.length D.c4, .slice D.A5 D.l5.length D.c5, .slice D.A6 D.l6.length D.c6] 32)) (.cells #[.slice none 0 0, .slice none 0 0] 36))
 have BR : Aside0 (((w.alloc (.cells #[.slice D.A0 D.l0.length D.c0, .bool D.bk, .bool D.al, .int .i64 D.wd, .slice D.A4 D.l4.length D.c4, .slice D.A5 D.l5.length D.c5, .slice D.A6 D.l6.length D.c6] 32)).alloc (.cells #[.slice none 0 0, .slice none 0 0] 36)).heap[w.heap.size + 1]? = some (.cells #[.slice none 0 0, .slice none 0 0] 36 (0, 0))) := ⟨by simpa using blk_new (w.alloc (.cells #[.slice D.A0 D.l0.length D.c0, .bool D.bk, .bool D.al, .int .i64 D.wd, .slice D.A4 D.l4.length D.c4, .slice D.A5 D.l5.length D.c5, .slice D.A6 D.l6.length D.c6] 32)) (.cells #[.slice none 0 0, .slice none 0 0] 36)⟩
 have HB := Aside0.mk (below_alloc (below_alloc (Below.refl w.heap.size w) (.cells #[.slice D.A0 D.l0.length D.c0, .bool D.bk, .bool D.al, .int .i64 D.wd, .slice D.A4 D.l4.length D.c4, .slice D.A5 D.l5.length D.c5, .slice D.A6 D.l6.length D.c6] 32)) (.cells #[.slice none 0 0, .slice none 0 0] 36))
 cases rt
 ·rw [if_neg (by simp)] at h
  obtain ⟨rfl, h2⟩ := Prod.mk.inj (Option.some.inj h)
  obtain ⟨rfl, rfl⟩ := Prod.mk.inj h2
  clear h h2
  go_enter Tryd.func9, Tryd.ntmps9
  go_upto_region 1 with (fail)
  generalize ((w.alloc (.cells #[.slice D.A0 D.l0.length D.c0, .bool D.bk, .bool D.al, .int .i64 D.wd, .slice D.A4 D.l4.length D.c4, .slice D.A5 D.l5.length D.c5, .slice D.A6 D.l6.length D.c6] 32)).alloc (.cells #[.slice none 0 0, .slice none 0 0] 36)) = W0 at *
  have p0 := (blk_cell BP.out 0).trans rfl
  have p1 := (blk_cell BP.out 1).trans rfl
  have p2 := (blk_cell BP.out 2).trans rfl
  have p3 := (blk_cell BP.out 3).trans rfl
  have p4 := (blk_cell BP.out 4).trans rfl
  have p5 := (blk_cell BP.out 5).trans rfl
  have p6 := (blk_cell BP.out 6).trans rfl
  (try simp only [List.getElem?_toArray, List.getElem?_cons_zero, List.getElem?_cons_succ] at p0 p1 p2 p3 p4 p5 p6)
  have r0_ := (blk_cell BR.out 0).trans rfl
  have z0_ := blk_frozen BR.out 0
  have r1_ := (blk_cell BR.out 1).trans rfl
  have z1_ := blk_frozen BR.out 1
  (try simp only [List.getElem?_toArray, List.getElem?_cons_zero, List.getElem?_cons_succ] at r0_ r1_)
  go_wp2_with ((go_at_call 11; ((with_reducible refine (flow_Right.calls k D.A0 D.c0 D.l0 D.bk D.al D.wd D.A4 D.c4 D.l4 D.A5 D.c5 D.l5 D.A6 D.c6 D.l6 _ _ (TabW.below HT.out (zB)) (PD.Ok.below HD.out HB.out).r0 (PD.Ok.below HD.out HB.out).c0 (PD.Ok.below HD.out HB.out).r4 (PD.Ok.below HD.out HB.out).c4 (PD.Ok.below HD.out HB.out).r5 (PD.Ok.below HD.out HB.out).c5 (PD.Ok.below HD.out HB.out).r6 (PD.Ok.below HD.out HB.out).c6 HR.out).mono ?_); rintro e W1 ⟨rfl, hb⟩; ((try have HGW := Aside0.mk (show w.heap.size + 2 ≤ W1.heap.size by have := HG.out; have h_ := hb.size; omega)); replace BP := Aside0.mk (blk_below BP.out hb); replace BR := Aside0.mk (blk_below BR.out hb); have n0_ := Aside0.mk (below_step (zB) hb); clear HB; have HB := n0_; clear n0_); clear hb; have p0 := (blk_cell BP.out 0).trans rfl; have p1 := (blk_cell BP.out 1).trans rfl; have p2 := (blk_cell BP.out 2).trans rfl; have p3 := (blk_cell BP.out 3).trans rfl; have p4 := (blk_cell BP.out 4).trans rfl; have p5 := (blk_cell BP.out 5).trans rfl; have p6 := (blk_cell BP.out 6).trans rfl; (try simp only [List.getElem?_toArray, List.getElem?_cons_zero, List.getElem?_cons_succ] at p0 p1 p2 p3 p4 p5 p6); have r0_ := (blk_cell BR.out 0).trans rfl; have z0_ := blk_frozen BR.out 0; have r1_ := (blk_cell BR.out 1).trans rfl; have z1_ := blk_frozen BR.out 1; (try simp only [List.getElem?_toArray, List.getElem?_cons_zero, List.getElem?_cons_succ] at r0_ r1_))))
  refine bodyPost_ret (results_ct rfl _ _ (w.heap.size + 1) 36 #[.slice none 0 0, .slice none 0 0] (0, 0) _ rfl ?hg hu36 rfl (by kernel_rfl)) rfl ?_
  case hg =>
   have := blk_set (blk_set BR.out 0 (.slice none 0 0)) 1 (.slice none 0 0)
   simpa using this
  exact ⟨_, _, rfl, Kd.N_nil _ _ _ _ _, Kd.N_nil _ _ _ _ _, (HB.out.setCell (show w.heap.size ≤ w.heap.size + 1 by omega) _).setCell (show w.heap.size ≤ w.heap.size + 1 by omega) _⟩
 rw [if_pos rfl] at h
 by_cases hsm : D.l0.length ≤ 65536
 rotate_left
 ·rw [if_neg hsm] at h; cases h
 rw [if_pos hsm] at h
 obtain ⟨⟨ah, bh⟩, hw2, h⟩ := Option.bind_eq_some_iff.mp h
 obtain ⟨t0, h0, h⟩ := Option.bind_eq_some_iff.mp h
 obtain ⟨L0, h1, h⟩ := Option.bind_eq_some_iff.mp h
 obtain ⟨⟨q1', q2'⟩, h2, h⟩ := Option.bind_eq_some_iff.mp h
 obtain ⟨rfl, h3⟩ := Prod.mk.inj (Option.some.inj h)
 obtain ⟨rfl, rfl⟩ := Prod.mk.inj h3
 clear h h3
 have HW2 := Aside0.mk hw2
 have H0 := Aside0.mk h0
 have H1 := Aside0.mk h1
 have H2 := Aside0.mk h2
 have HSM := Aside0.mk hsm
 clear hw2 h0 h1 h2
 have ms0 : decide ((0 : Int) ≤ (D.l0.length : Int)) = true := decide_eq_true (by omega)
 have hmk := print_make_of (P := Tryd.prog) 28 30 (.slice none 0 0) 24 Tryd.underlying28 infbs rfl (by decide) D.l0.length (by omega)
 go_enter Tryd.func9, Tryd.ntmps9
 go_upto_region 1 with (fail)
 have HG : Aside0 (w.heap.size + 2 ≤ ((w.alloc (.cells #[.slice D.A0 D.l0.length D.c0, .bool D.bk, .bool D.al, .int .i64 D.wd, .slice D.A4 D.l4.length D.c4, .slice D.A5 D.l5.length D.c5, .slice D.A6 D.l6.length D.c6] 32)).alloc (.cells #[.slice none 0 0, .slice none 0 0] 36)).heap.size) := ⟨by simp⟩
 generalize ((w.alloc (.cells #[.slice D.A0 D.l0.length D.c0, .bool D.bk, .bool D.al, .int .i64 D.wd, .slice D.A4 D.l4.length D.c4, .slice D.A5 D.l5.length D.c5, .slice D.A6 D.l6.length D.c6] 32)).alloc (.cells #[.slice none 0 0, .slice none 0 0] 36)) = W0 at *
 have p0 := (blk_cell BP.out 0).trans rfl
 have p1 := (blk_cell BP.out 1).trans rfl
 have p2 := (blk_cell BP.out 2).trans rfl
 have p3 := (blk_cell BP.out 3).trans rfl
 have p4 := (blk_cell BP.out 4).trans rfl
 have p5 := (blk_cell BP.out 5).trans rfl
 have p6 := (blk_cell BP.out 6).trans rfl
 (try simp only [List.getElem?_toArray, List.getElem?_cons_zero, List.getElem?_cons_succ] at p0 p1 p2 p3 p4 p5 p6)
 have r0_ := (blk_cell BR.out 0).trans rfl
 have z0_ := blk_frozen BR.out 0
 have r1_ := (blk_cell BR.out 1).trans rfl
 have z1_ := blk_frozen BR.out 1
 (try simp only [List.getElem?_toArray, List.getElem?_cons_zero, List.getElem?_cons_succ] at r0_ r1_)
 go_upto_region 4 with ((go_at_call 11; ((with_reducible refine (flow_Right.calls k D.A0 D.c0 D.l0 D.bk D.al D.wd D.A4 D.c4 D.l4 D.A5 D.c5 D.l5 D.A6 D.c6 D.l6 _ _ (TabW.below HT.out (zB)) (PD.Ok.below HD.out HB.out).r0 (PD.Ok.below HD.out HB.out).c0 (PD.Ok.below HD.out HB.out).r4 (PD.Ok.below HD.out HB.out).c4 (PD.Ok.below HD.out HB.out).r5 (PD.Ok.below HD.out HB.out).c5 (PD.Ok.below HD.out HB.out).r6 (PD.Ok.below HD.out HB.out).c6 HR.out).mono ?_); rintro e W1 ⟨rfl, hb⟩; ((try have HGW := Aside0.mk (show w.heap.size + 2 ≤ W1.heap.size by have := HG.out; have h_ := hb.size; omega)); replace BP := Aside0.mk (blk_below BP.out hb); replace BR := Aside0.mk (blk_below BR.out hb); have n0_ := Aside0.mk (below_step (zB) hb); clear HB; have HB := n0_; clear n0_); clear hb; have p0 := (blk_cell BP.out 0).trans rfl; have p1 := (blk_cell BP.out 1).trans rfl; have p2 := (blk_cell BP.out 2).trans rfl; have p3 := (blk_cell BP.out 3).trans rfl; have p4 := (blk_cell BP.out 4).trans rfl; have p5 := (blk_cell BP.out 5).trans rfl; have p6 := (blk_cell BP.out 6).trans rfl; (try simp only [List.getElem?_toArray, List.getElem?_cons_zero, List.getElem?_cons_succ] at p0 p1 p2 p3 p4 p5 p6); have r0_ := (blk_cell BR.out 0).trans rfl; have z0_ := blk_frozen BR.out 0; have r1_ := (blk_cell BR.out 1).trans rfl; have z1_ := blk_frozen BR.out 1; (try simp only [List.getElem?_toArray, List.getElem?_cons_zero, List.getElem?_cons_succ] at r0_ r1_))))
 have HG1 : Aside0 (w.heap.size + 2 ≤ W1.heap.size) := ⟨HGW.out⟩
 refine start_ (n := 7) (S := fun w' => True) (ds := [6]) #[false, false, false, false, false, false, false] (by kernel_rfl) rfl rfl trivial (fun hHeld => ?_)
 refine pT 0 (some 23) #[true, false, false, false, false, false, false] (h := ?_)
 refine pT 2 (some 25) #[true, false, true, false, false, false, false] (h := ?_)
 refine join_ (σ := Nat × Nat × Nat) 1 #[true, true, true, true, true, true, false] (fun s_ => [(24, .slice (some ⟨s_.1, 0, none⟩) D.l0.length D.l0.length), (26, .slice (some ⟨s_.2.1, 0, none⟩) D.l0.length D.l0.length), (5, .pointer (some ⟨s_.2.2, 0, none⟩)), (27, .agg #[.slice (some ⟨s_.1, 0, none⟩) D.l0.length D.l0.length, .slice (some ⟨s_.2.1, 0, none⟩) D.l0.length D.l0.length])]) (fun s_ w' => True ∧ Below w.heap.size w w' ∧ w'.heap[w.heap.size]? = some (.cells #[.slice D.A0 D.l0.length D.c0, .bool D.bk, .bool D.al, .int .i64 D.wd, .slice D.A4 D.l4.length D.c4, .slice D.A5 D.l5.length D.c5, .slice D.A6 D.l6.length D.c6] 32 (0, 0)) ∧ w'.heap[w.heap.size + 1]? = some (.cells #[.slice none 0 0, .slice none 0 0] 36 (0, 0)) ∧ w'.heap[s_.1]? = some (.cells (madeCells #[.slice none 0 0] D.l0.length) 30) ∧ w'.heap[s_.2.1]? = some (.cells (madeCells #[.slice none 0 0] D.l0.length) 30) ∧ w'.heap[s_.2.2]? = some (.cells #[.slice none 0 0, .slice none 0 0] 36) ∧ (w.heap.size + 1 < s_.1 ∧ w.heap.size + 1 < s_.2.1 ∧ w.heap.size + 1 < s_.2.2 ∧ s_.1 ≠ s_.2.1 ∧ s_.2.2 ≠ s_.1 ∧ s_.2.2 ≠ s_.2.1)) ?_ ?_
 rotate_left
 ·intro hCont
  refine three_ (i := 1) (j := 3) (k := 5) (Ni := some 24) (Nj := some 26) (Nk := some 5) #[true, true, true, false, false, false, false] #[true, false, true, true, false, false, false] #[true, false, true, false, false, true, false] rfl rfl rfl rfl rfl rfl (by kernel_rfl) (by decide) (by decide) (by decide) (fun K hK => ?_) (fun K hK => ?_) (fun K hK => ?_)
  ·skip
   refine value_ (w1 := ?_) (v := ?_) (by rfl) rfl ?_ ?_
   rotate_left 2
   ·go_simp
    constructor
    ·rfl
    ·rfl
   refine hK.out _ _ trivial (fun hHeld => ?_)
   clear hK K
   refine nN (some 24) (h := ?_)
   refine two_ (i := 3) (j := 5) (Ni := some 26) (Nj := some 5) #[true, true, true, true, false, false, false] #[true, true, true, false, false, true, false] rfl rfl rfl rfl (by kernel_rfl) (by decide) (by decide) (fun K hK => ?_) (fun K hK => ?_)
   ·skip
    refine value_ (w1 := ?_) (v := ?_) (by rfl) rfl ?_ ?_
    rotate_left 2
    ·go_simp
     constructor
     ·rfl
     ·rfl
    refine hK.out _ _ trivial (fun hHeld => ?_)
    clear hK K
    refine nN (some 26) (h := ?_)
    refine pT 4 (some 27) #[true, true, true, true, true, false, false] (h := ?_)
    refine one_ (i := 5) (N := some 5) #[true, true, true, true, true, true, false] rfl rfl (by kernel_rfl) (by decide) (fun K hK => ?_)
    refine value_ (w1 := ?_) (v := ?_) (by rfl) rfl ?_ ?_
    rotate_left 2
    ·go_simp
     constructor
     ·rfl
     ·rfl
    refine hK.out _ _ trivial (fun hHeld => ?_)
    clear hK K
    refine nN (some 5) (h := ?_)
    exact norm_ (by simp only [putAll, Act.put, List.setIfInBounds_toArray, List.set_cons_zero, List.set_cons_succ]) (hCont (W1.heap.size, W1.heap.size + 1, W1.heap.size + 1 + 1) _ ⟨trivial, below_drew (below_alloc (below_alloc (below_alloc HB.out _) _) _), blk_alloc (blk_alloc (blk_alloc BP.out _) _) _, blk_alloc (blk_alloc (blk_alloc BR.out _) _) _, (q_made W1 (.cells (madeCells #[.slice none 0 0] D.l0.length) 30) (.cells (madeCells #[.slice none 0 0] D.l0.length) 30) (.cells #[.slice none 0 0, .slice none 0 0] 36)).1, (q_made W1 (.cells (madeCells #[.slice none 0 0] D.l0.length) 30) (.cells (madeCells #[.slice none 0 0] D.l0.length) 30) (.cells #[.slice none 0 0, .slice none 0 0] 36)).2.1, (q_made W1 (.cells (madeCells #[.slice none 0 0] D.l0.length) 30) (.cells (madeCells #[.slice none 0 0] D.l0.length) 30) (.cells #[.slice none 0 0, .slice none 0 0] 36)).2.2, by have := HG1.out; dsimp only; omega⟩)
   ·skip
    refine value_ (w1 := ?_) (v := ?_) (by rfl) rfl ?_ ?_
    rotate_left 2
    ·go_simp
     constructor
     ·rfl
     ·rfl
    refine hK.out _ _ trivial (fun hHeld => ?_)
    clear hK K
    refine nN (some 5) (h := ?_)
    refine one_ (i := 3) (N := some 26) #[true, true, true, true, false, true, false] rfl rfl (by kernel_rfl) (by decide) (fun K hK => ?_)
    refine value_ (w1 := ?_) (v := ?_) (by rfl) rfl ?_ ?_
    rotate_left 2
    ·go_simp
     constructor
     ·rfl
     ·rfl
    refine hK.out _ _ trivial (fun hHeld => ?_)
    clear hK K
    refine nN (some 26) (h := ?_)
    refine pT 4 (some 27) #[true, true, true, true, true, true, false] (h := ?_)
    exact norm_ (by simp only [putAll, Act.put, List.setIfInBounds_toArray, List.set_cons_zero, List.set_cons_succ]) (hCont (W1.heap.size, W1.heap.size + 1 + 1, W1.heap.size + 1) _ ⟨trivial, below_drew (below_alloc (below_alloc (below_alloc HB.out _) _) _), blk_alloc (blk_alloc (blk_alloc BP.out _) _) _, blk_alloc (blk_alloc (blk_alloc BR.out _) _) _, (q_made W1 (.cells (madeCells #[.slice none 0 0] D.l0.length) 30) (.cells #[.slice none 0 0, .slice none 0 0] 36) (.cells (madeCells #[.slice none 0 0] D.l0.length) 30)).1, (q_made W1 (.cells (madeCells #[.slice none 0 0] D.l0.length) 30) (.cells #[.slice none 0 0, .slice none 0 0] 36) (.cells (madeCells #[.slice none 0 0] D.l0.length) 30)).2.2, (q_made W1 (.cells (madeCells #[.slice none 0 0] D.l0.length) 30) (.cells #[.slice none 0 0, .slice none 0 0] 36) (.cells (madeCells #[.slice none 0 0] D.l0.length) 30)).2.1, by have := HG1.out; dsimp only; omega⟩)
  ·skip
   refine value_ (w1 := ?_) (v := ?_) (by rfl) rfl ?_ ?_
   rotate_left 2
   ·go_simp
    constructor
    ·rfl
    ·rfl
   refine hK.out _ _ trivial (fun hHeld => ?_)
   clear hK K
   refine nN (some 26) (h := ?_)
   refine two_ (i := 1) (j := 5) (Ni := some 24) (Nj := some 5) #[true, true, true, true, false, false, false] #[true, false, true, true, false, true, false] rfl rfl rfl rfl (by kernel_rfl) (by decide) (by decide) (fun K hK => ?_) (fun K hK => ?_)
   ·skip
    refine value_ (w1 := ?_) (v := ?_) (by rfl) rfl ?_ ?_
    rotate_left 2
    ·go_simp
     constructor
     ·rfl
     ·rfl
    refine hK.out _ _ trivial (fun hHeld => ?_)
    clear hK K
    refine nN (some 24) (h := ?_)
    refine pT 4 (some 27) #[true, true, true, true, true, false, false] (h := ?_)
    refine one_ (i := 5) (N := some 5) #[true, true, true, true, true, true, false] rfl rfl (by kernel_rfl) (by decide) (fun K hK => ?_)
    refine value_ (w1 := ?_) (v := ?_) (by rfl) rfl ?_ ?_
    rotate_left 2
    ·go_simp
     constructor
     ·rfl
     ·rfl
    refine hK.out _ _ trivial (fun hHeld => ?_)
    clear hK K
    refine nN (some 5) (h := ?_)
    exact norm_ (by simp only [putAll, Act.put, List.setIfInBounds_toArray, List.set_cons_zero, List.set_cons_succ]) (hCont (W1.heap.size + 1, W1.heap.size, W1.heap.size + 1 + 1) _ ⟨trivial, below_drew (below_alloc (below_alloc (below_alloc HB.out _) _) _), blk_alloc (blk_alloc (blk_alloc BP.out _) _) _, blk_alloc (blk_alloc (blk_alloc BR.out _) _) _, (q_made W1 (.cells (madeCells #[.slice none 0 0] D.l0.length) 30) (.cells (madeCells #[.slice none 0 0] D.l0.length) 30) (.cells #[.slice none 0 0, .slice none 0 0] 36)).2.1, (q_made W1 (.cells (madeCells #[.slice none 0 0] D.l0.length) 30) (.cells (madeCells #[.slice none 0 0] D.l0.length) 30) (.cells #[.slice none 0 0, .slice none 0 0] 36)).1, (q_made W1 (.cells (madeCells #[.slice none 0 0] D.l0.length) 30) (.cells (madeCells #[.slice none 0 0] D.l0.length) 30) (.cells #[.slice none 0 0, .slice none 0 0] 36)).2.2, by have := HG1.out; dsimp only; omega⟩)
   ·skip
    refine value_ (w1 := ?_) (v := ?_) (by rfl) rfl ?_ ?_
    rotate_left 2
    ·go_simp
     constructor
     ·rfl
     ·rfl
    refine hK.out _ _ trivial (fun hHeld => ?_)
    clear hK K
    refine nN (some 5) (h := ?_)
    refine one_ (i := 1) (N := some 24) #[true, true, true, true, false, true, false] rfl rfl (by kernel_rfl) (by decide) (fun K hK => ?_)
    refine value_ (w1 := ?_) (v := ?_) (by rfl) rfl ?_ ?_
    rotate_left 2
    ·go_simp
     constructor
     ·rfl
     ·rfl
    refine hK.out _ _ trivial (fun hHeld => ?_)
    clear hK K
    refine nN (some 24) (h := ?_)
    refine pT 4 (some 27) #[true, true, true, true, true, true, false] (h := ?_)
    exact norm_ (by simp only [putAll, Act.put, List.setIfInBounds_toArray, List.set_cons_zero, List.set_cons_succ]) (hCont (W1.heap.size + 1 + 1, W1.heap.size, W1.heap.size + 1) _ ⟨trivial, below_drew (below_alloc (below_alloc (below_alloc HB.out _) _) _), blk_alloc (blk_alloc (blk_alloc BP.out _) _) _, blk_alloc (blk_alloc (blk_alloc BR.out _) _) _, (q_made W1 (.cells (madeCells #[.slice none 0 0] D.l0.length) 30) (.cells #[.slice none 0 0, .slice none 0 0] 36) (.cells (madeCells #[.slice none 0 0] D.l0.length) 30)).2.2, (q_made W1 (.cells (madeCells #[.slice none 0 0] D.l0.length) 30) (.cells #[.slice none 0 0, .slice none 0 0] 36) (.cells (madeCells #[.slice none 0 0] D.l0.length) 30)).1, (q_made W1 (.cells (madeCells #[.slice none 0 0] D.l0.length) 30) (.cells #[.slice none 0 0, .slice none 0 0] 36) (.cells (madeCells #[.slice none 0 0] D.l0.length) 30)).2.1, by have := HG1.out; dsimp only; omega⟩)
  ·skip
   refine value_ (w1 := ?_) (v := ?_) (by rfl) rfl ?_ ?_
   rotate_left 2
   ·go_simp
    constructor
    ·rfl
    ·rfl
   refine hK.out _ _ trivial (fun hHeld => ?_)
   clear hK K
   refine nN (some 5) (h := ?_)
   refine two_ (i := 1) (j := 3) (Ni := some 24) (Nj := some 26) #[true, true, true, false, false, true, false] #[true, false, true, true, false, true, false] rfl rfl rfl rfl (by kernel_rfl) (by decide) (by decide) (fun K hK => ?_) (fun K hK => ?_)
   ·skip
    refine value_ (w1 := ?_) (v := ?_) (by rfl) rfl ?_ ?_
    rotate_left 2
    ·go_simp
     constructor
     ·rfl
     ·rfl
    refine hK.out _ _ trivial (fun hHeld => ?_)
    clear hK K
    refine nN (some 24) (h := ?_)
    refine one_ (i := 3) (N := some 26) #[true, true, true, true, false, true, false] rfl rfl (by kernel_rfl) (by decide) (fun K hK => ?_)
    refine value_ (w1 := ?_) (v := ?_) (by rfl) rfl ?_ ?_
    rotate_left 2
    ·go_simp
     constructor
     ·rfl
     ·rfl
    refine hK.out _ _ trivial (fun hHeld => ?_)
    clear hK K
    refine nN (some 26) (h := ?_)
    refine pT 4 (some 27) #[true, true, true, true, true, true, false] (h := ?_)
    exact norm_ (by simp only [putAll, Act.put, List.setIfInBounds_toArray, List.set_cons_zero, List.set_cons_succ]) (hCont (W1.heap.size + 1, W1.heap.size + 1 + 1, W1.heap.size) _ ⟨trivial, below_drew (below_alloc (below_alloc (below_alloc HB.out _) _) _), blk_alloc (blk_alloc (blk_alloc BP.out _) _) _, blk_alloc (blk_alloc (blk_alloc BR.out _) _) _, (q_made W1 (.cells #[.slice none 0 0, .slice none 0 0] 36) (.cells (madeCells #[.slice none 0 0] D.l0.length) 30) (.cells (madeCells #[.slice none 0 0] D.l0.length) 30)).2.1, (q_made W1 (.cells #[.slice none 0 0, .slice none 0 0] 36) (.cells (madeCells #[.slice none 0 0] D.l0.length) 30) (.cells (madeCells #[.slice none 0 0] D.l0.length) 30)).2.2, (q_made W1 (.cells #[.slice none 0 0, .slice none 0 0] 36) (.cells (madeCells #[.slice none 0 0] D.l0.length) 30) (.cells (madeCells #[.slice none 0 0] D.l0.length) 30)).1, by have := HG1.out; dsimp only; omega⟩)
   ·skip
    refine value_ (w1 := ?_) (v := ?_) (by rfl) rfl ?_ ?_
    rotate_left 2
    ·go_simp
     constructor
     ·rfl
     ·rfl
    refine hK.out _ _ trivial (fun hHeld => ?_)
    clear hK K
    refine nN (some 26) (h := ?_)
    refine one_ (i := 1) (N := some 24) #[true, true, true, true, false, true, false] rfl rfl (by kernel_rfl) (by decide) (fun K hK => ?_)
    refine value_ (w1 := ?_) (v := ?_) (by rfl) rfl ?_ ?_
    rotate_left 2
    ·go_simp
     constructor
     ·rfl
     ·rfl
    refine hK.out _ _ trivial (fun hHeld => ?_)
    clear hK K
    refine nN (some 24) (h := ?_)
    refine pT 4 (some 27) #[true, true, true, true, true, true, false] (h := ?_)
    exact norm_ (by simp only [putAll, Act.put, List.setIfInBounds_toArray, List.set_cons_zero, List.set_cons_succ]) (hCont (W1.heap.size + 1 + 1, W1.heap.size + 1, W1.heap.size) _ ⟨trivial, below_drew (below_alloc (below_alloc (below_alloc HB.out _) _) _), blk_alloc (blk_alloc (blk_alloc BP.out _) _) _, blk_alloc (blk_alloc (blk_alloc BR.out _) _) _, (q_made W1 (.cells #[.slice none 0 0, .slice none 0 0] 36) (.cells (madeCells #[.slice none 0 0] D.l0.length) 30) (.cells (madeCells #[.slice none 0 0] D.l0.length) 30)).2.2, (q_made W1 (.cells #[.slice none 0 0, .slice none 0 0] 36) (.cells (madeCells #[.slice none 0 0] D.l0.length) 30) (.cells (madeCells #[.slice none 0 0] D.l0.length) 30)).2.1, (q_made W1 (.cells #[.slice none 0 0, .slice none 0 0] 36) (.cells (madeCells #[.slice none 0 0] D.l0.length) 30) (.cells (madeCells #[.slice none 0 0] D.l0.length) 30)).1, by have := HG1.out; dsimp only; omega⟩)
 rintro ⟨gF, gT, gs⟩ W2 ⟨_, e0_, e1_, e2_, e3_, e4_, e5_, e6_⟩
 have hHeld : True := trivial
 dsimp only at e3_ e4_ e5_ e6_
 clear HB BP BR p0 p1 p2 p3 p4 p5 p6 r0_ r1_ z0_ z1_
 have HB := Aside0.mk e0_
 have BP := Aside0.mk e1_
 have BR := Aside0.mk e2_
 have BF := Aside0.mk e3_
 have BT := Aside0.mk e4_
 have BS := Aside0.mk e5_
 have HNE := Aside0.mk e6_
 have s0_ := (blk_cell e5_ 0).trans rfl
 have s1_ := (blk_cell e5_ 1).trans rfl
 simp only [List.getElem?_toArray, List.getElem?_cons_zero, List.getElem?_cons_succ] at s0_ s1_
 have zs0 := blk_frozen e5_ 0
 have zs1 := blk_frozen e5_ 1
 clear e0_ e1_ e2_ e3_ e4_ e5_ e6_
 refine norm_ (a' := ?_) ?_ ?_
 rotate_left
 ·simp only [putAll, Act.put, List.setIfInBounds_toArray, List.set_cons_zero, List.set_cons_succ]
  rfl
 refine last_ (i := 6) (N := none) #[true, true, true, true, true, true, true] rfl rfl (by kernel_rfl) (by decide) (fun K hK => ?_)
 refine skip_ (w1 := ?_) (by rfl) rfl ?_ ?_
 rotate_left
 ·go_simp
  rfl
 refine hK.out _ _ ?_
 clear hK K
 refine done_ (by kernel_rfl) ?_
 clear s0_ s1_ zs0 zs1 hHeld
 have BS2 := Aside0.mk (blk_set (blk_set BS.out 0 (.slice (some ⟨gF, 0, none⟩) D.l0.length D.l0.length)) 1 (.slice (some ⟨gT, 0, none⟩) D.l0.length D.l0.length))
 have BF2 := Aside0.mk (blk_far (p := ⟨gs, 1, none⟩) (blk_far (p := ⟨gs, 0, none⟩) BF.out (fun e => HNE.out.2.2.2.2.1 e.symm) (.slice (some ⟨gF, 0, none⟩) D.l0.length D.l0.length)) (fun e => HNE.out.2.2.2.2.1 e.symm) (.slice (some ⟨gT, 0, none⟩) D.l0.length D.l0.length))
 have BT2 := Aside0.mk (blk_far (p := ⟨gs, 1, none⟩) (blk_far (p := ⟨gs, 0, none⟩) BT.out (fun e => HNE.out.2.2.2.2.2 e.symm) (.slice (some ⟨gF, 0, none⟩) D.l0.length D.l0.length)) (fun e => HNE.out.2.2.2.2.2 e.symm) (.slice (some ⟨gT, 0, none⟩) D.l0.length D.l0.length))
 have BP2 := Aside0.mk (blk_far (p := ⟨gs, 1, none⟩) (blk_far (p := ⟨gs, 0, none⟩) BP.out (show w.heap.size ≠ gs by have := HNE.out.2.2.1; omega) (.slice (some ⟨gF, 0, none⟩) D.l0.length D.l0.length)) (show w.heap.size ≠ gs by have := HNE.out.2.2.1; omega) (.slice (some ⟨gT, 0, none⟩) D.l0.length D.l0.length))
 have BR2 := Aside0.mk (blk_far (p := ⟨gs, 1, none⟩) (blk_far (p := ⟨gs, 0, none⟩) BR.out (show w.heap.size + 1 ≠ gs by have := HNE.out.2.2.1; omega) (.slice (some ⟨gF, 0, none⟩) D.l0.length D.l0.length)) (show w.heap.size + 1 ≠ gs by have := HNE.out.2.2.1; omega) (.slice (some ⟨gT, 0, none⟩) D.l0.length D.l0.length))
 have HB2 := Aside0.mk ((HB.out.setCell (p := ⟨gs, 0, none⟩) (show w.heap.size ≤ gs by have := HNE.out.2.2.1; omega) (.slice (some ⟨gF, 0, none⟩) D.l0.length D.l0.length)).setCell (p := ⟨gs, 1, none⟩) (show w.heap.size ≤ gs by have := HNE.out.2.2.1; omega) (.slice (some ⟨gT, 0, none⟩) D.l0.length D.l0.length))
 clear BS BF BT BP BR HB
 have BS : Aside0 ((_ : Option Obj) = some (Obj.cells #[.slice (some ⟨gF, 0, none⟩) D.l0.length D.l0.length, .slice (some ⟨gT, 0, none⟩) D.l0.length D.l0.length] 36 (0, 0))) := ⟨by simpa using BS2.out⟩
 have BF := BF2
 have BT := BT2
 have BP := BP2
 have BR := BR2
 have HB := HB2
 clear BS2 BF2 BT2 BP2 BR2 HB2
 go_upto_region 5 with (fail)
 generalize HWX : (World.setCell _ _ _) = W3 at *
 clear HWX
 have p0 := (blk_cell BP.out 0).trans rfl
 have p1 := (blk_cell BP.out 1).trans rfl
 have p2 := (blk_cell BP.out 2).trans rfl
 have p3 := (blk_cell BP.out 3).trans rfl
 have p4 := (blk_cell BP.out 4).trans rfl
 have p5 := (blk_cell BP.out 5).trans rfl
 have p6 := (blk_cell BP.out 6).trans rfl
 (try simp only [List.getElem?_toArray, List.getElem?_cons_zero, List.getElem?_cons_succ] at p0 p1 p2 p3 p4 p5 p6)
 go_upto_region 6 with ((go_at_call 26; ((with_reducible refine (flow_Problem_ways.calls k (fun k_ => k_ < w.heap.size) D.A0 D.c0 D.l0 D.bk D.al D.wd D.A4 D.c4 D.l4 D.A5 D.c5 D.l5 D.A6 D.c6 D.l6 ah bh _ (Kd.V_mk HD.out.c0 (Kd.F_below (Kd.C_F (Kd.heap_slice _ (Kd.heap_int _)) HD.out.r0) HB.out)) (PD.Ok.below HD.out HB.out).r4 HD.out.c4 (PD.Ok.below HD.out HB.out).r5 HD.out.c5 (PD.Ok.below HD.out HB.out).r6 HD.out.c6 HW2.out).mono ?_); rintro e W4 ⟨v0_, v1_, rfl, hv0, hv1, hb⟩; (have BF0_ := BF; have BT0_ := BT; have BS0_ := BS; replace BP := Aside0.mk (blk_below BP.out hb); replace BR := Aside0.mk (blk_below BR.out hb); replace BS := Aside0.mk (blk_below BS.out hb); replace BF := Aside0.mk (blk_below BF.out hb); replace BT := Aside0.mk (blk_below BT.out hb); have HLT := Aside0.mk (And.intro (blk_lt BF0_.out) (And.intro (blk_lt BT0_.out) (blk_lt BS0_.out))); have n0_ := Aside0.mk (below_step HB.out hb); clear HB; have HB := n0_; clear n0_; clear BF0_ BT0_ BS0_); clear hb)))
 obtain ⟨Aa, ca, ea⟩ := Kd.V_slice hv0
 subst ea
 obtain ⟨Ab, cb, eb⟩ := Kd.V_slice hv1
 subst eb
 have va := Kd.V_at (Kd.V_bound hv0)
 have vb := Kd.V_at (Kd.V_bound hv1)
 have HS : Aside0 (FSt w D ⟨gs, gF, gT, fun _ => False⟩ ⟨Aa, ca, ah, Ab, cb, bh, fun k => (k < w.heap.size ∨ W3.heap.size ≤ k) ∧ k < W4.heap.size⟩ (List.replicate D.l0.length []) (List.replicate D.l0.length []) W4) := ⟨{
  B := HB.out, o := HD.out, p := BP.out, r := BR.out
  s := by rw [List.length_replicate]; exact BS.out
  f := SetsAt.of_made _ _ BF.out, t := SetsAt.of_made _ _ BT.out
  a := va.2.2, ac := va.2.1, b := vb.2.2, bc := vb.2.1
  hs := HNE.out.2.2.1, hF := HNE.out.1, hT := HNE.out.2.1, nFT := HNE.out.2.2.2.1, nsF := HNE.out.2.2.2.2.1, nsT := HNE.out.2.2.2.2.2
  hX := fun k h_ => h_.elim
  hA := fun k h_ => by
   have h2_ : (k < w.heap.size ∨ W3.heap.size ≤ k) ∧ k < W4.heap.size := h_
   have := HNE.out
   have := HLT.out
   exact ⟨show k ≠ gF by omega, show k ≠ gT by omega, fun q => q⟩
  ln := List.length_replicate, lt := List.length_replicate, small := HSM.out }⟩
 clear hv0 hv1 va vb BS BF BT BP BR HB HNE HLT p0 p1 p2 p3 p4 p5 p6 ms0 hmk HG HG1 HGW HW2 HR
 obtain ⟨Gd, eG⟩ : ∃ G : SD, G = ⟨gs, gF, gT, fun _ => False⟩ := ⟨_, rfl⟩
 obtain ⟨Yd, eY⟩ : ∃ Y : WD, Y = ⟨Aa, ca, ah, Ab, cb, bh, fun k => (k < w.heap.size ∨ W3.heap.size ≤ k) ∧ k < W4.heap.size⟩ := ⟨_, rfl⟩
 rw [← eG, ← eY] at HS
 have eg1 : gs = Gd.gs := by rw [eG]
 have eg2 : gF = Gd.gF := by rw [eG]
 have eg3 : gT = Gd.gT := by rw [eG]
 have ey1 : Aa = Yd.Aa := by rw [eY]
 have ey2 : ca = Yd.ca := by rw [eY]
 have ey3 : ah = Yd.ah := by rw [eY]
 have ey4 : Ab = Yd.Ab := by rw [eY]
 have ey5 : cb = Yd.cb := by rw [eY]
 have ey6 : bh = Yd.bh := by rw [eY]
 have HXL : Aside0 (∀ (k : Nat), ¬ Gd.X k) := ⟨by rw [eG]; exact fun _ h_ => h_⟩
 have HYO : Aside0 (∀ k, Yd.okA k → k < W4.heap.size) := ⟨by rw [eY]; exact fun _ h_ => h_.2⟩
 subst eg1 eg2 eg3 ey1 ey2 ey3 ey5 ey6
 have EY4 := Aside0.mk ey4
 clear ey4
 clear eG eY
 obtain ⟨b, hal⟩ : ∃ b, D.al = b := ⟨_, rfl⟩
 have HAL := Aside0.mk hal
 have HNS : Aside0 (∀ kq s, fl_none kq D.al D.wd = some s → if b = true then bits_Full.f kq D.wd = some s else bits_New.f D.wd = some s) := ⟨fun kq s h_ => by unfold fl_none at h_; rw [hal] at h_; cases b <;> simpa using h_⟩
 have CO : Aside0 (∀ W, Calls Tryd.prog 27 #[.agg #[.slice D.A0 D.l0.length D.c0, .bool D.bk, .bool D.al, .int .i64 D.wd, .slice D.A4 D.l4.length D.c4, .slice D.A5 D.l5.length D.c5, .slice D.A6 D.l6.length D.c6]] W fun e w' => e = .returned (.agg #[if b = true then .func (.func 42) #[] #[] else .func (.func 22) #[] #[], if b = true then .func (.func 43) #[] #[] else .func (.func 15) #[] #[]]) ∧ Below W.heap.size W w') := ⟨fun W => (flow_Problem_of.calls D.A0 D.c0 D.l0 D.bk D.al D.wd D.A4 D.c4 D.l4 D.A5 D.c5 D.l5 D.A6 D.c6 D.l6 W).mono (fun e w' h_ => ⟨by rw [h_.1, hal], h_.2⟩)⟩
 clear hal
 cases b
 ·go_wp2
  go_loopg [34] k (fun kq v34 w' => ∃ (i : Int) (tt : List (List Int)), v34 = .int .i64 i ∧ Aside0 (fs_l0 kq D.al D.wd (D.l0.length : Int) i tt = some t0) ∧ Aside0 (kq ≤ k) ∧ Aside0 (FSt w D Gd Yd (List.replicate D.l0.length []) tt w') ∧ Aside0 (W4.heap.size ≤ w'.heap.size))
  case atStart => exact ⟨0, _, rfl, H0, ⟨Nat.le_refl _⟩, HS, ⟨Nat.le_refl _⟩⟩
  case round =>
   clear H0 HS
   obtain ⟨i, tt, rfl, HA, HK1, HS, HW4⟩ := hrel
   cases gk with
   | zero => exact absurd HA.out (by simp [fs_l0])
   | succ k1 =>
    have H := HA.out
    clear HA
    simp only [fs_l0] at H
    have p0 := (blk_cell HS.out.p 0).trans rfl
    have p1 := (blk_cell HS.out.p 1).trans rfl
    have p2 := (blk_cell HS.out.p 2).trans rfl
    have p3 := (blk_cell HS.out.p 3).trans rfl
    have p4 := (blk_cell HS.out.p 4).trans rfl
    have p5 := (blk_cell HS.out.p 5).trans rfl
    have p6 := (blk_cell HS.out.p 6).trans rfl
    have s0 := (blk_cell HS.out.s 0).trans rfl
    have s1 := (blk_cell HS.out.s 1).trans rfl
    (try simp only [List.getElem?_toArray, List.getElem?_cons_zero, List.getElem?_cons_succ] at p0 p1 p2 p3 p4 p5 p6 s0 s1)
    by_cases ci : i < (D.l0.length : Int)
    ·rw [if_pos ci] at H
     by_cases cj : 0 ≤ i ∧ i < (tt.length : Int)
     rotate_left
     ·rw [if_neg cj] at H; cases H
     rw [if_pos cj] at H
     obtain ⟨s_, hN, H⟩ := Option.bind_eq_some_iff.mp H
     have HN := HNS.out _ _ hN
     simp only [if_true, Bool.false_eq_true, if_false] at HN
     replace HN := Aside0.mk HN
     have HH := Aside0.mk H
     have HIJ := Aside0.mk cj
     obtain ⟨ci0, cj1⟩ := cj
     have b1 : decide (i < (D.l0.length : Int)) = true := decide_eq_true ci
     have b2 : decide (0 ≤ i) = true := decide_eq_true ci0
     have b4 : decide (i < (tt.length : Int)) = true := decide_eq_true cj1
     replace ci := eq_true ci
     replace ci0 := eq_true ci0
     replace cj1 := eq_true cj1
     clear hN H
     go_upto_region 9 with (fail)
     refine start_ (n := 11) (S := fun w' => w'.cell? ⟨w.heap.size, 0, none⟩ = some (.slice D.A0 D.l0.length D.c0) ∧ w'.cell? ⟨w.heap.size, 1, none⟩ = some (.bool D.bk) ∧ w'.cell? ⟨w.heap.size, 2, none⟩ = some (.bool D.al) ∧ w'.cell? ⟨w.heap.size, 3, none⟩ = some (.int .i64 D.wd) ∧ w'.cell? ⟨w.heap.size, 4, none⟩ = some (.slice D.A4 D.l4.length D.c4) ∧ w'.cell? ⟨w.heap.size, 5, none⟩ = some (.slice D.A5 D.l5.length D.c5) ∧ w'.cell? ⟨w.heap.size, 6, none⟩ = some (.slice D.A6 D.l6.length D.c6) ∧ w'.cell? ⟨Gd.gs, 1, none⟩ = some (.slice (some ⟨Gd.gT, 0, none⟩) tt.length tt.length)) (ds := [10]) #[false, false, false, false, false, false, false, false, false, false, false] (by kernel_rfl) rfl rfl ⟨p0, p1, p2, p3, p4, p5, p6, s1⟩ (fun hHeld => ?_)
     refine pT 0 (some 37) (zb 11 1) (h := ?_)
     refine pT 2 (some 39) (zb 11 5) (h := ?_)
     refine pT 6 (some 43) (zb 11 69) (h := ?_)
     refine tT 1 (some 38) (zb 11 71) hHeld (h := ?_)
     refine tT 3 (some 40) (zb 11 79) hHeld (h := ?_)
     refine tT 7 (some 44) (zb 11 207) hHeld (h := ?_)
     refine one_ (i := 4) (N := some 41) (zb 11 223) rfl rfl (by kernel_rfl) (by decide) (fun K hK => ?_)
     refine goes_ Tryd.func27 (by kernel_rfl) rfl #[.agg #[.slice D.A0 D.l0.length D.c0, .bool D.bk, .bool D.al, .int .i64 D.wd, .slice D.A4 D.l4.length D.c4, .slice D.A5 D.l5.length D.c5, .slice D.A6 D.l6.length D.c6]] (by rfl) rfl rfl (by simp only [List.map_toArray, List.map_cons, List.map_nil]; rfl) ?_
     with_reducible refine (CO.out _).mono ?_
     rintro e w5 ⟨rfl, hb⟩
     refine ⟨_, rfl, ?_⟩
     replace HW4 := Aside0.mk (Nat.le_trans HW4.out hb.size)
     replace HS := Aside0.mk (FSt.below (by first | exact HS.out | exact HS.out.drew) hb)
     clear hb
     simp only [if_true, Bool.false_eq_true, if_false]
     refine hK.out _ _ ⟨((blk_cell (FSt.p (by first | exact HS.out | exact HS.out.drew)) 0).trans rfl), ((blk_cell (FSt.p (by first | exact HS.out | exact HS.out.drew)) 1).trans rfl), ((blk_cell (FSt.p (by first | exact HS.out | exact HS.out.drew)) 2).trans rfl), ((blk_cell (FSt.p (by first | exact HS.out | exact HS.out.drew)) 3).trans rfl), ((blk_cell (FSt.p (by first | exact HS.out | exact HS.out.drew)) 4).trans rfl), ((blk_cell (FSt.p (by first | exact HS.out | exact HS.out.drew)) 5).trans rfl), ((blk_cell (FSt.p (by first | exact HS.out | exact HS.out.drew)) 6).trans rfl), ((blk_cell (FSt.s (by first | exact HS.out | exact HS.out.drew)) 1).trans rfl)⟩ (fun hHeld => ?_)
     clear hK K
     refine nN (some 41) (h := ?_)
     refine pT 5 (some 42) (zb 11 255) (h := ?_)
     refine one_ (i := 8) (N := some 45) (zb 11 511) rfl rfl (by kernel_rfl) (by decide) (fun K hK => ?_)
     refine goesD_ Tryd.func22 (by kernel_rfl) rfl #[.int .i64 D.wd] (by rfl) rfl rfl (by rfl) (by simp only [List.map_toArray, List.map_cons, List.map_nil]; rfl) ?_
     with_reducible refine (bits_New.calls D.wd s_ _ HN.out).mono ?_
     rintro e w6 ⟨v_, rfl, ho, hb⟩
     refine ⟨_, rfl, ?_⟩
     obtain ⟨A2, c2, ev_⟩ := Kd.R_slice ho
     subst ev_
     have hf_ := FSt.fresh (by first | exact HS.out | exact HS.out.drew) (fun k h_ => (HXL.out k h_).elim) (Nat.le_refl _) ho
     have HFR := Aside0.mk hf_.2
     replace HW4 := Aside0.mk (Nat.le_trans HW4.out hb.size)
     replace HS := Aside0.mk (FSt.below (by first | exact HS.out | exact HS.out.drew) hb)
     clear ho hb hf_
     obtain ⟨A3, c3, y1, zy1, _, _⟩ := HS.out.t.get i HIJ.out.1 HIJ.out.2
     refine hK.out _ _ ⟨((blk_cell (FSt.p (by first | exact HS.out | exact HS.out.drew)) 0).trans rfl), ((blk_cell (FSt.p (by first | exact HS.out | exact HS.out.drew)) 1).trans rfl), ((blk_cell (FSt.p (by first | exact HS.out | exact HS.out.drew)) 2).trans rfl), ((blk_cell (FSt.p (by first | exact HS.out | exact HS.out.drew)) 3).trans rfl), ((blk_cell (FSt.p (by first | exact HS.out | exact HS.out.drew)) 4).trans rfl), ((blk_cell (FSt.p (by first | exact HS.out | exact HS.out.drew)) 5).trans rfl), ((blk_cell (FSt.p (by first | exact HS.out | exact HS.out.drew)) 6).trans rfl), ((blk_cell (FSt.s (by first | exact HS.out | exact HS.out.drew)) 1).trans rfl)⟩ (fun hHeld => ?_)
     clear hK K
     refine nN (some 45) (h := ?_)
     refine pT 9 (some 46) (zb 11 1023) (h := ?_)
     refine last_ (i := 10) (N := none) (zb 11 2047) rfl rfl (by kernel_rfl) (by decide) (fun K hK => ?_)
     refine skip_ (w1 := ?_) (by rfl) rfl ?_ ?_
     rotate_left
     ·go_simp
      rfl
     refine hK.out _ _ ?_
     clear hK K
     refine done_ (by kernel_rfl) ?_
     have HS7 := Aside0.mk (FSt.setT HS.out i HIJ.out.1 HIJ.out.2 s_ HFR.out.1 HFR.out.2)
     clear HS HFR y1 zy1
     have HS := HS7
     clear HS7
     go_wp2
     go_roundg k1
     case measure => have := HK1.out; omega
     case rel => exact ⟨wrap64 (i + 1), tt.set i.toNat s_, rfl, HH, ⟨by have := HK1.out; omega⟩, HS, ⟨by have := HW4.out; simpa using this⟩⟩
    ·rw [if_neg ci] at H
     obtain rfl := Option.some.inj H
     have b1 : decide (i < (D.l0.length : Int)) = false := decide_eq_false ci
     clear ci H
     clear p0 p1 p2 p3 p4 p5 p6 s0 s1
     obtain ⟨gs, gF, gT, X⟩ := Gd
     go_upto_region 12 with ((go_at_call 28; ((refine (New_q D.l0.length HSM.out _).mono ?_); rintro e Wq ⟨gq, cq, bq, rfl, hq, hg, hc, hb_, hb⟩; have HS0_ := Aside0.mk (FSt.below (FSt.withX HS.out HXL.out (X' := fun k => k = cq ∨ k = bq) (fun k h_ => by rcases h_ with rfl | rfl <;> assumption) (fun k h_ => Nat.lt_of_lt_of_le (HYO.out k h_) HW4.out)) hb); have HGQ := Aside0.mk (show gq ≠ gF ∧ gq ≠ gT from ⟨fun e_ => Nat.lt_irrefl _ (Nat.lt_of_lt_of_le (show gF < _ from HS.out.f.lt) (e_ ▸ hg)), fun e_ => Nat.lt_irrefl _ (Nat.lt_of_lt_of_le (show gT < _ from HS.out.t.lt) (e_ ▸ hg))⟩); have HCB := Aside0.mk (show w.heap.size ≤ cq ∧ w.heap.size ≤ bq from ⟨Nat.le_trans HS.out.B.size hc, Nat.le_trans HS.out.B.size hb_⟩); clear HS; have HS := HS0_; have HQ := Aside0.mk hq; clear HS0_ hq hg hc hb_ hb)))
     obtain ⟨Gq, eG⟩ : ∃ G : SD, G = ⟨gs, gF, gT, fun k => k = cq ∨ k = bq⟩ := ⟨_, rfl⟩
     rw [← eG] at HS
     have eg1 : gs = Gq.gs := by rw [eG]
     have eg2 : gF = Gq.gF := by rw [eG]
     have eg3 : gT = Gq.gT := by rw [eG]
     have HSX : Aside0 (∀ k, (k = cq ∨ k = bq) → Gq.X k) := ⟨by rw [eG]; exact fun _ h_ => h_⟩
     have HXS : Aside0 (∀ k, Gq.X k → (k = cq ∨ k = bq)) := ⟨by rw [eG]; exact fun _ h_ => h_⟩
     clear eG
     subst eg1 eg2 eg3
     clear HXL
     go_wp2
     go_loopg [51] k (fun kq v51 w' => ∃ (i : Int) (L : List Int), v51 = .int .i64 i ∧ Aside0 (fs_l1 kq D.l0.length i L = some L0) ∧ Aside0 (kq ≤ k) ∧ Aside0 (FSt w D Gq Yd (List.replicate D.l0.length []) tt w') ∧ Aside0 (QAt w' gq cq bq D.l0.length L))
     case atStart => exact ⟨0, _, rfl, H1, ⟨Nat.le_refl _⟩, HS, HQ⟩
     case round =>
      clear H1 HS HQ
      obtain ⟨i, L, rfl, HA, HK1, HS, HQ⟩ := hrel
      cases gk with
      | zero => exact absurd HA.out (by simp [fs_l1])
      | succ k1 =>
       have H := HA.out
       clear HA
       simp only [fs_l1] at H
       by_cases ci : i < (D.l0.length : Int)
       ·rw [if_pos ci] at H
        have b1 : decide (i < (D.l0.length : Int)) = true := decide_eq_true ci
        by_cases hp : 0 ≤ i ∧ i < (D.l0.length : Int) ∧ i ∉ L
        ·have hfp : fs_put D.l0.length L i = L ++ [i] := if_pos hp
         rw [hfp] at H
         have HH := Aside0.mk H
         have HP := Aside0.mk hp
         clear H hp ci hfp
         go_wp2_with ((go_at_call 29; ((refine (Put_in (w0 := w) i _ HQ.out HP.out.1 HP.out.2.1 HP.out.2.2 HS.out.B HCB.out.1 HCB.out.2).mono ?_); rintro e Wp ⟨rfl, hq, hk, hb⟩; replace HS := Aside0.mk (FSt.kept HS.out hk HSX.out hb); clear HQ; have HQ := Aside0.mk hq; clear hq hk hb)))
         go_roundg k1
         case measure => have := HK1.out; omega
         case rel => exact ⟨wrap64 (i + 1), _, rfl, HH, ⟨by have := HK1.out; omega⟩, HS, HQ⟩
        ·have hfp : fs_put D.l0.length L i = L := if_neg hp
         rw [hfp] at H
         have HH := Aside0.mk H
         have HP : Aside0 (¬ (0 ≤ i ∧ i < (D.l0.length : Int)) ∨ i ∈ L) := ⟨if hm : i ∈ L then .inr hm else .inl (fun h_ => hp ⟨h_.1, h_.2, hm⟩)⟩
         clear H hp ci hfp
         go_wp2_with ((go_at_call 29; ((refine (Put_out i _ HQ.out HP.out).mono ?_); rintro e Wp ⟨rfl, rfl⟩)))
         go_roundg k1
         case measure => have := HK1.out; omega
         case rel => exact ⟨wrap64 (i + 1), _, rfl, HH, ⟨by have := HK1.out; omega⟩, HS, HQ⟩
       ·rw [if_neg ci] at H
        obtain rfl := Option.some.inj H
        have b1 : decide (i < (D.l0.length : Int)) = false := decide_eq_false ci
        clear ci H
        go_upto_region 17 with (fail)
        go_wp2_with ((go_at_call 30; ((refine (take_q (w0 := w) _ HQ.out HS.out.B HCB.out.1 HCB.out.2).mono ?_); rintro e Wt ⟨rfl, hq, hk, hb⟩; replace HS := Aside0.mk (FSt.kept HS.out hk HSX.out hb); clear HQ; have HQ := Aside0.mk hq; clear hq hk hb)))
        go_loopg [11, 12] k (fun kq v11 v12 w' => ∃ (L : List Int) (fr tt : List (List Int)), v11 = .int .i64 (L.head?.getD 0) ∧ v12 = .bool (!L.isEmpty) ∧ Aside0 (fs_l2 kq D.l0 D.bk D.al D.wd D.l4 D.l5 D.l6 Yd.ah Yd.bh fr tt L = some (q1', q2')) ∧ Aside0 (kq ≤ k) ∧ Aside0 (FSt w D Gq Yd fr tt w') ∧ Aside0 (QAt w' gq cq bq D.l0.length L.tail))
        case atStart => exact ⟨L, _, _, (by first | rfl | simp), (by first | rfl | simp), H2, ⟨Nat.le_refl _⟩, HS, HQ⟩
        case round =>
         clear H2 HS HQ
         obtain ⟨L, fr, tt, rfl, rfl, HA, HK1, HS, HQ⟩ := hrel
         cases gk with
         | zero => exact absurd HA.out (by simp [fs_l2])
         | succ k1 =>
          have H := HA.out
          clear HA
          cases L with
          | nil =>
           simp only [fs_l2] at H
           obtain ⟨rfl, rfl⟩ := Prod.mk.inj (Option.some.inj H)
           clear H
           have bl : (!([] : List Int).isEmpty) = false := rfl
           have p0 := (blk_cell HS.out.p 0).trans rfl
           have p1 := (blk_cell HS.out.p 1).trans rfl
           have p2 := (blk_cell HS.out.p 2).trans rfl
           have p3 := (blk_cell HS.out.p 3).trans rfl
           have p4 := (blk_cell HS.out.p 4).trans rfl
           have p5 := (blk_cell HS.out.p 5).trans rfl
           have p6 := (blk_cell HS.out.p 6).trans rfl
           have s0 := (blk_cell HS.out.s 0).trans rfl
           have s1 := (blk_cell HS.out.s 1).trans rfl
           (try simp only [List.getElem?_toArray, List.getElem?_cons_zero, List.getElem?_cons_succ] at p0 p1 p2 p3 p4 p5 p6 s0 s1)
           have r0_ := (blk_cell HS.out.r 0).trans rfl
           have r1_ := (blk_cell HS.out.r 1).trans rfl
           simp only [List.getElem?_toArray, List.getElem?_cons_zero, List.getElem?_cons_succ] at r0_ r1_
           have z0_ := blk_frozen HS.out.r 0
           have z1_ := blk_frozen HS.out.r 1
           go_wp2
           refine bodyPost_ret (results_ct rfl _ _ (w.heap.size + 1) 36 #[.slice (some ⟨Gq.gF, 0, none⟩) fr.length fr.length, .slice (some ⟨Gq.gT, 0, none⟩) tt.length tt.length] (0, 0) _ rfl ?hg hu36 rfl (by kernel_rfl)) rfl ?_
           case hg =>
            have h_ := blk_set (blk_set HS.out.r 0 (.slice (some ⟨Gq.gF, 0, none⟩) fr.length fr.length)) 1 (.slice (some ⟨Gq.gT, 0, none⟩) tt.length tt.length)
            simpa using h_
           have o1 : ∀ k, Gq.ok w k → k ≠ w.heap.size + 1 := fun k h_ => by have := h_.1; omega
           have f1 := (HS.out.f.far (p := ⟨w.heap.size + 1, 0, none⟩) (show Gq.gF ≠ w.heap.size + 1 by have := HS.out.hF; omega) o1 (.slice (some ⟨Gq.gF, 0, none⟩) fr.length fr.length)).far (p := ⟨w.heap.size + 1, 1, none⟩) (show Gq.gF ≠ w.heap.size + 1 by have := HS.out.hF; omega) o1 (.slice (some ⟨Gq.gT, 0, none⟩) tt.length tt.length)
           have f2 := (HS.out.t.far (p := ⟨w.heap.size + 1, 0, none⟩) (show Gq.gT ≠ w.heap.size + 1 by have := HS.out.hT; omega) o1 (.slice (some ⟨Gq.gF, 0, none⟩) fr.length fr.length)).far (p := ⟨w.heap.size + 1, 1, none⟩) (show Gq.gT ≠ w.heap.size + 1 by have := HS.out.hT; omega) o1 (.slice (some ⟨Gq.gT, 0, none⟩) tt.length tt.length)
           have hF := HS.out.hF
           have hT := HS.out.hT
           refine ⟨_, _, rfl, f1.N w.heap.size (by omega) ⟨fun e_ => HS.out.nFT (Option.some.inj e_), by omega⟩ (fun k h_ => ⟨⟨fun e_ => h_.2.2.2.1 (Option.some.inj e_), by have := h_.1; omega⟩, h_.2.2.1⟩) (by rw [HS.out.ln]; exact HSM.out), f2.N w.heap.size (by omega) ⟨fun e_ => HS.out.nFT (Option.some.inj e_).symm, by omega⟩ (fun k h_ => ⟨⟨fun e_ => h_.2.2.1 (Option.some.inj e_), by have := h_.1; omega⟩, h_.2.2.2.1⟩) (by rw [HS.out.lt]; exact HSM.out), ?_⟩
           exact (HS.out.B.setCell (show w.heap.size ≤ w.heap.size + 1 by omega) _).setCell (show w.heap.size ≤ w.heap.size + 1 by omega) _
          | cons x L =>
           simp only [fs_l2] at H
           by_cases hx : 0 ≤ x ∧ x < (fr.length : Int) ∧ x < (tt.length : Int) ∧ x < (Yd.bh.length : Int)
           rotate_left
           ·rw [if_neg hx] at H; cases H
           rw [if_pos hx] at H
           obtain ⟨s_, hFr, H⟩ := Option.bind_eq_some_iff.mp H
           obtain ⟨t_, hTo, H⟩ := Option.bind_eq_some_iff.mp H
           obtain ⟨bb, hSm, H⟩ := Option.bind_eq_some_iff.mp H
           have HFR := Aside0.mk hFr
           have HTO := Aside0.mk hTo
           have HSM2 := Aside0.mk hSm
           have HH := Aside0.mk H
           have HX := Aside0.mk hx
           obtain ⟨x0, x1, x2, x3⟩ := hx
           have HTL : Aside0 (tt.length ≤ 65536) := ⟨by rw [HS.out.lt]; exact HSM.out⟩
           have bl : (!(x :: L).isEmpty) = true := rfl
           have b1 : decide (0 ≤ x) = true := decide_eq_true x0
           have b2 : decide (x < (fr.length : Int)) = true := decide_eq_true x1
           have b3 : decide (x < (tt.length : Int)) = true := decide_eq_true x2
           have b4 : decide (x < (Yd.bh.length : Int)) = true := decide_eq_true x3
           replace x0 := eq_true x0
           replace x1 := eq_true x1
           replace x2 := eq_true x2
           replace x3 := eq_true x3
           clear hFr hTo hSm H
           replace HQ : Aside0 (QAt _ gq cq bq D.l0.length L) := ⟨HQ.out⟩
           have p0 := (blk_cell HS.out.p 0).trans rfl
           have p1 := (blk_cell HS.out.p 1).trans rfl
           have p2 := (blk_cell HS.out.p 2).trans rfl
           have p3 := (blk_cell HS.out.p 3).trans rfl
           have p4 := (blk_cell HS.out.p 4).trans rfl
           have p5 := (blk_cell HS.out.p 5).trans rfl
           have p6 := (blk_cell HS.out.p 6).trans rfl
           have s0 := (blk_cell HS.out.s 0).trans rfl
           have s1 := (blk_cell HS.out.s 1).trans rfl
           (try simp only [List.getElem?_toArray, List.getElem?_cons_zero, List.getElem?_cons_succ] at p0 p1 p2 p3 p4 p5 p6 s0 s1)
           go_upto_region 20 with (fail)
           refine start_ (n := 11) (S := fun w' => w'.cell? ⟨w.heap.size, 0, none⟩ = some (.slice D.A0 D.l0.length D.c0) ∧ w'.cell? ⟨w.heap.size, 1, none⟩ = some (.bool D.bk) ∧ w'.cell? ⟨w.heap.size, 2, none⟩ = some (.bool D.al) ∧ w'.cell? ⟨w.heap.size, 3, none⟩ = some (.int .i64 D.wd) ∧ w'.cell? ⟨w.heap.size, 4, none⟩ = some (.slice D.A4 D.l4.length D.c4) ∧ w'.cell? ⟨w.heap.size, 5, none⟩ = some (.slice D.A5 D.l5.length D.c5) ∧ w'.cell? ⟨w.heap.size, 6, none⟩ = some (.slice D.A6 D.l6.length D.c6) ∧ w'.cell? ⟨Gq.gs, 0, none⟩ = some (.slice (some ⟨Gq.gF, 0, none⟩) fr.length fr.length) ∧ w'.cell? ⟨Gq.gs, 1, none⟩ = some (.slice (some ⟨Gq.gT, 0, none⟩) tt.length tt.length)) (ds := [10]) #[false, false, false, false, false, false, false, false, false, false, false] (by kernel_rfl) rfl rfl ⟨p0, p1, p2, p3, p4, p5, p6, s0, s1⟩ (fun hHeld => ?_)
           refine pT 0 (some 69) (zb 11 1) (h := ?_)
           refine pT 2 (some 71) (zb 11 5) (h := ?_)
           refine pT 4 (some 73) (zb 11 21) (h := ?_)
           refine pT 5 (some 74) (zb 11 53) (h := ?_)
           refine pT 6 (some 75) (zb 11 117) (h := ?_)
           refine tT 1 (some 70) (zb 11 119) hHeld (h := ?_)
           refine tT 3 (some 72) (zb 11 127) hHeld (h := ?_)
           refine tT 7 (some 76) (zb 11 255) hHeld (h := ?_)
           refine one_ (i := 8) (N := some 77) (zb 11 511) rfl rfl (by kernel_rfl) (by decide) (fun K hK => ?_)
           refine goes_ Tryd.func31 (by kernel_rfl) rfl #[.agg #[.slice D.A0 D.l0.length D.c0, .bool D.bk, .bool D.al, .int .i64 D.wd, .slice D.A4 D.l4.length D.c4, .slice D.A5 D.l5.length D.c5, .slice D.A6 D.l6.length D.c6], .int .i64 x, .slice Yd.Aa Yd.ah.length Yd.ca, .slice (some ⟨Gq.gT, 0, none⟩) tt.length tt.length] (by rfl) rfl rfl (by simp only [List.map_toArray, List.map_cons, List.map_nil]; rfl) ?_
           with_reducible refine (flow_Problem_from.calls k1 D.A0 D.c0 D.l0 D.bk D.al D.wd D.A4 D.c4 D.l4 D.A5 D.c5 D.l5 D.A6 D.c6 D.l6 x Yd.Aa Yd.ca Yd.ah (some ⟨Gq.gT, 0, none⟩) tt.length tt s_ _ (PD.Ok.below (FSt.o (by first | exact HS.out | exact HS.out.drew)) (FSt.B (by first | exact HS.out | exact HS.out.drew))).r0 HD.out.c0 (PD.Ok.below (FSt.o (by first | exact HS.out | exact HS.out.drew)) (FSt.B (by first | exact HS.out | exact HS.out.drew))).r4 HD.out.c4 (PD.Ok.below (FSt.o (by first | exact HS.out | exact HS.out.drew)) (FSt.B (by first | exact HS.out | exact HS.out.drew))).r5 HD.out.c5 (PD.Ok.below (FSt.o (by first | exact HS.out | exact HS.out.drew)) (FSt.B (by first | exact HS.out | exact HS.out.drew))).r6 HD.out.c6 (Kd.F_now (FSt.a (by first | exact HS.out | exact HS.out.drew))) HS.out.ac (SetsAt.C (FSt.t (by first | exact HS.out | exact HS.out.drew)) HTL.out) (Nat.le_refl _) HFR.out).mono ?_
           rintro e w6 ⟨v_, rfl, ho, hb⟩
           refine ⟨_, rfl, ?_⟩
           obtain ⟨A2, c2, ev_⟩ := Kd.R_slice ho
           subst ev_
           have hf_ := FSt.fresh (by first | exact HS.out | exact HS.out.drew) (fun k h_ => by have l_ := HQ.out.lts; rcases HXS.out k h_ with e_ | e_ <;> rw [e_] <;> first | exact l_.2.1 | exact l_.2.2 | (simp only [size_drew_]; omega)) (Nat.le_refl _) ho
           have HFS := Aside0.mk hf_.2
           replace HS := Aside0.mk (FSt.below (by first | exact HS.out | exact HS.out.drew) hb)
           replace HQ := Aside0.mk (QAt.below (by first | exact HQ.out | exact QAt.below HQ.out (below_drew (Below.refl _ _))) hb)
           clear ho hb hf_
           obtain ⟨A3, c3, y1, zy1, _, _⟩ := HS.out.f.get x HX.out.1 HX.out.2.1
           refine hK.out _ _ ⟨((blk_cell (FSt.p (by first | exact HS.out | exact HS.out.drew)) 0).trans rfl), ((blk_cell (FSt.p (by first | exact HS.out | exact HS.out.drew)) 1).trans rfl), ((blk_cell (FSt.p (by first | exact HS.out | exact HS.out.drew)) 2).trans rfl), ((blk_cell (FSt.p (by first | exact HS.out | exact HS.out.drew)) 3).trans rfl), ((blk_cell (FSt.p (by first | exact HS.out | exact HS.out.drew)) 4).trans rfl), ((blk_cell (FSt.p (by first | exact HS.out | exact HS.out.drew)) 5).trans rfl), ((blk_cell (FSt.p (by first | exact HS.out | exact HS.out.drew)) 6).trans rfl), ((blk_cell (FSt.s (by first | exact HS.out | exact HS.out.drew)) 0).trans rfl), ((blk_cell (FSt.s (by first | exact HS.out | exact HS.out.drew)) 1).trans rfl)⟩ (fun hHeld => ?_)
           clear hK K
           refine nN (some 77) (h := ?_)
           refine pT 9 (some 78) (zb 11 1023) (h := ?_)
           refine last_ (i := 10) (N := none) (zb 11 2047) rfl rfl (by kernel_rfl) (by decide) (fun K hK => ?_)
           refine skip_ (w1 := ?_) (by rfl) rfl ?_ ?_
           rotate_left
           ·go_simp
            rfl
           refine hK.out _ _ ?_
           clear hK K
           refine done_ (by kernel_rfl) ?_
           have HS8 := Aside0.mk (FSt.setF HS.out x HX.out.1 HX.out.2.1 s_ HFS.out.1 HFS.out.2)
           have HQ8 := Aside0.mk (q_far HQ.out (p := ⟨Gq.gF, x.toNat, none⟩) HGQ.out.1 (HS.out.hX cq (HSX.out cq (.inl rfl))).2.2.1 (HS.out.hX bq (HSX.out bq (.inr rfl))).2.2.1 (.slice A2 s_.length c2))
           clear HS HQ HFS y1 zy1 p0 p1 p2 p3 p4 p5 p6 s0 s1
           have HS := HS8
           have HQ := HQ8
           clear HS8 HQ8
           obtain ⟨fr2, efr⟩ : ∃ f_, f_ = fr.set x.toNat s_ := ⟨_, rfl⟩
           rw [← efr] at HS HH
           have el : fr2.length = fr.length := by rw [efr, List.length_set]
           have HX2 : Aside0 (x < (fr2.length : Int)) := ⟨by rw [el]; exact HX.out.2.1⟩
           have b5 : decide (x < (fr2.length : Int)) = true := decide_eq_true HX2.out
           have x5 := eq_true HX2.out
           obtain ⟨A4, c4, y4, zy4, l4_, f4_⟩ := HS.out.f.get x HX.out.1 HX2.out
           rw [efr, rd_set fr x HX.out.1 HX.out.2.1 s_] at y4 l4_ f4_
           have HF4 := Aside0.mk (And.intro l4_ f4_)
           clear l4_ f4_ el
           generalize HWX : World.setCell _ _ _ = W8 at *
           clear HWX
           have p0 := (blk_cell HS.out.p 0).trans rfl
           have p1 := (blk_cell HS.out.p 1).trans rfl
           have p2 := (blk_cell HS.out.p 2).trans rfl
           have p3 := (blk_cell HS.out.p 3).trans rfl
           have p4 := (blk_cell HS.out.p 4).trans rfl
           have p5 := (blk_cell HS.out.p 5).trans rfl
           have p6 := (blk_cell HS.out.p 6).trans rfl
           have s0 := (blk_cell HS.out.s 0).trans rfl
           have s1 := (blk_cell HS.out.s 1).trans rfl
           (try simp only [List.getElem?_toArray, List.getElem?_cons_zero, List.getElem?_cons_succ] at p0 p1 p2 p3 p4 p5 p6 s0 s1)
           go_upto_region 21 with (fail)
           refine start_ (n := 9) (S := fun w' => w'.cell? ⟨w.heap.size, 0, none⟩ = some (.slice D.A0 D.l0.length D.c0) ∧ w'.cell? ⟨w.heap.size, 1, none⟩ = some (.bool D.bk) ∧ w'.cell? ⟨w.heap.size, 2, none⟩ = some (.bool D.al) ∧ w'.cell? ⟨w.heap.size, 3, none⟩ = some (.int .i64 D.wd) ∧ w'.cell? ⟨w.heap.size, 4, none⟩ = some (.slice D.A4 D.l4.length D.c4) ∧ w'.cell? ⟨w.heap.size, 5, none⟩ = some (.slice D.A5 D.l5.length D.c5) ∧ w'.cell? ⟨w.heap.size, 6, none⟩ = some (.slice D.A6 D.l6.length D.c6) ∧ w'.cell? ⟨Gq.gs, 0, none⟩ = some (.slice (some ⟨Gq.gF, 0, none⟩) fr2.length fr2.length) ∧ w'.cell? ⟨Gq.gF, x.toNat, none⟩ = some (.slice A4 s_.length c4)) (ds := []) #[false, false, false, false, false, false, false, false, false] (by kernel_rfl) rfl rfl ⟨p0, p1, p2, p3, p4, p5, p6, s0, y4⟩ (fun hHeld => ?_)
           refine pT 1 (some 80) (zb 9 2) (h := ?_)
           refine pT 2 (some 81) (zb 9 6) (h := ?_)
           refine pT 4 (some 83) (zb 9 22) (h := ?_)
           refine tT 0 (some 79) (zb 9 23) hHeld (h := ?_)
           refine tT 3 (some 82) (zb 9 31) hHeld (h := ?_)
           refine pT 5 (some 84) (zb 9 63) (h := ?_)
           refine tT 6 (some 85) (zb 9 127) hHeld (h := ?_)
           refine one_ (i := 7) (N := some 86) (zb 9 255) rfl rfl (by kernel_rfl) (by decide) (fun K hK => ?_)
           refine goes_ Tryd.func32 (by kernel_rfl) rfl #[.agg #[.slice D.A0 D.l0.length D.c0, .bool D.bk, .bool D.al, .int .i64 D.wd, .slice D.A4 D.l4.length D.c4, .slice D.A5 D.l5.length D.c5, .slice D.A6 D.l6.length D.c6], .int .i64 x, .slice A4 s_.length c4] (by rfl) rfl rfl (by simp only [List.map_toArray, List.map_cons, List.map_nil]; rfl) ?_
           with_reducible refine (flow_Problem_to.calls k1 D.A0 D.c0 D.l0 D.bk D.al D.wd D.A4 D.c4 D.l4 D.A5 D.c5 D.l5 D.A6 D.c6 D.l6 x A4 c4 s_ t_ _ (PD.Ok.below (FSt.o (by first | exact HS.out | exact HS.out.drew)) (FSt.B (by first | exact HS.out | exact HS.out.drew))).r0 HD.out.c0 (PD.Ok.below (FSt.o (by first | exact HS.out | exact HS.out.drew)) (FSt.B (by first | exact HS.out | exact HS.out.drew))).r4 HD.out.c4 (PD.Ok.below (FSt.o (by first | exact HS.out | exact HS.out.drew)) (FSt.B (by first | exact HS.out | exact HS.out.drew))).r5 HD.out.c5 (PD.Ok.below (FSt.o (by first | exact HS.out | exact HS.out.drew)) (FSt.B (by first | exact HS.out | exact HS.out.drew))).r6 HD.out.c6 (Kd.C_below (Kd.F_now HF4.out.2) (by first | exact Below.refl _ _ | exact below_drew (Below.refl _ _))) HF4.out.1 HTO.out).mono ?_
           rintro e w7 ⟨v_, rfl, ho, hb⟩
           refine ⟨_, rfl, ?_⟩
           obtain ⟨A5, c5, ev_⟩ := Kd.R_slice ho
           subst ev_
           have hf_ := FSt.fresh (by first | exact HS.out | exact HS.out.drew) (fun k h_ => by have l_ := HQ.out.lts; rcases HXS.out k h_ with e_ | e_ <;> rw [e_] <;> first | exact l_.2.1 | exact l_.2.2 | (simp only [size_drew_]; omega)) (Nat.le_refl _) ho
           have HFT := Aside0.mk hf_.2
           have y5 := pw_cell_below hb (by first | exact y4 | exact y4)
           replace HS := Aside0.mk (FSt.below (by first | exact HS.out | exact HS.out.drew) hb)
           replace HQ := Aside0.mk (QAt.below (by first | exact HQ.out | exact QAt.below HQ.out (below_drew (Below.refl _ _))) hb)
           clear ho hb hf_
           refine hK.out _ _ ⟨((blk_cell (FSt.p (by first | exact HS.out | exact HS.out.drew)) 0).trans rfl), ((blk_cell (FSt.p (by first | exact HS.out | exact HS.out.drew)) 1).trans rfl), ((blk_cell (FSt.p (by first | exact HS.out | exact HS.out.drew)) 2).trans rfl), ((blk_cell (FSt.p (by first | exact HS.out | exact HS.out.drew)) 3).trans rfl), ((blk_cell (FSt.p (by first | exact HS.out | exact HS.out.drew)) 4).trans rfl), ((blk_cell (FSt.p (by first | exact HS.out | exact HS.out.drew)) 5).trans rfl), ((blk_cell (FSt.p (by first | exact HS.out | exact HS.out.drew)) 6).trans rfl), ((blk_cell (FSt.s (by first | exact HS.out | exact HS.out.drew)) 0).trans rfl), y5⟩ (fun hHeld => ?_)
           clear hK K
           refine nN (some 86) (h := ?_)
           refine pT 8 (some 13) (zb 9 511) (h := ?_)
           refine done_ (by kernel_rfl) ?_
           clear hHeld
           clear p0 p1 p2 p3 p4 p5 p6 s0 s1 y4 zy4 y5 HF4
           have s1 := (blk_cell HS.out.s 1).trans rfl
           simp only [List.getElem?_toArray, List.getElem?_cons_zero, List.getElem?_cons_succ] at s1
           obtain ⟨A6, c6, y6, zy6, l6_, f6_⟩ := HS.out.t.get x HX.out.1 HX.out.2.2.1
           have HF6 := Aside0.mk (And.intro l6_ f6_)
           clear l6_ f6_
           cases bb
           rotate_left
           ·have H := HH.out
            clear HH
            rw [if_pos rfl] at H
            have HH := Aside0.mk H
            clear H
            go_wp2_with (first | (go_at_call 33; ((with_reducible refine (bits_Same.calls k1 A5 c5 t_ A6 c6 (rd_L3 tt x) true _ (Kd.F_now HFT.out.2) HFT.out.1 (Kd.F_now HF6.out.2) HF6.out.1 HSM2.out).mono ?_); rintro e w8 ⟨rfl, hb⟩; replace HS := Aside0.mk (FSt.below HS.out hb); have HQ9 := Aside0.mk (QAt.below HQ.out hb); clear HQ; have HQ := HQ9; clear HQ9; have HFT9 := Aside0.mk (And.intro HFT.out.1 (Kd.F_below HFT.out.2 hb)); clear HFT; have HFT := HFT9; clear HFT9; clear hb)) | (go_at_call 30; ((refine (take_q (w0 := w) _ HQ.out HS.out.B HCB.out.1 HCB.out.2).mono ?_); rintro e Wt ⟨rfl, hq, hk, hb⟩; replace HS := Aside0.mk (FSt.kept HS.out hk HSX.out hb); clear HQ; have HQ := Aside0.mk hq; clear hq hk hb)))
            go_roundg k1
            case measure => have := HK1.out; omega
            case rel => exact ⟨L, fr2, tt, (by first | rfl | simp), (by first | rfl | simp), HH, ⟨by have := HK1.out; omega⟩, HS, HQ⟩
           have H := HH.out
           clear HH
           rw [if_neg (by simp)] at H
           have HH := Aside0.mk H
           clear H
           go_upto_region 23 with ((go_at_call 33; ((with_reducible refine (bits_Same.calls k1 A5 c5 t_ A6 c6 (rd_L3 tt x) false _ (Kd.F_now HFT.out.2) HFT.out.1 (Kd.F_now HF6.out.2) HF6.out.1 HSM2.out).mono ?_); rintro e w8 ⟨rfl, hb⟩; replace HS := Aside0.mk (FSt.below HS.out hb); have HQ9 := Aside0.mk (QAt.below HQ.out hb); clear HQ; have HQ := HQ9; clear HQ9; have HFT9 := Aside0.mk (And.intro HFT.out.1 (Kd.F_below HFT.out.2 hb)); clear HFT; have HFT := HFT9; clear HFT9; clear hb)))
           clear s1 y6 zy6
           have s1 := (blk_cell HS.out.s 1).trans rfl
           simp only [List.getElem?_toArray, List.getElem?_cons_zero, List.getElem?_cons_succ] at s1
           obtain ⟨A7, c7, y7, zy7, _, _⟩ := HS.out.t.get x HX.out.1 HX.out.2.2.1
           go_upto_region 24 with (fail)
           have HS8 := Aside0.mk (FSt.setT HS.out x HX.out.1 HX.out.2.2.1 t_ HFT.out.1 HFT.out.2)
           have HQ8 := Aside0.mk (q_far HQ.out (p := ⟨Gq.gT, x.toNat, none⟩) HGQ.out.2 (HS.out.hX cq (HSX.out cq (.inl rfl))).2.2.2 (HS.out.hX bq (HSX.out bq (.inr rfl))).2.2.2 (.slice A5 t_.length c5))
           clear HS HQ HFT y7 zy7 s1 HF6
           have HS := HS8
           have HQ := HQ8
           clear HS8 HQ8
           obtain ⟨tt2, ett⟩ : ∃ f_, f_ = tt.set x.toNat t_ := ⟨_, rfl⟩
           rw [← ett] at HS HH
           generalize HWX : World.setCell _ _ _ = W9 at *
           clear HWX
           obtain ⟨adR, AR, cR, eR, yR, lR, fR⟩ := row_F HS.out.b x HX.out.1 HX.out.2.2.2
           have eR2 := EY4.out.trans eR
           subst eR2
           clear eR
           have HRW := Aside0.mk fR
           clear fR
           go_wp2
           go_loopg [104] k1 (fun kq v104 w' => ∃ (i : Int) (L' : List Int), v104 = .int .i64 i ∧ Aside0 (fs_l3 kq D.l0 D.bk D.al D.wd D.l4 D.l5 D.l6 Yd.ah Yd.bh fr2 tt2 L' (rd_L1 Yd.bh x) i = some (q1', q2')) ∧ Aside0 (kq ≤ k1) ∧ Aside0 (FSt w D Gq Yd fr2 tt2 w') ∧ Aside0 (QAt w' gq cq bq D.l0.length L') ∧ Aside0 (Kd.F (Kd.int .i64) w' Yd.okA AR (rd_L1 Yd.bh x).length (rd_L1 Yd.bh x)))
           case atStart => exact ⟨0, _, rfl, HH, ⟨Nat.le_refl _⟩, HS, HQ, HRW⟩
           case round =>
            clear HH HS HQ HRW yR
            obtain ⟨i, L', rfl, HA, HK2, HS, HQ, HRW⟩ := hrel
            cases gk with
            | zero => exact absurd HA.out (by simp [fs_l3])
            | succ k2 =>
             have H := HA.out
             clear HA
             simp only [fs_l3] at H
             by_cases ci : i < ((rd_L1 Yd.bh x).length : Int)
             ·rw [if_pos ci] at H
              by_cases cj : 0 ≤ i
              rotate_left
              ·rw [if_neg cj] at H; cases H
              rw [if_pos cj] at H
              obtain ⟨adE, eE, yE⟩ := Kd.at_int (Kd.F_now HRW.out) i cj ci
              cases eE
              have b6 : decide (i < ((rd_L1 Yd.bh x).length : Int)) = true := decide_eq_true ci
              have b7 : decide (0 ≤ i) = true := decide_eq_true cj
              replace ci := eq_true ci
              replace cj := eq_true cj
              by_cases hp : 0 ≤ rd (rd_L1 Yd.bh x) i ∧ rd (rd_L1 Yd.bh x) i < (D.l0.length : Int) ∧ rd (rd_L1 Yd.bh x) i ∉ L'
              ·have hfp : fs_put D.l0.length L' (rd (rd_L1 Yd.bh x) i) = L' ++ [rd (rd_L1 Yd.bh x) i] := if_pos hp
               rw [hfp] at H
               have HH := Aside0.mk H
               have HP := Aside0.mk hp
               clear H hp hfp
               go_wp2_with ((go_at_call 29; ((refine (Put_in (w0 := w) (rd (rd_L1 Yd.bh x) i) _ HQ.out HP.out.1 HP.out.2.1 HP.out.2.2 HS.out.B HCB.out.1 HCB.out.2).mono ?_); rintro e Wp ⟨rfl, hq, hk, hb⟩; have HR9 := Aside0.mk (Kd.F_kept HRW.out hk (fun k q q2 => (HS.out.hA k q).2.2 (HSX.out k q2))); clear HRW; have HRW := HR9; clear HR9; replace HS := Aside0.mk (FSt.kept HS.out hk HSX.out hb); clear HQ; have HQ := Aside0.mk hq; clear hq hk hb)))
               go_roundg k2
               case measure => have := HK2.out; omega
               case rel => exact ⟨wrap64 (i + 1), _, rfl, HH, ⟨by have := HK2.out; omega⟩, HS, HQ, HRW⟩
              ·have hfp : fs_put D.l0.length L' (rd (rd_L1 Yd.bh x) i) = L' := if_neg hp
               rw [hfp] at H
               have HH := Aside0.mk H
               have HP : Aside0 (¬ (0 ≤ rd (rd_L1 Yd.bh x) i ∧ rd (rd_L1 Yd.bh x) i < (D.l0.length : Int)) ∨ rd (rd_L1 Yd.bh x) i ∈ L') := ⟨if hm : rd (rd_L1 Yd.bh x) i ∈ L' then .inr hm else .inl (fun h_ => hp ⟨h_.1, h_.2, hm⟩)⟩
               clear H hp hfp
               go_wp2_with ((go_at_call 29; ((refine (Put_out (rd (rd_L1 Yd.bh x) i) _ HQ.out HP.out).mono ?_); rintro e Wp ⟨rfl, rfl⟩)))
               go_roundg k2
               case measure => have := HK2.out; omega
               case rel => exact ⟨wrap64 (i + 1), _, rfl, HH, ⟨by have := HK2.out; omega⟩, HS, HQ, HRW⟩
             ·rw [if_neg ci] at H
              have b6 : decide (i < ((rd_L1 Yd.bh x).length : Int)) = false := decide_eq_false ci
              have HH := Aside0.mk H
              clear ci H
              go_wp2_with ((go_at_call 30; ((refine (take_q (w0 := w) _ HQ.out HS.out.B HCB.out.1 HCB.out.2).mono ?_); rintro e Wt ⟨rfl, hq, hk, hb⟩; replace HS := Aside0.mk (FSt.kept HS.out hk HSX.out hb); clear HQ; have HQ := Aside0.mk hq; clear hq hk hb)))
              go_roundg k2
              case measure => have := HK1.out; have := HK2.out; omega
              case rel => exact ⟨L', fr2, tt2, (by first | rfl | simp), (by first | rfl | simp), HH, ⟨by have := HK1.out; have := HK2.out; omega⟩, HS, HQ⟩
 ·go_wp2
  go_loopg [34] k (fun kq v34 w' => ∃ (i : Int) (tt : List (List Int)), v34 = .int .i64 i ∧ Aside0 (fs_l0 kq D.al D.wd (D.l0.length : Int) i tt = some t0) ∧ Aside0 (kq ≤ k) ∧ Aside0 (FSt w D Gd Yd (List.replicate D.l0.length []) tt w') ∧ Aside0 (W4.heap.size ≤ w'.heap.size))
  case atStart => exact ⟨0, _, rfl, H0, ⟨Nat.le_refl _⟩, HS, ⟨Nat.le_refl _⟩⟩
  case round =>
   clear H0 HS
   obtain ⟨i, tt, rfl, HA, HK1, HS, HW4⟩ := hrel
   cases gk with
   | zero => exact absurd HA.out (by simp [fs_l0])
   | succ k1 =>
    have H := HA.out
    clear HA
    simp only [fs_l0] at H
    have p0 := (blk_cell HS.out.p 0).trans rfl
    have p1 := (blk_cell HS.out.p 1).trans rfl
    have p2 := (blk_cell HS.out.p 2).trans rfl
    have p3 := (blk_cell HS.out.p 3).trans rfl
    have p4 := (blk_cell HS.out.p 4).trans rfl
    have p5 := (blk_cell HS.out.p 5).trans rfl
    have p6 := (blk_cell HS.out.p 6).trans rfl
    have s0 := (blk_cell HS.out.s 0).trans rfl
    have s1 := (blk_cell HS.out.s 1).trans rfl
    (try simp only [List.getElem?_toArray, List.getElem?_cons_zero, List.getElem?_cons_succ] at p0 p1 p2 p3 p4 p5 p6 s0 s1)
    by_cases ci : i < (D.l0.length : Int)
    ·rw [if_pos ci] at H
     by_cases cj : 0 ≤ i ∧ i < (tt.length : Int)
     rotate_left
     ·rw [if_neg cj] at H; cases H
     rw [if_pos cj] at H
     obtain ⟨s_, hN, H⟩ := Option.bind_eq_some_iff.mp H
     have HN := HNS.out _ _ hN
     simp only [if_true, Bool.false_eq_true, if_false] at HN
     replace HN := Aside0.mk HN
     have HH := Aside0.mk H
     have HIJ := Aside0.mk cj
     obtain ⟨ci0, cj1⟩ := cj
     have b1 : decide (i < (D.l0.length : Int)) = true := decide_eq_true ci
     have b2 : decide (0 ≤ i) = true := decide_eq_true ci0
     have b4 : decide (i < (tt.length : Int)) = true := decide_eq_true cj1
     replace ci := eq_true ci
     replace ci0 := eq_true ci0
     replace cj1 := eq_true cj1
     clear hN H
     go_upto_region 9 with (fail)
     refine start_ (n := 11) (S := fun w' => w'.cell? ⟨w.heap.size, 0, none⟩ = some (.slice D.A0 D.l0.length D.c0) ∧ w'.cell? ⟨w.heap.size, 1, none⟩ = some (.bool D.bk) ∧ w'.cell? ⟨w.heap.size, 2, none⟩ = some (.bool D.al) ∧ w'.cell? ⟨w.heap.size, 3, none⟩ = some (.int .i64 D.wd) ∧ w'.cell? ⟨w.heap.size, 4, none⟩ = some (.slice D.A4 D.l4.length D.c4) ∧ w'.cell? ⟨w.heap.size, 5, none⟩ = some (.slice D.A5 D.l5.length D.c5) ∧ w'.cell? ⟨w.heap.size, 6, none⟩ = some (.slice D.A6 D.l6.length D.c6) ∧ w'.cell? ⟨Gd.gs, 1, none⟩ = some (.slice (some ⟨Gd.gT, 0, none⟩) tt.length tt.length)) (ds := [10]) #[false, false, false, false, false, false, false, false, false, false, false] (by kernel_rfl) rfl rfl ⟨p0, p1, p2, p3, p4, p5, p6, s1⟩ (fun hHeld => ?_)
     refine pT 0 (some 37) (zb 11 1) (h := ?_)
     refine pT 2 (some 39) (zb 11 5) (h := ?_)
     refine pT 6 (some 43) (zb 11 69) (h := ?_)
     refine tT 1 (some 38) (zb 11 71) hHeld (h := ?_)
     refine tT 3 (some 40) (zb 11 79) hHeld (h := ?_)
     refine tT 7 (some 44) (zb 11 207) hHeld (h := ?_)
     refine one_ (i := 4) (N := some 41) (zb 11 223) rfl rfl (by kernel_rfl) (by decide) (fun K hK => ?_)
     refine goes_ Tryd.func27 (by kernel_rfl) rfl #[.agg #[.slice D.A0 D.l0.length D.c0, .bool D.bk, .bool D.al, .int .i64 D.wd, .slice D.A4 D.l4.length D.c4, .slice D.A5 D.l5.length D.c5, .slice D.A6 D.l6.length D.c6]] (by rfl) rfl rfl (by simp only [List.map_toArray, List.map_cons, List.map_nil]; rfl) ?_
     with_reducible refine (CO.out _).mono ?_
     rintro e w5 ⟨rfl, hb⟩
     refine ⟨_, rfl, ?_⟩
     replace HW4 := Aside0.mk (Nat.le_trans HW4.out hb.size)
     replace HS := Aside0.mk (FSt.below (by first | exact HS.out | exact HS.out.drew) hb)
     clear hb
     simp only [if_true, Bool.false_eq_true, if_false]
     refine hK.out _ _ ⟨((blk_cell (FSt.p (by first | exact HS.out | exact HS.out.drew)) 0).trans rfl), ((blk_cell (FSt.p (by first | exact HS.out | exact HS.out.drew)) 1).trans rfl), ((blk_cell (FSt.p (by first | exact HS.out | exact HS.out.drew)) 2).trans rfl), ((blk_cell (FSt.p (by first | exact HS.out | exact HS.out.drew)) 3).trans rfl), ((blk_cell (FSt.p (by first | exact HS.out | exact HS.out.drew)) 4).trans rfl), ((blk_cell (FSt.p (by first | exact HS.out | exact HS.out.drew)) 5).trans rfl), ((blk_cell (FSt.p (by first | exact HS.out | exact HS.out.drew)) 6).trans rfl), ((blk_cell (FSt.s (by first | exact HS.out | exact HS.out.drew)) 1).trans rfl)⟩ (fun hHeld => ?_)
     clear hK K
     refine nN (some 41) (h := ?_)
     refine pT 5 (some 42) (zb 11 255) (h := ?_)
     refine one_ (i := 8) (N := some 45) (zb 11 511) rfl rfl (by kernel_rfl) (by decide) (fun K hK => ?_)
     refine goesD_ Tryd.func42 (by kernel_rfl) rfl #[.int .i64 D.wd] (by rfl) rfl rfl (by rfl) (by simp only [List.map_toArray, List.map_cons, List.map_nil]; rfl) ?_
     with_reducible refine (bits_Full.calls k1 D.wd s_ _ HN.out).mono ?_
     rintro e w6 ⟨v_, rfl, ho, hb⟩
     refine ⟨_, rfl, ?_⟩
     obtain ⟨A2, c2, ev_⟩ := Kd.R_slice ho
     subst ev_
     have hf_ := FSt.fresh (by first | exact HS.out | exact HS.out.drew) (fun k h_ => (HXL.out k h_).elim) (Nat.le_refl _) ho
     have HFR := Aside0.mk hf_.2
     replace HW4 := Aside0.mk (Nat.le_trans HW4.out hb.size)
     replace HS := Aside0.mk (FSt.below (by first | exact HS.out | exact HS.out.drew) hb)
     clear ho hb hf_
     obtain ⟨A3, c3, y1, zy1, _, _⟩ := HS.out.t.get i HIJ.out.1 HIJ.out.2
     refine hK.out _ _ ⟨((blk_cell (FSt.p (by first | exact HS.out | exact HS.out.drew)) 0).trans rfl), ((blk_cell (FSt.p (by first | exact HS.out | exact HS.out.drew)) 1).trans rfl), ((blk_cell (FSt.p (by first | exact HS.out | exact HS.out.drew)) 2).trans rfl), ((blk_cell (FSt.p (by first | exact HS.out | exact HS.out.drew)) 3).trans rfl), ((blk_cell (FSt.p (by first | exact HS.out | exact HS.out.drew)) 4).trans rfl), ((blk_cell (FSt.p (by first | exact HS.out | exact HS.out.drew)) 5).trans rfl), ((blk_cell (FSt.p (by first | exact HS.out | exact HS.out.drew)) 6).trans rfl), ((blk_cell (FSt.s (by first | exact HS.out | exact HS.out.drew)) 1).trans rfl)⟩ (fun hHeld => ?_)
     clear hK K
     refine nN (some 45) (h := ?_)
     refine pT 9 (some 46) (zb 11 1023) (h := ?_)
     refine last_ (i := 10) (N := none) (zb 11 2047) rfl rfl (by kernel_rfl) (by decide) (fun K hK => ?_)
     refine skip_ (w1 := ?_) (by rfl) rfl ?_ ?_
     rotate_left
     ·go_simp
      rfl
     refine hK.out _ _ ?_
     clear hK K
     refine done_ (by kernel_rfl) ?_
     have HS7 := Aside0.mk (FSt.setT HS.out i HIJ.out.1 HIJ.out.2 s_ HFR.out.1 HFR.out.2)
     clear HS HFR y1 zy1
     have HS := HS7
     clear HS7
     go_wp2
     go_roundg k1
     case measure => have := HK1.out; omega
     case rel => exact ⟨wrap64 (i + 1), tt.set i.toNat s_, rfl, HH, ⟨by have := HK1.out; omega⟩, HS, ⟨by have := HW4.out; simpa using this⟩⟩
    ·rw [if_neg ci] at H
     obtain rfl := Option.some.inj H
     have b1 : decide (i < (D.l0.length : Int)) = false := decide_eq_false ci
     clear ci H
     clear p0 p1 p2 p3 p4 p5 p6 s0 s1
     obtain ⟨gs, gF, gT, X⟩ := Gd
     go_upto_region 12 with ((go_at_call 28; ((refine (New_q D.l0.length HSM.out _).mono ?_); rintro e Wq ⟨gq, cq, bq, rfl, hq, hg, hc, hb_, hb⟩; have HS0_ := Aside0.mk (FSt.below (FSt.withX HS.out HXL.out (X' := fun k => k = cq ∨ k = bq) (fun k h_ => by rcases h_ with rfl | rfl <;> assumption) (fun k h_ => Nat.lt_of_lt_of_le (HYO.out k h_) HW4.out)) hb); have HGQ := Aside0.mk (show gq ≠ gF ∧ gq ≠ gT from ⟨fun e_ => Nat.lt_irrefl _ (Nat.lt_of_lt_of_le (show gF < _ from HS.out.f.lt) (e_ ▸ hg)), fun e_ => Nat.lt_irrefl _ (Nat.lt_of_lt_of_le (show gT < _ from HS.out.t.lt) (e_ ▸ hg))⟩); have HCB := Aside0.mk (show w.heap.size ≤ cq ∧ w.heap.size ≤ bq from ⟨Nat.le_trans HS.out.B.size hc, Nat.le_trans HS.out.B.size hb_⟩); clear HS; have HS := HS0_; have HQ := Aside0.mk hq; clear HS0_ hq hg hc hb_ hb)))
     obtain ⟨Gq, eG⟩ : ∃ G : SD, G = ⟨gs, gF, gT, fun k => k = cq ∨ k = bq⟩ := ⟨_, rfl⟩
     rw [← eG] at HS
     have eg1 : gs = Gq.gs := by rw [eG]
     have eg2 : gF = Gq.gF := by rw [eG]
     have eg3 : gT = Gq.gT := by rw [eG]
     have HSX : Aside0 (∀ k, (k = cq ∨ k = bq) → Gq.X k) := ⟨by rw [eG]; exact fun _ h_ => h_⟩
     have HXS : Aside0 (∀ k, Gq.X k → (k = cq ∨ k = bq)) := ⟨by rw [eG]; exact fun _ h_ => h_⟩
     clear eG
     subst eg1 eg2 eg3
     clear HXL
     go_wp2
     go_loopg [51] k (fun kq v51 w' => ∃ (i : Int) (L : List Int), v51 = .int .i64 i ∧ Aside0 (fs_l1 kq D.l0.length i L = some L0) ∧ Aside0 (kq ≤ k) ∧ Aside0 (FSt w D Gq Yd (List.replicate D.l0.length []) tt w') ∧ Aside0 (QAt w' gq cq bq D.l0.length L))
     case atStart => exact ⟨0, _, rfl, H1, ⟨Nat.le_refl _⟩, HS, HQ⟩
     case round =>
      clear H1 HS HQ
      obtain ⟨i, L, rfl, HA, HK1, HS, HQ⟩ := hrel
      cases gk with
      | zero => exact absurd HA.out (by simp [fs_l1])
      | succ k1 =>
       have H := HA.out
       clear HA
       simp only [fs_l1] at H
       by_cases ci : i < (D.l0.length : Int)
       ·rw [if_pos ci] at H
        have b1 : decide (i < (D.l0.length : Int)) = true := decide_eq_true ci
        by_cases hp : 0 ≤ i ∧ i < (D.l0.length : Int) ∧ i ∉ L
        ·have hfp : fs_put D.l0.length L i = L ++ [i] := if_pos hp
         rw [hfp] at H
         have HH := Aside0.mk H
         have HP := Aside0.mk hp
         clear H hp ci hfp
         go_wp2_with ((go_at_call 29; ((refine (Put_in (w0 := w) i _ HQ.out HP.out.1 HP.out.2.1 HP.out.2.2 HS.out.B HCB.out.1 HCB.out.2).mono ?_); rintro e Wp ⟨rfl, hq, hk, hb⟩; replace HS := Aside0.mk (FSt.kept HS.out hk HSX.out hb); clear HQ; have HQ := Aside0.mk hq; clear hq hk hb)))
         go_roundg k1
         case measure => have := HK1.out; omega
         case rel => exact ⟨wrap64 (i + 1), _, rfl, HH, ⟨by have := HK1.out; omega⟩, HS, HQ⟩
        ·have hfp : fs_put D.l0.length L i = L := if_neg hp
         rw [hfp] at H
         have HH := Aside0.mk H
         have HP : Aside0 (¬ (0 ≤ i ∧ i < (D.l0.length : Int)) ∨ i ∈ L) := ⟨if hm : i ∈ L then .inr hm else .inl (fun h_ => hp ⟨h_.1, h_.2, hm⟩)⟩
         clear H hp ci hfp
         go_wp2_with ((go_at_call 29; ((refine (Put_out i _ HQ.out HP.out).mono ?_); rintro e Wp ⟨rfl, rfl⟩)))
         go_roundg k1
         case measure => have := HK1.out; omega
         case rel => exact ⟨wrap64 (i + 1), _, rfl, HH, ⟨by have := HK1.out; omega⟩, HS, HQ⟩
       ·rw [if_neg ci] at H
        obtain rfl := Option.some.inj H
        have b1 : decide (i < (D.l0.length : Int)) = false := decide_eq_false ci
        clear ci H
        go_upto_region 17 with (fail)
        go_wp2_with ((go_at_call 30; ((refine (take_q (w0 := w) _ HQ.out HS.out.B HCB.out.1 HCB.out.2).mono ?_); rintro e Wt ⟨rfl, hq, hk, hb⟩; replace HS := Aside0.mk (FSt.kept HS.out hk HSX.out hb); clear HQ; have HQ := Aside0.mk hq; clear hq hk hb)))
        go_loopg [11, 12] k (fun kq v11 v12 w' => ∃ (L : List Int) (fr tt : List (List Int)), v11 = .int .i64 (L.head?.getD 0) ∧ v12 = .bool (!L.isEmpty) ∧ Aside0 (fs_l2 kq D.l0 D.bk D.al D.wd D.l4 D.l5 D.l6 Yd.ah Yd.bh fr tt L = some (q1', q2')) ∧ Aside0 (kq ≤ k) ∧ Aside0 (FSt w D Gq Yd fr tt w') ∧ Aside0 (QAt w' gq cq bq D.l0.length L.tail))
        case atStart => exact ⟨L, _, _, (by first | rfl | simp), (by first | rfl | simp), H2, ⟨Nat.le_refl _⟩, HS, HQ⟩
        case round =>
         clear H2 HS HQ
         obtain ⟨L, fr, tt, rfl, rfl, HA, HK1, HS, HQ⟩ := hrel
         cases gk with
         | zero => exact absurd HA.out (by simp [fs_l2])
         | succ k1 =>
          have H := HA.out
          clear HA
          cases L with
          | nil =>
           simp only [fs_l2] at H
           obtain ⟨rfl, rfl⟩ := Prod.mk.inj (Option.some.inj H)
           clear H
           have bl : (!([] : List Int).isEmpty) = false := rfl
           have p0 := (blk_cell HS.out.p 0).trans rfl
           have p1 := (blk_cell HS.out.p 1).trans rfl
           have p2 := (blk_cell HS.out.p 2).trans rfl
           have p3 := (blk_cell HS.out.p 3).trans rfl
           have p4 := (blk_cell HS.out.p 4).trans rfl
           have p5 := (blk_cell HS.out.p 5).trans rfl
           have p6 := (blk_cell HS.out.p 6).trans rfl
           have s0 := (blk_cell HS.out.s 0).trans rfl
           have s1 := (blk_cell HS.out.s 1).trans rfl
           (try simp only [List.getElem?_toArray, List.getElem?_cons_zero, List.getElem?_cons_succ] at p0 p1 p2 p3 p4 p5 p6 s0 s1)
           have r0_ := (blk_cell HS.out.r 0).trans rfl
           have r1_ := (blk_cell HS.out.r 1).trans rfl
           simp only [List.getElem?_toArray, List.getElem?_cons_zero, List.getElem?_cons_succ] at r0_ r1_
           have z0_ := blk_frozen HS.out.r 0
           have z1_ := blk_frozen HS.out.r 1
           go_wp2
           refine bodyPost_ret (results_ct rfl _ _ (w.heap.size + 1) 36 #[.slice (some ⟨Gq.gF, 0, none⟩) fr.length fr.length, .slice (some ⟨Gq.gT, 0, none⟩) tt.length tt.length] (0, 0) _ rfl ?hg hu36 rfl (by kernel_rfl)) rfl ?_
           case hg =>
            have h_ := blk_set (blk_set HS.out.r 0 (.slice (some ⟨Gq.gF, 0, none⟩) fr.length fr.length)) 1 (.slice (some ⟨Gq.gT, 0, none⟩) tt.length tt.length)
            simpa using h_
           have o1 : ∀ k, Gq.ok w k → k ≠ w.heap.size + 1 := fun k h_ => by have := h_.1; omega
           have f1 := (HS.out.f.far (p := ⟨w.heap.size + 1, 0, none⟩) (show Gq.gF ≠ w.heap.size + 1 by have := HS.out.hF; omega) o1 (.slice (some ⟨Gq.gF, 0, none⟩) fr.length fr.length)).far (p := ⟨w.heap.size + 1, 1, none⟩) (show Gq.gF ≠ w.heap.size + 1 by have := HS.out.hF; omega) o1 (.slice (some ⟨Gq.gT, 0, none⟩) tt.length tt.length)
           have f2 := (HS.out.t.far (p := ⟨w.heap.size + 1, 0, none⟩) (show Gq.gT ≠ w.heap.size + 1 by have := HS.out.hT; omega) o1 (.slice (some ⟨Gq.gF, 0, none⟩) fr.length fr.length)).far (p := ⟨w.heap.size + 1, 1, none⟩) (show Gq.gT ≠ w.heap.size + 1 by have := HS.out.hT; omega) o1 (.slice (some ⟨Gq.gT, 0, none⟩) tt.length tt.length)
           have hF := HS.out.hF
           have hT := HS.out.hT
           refine ⟨_, _, rfl, f1.N w.heap.size (by omega) ⟨fun e_ => HS.out.nFT (Option.some.inj e_), by omega⟩ (fun k h_ => ⟨⟨fun e_ => h_.2.2.2.1 (Option.some.inj e_), by have := h_.1; omega⟩, h_.2.2.1⟩) (by rw [HS.out.ln]; exact HSM.out), f2.N w.heap.size (by omega) ⟨fun e_ => HS.out.nFT (Option.some.inj e_).symm, by omega⟩ (fun k h_ => ⟨⟨fun e_ => h_.2.2.1 (Option.some.inj e_), by have := h_.1; omega⟩, h_.2.2.2.1⟩) (by rw [HS.out.lt]; exact HSM.out), ?_⟩
           exact (HS.out.B.setCell (show w.heap.size ≤ w.heap.size + 1 by omega) _).setCell (show w.heap.size ≤ w.heap.size + 1 by omega) _
          | cons x L =>
           simp only [fs_l2] at H
           by_cases hx : 0 ≤ x ∧ x < (fr.length : Int) ∧ x < (tt.length : Int) ∧ x < (Yd.bh.length : Int)
           rotate_left
           ·rw [if_neg hx] at H; cases H
           rw [if_pos hx] at H
           obtain ⟨s_, hFr, H⟩ := Option.bind_eq_some_iff.mp H
           obtain ⟨t_, hTo, H⟩ := Option.bind_eq_some_iff.mp H
           obtain ⟨bb, hSm, H⟩ := Option.bind_eq_some_iff.mp H
           have HFR := Aside0.mk hFr
           have HTO := Aside0.mk hTo
           have HSM2 := Aside0.mk hSm
           have HH := Aside0.mk H
           have HX := Aside0.mk hx
           obtain ⟨x0, x1, x2, x3⟩ := hx
           have HTL : Aside0 (tt.length ≤ 65536) := ⟨by rw [HS.out.lt]; exact HSM.out⟩
           have bl : (!(x :: L).isEmpty) = true := rfl
           have b1 : decide (0 ≤ x) = true := decide_eq_true x0
           have b2 : decide (x < (fr.length : Int)) = true := decide_eq_true x1
           have b3 : decide (x < (tt.length : Int)) = true := decide_eq_true x2
           have b4 : decide (x < (Yd.bh.length : Int)) = true := decide_eq_true x3
           replace x0 := eq_true x0
           replace x1 := eq_true x1
           replace x2 := eq_true x2
           replace x3 := eq_true x3
           clear hFr hTo hSm H
           replace HQ : Aside0 (QAt _ gq cq bq D.l0.length L) := ⟨HQ.out⟩
           have p0 := (blk_cell HS.out.p 0).trans rfl
           have p1 := (blk_cell HS.out.p 1).trans rfl
           have p2 := (blk_cell HS.out.p 2).trans rfl
           have p3 := (blk_cell HS.out.p 3).trans rfl
           have p4 := (blk_cell HS.out.p 4).trans rfl
           have p5 := (blk_cell HS.out.p 5).trans rfl
           have p6 := (blk_cell HS.out.p 6).trans rfl
           have s0 := (blk_cell HS.out.s 0).trans rfl
           have s1 := (blk_cell HS.out.s 1).trans rfl
           (try simp only [List.getElem?_toArray, List.getElem?_cons_zero, List.getElem?_cons_succ] at p0 p1 p2 p3 p4 p5 p6 s0 s1)
           go_upto_region 20 with (fail)
           refine start_ (n := 11) (S := fun w' => w'.cell? ⟨w.heap.size, 0, none⟩ = some (.slice D.A0 D.l0.length D.c0) ∧ w'.cell? ⟨w.heap.size, 1, none⟩ = some (.bool D.bk) ∧ w'.cell? ⟨w.heap.size, 2, none⟩ = some (.bool D.al) ∧ w'.cell? ⟨w.heap.size, 3, none⟩ = some (.int .i64 D.wd) ∧ w'.cell? ⟨w.heap.size, 4, none⟩ = some (.slice D.A4 D.l4.length D.c4) ∧ w'.cell? ⟨w.heap.size, 5, none⟩ = some (.slice D.A5 D.l5.length D.c5) ∧ w'.cell? ⟨w.heap.size, 6, none⟩ = some (.slice D.A6 D.l6.length D.c6) ∧ w'.cell? ⟨Gq.gs, 0, none⟩ = some (.slice (some ⟨Gq.gF, 0, none⟩) fr.length fr.length) ∧ w'.cell? ⟨Gq.gs, 1, none⟩ = some (.slice (some ⟨Gq.gT, 0, none⟩) tt.length tt.length)) (ds := [10]) #[false, false, false, false, false, false, false, false, false, false, false] (by kernel_rfl) rfl rfl ⟨p0, p1, p2, p3, p4, p5, p6, s0, s1⟩ (fun hHeld => ?_)
           refine pT 0 (some 69) (zb 11 1) (h := ?_)
           refine pT 2 (some 71) (zb 11 5) (h := ?_)
           refine pT 4 (some 73) (zb 11 21) (h := ?_)
           refine pT 5 (some 74) (zb 11 53) (h := ?_)
           refine pT 6 (some 75) (zb 11 117) (h := ?_)
           refine tT 1 (some 70) (zb 11 119) hHeld (h := ?_)
           refine tT 3 (some 72) (zb 11 127) hHeld (h := ?_)
           refine tT 7 (some 76) (zb 11 255) hHeld (h := ?_)
           refine one_ (i := 8) (N := some 77) (zb 11 511) rfl rfl (by kernel_rfl) (by decide) (fun K hK => ?_)
           refine goes_ Tryd.func31 (by kernel_rfl) rfl #[.agg #[.slice D.A0 D.l0.length D.c0, .bool D.bk, .bool D.al, .int .i64 D.wd, .slice D.A4 D.l4.length D.c4, .slice D.A5 D.l5.length D.c5, .slice D.A6 D.l6.length D.c6], .int .i64 x, .slice Yd.Aa Yd.ah.length Yd.ca, .slice (some ⟨Gq.gT, 0, none⟩) tt.length tt.length] (by rfl) rfl rfl (by simp only [List.map_toArray, List.map_cons, List.map_nil]; rfl) ?_
           with_reducible refine (flow_Problem_from.calls k1 D.A0 D.c0 D.l0 D.bk D.al D.wd D.A4 D.c4 D.l4 D.A5 D.c5 D.l5 D.A6 D.c6 D.l6 x Yd.Aa Yd.ca Yd.ah (some ⟨Gq.gT, 0, none⟩) tt.length tt s_ _ (PD.Ok.below (FSt.o (by first | exact HS.out | exact HS.out.drew)) (FSt.B (by first | exact HS.out | exact HS.out.drew))).r0 HD.out.c0 (PD.Ok.below (FSt.o (by first | exact HS.out | exact HS.out.drew)) (FSt.B (by first | exact HS.out | exact HS.out.drew))).r4 HD.out.c4 (PD.Ok.below (FSt.o (by first | exact HS.out | exact HS.out.drew)) (FSt.B (by first | exact HS.out | exact HS.out.drew))).r5 HD.out.c5 (PD.Ok.below (FSt.o (by first | exact HS.out | exact HS.out.drew)) (FSt.B (by first | exact HS.out | exact HS.out.drew))).r6 HD.out.c6 (Kd.F_now (FSt.a (by first | exact HS.out | exact HS.out.drew))) HS.out.ac (SetsAt.C (FSt.t (by first | exact HS.out | exact HS.out.drew)) HTL.out) (Nat.le_refl _) HFR.out).mono ?_
           rintro e w6 ⟨v_, rfl, ho, hb⟩
           refine ⟨_, rfl, ?_⟩
           obtain ⟨A2, c2, ev_⟩ := Kd.R_slice ho
           subst ev_
           have hf_ := FSt.fresh (by first | exact HS.out | exact HS.out.drew) (fun k h_ => by have l_ := HQ.out.lts; rcases HXS.out k h_ with e_ | e_ <;> rw [e_] <;> first | exact l_.2.1 | exact l_.2.2 | (simp only [size_drew_]; omega)) (Nat.le_refl _) ho
           have HFS := Aside0.mk hf_.2
           replace HS := Aside0.mk (FSt.below (by first | exact HS.out | exact HS.out.drew) hb)
           replace HQ := Aside0.mk (QAt.below (by first | exact HQ.out | exact QAt.below HQ.out (below_drew (Below.refl _ _))) hb)
           clear ho hb hf_
           obtain ⟨A3, c3, y1, zy1, _, _⟩ := HS.out.f.get x HX.out.1 HX.out.2.1
           refine hK.out _ _ ⟨((blk_cell (FSt.p (by first | exact HS.out | exact HS.out.drew)) 0).trans rfl), ((blk_cell (FSt.p (by first | exact HS.out | exact HS.out.drew)) 1).trans rfl), ((blk_cell (FSt.p (by first | exact HS.out | exact HS.out.drew)) 2).trans rfl), ((blk_cell (FSt.p (by first | exact HS.out | exact HS.out.drew)) 3).trans rfl), ((blk_cell (FSt.p (by first | exact HS.out | exact HS.out.drew)) 4).trans rfl), ((blk_cell (FSt.p (by first | exact HS.out | exact HS.out.drew)) 5).trans rfl), ((blk_cell (FSt.p (by first | exact HS.out | exact HS.out.drew)) 6).trans rfl), ((blk_cell (FSt.s (by first | exact HS.out | exact HS.out.drew)) 0).trans rfl), ((blk_cell (FSt.s (by first | exact HS.out | exact HS.out.drew)) 1).trans rfl)⟩ (fun hHeld => ?_)
           clear hK K
           refine nN (some 77) (h := ?_)
           refine pT 9 (some 78) (zb 11 1023) (h := ?_)
           refine last_ (i := 10) (N := none) (zb 11 2047) rfl rfl (by kernel_rfl) (by decide) (fun K hK => ?_)
           refine skip_ (w1 := ?_) (by rfl) rfl ?_ ?_
           rotate_left
           ·go_simp
            rfl
           refine hK.out _ _ ?_
           clear hK K
           refine done_ (by kernel_rfl) ?_
           have HS8 := Aside0.mk (FSt.setF HS.out x HX.out.1 HX.out.2.1 s_ HFS.out.1 HFS.out.2)
           have HQ8 := Aside0.mk (q_far HQ.out (p := ⟨Gq.gF, x.toNat, none⟩) HGQ.out.1 (HS.out.hX cq (HSX.out cq (.inl rfl))).2.2.1 (HS.out.hX bq (HSX.out bq (.inr rfl))).2.2.1 (.slice A2 s_.length c2))
           clear HS HQ HFS y1 zy1 p0 p1 p2 p3 p4 p5 p6 s0 s1
           have HS := HS8
           have HQ := HQ8
           clear HS8 HQ8
           obtain ⟨fr2, efr⟩ : ∃ f_, f_ = fr.set x.toNat s_ := ⟨_, rfl⟩
           rw [← efr] at HS HH
           have el : fr2.length = fr.length := by rw [efr, List.length_set]
           have HX2 : Aside0 (x < (fr2.length : Int)) := ⟨by rw [el]; exact HX.out.2.1⟩
           have b5 : decide (x < (fr2.length : Int)) = true := decide_eq_true HX2.out
           have x5 := eq_true HX2.out
           obtain ⟨A4, c4, y4, zy4, l4_, f4_⟩ := HS.out.f.get x HX.out.1 HX2.out
           rw [efr, rd_set fr x HX.out.1 HX.out.2.1 s_] at y4 l4_ f4_
           have HF4 := Aside0.mk (And.intro l4_ f4_)
           clear l4_ f4_ el
           generalize HWX : World.setCell _ _ _ = W8 at *
           clear HWX
           have p0 := (blk_cell HS.out.p 0).trans rfl
           have p1 := (blk_cell HS.out.p 1).trans rfl
           have p2 := (blk_cell HS.out.p 2).trans rfl
           have p3 := (blk_cell HS.out.p 3).trans rfl
           have p4 := (blk_cell HS.out.p 4).trans rfl
           have p5 := (blk_cell HS.out.p 5).trans rfl
           have p6 := (blk_cell HS.out.p 6).trans rfl
           have s0 := (blk_cell HS.out.s 0).trans rfl
           have s1 := (blk_cell HS.out.s 1).trans rfl
           (try simp only [List.getElem?_toArray, List.getElem?_cons_zero, List.getElem?_cons_succ] at p0 p1 p2 p3 p4 p5 p6 s0 s1)
           go_upto_region 21 with (fail)
           refine start_ (n := 9) (S := fun w' => w'.cell? ⟨w.heap.size, 0, none⟩ = some (.slice D.A0 D.l0.length D.c0) ∧ w'.cell? ⟨w.heap.size, 1, none⟩ = some (.bool D.bk) ∧ w'.cell? ⟨w.heap.size, 2, none⟩ = some (.bool D.al) ∧ w'.cell? ⟨w.heap.size, 3, none⟩ = some (.int .i64 D.wd) ∧ w'.cell? ⟨w.heap.size, 4, none⟩ = some (.slice D.A4 D.l4.length D.c4) ∧ w'.cell? ⟨w.heap.size, 5, none⟩ = some (.slice D.A5 D.l5.length D.c5) ∧ w'.cell? ⟨w.heap.size, 6, none⟩ = some (.slice D.A6 D.l6.length D.c6) ∧ w'.cell? ⟨Gq.gs, 0, none⟩ = some (.slice (some ⟨Gq.gF, 0, none⟩) fr2.length fr2.length) ∧ w'.cell? ⟨Gq.gF, x.toNat, none⟩ = some (.slice A4 s_.length c4)) (ds := []) #[false, false, false, false, false, false, false, false, false] (by kernel_rfl) rfl rfl ⟨p0, p1, p2, p3, p4, p5, p6, s0, y4⟩ (fun hHeld => ?_)
           refine pT 1 (some 80) (zb 9 2) (h := ?_)
           refine pT 2 (some 81) (zb 9 6) (h := ?_)
           refine pT 4 (some 83) (zb 9 22) (h := ?_)
           refine tT 0 (some 79) (zb 9 23) hHeld (h := ?_)
           refine tT 3 (some 82) (zb 9 31) hHeld (h := ?_)
           refine pT 5 (some 84) (zb 9 63) (h := ?_)
           refine tT 6 (some 85) (zb 9 127) hHeld (h := ?_)
           refine one_ (i := 7) (N := some 86) (zb 9 255) rfl rfl (by kernel_rfl) (by decide) (fun K hK => ?_)
           refine goes_ Tryd.func32 (by kernel_rfl) rfl #[.agg #[.slice D.A0 D.l0.length D.c0, .bool D.bk, .bool D.al, .int .i64 D.wd, .slice D.A4 D.l4.length D.c4, .slice D.A5 D.l5.length D.c5, .slice D.A6 D.l6.length D.c6], .int .i64 x, .slice A4 s_.length c4] (by rfl) rfl rfl (by simp only [List.map_toArray, List.map_cons, List.map_nil]; rfl) ?_
           with_reducible refine (flow_Problem_to.calls k1 D.A0 D.c0 D.l0 D.bk D.al D.wd D.A4 D.c4 D.l4 D.A5 D.c5 D.l5 D.A6 D.c6 D.l6 x A4 c4 s_ t_ _ (PD.Ok.below (FSt.o (by first | exact HS.out | exact HS.out.drew)) (FSt.B (by first | exact HS.out | exact HS.out.drew))).r0 HD.out.c0 (PD.Ok.below (FSt.o (by first | exact HS.out | exact HS.out.drew)) (FSt.B (by first | exact HS.out | exact HS.out.drew))).r4 HD.out.c4 (PD.Ok.below (FSt.o (by first | exact HS.out | exact HS.out.drew)) (FSt.B (by first | exact HS.out | exact HS.out.drew))).r5 HD.out.c5 (PD.Ok.below (FSt.o (by first | exact HS.out | exact HS.out.drew)) (FSt.B (by first | exact HS.out | exact HS.out.drew))).r6 HD.out.c6 (Kd.C_below (Kd.F_now HF4.out.2) (by first | exact Below.refl _ _ | exact below_drew (Below.refl _ _))) HF4.out.1 HTO.out).mono ?_
           rintro e w7 ⟨v_, rfl, ho, hb⟩
           refine ⟨_, rfl, ?_⟩
           obtain ⟨A5, c5, ev_⟩ := Kd.R_slice ho
           subst ev_
           have hf_ := FSt.fresh (by first | exact HS.out | exact HS.out.drew) (fun k h_ => by have l_ := HQ.out.lts; rcases HXS.out k h_ with e_ | e_ <;> rw [e_] <;> first | exact l_.2.1 | exact l_.2.2 | (simp only [size_drew_]; omega)) (Nat.le_refl _) ho
           have HFT := Aside0.mk hf_.2
           have y5 := pw_cell_below hb (by first | exact y4 | exact y4)
           replace HS := Aside0.mk (FSt.below (by first | exact HS.out | exact HS.out.drew) hb)
           replace HQ := Aside0.mk (QAt.below (by first | exact HQ.out | exact QAt.below HQ.out (below_drew (Below.refl _ _))) hb)
           clear ho hb hf_
           refine hK.out _ _ ⟨((blk_cell (FSt.p (by first | exact HS.out | exact HS.out.drew)) 0).trans rfl), ((blk_cell (FSt.p (by first | exact HS.out | exact HS.out.drew)) 1).trans rfl), ((blk_cell (FSt.p (by first | exact HS.out | exact HS.out.drew)) 2).trans rfl), ((blk_cell (FSt.p (by first | exact HS.out | exact HS.out.drew)) 3).trans rfl), ((blk_cell (FSt.p (by first | exact HS.out | exact HS.out.drew)) 4).trans rfl), ((blk_cell (FSt.p (by first | exact HS.out | exact HS.out.drew)) 5).trans rfl), ((blk_cell (FSt.p (by first | exact HS.out | exact HS.out.drew)) 6).trans rfl), ((blk_cell (FSt.s (by first | exact HS.out | exact HS.out.drew)) 0).trans rfl), y5⟩ (fun hHeld => ?_)
           clear hK K
           refine nN (some 86) (h := ?_)
           refine pT 8 (some 13) (zb 9 511) (h := ?_)
           refine done_ (by kernel_rfl) ?_
           clear hHeld
           clear p0 p1 p2 p3 p4 p5 p6 s0 s1 y4 zy4 y5 HF4
           have s1 := (blk_cell HS.out.s 1).trans rfl
           simp only [List.getElem?_toArray, List.getElem?_cons_zero, List.getElem?_cons_succ] at s1
           obtain ⟨A6, c6, y6, zy6, l6_, f6_⟩ := HS.out.t.get x HX.out.1 HX.out.2.2.1
           have HF6 := Aside0.mk (And.intro l6_ f6_)
           clear l6_ f6_
           cases bb
           rotate_left
           ·have H := HH.out
            clear HH
            rw [if_pos rfl] at H
            have HH := Aside0.mk H
            clear H
            go_wp2_with (first | (go_at_call 33; ((with_reducible refine (bits_Same.calls k1 A5 c5 t_ A6 c6 (rd_L3 tt x) true _ (Kd.F_now HFT.out.2) HFT.out.1 (Kd.F_now HF6.out.2) HF6.out.1 HSM2.out).mono ?_); rintro e w8 ⟨rfl, hb⟩; replace HS := Aside0.mk (FSt.below HS.out hb); have HQ9 := Aside0.mk (QAt.below HQ.out hb); clear HQ; have HQ := HQ9; clear HQ9; have HFT9 := Aside0.mk (And.intro HFT.out.1 (Kd.F_below HFT.out.2 hb)); clear HFT; have HFT := HFT9; clear HFT9; clear hb)) | (go_at_call 30; ((refine (take_q (w0 := w) _ HQ.out HS.out.B HCB.out.1 HCB.out.2).mono ?_); rintro e Wt ⟨rfl, hq, hk, hb⟩; replace HS := Aside0.mk (FSt.kept HS.out hk HSX.out hb); clear HQ; have HQ := Aside0.mk hq; clear hq hk hb)))
            go_roundg k1
            case measure => have := HK1.out; omega
            case rel => exact ⟨L, fr2, tt, (by first | rfl | simp), (by first | rfl | simp), HH, ⟨by have := HK1.out; omega⟩, HS, HQ⟩
           have H := HH.out
           clear HH
           rw [if_neg (by simp)] at H
           have HH := Aside0.mk H
           clear H
           go_upto_region 23 with ((go_at_call 33; ((with_reducible refine (bits_Same.calls k1 A5 c5 t_ A6 c6 (rd_L3 tt x) false _ (Kd.F_now HFT.out.2) HFT.out.1 (Kd.F_now HF6.out.2) HF6.out.1 HSM2.out).mono ?_); rintro e w8 ⟨rfl, hb⟩; replace HS := Aside0.mk (FSt.below HS.out hb); have HQ9 := Aside0.mk (QAt.below HQ.out hb); clear HQ; have HQ := HQ9; clear HQ9; have HFT9 := Aside0.mk (And.intro HFT.out.1 (Kd.F_below HFT.out.2 hb)); clear HFT; have HFT := HFT9; clear HFT9; clear hb)))
           clear s1 y6 zy6
           have s1 := (blk_cell HS.out.s 1).trans rfl
           simp only [List.getElem?_toArray, List.getElem?_cons_zero, List.getElem?_cons_succ] at s1
           obtain ⟨A7, c7, y7, zy7, _, _⟩ := HS.out.t.get x HX.out.1 HX.out.2.2.1
           go_upto_region 24 with (fail)
           have HS8 := Aside0.mk (FSt.setT HS.out x HX.out.1 HX.out.2.2.1 t_ HFT.out.1 HFT.out.2)
           have HQ8 := Aside0.mk (q_far HQ.out (p := ⟨Gq.gT, x.toNat, none⟩) HGQ.out.2 (HS.out.hX cq (HSX.out cq (.inl rfl))).2.2.2 (HS.out.hX bq (HSX.out bq (.inr rfl))).2.2.2 (.slice A5 t_.length c5))
           clear HS HQ HFT y7 zy7 s1 HF6
           have HS := HS8
           have HQ := HQ8
           clear HS8 HQ8
           obtain ⟨tt2, ett⟩ : ∃ f_, f_ = tt.set x.toNat t_ := ⟨_, rfl⟩
           rw [← ett] at HS HH
           generalize HWX : World.setCell _ _ _ = W9 at *
           clear HWX
           obtain ⟨adR, AR, cR, eR, yR, lR, fR⟩ := row_F HS.out.b x HX.out.1 HX.out.2.2.2
           have eR2 := EY4.out.trans eR
           subst eR2
           clear eR
           have HRW := Aside0.mk fR
           clear fR
           go_wp2
           go_loopg [104] k1 (fun kq v104 w' => ∃ (i : Int) (L' : List Int), v104 = .int .i64 i ∧ Aside0 (fs_l3 kq D.l0 D.bk D.al D.wd D.l4 D.l5 D.l6 Yd.ah Yd.bh fr2 tt2 L' (rd_L1 Yd.bh x) i = some (q1', q2')) ∧ Aside0 (kq ≤ k1) ∧ Aside0 (FSt w D Gq Yd fr2 tt2 w') ∧ Aside0 (QAt w' gq cq bq D.l0.length L') ∧ Aside0 (Kd.F (Kd.int .i64) w' Yd.okA AR (rd_L1 Yd.bh x).length (rd_L1 Yd.bh x)))
           case atStart => exact ⟨0, _, rfl, HH, ⟨Nat.le_refl _⟩, HS, HQ, HRW⟩
           case round =>
            clear HH HS HQ HRW yR
            obtain ⟨i, L', rfl, HA, HK2, HS, HQ, HRW⟩ := hrel
            cases gk with
            | zero => exact absurd HA.out (by simp [fs_l3])
            | succ k2 =>
             have H := HA.out
             clear HA
             simp only [fs_l3] at H
             by_cases ci : i < ((rd_L1 Yd.bh x).length : Int)
             ·rw [if_pos ci] at H
              by_cases cj : 0 ≤ i
              rotate_left
              ·rw [if_neg cj] at H; cases H
              rw [if_pos cj] at H
              obtain ⟨adE, eE, yE⟩ := Kd.at_int (Kd.F_now HRW.out) i cj ci
              cases eE
              have b6 : decide (i < ((rd_L1 Yd.bh x).length : Int)) = true := decide_eq_true ci
              have b7 : decide (0 ≤ i) = true := decide_eq_true cj
              replace ci := eq_true ci
              replace cj := eq_true cj
              by_cases hp : 0 ≤ rd (rd_L1 Yd.bh x) i ∧ rd (rd_L1 Yd.bh x) i < (D.l0.length : Int) ∧ rd (rd_L1 Yd.bh x) i ∉ L'
              ·have hfp : fs_put D.l0.length L' (rd (rd_L1 Yd.bh x) i) = L' ++ [rd (rd_L1 Yd.bh x) i] := if_pos hp
               rw [hfp] at H
               have HH := Aside0.mk H
               have HP := Aside0.mk hp
               clear H hp hfp
               go_wp2_with ((go_at_call 29; ((refine (Put_in (w0 := w) (rd (rd_L1 Yd.bh x) i) _ HQ.out HP.out.1 HP.out.2.1 HP.out.2.2 HS.out.B HCB.out.1 HCB.out.2).mono ?_); rintro e Wp ⟨rfl, hq, hk, hb⟩; have HR9 := Aside0.mk (Kd.F_kept HRW.out hk (fun k q q2 => (HS.out.hA k q).2.2 (HSX.out k q2))); clear HRW; have HRW := HR9; clear HR9; replace HS := Aside0.mk (FSt.kept HS.out hk HSX.out hb); clear HQ; have HQ := Aside0.mk hq; clear hq hk hb)))
               go_roundg k2
               case measure => have := HK2.out; omega
               case rel => exact ⟨wrap64 (i + 1), _, rfl, HH, ⟨by have := HK2.out; omega⟩, HS, HQ, HRW⟩
              ·have hfp : fs_put D.l0.length L' (rd (rd_L1 Yd.bh x) i) = L' := if_neg hp
               rw [hfp] at H
               have HH := Aside0.mk H
               have HP : Aside0 (¬ (0 ≤ rd (rd_L1 Yd.bh x) i ∧ rd (rd_L1 Yd.bh x) i < (D.l0.length : Int)) ∨ rd (rd_L1 Yd.bh x) i ∈ L') := ⟨if hm : rd (rd_L1 Yd.bh x) i ∈ L' then .inr hm else .inl (fun h_ => hp ⟨h_.1, h_.2, hm⟩)⟩
               clear H hp hfp
               go_wp2_with ((go_at_call 29; ((refine (Put_out (rd (rd_L1 Yd.bh x) i) _ HQ.out HP.out).mono ?_); rintro e Wp ⟨rfl, rfl⟩)))
               go_roundg k2
               case measure => have := HK2.out; omega
               case rel => exact ⟨wrap64 (i + 1), _, rfl, HH, ⟨by have := HK2.out; omega⟩, HS, HQ, HRW⟩
             ·rw [if_neg ci] at H
              have b6 : decide (i < ((rd_L1 Yd.bh x).length : Int)) = false := decide_eq_false ci
              have HH := Aside0.mk H
              clear ci H
              go_wp2_with ((go_at_call 30; ((refine (take_q (w0 := w) _ HQ.out HS.out.B HCB.out.1 HCB.out.2).mono ?_); rintro e Wt ⟨rfl, hq, hk, hb⟩; replace HS := Aside0.mk (FSt.kept HS.out hk HSX.out hb); clear HQ; have HQ := Aside0.mk hq; clear hq hk hb)))
              go_roundg k2
              case measure => have := HK1.out; have := HK2.out; omega
              case rel => exact ⟨L', fr2, tt2, (by first | rfl | simp), (by first | rfl | simp), HH, ⟨by have := HK1.out; have := HK2.out; omega⟩, HS, HQ⟩
end Go.Proofs.YtanpghbakbebiaaDoor.P

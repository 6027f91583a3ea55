/- A part of it. -/
import Derived.Test.YtanpghbakbebiaaDoorFsM45
import Derived.Test.YtanpghbakbebiaaDoorFsP0
import Derived.Test.YtanpghbakbebiaaDoorFsP1
import Derived.Test.YtanpghbakbebiaaDoorFsP4
import Derived.Test.YtanpghbakbebiaaDoorFsP6
import Derived.Test.YtanpghbakbebiaaDoorFsP8
import Derived.Test.YtanpghbakbebiaaDoorFsP10
import Derived.Test.YtanpghbakbebiaaDoorFsP11
import Derived.Test.YtanpghbakbebiaaDoorFsM35
import Derived.Test.YtanpghbakbebiaaDoorFsOfB
import Derived.Test.YtanpghbakbebiaaDoorFsFlowS2
import Derived.Outline
set_option linter.unusedVariables false
namespace Go.Proofs.YtanpghbakbebiaaDoor.Pure
open Go.RowKit Go.Proofs.YtanpghbakbebiaaDoor.P Go.Proofs.YtanpghbakbebiaaDoorW.PrintWords Go.Proofs.YtanpghbakbebiaaDoorW.PrintLast Go.Proofs.YtanpghbakbebiaaDoorW.PrintMore
theorem works_ev18 : Ev (fun k => balustradelaw18_works.f k) true := Ev.of (fun k => balustradelaw18_works.mono k) (k := 80) (by kernel_rfl)
section
variable {E G K : List (List Int)} {S : List Int} {bk al : Bool} {W : Nat} {A B : List (List Int)} {s : List Int}
def HoldsAt (P : Pr) (fr tt : Fa) (k : Nat) : Prop := ∀ i, i < P.wd → fr k i = P.frm tt k i ∧ tt k i = (P.gen k i || (fr k i && !P.kil k i))
theorem holds_l1 (h : Prog E G K S W A B s) {ah : List (List Int)} (ha : Ahead (PP E G K S bk al W) bk E ah) {fr tt : List (List Int)} (hf : Sets fr E.length W) (ht : Sets tt E.length W) :
  ∀ d i, E.length - i = d → i ≤ E.length → ∃ r, Ev (fun q => flow_Holds.l1 q ah (E.length : Int) (i : Int) E bk al (W : Int) A B s fr tt) r ∧ (r = true ↔ ∀ k, i ≤ k → k < E.length → HoldsAt (PP E G K S bk al W) (bt fr) (bt tt) k) := by
 have hw := h.good.w
 have hn := h.good.n
 have lf := hf.len
 have lt := ht.len
 intro d
 induction d with
 | zero =>
  intro i hd hi
  obtain rfl : i = E.length := by omega
  refine ⟨true, ?_, ⟨fun _ k h1 h2 => by omega, fun _ => rfl⟩⟩
  apply Ev.step
  ·intro q
   rw [flow_Holds.l1, if_neg (by omega)]
  ·exact Ev.now _
 | succ d ih =>
  intro i hd hi
  have hlt : i < E.length := by omega
  obtain ⟨f, hf1, sf⟩ := from_set (bk := bk) (al := al) h ha ht hlt
  obtain ⟨b1, hb1, ib1⟩ := same_set hw (hf.set i hlt) sf
  obtain ⟨t, ht1, st⟩ := to_set (bk := bk) (al := al) h hlt (hf.set i hlt)
  obtain ⟨b2, hb2, ib2⟩ := same_set hw (ht.set i hlt) st
  obtain ⟨r, hr, ir⟩ := ih (i + 1) (by omega) (by omega)
  have hstep : ∀ q, flow_Holds.l1 (q + 1) ah (E.length : Int) (i : Int) E bk al (W : Int) A B s fr tt = ((flow_Problem_from.f q E bk al (W : Int) A B s (i : Int) ah tt).bind fun t317 => ((bits_Same.f q (fr.getD i []) t317).bind fun t320 => (if t320 = true then (if (i : Int) < (tt.length : Int) then ((flow_Problem_to.f q E bk al (W : Int) A B s (i : Int) (fr.getD i [])).bind fun t323 => ((bits_Same.f q (tt.getD i []) t323).bind fun t326 => (if t326 = true then (flow_Holds.l1 q ah (E.length : Int) ((i + 1 : Nat) : Int) E bk al (W : Int) A B s fr tt) else (some false)))) else (none)) else (some false)))) := by
   intro q
   rw [flow_Holds.l1, if_pos (by omega), if_pos (by omega), if_pos (by omega), rdL3_nat, rdL3_nat, wrap_succ i (by omega)]
  have hat : HoldsAt (PP E G K S bk al W) (bt fr) (bt tt) i ↔ b1 = true ∧ b2 = true := by
   rw [ib1, ib2]
   exact ⟨fun q => ⟨fun j hj => (q j hj).1, fun j hj => (q j hj).2⟩, fun q j hj => ⟨q.1 j hj, q.2 j hj⟩⟩
  refine ⟨b1 && (b2 && r), ?_, ?_⟩
  ·apply Ev.step hstep
   refine Ev.bind hf1 (Ev.bind hb1 ?_)
   cases b1
   ·exact Ev.congr (f := fun _ => some false) (fun q => by rw [if_neg (by simp)]) (Ev.now _)
   ·refine Ev.congr (fun q => by rw [if_pos rfl, if_pos (by omega)]) ?_
    refine Ev.bind ht1 (Ev.bind hb2 ?_)
    cases b2
    ·exact Ev.congr (f := fun _ => some false) (fun q => by rw [if_neg (by simp)]) (Ev.now _)
    ·exact Ev.congr (fun q => by rw [if_pos rfl]) hr
  ·rw [Bool.and_eq_true, Bool.and_eq_true]
   constructor
   ·rintro ⟨q1, q2, q3⟩ k hk hk2
    by_cases e : k = i
    ·rw [e]; exact hat.2 ⟨q1, q2⟩
    ·exact ir.1 q3 k (by omega) hk2
   ·intro q
    have := hat.1 (q i (Nat.le_refl _) hlt)
    exact ⟨this.1, this.2, ir.2 (fun k hk hk2 => q k (by omega) hk2)⟩
theorem holds_ev (h : Prog E G K S W A B s) (hr : Ev (fun q => flow_Right.f q E bk al (W : Int) A B s) true) {fr tt : List (List Int)} (hf : Sets fr E.length W) (ht : Sets tt E.length W) :
  ∃ r, Ev (fun q => flow_Holds.f q E bk al (W : Int) A B s fr tt) r ∧ (r = true ↔ ∀ k, k < E.length → HoldsAt (PP E G K S bk al W) (bt fr) (bt tt) k) := by
 have hw := h.good.w
 have hn := h.good.n
 have lf := hf.len
 have lt := ht.len
 obtain ⟨ah, bh, hway, ha, _⟩ := ways_ev (bk := bk) (al := al) h.good h.er A B s
 obtain ⟨r, h1, ir⟩ := holds_l1 (bk := bk) (al := al) h ha hf ht E.length 0 (by omega) (by omega)
 refine ⟨r, ?_, ir.trans ⟨fun q k hk => q k (by omega) hk, fun q k _ hk => q k hk⟩⟩
 have key : ∀ d i, E.length - i = d → i ≤ E.length → Ev (fun q => flow_Holds.l0 q (E.length : Int) (E.length : Int) (i : Int) E bk al (W : Int) A B s fr tt) r := by
  intro d
  induction d with
  | zero =>
   intro i hd hi
   obtain rfl : i = E.length := by omega
   apply Ev.step
   ·intro q
    rw [flow_Holds.l0, if_neg (by omega)]
   ·exact Ev.bind hway h1
  | succ d ih =>
   intro i hd hi
   apply Ev.step
   ·intro q
    rw [flow_Holds.l0, if_pos (by omega), if_pos (by omega), if_pos (by omega), rdL3_nat, rdL3_nat, wrap_succ i (by omega)]
   ·refine Ev.bind (setRight (by omega) (by omega) (hf.set i (by omega))) ?_
    refine Ev.congr (fun q => by rw [if_pos rfl, if_pos (by omega)]) ?_
    refine Ev.bind (setRight (by omega) (by omega) (ht.set i (by omega))) ?_
    exact Ev.congr (fun q => by rw [if_pos rfl]) (ih (i + 1) (by omega) (by omega))
 refine Ev.bind hr ?_
 refine Ev.congr (fun q => by rw [if_pos rfl, if_pos (by omega)]) ?_
 have e : ((tt.length : Int) != (E.length : Int)) = false := by simp [lt]
 rw [e]
 apply Ev.step
 ·intro q
  rw [flow_Holds.j0, if_neg (by simp)]
 ·exact key E.length 0 (by omega) (by omega)
theorem same18_ev (hW : W ≤ 65536) {n : Nat} (hn : n ≤ 65536) {T : List (List Int)} {l : List (List Bool)} (hT : Sets T n W) (hl : Shape l n W) (h : ∀ k i, k < n → i < W → bt T k i = tab l k i) : Ev (fun q => balustradelaw18_same.f q T l (W : Int)) true := by
 have l1 := hT.len
 have l2 := hl.len
 have key : ∀ d i, n - i = d → i ≤ n → Ev (fun q => balustradelaw18_same.l0 q T l (W : Int) (i : Int)) true := by
  intro d
  induction d with
  | zero =>
   intro i hd hi
   obtain rfl : i = n := by omega
   apply Ev.step
   ·intro q
    rw [balustradelaw18_same.l0, if_neg (by omega)]
   ·exact Ev.now _
  | succ d ih =>
   intro i hd hi
   have hi2 : i < n := by omega
   have st := hT.set i hi2
   have hrow := hl.row i hi2
   have key1 : ∀ e j, W - j = e → j ≤ W → Ev (fun q => balustradelaw18_same.l1 q T l (W : Int) (i : Int) (j : Int)) true := by
    intro e
    induction e with
    | zero =>
     intro j he hj
     obtain rfl : j = W := by omega
     apply Ev.step
     ·intro q
      rw [balustradelaw18_same.l1, if_neg (by omega), wrap_succ i (by omega)]
     ·exact ih (i + 1) (by omega) (by omega)
    | succ e ihe =>
     intro j he hj
     have er : rd_L5 l (i : Int) = l.getD i [] := by simp [rd_L5]
     have er2 : rdOf false (l.getD i []) (j : Int) = tab l i j := by simp [rdOf, tab]
     have e3 : bitL (T.getD i []) j = tab l i j := h i j hi2 (by omega)
     apply Ev.step
     ·intro q
      rw [balustradelaw18_same.l1, if_pos (by omega), if_pos (by omega), if_pos (by omega), rdL3_nat, has_val st.w (by omega), Option.bind_some, if_pos (by omega), if_pos (by omega), er, if_pos (by omega), er2, Int.toNat_natCast, e3, decide_eq_true (show (0 : Int) ≤ (j : Int) by omega), Bool.true_and, bne_self_eq_false, if_neg (by simp), wrap_succ j (by omega)]
     ·exact ihe (j + 1) (by omega) (by omega)
   apply Ev.step
   ·intro q
    rw [balustradelaw18_same.l0, if_pos (by omega), if_pos (by omega), rdL3_nat]
   ·refine Ev.bind (setRight (by omega) (by omega) st) ?_
    exact Ev.congr (fun q => by rw [if_pos rfl]; rfl) (key1 W 0 (by omega) (by omega))
 exact Ev.congr (fun q => by rw [balustradelaw18_same.f, if_pos (by omega)]; rfl) (key n 0 (by omega) (by omega))
end
inductive SolvesPlan (k : Nat) (E G K : List (List Int)) (S : List Int) (bk al : Bool) (wd : Int) : Prop
 | no (h0 : balustradelaw18_few.f k E bk al wd G K S = some false)
 | bad (t s : List Int) (A C B D : List (List Int)) (h0 : balustradelaw18_few.f k E bk al wd G K S = some true) (h1 : of_f k wd G K S = some (t, s, (A, C), (B, D))) (h2 : fs_f k E bk al wd A B s = some ([], [], false)) (h3 : balustraderef18_May.f k E bk al wd C D t = some false) (h4 : flow_Right.f k E bk al wd A B s = some false)
 | good (t s : List Int) (A C B D fr tt : List (List Int)) (F T : List (List Bool)) (h0 : balustradelaw18_few.f k E bk al wd G K S = some true) (h1 : of_f k wd G K S = some (t, s, (A, C), (B, D))) (h2 : fs_f k E bk al wd A B s = some (fr, tt, true)) (h3 : balustraderef18_May.f k E bk al wd C D t = some true) (h4 : flow_Right.f k E bk al wd A B s = some true) (h5 : flow_Holds.f k E bk al wd A B s fr tt = some true) (h6 : rs_f k E bk al wd C D t = some (F, T)) (h7 : balustradelaw18_same.f k fr F wd = some true) (h8 : balustradelaw18_same.f k tt T wd = some true)
theorem sz_ins {E G K : List (List Int)} {S : List Int} (h : Sz E G K S) (wd : Int) : Sz E (G.map (ins wd)) (K.map (ins wd)) (ins wd S) :=
 ⟨h.e, by rw [List.length_map]; exact h.g, by rw [List.length_map]; exact h.k, Nat.lt_of_le_of_lt (ins_len _ _) h.s, h.er, fun r hr => by
  obtain ⟨x, hx, rfl⟩ := List.mem_map.1 hr
  exact Nat.lt_of_le_of_lt (ins_len _ _) (h.gr x hx), fun r hr => by
  obtain ⟨x, hx, rfl⟩ := List.mem_map.1 hr
  exact Nat.lt_of_le_of_lt (ins_len _ _) (h.kr x hx)⟩
theorem prog_of {E G K : List (List Int)} {S : List Int} {wd : Int} (h : Sz E G K S) (hf : Few E G K S wd) (hm : mayV E (G.map (ins wd)) (K.map (ins wd)) wd = true) {ofv : List Int → List Int} (hof : 0 ≤ wd ∧ wd ≤ 65536 → ∀ l, l.length < 17592186044416 → SetOf wd (ofv l) (fun i => decide ((i : Int) ∈ ins wd l))) :
  wd = ((wd.toNat : Nat) : Int) ∧ Prog E (G.map (ins wd)) (K.map (ins wd)) (ins wd S) wd.toNat (G.map ofv) (K.map ofv) (ofv S) := by
 unfold mayV at hm
 simp only [Bool.and_eq_true, decide_eq_true_eq, List.length_map] at hm
 obtain ⟨h0, h1, h2, h3, h4⟩ := hm
 have e : wd = ((wd.toNat : Nat) : Int) := by omega
 have hs := hof ⟨h0, h1⟩
 refine ⟨e, ⟨⟨sz_ins h wd, by have := hf.e; omega, by rw [List.length_map]; exact h2, by rw [List.length_map]; exact h3, ?_, by omega⟩, hf.er, by rw [List.length_map]; exact h2, by rw [List.length_map]; exact h3, ?_, ?_, ?_⟩⟩
 ·unfold edgesOk at h4
  simp only [List.all_eq_true, Bool.and_eq_true, decide_eq_true_eq] at h4
  exact h4
 ·intro k hk
  rw [getD_map ofv G [] [] (by omega), getD_map (ins wd) G [] [] (by omega), ← e]
  exact hs _ (h.gr _ (getD_mem G [] (by omega)))
 ·intro k hk
  rw [getD_map ofv K [] [] (by omega), getD_map (ins wd) K [] [] (by omega), ← e]
  exact hs _ (h.kr _ (getD_mem K [] (by omega)))
 ·rw [← e]; exact hs _ h.s
theorem right_of {E G K : List (List Int)} {S : List Int} {bk al : Bool} {wd : Int} (h : Sz E G K S) (hf : Few E G K S wd) {ofv : List Int → List Int} (hof : 0 ≤ wd ∧ wd ≤ 65536 → ∀ l, l.length < 17592186044416 → SetOf wd (ofv l) (fun i => decide ((i : Int) ∈ ins wd l))) (hno : wd < 0 ∨ 65536 < wd → ∀ l, l.length < 17592186044416 → ofv l = []) :
  Ev (fun q => flow_Right.f q E bk al wd (G.map ofv) (K.map ofv) (ofv S)) (mayV E (G.map (ins wd)) (K.map (ins wd)) wd) := by
 have he := hf.e
 refine rt_ev (by omega) h.er (by simp) (by simp) (fun hw => ⟨fun x hx => ?_, fun x hx => ?_, setRight hw.1 hw.2 (hof hw _ h.s)⟩) (fun hw => ?_)
 ·obtain ⟨r, hr, rfl⟩ := List.mem_map.1 hx
  exact setRight hw.1 hw.2 (hof hw _ (h.gr _ hr))
 ·obtain ⟨r, hr, rfl⟩ := List.mem_map.1 hx
  exact setRight hw.1 hw.2 (hof hw _ (h.kr _ hr))
 ·rw [hno hw _ h.s]
  exact noRight hw wfL_nil (by simp)
theorem solves_plan {E G K : List (List Int)} {S : List Int} (bk al : Bool) {wd : Int} (h : Sz E G K S) (hwd : wd ≤ 9223372036854775807) : ∃ k, SolvesPlan k E G K S bk al wd ∧ balustradelaw18_works.f k = some true := by
 obtain ⟨Kw, hw⟩ := works_ev18
 obtain ⟨b, ⟨K0, h0⟩, hfew⟩ := few_ev (bk := bk) (al := al) (wd := wd) h
 cases b
 ·exact ⟨Kw + K0, .no (h0 _ (by omega)), hw _ (by omega)⟩
 ·have hf := hfew rfl
  obtain ⟨ofv, o1, o2, o3⟩ := exists_ofv wd hwd
  obtain ⟨K1, h1⟩ := of_f_ev h (by have := hf.g; omega) (by have := hf.k; omega) wd ofv o1
  obtain ⟨K3, h3⟩ := may_ev (bk := bk) (al := al) (wd := wd) (sz_ins h wd)
  have hr := right_of (bk := bk) (al := al) h hf o2 o3
  cases hm : mayV E (G.map (ins wd)) (K.map (ins wd)) wd
  ·rw [hm] at hr h3
   obtain ⟨K2, h2⟩ : Ev (fun q => fs_f q E bk al wd (G.map ofv) (K.map ofv) (ofv S)) ([], [], false) := by
    refine Ev.bind hr ?_
    exact Ev.congr (f := fun _ => some _) (fun q => by rw [if_neg (by simp)]) (Ev.now _)
   obtain ⟨K4, h4⟩ := hr
   exact ⟨Kw + K0 + K1 + K2 + K3 + K4, .bad _ _ _ _ _ _ (h0 _ (by omega)) (h1 _ (by omega)) (h2 _ (by omega)) (h3 _ (by omega)) (h4 _ (by omega)), hw _ (by omega)⟩
  ·rw [hm] at hr h3
   obtain ⟨ew, hp⟩ := prog_of h hf hm o2
   rw [ew] at hr h1 h3 h0 ⊢
   generalize wd.toNat = W at *
   subst ew
   obtain ⟨fr, tt, ⟨K2, h2⟩, lf, st, lst, sf⟩ := fs_ev (bk := bk) (al := al) hp hr
   have sfr : Sets fr E.length W := ⟨lf, fun k hk => (sf k hk).self⟩
   obtain ⟨F, T, ⟨K6, h6⟩, shF, shT, lst2, fT⟩ := rs_ev (bk := bk) (al := al) hp.good
   have eT : ∀ k i, k < E.length → i < W → bt tt k i = tab T k i := fun k i hk hi => Pr.lst_eq lst lst2 hk hi
   have eF : ∀ k i, k < E.length → i < W → bt fr k i = tab F k i := fun k i hk hi => by
    rw [fT k i hk hi]
    exact ((sf k hk).bit hi).trans (Pr.frm_congr (prOf_ok (bk := bk) (al := al) hp.good) (fun k' hk' => eT k' i hk' hi) k)
   obtain ⟨K7, h7⟩ := same18_ev hp.good.w hp.good.n sfr shF eF
   obtain ⟨K8, h8⟩ := same18_ev hp.good.w hp.good.n st shT eT
   obtain ⟨r, ⟨K5, h5⟩, hr5⟩ := holds_ev (bk := bk) (al := al) hp hr sfr st
   have : r = true := hr5.2 (fun k hk i hi => ⟨(sf k hk).bit hi, by
    have e1 := lst.1 k i hk hi
    have e2 : bt fr k i = (PP E (G.map (ins (W : Int))) (K.map (ins (W : Int))) (ins (W : Int) S) bk al W).frm (bt tt) k i := (sf k hk).bit hi
    rw [e1, e2]; rfl⟩)
   subst this
   obtain ⟨K4, h4⟩ := hr
   exact ⟨Kw + K0 + K1 + K2 + K3 + K4 + K5 + K6 + K7 + K8, .good _ _ _ _ _ _ _ _ _ _ (h0 _ (by omega)) (h1 _ (by omega)) (h2 _ (by omega)) (h3 _ (by omega)) (h4 _ (by omega)) (h5 _ (by omega)) (h6 _ (by omega)) (h7 _ (by omega)) (h8 _ (by omega)), hw _ (by omega)⟩
end Go.Proofs.YtanpghbakbebiaaDoor.Pure
set_option linter.unusedVariables false
set_option linter.unusedSimpArgs false
namespace Go.Proofs.YtanpghbakbebiaaDoor.P
open Go Go.RowKit Go.Proofs.YtanpghbakbebiaaDoorW.PrintWords Go.Proofs.YtanpghbakbebiaaDoorW.PrintLast Go.Proofs.YtanpghbakbebiaaDoorW.PrintMore
section
variable {w wb W W1 : World} {g : Nat} {o o' : Obj} {L : List (Nat × Obj)}
structure LW (w wb : World) (L : List (Nat × Obj)) (W : World) : Prop where
 B : Below w.heap.size w W
 Bb : Below wb.heap.size wb W
 bx : ∀ p ∈ L, W.heap[p.1]? = some p.2
theorem LW.start (w : World) : LW w w [] w := ⟨Below.refl _ _, Below.refl _ _, fun p hp => by cases hp⟩
theorem LW.below (h : LW w wb L W) (hb : Below W.heap.size W W1) : LW w wb L W1 := ⟨below_step h.B hb, below_step h.Bb hb, fun p hp => blk_below (h.bx p hp) hb⟩
theorem LW.now (h : LW w wb L W) : LW w W L W := ⟨h.B, Below.refl _ _, h.bx⟩
theorem LW.add (h : LW w wb L W) (hb : Below W.heap.size W W1) (hx : W1.heap[g]? = some o) : LW w wb ((g, o) :: L) W1 :=
 ⟨below_step h.B hb, below_step h.Bb hb, fun p hp => by
  rcases List.mem_cons.1 hp with rfl | hp
  ·exact hx
  ·exact blk_below (h.bx p hp) hb⟩
theorem LW.b0 {p0 : Nat × Obj} (h : LW w wb (p0 :: L) W) : W.heap[p0.1]? = some p0.2 := h.bx _ (List.mem_cons_self ..)
theorem LW.b1 {p0 p1 : Nat × Obj} (h : LW w wb (p0 :: p1 :: L) W) : W.heap[p1.1]? = some p1.2 := h.bx _ (List.mem_cons_of_mem _ (List.mem_cons_self ..))
theorem LW.b2 {p0 p1 p2 : Nat × Obj} (h : LW w wb (p0 :: p1 :: p2 :: L) W) : W.heap[p2.1]? = some p2.2 := h.bx _ (List.mem_cons_of_mem _ (List.mem_cons_of_mem _ (List.mem_cons_self ..)))
theorem LW.b3 {p0 p1 p2 p3 : Nat × Obj} (h : LW w wb (p0 :: p1 :: p2 :: p3 :: L) W) : W.heap[p3.1]? = some p3.2 := h.bx _ (List.mem_cons_of_mem _ (List.mem_cons_of_mem _ (List.mem_cons_of_mem _ (List.mem_cons_self ..))))
theorem LW.put0 (h : LW w wb ((g, o) :: L) W) (hB : Below w.heap.size w W1) (hBb : Below wb.heap.size wb W1) (hf : ∀ k, k ≠ g → W1.heap[k]? = W.heap[k]?) (hx : W1.heap[g]? = some o') (hn : ∀ p ∈ L, p.1 ≠ g) : LW w wb ((g, o') :: L) W1 :=
 ⟨hB, hBb, fun p hp => by
  rcases List.mem_cons.1 hp with rfl | hp
  ·exact hx
  ·exact (hf _ (hn p hp)).trans (h.bx p (List.mem_cons_of_mem _ hp))⟩
theorem LW.put1 {p0 : Nat × Obj} (h : LW w wb (p0 :: (g, o) :: L) W) (hB : Below w.heap.size w W1) (hBb : Below wb.heap.size wb W1) (hf : ∀ k, k ≠ g → W1.heap[k]? = W.heap[k]?) (hx : W1.heap[g]? = some o') (hn : ∀ p ∈ p0 :: L, p.1 ≠ g) : LW w wb (p0 :: (g, o') :: L) W1 :=
 ⟨hB, hBb, fun p hp => by
  rcases List.mem_cons.1 hp with rfl | hp
  ·exact (hf _ (hn _ (List.mem_cons_self ..))).trans h.b0
  ·rcases List.mem_cons.1 hp with rfl | hp
   ·exact hx
   ·exact (hf _ (hn p (List.mem_cons_of_mem _ hp))).trans (h.bx p (List.mem_cons_of_mem _ (List.mem_cons_of_mem _ hp)))⟩
end
end Go.Proofs.YtanpghbakbebiaaDoor.P

/- A part of it. -/
import Derived.Test.YtanpghbakbebiaaDoorFsFlowP3
import Derived.Test.YtanpghbakbebiaaDoorFsP0
import Derived.Test.YtanpghbakbebiaaDoorFsP12
import Derived.Test.YtanpghbakbebiaaDoorFsM37
set_option linter.unusedVariables false
namespace Go.Proofs.YtanpghbakbebiaaDoor.Pure
open Go.RowKit Go.Proofs.YtanpghbakbebiaaDoor.P Go.Proofs.YtanpghbakbebiaaDoorW.PrintWords Go.Proofs.YtanpghbakbebiaaDoorW.PrintLast Go.Proofs.YtanpghbakbebiaaDoorW.PrintMore
def prOf (E : List (List Int)) (bk al : Bool) (W : Nat) (G K : List (List Int)) (S : List Int) : Pr where
 n := E.length
 wd := W
 all := al
 ah k := if bk = true then (E.getD k []).map Int.toNat else (List.range E.length).filter (fun j => decide ((k : Int) ∈ E.getD j []))
 beg k := if bk = true then (E.getD k []).length == 0 else k == 0
 st i := decide ((i : Int) ∈ S)
 gen k i := decide ((i : Int) ∈ G.getD k [])
 kil k i := decide ((i : Int) ∈ K.getD k [])
structure Good (E G K : List (List Int)) (S : List Int) (W : Nat) : Prop where
 sz : Sz E G K S
 n : E.length ≤ 65536
 g : G.length = E.length
 k : K.length = E.length
 e : ∀ r ∈ E, ∀ t ∈ r, 0 ≤ t ∧ t < (E.length : Int)
 w : W ≤ 65536
section
variable {E G K : List (List Int)} {S : List Int} {bk al : Bool} {W : Nat}
theorem prOf_ok (h : Good E G K S W) : (prOf E bk al W G K S).Ok := by
 intro k a ha
 unfold prOf at ha ⊢
 dsimp only at ha ⊢
 cases bk
 ·simp at ha; exact ha.1
 ·simp only [if_true, List.mem_map] at ha
  obtain ⟨t, ht, rfl⟩ := ha
  by_cases hk : k < E.length
  ·have := h.e _ (getD_mem E [] hk) t ht; omega
  ·rw [List.getD_eq_getElem?_getD, List.getElem?_eq_none (by omega)] at ht; cases ht
theorem ahead_ev (h : Good E G K S W) {k : Nat} (hk : k < E.length) : ∃ l : List Int, Ev (fun q => balustraderef18_ahead.f q E bk al (W : Int) G K S (k : Int)) l ∧ l.map Int.toNat = (prOf E bk al W G K S).ah k ∧ (∀ x ∈ l, 0 ≤ x ∧ x < (E.length : Int)) ∧ l.length < 17592186044416 ∧ (bk = true → l = E.getD k []) := by
 have hn := h.n
 cases hb : bk
 ·have key : ∀ d i (acc : List Int), E.length - i = d → i ≤ E.length → acc.length ≤ i → Ev (fun q => balustraderef18_ahead.l0 q (k : Int) acc (i : Int) E false al (W : Int) G K S) (acc ++ (((List.range E.length).drop i).filter (fun j => decide ((k : Int) ∈ E.getD j []))).map (fun (j : Nat) => (j : Int))) := by
   intro d
   induction d with
   | zero =>
    intro i acc hd hi ha
    obtain rfl : i = E.length := by omega
    apply Ev.step
    ·intro q
     rw [balustraderef18_ahead.l0, if_neg (by omega)]
    ·rw [show (List.range E.length).drop E.length = [] by simp]
     simp; exact Ev.now _
   | succ d ih =>
    intro i acc hd hi ha
    have hlt : i < E.length := by omega
    have hm := h.sz.er _ (getD_mem E [] hlt)
    apply Ev.step
    ·intro q
     rw [balustraderef18_ahead.l0, if_pos (by omega), if_pos (by omega), rdL1_nat, wrap_succ i (by omega)]
    ·refine Ev.bind (hasInt_ev _ _ (by omega)) ?_
     rw [List.drop_eq_getElem_cons (by simpa using hlt)]
     have e0 : (List.range E.length)[i]'(by simpa using hlt) = i := by simp
     rw [e0]
     by_cases hm2 : (k : Int) ∈ E.getD i []
     ·refine Ev.congr (fun q => by rw [if_pos (decide_eq_true hm2), if_pos (by omega)]) ?_
      rw [List.filter_cons_of_pos (by simpa using hm2), List.map_cons]
      have := ih (i + 1) (acc ++ [(i : Int)]) (by omega) (by omega) (by simp; omega)
      simpa using this
     ·refine Ev.congr (fun q => by rw [if_neg (by simpa using hm2)]) ?_
      rw [List.filter_cons_of_neg (by simpa using hm2)]
      exact ih (i + 1) acc (by omega) (by omega) (by omega)
  refine ⟨((List.range E.length).filter (fun j => decide ((k : Int) ∈ E.getD j []))).map (fun (j : Nat) => (j : Int)), ?_, ?_, ?_, ?_, fun q => by cases q⟩
  ·refine Ev.congr (fun q => by rw [balustraderef18_ahead.f, if_neg (by simp)]) ?_
   have := key E.length 0 [] (by omega) (by omega) (by simp)
   simpa using this
  ·unfold prOf
   simp [Function.comp_def]
  ·intro x hx
   obtain ⟨j, hj, rfl⟩ := List.mem_map.1 hx
   have := (List.mem_filter.1 hj).1
   simp at this
   omega
  ·rw [List.length_map]
   have := List.length_filter_le (fun j => decide ((k : Int) ∈ E.getD j [])) (List.range E.length)
   rw [List.length_range] at this
   omega
 ·refine ⟨E.getD k [], ?_, ?_, ?_, h.sz.er _ (getD_mem E [] hk), fun _ => rfl⟩
  ·refine Ev.congr (fun q => by rw [balustraderef18_ahead.f, if_pos rfl, if_pos (by omega), if_pos (by omega), rdL1_nat]) (Ev.now _)
  ·unfold prOf; simp
  ·exact h.e _ (getD_mem E [] hk)
def tab (B : List (List Bool)) : Fa := fun k i => (B.getD k []).getD i false
structure Shape (B : List (List Bool)) (n W : Nat) : Prop where
 len : B.length = n
 row : ∀ k, k < n → (B.getD k []).length = W
theorem frm_marks (P : Pr) (ti : Fa) (k i : Nat) : P.frm ti k i = (P.all != ((P.ah k).any (fun a => ti a i != P.all) || (P.beg k && (P.st i != P.all)))) := by
 unfold Pr.frm
 cases e : P.all
 ·simp
 ·simp only [if_true]
  have e1 : (P.ah k).any (fun a => ti a i != true) = !(P.ah k).all (fun a => ti a i) := by
   rw [List.not_all_eq_any_not]
   congr 1
   funext a
   cases ti a i <;> rfl
  rw [e1]
  cases (P.ah k).all (fun a => ti a i) <;> cases P.beg k <;> cases P.st i <;> rfl
theorem from_ev (h : Good E G K S W) {B : List (List Bool)} (hB : Shape B E.length W) {k i : Nat} (hk : k < E.length) (hi : i < W) :
  Ev (fun q => balustraderef18_From.f q E bk al (W : Int) G K S B (k : Int) (i : Int)) ((prOf E bk al W G K S).frm (tab B) k i) := by
 have hw := h.w
 obtain ⟨l, hl, e1, e2, e3, e4⟩ := ahead_ev (bk := bk) (al := al) h hk
 have hS := h.sz.s
 refine Ev.bind hl ?_
 have key : ∀ d j (c : Bool), l.length - j = d → j ≤ l.length →
   Ev (fun q => balustraderef18_From.l0 q B (k : Int) (i : Int) l (al != c) (j : Int) E bk al (W : Int) G K S) (al != ((c || ((l.drop j).map Int.toNat).any (fun a => tab B a i != al)) || ((prOf E bk al W G K S).beg k && ((prOf E bk al W G K S).st i != al)))) := by
  intro d
  induction d with
  | zero =>
   intro j c hd hj
   obtain rfl : j = l.length := by omega
   apply Ev.step
   ·intro q
    rw [balustraderef18_From.l0, if_neg (by omega)]
   ·rw [List.drop_length, List.map_nil, List.any_nil, Bool.or_false]
    have fin : Ev (fun q => (balustradebase_HasInt.f q S (i : Int)).bind fun t => if (t != al) = true then some (!al) else some (al != c)) (al != (c || (true && ((prOf E bk al W G K S).st i != al)))) := by
     refine Ev.bind (hasInt_ev S _ (by omega)) ?_
     have es : (prOf E bk al W G K S).st i = decide ((i : Int) ∈ S) := rfl
     rw [es, Bool.true_and]
     cases hx : (decide ((i : Int) ∈ S) != al)
     ·refine Ev.congr (fun q => by rw [if_neg (by simp)]) ?_
      rw [Bool.or_false]; exact Ev.now _
     ·refine Ev.congr (fun q => by rw [if_pos rfl]) ?_
      have : (al != (c || true)) = !al := by cases al <;> cases c <;> rfl
      rw [this]; exact Ev.now _
    have nofin : Ev (fun _ => some (al != c)) (al != (c || (false && ((prOf E bk al W G K S).st i != al)))) := by
     rw [Bool.false_and, Bool.or_false]; exact Ev.now _
    cases bk
    ·have eb : (prOf E false al W G K S).beg k = (k == 0) := rfl
     rw [eb]
     by_cases h0 : k = 0
     ·refine Ev.congr (fun q => by rw [if_neg (by simp), if_pos (by omega)]) ?_
      rw [show (k == 0) = true by simpa using h0]; exact fin
     ·refine Ev.congr (fun q => by rw [if_neg (by simp), if_neg (by omega)]) ?_
      rw [show (k == 0) = false by simpa using h0]; exact nofin
    ·have eb : (prOf E true al W G K S).beg k = (l.length == 0) := by rw [e4 rfl]; rfl
     rw [eb]
     by_cases h0 : l.length = 0
     ·refine Ev.congr (fun q => by rw [if_pos rfl, if_pos (by omega)]) ?_
      rw [show (l.length == 0) = true by simpa using h0]; exact fin
     ·refine Ev.congr (fun q => by rw [if_pos rfl, if_neg (by omega)]) ?_
      rw [show (l.length == 0) = false by simpa using h0]; exact nofin
  | succ d ih =>
   intro j c hd hj
   have hlt : j < l.length := by omega
   have e0 : rd l (j : Int) = l[j] := rd_nat l j hlt
   obtain ⟨x0, x1⟩ := e2 _ (List.getElem_mem hlt)
   obtain ⟨a, ha⟩ : ∃ a : Nat, l[j] = (a : Int) := ⟨l[j].toNat, by omega⟩
   have hlr := hB.row a (by omega)
   have hBn := hB.len
   have er : rd_L5 B (a : Int) = B.getD a [] := by simp [rd_L5]
   have er2 : rdOf false (B.getD a []) (i : Int) = tab B a i := by simp [rdOf, tab]
   rw [List.drop_eq_getElem_cons hlt, List.map_cons, List.any_cons, ha, Int.toNat_natCast]
   have hcc : ∀ q, balustraderef18_From.l0 (q + 1) B (k : Int) (i : Int) l (al != c) (j : Int) E bk al (W : Int) G K S = balustraderef18_From.l0 q B (k : Int) (i : Int) l (al != (c || (tab B a i != al))) ((j + 1 : Nat) : Int) E bk al (W : Int) G K S := by
    intro q
    rw [balustraderef18_From.l0, if_pos (by omega), if_pos (by omega), e0, ha, if_pos (by omega), if_pos (by omega), if_pos (by omega), er, if_pos (by omega), er2, wrap_succ j (by omega)]
    cases hx : (tab B a i != al)
    ·rw [if_neg (by simp), Bool.or_false]
    ·rw [if_pos rfl]
     have : (al != (c || true)) = !al := by cases al <;> cases c <;> rfl
     rw [this]
   apply Ev.step hcc
   have := ih (j + 1) (c || (tab B a i != al)) (by omega) (by omega)
   rw [← Bool.or_assoc c]
   exact this
 have := key l.length 0 false (by omega) (by omega)
 rw [List.drop_zero, e1, Bool.false_or] at this
 rw [frm_marks]
 have ea : (prOf E bk al W G K S).all = al := rfl
 rw [ea]
 simpa using this
theorem to_ev (h : Good E G K S W) {x : Bool} {k i : Nat} (hk : k < E.length) (hi : i < W) :
  Ev (fun q => balustraderef18_To.f q E bk al (W : Int) G K S x (k : Int) (i : Int)) ((prOf E bk al W G K S).gen k i || (x && !(prOf E bk al W G K S).kil k i)) := by
 have hg := h.g
 have hkk := h.k
 have m1 := h.sz.gr _ (getD_mem G [] (show k < G.length by omega))
 have m2 := h.sz.kr _ (getD_mem K [] (show k < K.length by omega))
 refine Ev.congr (fun q => by rw [balustraderef18_To.f, if_pos (by omega), if_pos (by omega), rdL1_nat, rdL1_nat]) ?_
 refine Ev.bind (hasInt_ev _ _ (by omega)) ?_
 have eg : (prOf E bk al W G K S).gen k i = decide ((i : Int) ∈ G.getD k []) := rfl
 have ek : (prOf E bk al W G K S).kil k i = decide ((i : Int) ∈ K.getD k []) := rfl
 rw [← eg]
 cases (prOf E bk al W G K S).gen k i
 ·refine Ev.congr (fun q => by rw [if_neg (by simp)]) ?_
  cases x
  ·refine Ev.congr (f := fun _ => some false) (fun q => by rw [if_neg (by simp)]) (Ev.now _)
  ·refine Ev.congr (fun q => by rw [if_pos rfl, if_pos (by omega)]) ?_
   refine Ev.bind (hasInt_ev _ _ (by omega)) ?_
   rw [← ek]
   simp only [Bool.true_and, Bool.false_or]
   exact Ev.now _
 ·refine Ev.congr (fun q => by rw [if_pos rfl]) ?_
  rw [Bool.true_or]; exact Ev.now _
end
end Go.Proofs.YtanpghbakbebiaaDoor.Pure
set_option linter.unusedVariables false
namespace Go.Proofs.YtanpghbakbebiaaDoor.Pure
open Go.RowKit Go.Proofs.YtanpghbakbebiaaDoor.P Go.Proofs.YtanpghbakbebiaaDoorW.PrintWords Go.Proofs.YtanpghbakbebiaaDoorW.PrintLast Go.Proofs.YtanpghbakbebiaaDoorW.PrintMore
theorem getD_set {α : Type} (l : List α) (d x : α) (i j : Nat) : (l.set i x).getD j d = if i = j ∧ i < l.length then x else l.getD j d := by
 simp only [List.getD_eq_getElem?_getD]
 by_cases h : i = j
 ·subst h
  by_cases h2 : i < l.length
  ·rw [List.getElem?_set_self h2, if_pos ⟨rfl, h2⟩]; rfl
  ·rw [if_neg (by omega), List.set_eq_of_length_le (by omega)]
 ·rw [List.getElem?_set_ne h, if_neg (by omega)]
theorem tab_put (B : List (List Bool)) (n W : Nat) (hB : Shape B n W) (b i : Nat) (hb : b < n) (hi : i < W) (y : Bool) :
  Shape (B.set b ((B.getD b []).set i y)) n W ∧ ∀ k j, tab (B.set b ((B.getD b []).set i y)) k j = if k = b ∧ j = i then y else tab B k j := by
 have hl := hB.len
 have hr := hB.row b hb
 refine ⟨⟨by rw [List.length_set, hl], fun k hk => ?_⟩, fun k j => ?_⟩
 ·rw [getD_set]
  split
  ·rw [List.length_set]; exact hr
  ·exact hB.row k hk
 ·unfold tab
  rw [getD_set]
  by_cases h1 : k = b
  ·subst h1
   rw [if_pos ⟨rfl, by omega⟩, getD_set]
   by_cases h2 : j = i
   ·subst h2
    rw [if_pos ⟨rfl, by omega⟩, if_pos ⟨rfl, rfl⟩]
   ·rw [if_neg (by omega), if_neg (by omega)]
  ·rw [if_neg (by omega), if_neg (by omega)]
section
variable {E G K : List (List Int)} {S : List Int} {bk al : Bool} {W : Nat}
structure Rnd (P : Pr) (B0 : List (List Bool)) (b i : Nat) (A B : List (List Bool)) (ch : Bool) : Prop where
 sA : Shape A P.n P.wd
 sB : Shape B P.n P.wd
 inv : P.Inv (tab B)
 le : P.le (tab B0) (tab B)
 yes : ch = true → P.un (tab B) < P.un (tab B0)
 no : ch = false → (∀ k j, k < P.n → j < P.wd → tab B k j = tab B0 k j) ∧ ∀ k j, k < P.n → j < P.wd → (k < b ∨ k = b ∧ j < i) → tab A k j = P.frm (tab B0) k j ∧ tab B0 k j = P.tto (tab B0) k j
abbrev PP (E G K : List (List Int)) (S : List Int) (bk al : Bool) (W : Nat) : Pr := prOf E bk al W G K S
theorem rs_c_ev (h : Good E G K S W) {B0 A B : List (List Bool)} {ch : Bool} {b i : Nat} (hb : b < E.length) (hi : i < W) (hR : Rnd (PP E G K S bk al W) B0 b i A B ch) :
  ∃ A1 B1 c1, Ev (fun q => rs_c q E bk al (W : Int) G K S (b : Int) (i : Int) A B ch) (A1, B1, c1) ∧ Rnd (PP E G K S bk al W) B0 b (i + 1) A1 B1 c1 := by
 have hP := prOf_ok (bk := bk) (al := al) h
 have hA := hR.sA
 have hB := hR.sB
 have la := hA.len
 have lb := hB.len
 have ra := hA.row b hb
 have rb := hB.row b hb
 have wd_ : (PP E G K S bk al W).wd = W := rfl
 have n_ : (PP E G K S bk al W).n = E.length := rfl
 rw [wd_] at ra rb
 rw [n_] at la lb
 have hx := from_ev (bk := bk) (al := al) h (B := B) hB hb hi
 have hy := to_ev (bk := bk) (al := al) h (x := (PP E G K S bk al W).frm (tab B) b i) hb hi
 obtain ⟨x, ex⟩ : ∃ x, (PP E G K S bk al W).frm (tab B) b i = x := ⟨_, rfl⟩
 obtain ⟨y, ey⟩ : ∃ y, (PP E G K S bk al W).tto (tab B) b i = y := ⟨_, rfl⟩
 have hy2 : Ev (fun q => balustraderef18_To.f q E bk al (W : Int) G K S x (b : Int) (i : Int)) y := by
  rw [← ey, ← ex]; exact hy
 have hx2 : Ev (fun q => balustraderef18_From.f q E bk al (W : Int) G K S B (b : Int) (i : Int)) x := by rw [← ex]; exact hx
 obtain ⟨sA, tA⟩ := tab_put A _ _ hA b i hb hi x
 obtain ⟨sB, tB⟩ := tab_put B _ _ hB b i hb hi y
 have eo : rdOf false (B.getD b []) (i : Int) = tab B b i := by simp [rdOf, tab]
 refine ⟨A.set b ((A.getD b []).set i x), B.set b ((B.getD b []).set i y), (if (y != tab B b i) = true then true else ch), ?_, ?_⟩
 ·refine Ev.congr (fun q => by rw [rs_c, if_pos ⟨by omega, by omega, by omega, by omega, by simp only [tbRow, Int.toNat_natCast]; omega, by simp only [tbRow, Int.toNat_natCast]; omega⟩]) ?_
  refine Ev.bind hx2 (Ev.bind hy2 ?_)
  simp only [tbRow, tbPut, Int.toNat_natCast, eo]
  exact Ev.now _
 ·obtain ⟨i1, l1⟩ := Pr.inv_step hP hR.inv (b := tab (B.set b ((B.getD b []).set i y))) (fun k j _ _ => by
   rw [tB]
   by_cases q : k = b ∧ j = i
   ·rw [if_pos q, q.1, q.2, ey]; exact .inr rfl
   ·rw [if_neg q]; exact .inl rfl)
  have lee := Pr.le_trans hR.le l1
  refine ⟨sA, sB, i1, lee, fun hc => ?_, fun hc => ?_⟩
  ·by_cases q : y = tab B b i
   ·rw [if_neg (by simp [q])] at hc
    exact Nat.lt_of_le_of_lt (Pr.un_le l1) (hR.yes hc)
   ·exact Nat.lt_of_lt_of_le (Pr.un_lt l1 (k := b) (i := i) hb hi (by rw [tB, if_pos ⟨rfl, rfl⟩]; exact fun e => q e.symm)) (Pr.un_le hR.le)
  ·have q : y = tab B b i := by
    refine Classical.byContradiction (fun q => ?_)
    rw [if_pos (by simpa using q)] at hc
    cases hc
   rw [if_neg (by simp [q])] at hc
   obtain ⟨n1, n2⟩ := hR.no hc
   have same : ∀ k j, k < E.length → j < W → tab (B.set b ((B.getD b []).set i y)) k j = tab B0 k j := by
    intro k j hk hj
    rw [tB]
    by_cases q2 : k = b ∧ j = i
    ·rw [if_pos q2, q, ← q2.1, ← q2.2]; exact n1 k j hk hj
    ·rw [if_neg q2]; exact n1 k j hk hj
   refine ⟨same, fun k j hk hj hbe => ?_⟩
   rw [tA]
   by_cases q2 : k = b ∧ j = i
   ·rw [if_pos q2, q2.1, q2.2]
    have c1 := Pr.frm_congr hP (a := tab B) (b := tab B0) (i := i) (fun k hk => n1 k i hk hi) b
    have c2 := Pr.tto_congr hP (a := tab B) (b := tab B0) (i := i) (fun k hk => n1 k i hk hi) b
    refine ⟨by rw [← ex]; exact c1, ?_⟩
    rw [← n1 b i hb hi, ← q, ← ey]
    exact c2
   ·rw [if_neg q2]
    exact n2 k j hk hj (by omega)
theorem rs_l3_ev (h : Good E G K S W) {B0 : List (List Bool)} {b : Nat} (hb : b < E.length) : ∀ d i A B ch, W - i = d → i ≤ W → Rnd (PP E G K S bk al W) B0 b i A B ch →
  ∃ A1 B1 c1, Ev (fun q => rs_l3 q E bk al (W : Int) G K S (b : Int) (i : Int) A B ch) (A1, B1, c1) ∧ Rnd (PP E G K S bk al W) B0 b W A1 B1 c1 := by
 have hw := h.w
 intro d
 induction d with
 | zero =>
  intro i A B ch hd hi hR
  obtain rfl : i = W := by omega
  refine ⟨A, B, ch, ?_, hR⟩
  apply Ev.step
  ·intro q
   rw [rs_l3, if_neg (by omega)]
  ·exact Ev.now _
 | succ d ih =>
  intro i A B ch hd hi hR
  obtain ⟨A1, B1, c1, h1, r1⟩ := rs_c_ev h hb (show i < W by omega) hR
  obtain ⟨A2, B2, c2, h2, r2⟩ := ih (i + 1) A1 B1 c1 (by omega) (by omega) r1
  refine ⟨A2, B2, c2, ?_, r2⟩
  apply Ev.step
  ·intro q
   rw [rs_l3, if_pos (by omega), wrap_succ i (by omega)]
  ·exact Ev.bind h1 h2
theorem rs_l2_ev (h : Good E G K S W) {B0 : List (List Bool)} : ∀ d b A B ch, E.length - b = d → b ≤ E.length → Rnd (PP E G K S bk al W) B0 b 0 A B ch →
  ∃ A1 B1 c1, Ev (fun q => rs_l2 q E bk al (W : Int) G K S (b : Int) A B ch) (A1, B1, c1) ∧ Rnd (PP E G K S bk al W) B0 E.length 0 A1 B1 c1 := by
 have hn := h.n
 intro d
 induction d with
 | zero =>
  intro b A B ch hd hb hR
  obtain rfl : b = E.length := by omega
  refine ⟨A, B, ch, ?_, hR⟩
  apply Ev.step
  ·intro q
   rw [rs_l2, if_neg (by omega)]
  ·exact Ev.now _
 | succ d ih =>
  intro b A B ch hd hb hR
  obtain ⟨A1, B1, c1, h1, r1⟩ := rs_l3_ev h (show b < E.length by omega) W 0 A B ch (by omega) (by omega) hR
  have r1' : Rnd (PP E G K S bk al W) B0 (b + 1) 0 A1 B1 c1 := { r1 with no := fun hc => ⟨(r1.no hc).1, fun k j hk hj hbe => (r1.no hc).2 k j hk hj (by have : (PP E G K S bk al W).wd = W := rfl; omega)⟩ }
  obtain ⟨A2, B2, c2, h2, r2⟩ := ih (b + 1) A1 B1 c1 (by omega) (by omega) r1'
  refine ⟨A2, B2, c2, ?_, r2⟩
  apply Ev.step
  ·intro q
   rw [rs_l2, if_pos (by omega), wrap_succ b (by omega)]
  ·exact Ev.bind h1 h2
theorem rs_l4_ev (h : Good E G K S W) : ∀ m A B, (PP E G K S bk al W).un (tab B) = m → Shape A E.length W → Shape B E.length W → (PP E G K S bk al W).Inv (tab B) →
  ∃ A1 B1, Ev (fun q => rs_l4 q E bk al (W : Int) G K S A B true) (A1, B1) ∧ Shape A1 E.length W ∧ Shape B1 E.length W ∧ (PP E G K S bk al W).Lst (tab B1) ∧ ∀ k i, k < E.length → i < W → tab A1 k i = (PP E G K S bk al W).frm (tab B1) k i := by
 intro m
 induction m using Nat.strongRecOn with
 | _ m ih =>
  intro A B hm sA sB hI
  have hP := prOf_ok (bk := bk) (al := al) h
  obtain ⟨A1, B1, c1, h1, r1⟩ := rs_l2_ev (bk := bk) (al := al) h (B0 := B) E.length 0 A B false (by omega) (by omega) ⟨sA, sB, hI, Pr.le_refl _ _, fun q => (by cases q), fun _ => ⟨fun _ _ _ _ => rfl, fun k j _ _ q => by omega⟩⟩
  cases c1
  ·obtain ⟨n1, n2⟩ := r1.no rfl
   have c2 : ∀ k i, i < W → (PP E G K S bk al W).frm (tab B1) k i = (PP E G K S bk al W).frm (tab B) k i := fun k i hi => Pr.frm_congr hP (fun k' hk' => n1 k' i hk' hi) k
   have c3 : ∀ k i, i < W → (PP E G K S bk al W).tto (tab B1) k i = (PP E G K S bk al W).tto (tab B) k i := fun k i hi => Pr.tto_congr hP (fun k' hk' => n1 k' i hk' hi) k
   refine ⟨A1, B1, ?_, r1.sA, r1.sB, Pr.inv_lst r1.inv (fun k i hk hi => ?_), fun k i hk hi => ?_⟩
   ·apply Ev.step
    ·intro q
     rw [rs_l4, if_pos rfl]
    ·refine Ev.bind h1 ?_
     apply Ev.step
     ·intro q
      rw [rs_l4, if_neg (by simp)]
     ·exact Ev.now _
   ·rw [n1 k i hk hi, c3 k i hi]; exact (n2 k i hk hi (.inl hk)).2
   ·rw [c2 k i hi]; exact (n2 k i hk hi (.inl hk)).1
  ·obtain ⟨A2, B2, h2, r2⟩ := ih _ (by rw [← hm]; exact r1.yes rfl) A1 B1 rfl r1.sA r1.sB r1.inv
   refine ⟨A2, B2, ?_, r2⟩
   apply Ev.step
   ·intro q
    rw [rs_l4, if_pos rfl]
   ·exact Ev.bind h1 h2
theorem rs_l1_ev (hW : W ≤ 65536) : ∀ d i (r s : List Bool), W - i = d → i ≤ W → r.length = i → s.length = i → Ev (fun q => rs_l1 q al (W : Int) (i : Int) r s) (r ++ List.replicate d al, s ++ List.replicate d al) := by
 intro d
 induction d with
 | zero =>
  intro i r s hd hi h1 h2
  apply Ev.step
  ·intro q
   rw [rs_l1, if_neg (by omega)]
  ·simp; exact Ev.now _
 | succ d ih =>
  intro i r s hd hi h1 h2
  apply Ev.step
  ·intro q
   rw [rs_l1, if_pos (by omega), if_pos (by omega), wrap_succ i (by omega)]
  ·have := ih (i + 1) (r ++ [al]) (s ++ [al]) (by omega) (by omega) (by simp [h1]) (by simp [h2])
   simpa [List.replicate_succ] using this
theorem rs_l0_ev (hW : W ≤ 65536) {n : Nat} (hn : n ≤ 65536) : ∀ d i (A B : List (List Bool)), n - i = d → i ≤ n → A.length = i → B.length = i → Ev (fun q => rs_l0 q al (W : Int) n (i : Int) A B) (A ++ List.replicate d (List.replicate W al), B ++ List.replicate d (List.replicate W al)) := by
 intro d
 induction d with
 | zero =>
  intro i r s hd hi h1 h2
  apply Ev.step
  ·intro q
   rw [rs_l0, if_neg (by omega)]
  ·simp; exact Ev.now _
 | succ d ih =>
  intro i r s hd hi h1 h2
  apply Ev.step
  ·intro q
   rw [rs_l0, if_pos (by omega), if_pos (by omega), wrap_succ i (by omega)]
  ·have e1 := rs_l1_ev (al := al) hW W 0 [] [] (by omega) (by omega) rfl rfl
   refine Ev.bind e1 ?_
   have := ih (i + 1) (r ++ [List.replicate W al]) (s ++ [List.replicate W al]) (by omega) (by omega) (by simp [h1]) (by simp [h2])
   simpa [List.replicate_succ] using this
theorem rs_ev (h : Good E G K S W) : ∃ A B, Ev (fun q => rs_f q E bk al (W : Int) G K S) (A, B) ∧ Shape A E.length W ∧ Shape B E.length W ∧ (PP E G K S bk al W).Lst (tab B) ∧ ∀ k i, k < E.length → i < W → tab A k i = (PP E G K S bk al W).frm (tab B) k i := by
 have s0 : Shape (List.replicate E.length (List.replicate W al)) E.length W := ⟨by simp, fun k hk => by simp [List.getD_eq_getElem?_getD, hk]⟩
 have t0 : ∀ k i, k < E.length → i < W → tab (List.replicate E.length (List.replicate W al)) k i = al := fun k i hk hi => by simp [tab, List.getD_eq_getElem?_getD, hk, hi]
 obtain ⟨A, B, hAB, r⟩ := rs_l4_ev (bk := bk) (al := al) h _ _ _ rfl s0 s0 (Pr.inv_start _ t0)
 refine ⟨A, B, ?_, r⟩
 have h0 := rs_l0_ev (al := al) h.w h.n E.length 0 [] [] (by omega) (by omega) rfl rfl
 exact Ev.bind h0 hAB
end
end Go.Proofs.YtanpghbakbebiaaDoor.Pure

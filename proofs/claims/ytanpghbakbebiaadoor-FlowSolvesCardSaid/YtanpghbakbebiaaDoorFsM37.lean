/- A part of it. -/
import Derived.Test.YtanpghbakbebiaaDoorFsP0
import Derived.Test.YtanpghbakbebiaaDoorFsZ
import Derived.Test.YtanpghbakbebiaaDoorFsP12
import Derived.Test.YtanpghbakbebiaaDoorFsM27
import Derived.Outline
set_option linter.unusedVariables false
namespace Go.Proofs.YtanpghbakbebiaaDoor.Pure
structure Pr where
 n : Nat
 wd : Nat
 all : Bool
 ah : Nat → List Nat
 beg : Nat → Bool
 st : Nat → Bool
 gen : Nat → Nat → Bool
 kil : Nat → Nat → Bool
abbrev Fa := Nat → Nat → Bool
def Pr.frm (P : Pr) (ti : Fa) (k i : Nat) : Bool := if P.all = true then (P.ah k).all (fun a => ti a i) && (!P.beg k || P.st i) else (P.ah k).any (fun a => ti a i) || (P.beg k && P.st i)
def Pr.tto (P : Pr) (ti : Fa) (k i : Nat) : Bool := P.gen k i || (P.frm ti k i && !P.kil k i)
def Pr.Ok (P : Pr) : Prop := ∀ k a, a ∈ P.ah k → a < P.n
def Pr.le (P : Pr) (a b : Fa) : Prop := ∀ k i, k < P.n → i < P.wd → a k i ≠ P.all → b k i ≠ P.all
def Pr.Sol (P : Pr) (ti : Fa) : Prop := ∀ k i, k < P.n → i < P.wd → ti k i = P.tto ti k i
def Pr.Pre (P : Pr) (ti : Fa) : Prop := P.le (P.tto ti) ti
def Pr.Lst (P : Pr) (ti : Fa) : Prop := P.Sol ti ∧ ∀ s, P.Pre s → P.le ti s
def Pr.Inv (P : Pr) (ti : Fa) : Prop := (∀ s, P.Pre s → P.le ti s) ∧ P.le ti (P.tto ti)
theorem Pr.le_refl (P : Pr) (a : Fa) : P.le a a := fun _ _ _ _ h => h
theorem Pr.le_trans {P : Pr} {a b c : Fa} (h1 : P.le a b) (h2 : P.le b c) : P.le a c := fun k i hk hi h => h2 k i hk hi (h1 k i hk hi h)
theorem Pr.Sol.pre {P : Pr} {s : Fa} (h : P.Sol s) : P.Pre s := fun k i hk hi q => by rw [h k i hk hi]; exact q
theorem Pr.frm_mono {P : Pr} (hP : P.Ok) {a b : Fa} (h : P.le a b) (k i : Nat) (hi : i < P.wd) (q : P.frm a k i ≠ P.all) : P.frm b k i ≠ P.all := by
 unfold Pr.frm at q ⊢
 unfold Pr.le at h
 have hm := hP k
 cases e : P.all
 ·simp only [e, Bool.false_eq_true, if_false] at q h ⊢
  simp only [ne_eq, Bool.not_eq_false, Bool.or_eq_true, List.any_eq_true, Bool.and_eq_true] at q ⊢
  rcases q with ⟨x, hx, q⟩ | q
  ·have := h x i (hm x hx) hi (by rw [q]; simp)
   exact .inl ⟨x, hx, by simpa using this⟩
  ·exact .inr q
 ·simp only [e, if_true] at q h ⊢
  simp only [ne_eq, Bool.and_eq_true, List.all_eq_true, not_and] at q ⊢
  intro h2
  refine q (fun x hx => ?_)
  have h3 := h2 x hx
  refine Classical.byContradiction (fun h4 => ?_)
  exact h x i (hm x hx) hi h4 h3
theorem Pr.tto_mono {P : Pr} (hP : P.Ok) {a b : Fa} (h : P.le a b) : P.le (P.tto a) (P.tto b) := by
 intro k i hk hi q
 have h2 := Pr.frm_mono hP h k i hi
 unfold Pr.tto at q ⊢
 cases e : P.all <;> rw [e] at q h2 <;> cases e1 : P.gen k i <;> cases e2 : P.kil k i <;> cases e3 : P.frm a k i <;> cases e4 : P.frm b k i <;> simp_all
theorem Pr.frm_congr {P : Pr} (hP : P.Ok) {a b : Fa} {i : Nat} (h : ∀ k, k < P.n → a k i = b k i) (k : Nat) : P.frm a k i = P.frm b k i := by
 have hm := hP k
 unfold Pr.frm
 have e1 : (P.ah k).all (fun x => a x i) = (P.ah k).all (fun x => b x i) := by
  rw [Bool.eq_iff_iff]; simp only [List.all_eq_true]
  exact ⟨fun q x hx => by rw [← h x (hm x hx)]; exact q x hx, fun q x hx => by rw [h x (hm x hx)]; exact q x hx⟩
 have e2 : (P.ah k).any (fun x => a x i) = (P.ah k).any (fun x => b x i) := by
  rw [Bool.eq_iff_iff]; simp only [List.any_eq_true]
  exact ⟨fun ⟨x, hx, q⟩ => ⟨x, hx, by rw [← h x (hm x hx)]; exact q⟩, fun ⟨x, hx, q⟩ => ⟨x, hx, by rw [h x (hm x hx)]; exact q⟩⟩
 rw [e1, e2]
theorem Pr.tto_congr {P : Pr} (hP : P.Ok) {a b : Fa} {i : Nat} (h : ∀ k, k < P.n → a k i = b k i) (k : Nat) : P.tto a k i = P.tto b k i := by
 unfold Pr.tto; rw [Pr.frm_congr hP h]
theorem Pr.inv_start (P : Pr) {a : Fa} (h : ∀ k i, k < P.n → i < P.wd → a k i = P.all) : P.Inv a := ⟨fun _ _ k i hk hi q => absurd (h k i hk hi) q, fun k i hk hi q => absurd (h k i hk hi) q⟩
theorem Pr.inv_step {P : Pr} (hP : P.Ok) {a b : Fa} (h : P.Inv a) (hb : ∀ k i, k < P.n → i < P.wd → b k i = a k i ∨ b k i = P.tto a k i) : P.Inv b ∧ P.le a b := by
 have hab : P.le a b := by
  intro k i hk hi q
  rcases hb k i hk hi with e | e
  ·rw [e]; exact q
  ·rw [e]; exact h.2 k i hk hi q
 refine ⟨⟨fun s hs k i hk hi q => ?_, fun k i hk hi q => ?_⟩, hab⟩
 ·rcases hb k i hk hi with e | e
  ·rw [e] at q; exact h.1 s hs k i hk hi q
  ·rw [e] at q; exact hs k i hk hi (Pr.tto_mono hP (h.1 s hs) k i hk hi q)
 ·refine Pr.tto_mono hP hab k i hk hi ?_
  rcases hb k i hk hi with e | e
  ·rw [e] at q; exact h.2 k i hk hi q
  ·rw [e] at q; exact q
theorem Pr.inv_lst {P : Pr} {a : Fa} (h : P.Inv a) (hs : P.Sol a) : P.Lst a := ⟨hs, h.1⟩
theorem bool_both {x y z : Bool} (h1 : x ≠ z → y ≠ z) (h2 : y ≠ z → x ≠ z) : x = y := by cases x <;> cases y <;> cases z <;> simp_all
theorem Pr.lst_eq {P : Pr} {a b : Fa} (ha : P.Lst a) (hb : P.Lst b) {k i : Nat} (hk : k < P.n) (hi : i < P.wd) : a k i = b k i :=
 bool_both (z := P.all) (ha.2 b hb.1.pre k i hk hi) (hb.2 a ha.1.pre k i hk hi)
def Pr.cells (P : Pr) : List (Nat × Nat) := (List.range P.n).flatMap (fun k => (List.range P.wd).map (fun i => (k, i)))
def Pr.un (P : Pr) (a : Fa) : Nat := (P.cells.filter (fun c => a c.1 c.2 == P.all)).length
theorem Pr.mem_cells {P : Pr} {k i : Nat} : (k, i) ∈ P.cells ↔ k < P.n ∧ i < P.wd := by
 simp [Pr.cells]
theorem filter_lt {α : Type} (l : List α) (p q : α → Bool) (h : ∀ x ∈ l, q x = true → p x = true) (x : α) (hx : x ∈ l) (h1 : p x = true) (h2 : q x = false) : (l.filter q).length < (l.filter p).length := by
 induction l with
 | nil => cases hx
 | cons y l ih =>
  have hle : (l.filter q).length ≤ (l.filter p).length := by
   have : l.filter q = (l.filter p).filter q := by
    rw [List.filter_filter]
    apply List.filter_congr
    intro z hz
    have := h z (List.mem_cons_of_mem _ hz)
    cases e : q z <;> simp_all
   rw [this]; exact List.length_filter_le _ _
  rcases List.mem_cons.1 hx with rfl | hx'
  ·rw [List.filter_cons_of_pos h1, List.filter_cons_of_neg (by simp [h2])]
   simp only [List.length_cons]; omega
  ·have hh := ih (fun z hz => h z (List.mem_cons_of_mem _ hz)) hx'
   have hy := h y (List.mem_cons_self ..)
   cases e1 : q y
   ·rw [List.filter_cons_of_neg (by simp [e1])]
    cases e2 : p y
    ·rw [List.filter_cons_of_neg (by simp [e2])]; exact hh
    ·rw [List.filter_cons_of_pos e2]; simp only [List.length_cons]; omega
   ·rw [List.filter_cons_of_pos e1, List.filter_cons_of_pos (hy e1)]
    simp only [List.length_cons]; omega
theorem Pr.un_lt {P : Pr} {a b : Fa} (h : P.le a b) {k i : Nat} (hk : k < P.n) (hi : i < P.wd) (hne : a k i ≠ b k i) : P.un b < P.un a := by
 refine filter_lt _ _ _ (fun c hc q => ?_) (k, i) (Pr.mem_cells.2 ⟨hk, hi⟩) ?_ ?_
 ·obtain ⟨h1, h2⟩ := Pr.mem_cells.1 (show (c.1, c.2) ∈ P.cells from hc)
  have := h c.1 c.2 h1 h2
  simp only [beq_iff_eq] at q ⊢
  refine Classical.byContradiction (fun h3 => this h3 q)
 ·have := h k i hk hi
  simp only [beq_iff_eq]
  refine Classical.byContradiction (fun h3 => ?_)
  have h4 := this h3
  cases e : P.all <;> cases e1 : a k i <;> cases e2 : b k i <;> simp_all
 ·have := h k i hk hi
  cases e : P.all <;> cases e1 : a k i <;> cases e2 : b k i <;> simp_all
theorem Pr.un_le {P : Pr} {a b : Fa} (h : P.le a b) : P.un b ≤ P.un a := by
 by_cases hh : ∃ k i, k < P.n ∧ i < P.wd ∧ a k i ≠ b k i
 ·obtain ⟨k, i, hk, hi, hne⟩ := hh
  exact Nat.le_of_lt (Pr.un_lt h hk hi hne)
 ·apply Nat.le_of_eq
  unfold Pr.un
  congr 1
  apply List.filter_congr
  intro c hc
  obtain ⟨h1, h2⟩ := Pr.mem_cells.1 (show (c.1, c.2) ∈ P.cells from hc)
  have : a c.1 c.2 = b c.1 c.2 := Classical.byContradiction (fun h3 => hh ⟨_, _, h1, h2, h3⟩)
  rw [this]
end Go.Proofs.YtanpghbakbebiaaDoor.Pure
namespace Go.Proofs.YtanpghbakbebiaaDoor.P
open Go.RowKit Go.Proofs.YtanpghbakbebiaaDoorW.PrintWords Go.Proofs.YtanpghbakbebiaaDoorW.PrintLast Go.Proofs.YtanpghbakbebiaaDoorW.PrintMore
attribute [local go_sem] max2_int min2_int max_two min_two max_three min_three max_four min_four   
set_option linter.unusedVariables false
set_option linter.unusedSimpArgs false
def balustraderef18_To.f (k : Nat) (l0_0 : List (List Int)) (a0_1 : Bool) (a0_2 : Bool) (a0_3 : Int) (l0_4 : List (List Int)) (l0_5 : List (List Int)) (l0_6 : List Int) (a1 : Bool) (a2 : Int) (a3 : Int) : Option (Bool) := if 0 ≤ a2 then (if a2 < (l0_4.length : Int) then ((balustradebase_HasInt.f k (rd_L1 l0_4 a2) a3).bind fun t349 => (if t349 = true then (some true) else (if a1 = true then (if a2 < (l0_5.length : Int) then ((balustradebase_HasInt.f k (rd_L1 l0_5 a2) a3).bind fun t351 => (some (!t351))) else (none)) else (some false)))) else (none)) else (none)
set_option maxHeartbeats 8000000 in
set_option maxRecDepth 100000 in
theorem balustraderef18_To.calls (k : Nat) (A0_0 : Option Addr) (c0_0 : Nat) (l0_0 : List (List Int)) (a0_1 : Bool) (a0_2 : Bool) (a0_3 : Int) (A0_4 : Option Addr) (c0_4 : Nat) (l0_4 : List (List Int)) (A0_5 : Option Addr) (c0_5 : Nat) (l0_5 : List (List Int)) (A0_6 : Option Addr) (c0_6 : Nat) (l0_6 : List Int) (a1 : Bool) (a2 : Int) (a3 : Int) (r : Bool) (w : World) (hr0_0 : Kd.C (Kd.slice 3 (Kd.int .i64)) w A0_0 l0_0.length l0_0) (hc0_0 : l0_0.length ≤ c0_0) (hr0_4 : Kd.C (Kd.slice 3 (Kd.int .i64)) w A0_4 l0_4.length l0_4) (hc0_4 : l0_4.length ≤ c0_4) (hr0_5 : Kd.C (Kd.slice 3 (Kd.int .i64)) w A0_5 l0_5.length l0_5) (hc0_5 : l0_5.length ≤ c0_5) (hr0_6 : Kd.C (Kd.int .i64) w A0_6 l0_6.length l0_6) (hc0_6 : l0_6.length ≤ c0_6) (h : balustraderef18_To.f k l0_0 a0_1 a0_2 a0_3 l0_4 l0_5 l0_6 a1 a2 a3 = some r) :
  Calls Tryd.prog 21 #[.agg #[.slice A0_0 l0_0.length c0_0, .bool a0_1, .bool a0_2, .int .i64 a0_3, .slice A0_4 l0_4.length c0_4, .slice A0_5 l0_5.length c0_5, .slice A0_6 l0_6.length c0_6], .bool a1, .int .i64 a2, .int .i64 a3] w fun e w' => e = .returned (.bool r) ∧ Below w.heap.size w w' := by
 have hu25 := Tryd.underlying25
 have HR0_0 := Aside0.mk hr0_0
 have HC0_0 := Aside0.mk hc0_0
 clear hr0_0 hc0_0
 have HR0_4 := Aside0.mk hr0_4
 have HC0_4 := Aside0.mk hc0_4
 clear hr0_4 hc0_4
 have HR0_5 := Aside0.mk hr0_5
 have HC0_5 := Aside0.mk hc0_5
 clear hr0_5 hc0_5
 have HR0_6 := Aside0.mk hr0_6
 have HC0_6 := Aside0.mk hc0_6
 clear hr0_6 hc0_6
 have HB := Aside0.mk (Below.refl w.heap.size w)
 have H : (if 0 ≤ a2 then (if a2 < (l0_4.length : Int) then ((balustradebase_HasInt.f k (rd_L1 l0_4 a2) a3).bind fun t349 => (if t349 = true then (some true) else (if a1 = true then (if a2 < (l0_5.length : Int) then ((balustradebase_HasInt.f k (rd_L1 l0_5 a2) a3).bind fun t351 => (some (!t351))) else (none)) else (some false)))) else (none)) else (none)) = some r := h
 clear h
 by_cases c5 : 0 ≤ a2
 ·rw [if_pos c5] at H
  have c5b0 : decide (0 ≤ a2) = true := decide_eq_true c5
  clear c5
  by_cases c6 : a2 < (l0_4.length : Int)
  ·rw [if_pos c6] at H
   have c6b0 : decide (a2 < (l0_4.length : Int)) = true := decide_eq_true c6
   clear c6
   replace H := Option.bind_eq_some_iff.mp H
   obtain ⟨t349, A70, H⟩ := H
   replace H : (if t349 = true then (some true) else (if a1 = true then (if a2 < (l0_5.length : Int) then ((balustradebase_HasInt.f k (rd_L1 l0_5 a2) a3).bind fun t351 => (some (!t351))) else (none)) else (some false))) = some r := H
   have A7 := Aside0.mk A70
   clear A70
   by_cases c8 : t349 = true
   ·subst c8
    have H1 : (some true) = some r := by rw [if_pos rfl] at H; exact H
    clear H
    have H := H1
    clear H1
    obtain rfl := Option.some.inj H
    go_enter Tryd.func21, Tryd.ntmps21
    go_wp2_with (first | ((with_reducible refine gate_dst (N := 4) rfl ?_); refine box_event ?hg (N := 4) ?hd (cs := #[.slice A0_0 l0_0.length c0_0, .bool a0_1, .bool a0_2, .int .i64 a0_3, .slice A0_4 l0_4.length c0_4, .slice A0_5 l0_5.length c0_5, .slice A0_6 l0_6.length c0_6]) (t := 25) ?hr ?_; (case hd => rfl); (case hg => rfl); (case hr => first | (go_simp; done) | (go_simp; rfl)); intro gb347 hg w9 hbox hb; have n0_ := Aside0.mk (below_step (zB) hb); have n1_ := Aside0.mk (hbox); have n2_ := Aside0.mk (zH hg : w.heap.size ≤ gb347); have n3_ := Aside0.mk (zH hg : w.heap.size ≤ gb347); clear HB; have HB := n0_; have BK347 := n1_; have GW347 := n2_; have GE347 := n3_; clear n0_ n1_ n2_ n3_; clear hb hbox hg; obtain ⟨hcz10_0, hcz10_1, hcz10_2, hcz10_3, hcz10_4, hcz10_5, hcz10_6⟩ := zc7 BK347.out; obtain ⟨hfz10_0, hfz10_1, hfz10_2, hfz10_3, hfz10_4, hfz10_5, hfz10_6⟩ := zf7 BK347.out; have p348 : 0 ≤ (a2 : Int) := zO; have q348 : a2 < (l0_4.length : Int) := zO; obtain ⟨ad348, A348_0, c348_0, e348, hx348_0, hl348_0, hi348_0⟩ := at_L1 HR0_4.out a2 p348 q348; cases e348; replace hx348_0 := pw_cell_below HB.out hx348_0; have HR348_0 := Aside0.mk hi348_0; have HC348_0 := Aside0.mk hl348_0; clear hi348_0 hl348_0; replace p348 := eq_true p348; replace q348 := eq_true q348) | ((with_reducible refine gate_callee (f := 19) rfl ?_); refine goesL_ (some 15) rfl rfl Tryd.func19 (by kernel_rfl) rfl #[.slice A348_0 (rd_L1 l0_4 a2).length c348_0, .int .i64 a3] rfl zE ?_; (with_reducible refine (balustradebase_HasInt.calls k _ _ (rd_L1 l0_4 a2) a3 true _ ?side1 ?side2 A7.out).mono ?_); (case side1 => exact zC (Kd.C_below HR348_0.out HB.out)); (case side2 => exact HC348_0.out); rintro e w' ⟨rfl, ⟨nd, rfl⟩⟩; refine ⟨_, rfl, ?_⟩))
    go_ret
    exact ⟨zV, zG⟩
   ·replace c8 := Bool.eq_false_iff.mpr c8
    subst c8
    have H1 : (if a1 = true then (if a2 < (l0_5.length : Int) then ((balustradebase_HasInt.f k (rd_L1 l0_5 a2) a3).bind fun t351 => (some (!t351))) else (none)) else (some false)) = some r := by rw [if_neg (show ¬ (false = true) by decide)] at H; exact H
    clear H
    have H := H1
    clear H1
    by_cases c11 : a1 = true
    ·subst c11
     have H1 : (if a2 < (l0_5.length : Int) then ((balustradebase_HasInt.f k (rd_L1 l0_5 a2) a3).bind fun t351 => (some (!t351))) else (none)) = some r := by rw [if_pos rfl] at H; exact H
     clear H
     have H := H1
     clear H1
     by_cases c12 : a2 < (l0_5.length : Int)
     ·rw [if_pos c12] at H
      have c12b0 : decide (a2 < (l0_5.length : Int)) = true := decide_eq_true c12
      clear c12
      replace H := Option.bind_eq_some_iff.mp H
      obtain ⟨t351, A130, H⟩ := H
      replace H : (some (!t351)) = some r := H
      have A13 := Aside0.mk A130
      clear A130
      obtain rfl := Option.some.inj H
      go_enter Tryd.func21, Tryd.ntmps21
      go_wp2_with (first | ((with_reducible refine gate_dst (N := 4) rfl ?_); refine box_event ?hg (N := 4) ?hd (cs := #[.slice A0_0 l0_0.length c0_0, .bool a0_1, .bool a0_2, .int .i64 a0_3, .slice A0_4 l0_4.length c0_4, .slice A0_5 l0_5.length c0_5, .slice A0_6 l0_6.length c0_6]) (t := 25) ?hr ?_; (case hd => rfl); (case hg => rfl); (case hr => first | (go_simp; done) | (go_simp; rfl)); intro gb347 hg w14 hbox hb; have n0_ := Aside0.mk (below_step (zB) hb); have n1_ := Aside0.mk (hbox); have n2_ := Aside0.mk (zH hg : w.heap.size ≤ gb347); have n3_ := Aside0.mk (zH hg : w.heap.size ≤ gb347); clear HB; have HB := n0_; have BK347 := n1_; have GW347 := n2_; have GE347 := n3_; clear n0_ n1_ n2_ n3_; clear hb hbox hg; obtain ⟨hcz15_0, hcz15_1, hcz15_2, hcz15_3, hcz15_4, hcz15_5, hcz15_6⟩ := zc7 BK347.out; obtain ⟨hfz15_0, hfz15_1, hfz15_2, hfz15_3, hfz15_4, hfz15_5, hfz15_6⟩ := zf7 BK347.out; have p348 : 0 ≤ (a2 : Int) := zO; have q348 : a2 < (l0_4.length : Int) := zO; obtain ⟨ad348, A348_0, c348_0, e348, hx348_0, hl348_0, hi348_0⟩ := at_L1 HR0_4.out a2 p348 q348; cases e348; replace hx348_0 := pw_cell_below HB.out hx348_0; have HR348_0 := Aside0.mk hi348_0; have HC348_0 := Aside0.mk hl348_0; clear hi348_0 hl348_0; replace p348 := eq_true p348; replace q348 := eq_true q348) | ((with_reducible refine gate_callee (f := 19) rfl ?_); refine goesL_ (some 15) rfl rfl Tryd.func19 (by kernel_rfl) rfl #[.slice A348_0 (rd_L1 l0_4 a2).length c348_0, .int .i64 a3] rfl zE ?_; (with_reducible refine (balustradebase_HasInt.calls k _ _ (rd_L1 l0_4 a2) a3 false _ ?side1 ?side2 A7.out).mono ?_); (case side1 => exact zC (Kd.C_below HR348_0.out HB.out)); (case side2 => exact HC348_0.out); rintro e w' ⟨rfl, ⟨nd, rfl⟩⟩; refine ⟨_, rfl, ?_⟩; have p350 : 0 ≤ (a2 : Int) := zO; have q350 : a2 < (l0_5.length : Int) := zO; obtain ⟨ad350, A350_0, c350_0, e350, hx350_0, hl350_0, hi350_0⟩ := at_L1 HR0_5.out a2 p350 q350; cases e350; replace hx350_0 := pw_cell_below HB.out hx350_0; have HR350_0 := Aside0.mk hi350_0; have HC350_0 := Aside0.mk hl350_0; clear hi350_0 hl350_0; replace p350 := eq_true p350; replace q350 := eq_true q350) | (go_at_call 19; (with_reducible refine (balustradebase_HasInt.calls k _ _ (rd_L1 l0_5 a2) a3 t351 _ ?side1 ?side2 A13.out).mono ?_); (case side1 => repeat (first | exact (Kd.C_below HR350_0.out (zG)) | (with_reducible refine Kd.C_alloc ?_ _) | (with_reducible refine Kd.C_drewN ?_ _) | (with_reducible refine Kd.C_drew ?_))); (case side2 => exact HC350_0.out); rintro e w' ⟨rfl, ⟨nd, rfl⟩⟩))
      go_ret
      exact ⟨zV, zG⟩
     ·rw [if_neg c12] at H
      exact absurd H (by simp)
    ·replace c11 := Bool.eq_false_iff.mpr c11
     subst c11
     have H1 : (some false) = some r := by rw [if_neg (show ¬ (false = true) by decide)] at H; exact H
     clear H
     have H := H1
     clear H1
     obtain rfl := Option.some.inj H
     go_enter Tryd.func21, Tryd.ntmps21
     go_wp2_with (first | ((with_reducible refine gate_dst (N := 4) rfl ?_); refine box_event ?hg (N := 4) ?hd (cs := #[.slice A0_0 l0_0.length c0_0, .bool a0_1, .bool a0_2, .int .i64 a0_3, .slice A0_4 l0_4.length c0_4, .slice A0_5 l0_5.length c0_5, .slice A0_6 l0_6.length c0_6]) (t := 25) ?hr ?_; (case hd => rfl); (case hg => rfl); (case hr => first | (go_simp; done) | (go_simp; rfl)); intro gb347 hg w16 hbox hb; have n0_ := Aside0.mk (below_step (zB) hb); have n1_ := Aside0.mk (hbox); have n2_ := Aside0.mk (zH hg : w.heap.size ≤ gb347); have n3_ := Aside0.mk (zH hg : w.heap.size ≤ gb347); clear HB; have HB := n0_; have BK347 := n1_; have GW347 := n2_; have GE347 := n3_; clear n0_ n1_ n2_ n3_; clear hb hbox hg; obtain ⟨hcz17_0, hcz17_1, hcz17_2, hcz17_3, hcz17_4, hcz17_5, hcz17_6⟩ := zc7 BK347.out; obtain ⟨hfz17_0, hfz17_1, hfz17_2, hfz17_3, hfz17_4, hfz17_5, hfz17_6⟩ := zf7 BK347.out; have p348 : 0 ≤ (a2 : Int) := zO; have q348 : a2 < (l0_4.length : Int) := zO; obtain ⟨ad348, A348_0, c348_0, e348, hx348_0, hl348_0, hi348_0⟩ := at_L1 HR0_4.out a2 p348 q348; cases e348; replace hx348_0 := pw_cell_below HB.out hx348_0; have HR348_0 := Aside0.mk hi348_0; have HC348_0 := Aside0.mk hl348_0; clear hi348_0 hl348_0; replace p348 := eq_true p348; replace q348 := eq_true q348) | ((with_reducible refine gate_callee (f := 19) rfl ?_); refine goesL_ (some 15) rfl rfl Tryd.func19 (by kernel_rfl) rfl #[.slice A348_0 (rd_L1 l0_4 a2).length c348_0, .int .i64 a3] rfl zE ?_; (with_reducible refine (balustradebase_HasInt.calls k _ _ (rd_L1 l0_4 a2) a3 false _ ?side1 ?side2 A7.out).mono ?_); (case side1 => exact zC (Kd.C_below HR348_0.out HB.out)); (case side2 => exact HC348_0.out); rintro e w' ⟨rfl, ⟨nd, rfl⟩⟩; refine ⟨_, rfl, ?_⟩))
     go_ret
     exact ⟨zV, zG⟩
  ·rw [if_neg c6] at H
   exact absurd H (by simp)
 ·rw [if_neg c5] at H
  exact absurd H (by simp)
end Go.Proofs.YtanpghbakbebiaaDoor.P
set_option linter.unusedVariables false
set_option linter.unusedSimpArgs false
namespace Go.Proofs.YtanpghbakbebiaaDoor.P
open Go Go.RowKit Go.Proofs.YtanpghbakbebiaaDoorW.PrintWords Go.Proofs.YtanpghbakbebiaaDoorW.PrintLast Go.Proofs.YtanpghbakbebiaaDoorW.PrintMore
abbrev Tab (w : World) (base : Nat) (ok : Nat → Prop) (v : Value) (xs : List (List Bool)) : Prop := Kd.S (Kd.slice 4 Kd.bool) 49 w base ok v xs
theorem tab_cell {W : World} {base : Nat} {ok : Nat → Prop} {ad : Addr} {n cap : Nat} {xs : List (List Bool)} (h : Tab W base ok (.slice (some ad) n cap) xs) (b i : Int) (h0 : 0 ≤ b) (h1 : b < n) (i0 : 0 ≤ i) (i1 : i < ((xs.getD b.toNat []).length : Int)) :
    ∃ (g c : Nat), W.cell? (ad.add b.toNat) = some (.slice (some ⟨g, 0, none⟩) (xs.getD b.toNat []).length c) ∧ W.cell? ⟨g, i.toNat, none⟩ = some (.bool (rdOf false (xs.getD b.toNat []) i)) ∧ W.frozen? ⟨g, i.toNat, none⟩ = false ∧ ok g ∧ base ≤ g ∧ g < W.heap.size ∧
      ∀ x : Bool, Tab (W.setCell ⟨g, i.toNat, none⟩ (.bool x)) base ok (.slice (some ad) n cap) (xs.set b.toNat ((xs.getD b.toNat []).set i.toNat x)) := by
  obtain ⟨oki, c, hcl, hM, hcc, hoki, hback⟩ := Kd.S_borrow h ([] : List Bool) b h0 h1
  obtain ⟨v, rfl, hR⟩ := hM
  obtain ⟨g, cap', rfl, hbase, hlt, cells, hcs⟩ := Kd.R_form hR (by omega)
  have hg : oki g := (hR.1 g (by simp [Value.ownBlock]))
  have hc := Kd.R_celln false hR i i0 (by exact i1)
  refine ⟨g, cap', ?_, hc.1, hc.2, (hoki g hg).1, hbase, hlt, fun x => ?_⟩
  · have q : W.cell? (ad.add (b.toNat * 1 + 0)) = _ := hcc 0 _ rfl
    rwa [Nat.mul_one, Nat.add_zero] at q
  · have hp := Kd.R_putg hR i x
    exact hback hp.2 (fun k hk => by injection hk with hk; subst hk; exact hg) ⟨_, rfl, hp.1⟩
end Go.Proofs.YtanpghbakbebiaaDoor.P
set_option linter.unusedVariables false
set_option linter.unusedSimpArgs false
namespace Go.Proofs.YtanpghbakbebiaaDoor.P
open Go Go.RowKit Go.Proofs.YtanpghbakbebiaaDoorW.PrintWords Go.Proofs.YtanpghbakbebiaaDoorW.PrintLast Go.Proofs.YtanpghbakbebiaaDoorW.PrintMore
abbrev tbRow (A : List (List Bool)) (b : Int) : List Bool := A.getD b.toNat []
abbrev tbPut (A : List (List Bool)) (b i : Int) (x : Bool) : List (List Bool) := A.set b.toNat ((tbRow A b).set i.toNat x)
def rs_l1 : Nat → Bool → Int → Int → List Bool → List Bool → Option (List Bool × List Bool)
  | 0, _, _, _, _, _ => none
  | k + 1, al, wd, i, r, s => if i < wd then (if r.length ≤ 65536 ∧ s.length ≤ 65536 then rs_l1 k al wd (wrap64 (i + 1)) (r ++ [al]) (s ++ [al]) else none) else some (r, s)
def rs_l0 : Nat → Bool → Int → Nat → Int → List (List Bool) → List (List Bool) → Option (List (List Bool) × List (List Bool))
  | 0, _, _, _, _, _, _ => none
  | k + 1, al, wd, n, i, A, B => if i < (n : Int) then (if A.length ≤ 65536 ∧ B.length ≤ 65536 then ((rs_l1 k al wd 0 [] []).bind fun q => rs_l0 k al wd n (wrap64 (i + 1)) (A ++ [q.1]) (B ++ [q.2])) else none) else some (A, B)
def rs_c (k : Nat) (a0 : List (List Int)) (a1 a2 : Bool) (a3 : Int) (a4 a5 : List (List Int)) (a6 : List Int) (b i : Int) (A B : List (List Bool)) (ch : Bool) : Option (List (List Bool) × List (List Bool) × Bool) :=
  if 0 ≤ b ∧ b < (A.length : Int) ∧ b < (B.length : Int) ∧ 0 ≤ i ∧ i < ((tbRow A b).length : Int) ∧ i < ((tbRow B b).length : Int) then
    ((balustraderef18_From.f k a0 a1 a2 a3 a4 a5 a6 B b i).bind fun x => ((balustraderef18_To.f k a0 a1 a2 a3 a4 a5 a6 x b i).bind fun y => some (tbPut A b i x, tbPut B b i y, (if (y != rdOf false (tbRow B b) i) = true then true else ch))))
  else none
def rs_l3 : Nat → List (List Int) → Bool → Bool → Int → List (List Int) → List (List Int) → List Int → Int → Int → List (List Bool) → List (List Bool) → Bool → Option (List (List Bool) × List (List Bool) × Bool)
  | 0, _, _, _, _, _, _, _, _, _, _, _, _ => none
  | k + 1, a0, a1, a2, a3, a4, a5, a6, b, i, A, B, ch => if i < a3 then ((rs_c k a0 a1 a2 a3 a4 a5 a6 b i A B ch).bind fun q => rs_l3 k a0 a1 a2 a3 a4 a5 a6 b (wrap64 (i + 1)) q.1 q.2.1 q.2.2) else some (A, B, ch)
def rs_l2 : Nat → List (List Int) → Bool → Bool → Int → List (List Int) → List (List Int) → List Int → Int → List (List Bool) → List (List Bool) → Bool → Option (List (List Bool) × List (List Bool) × Bool)
  | 0, _, _, _, _, _, _, _, _, _, _, _ => none
  | k + 1, a0, a1, a2, a3, a4, a5, a6, b, A, B, ch => if b < (a0.length : Int) then ((rs_l3 k a0 a1 a2 a3 a4 a5 a6 b 0 A B ch).bind fun q => rs_l2 k a0 a1 a2 a3 a4 a5 a6 (wrap64 (b + 1)) q.1 q.2.1 q.2.2) else some (A, B, ch)
def rs_l4 : Nat → List (List Int) → Bool → Bool → Int → List (List Int) → List (List Int) → List Int → List (List Bool) → List (List Bool) → Bool → Option (List (List Bool) × List (List Bool))
  | 0, _, _, _, _, _, _, _, _, _, _ => none
  | k + 1, a0, a1, a2, a3, a4, a5, a6, A, B, ch => if ch = true then ((rs_l2 k a0 a1 a2 a3 a4 a5 a6 0 A B false).bind fun q => rs_l4 k a0 a1 a2 a3 a4 a5 a6 q.1 q.2.1 q.2.2) else some (A, B)
def rs_f (k : Nat) (a0 : List (List Int)) (a1 a2 : Bool) (a3 : Int) (a4 a5 : List (List Int)) (a6 : List Int) : Option (List (List Bool) × List (List Bool)) :=
  (rs_l0 k a2 a3 a0.length 0 [] []).bind fun q => rs_l4 k a0 a1 a2 a3 a4 a5 a6 q.1 q.2 true
end Go.Proofs.YtanpghbakbebiaaDoor.P

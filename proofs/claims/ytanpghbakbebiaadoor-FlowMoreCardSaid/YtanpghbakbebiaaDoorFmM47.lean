/- A part of it. -/
import Derived.Test.YtanpghbakbebiaaDoorFmP0
import Derived.Test.YtanpghbakbebiaaDoorFmP3
import Derived.Test.YtanpghbakbebiaaDoorFmP4
import Derived.Test.YtanpghbakbebiaaDoorFmP5
import Derived.Test.YtanpghbakbebiaaDoorFmP6
import Derived.Test.YtanpghbakbebiaaDoorFmFlowP7
import Derived.Test.YtanpghbakbebiaaDoorFmP1
import Derived.Test.YtanpghbakbebiaaDoorFmP8
import Derived.Test.YtanpghbakbebiaaDoorFmM44
import Derived.Test.YtanpghbakbebiaaDoorFmP15
import Derived.Test.YtanpghbakbebiaaDoorFmP2
import Derived.Test.YtanpghbakbebiaaDoorFmP17
namespace Go.Proofs.YtanpghbakbebiaaDoor.P
open Go.RowKit Go.Proofs.YtanpghbakbebiaaDoorW.PrintWords Go.Proofs.YtanpghbakbebiaaDoorW.PrintLast Go.Proofs.YtanpghbakbebiaaDoorW.PrintMore
attribute [local go_sem] max2_int min2_int max_two min_two max_three min_three max_four min_four   
set_option linter.unusedVariables false
set_option linter.unusedSimpArgs false
end Go.Proofs.YtanpghbakbebiaaDoor.P
set_option linter.unusedVariables false
namespace Go.Proofs.YtanpghbakbebiaaDoor.Pure
open Go.RowKit Go.Proofs.YtanpghbakbebiaaDoor.P Go.Proofs.YtanpghbakbebiaaDoorW.PrintWords Go.Proofs.YtanpghbakbebiaaDoorW.PrintLast Go.Proofs.YtanpghbakbebiaaDoorW.PrintMore
theorem works_ev18 : Ev (fun k => balustradelaw18_works.f k) true := Ev.of (fun k => balustradelaw18_works.mono k) (k := 80) (by kernel_rfl)
section
variable {E G K : List (List Int)} {S : List Int} {bk al : Bool} {W : Nat} {A B : List (List Int)} {s : List Int}
end
theorem sz_ins {E G K : List (List Int)} {S : List Int} (h : Sz E G K S) (wd : Int) : Sz E (G.map (ins wd)) (K.map (ins wd)) (ins wd S) :=
 ⟨h.e, by rw [List.length_map]; exact h.g, by rw [List.length_map]; exact h.k, Nat.lt_of_le_of_lt (ins_len _ _) h.s, h.er, fun r hr => by
  obtain ⟨x, hx, rfl⟩ := List.mem_map.1 hr
  exact Nat.lt_of_le_of_lt (ins_len _ _) (h.gr x hx), fun r hr => by
  obtain ⟨x, hx, rfl⟩ := List.mem_map.1 hr
  exact Nat.lt_of_le_of_lt (ins_len _ _) (h.kr x hx)⟩
theorem prog_of {E G K : List (List Int)} {S : List Int} {wd : Int} (h : Sz E G K S) (hf : Few E G K S wd) (hm : mayV E (G.map (ins wd)) (K.map (ins wd)) wd = true) {ofv : List Int → List Int} (hof : 0 ≤ wd ∧ wd ≤ 65536 → ∀ l, l.length < 17592186044416 → SetOf wd (ofv l) (fun i => decide ((i : Int) ∈ ins wd l))) :
  wd = ((wd.toNat : Nat) : Int) ∧ Prog E (G.map (ins wd)) (K.map (ins wd)) (ins wd S) wd.toNat (G.map ofv) (K.map ofv) (ofv S) := by
 unfold mayV at hm
 simp only [Bool.and_eq_true, decide_eq_true_eq, List.length_map] at hm
 obtain ⟨h0, h1, h2, h3, h4⟩ := hm
 have e : wd = ((wd.toNat : Nat) : Int) := by omega
 have hs := hof ⟨h0, h1⟩
 refine ⟨e, ⟨⟨sz_ins h wd, by have := hf.e; omega, by rw [List.length_map]; exact h2, by rw [List.length_map]; exact h3, ?_, by omega⟩, hf.er, by rw [List.length_map]; exact h2, by rw [List.length_map]; exact h3, ?_, ?_, ?_⟩⟩
 ·unfold edgesOk at h4
  simp only [List.all_eq_true, Bool.and_eq_true, decide_eq_true_eq] at h4
  exact h4
 ·intro k hk
  rw [getD_map ofv G [] [] (by omega), getD_map (ins wd) G [] [] (by omega), ← e]
  exact hs _ (h.gr _ (getD_mem G [] (by omega)))
 ·intro k hk
  rw [getD_map ofv K [] [] (by omega), getD_map (ins wd) K [] [] (by omega), ← e]
  exact hs _ (h.kr _ (getD_mem K [] (by omega)))
 ·rw [← e]; exact hs _ h.s
theorem right_of {E G K : List (List Int)} {S : List Int} {bk al : Bool} {wd : Int} (h : Sz E G K S) (hf : Few E G K S wd) {ofv : List Int → List Int} (hof : 0 ≤ wd ∧ wd ≤ 65536 → ∀ l, l.length < 17592186044416 → SetOf wd (ofv l) (fun i => decide ((i : Int) ∈ ins wd l))) (hno : wd < 0 ∨ 65536 < wd → ∀ l, l.length < 17592186044416 → ofv l = []) :
  Ev (fun q => flow_Right.f q E bk al wd (G.map ofv) (K.map ofv) (ofv S)) (mayV E (G.map (ins wd)) (K.map (ins wd)) wd) := by
 have he := hf.e
 refine rt_ev (by omega) h.er (by simp) (by simp) (fun hw => ⟨fun x hx => ?_, fun x hx => ?_, setRight hw.1 hw.2 (hof hw _ h.s)⟩) (fun hw => ?_)
 ·obtain ⟨r, hr, rfl⟩ := List.mem_map.1 hx
  exact setRight hw.1 hw.2 (hof hw _ (h.gr _ hr))
 ·obtain ⟨r, hr, rfl⟩ := List.mem_map.1 hx
  exact setRight hw.1 hw.2 (hof hw _ (h.kr _ hr))
 ·rw [hno hw _ h.s]
  exact noRight hw wfL_nil (by simp)
end Go.Proofs.YtanpghbakbebiaaDoor.Pure
set_option linter.unusedVariables false
namespace Go.Proofs.YtanpghbakbebiaaDoor.Pure
open Go.RowKit Go.Proofs.YtanpghbakbebiaaDoor.P Go.Proofs.YtanpghbakbebiaaDoorW.PrintWords Go.Proofs.YtanpghbakbebiaaDoorW.PrintLast Go.Proofs.YtanpghbakbebiaaDoorW.PrintMore
theorem less_none {W : Nat} (hW : W ≤ 65536) {a b : List Int} {p q : Nat → Bool} (ha : SetOf (W : Int) a p) (hb : SetOf (W : Int) b q) (h : ∀ i, i < W → p i = true → q i = true) : ∃ e, Ev (fun k => bits_Less.f k a b) e ∧ Ev (fun k => bits_Set_Count.f k e) 0 := by
 obtain ⟨e, he, se⟩ := less_set hW ha hb
 have l := se.len hW
 refine ⟨e, he, ?_⟩
 have hc := count_ev e se.w (by omega)
 have h0 : (listN (64 * e.length) (bitL e)).length = 0 := (listN_nil _ _).2 (fun i _ => by
  rw [se.b]
  by_cases hi : i < W
  ·have := h i hi
   cases e1 : p i <;> cases e2 : q i <;> simp_all
  ·rw [decide_eq_false (by omega)]; simp)
 rw [h0] at hc
 exact hc
inductive MorePlan (k : Nat) (E G K : List (List Int)) (S : List Int) (bk al : Bool) (wd : Int) (kk fact : Int) : Prop
 | no (h0 : balustradelaw18_few.f k E bk al wd G K S = some false)
 | zero (h0 : balustradelaw18_few.f k E bk al wd G K S = some true) (hG : G = [])
 | bad (t s : List Int) (A C B D : List (List Int)) (h0 : balustradelaw18_few.f k E bk al wd G K S = some true) (hG : 0 < G.length) (h1 : of_f k wd G K S = some (t, s, (A, C), (B, D))) (h2 : fs_f k E bk al wd A B s = some ([], [], false))
 | good (t s o1 o2 : List Int) (A C B D fr tt fr2 tt2 : List (List Int)) (h0 : balustradelaw18_few.f k E bk al wd G K S = some true) (hG : 0 < G.length) (h1 : of_f k wd G K S = some (t, s, (A, C), (B, D))) (h2 : fs_f k E bk al wd A B s = some (fr, tt, true)) (hA : A.length = G.length) (hg : G.length ≤ 12) (hn : tt.length ≤ 12) (h3 : bits_Of.f k wd [fact] = some o1) (h4 : bits_Or.f k (A.getD (kk.toNat % A.length) []) o1 = some o2) (h5 : fs_f k E bk al wd (A.set (kk.toNat % A.length) o2) B s = some (fr2, tt2, true))
   (l1 : fr.length = tt.length) (l2 : fr2.length = tt.length) (l3 : tt2.length = tt.length) (hj : ∀ j, j < tt.length → ∃ e1 e2, bits_Less.f k (tt.getD j []) (tt2.getD j []) = some e1 ∧ bits_Set_Count.f k e1 = some 0 ∧ bits_Less.f k (fr.getD j []) (fr2.getD j []) = some e2 ∧ bits_Set_Count.f k e2 = some 0)
theorem evs_all {n : Nat} {p : Nat → Nat → Prop} (h : ∀ j, j < n → ∃ K, ∀ k, K ≤ k → p j k) : ∃ K, ∀ k, K ≤ k → ∀ j, j < n → p j k := by
 induction n with
 | zero => exact ⟨0, fun k _ j hj => by omega⟩
 | succ n ih =>
  obtain ⟨K1, h1⟩ := ih (fun j hj => h j (by omega))
  obtain ⟨K2, h2⟩ := h n (by omega)
  refine ⟨K1 + K2, fun k hk j hj => ?_⟩
  by_cases e : j = n
  ·rw [e]; exact h2 k (by omega)
  ·exact h1 k (by omega) j (by omega)
theorem more_plan {E G K : List (List Int)} {S : List Int} (bk al : Bool) {wd : Int} (h : Sz E G K S) (hwd : wd ≤ 9223372036854775807) (kk fact : Int) (hk0 : 0 ≤ kk) (hf0 : 0 ≤ fact) (hf1 : fact ≤ 255) : ∃ k, MorePlan k E G K S bk al wd kk fact ∧ balustradelaw18_works.f k = some true := by
 obtain ⟨Kw, hw⟩ := works_ev18
 obtain ⟨b, ⟨K0, h0⟩, hfew⟩ := few_ev (bk := bk) (al := al) (wd := wd) h
 cases b
 ·exact ⟨Kw + K0, .no (h0 _ (by omega)), hw _ (by omega)⟩
 ·have hf := hfew rfl
  by_cases hG : G = []
  ·exact ⟨Kw + K0, .zero (h0 _ (by omega)) hG, hw _ (by omega)⟩
  have hG1 : 0 < G.length := by cases G with | nil => exact absurd rfl hG | cons _ _ => simp
  obtain ⟨ofv, o1, o2, o3⟩ := exists_ofv wd hwd
  obtain ⟨K1, h1⟩ := of_f_ev h (by have := hf.g; omega) (by have := hf.k; omega) wd ofv o1
  have hr := right_of (bk := bk) (al := al) h hf o2 o3
  cases hm : mayV E (G.map (ins wd)) (K.map (ins wd)) wd
  ·rw [hm] at hr
   obtain ⟨K2, h2⟩ : Ev (fun q => fs_f q E bk al wd (G.map ofv) (K.map ofv) (ofv S)) ([], [], false) := by
    refine Ev.bind hr ?_
    exact Ev.congr (f := fun _ => some _) (fun q => by rw [if_neg (by simp)]) (Ev.now _)
   exact ⟨Kw + K0 + K1 + K2, .bad _ _ _ _ _ _ (h0 _ (by omega)) hG1 (h1 _ (by omega)) (h2 _ (by omega)), hw _ (by omega)⟩
  ·rw [hm] at hr
   obtain ⟨ew, hp⟩ := prog_of h hf hm o2
   rw [ew] at hr h1 h0 hm ⊢
   generalize wd.toNat = W at *
   subst ew
   obtain ⟨fr, tt, ⟨K2, h2⟩, lf, st, lst, sf⟩ := fs_ev (bk := bk) (al := al) hp hr
   have hW := hp.good.w
   have eA := hp.al
   have eG : G.length = E.length := by have := hp.good.g; simpa using this
   obtain ⟨i, hi⟩ : ∃ i, i = kk.toNat % (G.map ofv).length := ⟨_, rfl⟩
   have hil : i < E.length := by rw [hi, eA]; exact Nat.mod_lt _ (by omega)
   obtain ⟨s1, ⟨K3, h3⟩, ss1⟩ := of_of (W : Int) (by omega) (by omega) [fact] (by simp)
   obtain ⟨s2, ⟨K4, h4⟩, ss2⟩ := or_set hW (hp.a i hil) ss1
   obtain ⟨G1, eG1⟩ : ∃ G1, G1 = (G.map (ins (W : Int))).set i ((G.map (ins (W : Int))).getD i [] ++ [fact]) := ⟨_, rfl⟩
   have gG1 : ∀ k, G1.getD k [] = if i = k ∧ i < E.length then (G.map (ins (W : Int))).getD i [] ++ [fact] else (G.map (ins (W : Int))).getD k [] := fun k => by
    rw [eG1, getD_set, List.length_map, eG]
   have lG1 : G1.length = E.length := by rw [eG1, List.length_set, List.length_map, eG]
   have sz' := hp.good.sz
   have hp1 : Prog E G1 (K.map (ins (W : Int))) (ins (W : Int) S) W ((G.map ofv).set i s2) (K.map ofv) (ofv S) := by
    refine ⟨⟨⟨sz'.e, by have := hf.e; omega, sz'.k, sz'.s, sz'.er, fun r hr => ?_, sz'.kr⟩, hp.good.n, lG1, hp.good.k, hp.good.e, hW⟩, hp.er, by rw [List.length_set]; exact eA, hp.bl, fun k hk => ?_, hp.b, hp.s⟩
    ·rw [eG1] at hr
     rcases List.mem_or_eq_of_mem_set hr with q | q
     ·exact sz'.gr r q
     ·rw [q, List.length_append, List.length_singleton]
      have h9 := getD_mem (G.map (ins (W : Int))) [] (show i < (G.map (ins (W : Int))).length by rw [List.length_map]; omega)
      obtain ⟨x, hx, e9⟩ := List.mem_map.1 h9
      rw [← e9]
      have := ins_len (W : Int) x
      have := hf.gr x hx
      omega
    ·rw [getD_set, gG1]
     by_cases q : i = k
     ·rw [if_pos ⟨q, by omega⟩, if_pos ⟨q, by omega⟩]
      refine ss2.congr (fun j hj => ?_)
      rw [Bool.eq_iff_iff]
      simp only [Bool.or_eq_true, decide_eq_true_eq, List.mem_append]
     ·rw [if_neg (by omega), if_neg (by omega)]; exact hp.a k hk
   have hr1 : Ev (fun q => flow_Right.f q E bk al (W : Int) ((G.map ofv).set i s2) (K.map ofv) (ofv S)) true := by
    have hm1 : mayV E G1 (K.map (ins (W : Int))) (W : Int) = true := by
     unfold mayV at hm ⊢
     rw [lG1]
     simp only [Bool.and_eq_true, decide_eq_true_eq] at hm ⊢
     exact ⟨hm.1, hm.2.1, trivial, hm.2.2.2.1, hm.2.2.2.2⟩
    rw [← hm1]
    refine rt_ev hp.good.n hp.good.sz.er (by rw [List.length_set]; omega) (by simp) (fun hw => ⟨fun x hx => ?_, fun x hx => ?_, setRight hw.1 hw.2 hp.s⟩) (fun hw => by omega)
    ·rcases List.mem_or_eq_of_mem_set hx with q | q
     ·obtain ⟨r, hr, rfl⟩ := List.mem_map.1 q
      exact setRight hw.1 hw.2 (o2 hw _ (h.gr _ hr))
     ·rw [q]; exact setRight hw.1 hw.2 ss2
    ·obtain ⟨r, hr, rfl⟩ := List.mem_map.1 hx
     exact setRight hw.1 hw.2 (o2 hw _ (h.kr _ hr))
   obtain ⟨fr2, tt2, ⟨K5, h5⟩, lf2, st2, lst2, sf2⟩ := fs_ev (bk := bk) (al := al) hp1 hr1
   have hP := prOf_ok (bk := bk) (al := al) hp.good
   have hmono : ∀ k j, k < E.length → j < W → bt tt k j = true → bt tt2 k j = true := fun k j hk hj => Pr.more (P := PP E (G.map (ins (W : Int))) (K.map (ins (W : Int))) (ins (W : Int) S) bk al W) (Q := PP E G1 (K.map (ins (W : Int))) (ins (W : Int) S) bk al W) hP rfl rfl rfl rfl rfl rfl rfl (fun k j hk hj q => by
    have q2 : decide ((j : Int) ∈ (G.map (ins (W : Int))).getD k []) = true := q
    show decide ((j : Int) ∈ G1.getD k []) = true
    rw [decide_eq_true_eq] at q2 ⊢
    rw [gG1]
    split
    ·rename_i q3
     rw [List.mem_append, q3.1]; exact .inl q2
    ·exact q2) lst lst2 hk hj
   have hmono2 : ∀ k j, k < E.length → j < W → (PP E (G.map (ins (W : Int))) (K.map (ins (W : Int))) (ins (W : Int) S) bk al W).frm (bt tt) k j = true → (PP E G1 (K.map (ins (W : Int))) (ins (W : Int) S) bk al W).frm (bt tt2) k j = true := fun k j hk hj => Pr.more_frm rfl rfl rfl rfl hP (fun k' hk' => hmono k' j hk' hj) k
   obtain ⟨K6, h6⟩ := evs_all (n := tt.length) (p := fun j k => ∃ e1 e2, bits_Less.f k (tt.getD j []) (tt2.getD j []) = some e1 ∧ bits_Set_Count.f k e1 = some 0 ∧ bits_Less.f k (fr.getD j []) (fr2.getD j []) = some e2 ∧ bits_Set_Count.f k e2 = some 0) (fun j hj => by
    have hj' : j < E.length := by have := st.len; omega
    obtain ⟨e1, ⟨M1, m1⟩, ⟨M2, m2⟩⟩ := less_none hW (st.set j hj') (st2.set j hj') (fun i hi => hmono j i hj' hi)
    obtain ⟨e2, ⟨M3, m3⟩, ⟨M4, m4⟩⟩ := less_none hW (sf j hj') (sf2 j hj') (fun i hi => hmono2 j i hj' hi)
    exact ⟨M1 + M2 + M3 + M4, fun k hk => ⟨e1, e2, m1 k (by omega), m2 k (by omega), m3 k (by omega), m4 k (by omega)⟩⟩)
   have lt1 := st.len
   have lt2 := st2.len
   have e9 : (G.map ofv).getD i [] = (G.map ofv).getD (kk.toNat % (G.map ofv).length) [] := by rw [← hi]
   refine ⟨Kw + K0 + K1 + K2 + K3 + K4 + K5 + K6, .good _ _ s1 s2 _ _ _ _ fr tt fr2 tt2 (h0 _ (by omega)) hG1 (h1 _ (by omega)) (h2 _ (by omega)) (by simp) hf.g (by have := hf.e; omega) (h3 _ (by omega)) (by rw [← hi]; exact h4 _ (by omega)) (by rw [← hi]; exact h5 _ (by omega)) (by omega) (by omega) (by omega) (fun j hj => h6 _ (by omega) j hj), hw _ (by omega)⟩
end Go.Proofs.YtanpghbakbebiaaDoor.Pure

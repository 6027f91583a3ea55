/- A part of it. -/
import Derived.Test.YtanpghbakbebiaaDoorFsM44
import Derived.Test.YtanpghbakbebiaaDoorFsP0
import Derived.Test.YtanpghbakbebiaaDoorFsP2
import Derived.Test.YtanpghbakbebiaaDoorFsP5
import Derived.Test.YtanpghbakbebiaaDoorFsP6
import Derived.Test.YtanpghbakbebiaaDoorFsFlowS2
import Derived.Test.YtanpghbakbebiaaDoorFsP4
set_option linter.unusedVariables false
namespace Go.Proofs.YtanpghbakbebiaaDoor.Pure
open Go.RowKit Go.Proofs.YtanpghbakbebiaaDoor.P Go.Proofs.YtanpghbakbebiaaDoorW.PrintWords Go.Proofs.YtanpghbakbebiaaDoorW.PrintLast Go.Proofs.YtanpghbakbebiaaDoorW.PrintMore
section
variable {W : Nat} {a b s : List Int} {p q : Nat → Bool}
theorem SetOf.congr (h : SetOf (W : Int) s p) (hq : ∀ i, i < W → p i = q i) : SetOf (W : Int) s q := ⟨h.n, h.w, fun i => by
 rw [h.b]
 by_cases hi : i < W
 ·rw [hq i hi]
 ·rw [decide_eq_false (by omega)]; simp⟩
theorem SetOf.bit (h : SetOf (W : Int) s p) {i : Nat} (hi : i < W) : bitL s i = p i := by rw [h.b, decide_eq_true (by omega)]; simp
theorem SetOf.self (h : SetOf (W : Int) s p) : SetOf (W : Int) s (bitL s) := h.congr (fun i hi => (h.bit hi).symm)
theorem SetOf.len (h : SetOf (W : Int) s p) (hW : W ≤ 65536) : s.length ≤ 1025 := by rw [h.n]; omega
theorem meet_ev (hW : W ≤ 65536) (al : Bool) (ha : SetOf (W : Int) a p) (hb : SetOf (W : Int) b q) : ∃ r, Ev (fun k => fl_meet k al a b) r ∧ SetOf (W : Int) r (fun i => if al = true then p i && q i else p i || q i) := by
 have la := ha.len hW
 have lb := hb.len hW
 have na := ha.n
 have nb := hb.n
 cases al
 ·obtain ⟨r, hr, hf⟩ := or_ev a b (by omega)
  obtain ⟨w, hbit⟩ := or_bit ha.w hb.w hf
  refine ⟨r, Ev.congr (fun k => by rw [fl_meet, if_neg (by simp)]) hr, by rw [hf.1]; omega, w, fun i => ?_⟩
  rw [hbit, ha.b, hb.b, if_neg (by simp)]
  cases p i <;> cases q i <;> cases decide ((i : Int) < (W : Int)) <;> rfl
 ·obtain ⟨r, hr, hf⟩ := and_ev a b (by omega)
  obtain ⟨w, hbit⟩ := and_bit ha.w hb.w hf
  refine ⟨r, Ev.congr (fun k => by rw [fl_meet, if_pos rfl]) hr, by rw [hf.1]; omega, w, fun i => ?_⟩
  rw [hbit, ha.b, hb.b, if_pos rfl]
  cases p i <;> cases q i <;> cases decide ((i : Int) < (W : Int)) <;> rfl
theorem none_ev (hW : W ≤ 65536) (al : Bool) : ∃ r, Ev (fun k => fl_none k al (W : Int)) r ∧ SetOf (W : Int) r (fun _ => al) := by
 cases al
 ·refine ⟨List.replicate (((W : Int) + 63) / 64).toNat 0, Ev.congr (f := fun _ => some _) (fun k => by rw [fl_none, if_neg (by simp), new_val (by omega) (by omega)]) (Ev.now _), by rw [List.length_replicate], wf_zeros _, fun i => by rw [bitL_zeros]; rfl⟩
 ·obtain ⟨r, hr, hn, hw, hb⟩ := full_ev W hW
  refine ⟨r, Ev.congr (fun k => by rw [fl_none, if_pos rfl]) hr, by rw [hn]; omega, hw, fun i => ?_⟩
  rw [hb, Bool.true_and, decide_eq_decide]
  omega
theorem less_set (hW : W ≤ 65536) (ha : SetOf (W : Int) a p) (hb : SetOf (W : Int) b q) : ∃ r, Ev (fun k => bits_Less.f k a b) r ∧ SetOf (W : Int) r (fun i => p i && !q i) := by
 have la := ha.len hW
 obtain ⟨r, hr, hf⟩ := less_ev a b (by omega)
 obtain ⟨w, hbit⟩ := less_bit ha.w hb.w hf
 refine ⟨r, hr, by rw [hf.1]; exact ha.n, w, fun i => ?_⟩
 rw [hbit, ha.b, hb.b]
 cases p i <;> cases q i <;> cases decide ((i : Int) < (W : Int)) <;> rfl
theorem or_set (hW : W ≤ 65536) (ha : SetOf (W : Int) a p) (hb : SetOf (W : Int) b q) : ∃ r, Ev (fun k => bits_Or.f k a b) r ∧ SetOf (W : Int) r (fun i => p i || q i) := by
 obtain ⟨r, hr, hs⟩ := meet_ev hW false ha hb
 exact ⟨r, Ev.congr (fun k => by rw [fl_meet, if_neg (by simp)]) hr, hs.congr (fun i _ => by rw [if_neg (by simp)])⟩
theorem same_set (hW : W ≤ 65536) (ha : SetOf (W : Int) a p) (hb : SetOf (W : Int) b q) : ∃ r, Ev (fun k => bits_Same.f k a b) r ∧ (r = true ↔ ∀ i, i < W → p i = q i) := by
 have la := ha.len hW
 have lb := hb.len hW
 obtain ⟨r, hr, hi⟩ := same_ev a b ha.w hb.w (by omega)
 refine ⟨r, hr, hi.trans ⟨fun h i hi => by rw [← ha.bit hi, ← hb.bit hi]; exact h i, fun h i => ?_⟩⟩
 by_cases hi : i < W
 ·rw [ha.bit hi, hb.bit hi]; exact h i hi
 ·rw [ha.b, hb.b, decide_eq_false (by omega)]; simp
end
def bt (T : List (List Int)) : Fa := fun k i => bitL (T.getD k []) i
structure Sets (T : List (List Int)) (n W : Nat) : Prop where
 len : T.length = n
 set : ∀ k, k < n → SetOf (W : Int) (T.getD k []) (bt T k)
theorem Sets.put {T : List (List Int)} {n W : Nat} (h : Sets T n W) {x : Nat} (hx : x < n) {s : List Int} {p : Nat → Bool} (hs : SetOf (W : Int) s p) : Sets (T.set x s) n W ∧ ∀ k i, i < W → bt (T.set x s) k i = if k = x then p i else bt T k i := by
 have hl := h.len
 refine ⟨⟨by rw [List.length_set]; exact hl, fun k hk => ?_⟩, fun k i hi => ?_⟩
 ·unfold bt
  rw [getD_set]
  by_cases e : x = k
  ·rw [if_pos ⟨e, by omega⟩]; exact hs.self
  ·rw [if_neg (by omega)]; exact h.set k hk
 ·unfold bt
  rw [getD_set]
  by_cases e : k = x
  ·rw [if_pos ⟨e.symm, by omega⟩, if_pos e, hs.bit hi]
  ·rw [if_neg (by omega), if_neg e]
structure Prog (E G K : List (List Int)) (S : List Int) (W : Nat) (A B : List (List Int)) (s : List Int) : Prop where
 good : Good E G K S W
 er : ∀ r ∈ E, r.length ≤ 200
 al : A.length = E.length
 bl : B.length = E.length
 a : ∀ k, k < E.length → SetOf (W : Int) (A.getD k []) (fun i => decide ((i : Int) ∈ G.getD k []))
 b : ∀ k, k < E.length → SetOf (W : Int) (B.getD k []) (fun i => decide ((i : Int) ∈ K.getD k []))
 s : SetOf (W : Int) s (fun i => decide ((i : Int) ∈ S))
section
variable {E G K : List (List Int)} {S : List Int} {bk al : Bool} {W : Nat} {A B : List (List Int)} {s : List Int}
theorem to_set (h : Prog E G K S W A B s) {k : Nat} (hk : k < E.length) {f : List Int} {p : Nat → Bool} (hf : SetOf (W : Int) f p) :
  ∃ r, Ev (fun q => flow_Problem_to.f q E bk al (W : Int) A B s (k : Int) f) r ∧ SetOf (W : Int) r (fun i => (PP E G K S bk al W).gen k i || (p i && !(PP E G K S bk al W).kil k i)) := by
 have hw := h.good.w
 have l1 := h.al
 have l2 := h.bl
 obtain ⟨t, ht, st⟩ := less_set hw hf (h.b k hk)
 obtain ⟨r, hr, sr⟩ := or_set hw (h.a k hk) st
 refine ⟨r, ?_, sr⟩
 refine Ev.congr (fun q => by rw [flow_Problem_to.f, if_pos (by omega), if_pos (by omega), if_pos (by omega), rdL3_nat, rdL3_nat]) ?_
 exact Ev.bind ht (Ev.bind hr (Ev.now _))
structure Ahead (P : Pr) (bk : Bool) (E ah : List (List Int)) : Prop where
 n : ah.length = P.n
 len : ∀ k, k < P.n → (ah.getD k []).length < 17592186044416
 mem : ∀ k, k < P.n → ∀ a : Nat, (a : Int) ∈ ah.getD k [] ↔ a ∈ P.ah k
 in_ : ∀ k, k < P.n → ∀ x ∈ ah.getD k [], 0 ≤ x ∧ x < (P.n : Int)
 e : bk = true → ah = E
theorem from_set (h : Prog E G K S W A B s) {ah : List (List Int)} (ha : Ahead (PP E G K S bk al W) bk E ah) {T : List (List Int)} (hT : Sets T E.length W) {k : Nat} (hk : k < E.length) :
  ∃ r, Ev (fun q => flow_Problem_from.f q E bk al (W : Int) A B s (k : Int) ah T) r ∧ SetOf (W : Int) r (fun i => (PP E G K S bk al W).frm (bt T) k i) := by
 have hw := h.good.w
 have n_ : (PP E G K S bk al W).n = E.length := rfl
 have l1 := ha.n
 have hTl := hT.len
 have hlen := ha.len k hk
 have key : ∀ d j o (p : Nat → Bool), (ah.getD k []).length - j = d → j ≤ (ah.getD k []).length → SetOf (W : Int) o p →
   ∃ r, Ev (fun q => flow_Problem_from.l0 q al T (ah.getD k []) (j : Int) o) r ∧ SetOf (W : Int) r (fun i => if al = true then p i && ((ah.getD k []).drop j).all (fun x => bt T x.toNat i) else p i || ((ah.getD k []).drop j).any (fun x => bt T x.toNat i)) := by
  intro d
  induction d with
  | zero =>
   intro j o p hd hj ho
   obtain rfl : j = (ah.getD k []).length := by omega
   refine ⟨o, ?_, ho.congr (fun i _ => ?_)⟩
   ·apply Ev.step
    ·intro q
     rw [flow_Problem_from.l0, if_neg (by omega)]
    ·exact Ev.now _
   ·simp
  | succ d ih =>
   intro j o p hd hj ho
   have hlt : j < (ah.getD k []).length := by omega
   have e0 : rd (ah.getD k []) (j : Int) = (ah.getD k [])[j] := rd_nat _ j hlt
   obtain ⟨x0, x1⟩ := ha.in_ k hk _ (List.getElem_mem hlt)
   obtain ⟨a, hax⟩ : ∃ a : Nat, (ah.getD k [])[j] = (a : Int) := ⟨((ah.getD k [])[j]).toNat, by omega⟩
   obtain ⟨m, hm, sm⟩ := meet_ev hw al ho (hT.set a (by omega))
   obtain ⟨r, hr, sr⟩ := ih (j + 1) m _ (by omega) (by omega) sm
   refine ⟨r, ?_, sr.congr (fun i _ => ?_)⟩
   ·apply Ev.step
    ·intro q
     rw [flow_Problem_from.l0, if_pos (by omega), if_pos (by omega), e0, hax, rdL3_nat, wrap_succ j (by omega)]
    ·exact Ev.bind hm hr
   ·rw [List.drop_eq_getElem_cons hlt, List.all_cons, List.any_cons, hax, Int.toNat_natCast]
    cases al
    ·simp [Bool.or_assoc]
    ·simp [Bool.and_assoc]
 obtain ⟨o0, h0, s0⟩ := none_ev hw al
 have e1 : fl_begins bk ah (k : Int) = (PP E G K S bk al W).beg k := by
  cases bk
  ·show (((k : Int)) == 0) = (k == 0)
   rw [Bool.eq_iff_iff]; simp only [beq_iff_eq]; omega
  ·show ((((rd_L1 ah (k : Int)).length : Int)) == 0) = ((E.getD k []).length == 0)
   rw [rdL1_nat, ha.e rfl, Bool.eq_iff_iff]; simp only [beq_iff_eq]; omega
 have e2 : ∀ i, ((ah.getD k []).all (fun x => bt T x.toNat i) = ((PP E G K S bk al W).ah k).all (fun a => bt T a i)) ∧ ((ah.getD k []).any (fun x => bt T x.toNat i) = ((PP E G K S bk al W).ah k).any (fun a => bt T a i)) := by
  intro i
  have hm := ha.mem k hk
  have hi := ha.in_ k hk
  constructor
  ·rw [Bool.eq_iff_iff]; simp only [List.all_eq_true]
   refine ⟨fun q x hx => ?_, fun q x hx => ?_⟩
   ·have := q _ ((hm x).2 hx); rwa [Int.toNat_natCast] at this
   ·refine q _ ((hm x.toNat).1 ?_)
    have := hi x hx
    rwa [show ((x.toNat : Nat) : Int) = x by omega]
  ·rw [Bool.eq_iff_iff]; simp only [List.any_eq_true]
   refine ⟨fun ⟨x, hx, q⟩ => ⟨x.toNat, (hm x.toNat).1 ?_, q⟩, fun ⟨x, hx, q⟩ => ⟨(x : Int), (hm x).2 hx, by rwa [Int.toNat_natCast]⟩⟩
   have := hi x hx
   rwa [show ((x.toNat : Nat) : Int) = x by omega]
 have st_ : ∀ i, (PP E G K S bk al W).st i = decide ((i : Int) ∈ S) := fun _ => rfl
 have al_ : (PP E G K S bk al W).all = al := rfl
 cases hb : (PP E G K S bk al W).beg k
 ·obtain ⟨r, hr, sr⟩ := key _ 0 o0 _ rfl (by omega) s0
  refine ⟨r, ?_, sr.congr (fun i _ => ?_)⟩
  ·refine Ev.congr (fun q => by rw [flow_Problem_from.f, if_pos (by omega), e1, hb, rdL1_nat]) ?_
   exact Ev.bind h0 (Ev.bind (Ev.congr (f := fun _ => some o0) (fun q => by rw [if_neg (by simp)]) (Ev.now _)) hr)
  ·rw [List.drop_zero, (e2 i).1, (e2 i).2]
   unfold Pr.frm
   rw [hb, al_]
   cases al <;> simp
 ·obtain ⟨m, hm, sm⟩ := meet_ev hw al s0 h.s
  obtain ⟨r, hr, sr⟩ := key _ 0 m _ rfl (by omega) sm
  refine ⟨r, ?_, sr.congr (fun i _ => ?_)⟩
  ·refine Ev.congr (fun q => by rw [flow_Problem_from.f, if_pos (by omega), e1, hb, rdL1_nat]) ?_
   exact Ev.bind h0 (Ev.bind (Ev.congr (fun q => by rw [if_pos rfl]) hm) hr)
  ·rw [List.drop_zero, (e2 i).1, (e2 i).2]
   unfold Pr.frm
   rw [hb, al_, st_]
   cases al
   ·simp only [Bool.false_eq_true, if_false, Bool.false_or, Bool.true_and]; rw [Bool.or_comm]
   ·simp only [if_true, Bool.true_and, Bool.not_true, Bool.false_or]; rw [Bool.and_comm]
structure Tn (E : List (List Int)) (i j : Nat) (T : List (List Int)) : Prop where
 len : T.length = E.length
 row : ∀ t, (T.getD t []).length ≤ i * 200 + j
 mem : ∀ t, t < E.length → ∀ x, x ∈ T.getD t [] ↔ ∃ k : Nat, x = (k : Int) ∧ ((k < i ∧ (t : Int) ∈ E.getD k []) ∨ (k = i ∧ (t : Int) ∈ (E.getD k []).take j))
theorem tn_put {i j : Nat} (h : Good E G K S W) (hi : i < E.length) (hj : j < (E.getD i []).length) {T : List (List Int)} (hT : Tn E i j T) {t : Nat} (ht : (E.getD i [])[j] = (t : Int)) (htl : t < E.length) : Tn E i (j + 1) (T.set t (T.getD t [] ++ [(i : Int)])) := by
 have hl := hT.len
 refine ⟨by rw [List.length_set]; exact hl, fun u => ?_, fun u hu x => ?_⟩
 ·rw [getD_set]
  have := hT.row u
  split
  ·rename_i q
   obtain ⟨rfl, _⟩ := q
   rw [List.length_append, List.length_singleton]; omega
  ·omega
 ·have e : (E.getD i []).take (j + 1) = (E.getD i []).take j ++ [(t : Int)] := by rw [List.take_succ_eq_append_getElem hj, ht]
  rw [getD_set]
  by_cases q : t = u
  ·subst q
   rw [if_pos ⟨rfl, by omega⟩, List.mem_append, List.mem_singleton, hT.mem t hu]
   constructor
   ·rintro (⟨k, rfl, q2 | ⟨rfl, q2⟩⟩ | rfl)
    ·exact ⟨k, rfl, .inl q2⟩
    ·exact ⟨k, rfl, .inr ⟨rfl, by rw [e, List.mem_append]; exact .inl q2⟩⟩
    ·exact ⟨i, rfl, .inr ⟨rfl, by rw [e, List.mem_append]; exact .inr (List.mem_singleton.2 rfl)⟩⟩
   ·rintro ⟨k, rfl, q2 | ⟨rfl, q2⟩⟩
    ·exact .inl ⟨k, rfl, .inl q2⟩
    ·exact .inr rfl
  ·rw [if_neg (by omega), hT.mem u hu]
   constructor
   ·rintro ⟨k, rfl, q2 | ⟨rfl, q2⟩⟩
    ·exact ⟨k, rfl, .inl q2⟩
    ·exact ⟨k, rfl, .inr ⟨rfl, by rw [e, List.mem_append]; exact .inl q2⟩⟩
   ·rintro ⟨k, rfl, q2 | ⟨rfl, q2⟩⟩
    ·exact ⟨k, rfl, .inl q2⟩
    ·refine ⟨k, rfl, .inr ⟨rfl, ?_⟩⟩
     rw [e, List.mem_append, List.mem_singleton] at q2
     rcases q2 with q2 | q2
     ·exact q2
     ·omega
theorem turned_l1 (h : Good E G K S W) (er : ∀ r ∈ E, r.length ≤ 200) {i : Nat} (hi : i < E.length) (hn : ∀ T, Tn E (i + 1) 0 T → ∃ r, Ev (fun q => flow_turned.l0 q T E (E.length : Int) ((i + 1 : Nat) : Int)) r ∧ Tn E E.length 0 r) :
  ∀ d j T, (E.getD i []).length - j = d → j ≤ (E.getD i []).length → Tn E i j T → ∃ r, Ev (fun q => flow_turned.l1 q T (i : Int) E (E.length : Int) (i : Int) (E.getD i []) ((E.getD i []).length : Int) (j : Int)) r ∧ Tn E E.length 0 r := by
 have hm := er _ (getD_mem E [] hi)
 have hnn := h.n
 intro d
 induction d with
 | zero =>
  intro j T hd hj hT
  obtain rfl : j = (E.getD i []).length := by omega
  obtain ⟨r, hr, hTr⟩ := hn T ⟨hT.len, fun t => by have := hT.row t; omega, fun t ht x => by
   rw [hT.mem t ht]
   constructor
   ·rintro ⟨k, rfl, q2 | ⟨rfl, q2⟩⟩
    ·exact ⟨k, rfl, .inl ⟨by omega, q2.2⟩⟩
    ·rw [List.take_length] at q2
     exact ⟨k, rfl, .inl ⟨by omega, q2⟩⟩
   ·rintro ⟨k, rfl, q2 | ⟨rfl, q2⟩⟩
    ·by_cases e : k = i
     ·exact ⟨k, rfl, .inr ⟨e, by rw [e, List.take_length, ← e]; exact q2.2⟩⟩
     ·exact ⟨k, rfl, .inl ⟨by omega, q2.2⟩⟩
    ·rw [List.take_zero] at q2; cases q2⟩
  refine ⟨r, ?_, hTr⟩
  apply Ev.step
  ·intro q
   rw [flow_turned.l1, if_neg (by omega), wrap_succ i (by omega)]
  ·exact hr
 | succ d ih =>
  intro j T hd hj hT
  have hlt : j < (E.getD i []).length := by omega
  have e0 : rd (E.getD i []) (j : Int) = (E.getD i [])[j] := rd_nat _ j hlt
  obtain ⟨x0, x1⟩ := h.e _ (getD_mem E [] hi) _ (List.getElem_mem hlt)
  obtain ⟨t, ht⟩ : ∃ t : Nat, (E.getD i [])[j] = (t : Int) := ⟨((E.getD i [])[j]).toNat, by omega⟩
  have hl := hT.len
  have hrow := hT.row t
  obtain ⟨r, hr, hTr⟩ := ih (j + 1) _ (by omega) (by omega) (tn_put h hi hlt hT ht (by omega))
  refine ⟨r, ?_, hTr⟩
  apply Ev.step
  ·intro q
   rw [flow_turned.l1, if_pos (by omega), if_pos (by omega), if_pos (by omega), e0, ht, if_pos (by omega), if_pos (by omega), rdL1_nat, if_pos (by omega), wrap_succ j (by omega), Int.toNat_natCast]
  ·exact hr
theorem turned_l0 (h : Good E G K S W) (er : ∀ r ∈ E, r.length ≤ 200) : ∀ d i T, E.length - i = d → i ≤ E.length → Tn E i 0 T → ∃ r, Ev (fun q => flow_turned.l0 q T E (E.length : Int) (i : Int)) r ∧ Tn E E.length 0 r := by
 intro d
 induction d with
 | zero =>
  intro i T hd hi hT
  obtain rfl : i = E.length := by omega
  refine ⟨T, ?_, hT⟩
  apply Ev.step
  ·intro q
   rw [flow_turned.l0, if_neg (by omega)]
  ·exact Ev.now _
 | succ d ih =>
  intro i T hd hi hT
  obtain ⟨r, hr, hTr⟩ := turned_l1 h er (show i < E.length by omega) (fun T' hT' => ih (i + 1) T' (by omega) (by omega) hT') _ 0 T rfl (by omega) hT
  refine ⟨r, ?_, hTr⟩
  apply Ev.step
  ·intro q
   rw [flow_turned.l0, if_pos (by omega), if_pos (by omega), if_pos (by omega), rdL1_nat]
  ·exact hr
theorem turned_ev (h : Good E G K S W) (er : ∀ r ∈ E, r.length ≤ 200) : ∃ T, Ev (fun q => flow_turned.f q E) T ∧ Tn E E.length 0 T := by
 have hn := h.n
 have h0 : Tn E 0 0 (List.replicate E.length []) := ⟨by simp, fun t => by
   rw [List.getD_eq_getElem?_getD, List.getElem?_replicate]; split <;> simp, fun t ht x => by
   rw [List.getD_eq_getElem?_getD, List.getElem?_replicate, if_pos ht]
   simp⟩
 obtain ⟨T, hT, hT2⟩ := turned_l0 h er E.length 0 _ (by omega) (by omega) h0
 refine ⟨T, Ev.congr (fun q => ?_) hT, hT2⟩
 rw [flow_turned.f, if_pos (by omega), if_pos (by omega)]
 rfl
theorem ways_ev (h : Good E G K S W) (er : ∀ r ∈ E, r.length ≤ 200) (A B : List (List Int)) (s : List Int) : ∃ ah bh, Ev (fun q => flow_Problem_ways.f q E bk al (W : Int) A B s) (ah, bh) ∧ Ahead (PP E G K S bk al W) bk E ah ∧ bh.length = E.length ∧ (∀ k, k < E.length → (bh.getD k []).length < 17592186044416) ∧ (∀ k, k < E.length → ∀ x ∈ bh.getD k [], 0 ≤ x ∧ x < (E.length : Int)) ∧ (∀ k b : Nat, k < E.length → b < E.length → k ∈ (PP E G K S bk al W).ah b → (b : Int) ∈ bh.getD k []) := by
 obtain ⟨T, hT, tn⟩ := turned_ev h er
 have hn := h.n
 have tl : ∀ k, k < E.length → (T.getD k []).length < 17592186044416 := fun k hk => by
  have := tn.row k
  omega
 have el : ∀ k, k < E.length → (E.getD k []).length < 17592186044416 := fun k hk => by have := er _ (getD_mem E [] hk); omega
 have ti : ∀ k, k < E.length → ∀ x ∈ T.getD k [], 0 ≤ x ∧ x < (E.length : Int) := fun k hk x hx => by
  obtain ⟨j, rfl, q | q⟩ := (tn.mem k hk x).1 hx
  ·omega
  ·simp at q
 have ei : ∀ k, k < E.length → ∀ x ∈ E.getD k [], 0 ≤ x ∧ x < (E.length : Int) := fun k hk => h.e _ (getD_mem E [] hk)
 have tm : ∀ k, k < E.length → ∀ a : Nat, (a : Int) ∈ T.getD k [] ↔ a < E.length ∧ (k : Int) ∈ E.getD a [] := fun k hk a => by
  rw [tn.mem k hk]
  constructor
  ·rintro ⟨j, e, q | q⟩
   ·obtain rfl : a = j := by omega
    exact q
   ·simp at q
  ·rintro ⟨h1, h2⟩
   exact ⟨a, rfl, .inl ⟨h1, h2⟩⟩
 cases bk
 ·refine ⟨T, E, ?_, ⟨tn.len, tl, fun k hk a => ?_, ti, fun q => by cases q⟩, rfl, el, ei, fun k b hk hb hm => ?_⟩
  ·exact Ev.bind hT (Ev.congr (f := fun _ => some _) (fun q => by rw [if_neg (by simp)]) (Ev.now _))
  ·rw [tm k hk]
   show _ ↔ a ∈ (List.range E.length).filter (fun j => decide ((k : Int) ∈ E.getD j []))
   simp
  ·have : k ∈ (List.range E.length).filter (fun j => decide ((b : Int) ∈ E.getD j [])) := hm
   simpa using (List.mem_filter.1 this).2
 ·refine ⟨E, T, ?_, ⟨rfl, el, fun k hk a => ?_, ei, fun _ => rfl⟩, tn.len, tl, ti, fun k b hk hb hm => ?_⟩
  ·exact Ev.bind hT (Ev.congr (f := fun _ => some _) (fun q => by rw [if_pos rfl]) (Ev.now _))
  ·show _ ↔ a ∈ (E.getD k []).map Int.toNat
   rw [List.mem_map]
   constructor
   ·intro hm; exact ⟨_, hm, by simp⟩
   ·rintro ⟨x, hx, e⟩
    have := ei k hk x hx
    rwa [show (a : Int) = x by omega]
  ·have hm2 : k ∈ (E.getD b []).map Int.toNat := hm
   obtain ⟨x, hx, e⟩ := List.mem_map.1 hm2
   have := ei b hb x hx
   rw [tm k hk]
   exact ⟨hb, by rwa [show (k : Int) = x by omega]⟩
end
end Go.Proofs.YtanpghbakbebiaaDoor.Pure
set_option linter.unusedVariables false
namespace Go.Proofs.YtanpghbakbebiaaDoor.Pure
open Go.RowKit Go.Proofs.YtanpghbakbebiaaDoor.P Go.Proofs.YtanpghbakbebiaaDoorW.PrintWords Go.Proofs.YtanpghbakbebiaaDoorW.PrintLast Go.Proofs.YtanpghbakbebiaaDoorW.PrintMore
def puts (n : Nat) (L r : List Int) : List Int := r.foldl (fs_put n) L
theorem mem_put {n : Nat} {L : List Int} {i x : Int} : x ∈ fs_put n L i ↔ x ∈ L ∨ (x = i ∧ 0 ≤ i ∧ i < (n : Int)) := by
 unfold fs_put
 by_cases h : 0 ≤ i ∧ i < (n : Int) ∧ i ∉ L
 ·rw [if_pos h, List.mem_append, List.mem_singleton]
  constructor
  ·rintro (q | q)
   ·exact .inl q
   ·exact .inr ⟨q, h.1, h.2.1⟩
  ·rintro (q | q)
   ·exact .inl q
   ·exact .inr q.1
 ·rw [if_neg h]
  constructor
  ·exact .inl
  ·rintro (q | ⟨rfl, q1, q2⟩)
   ·exact q
   ·exact Classical.byContradiction (fun q3 => h ⟨q1, q2, q3⟩)
theorem nodup_put {n : Nat} {L : List Int} (h : L.Nodup) (i : Int) : (fs_put n L i).Nodup := by
 unfold fs_put
 split
 ·rename_i q
  rw [List.nodup_append]
  exact ⟨h, by simp, fun a ha b hb e => q.2.2 (by rw [List.mem_singleton.1 hb] at e; rwa [← e])⟩
 ·exact h
theorem mem_puts {n : Nat} : ∀ (r L : List Int) (x : Int), x ∈ puts n L r ↔ x ∈ L ∨ (x ∈ r ∧ 0 ≤ x ∧ x < (n : Int)) := by
 intro r
 induction r with
 | nil => intro L x; simp [puts]
 | cons y r ih =>
  intro L x
  rw [show puts n L (y :: r) = puts n (fs_put n L y) r from rfl, ih, mem_put, List.mem_cons]
  constructor
  ·rintro ((q | ⟨rfl, q1, q2⟩) | ⟨q, q1, q2⟩)
   ·exact .inl q
   ·exact .inr ⟨.inl rfl, q1, q2⟩
   ·exact .inr ⟨.inr q, q1, q2⟩
  ·rintro (q | ⟨rfl | q, q1, q2⟩)
   ·exact .inl (.inl q)
   ·exact .inl (.inr ⟨rfl, q1, q2⟩)
   ·exact .inr ⟨q, q1, q2⟩
theorem nodup_puts {n : Nat} : ∀ (r L : List Int), L.Nodup → (puts n L r).Nodup := by
 intro r
 induction r with
 | nil => intro L h; exact h
 | cons y r ih => intro L h; exact ih _ (nodup_put h y)
theorem nodup_len {n : Nat} {L : List Int} (h : L.Nodup) (hr : ∀ x ∈ L, 0 ≤ x ∧ x < (n : Int)) : L.length ≤ n := by
 have h2 : (L.map Int.toNat).Nodup := by
  rw [List.nodup_iff_pairwise_ne] at h ⊢
  rw [List.pairwise_map]
  exact h.imp_of_mem (fun {a b} ha hb e q => by have := hr a ha; have := hr b hb; exact e (by omega))
 have h3 := h2.length_le_of_subset (l₂ := List.range n) (fun x hx => by
  obtain ⟨y, hy, rfl⟩ := List.mem_map.1 hx
  have := hr y hy
  rw [List.mem_range]; omega)
 simpa using h3
section
variable {E G K : List (List Int)} {S : List Int} {bk al : Bool} {W : Nat} {A B : List (List Int)} {s : List Int}
theorem fs_l3_ev {ah bh fr tt : List (List Int)} {r : List Int} (hr : r.length < 17592186044416) {q : List (List Int) × List (List Int)} : ∀ d j L, r.length - j = d → j ≤ r.length →
  Ev (fun k => fs_l2 k E bk al (W : Int) A B s ah bh fr tt (puts E.length L (r.drop j))) q → Ev (fun k => fs_l3 k E bk al (W : Int) A B s ah bh fr tt L r (j : Int)) q := by
 intro d
 induction d with
 | zero =>
  intro j L hd hj hq
  obtain rfl : j = r.length := by omega
  rw [List.drop_length] at hq
  apply Ev.step
  ·intro k
   rw [fs_l3, if_neg (by omega)]
  ·exact hq
 | succ d ih =>
  intro j L hd hj hq
  have hlt : j < r.length := by omega
  rw [List.drop_eq_getElem_cons hlt] at hq
  apply Ev.step
  ·intro k
   rw [fs_l3, if_pos (by omega), if_pos (by omega), rd_nat r j hlt, wrap_succ j (by omega)]
  ·exact ih (j + 1) _ (by omega) (by omega) hq
structure Wl (P : Pr) (fr tt : List (List Int)) (L : List Int) : Prop where
 fl : fr.length = P.n
 tl : Sets tt P.n P.wd
 inv : P.Inv (bt tt)
 nd : L.Nodup
 rng : ∀ x ∈ L, 0 ≤ x ∧ x < (P.n : Int)
 done : ∀ k : Nat, k < P.n → (k : Int) ∉ L → SetOf (P.wd : Int) (fr.getD k []) (P.frm (bt tt) k) ∧ ∀ i, i < P.wd → bt tt k i = P.tto (bt tt) k i
theorem frm_apart (P : Pr) {a b : Fa} {x : Nat} (h : ∀ k i, k ≠ x → i < P.wd → a k i = b k i) {k i : Nat} (hi : i < P.wd) (hx : x ∉ P.ah k) : P.frm a k i = P.frm b k i := by
 unfold Pr.frm
 have e1 : (P.ah k).all (fun y => a y i) = (P.ah k).all (fun y => b y i) := by
  rw [Bool.eq_iff_iff]; simp only [List.all_eq_true]
  exact ⟨fun q y hy => by rw [← h y i (fun e => hx (e ▸ hy)) hi]; exact q y hy, fun q y hy => by rw [h y i (fun e => hx (e ▸ hy)) hi]; exact q y hy⟩
 have e2 : (P.ah k).any (fun y => a y i) = (P.ah k).any (fun y => b y i) := by
  rw [Bool.eq_iff_iff]; simp only [List.any_eq_true]
  exact ⟨fun ⟨y, hy, q⟩ => ⟨y, hy, by rw [← h y i (fun e => hx (e ▸ hy)) hi]; exact q⟩, fun ⟨y, hy, q⟩ => ⟨y, hy, by rw [h y i (fun e => hx (e ▸ hy)) hi]; exact q⟩⟩
 rw [e1, e2]
theorem fs_l2_ev (h : Prog E G K S W A B s) {ah bh : List (List Int)} (ha : Ahead (PP E G K S bk al W) bk E ah) (hbl : bh.length = E.length) (hb1 : ∀ k, k < E.length → (bh.getD k []).length < 17592186044416) (hb2 : ∀ k, k < E.length → ∀ x ∈ bh.getD k [], 0 ≤ x ∧ x < (E.length : Int))
  (hb3 : ∀ k b : Nat, k < E.length → b < E.length → k ∈ (PP E G K S bk al W).ah b → (b : Int) ∈ bh.getD k []) :
  ∀ m fr tt L, (PP E G K S bk al W).un (bt tt) * (E.length + 1) + L.length = m → Wl (PP E G K S bk al W) fr tt L →
   ∃ fr1 tt1, Ev (fun q => fs_l2 q E bk al (W : Int) A B s ah bh fr tt L) (fr1, tt1) ∧ Wl (PP E G K S bk al W) fr1 tt1 [] := by
 have hw := h.good.w
 have n_ : (PP E G K S bk al W).n = E.length := rfl
 have wd_ : (PP E G K S bk al W).wd = W := rfl
 have hP := prOf_ok (bk := bk) (al := al) h.good
 intro m
 induction m using Nat.strongRecOn with
 | _ m ih =>
  intro fr tt L hm hI
  cases L with
  | nil =>
   refine ⟨fr, tt, ?_, hI⟩
   apply Ev.step
   ·intro k
    rw [fs_l2]
   ·exact Ev.now _
  | cons x L =>
   obtain ⟨x0, x1⟩ := hI.rng x (List.mem_cons_self ..)
   obtain ⟨x, rfl⟩ : ∃ y : Nat, x = (y : Int) := ⟨x.toNat, by omega⟩
   have hx : x < E.length := by omega
   have hfl := hI.fl
   have htl := hI.tl.len
   rw [n_] at hfl htl
   have hnd := List.nodup_cons.1 hI.nd
   obtain ⟨f, hf, sf⟩ := from_set (bk := bk) (al := al) h ha hI.tl hx
   obtain ⟨t, ht, st⟩ := to_set (bk := bk) (al := al) h hx sf
   obtain ⟨b, hb, ib⟩ := same_set hw st (hI.tl.set x hx)
   have hstep : ∀ k, fs_l2 (k + 1) E bk al (W : Int) A B s ah bh fr tt ((x : Int) :: L) = ((flow_Problem_from.f k E bk al (W : Int) A B s (x : Int) ah tt).bind fun s' => ((flow_Problem_to.f k E bk al (W : Int) A B s (x : Int) s').bind fun t => ((bits_Same.f k t (rd_L3 tt (x : Int))).bind fun b => (if b = true then fs_l2 k E bk al (W : Int) A B s ah bh (fr.set (x : Int).toNat s') tt L else fs_l3 k E bk al (W : Int) A B s ah bh (fr.set (x : Int).toNat s') (tt.set (x : Int).toNat t) L (rd_L1 bh (x : Int)) 0)))) := by
    intro k
    rw [fs_l2, if_pos ⟨by omega, by omega, by omega, by omega⟩]
   rw [← rdL3_nat] at hb
   have gf : ∀ k, (fr.set x f).getD k [] = if k = x then f else fr.getD k [] := fun k => by
    rw [getD_set]
    by_cases e : x = k
    ·rw [if_pos ⟨e, by omega⟩, if_pos e.symm]
    ·rw [if_neg (by omega), if_neg (by omega)]
   cases b
   ·
    obtain ⟨stt, btt⟩ := hI.tl.put (x := x) (by rw [n_]; exact hx) st
    obtain ⟨i1, l1⟩ := Pr.inv_step hP hI.inv (b := bt (tt.set x t)) (fun k i _ hi => by
     rw [btt k i hi]
     by_cases q : k = x
     ·rw [if_pos q, q]; exact .inr rfl
     ·rw [if_neg q]; exact .inl rfl)
    have hne : ∃ i, i < W ∧ bt tt x i ≠ bt (tt.set x t) x i := by
     refine Classical.byContradiction (fun q => ?_)
     have : false = true := ib.2 (fun i hi => Classical.byContradiction (fun q2 => q ⟨i, hi, fun e => q2 (by rw [e, btt x i hi, if_pos rfl])⟩))
     cases this
    obtain ⟨i0, hi0, hne⟩ := hne
    have hun := Pr.un_lt (P := PP E G K S bk al W) l1 (k := x) (i := i0) hx hi0 hne
    have nd' := nodup_puts (n := E.length) (bh.getD x []) L hnd.2
    have rng' : ∀ y ∈ puts E.length L (bh.getD x []), 0 ≤ y ∧ y < (E.length : Int) := fun y hy => by
     rcases (mem_puts _ _ _).1 hy with q | q
     ·exact hI.rng y (List.mem_cons_of_mem _ q)
     ·exact q.2
    have len' := nodup_len nd' rng'
    have apart : ∀ k i, k ≠ x → i < (PP E G K S bk al W).wd → bt (tt.set x t) k i = bt tt k i := fun k i hk hi => by rw [btt k i hi, if_neg hk]
    have hI' : Wl (PP E G K S bk al W) (fr.set x f) (tt.set x t) (puts E.length L (bh.getD x [])) := by
     refine ⟨by rw [List.length_set]; exact hfl, stt, i1, nd', rng', fun k hk hkL => ?_⟩
     rw [mem_puts] at hkL
     have hkL1 : (k : Int) ∉ L := fun q => hkL (.inl q)
     have hkx : x ∉ (PP E G K S bk al W).ah k := fun q => by
      have q2 := hb3 x k hx hk q
      exact hkL (.inr ⟨q2, by omega, by omega⟩)
     have fe : ∀ i, i < W → (PP E G K S bk al W).frm (bt (tt.set x t)) k i = (PP E G K S bk al W).frm (bt tt) k i := fun i hi => frm_apart _ apart hi hkx
     have te : ∀ i, i < W → (PP E G K S bk al W).tto (bt (tt.set x t)) k i = (PP E G K S bk al W).tto (bt tt) k i := fun i hi => by unfold Pr.tto; rw [fe i hi]
     rw [gf]
     by_cases q : k = x
     ·subst q
      rw [if_pos rfl]
      exact ⟨sf.congr (fun i hi => (fe i hi).symm), fun i hi => by rw [btt k i hi, if_pos rfl, te i hi]; rfl⟩
     ·rw [if_neg q]
      have hkL2 : (k : Int) ∉ (x : Int) :: L := by
       intro q2
       rcases List.mem_cons.1 q2 with q2 | q2
       ·omega
       ·exact hkL1 q2
      obtain ⟨d1, d2⟩ := hI.done k hk hkL2
      exact ⟨d1.congr (fun i hi => (fe i hi).symm), fun i hi => by rw [apart k i q hi, te i hi]; exact d2 i hi⟩
    obtain ⟨fr1, tt1, h1, r1⟩ := ih _ (by
     have : ((PP E G K S bk al W).un (bt (tt.set x t)) + 1) * (E.length + 1) ≤ (PP E G K S bk al W).un (bt tt) * (E.length + 1) := Nat.mul_le_mul_right _ hun
     rw [Nat.add_mul] at this
     simp only [List.length_cons] at hm
     omega) (fr.set x f) (tt.set x t) (puts E.length L (bh.getD x [])) rfl hI'
    refine ⟨fr1, tt1, ?_, r1⟩
    apply Ev.step hstep
    refine Ev.bind hf (Ev.bind ht (Ev.bind hb ?_))
    refine Ev.congr (fun k => by rw [if_neg (by simp), Int.toNat_natCast, rdL1_nat]) ?_
    exact fs_l3_ev (hb1 x hx) _ 0 L rfl (by omega) (by rw [List.drop_zero]; exact h1)
   ·have hsame : ∀ i, i < W → (PP E G K S bk al W).tto (bt tt) x i = bt tt x i := ib.1 rfl
    have hI' : Wl (PP E G K S bk al W) (fr.set x f) tt L := by
     refine ⟨by rw [List.length_set]; exact hfl, hI.tl, hI.inv, hnd.2, fun y hy => hI.rng y (List.mem_cons_of_mem _ hy), fun k hk hkL => ?_⟩
     rw [gf]
     by_cases q : k = x
     ·subst q
      rw [if_pos rfl]
      exact ⟨sf, fun i hi => (hsame i hi).symm⟩
     ·rw [if_neg q]
      exact hI.done k hk (fun q2 => by
       rcases List.mem_cons.1 q2 with q2 | q2
       ·omega
       ·exact hkL q2)
    obtain ⟨fr1, tt1, h1, r1⟩ := ih _ (by simp only [List.length_cons] at hm; omega) (fr.set x f) tt L rfl hI'
    refine ⟨fr1, tt1, ?_, r1⟩
    apply Ev.step hstep
    refine Ev.bind hf (Ev.bind ht (Ev.bind hb ?_))
    exact Ev.congr (fun k => by rw [if_pos rfl, Int.toNat_natCast]) h1
theorem fs_l0_ev (hW : W ≤ 65536) {n : Nat} (hn : n ≤ 65536) : ∀ d i tt, n - i = d → i ≤ n → tt.length = n → (∀ k, k < i → SetOf (W : Int) (tt.getD k []) (fun _ => al)) → ∃ r, Ev (fun q => fs_l0 q al (W : Int) (n : Int) (i : Int) tt) r ∧ r.length = n ∧ ∀ k, k < n → SetOf (W : Int) (r.getD k []) (fun _ => al) := by
 intro d
 induction d with
 | zero =>
  intro i tt hd hi hl hs
  obtain rfl : i = n := by omega
  refine ⟨tt, ?_, hl, hs⟩
  apply Ev.step
  ·intro q
   rw [fs_l0, if_neg (by omega)]
  ·exact Ev.now _
 | succ d ih =>
  intro i tt hd hi hl hs
  obtain ⟨o, ho, so⟩ := none_ev hW al
  obtain ⟨r, hr, h1, h2⟩ := ih (i + 1) (tt.set i o) (by omega) (by omega) (by rw [List.length_set]; exact hl) (fun k hk => by
   rw [getD_set]
   by_cases e : i = k
   ·rw [if_pos ⟨e, by omega⟩]; exact so
   ·rw [if_neg (by omega)]; exact hs k (by omega))
  refine ⟨r, ?_, h1, h2⟩
  apply Ev.step
  ·intro q
   rw [fs_l0, if_pos (by omega), if_pos (by omega), wrap_succ i (by omega), Int.toNat_natCast]
  ·exact Ev.bind ho hr
theorem fs_l1_ev {n : Nat} (hn : n ≤ 65536) : ∀ d i L, n - i = d → i ≤ n → L.Nodup → (∀ x : Int, x ∈ L ↔ 0 ≤ x ∧ x < (i : Int)) → ∃ r, Ev (fun q => fs_l1 q n (i : Int) L) r ∧ r.Nodup ∧ ∀ x : Int, x ∈ r ↔ 0 ≤ x ∧ x < (n : Int) := by
 intro d
 induction d with
 | zero =>
  intro i L hd hi hnd hm
  obtain rfl : i = n := by omega
  refine ⟨L, ?_, hnd, hm⟩
  apply Ev.step
  ·intro q
   rw [fs_l1, if_neg (by omega)]
  ·exact Ev.now _
 | succ d ih =>
  intro i L hd hi hnd hm
  obtain ⟨r, hr, h1, h2⟩ := ih (i + 1) (fs_put n L (i : Int)) (by omega) (by omega) (nodup_put hnd _) (fun x => by rw [mem_put, hm]; omega)
  refine ⟨r, ?_, h1, h2⟩
  apply Ev.step
  ·intro q
   rw [fs_l1, if_pos (by omega), wrap_succ i (by omega)]
  ·exact hr
theorem fs_ev (h : Prog E G K S W A B s) (hr : Ev (fun q => flow_Right.f q E bk al (W : Int) A B s) true) : ∃ fr tt, Ev (fun q => fs_f q E bk al (W : Int) A B s) (fr, tt, true) ∧ fr.length = E.length ∧ Sets tt E.length W ∧ (PP E G K S bk al W).Lst (bt tt) ∧ ∀ k, k < E.length → SetOf (W : Int) (fr.getD k []) ((PP E G K S bk al W).frm (bt tt) k) := by
 obtain ⟨ah, bh, hw, ha, hbl, hb1, hb2, hb3⟩ := ways_ev (bk := bk) (al := al) h.good h.er A B s
 obtain ⟨t0, h0, tl, ts⟩ := fs_l0_ev (al := al) h.good.w h.good.n E.length 0 (List.replicate E.length []) (by omega) (by omega) (by simp) (fun k hk => by omega)
 obtain ⟨L, hL, nd, mL⟩ := fs_l1_ev h.good.n E.length 0 [] (by omega) (by omega) List.nodup_nil (fun x => by simp only [List.not_mem_nil, false_iff]; omega)
 have st0 : Sets t0 E.length W := ⟨tl, fun k hk => (ts k hk).self⟩
 have bt0 : ∀ k i, k < E.length → i < W → bt t0 k i = al := fun k i hk hi => (ts k hk).bit hi
 obtain ⟨fr, tt, hf, hI⟩ := fs_l2_ev (bk := bk) (al := al) h ha hbl hb1 hb2 hb3 _ (List.replicate E.length []) t0 L rfl ⟨by simp [prOf], st0, Pr.inv_start _ bt0, nd, fun x hx => (mL x).1 hx, fun k hk hkL => absurd ((mL _).2 ⟨by omega, by have : (PP E G K S bk al W).n = E.length := rfl; omega⟩) hkL⟩
 refine ⟨fr, tt, ?_, hI.fl, hI.tl, Pr.inv_lst hI.inv (fun k i hk hi => (hI.done k hk (by simp)).2 i hi), fun k hk => (hI.done k hk (by simp)).1⟩
 refine Ev.bind hr ?_
 refine Ev.congr (fun q => by rw [if_pos rfl, if_pos h.good.n]) ?_
 exact Ev.bind hw (Ev.bind h0 (Ev.bind hL (Ev.bind hf (Ev.now _))))
end
end Go.Proofs.YtanpghbakbebiaaDoor.Pure

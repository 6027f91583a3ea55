/- A part of it. -/
import Derived.Test.YtanpghbakbebiaaDoorFmM44
import Derived.Test.YtanpghbakbebiaaDoorFmP0
import Derived.Test.YtanpghbakbebiaaDoorFmP2
import Derived.Test.YtanpghbakbebiaaDoorFmP5
import Derived.Test.YtanpghbakbebiaaDoorFmP6
set_option linter.unusedVariables false
namespace Go.Proofs.YtanpghbakbebiaaDoor.Pure
open Go.RowKit Go.Proofs.YtanpghbakbebiaaDoor.P Go.Proofs.YtanpghbakbebiaaDoorW.PrintWords Go.Proofs.YtanpghbakbebiaaDoorW.PrintLast Go.Proofs.YtanpghbakbebiaaDoorW.PrintMore
section
variable {W : Nat} {a b s : List Int} {p q : Nat → Bool}
theorem SetOf.congr (h : SetOf (W : Int) s p) (hq : ∀ i, i < W → p i = q i) : SetOf (W : Int) s q := ⟨h.n, h.w, fun i => by
 rw [h.b]
 by_cases hi : i < W
 ·rw [hq i hi]
 ·rw [decide_eq_false (by omega)]; simp⟩
theorem SetOf.bit (h : SetOf (W : Int) s p) {i : Nat} (hi : i < W) : bitL s i = p i := by rw [h.b, decide_eq_true (by omega)]; simp
theorem SetOf.self (h : SetOf (W : Int) s p) : SetOf (W : Int) s (bitL s) := h.congr (fun i hi => (h.bit hi).symm)
theorem SetOf.len (h : SetOf (W : Int) s p) (hW : W ≤ 65536) : s.length ≤ 1025 := by rw [h.n]; omega
theorem meet_ev (hW : W ≤ 65536) (al : Bool) (ha : SetOf (W : Int) a p) (hb : SetOf (W : Int) b q) : ∃ r, Ev (fun k => fl_meet k al a b) r ∧ SetOf (W : Int) r (fun i => if al = true then p i && q i else p i || q i) := by
 have la := ha.len hW
 have lb := hb.len hW
 have na := ha.n
 have nb := hb.n
 cases al
 ·obtain ⟨r, hr, hf⟩ := or_ev a b (by omega)
  obtain ⟨w, hbit⟩ := or_bit ha.w hb.w hf
  refine ⟨r, Ev.congr (fun k => by rw [fl_meet, if_neg (by simp)]) hr, by rw [hf.1]; omega, w, fun i => ?_⟩
  rw [hbit, ha.b, hb.b, if_neg (by simp)]
  cases p i <;> cases q i <;> cases decide ((i : Int) < (W : Int)) <;> rfl
 ·obtain ⟨r, hr, hf⟩ := and_ev a b (by omega)
  obtain ⟨w, hbit⟩ := and_bit ha.w hb.w hf
  refine ⟨r, Ev.congr (fun k => by rw [fl_meet, if_pos rfl]) hr, by rw [hf.1]; omega, w, fun i => ?_⟩
  rw [hbit, ha.b, hb.b, if_pos rfl]
  cases p i <;> cases q i <;> cases decide ((i : Int) < (W : Int)) <;> rfl
theorem none_ev (hW : W ≤ 65536) (al : Bool) : ∃ r, Ev (fun k => fl_none k al (W : Int)) r ∧ SetOf (W : Int) r (fun _ => al) := by
 cases al
 ·refine ⟨List.replicate (((W : Int) + 63) / 64).toNat 0, Ev.congr (f := fun _ => some _) (fun k => by rw [fl_none, if_neg (by simp), new_val (by omega) (by omega)]) (Ev.now _), by rw [List.length_replicate], wf_zeros _, fun i => by rw [bitL_zeros]; rfl⟩
 ·obtain ⟨r, hr, hn, hw, hb⟩ := full_ev W hW
  refine ⟨r, Ev.congr (fun k => by rw [fl_none, if_pos rfl]) hr, by rw [hn]; omega, hw, fun i => ?_⟩
  rw [hb, Bool.true_and, decide_eq_decide]
  omega
theorem less_set (hW : W ≤ 65536) (ha : SetOf (W : Int) a p) (hb : SetOf (W : Int) b q) : ∃ r, Ev (fun k => bits_Less.f k a b) r ∧ SetOf (W : Int) r (fun i => p i && !q i) := by
 have la := ha.len hW
 obtain ⟨r, hr, hf⟩ := less_ev a b (by omega)
 obtain ⟨w, hbit⟩ := less_bit ha.w hb.w hf
 refine ⟨r, hr, by rw [hf.1]; exact ha.n, w, fun i => ?_⟩
 rw [hbit, ha.b, hb.b]
 cases p i <;> cases q i <;> cases decide ((i : Int) < (W : Int)) <;> rfl
theorem or_set (hW : W ≤ 65536) (ha : SetOf (W : Int) a p) (hb : SetOf (W : Int) b q) : ∃ r, Ev (fun k => bits_Or.f k a b) r ∧ SetOf (W : Int) r (fun i => p i || q i) := by
 obtain ⟨r, hr, hs⟩ := meet_ev hW false ha hb
 exact ⟨r, Ev.congr (fun k => by rw [fl_meet, if_neg (by simp)]) hr, hs.congr (fun i _ => by rw [if_neg (by simp)])⟩
theorem same_set (hW : W ≤ 65536) (ha : SetOf (W : Int) a p) (hb : SetOf (W : Int) b q) : ∃ r, Ev (fun k => bits_Same.f k a b) r ∧ (r = true ↔ ∀ i, i < W → p i = q i) := by
 have la := ha.len hW
 have lb := hb.len hW
 obtain ⟨r, hr, hi⟩ := same_ev a b ha.w hb.w (by omega)
 refine ⟨r, hr, hi.trans ⟨fun h i hi => by rw [← ha.bit hi, ← hb.bit hi]; exact h i, fun h i => ?_⟩⟩
 by_cases hi : i < W
 ·rw [ha.bit hi, hb.bit hi]; exact h i hi
 ·rw [ha.b, hb.b, decide_eq_false (by omega)]; simp
end
def bt (T : List (List Int)) : Fa := fun k i => bitL (T.getD k []) i
structure Sets (T : List (List Int)) (n W : Nat) : Prop where
 len : T.length = n
 set : ∀ k, k < n → SetOf (W : Int) (T.getD k []) (bt T k)
theorem Sets.put {T : List (List Int)} {n W : Nat} (h : Sets T n W) {x : Nat} (hx : x < n) {s : List Int} {p : Nat → Bool} (hs : SetOf (W : Int) s p) : Sets (T.set x s) n W ∧ ∀ k i, i < W → bt (T.set x s) k i = if k = x then p i else bt T k i := by
 have hl := h.len
 refine ⟨⟨by rw [List.length_set]; exact hl, fun k hk => ?_⟩, fun k i hi => ?_⟩
 ·unfold bt
  rw [getD_set]
  by_cases e : x = k
  ·rw [if_pos ⟨e, by omega⟩]; exact hs.self
  ·rw [if_neg (by omega)]; exact h.set k hk
 ·unfold bt
  rw [getD_set]
  by_cases e : k = x
  ·rw [if_pos ⟨e.symm, by omega⟩, if_pos e, hs.bit hi]
  ·rw [if_neg (by omega), if_neg e]
structure Prog (E G K : List (List Int)) (S : List Int) (W : Nat) (A B : List (List Int)) (s : List Int) : Prop where
 good : Good E G K S W
 er : ∀ r ∈ E, r.length ≤ 200
 al : A.length = E.length
 bl : B.length = E.length
 a : ∀ k, k < E.length → SetOf (W : Int) (A.getD k []) (fun i => decide ((i : Int) ∈ G.getD k []))
 b : ∀ k, k < E.length → SetOf (W : Int) (B.getD k []) (fun i => decide ((i : Int) ∈ K.getD k []))
 s : SetOf (W : Int) s (fun i => decide ((i : Int) ∈ S))
section
variable {E G K : List (List Int)} {S : List Int} {bk al : Bool} {W : Nat} {A B : List (List Int)} {s : List Int}
theorem to_set (h : Prog E G K S W A B s) {k : Nat} (hk : k < E.length) {f : List Int} {p : Nat → Bool} (hf : SetOf (W : Int) f p) :
  ∃ r, Ev (fun q => flow_Problem_to.f q E bk al (W : Int) A B s (k : Int) f) r ∧ SetOf (W : Int) r (fun i => (PP E G K S bk al W).gen k i || (p i && !(PP E G K S bk al W).kil k i)) := by
 have hw := h.good.w
 have l1 := h.al
 have l2 := h.bl
 obtain ⟨t, ht, st⟩ := less_set hw hf (h.b k hk)
 obtain ⟨r, hr, sr⟩ := or_set hw (h.a k hk) st
 refine ⟨r, ?_, sr⟩
 refine Ev.congr (fun q => by rw [flow_Problem_to.f, if_pos (by omega), if_pos (by omega), if_pos (by omega), rdL3_nat, rdL3_nat]) ?_
 exact Ev.bind ht (Ev.bind hr (Ev.now _))
structure Ahead (P : Pr) (bk : Bool) (E ah : List (List Int)) : Prop where
 n : ah.length = P.n
 len : ∀ k, k < P.n → (ah.getD k []).length < 17592186044416
 mem : ∀ k, k < P.n → ∀ a : Nat, (a : Int) ∈ ah.getD k [] ↔ a ∈ P.ah k
 in_ : ∀ k, k < P.n → ∀ x ∈ ah.getD k [], 0 ≤ x ∧ x < (P.n : Int)
 e : bk = true → ah = E
theorem from_set (h : Prog E G K S W A B s) {ah : List (List Int)} (ha : Ahead (PP E G K S bk al W) bk E ah) {T : List (List Int)} (hT : Sets T E.length W) {k : Nat} (hk : k < E.length) :
  ∃ r, Ev (fun q => flow_Problem_from.f q E bk al (W : Int) A B s (k : Int) ah T) r ∧ SetOf (W : Int) r (fun i => (PP E G K S bk al W).frm (bt T) k i) := by
 have hw := h.good.w
 have n_ : (PP E G K S bk al W).n = E.length := rfl
 have l1 := ha.n
 have hTl := hT.len
 have hlen := ha.len k hk
 have key : ∀ d j o (p : Nat → Bool), (ah.getD k []).length - j = d → j ≤ (ah.getD k []).length → SetOf (W : Int) o p →
   ∃ r, Ev (fun q => flow_Problem_from.l0 q al T (ah.getD k []) (j : Int) o) r ∧ SetOf (W : Int) r (fun i => if al = true then p i && ((ah.getD k []).drop j).all (fun x => bt T x.toNat i) else p i || ((ah.getD k []).drop j).any (fun x => bt T x.toNat i)) := by
  intro d
  induction d with
  | zero =>
   intro j o p hd hj ho
   obtain rfl : j = (ah.getD k []).length := by omega
   refine ⟨o, ?_, ho.congr (fun i _ => ?_)⟩
   ·apply Ev.step
    ·intro q
     rw [flow_Problem_from.l0, if_neg (by omega)]
    ·exact Ev.now _
   ·simp
  | succ d ih =>
   intro j o p hd hj ho
   have hlt : j < (ah.getD k []).length := by omega
   have e0 : rd (ah.getD k []) (j : Int) = (ah.getD k [])[j] := rd_nat _ j hlt
   obtain ⟨x0, x1⟩ := ha.in_ k hk _ (List.getElem_mem hlt)
   obtain ⟨a, hax⟩ : ∃ a : Nat, (ah.getD k [])[j] = (a : Int) := ⟨((ah.getD k [])[j]).toNat, by omega⟩
   obtain ⟨m, hm, sm⟩ := meet_ev hw al ho (hT.set a (by omega))
   obtain ⟨r, hr, sr⟩ := ih (j + 1) m _ (by omega) (by omega) sm
   refine ⟨r, ?_, sr.congr (fun i _ => ?_)⟩
   ·apply Ev.step
    ·intro q
     rw [flow_Problem_from.l0, if_pos (by omega), if_pos (by omega), e0, hax, rdL3_nat, wrap_succ j (by omega)]
    ·exact Ev.bind hm hr
   ·rw [List.drop_eq_getElem_cons hlt, List.all_cons, List.any_cons, hax, Int.toNat_natCast]
    cases al
    ·simp [Bool.or_assoc]
    ·simp [Bool.and_assoc]
 obtain ⟨o0, h0, s0⟩ := none_ev hw al
 have e1 : fl_begins bk ah (k : Int) = (PP E G K S bk al W).beg k := by
  cases bk
  ·show (((k : Int)) == 0) = (k == 0)
   rw [Bool.eq_iff_iff]; simp only [beq_iff_eq]; omega
  ·show ((((rd_L1 ah (k : Int)).length : Int)) == 0) = ((E.getD k []).length == 0)
   rw [rdL1_nat, ha.e rfl, Bool.eq_iff_iff]; simp only [beq_iff_eq]; omega
 have e2 : ∀ i, ((ah.getD k []).all (fun x => bt T x.toNat i) = ((PP E G K S bk al W).ah k).all (fun a => bt T a i)) ∧ ((ah.getD k []).any (fun x => bt T x.toNat i) = ((PP E G K S bk al W).ah k).any (fun a => bt T a i)) := by
  intro i
  have hm := ha.mem k hk
  have hi := ha.in_ k hk
  constructor
  ·rw [Bool.eq_iff_iff]; simp only [List.all_eq_true]
   refine ⟨fun q x hx => ?_, fun q x hx => ?_⟩
   ·have := q _ ((hm x).2 hx); rwa [Int.toNat_natCast] at this
   ·refine q _ ((hm x.toNat).1 ?_)
    have := hi x hx
    rwa [show ((x.toNat : Nat) : Int) = x by omega]
  ·rw [Bool.eq_iff_iff]; simp only [List.any_eq_true]
   refine ⟨fun ⟨x, hx, q⟩ => ⟨x.toNat, (hm x.toNat).1 ?_, q⟩, fun ⟨x, hx, q⟩ => ⟨(x : Int), (hm x).2 hx, by rwa [Int.toNat_natCast]⟩⟩
   have := hi x hx
   rwa [show ((x.toNat : Nat) : Int) = x by omega]
 have st_ : ∀ i, (PP E G K S bk al W).st i = decide ((i : Int) ∈ S) := fun _ => rfl
 have al_ : (PP E G K S bk al W).all = al := rfl
 cases hb : (PP E G K S bk al W).beg k
 ·obtain ⟨r, hr, sr⟩ := key _ 0 o0 _ rfl (by omega) s0
  refine ⟨r, ?_, sr.congr (fun i _ => ?_)⟩
  ·refine Ev.congr (fun q => by rw [flow_Problem_from.f, if_pos (by omega), e1, hb, rdL1_nat]) ?_
   exact Ev.bind h0 (Ev.bind (Ev.congr (f := fun _ => some o0) (fun q => by rw [if_neg (by simp)]) (Ev.now _)) hr)
  ·rw [List.drop_zero, (e2 i).1, (e2 i).2]
   unfold Pr.frm
   rw [hb, al_]
   cases al <;> simp
 ·obtain ⟨m, hm, sm⟩ := meet_ev hw al s0 h.s
  obtain ⟨r, hr, sr⟩ := key _ 0 m _ rfl (by omega) sm
  refine ⟨r, ?_, sr.congr (fun i _ => ?_)⟩
  ·refine Ev.congr (fun q => by rw [flow_Problem_from.f, if_pos (by omega), e1, hb, rdL1_nat]) ?_
   exact Ev.bind h0 (Ev.bind (Ev.congr (fun q => by rw [if_pos rfl]) hm) hr)
  ·rw [List.drop_zero, (e2 i).1, (e2 i).2]
   unfold Pr.frm
   rw [hb, al_, st_]
   cases al
   ·simp only [Bool.false_eq_true, if_false, Bool.false_or, Bool.true_and]; rw [Bool.or_comm]
   ·simp only [if_true, Bool.true_and, Bool.not_true, Bool.false_or]; rw [Bool.and_comm]
structure Tn (E : List (List Int)) (i j : Nat) (T : List (List Int)) : Prop where
 len : T.length = E.length
 row : ∀ t, (T.getD t []).length ≤ i * 200 + j
 mem : ∀ t, t < E.length → ∀ x, x ∈ T.getD t [] ↔ ∃ k : Nat, x = (k : Int) ∧ ((k < i ∧ (t : Int) ∈ E.getD k []) ∨ (k = i ∧ (t : Int) ∈ (E.getD k []).take j))
theorem tn_put {i j : Nat} (h : Good E G K S W) (hi : i < E.length) (hj : j < (E.getD i []).length) {T : List (List Int)} (hT : Tn E i j T) {t : Nat} (ht : (E.getD i [])[j] = (t : Int)) (htl : t < E.length) : Tn E i (j + 1) (T.set t (T.getD t [] ++ [(i : Int)])) := by
 have hl := hT.len
 refine ⟨by rw [List.length_set]; exact hl, fun u => ?_, fun u hu x => ?_⟩
 ·rw [getD_set]
  have := hT.row u
  split
  ·rename_i q
   obtain ⟨rfl, _⟩ := q
   rw [List.length_append, List.length_singleton]; omega
  ·omega
 ·have e : (E.getD i []).take (j + 1) = (E.getD i []).take j ++ [(t : Int)] := by rw [List.take_succ_eq_append_getElem hj, ht]
  rw [getD_set]
  by_cases q : t = u
  ·subst q
   rw [if_pos ⟨rfl, by omega⟩, List.mem_append, List.mem_singleton, hT.mem t hu]
   constructor
   ·rintro (⟨k, rfl, q2 | ⟨rfl, q2⟩⟩ | rfl)
    ·exact ⟨k, rfl, .inl q2⟩
    ·exact ⟨k, rfl, .inr ⟨rfl, by rw [e, List.mem_append]; exact .inl q2⟩⟩
    ·exact ⟨i, rfl, .inr ⟨rfl, by rw [e, List.mem_append]; exact .inr (List.mem_singleton.2 rfl)⟩⟩
   ·rintro ⟨k, rfl, q2 | ⟨rfl, q2⟩⟩
    ·exact .inl ⟨k, rfl, .inl q2⟩
    ·exact .inr rfl
  ·rw [if_neg (by omega), hT.mem u hu]
   constructor
   ·rintro ⟨k, rfl, q2 | ⟨rfl, q2⟩⟩
    ·exact ⟨k, rfl, .inl q2⟩
    ·exact ⟨k, rfl, .inr ⟨rfl, by rw [e, List.mem_append]; exact .inl q2⟩⟩
   ·rintro ⟨k, rfl, q2 | ⟨rfl, q2⟩⟩
    ·exact ⟨k, rfl, .inl q2⟩
    ·refine ⟨k, rfl, .inr ⟨rfl, ?_⟩⟩
     rw [e, List.mem_append, List.mem_singleton] at q2
     rcases q2 with q2 | q2
     ·exact q2
     ·omega
theorem turned_l1 (h : Good E G K S W) (er : ∀ r ∈ E, r.length ≤ 200) {i : Nat} (hi : i < E.length) (hn : ∀ T, Tn E (i + 1) 0 T → ∃ r, Ev (fun q => flow_turned.l0 q T E (E.length : Int) ((i + 1 : Nat) : Int)) r ∧ Tn E E.length 0 r) :
  ∀ d j T, (E.getD i []).length - j = d → j ≤ (E.getD i []).length → Tn E i j T → ∃ r, Ev (fun q => flow_turned.l1 q T (i : Int) E (E.length : Int) (i : Int) (E.getD i []) ((E.getD i []).length : Int) (j : Int)) r ∧ Tn E E.length 0 r := by
 have hm := er _ (getD_mem E [] hi)
 have hnn := h.n
 intro d
 induction d with
 | zero =>
  intro j T hd hj hT
  obtain rfl : j = (E.getD i []).length := by omega
  obtain ⟨r, hr, hTr⟩ := hn T ⟨hT.len, fun t => by have := hT.row t; omega, fun t ht x => by
   rw [hT.mem t ht]
   constructor
   ·rintro ⟨k, rfl, q2 | ⟨rfl, q2⟩⟩
    ·exact ⟨k, rfl, .inl ⟨by omega, q2.2⟩⟩
    ·rw [List.take_length] at q2
     exact ⟨k, rfl, .inl ⟨by omega, q2⟩⟩
   ·rintro ⟨k, rfl, q2 | ⟨rfl, q2⟩⟩
    ·by_cases e : k = i
     ·exact ⟨k, rfl, .inr ⟨e, by rw [e, List.take_length, ← e]; exact q2.2⟩⟩
     ·exact ⟨k, rfl, .inl ⟨by omega, q2.2⟩⟩
    ·rw [List.take_zero] at q2; cases q2⟩
  refine ⟨r, ?_, hTr⟩
  apply Ev.step
  ·intro q
   rw [flow_turned.l1, if_neg (by omega), wrap_succ i (by omega)]
  ·exact hr
 | succ d ih =>
  intro j T hd hj hT
  have hlt : j < (E.getD i []).length := by omega
  have e0 : rd (E.getD i []) (j : Int) = (E.getD i [])[j] := rd_nat _ j hlt
  obtain ⟨x0, x1⟩ := h.e _ (getD_mem E [] hi) _ (List.getElem_mem hlt)
  obtain ⟨t, ht⟩ : ∃ t : Nat, (E.getD i [])[j] = (t : Int) := ⟨((E.getD i [])[j]).toNat, by omega⟩
  have hl := hT.len
  have hrow := hT.row t
  obtain ⟨r, hr, hTr⟩ := ih (j + 1) _ (by omega) (by omega) (tn_put h hi hlt hT ht (by omega))
  refine ⟨r, ?_, hTr⟩
  apply Ev.step
  ·intro q
   rw [flow_turned.l1, if_pos (by omega), if_pos (by omega), if_pos (by omega), e0, ht, if_pos (by omega), if_pos (by omega), rdL1_nat, if_pos (by omega), wrap_succ j (by omega), Int.toNat_natCast]
  ·exact hr
theorem turned_l0 (h : Good E G K S W) (er : ∀ r ∈ E, r.length ≤ 200) : ∀ d i T, E.length - i = d → i ≤ E.length → Tn E i 0 T → ∃ r, Ev (fun q => flow_turned.l0 q T E (E.length : Int) (i : Int)) r ∧ Tn E E.length 0 r := by
 intro d
 induction d with
 | zero =>
  intro i T hd hi hT
  obtain rfl : i = E.length := by omega
  refine ⟨T, ?_, hT⟩
  apply Ev.step
  ·intro q
   rw [flow_turned.l0, if_neg (by omega)]
  ·exact Ev.now _
 | succ d ih =>
  intro i T hd hi hT
  obtain ⟨r, hr, hTr⟩ := turned_l1 h er (show i < E.length by omega) (fun T' hT' => ih (i + 1) T' (by omega) (by omega) hT') _ 0 T rfl (by omega) hT
  refine ⟨r, ?_, hTr⟩
  apply Ev.step
  ·intro q
   rw [flow_turned.l0, if_pos (by omega), if_pos (by omega), if_pos (by omega), rdL1_nat]
  ·exact hr
theorem turned_ev (h : Good E G K S W) (er : ∀ r ∈ E, r.length ≤ 200) : ∃ T, Ev (fun q => flow_turned.f q E) T ∧ Tn E E.length 0 T := by
 have hn := h.n
 have h0 : Tn E 0 0 (List.replicate E.length []) := ⟨by simp, fun t => by
   rw [List.getD_eq_getElem?_getD, List.getElem?_replicate]; split <;> simp, fun t ht x => by
   rw [List.getD_eq_getElem?_getD, List.getElem?_replicate, if_pos ht]
   simp⟩
 obtain ⟨T, hT, hT2⟩ := turned_l0 h er E.length 0 _ (by omega) (by omega) h0
 refine ⟨T, Ev.congr (fun q => ?_) hT, hT2⟩
 rw [flow_turned.f, if_pos (by omega), if_pos (by omega)]
 rfl
theorem ways_ev (h : Good E G K S W) (er : ∀ r ∈ E, r.length ≤ 200) (A B : List (List Int)) (s : List Int) : ∃ ah bh, Ev (fun q => flow_Problem_ways.f q E bk al (W : Int) A B s) (ah, bh) ∧ Ahead (PP E G K S bk al W) bk E ah ∧ bh.length = E.length ∧ (∀ k, k < E.length → (bh.getD k []).length < 17592186044416) ∧ (∀ k, k < E.length → ∀ x ∈ bh.getD k [], 0 ≤ x ∧ x < (E.length : Int)) ∧ (∀ k b : Nat, k < E.length → b < E.length → k ∈ (PP E G K S bk al W).ah b → (b : Int) ∈ bh.getD k []) := by
 obtain ⟨T, hT, tn⟩ := turned_ev h er
 have hn := h.n
 have tl : ∀ k, k < E.length → (T.getD k []).length < 17592186044416 := fun k hk => by
  have := tn.row k
  omega
 have el : ∀ k, k < E.length → (E.getD k []).length < 17592186044416 := fun k hk => by have := er _ (getD_mem E [] hk); omega
 have ti : ∀ k, k < E.length → ∀ x ∈ T.getD k [], 0 ≤ x ∧ x < (E.length : Int) := fun k hk x hx => by
  obtain ⟨j, rfl, q | q⟩ := (tn.mem k hk x).1 hx
  ·omega
  ·simp at q
 have ei : ∀ k, k < E.length → ∀ x ∈ E.getD k [], 0 ≤ x ∧ x < (E.length : Int) := fun k hk => h.e _ (getD_mem E [] hk)
 have tm : ∀ k, k < E.length → ∀ a : Nat, (a : Int) ∈ T.getD k [] ↔ a < E.length ∧ (k : Int) ∈ E.getD a [] := fun k hk a => by
  rw [tn.mem k hk]
  constructor
  ·rintro ⟨j, e, q | q⟩
   ·obtain rfl : a = j := by omega
    exact q
   ·simp at q
  ·rintro ⟨h1, h2⟩
   exact ⟨a, rfl, .inl ⟨h1, h2⟩⟩
 cases bk
 ·refine ⟨T, E, ?_, ⟨tn.len, tl, fun k hk a => ?_, ti, fun q => by cases q⟩, rfl, el, ei, fun k b hk hb hm => ?_⟩
  ·exact Ev.bind hT (Ev.congr (f := fun _ => some _) (fun q => by rw [if_neg (by simp)]) (Ev.now _))
  ·rw [tm k hk]
   show _ ↔ a ∈ (List.range E.length).filter (fun j => decide ((k : Int) ∈ E.getD j []))
   simp
  ·have : k ∈ (List.range E.length).filter (fun j => decide ((b : Int) ∈ E.getD j [])) := hm
   simpa using (List.mem_filter.1 this).2
 ·refine ⟨E, T, ?_, ⟨rfl, el, fun k hk a => ?_, ei, fun _ => rfl⟩, tn.len, tl, ti, fun k b hk hb hm => ?_⟩
  ·exact Ev.bind hT (Ev.congr (f := fun _ => some _) (fun q => by rw [if_pos rfl]) (Ev.now _))
  ·show _ ↔ a ∈ (E.getD k []).map Int.toNat
   rw [List.mem_map]
   constructor
   ·intro hm; exact ⟨_, hm, by simp⟩
   ·rintro ⟨x, hx, e⟩
    have := ei k hk x hx
    rwa [show (a : Int) = x by omega]
  ·have hm2 : k ∈ (E.getD b []).map Int.toNat := hm
   obtain ⟨x, hx, e⟩ := List.mem_map.1 hm2
   have := ei b hb x hx
   rw [tm k hk]
   exact ⟨hb, by rwa [show (k : Int) = x by omega]⟩
end
end Go.Proofs.YtanpghbakbebiaaDoor.Pure

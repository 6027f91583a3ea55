/- A part of it. -/
import Derived.Test.YtgbpkbfghonllaaFkM51
import Derived.Test.YtgbpkbfghonllaaFkP10
import Derived.Test.YtgbpkbfghonllaaFkM21
import Derived.Test.YtgbpkbfghonllaaFkP21
import Derived.Test.YtgbpkbfghonllaaFkP22
import Derived.Test.YtgbpkbfghonllaaFkP27
import Derived.Outline
import Derived.Test.YtgbpkbfghonllaaFkWWords
import Derived.ChangeArms
import Derived.ChangeSlices
import Derived.SizedLaws
set_option linter.unusedVariables false
set_option linter.unusedSimpArgs false
namespace Go.Proofs.Ytgbpkbfghonllaa.P
open Go Go.RowKit Go.Proofs.YtgbpkbfghonllaaW.PrintWords Go.Proofs.YtgbpkbfghonllaaW.PrintLast Go.Proofs.YtgbpkbfghonllaaW.PrintMore Go.Proofs.Ytgbpkbfghonllaa.Pure
def smallV (r : Int) : List S39 := [⟨(⟨#[109, 97, 105, 110]⟩ : ByteArray), 1, 1, [3, 1], [[⟨20, 1, 0, 0, 0, 0, 0, 0, []⟩, ⟨43, 0, r, 0, 0, 0, 0, 0, []⟩]]⟩]
theorem small_val (r : Int) : balustradelaw16_small.f r = some (smallV r, 0, []) := rfl
theorem small_tiny (r : Int) : Tiny (smallV r) [] := by
 refine ⟨by simp [smallV], by simp, fun f hf => ?_⟩
 obtain rfl := List.mem_singleton.1 hf
 refine ⟨by simp, by simp, by simp [sizeV], fun b hb => ?_⟩
 obtain rfl := List.mem_singleton.1 hb
 refine ⟨by simp, fun x hx => ?_⟩
 rcases List.mem_cons.1 hx with rfl | hx
 ·simp
 ·obtain rfl := List.mem_singleton.1 hx
  simp
theorem small_1 : checkV (smallV 1) 0 [] = (0, 0, 0, 0) := by decide
theorem small_0 : checkV (smallV 0) 0 [] = (0, 0, 1, 11) := by decide
theorem works_ev : Ev (fun k => balustradelaw16_works.f k) true := by
 unfold balustradelaw16_works.f
 refine Ev.congr (fun k => by rw [small_val, Option.bind_some]) ?_
 refine Ev.bind (check_ev _ _ _ (small_tiny 1)) ?_
 rw [small_1]
 refine Ev.congr (fun k => by rw [if_pos (by decide), small_val, Option.bind_some]) ?_
 refine Ev.bind (check_ev _ _ _ (small_tiny 0)) ?_
 rw [small_0]
 refine Ev.congr (fun k => by rw [if_pos (by decide), Option.bind_some]) ?_
 refine Ev.bind (plain_ev _ _ _ (small_tiny 1)) ?_
 rw [show plainV (smallV 1) 0 [] = true by unfold plainV; rw [small_1]; decide]
 refine Ev.congr (fun k => by rw [if_pos rfl, Option.bind_some]) ?_
 refine Ev.bind (count_ev _ _ _ (by decide) (by simp [smallV]) (by decide)) ?_
 exact Ev.now _
theorem bad_there {L : LA} {k : Nat} {x : S42} (h : thereV L k x = true) : (∀ u ∈ usesI x, u < (L.rg.length : Int)) ∧ defI x < (L.rg.length : Int) ∧ (∀ t ∈ targetsI x, 0 < t ∧ t < (L.bl.length : Int)) ∧ (x.f0 = 39 → x.f5 < (L.fs.length : Int)) ∧ (checkI x.f0 = true → x.f7 < (L.ss.length : Int)) := by
 unfold thereV at h
 simp only [Bool.and_eq_true, decide_eq_true_eq, List.all_eq_true] at h
 obtain ⟨⟨⟨h1, h2⟩, h3⟩, h4⟩ := h
 refine ⟨h2, h1, fun t ht => by have := h3 t ht; exact this, fun h39 => ?_, fun hc => ?_⟩
 ·rw [if_pos h39] at h4
  exact of_decide_eq_true h4
 ·have hr : 31 ≤ x.f0 ∧ x.f0 ≤ 38 := by
   unfold checkI at hc
   simpa using hc
  rw [if_neg (by omega), if_neg (by omega), if_pos hc] at h4
  simp only [Bool.and_eq_true, decide_eq_true_eq] at h4
  exact h4.1
theorem fk_l4 (fs : List S39) (mn : Int) (ss : List S48) (f : S39) (n0 k j : Nat) (hj : j < 1000000) (x : S42) (tv : List Int) (hl : tv.length < 1000000) (ht : ∀ t ∈ tv, 0 < t ∧ t < (f.f4.length : Int)) (h39 : x.f0 = 39 → x.f5 < (fs.length : Int)) (hc : checkI x.f0 = true → x.f7 < (ss.length : Int))
  (hn : Ev (fun n => balustradelaw16_FunKinds.l2 n (n0 : Int) (k : Int) ((j + 1 : Nat) : Int) fs mn ss f.f0 f.f1 f.f2 f.f3 f.f4) true) : ∀ d i, tv.length - i = d → i ≤ tv.length →
  Ev (fun n => balustradelaw16_FunKinds.l4 n (n0 : Int) (k : Int) (j : Int) tv (i : Int) fs mn ss f.f0 f.f1 f.f2 f.f3 f.f4 x.f0 x.f1 x.f2 x.f3 x.f4 x.f5 x.f6 x.f7 x.f8) true := by
 intro d
 induction d with
 | zero =>
  intro i hd hi
  obtain rfl : i = tv.length := by omega
  refine Ev.step (fun n => ?_) hn
  rw [balustradelaw16_FunKinds.l4, if_neg (by omega), rcheck, Option.bind_some, wrap_succ j (by omega)]
  cases q : checkI x.f0 with
  | true =>
   have := hc q
   rw [if_pos rfl, if_neg (by omega)]
   by_cases e : x.f0 = 39
   ·rw [if_pos e, if_neg (by have := h39 e; omega)]
   ·rw [if_neg e]
  | false =>
   rw [if_neg (by simp)]
   by_cases e : x.f0 = 39
   ·rw [if_pos e, if_neg (by have := h39 e; omega)]
   ·rw [if_neg e]
 | succ d ih =>
  intro i hd hi
  have hlt : i < tv.length := by omega
  have := ht _ (List.getElem_mem hlt)
  refine Ev.step (fun n => ?_) (ih (i + 1) (by omega) (by omega))
  rw [balustradelaw16_FunKinds.l4, if_pos (by omega), if_pos (by omega), rd_nat tv i hlt, if_neg (by omega), if_neg (by omega), wrap_succ i (by omega)]
theorem fk_l3 (fs : List S39) (mn : Int) (ss : List S48) (f : S39) (n0 k j : Nat) (hj : j < 1000000) (x : S42) (hx : x.f8.length ≤ 40) (uv : List Int) (hl : uv.length < 1000000) (hu : ∀ u ∈ uv, u < (f.f3.length : Int)) (ht : ∀ t ∈ targetsI x, 0 < t ∧ t < (f.f4.length : Int)) (h39 : x.f0 = 39 → x.f5 < (fs.length : Int)) (hc : checkI x.f0 = true → x.f7 < (ss.length : Int))
  (hn : Ev (fun n => balustradelaw16_FunKinds.l2 n (n0 : Int) (k : Int) ((j + 1 : Nat) : Int) fs mn ss f.f0 f.f1 f.f2 f.f3 f.f4) true) : ∀ d i, uv.length - i = d → i ≤ uv.length →
  Ev (fun n => balustradelaw16_FunKinds.l3 n (n0 : Int) (k : Int) (j : Int) uv (i : Int) fs mn ss f.f0 f.f1 f.f2 f.f3 f.f4 x.f0 x.f1 x.f2 x.f3 x.f4 x.f5 x.f6 x.f7 x.f8) true := by
 intro d
 induction d with
 | zero =>
  intro i hd hi
  obtain rfl : i = uv.length := by omega
  apply Ev.step
  ·intro n
   rw [balustradelaw16_FunKinds.l3, if_neg (by omega)]
  ·refine Ev.bind (refTargets_ev x.f0 x.f1 x.f2 x.f3 x.f4 x.f5 x.f6 x.f7 x.f8 (by omega)) ?_
   have hlen : (targetsI x).length < 1000 := targetsV_len _ _ _ _ _ _ _ _ _
   exact fk_l4 fs mn ss f n0 k j hj x (targetsI x) (by omega) ht h39 hc hn (targetsI x).length 0 (by omega) (by omega)
 | succ d ih =>
  intro i hd hi
  have hlt : i < uv.length := by omega
  have := hu _ (List.getElem_mem hlt)
  refine Ev.step (fun n => ?_) (ih (i + 1) (by omega) (by omega))
  rw [balustradelaw16_FunKinds.l3, if_pos (by omega), if_pos (by omega), rd_nat uv i hlt, if_neg (by omega), wrap_succ i (by omega)]
theorem ints_val (l : List Int) (hl : l.length < 100000) : balustradebase_Ints.f l = some l := by
 unfold balustradebase_Ints.f
 simp
 try omega
theorem usesI_len (x : S42) : (usesI x).length ≤ x.f8.length + 3 := by
 unfold usesI usesV
 split
 ·exact usL_len x.f0 x.f6 x.f2 x.f3 x.f4 x.f8
 ·simp
theorem fk_l2 (fs : List S39) (mn : Int) (ss : List S48) (f : S39) (hok : okF fs mn ss f) (ht : TinyF f) (n0 k : Nat) (hk : k < f.f4.length)
  (hn : Ev (fun n => balustradelaw16_FunKinds.l1 n (n0 : Int) ((k + 1 : Nat) : Int) fs mn ss f.f0 f.f1 f.f2 f.f3 f.f4) true) : ∀ d j, f.f4[k].length - j = d → j ≤ f.f4[k].length → Ev (fun n => balustradelaw16_FunKinds.l2 n (n0 : Int) (k : Int) (j : Int) fs mn ss f.f0 f.f1 f.f2 f.f3 f.f4) true := by
 have hl := ht.2.1
 have hbl := (ht.2.2.2 _ (List.getElem_mem hk)).1
 intro d
 induction d with
 | zero =>
  intro j hd hj
  obtain rfl : j = f.f4[k].length := by omega
  refine Ev.step (fun n => ?_) hn
  rw [balustradelaw16_FunKinds.l2, if_pos (by omega), if_pos (by omega), rdB _ k hk, if_neg (by omega), wrap_succ k (by omega)]
 | succ d ih =>
  intro j hd hj
  have hlt : j < f.f4[k].length := by omega
  have hx := (ht.2.2.2 _ (List.getElem_mem hk)).2 _ (List.getElem_mem hlt)
  have h0 := insV_right ((hok.2 k hk).2 j hlt)
  rw [getD_L _ _ j hlt] at h0
  obtain ⟨b1, b2, b3, b4, b5⟩ := bad_there h0.2.1
  apply Ev.step
  ·intro n
   rw [balustradelaw16_FunKinds.l2, if_pos (by omega), if_pos (by omega), rdB _ k hk, if_pos (by omega), if_pos (by omega), rdX _ j hlt]
  ·have hul := usesI_len (f.f4[k][j])
   refine Ev.bind (refUses_ev _ _ _ _ _ _ _ _ _ (by omega)) ?_
   refine Ev.congr (fun n => by rw [ints_val _ (show (usesV _ _ _ _ _ _ _ _ _).length < 100000 by unfold usesI at hul; omega), Option.bind_some, rdef _ (by omega), Option.bind_some, if_pos (show (usesV _ _ _ _ _ _ _ _ _).length < 17592186044416 by unfold usesI at hul; omega)]) ?_
   refine fk_l3 fs mn ss f n0 k j (by omega) f.f4[k][j] hx (usesI f.f4[k][j] ++ [defI f.f4[k][j]]) (by rw [List.length_append]; simp; omega) (fun u hu => ?_) b3 b4 b5 (ih (j + 1) (by omega) (by omega)) _ 0 rfl (by omega)
   rcases List.mem_append.1 hu with h | h
   ·exact b1 u h
   ·rw [List.mem_singleton.1 h]; exact b2
theorem fk_l1 (fs : List S39) (mn : Int) (ss : List S48) (f : S39) (hok : okF fs mn ss f) (ht : TinyF f) (n0 : Nat) (hn0 : n0 < 1000)
  (hn : Ev (fun n => balustradelaw16_FunKinds.l0 n ((n0 + 1 : Nat) : Int) fs mn ss) true) : ∀ d k, f.f4.length - k = d → k ≤ f.f4.length → Ev (fun n => balustradelaw16_FunKinds.l1 n (n0 : Int) (k : Int) fs mn ss f.f0 f.f1 f.f2 f.f3 f.f4) true := by
 intro d
 induction d with
 | zero =>
  intro k hd hk
  obtain rfl : k = f.f4.length := by omega
  refine Ev.step (fun n => ?_) hn
  rw [balustradelaw16_FunKinds.l1, if_neg (by omega), wrap_succ n0 (by omega)]
 | succ d ih =>
  intro k hd hk
  have hlt : k < f.f4.length := by omega
  refine Ev.step (fun n => ?_) (fk_l2 fs mn ss f hok ht n0 k hlt (ih (k + 1) (by omega) (by omega)) f.f4[k].length 0 (by omega) (by omega))
  rw [balustradelaw16_FunKinds.l1, if_pos (by omega)]; rfl
theorem fk_l0 (fs : List S39) (mn : Int) (ss : List S48) (hok : ∀ f ∈ fs, okF fs mn ss f) (ht : Tiny fs ss) : ∀ d i, fs.length - i = d → i ≤ fs.length → Ev (fun n => balustradelaw16_FunKinds.l0 n (i : Int) fs mn ss) true := by
 have hl := ht.1
 intro d
 induction d with
 | zero =>
  intro i hd hi
  obtain rfl : i = fs.length := by omega
  apply Ev.step
  ·intro n
   rw [balustradelaw16_FunKinds.l0, if_neg (by omega)]
  ·exact Ev.bind works_ev (Ev.now _)
 | succ d ih =>
  intro i hd hi
  have hlt : i < fs.length := by omega
  refine Ev.step (fun n => ?_) (fk_l1 fs mn ss fs[i] (hok _ (List.getElem_mem hlt)) (ht.2.2 _ (List.getElem_mem hlt)) i (by omega) (ih (i + 1) (by omega) (by omega)) fs[i].f4.length 0 (by omega) (by omega))
  rw [balustradelaw16_FunKinds.l0, if_pos (by omega), if_pos (by omega), rdF fs i hlt]; rfl
theorem fk_j0 (fs : List S39) (mn : Int) (ss : List S48) : Ev (fun n => balustradelaw16_FunKinds.j0 n true fs mn ss) true := by
 apply Ev.step
 ·intro n
  rw [balustradelaw16_FunKinds.j0, if_pos rfl]
 ·exact Ev.bind works_ev (Ev.now _)
theorem funKinds_ev (fs : List S39) (mn : Int) (ss : List S48) (hs : Sized fs) : Ev (fun n => balustradelaw16_FunKinds.f n fs mn ss) true := by
 unfold balustradelaw16_FunKinds.f
 refine Ev.bind (few_ev 300 (by omega) fs mn ss hs) ?_
 cases hf : fewV 300 fs ss with
 | false => exact Ev.congr (fun n => if_neg (by simp)) (fk_j0 fs mn ss)
 | true =>
  have ht := (few_tiny (by omega) hf).1
  refine Ev.congr (fun n => if_pos rfl) (Ev.bind (check_ev fs mn ss ht) ?_)
  by_cases c : (checkV fs mn ss).2.2.2 = 0
  ·rw [show ((checkV fs mn ss).2.2.2 != 0) = false by simpa using c]
   have hc := (checkV_zero _ _ _).1 c
   refine Ev.step (fun n => ?_) (fk_l0 fs mn ss hc.2 ht fs.length 0 (by omega) (by omega))
   rw [balustradelaw16_FunKinds.j0, if_neg (by simp)]; rfl
  ·rw [show ((checkV fs mn ss).2.2.2 != 0) = true by simpa using c]
   exact fk_j0 fs mn ss
end Go.Proofs.Ytgbpkbfghonllaa.P
set_option linter.unusedVariables false
namespace Go.Proofs.Ytgbpkbfghonllaa.P
open Go Go.RowKit Go.Proofs.YtgbpkbfghonllaaW.PrintWords Go.Proofs.YtgbpkbfghonllaaW.PrintLast Go.Proofs.YtgbpkbfghonllaaW.PrintMore Go.Proofs.Ytgbpkbfghonllaa.Pure
theorem sized_of {fs : List S39} {m : Nat} (hm : m = 140737488351232) (h1 : fs.length * 80 ≤ m) (h2 : ∀ f ∈ fs, f.f4.length * 24 ≤ m ∧ f.f3.length * 8 ≤ m ∧ ∀ b ∈ f.f4, b.length * 88 ≤ m ∧ ∀ x ∈ b, x.f8.length * 8 ≤ m) : Sized fs := by
 subst hm
 refine ⟨by omega, fun f hf => ?_⟩
 obtain ⟨g1, g2, g3⟩ := h2 f hf
 exact ⟨by omega, by omega, fun b hb => ⟨by have := (g3 b hb).1; omega, fun x hx => by have := (g3 b hb).2 x hx; omega⟩⟩
theorem balustradelaw16_FunKinds.walk (A0_0 : Option Addr) (c0_0 : Nat) (l0_0 : List S39) (a0_1 : Int) (A0_2 : Option Addr) (c0_2 : Nat) (l0_2 : List S48) (w : World)
  (hr0_0 : Kd.C k39 w A0_0 l0_0.length l0_0) (hc0_0 : l0_0.length ≤ c0_0) (hr0_2 : Kd.C k48 w A0_2 l0_2.length l0_2) (hc0_2 : l0_2.length ≤ c0_2) (hg : Sized l0_0) :
  Calls Try.prog 4 #[.agg #[.slice A0_0 l0_0.length c0_0, .int .i64 a0_1, .slice A0_2 l0_2.length c0_2]] w fun e w' => e = .returned (.bool true) ∧ Below w.heap.size w w' := by
 obtain ⟨k, hk⟩ := (funKinds_ev l0_0 a0_1 l0_2 hg).rounds
 exact balustradelaw16_FunKinds.calls k A0_0 c0_0 l0_0 a0_1 A0_2 c0_2 l0_2 true w hr0_0 hc0_0 hr0_2 hc0_2 hk
end Go.Proofs.Ytgbpkbfghonllaa.P
namespace Go.Proofs.Ytgbpkbfghonllaa.OpensW
open Go Go.RowKit Go.Proofs.YtgbpkbfghonllaaW.PrintWords
def Opens {α : Type} (P : Program) (t : TypeId) (d : Kd α) (G : α → Prop) : Prop :=
 ∀ (H : Type) (enc : TypeId × Value → H) (w : World) (base : Nat) (spare : Nat → Bool) (held : Bool) (fuel : Nat) (cs : List Value) (x : DataW H × List MemPlace),
  DataW.trod enc P w base spare held fuel t cs = some x → (∀ m ∈ x.1.weights P t, m ≤ reachBytes) → ∃ y, d.K w y cs ∧ G y
section
variable {P : Program} {t e : TypeId}
theorem opens_int {k : IntKind} (ht : P.underlying t = some (.int k)) : Opens P t (Kd.int k) (fun y => (Lit.int k y).wf = true) := by
 intro H enc w base spare held fuel cs x h hw_
 obtain ⟨n, rfl, _, hw⟩ := DataW.trod_int ht h
 exact ⟨n, rfl, hw⟩
theorem opens_string (ht : P.underlying t = some .string) : Opens P t Kd.string (fun s => s.size ≤ maxLen) := by
 intro H enc w base spare held fuel cs x h hw_
 obtain ⟨n, rfl, _, hw⟩ := DataW.trod_string ht h
 exact ⟨n, rfl, hw⟩
theorem collect {α : Type} (R : Nat → α → Prop) : ∀ len : Nat, (∀ i, i < len → ∃ y, R i y) → ∃ xs : List α, xs.length = len ∧ ∀ i y, xs[i]? = some y → R i y := by
 intro len
 induction len with
 | zero => exact fun _ => ⟨[], rfl, fun i y hy => by simp at hy⟩
 | succ m ih =>
  intro each
  obtain ⟨xs, h1, h2⟩ := ih (fun i hi => each i (by omega))
  obtain ⟨y, hy⟩ := each m (by omega)
  refine ⟨xs ++ [y], by simp [h1], fun i z hz => ?_⟩
  by_cases hi : i < xs.length
  ·rw [List.getElem?_append_left hi] at hz
   exact h2 i z hz
  ·rw [List.getElem?_append_right (by omega)] at hz
   have : i = m := by
    have := (List.getElem?_eq_some_iff.1 hz).1
    simp at this
    omega
   subst this
   rw [h1, Nat.sub_self] at hz
   simp at hz
   subst hz
   exact hy
theorem weights_all {H : Type} {P : Program} {e : TypeId} {l : List (DataW H)} {x : DataW H} (h : x ∈ l) : ∀ m ∈ x.weights P e, m ∈ DataW.weightsAll P e l := by
 induction l with
 | nil => simp at h
 | cons y l ih =>
  intro m hm
  rw [DataW.weightsAll, List.mem_append]
  rcases List.mem_cons.1 h with rfl | h
  ·exact .inl hm
  ·exact .inr (ih h m hm)
theorem opens_slice {α : Type} {d : Kd α} {G : α → Prop} (B : Nat) (ht : P.underlying t = some (.slice e)) (he : P.cellsOf e = d.sz) (hB : P.bytesOf e = B) (ho : Opens P e d G) : Opens P t (Kd.slice e d) (fun xs => (∀ y ∈ xs, G y) ∧ xs.length * B ≤ 140737488351232) := by
 intro H enc w base spare held fuel cs x h hw_
 rcases DataW.trod_slice ht h with ⟨rfl, _⟩ | ⟨a, len, cap, elems, rest, n, _, rfl, rfl, _, hl, hm, hlen, hel, _, _⟩
 ·exact ⟨[], ⟨none, 0, rfl, Nat.le_refl _, rfl, Nat.zero_le _, fun hn => absurd hn (Nat.lt_irrefl 0)⟩, (by exact ⟨fun y hy => absurd hy List.not_mem_nil, by simp⟩)⟩
 ·have hw2 : (elems.length + rest.length) * B ≤ reachBytes := by
   have := hw_ ((elems.length + rest.length) * P.bytesOf e) (by simp [DataW.weights, ht])
   rw [hB] at this; exact this
  have hw3 : ∀ z ∈ elems, ∀ m ∈ z.1.weights P e, m ≤ reachBytes := fun z hz m hm' => hw_ m (by
   simp only [DataW.weights, ht]
   exact List.mem_cons_of_mem _ (List.mem_append_left _ (weights_all (List.mem_map_of_mem hz) m hm')))
  have each : ∀ i, i < len → ∃ y, (∃ c, c.length = d.sz ∧ d.K w y c ∧ ∀ j u, c[j]? = some u → w.cell? (a.add (i * d.sz + j)) = some u) ∧ G y := by
   intro i hi
   have h1 := hel i hi
   have h2 : elems[i]? = some elems[i] := List.getElem?_eq_getElem (by omega)
   rw [h2, Option.bind_eq_some_iff] at h1
   obtain ⟨cs, h3, h4⟩ := h1
   obtain ⟨y, hy, hg⟩ := ho H enc w base spare held n cs _ h4 (hw3 _ (List.getElem_mem _))
   obtain ⟨_, hcl, hcc⟩ := World.cells?_some h3
   refine ⟨y, ⟨cs, by rw [hcl, he], hy, fun j u hu => ?_⟩, hg⟩
   have hj : j < P.cellsOf e := by rw [← hcl]; exact (List.getElem?_eq_some_iff.1 hu).1
   have := hcc j hj
   rw [hu, he, Addr.add_add] at this
   exact this
  obtain ⟨xs, h1, h2⟩ := collect _ len each
  refine ⟨xs, ⟨some a, cap, by rw [h1], by omega, rfl, ?_, fun _ => ⟨a, rfl, fun j p hp => (h2 j p hp).1⟩⟩, fun y hy => ?_, ?_⟩
  ·rw [h1]; simp only [maxLen] at hm; omega
  ·obtain ⟨i, hi⟩ := List.getElem?_of_mem hy
   exact (h2 i y hi).2
  ·rw [h1, ← hlen]; exact Nat.le_trans (Nat.mul_le_mul_right _ (Nat.le_add_right _ _)) hw2
theorem opens_iso {α β : Type} {d : Kd α} {G : α → Prop} (f : β → α) (g : α → β) (hfg : ∀ y, f (g y) = y) (ho : Opens P t d G) : Opens P t (Kd.iso d f) (fun x => G (f x)) := by
 intro H enc w base spare held fuel cs x h hw_
 obtain ⟨y, hy, hg⟩ := ho H enc w base spare held fuel cs x h hw_
 exact ⟨g y, by show d.K w (f (g y)) cs; rw [hfg]; exact hy, by show G (f (g y)); rw [hfg]; exact hg⟩
def OpensFs {α : Type} (P : Program) (fs : List Field) (off : Nat) (d : Kd α) (G : α → Prop) : Prop :=
 ∀ (H : Type) (enc : TypeId × Value → H) (w : World) (base : Nat) (spare : Nat → Bool) (held : Bool) (n : Nat) (cs : List Value) (xs : List (DataW H × List MemPlace)),
  cs.length = off + d.sz → xs.length = fs.length → (∀ (i : Nat) (f : Field), fs[i]? = some f → DataW.trod enc P w base spare held n f.type ((cs.drop f.offset).take (P.cellsOf f.type)) = xs[i]?) → (∀ m ∈ DataW.weightsEach P (fs.map (·.type)) (xs.map (·.1)), m ≤ reachBytes) → ∃ y, d.K w y (cs.drop off) ∧ G y
theorem opens_last {α : Type} {d : Kd α} {G : α → Prop} {f : Field} {off : Nat} (h0 : f.offset = off) (hc : P.cellsOf f.type = d.sz) (ho : Opens P f.type d G) : OpensFs P [f] off d G := by
 intro H enc w base spare held n cs xs hl hx h hw_
 obtain ⟨x0, xr, rfl⟩ : ∃ x0 xr, xs = x0 :: xr := by
  cases xs with
  | nil => simp at hx
  | cons a b => exact ⟨a, b, rfl⟩
 have h1 := h 0 f rfl
 have h2 : (x0 :: xr)[0]? = some x0 := rfl
 have hw0 : ∀ m ∈ x0.1.weights P f.type, m ≤ reachBytes := fun m hm => hw_ m (by rw [List.map_cons, List.map_cons, DataW.weightsEach]; exact List.mem_append_left _ hm)
 rw [h2, h0, hc] at h1
 obtain ⟨y, hy, hg⟩ := ho H enc w base spare held n _ _ h1 hw0
 rw [List.take_of_length_le (by simp; omega)] at hy
 exact ⟨y, hy, hg⟩
theorem opens_field {α β : Type} {a : Kd α} {b : Kd β} {Ga : α → Prop} {Gb : β → Prop} {f : Field} {fs : List Field} {off : Nat} (h0 : f.offset = off) (hc : P.cellsOf f.type = a.sz) (ho : Opens P f.type a Ga) (hr : OpensFs P fs (off + a.sz) b Gb) :
  OpensFs P (f :: fs) off (Kd.pair a b) (fun y => Ga y.1 ∧ Gb y.2) := by
 intro H enc w base spare held n cs xs hl hx h hw_
 obtain ⟨x0, xr, rfl⟩ : ∃ x0 xr, xs = x0 :: xr := by
  cases xs with
  | nil => simp at hx
  | cons a b => exact ⟨a, b, rfl⟩
 have hsz : (Kd.pair a b).sz = a.sz + b.sz := rfl
 rw [hsz] at hl
 have h1 := h 0 f rfl
 have h2 : (x0 :: xr)[0]? = some x0 := rfl
 have hw0 : ∀ m ∈ x0.1.weights P f.type, m ≤ reachBytes := fun m hm => hw_ m (by rw [List.map_cons, List.map_cons, DataW.weightsEach]; exact List.mem_append_left _ hm)
 rw [h2, h0, hc] at h1
 obtain ⟨y, hy, hg⟩ := ho H enc w base spare held n _ _ h1 hw0
 obtain ⟨z, hz, hgz⟩ := hr H enc w base spare held n cs xr (by omega) (by simpa using hx) (fun i f' hf => by
  have := h (i + 1) f' (by simpa using hf)
  rw [this]; rfl) (fun m hm => hw_ m (by rw [List.map_cons, List.map_cons, DataW.weightsEach]; exact List.mem_append_right _ hm))
 refine ⟨(y, z), ⟨_, _, ?_, hy, hz⟩, hg, hgz⟩
 rw [← List.drop_drop, List.take_append_drop]
theorem opens_struct {α : Type} {d : Kd α} {G : α → Prop} {fl : List Field} (ht : P.underlying t = some (.struct fl.toArray)) (hc : P.cellsOf t = d.sz) (h : OpensFs P fl 0 d G) : Opens P t d G := by
 intro H enc w base spare held fuel cs x hx hw_
 obtain ⟨xs, n, _, rfl, hl, hlen, he⟩ := DataW.trod_struct ht hx
 obtain ⟨y, hy, hg⟩ := h H enc w base spare held n cs xs (by omega) (by simpa using hlen) (fun i f hf => he i f (by simpa using hf)) (fun m hm => hw_ m (by simp only [DataW.weights, ht]; simpa using hm))
 exact ⟨y, by simpa using hy, hg⟩
end
end Go.Proofs.Ytgbpkbfghonllaa.OpensW

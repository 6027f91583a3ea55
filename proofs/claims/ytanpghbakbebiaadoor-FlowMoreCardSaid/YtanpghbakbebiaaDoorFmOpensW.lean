/- A part of it. -/
import Derived.Test.YtanpghbakbebiaaDoorFmWWords
import Derived.ChangeArms
import Derived.ChangeSlices
import Derived.SizedLaws
namespace Go.Proofs.YtanpghbakbebiaaDoor.OpensW
open Go Go.RowKit Go.Proofs.YtanpghbakbebiaaDoorW.PrintWords
def Opens {α : Type} (P : Program) (t : TypeId) (d : Kd α) (G : α → Prop) : Prop :=
 ∀ (H : Type) (enc : TypeId × Value → H) (w : World) (base : Nat) (spare : Nat → Bool) (held : Bool) (fuel : Nat) (cs : List Value) (x : DataW H × List MemPlace),
  DataW.trod enc P w base spare held fuel t cs = some x → (∀ m ∈ x.1.weights P t, m ≤ reachBytes) → ∃ y, d.K w y cs ∧ G y
section
variable {P : Program} {t e : TypeId}
theorem opens_int {k : IntKind} (ht : P.underlying t = some (.int k)) : Opens P t (Kd.int k) (fun y => (Lit.int k y).wf = true) := by
 intro H enc w base spare held fuel cs x h hw_
 obtain ⟨n, rfl, _, hw⟩ := DataW.trod_int ht h
 exact ⟨n, rfl, hw⟩
theorem opens_bool (ht : P.underlying t = some .bool) : Opens P t Kd.bool (fun _ => True) := by
 intro H enc w base spare held fuel cs x h hw_
 obtain ⟨n, rfl, _⟩ := DataW.trod_bool ht h
 exact ⟨n, rfl, trivial⟩
theorem collect {α : Type} (R : Nat → α → Prop) : ∀ len : Nat, (∀ i, i < len → ∃ y, R i y) → ∃ xs : List α, xs.length = len ∧ ∀ i y, xs[i]? = some y → R i y := by
 intro len
 induction len with
 | zero => exact fun _ => ⟨[], rfl, fun i y hy => by simp at hy⟩
 | succ m ih =>
  intro each
  obtain ⟨xs, h1, h2⟩ := ih (fun i hi => each i (by omega))
  obtain ⟨y, hy⟩ := each m (by omega)
  refine ⟨xs ++ [y], by simp [h1], fun i z hz => ?_⟩
  by_cases hi : i < xs.length
  ·rw [List.getElem?_append_left hi] at hz
   exact h2 i z hz
  ·rw [List.getElem?_append_right (by omega)] at hz
   have : i = m := by
    have := (List.getElem?_eq_some_iff.1 hz).1
    simp at this
    omega
   subst this
   rw [h1, Nat.sub_self] at hz
   simp at hz
   subst hz
   exact hy
theorem weights_all {H : Type} {P : Program} {e : TypeId} {l : List (DataW H)} {x : DataW H} (h : x ∈ l) : ∀ m ∈ x.weights P e, m ∈ DataW.weightsAll P e l := by
 induction l with
 | nil => simp at h
 | cons y l ih =>
  intro m hm
  rw [DataW.weightsAll, List.mem_append]
  rcases List.mem_cons.1 h with rfl | h
  ·exact .inl hm
  ·exact .inr (ih h m hm)
theorem opens_slice {α : Type} {d : Kd α} {G : α → Prop} (B : Nat) (ht : P.underlying t = some (.slice e)) (he : P.cellsOf e = d.sz) (hB : P.bytesOf e = B) (ho : Opens P e d G) : Opens P t (Kd.slice e d) (fun xs => (∀ y ∈ xs, G y) ∧ xs.length * B ≤ 140737488351232) := by
 intro H enc w base spare held fuel cs x h hw_
 rcases DataW.trod_slice ht h with ⟨rfl, _⟩ | ⟨a, len, cap, elems, rest, n, _, rfl, rfl, _, hl, hm, hlen, hel, _, _⟩
 ·exact ⟨[], ⟨none, 0, rfl, Nat.le_refl _, rfl, Nat.zero_le _, fun hn => absurd hn (Nat.lt_irrefl 0)⟩, (by exact ⟨fun y hy => absurd hy List.not_mem_nil, by simp⟩)⟩
 ·have hw2 : (elems.length + rest.length) * B ≤ reachBytes := by
   have := hw_ ((elems.length + rest.length) * P.bytesOf e) (by simp [DataW.weights, ht])
   rw [hB] at this; exact this
  have hw3 : ∀ z ∈ elems, ∀ m ∈ z.1.weights P e, m ≤ reachBytes := fun z hz m hm' => hw_ m (by
   simp only [DataW.weights, ht]
   exact List.mem_cons_of_mem _ (List.mem_append_left _ (weights_all (List.mem_map_of_mem hz) m hm')))
  have each : ∀ i, i < len → ∃ y, (∃ c, c.length = d.sz ∧ d.K w y c ∧ ∀ j u, c[j]? = some u → w.cell? (a.add (i * d.sz + j)) = some u) ∧ G y := by
   intro i hi
   have h1 := hel i hi
   have h2 : elems[i]? = some elems[i] := List.getElem?_eq_getElem (by omega)
   rw [h2, Option.bind_eq_some_iff] at h1
   obtain ⟨cs, h3, h4⟩ := h1
   obtain ⟨y, hy, hg⟩ := ho H enc w base spare held n cs _ h4 (hw3 _ (List.getElem_mem _))
   obtain ⟨_, hcl, hcc⟩ := World.cells?_some h3
   refine ⟨y, ⟨cs, by rw [hcl, he], hy, fun j u hu => ?_⟩, hg⟩
   have hj : j < P.cellsOf e := by rw [← hcl]; exact (List.getElem?_eq_some_iff.1 hu).1
   have := hcc j hj
   rw [hu, he, Addr.add_add] at this
   exact this
  obtain ⟨xs, h1, h2⟩ := collect _ len each
  refine ⟨xs, ⟨some a, cap, by rw [h1], by omega, rfl, ?_, fun _ => ⟨a, rfl, fun j p hp => (h2 j p hp).1⟩⟩, fun y hy => ?_, ?_⟩
  ·rw [h1]; simp only [maxLen] at hm; omega
  ·obtain ⟨i, hi⟩ := List.getElem?_of_mem hy
   exact (h2 i y hi).2
  ·rw [h1, ← hlen]; exact Nat.le_trans (Nat.mul_le_mul_right _ (Nat.le_add_right _ _)) hw2
def OpensFs {α : Type} (P : Program) (fs : List Field) (off : Nat) (d : Kd α) (G : α → Prop) : Prop :=
 ∀ (H : Type) (enc : TypeId × Value → H) (w : World) (base : Nat) (spare : Nat → Bool) (held : Bool) (n : Nat) (cs : List Value) (xs : List (DataW H × List MemPlace)),
  cs.length = off + d.sz → xs.length = fs.length → (∀ (i : Nat) (f : Field), fs[i]? = some f → DataW.trod enc P w base spare held n f.type ((cs.drop f.offset).take (P.cellsOf f.type)) = xs[i]?) → (∀ m ∈ DataW.weightsEach P (fs.map (·.type)) (xs.map (·.1)), m ≤ reachBytes) → ∃ y, d.K w y (cs.drop off) ∧ G y
theorem opens_last {α : Type} {d : Kd α} {G : α → Prop} {f : Field} {off : Nat} (h0 : f.offset = off) (hc : P.cellsOf f.type = d.sz) (ho : Opens P f.type d G) : OpensFs P [f] off d G := by
 intro H enc w base spare held n cs xs hl hx h hw_
 obtain ⟨x0, xr, rfl⟩ : ∃ x0 xr, xs = x0 :: xr := by
  cases xs with
  | nil => simp at hx
  | cons a b => exact ⟨a, b, rfl⟩
 have h1 := h 0 f rfl
 have h2 : (x0 :: xr)[0]? = some x0 := rfl
 have hw0 : ∀ m ∈ x0.1.weights P f.type, m ≤ reachBytes := fun m hm => hw_ m (by rw [List.map_cons, List.map_cons, DataW.weightsEach]; exact List.mem_append_left _ hm)
 rw [h2, h0, hc] at h1
 obtain ⟨y, hy, hg⟩ := ho H enc w base spare held n _ _ h1 hw0
 rw [List.take_of_length_le (by simp; omega)] at hy
 exact ⟨y, hy, hg⟩
theorem opens_field {α β : Type} {a : Kd α} {b : Kd β} {Ga : α → Prop} {Gb : β → Prop} {f : Field} {fs : List Field} {off : Nat} (h0 : f.offset = off) (hc : P.cellsOf f.type = a.sz) (ho : Opens P f.type a Ga) (hr : OpensFs P fs (off + a.sz) b Gb) :
  OpensFs P (f :: fs) off (Kd.pair a b) (fun y => Ga y.1 ∧ Gb y.2) := by
 intro H enc w base spare held n cs xs hl hx h hw_
 obtain ⟨x0, xr, rfl⟩ : ∃ x0 xr, xs = x0 :: xr := by
  cases xs with
  | nil => simp at hx
  | cons a b => exact ⟨a, b, rfl⟩
 have hsz : (Kd.pair a b).sz = a.sz + b.sz := rfl
 rw [hsz] at hl
 have h1 := h 0 f rfl
 have h2 : (x0 :: xr)[0]? = some x0 := rfl
 have hw0 : ∀ m ∈ x0.1.weights P f.type, m ≤ reachBytes := fun m hm => hw_ m (by rw [List.map_cons, List.map_cons, DataW.weightsEach]; exact List.mem_append_left _ hm)
 rw [h2, h0, hc] at h1
 obtain ⟨y, hy, hg⟩ := ho H enc w base spare held n _ _ h1 hw0
 obtain ⟨z, hz, hgz⟩ := hr H enc w base spare held n cs xr (by omega) (by simpa using hx) (fun i f' hf => by
  have := h (i + 1) f' (by simpa using hf)
  rw [this]; rfl) (fun m hm => hw_ m (by rw [List.map_cons, List.map_cons, DataW.weightsEach]; exact List.mem_append_right _ hm))
 refine ⟨(y, z), ⟨_, _, ?_, hy, hz⟩, hg, hgz⟩
 rw [← List.drop_drop, List.take_append_drop]
theorem opens_struct {α : Type} {d : Kd α} {G : α → Prop} {fl : List Field} (ht : P.underlying t = some (.struct fl.toArray)) (hc : P.cellsOf t = d.sz) (h : OpensFs P fl 0 d G) : Opens P t d G := by
 intro H enc w base spare held fuel cs x hx hw_
 obtain ⟨xs, n, _, rfl, hl, hlen, he⟩ := DataW.trod_struct ht hx
 obtain ⟨y, hy, hg⟩ := h H enc w base spare held n cs xs (by omega) (by simpa using hlen) (fun i f hf => he i f (by simpa using hf)) (fun m hm => hw_ m (by simp only [DataW.weights, ht]; simpa using hm))
 exact ⟨y, by simpa using hy, hg⟩
end
end Go.Proofs.YtanpghbakbebiaaDoor.OpensW

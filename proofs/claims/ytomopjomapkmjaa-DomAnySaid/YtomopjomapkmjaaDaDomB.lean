/- A text of this claim, what is not used left out. -/
import Derived.Test.YtomopjomapkmjaaDaDomA
import Derived.Test.YtomopjomapkmjaaDaGraphG
set_option linter.unusedVariables false
namespace Go.Proofs.Ytomopjomapkmjaa.Pure
open Go.RowKit Go.Proofs.Ytomopjomapkmjaa.P Go.Proofs.YtomopjomapkmjaaW.PrintWords Go.Proofs.YtomopjomapkmjaaW.PrintLast Go.Proofs.YtomopjomapkmjaaW.PrintMore
def Ed (s : List (List Int)) (y x : Nat) : Prop := (x : Int) ∈ s.getD y []
def ordL (s : List (List Int)) : List Int := (gtAll s (-1)).2.reverse
def Pl (s : List (List Int)) (x : Nat) : Nat := (ordL s).idxOf (x : Int)
theorem getD_mem {s : List (List Int)} {y : Nat} {t : Int} (h : t ∈ s.getD y []) : y < s.length ∧ s.getD y [] ∈ s := by
  rw [List.getD_eq_getElem?_getD] at h ⊢
  cases hy : s[y]? with
  | none => rw [hy] at h; simp at h
  | some l =>
    obtain ⟨hlt, _⟩ := List.getElem?_eq_some_iff.1 hy
    exact ⟨hlt, by simpa using List.mem_of_getElem? hy⟩
theorem rch_lt (s : List (List Int)) (d : Int) (hv : ∀ l ∈ s, ∀ t ∈ l, 0 ≤ t ∧ t < (s.length : Int)) {x : Nat} (h : Rch s d x) : x < s.length := by
  cases h with
  | start h1 _ => exact List.length_pos_iff.2 h1
  | go k t _ ht hne => have := hv _ (getD_mem ht).2 t ht; omega
theorem ord_mem (s : List (List Int)) (hs : s.length ≤ 40) (hv : ∀ l ∈ s, ∀ t ∈ l, 0 ≤ t ∧ t < (s.length : Int)) (x : Nat) : (x : Int) ∈ ordL s ↔ Rch s (-1) x := by
  have O := ordered_of s hs hv
  have hr := gtAll_iff s (-1) hv x
  constructor
  · intro h
    have := (O.in_ _ h).2.2
    exact hr.1 (by simpa using this)
  · intro h
    have h1 := hr.2 h
    have hsub : ∀ y ∈ ordL s, y ∈ ((List.range (gtAll s (-1)).1.length).filter (fun i => (gtAll s (-1)).1.getD i false)).map (fun i : Nat => (i : Int)) := by
      intro y hy
      obtain ⟨a, b, c⟩ := O.in_ y hy
      exact List.mem_map.2 ⟨y.toNat, List.mem_filter.2 ⟨List.mem_range.2 (by omega), c⟩, by omega⟩
    have hcnt : ((List.range (gtAll s (-1)).1.length).filter (fun i => (gtAll s (-1)).1.getD i false)).length = (gtAll s (-1)).1.count true := by
      generalize (gtAll s (-1)).1 = R
      induction R with
      | nil => rfl
      | cons b R ih =>
        rw [List.length_cons, List.range_succ_eq_map, List.filter_cons, List.filter_map, List.count_cons]
        have e : (fun i => (b :: R).getD i false) ∘ Nat.succ = fun i => R.getD i false := rfl
        cases b
        · simp only [List.getD_cons_zero, Bool.false_eq_true, if_false, List.length_map, e]
          rw [ih]; rfl
        · simp only [List.getD_cons_zero, if_true, List.length_cons, List.length_map, e]
          rw [ih]; rfl
    by_cases hx : (x : Int) ∈ ordL s
    · exact hx
    · exfalso
      have hnd : (((x : Int)) :: ordL s).Nodup := List.nodup_cons.2 ⟨hx, O.once⟩
      have hle := nodup_le hnd (r := ((List.range (gtAll s (-1)).1.length).filter (fun i => (gtAll s (-1)).1.getD i false)).map (fun i : Nat => (i : Int))) (by
        intro y hy
        rcases List.mem_cons.1 hy with rfl | hy
        · refine List.mem_map.2 ⟨x, List.mem_filter.2 ⟨List.mem_range.2 ?_, h1⟩, rfl⟩
          have := rch_lt s (-1) hv h
          rw [gtAll_len]; exact this
        · exact hsub y hy)
      rw [List.length_map, hcnt, O.num, List.length_cons] at hle
      have : (gtAll s (-1)).2.reverse.length = (ordL s).length := rfl
      omega
theorem ord_zero (s : List (List Int)) (hs : s.length ≤ 40) (hv : ∀ l ∈ s, ∀ t ∈ l, 0 ≤ t ∧ t < (s.length : Int)) (hne : s ≠ []) : ∃ (h : 0 < (ordL s).length), (ordL s)[0] = 0 := by
  have h0 : (((0 : Nat) : Int)) ∈ ordL s := (ord_mem s hs hv 0).2 (.start hne (by omega))
  have hp : 0 < (ordL s).length := List.length_pos_of_mem h0
  exact ⟨hp, ((ordered_of s hs hv).zero 0 hp).1 rfl⟩
theorem idx_at {L : List Int} (hn : L.Nodup) (i : Nat) (h : i < L.length) : L.idxOf L[i] = i := by
  have hm : L[i] ∈ L := List.getElem_mem h
  have h1 := List.idxOf_lt_length_of_mem hm
  have h2 := List.getElem_idxOf h1
  rcases Nat.lt_trichotomy (L.idxOf L[i]) i with h3 | h3 | h3
  · exact absurd h2 ((List.pairwise_iff_getElem.1 hn) _ i h1 h h3)
  · exact h3
  · exact absurd h2.symm ((List.pairwise_iff_getElem.1 hn) i _ h h1 h3)
theorem idx_inj {L : List Int} {x y : Int} (hx : x ∈ L) (hy : y ∈ L) (h : L.idxOf x = L.idxOf y) : x = y := by
  have h1 := List.getElem_idxOf (List.idxOf_lt_length_of_mem hx)
  have h2 := List.getElem_idxOf (List.idxOf_lt_length_of_mem hy)
  rw [← h1, ← h2]
  simp only [h]
theorem gr_of (s : List (List Int)) (hs : s.length ≤ 40) (hv : ∀ l ∈ s, ∀ t ∈ l, 0 ≤ t ∧ t < (s.length : Int)) (hne : s ≠ []) : Gr (Ed s) (Rch s (-1)) (Pl s) := by
  have O := ordered_of s hs hv
  obtain ⟨hp, hz⟩ := ord_zero s hs hv hne
  have hz0 : Pl s 0 = 0 := by
    have h1 := idx_at (L := ordL s) O.once 0 hp
    rw [hz] at h1
    exact h1
  refine ⟨.start hne (by omega), ?_, ?_, ?_, ?_⟩
  · intro k hk h0
    rw [hz0]
    rcases Nat.eq_zero_or_pos (Pl s k) with h | h
    · have := idx_inj ((ord_mem s hs hv k).2 hk) ((ord_mem s hs hv 0).2 (.start hne (by omega))) (show Pl s k = Pl s 0 by rw [h, hz0])
      omega
    · exact h
  · intro a b ha hb h
    have := idx_inj ((ord_mem s hs hv a).2 ha) ((ord_mem s hs hv b).2 hb) h
    omega
  · intro y x hy he
    have := Rch.go y (x : Int) hy he (by omega)
    simpa using this
  · intro k hk h0
    have hm := (ord_mem s hs hv k).2 hk
    have hlt := List.idxOf_lt_length_of_mem hm
    have hat := List.getElem_idxOf hlt
    have hi0 : (ordL s).idxOf (k : Int) ≠ 0 := by
      intro e
      have := idx_inj hm ((ord_mem s hs hv 0).2 (.start hne (by omega))) (show Pl s k = Pl s 0 by rw [hz0]; exact e)
      omega
    obtain ⟨y, hy1, hy2⟩ : ∃ y ∈ rd_L2 (prV s s.length) ((ordL s)[(ordL s).idxOf (k : Int)]'hlt), y ∈ (ordL s).take ((ordL s).idxOf (k : Int)) := O.led _ hlt hi0
    have hym : y ∈ ordL s := List.mem_of_mem_take hy2
    obtain ⟨a, b, c⟩ := O.in_ y hym
    rw [hat, prV_at s _ (by omega) (by have := rch_lt s (-1) hv hk; omega), prRow_mem] at hy1
    refine ⟨y.toNat, (ord_mem s hs hv y.toNat).1 (by rw [Int.toNat_of_nonneg a]; exact hym), by have h_ := hy1.2.2; unfold Ed; simpa using h_, ?_⟩
    obtain ⟨j, hj, e⟩ := List.mem_iff_getElem.1 hy2
    rw [List.length_take] at hj
    rw [List.getElem_take] at e
    have : Pl s y.toNat = j := by
      unfold Pl
      rw [Int.toNat_of_nonneg a, ← e]
      exact idx_at (L := ordL s) O.once j (by omega)
    rw [this]
    show j < (ordL s).idxOf (k : Int)
    omega
end Go.Proofs.Ytomopjomapkmjaa.Pure

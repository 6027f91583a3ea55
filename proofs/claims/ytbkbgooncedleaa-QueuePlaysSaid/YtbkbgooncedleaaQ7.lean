import Derived.Test.YtbkbgooncedleaaQ6
import Derived.Test.YtbkbgooncedleaaBase
import Derived.Test.YtbkbgooncedleaaP4
import Derived.Test.YtbkbgooncedleaaP5
namespace Go.Proofs.YtbkbgooncedleaaQ
open Go Go.Conc Go.RowKit Go.Proofs.YtbkbgooncedleaaW.PrintWords Go.Proofs.YtbkbgooncedleaaW.PrintLast Go.Proofs.YtbkbgooncedleaaW.PrintMore Go.Proofs.YtbkbgooncedleaaSel
open Go.Proofs.Ytbkbgooncedleaa.P Go.Proofs.Ytbkbgooncedleaa.Pure
theorem hasInt_c (A : Option Addr) (c : Nat) (l : List Int) (a : Int) (w : World) (hr : Kd.C (Kd.int .i64) w A l.length l) (hc : l.length ≤ c) (hl : l.length < 4611686018427387904) :
    Calls Try.prog 14 #[.slice A l.length c, .int .i64 a] w fun e w' => e = .returned (.bool (decide (a ∈ l))) ∧ Drawn0 w w' := by
  obtain ⟨k, h⟩ := (hasInt_ev l a hl).rounds
  exact balustradebase_HasInt.calls k A c l a _ w hr hc h
theorem sameInts_c (A : Option Addr) (c : Nat) (l : List Int) (A1 : Option Addr) (c1 : Nat) (l1 : List Int) (w : World) (hr : Kd.C (Kd.int .i64) w A l.length l) (hc : l.length ≤ c) (hr1 : Kd.C (Kd.int .i64) w A1 l1.length l1) (hc1 : l1.length ≤ c1) (hl : l.length < 4611686018427387904) :
    Calls Try.prog 17 #[.slice A l.length c, .slice A1 l1.length c1] w fun e w' => e = .returned (.bool (decide (l = l1))) ∧ Drawn0 w w' := by
  obtain ⟨k, h⟩ := (sameInts_ev l l1 hl).rounds
  exact balustradebase_SameInts.calls k A c l A1 c1 l1 _ w hr hc hr1 hc1 h
theorem len_of_same {a b : List Int} (ha : a.Nodup) (hb : b.Nodup) (h : ∀ x, x ∈ a ↔ x ∈ b) : a.length = b.length :=
  ((List.perm_ext_iff_of_nodup ha hb).2 h).length_eq
theorem nodup_of_lt : ∀ {l : List Int}, l.Pairwise (· < ·) → l.Nodup := fun h => h.imp (fun h => Int.ne_of_lt h)
theorem sorted_c (A : Option Addr) (c : Nat) (l : List Int) (w : World) (hr : Kd.C (Kd.int .i64) w A l.length l) (hc : l.length ≤ c) (hl : l.length < 1099511627776) (hn : l.Nodup) :
    Calls Try.prog 18 #[.slice A l.length c] w fun e w' => ∃ A2 c2, e = .returned (.slice A2 l.length c2) ∧ Below w.heap.size w w' := by
  obtain ⟨r, hev, hp, hm, _⟩ := sorted_ev l hl
  obtain ⟨k, h⟩ := hev.rounds
  refine (balustradebase_Sorted.calls k A c l r w hr hc h).mono ?_
  rintro e w' ⟨v, rfl, ho, hb⟩
  obtain ⟨A2, c2, rfl⟩ := Kd.R_slice ho
  rw [len_of_same (nodup_of_lt hp) hn hm]
  exact ⟨A2, c2, rfl, hb⟩
section
variable {w w1 w2 : World} {g c b n m base : Nat} {L xs : List Int} {A : Option Addr} {ok : Nat → Prop} {v : Value}
/-- Ints that are read stay while a queue is written. -/
theorem QAt.ints (h : QAt w g c b n L) (hC : Kd.C (Kd.int .i64) w A m xs) (hk : Kept w w2 (fun k => k = c ∨ k = b)) : Kd.C (Kd.int .i64) w2 A m xs := by
  refine ⟨hC.1, hC.2.1, fun hn => ?_⟩
  obtain ⟨ad, e, hc⟩ := hC.2.2 hn
  refine ⟨ad, e, fun j p hj => ?_⟩
  obtain ⟨cs, hs, hr, hcell⟩ := hc j p hj
  refine ⟨cs, hs, hr, fun i u hu => ?_⟩
  have hx := hcell i u hu
  refine cell_kept hx hk ?_
  obtain ⟨s, r, hch⟩ := h.chan
  obtain ⟨bs, hbs, hsz, hbb⟩ := h.waits
  rintro (e2 | e2)
  · simp [World.cell?, e2, hch] at hx
  · simp only [World.cell?, e2, hbs] at hx
    split at hx
    · cases hx
    · have hr2 : cs = [Value.int .i64 p] := hr
      subst hr2
      have : u = .int .i64 p := by
        rcases i with _ | i
        · simpa using hu.symm
        · simp at hu
      subst this
      have hlt : (ad.add (j * (Kd.int IntKind.i64).sz + i)).off < n := by
        rw [← hsz]
        exact (Array.getElem?_eq_some_iff.1 hx).1
      rw [hbb _ hlt] at hx
      cases hx
theorem QAt.own_ne (h : QAt w g c b n L) (hO : Kd.R (Kd.int .i64) 3 w base ok v xs) (k : Nat) (hk : v.ownBlock = some k) : k ≠ g ∧ k ≠ c ∧ k ≠ b := by
  obtain ⟨inner, ho⟩ := Kd.R_own hO
  obtain ⟨cells, hc⟩ := own_typed ho k hk
  obtain ⟨s, r, hch⟩ := h.chan
  obtain ⟨bs, hbs, _⟩ := h.waits
  refine ⟨?_, ?_, ?_⟩ <;> rintro rfl
  · rw [h.box] at hc; cases hc
  · rw [hch] at hc; cases hc
  · rw [hbs] at hc; cases hc
/-- Ints are appended to a list of one's own: the queue stays. -/
theorem QAt.grown (h : QAt w g c b n L) (hO : Kd.R (Kd.int .i64) 3 w base ok v xs) (hg : w.grownBy w1 v.ownBlock) : QAt w1 g c b n L := by
  refine h.step (fun k hk hlt => hg.block k hlt (fun e => ?_))
  obtain ⟨h1, h2, h3⟩ := h.own_ne hO k e.symm
  rcases hk with rfl | rfl | rfl
  · exact h1 rfl
  · exact h2 rfl
  · exact h3 rfl
theorem QAt.owned (h : QAt w g c b n L) (hO : Kd.R (Kd.int .i64) 3 w base ok v xs) (hk : Kept w w2 (fun k => k = c ∨ k = b)) : Kd.R (Kd.int .i64) 3 w2 base ok v xs := by
  refine Kd.R_mono (Kd.R_kept (Kd.R_bound hO) hk ?_) (fun _ h => h.1)
  rintro k ⟨_, hk1, hk2, q, hq1, cells, hq2⟩ (rfl | rfl)
  · obtain ⟨s, r, hch⟩ := h.chan
    rw [hch] at hq2; cases hq2
  · obtain ⟨bs, hbs, _⟩ := h.waits
    rw [hbs] at hq2
    cases hq2
    simp [Kd.int, Kd.scalar] at hq1
end
end Go.Proofs.YtbkbgooncedleaaQ

import Derived.Test.YtbkbgooncedleaaQ9
import Derived.Deep.RegionWith
namespace Go.Proofs.YtbkbgooncedleaaQ
open Go Go.Conc Go.RowKit Go.Proofs.YtbkbgooncedleaaW.PrintWords Go.Proofs.YtbkbgooncedleaaW.PrintLast Go.Proofs.YtbkbgooncedleaaW.PrintMore Go.Proofs.YtbkbgooncedleaaSel
open Go.Proofs.Ytbkbgooncedleaa.P Go.Proofs.Ytbkbgooncedleaa.Pure
set_option linter.unusedVariables false
/-- A list of acts that came in: each is two cells. -/
def ActsAt (w : World) (A : Option Addr) (len : Nat) : Prop := 0 < len → ∃ ad, A = some ad ∧ ∀ i : Nat, i < len → ∃ a b : Int, w.cell? (ad.add (i * 2)) = some (.int .i64 a) ∧ w.cell? (ad.add (i * 2 + 1)) = some (.int .i64 b)
theorem ActsAt.plain {w : World} {A : Option Addr} {len : Nat} (h : ActsAt w A len) (hl : 0 < len) : ∃ b o : Nat, A = some ⟨b, o, none⟩ ∧ ∀ i : Nat, i < len → ∃ x y : Int, w.cell? ⟨b, o + i * 2, none⟩ = some (.int .i64 x) ∧ w.cell? ⟨b, o + i * 2 + 1, none⟩ = some (.int .i64 y) := by
  obtain ⟨⟨b, o, s⟩, e, hx⟩ := h hl
  cases s with
  | none =>
    refine ⟨b, o, e, fun i hi => ?_⟩
    obtain ⟨x, y, h1, h2⟩ := hx i hi
    rw [WideShapes.add_plain] at h1 h2
    exact ⟨x, y, h1, h2⟩
  | some s =>
    obtain ⟨x, y, h1, h2⟩ := hx 0 hl
    simp only [World.cell?, Addr.add, Nat.zero_mul, if_pos] at h1
    split at h1 <;> simp at h1
theorem sameInts_n (A : Option Addr) (c : Nat) (l : List Int) (A1 : Option Addr) (c1 : Nat) (l1 : List Int) (w : World) (n n1 : Nat) (hn : l.length = n) (hn1 : l1.length = n1) (hr : Kd.C (Kd.int .i64) w A l.length l) (hc : l.length ≤ c) (hr1 : Kd.C (Kd.int .i64) w A1 l1.length l1) (hc1 : l1.length ≤ c1) (hl : l.length < 4611686018427387904) :
    Calls Try.prog 17 #[.slice A n c, .slice A1 n1 c1] w fun e w' => e = .returned (.bool (decide (l = l1))) ∧ Drawn0 w w' := by
  subst hn hn1
  exact sameInts_c A c l A1 c1 l1 w hr hc hr1 hc1 hl
theorem C_from {W : World} {A : Option Addr} {L : List Int} {m c : Nat} (hC : Kd.C (Kd.int .i64) W A L.length L) (hm : m ≤ L.length) (hc : L.length ≤ c) (hne : ¬ c = m) : Kd.C (Kd.int .i64) W (Option.map (fun x => x.add m) A) (L.drop m).length (L.drop m) := by
  have := Kd.C_drop hC hm hc
  rw [if_neg hne] at this
  simpa [Kd.int, Kd.scalar] using this
theorem C_from0 {W : World} {A : Option Addr} {L : List Int} {m c : Nat} (hC : Kd.C (Kd.int .i64) W A L.length L) (hm : m ≤ L.length) (hc : L.length ≤ c) (he : c = m) : Kd.C (Kd.int .i64) W A (L.drop m).length (L.drop m) := by
  have := Kd.C_drop hC hm hc
  rwa [if_pos he] at this
set_option maxHeartbeats 8000000 in
set_option maxRecDepth 100000 in
theorem plays_q (n : Int) (A : Option Addr) (len cc : Nat) (w : World) (hr : ActsAt w A len) (hc : len ≤ cc) : Calls Try.prog 3 #[.int .i64 n, .slice A len cc] w fun e w' => e = .returned (.bool true) ∧ Below w.heap.size w w' := by
  by_cases hl : 60 < len
  · have t1 : decide (60 < (len : Int)) = true := decide_eq_true (by omega)
    go_enter Try.func3, Try.ntmps3
    go_wp2_with (go_at_call 6; refine (works_q _).mono ?_; rintro e w' ⟨rfl, hB⟩; have HB := Aside0.mk hB; clear hB)
    go_ret
    exact ⟨rfl, HB.out⟩
  have t1 : decide (60 < (len : Int)) = false := decide_eq_false (by omega)
  by_cases hn1 : 100 < n ∧ n ≤ 65536
  · have t2 : decide (100 < n) = true := decide_eq_true hn1.1
    have t3 : decide (n ≤ 65536) = true := decide_eq_true hn1.2
    go_enter Try.func3, Try.ntmps3
    go_wp2_with (go_at_call 6; refine (works_q _).mono ?_; rintro e w' ⟨rfl, hB⟩; have HB := Aside0.mk hB; clear hB)
    go_ret
    exact ⟨rfl, HB.out⟩
  have HLN := Aside0.mk hl
  clear hl
  by_cases hbad : n < 0 ∨ 65536 < n
  · have HMay := Aside0.mk (show balustraderef03_May.f n = some false by unfold balustraderef03_May.f; split <;> simp; omega)
    have HN := Aside0.mk hbad
    clear hr
    by_cases hn2 : 100 < n
    · have t2 : decide (100 < n) = true := decide_eq_true hn2
      have t3 : decide (n ≤ 65536) = false := decide_eq_false (by omega)
      clear hbad hn1
      go_enter Try.func3, Try.ntmps3
      go_wp2_with (first
        | (go_at_call 7; refine (New_nil n HN.out _).mono ?_; rintro e w' ⟨rfl, rfl⟩)
        | (go_at_call 8; refine (balustraderef03_May.calls n false _ HMay.out).mono ?_; rintro e w' ⟨rfl, ⟨nd, rfl⟩⟩)
        | (go_at_call 9; refine (Put_nil _ _).mono ?_; rintro e w' ⟨rfl, rfl⟩)
        | (go_at_call 10; refine (Has_nil _ _).mono ?_; rintro e w' ⟨rfl, rfl⟩)
        | (go_at_call 11; refine (Len_nil _).mono ?_; rintro e w' ⟨rfl, rfl⟩)
        | (go_at_call 12; refine (Drain_nil _ _).mono ?_; rintro e w' ⟨rfl, rfl⟩)
        | (go_at_call 6; refine (works_q _).mono ?_; rintro e w' ⟨rfl, hB⟩; have HB := Aside0.mk hB; clear hB))
      go_ret
      exact ⟨rfl, below_step (pw_below_drewN (Below.refl _ _) nd) HB.out⟩
    · have t2 : decide (100 < n) = false := decide_eq_false hn2
      clear hbad hn1
      go_enter Try.func3, Try.ntmps3
      go_wp2_with (first
        | (go_at_call 7; refine (New_nil n HN.out _).mono ?_; rintro e w' ⟨rfl, rfl⟩)
        | (go_at_call 8; refine (balustraderef03_May.calls n false _ HMay.out).mono ?_; rintro e w' ⟨rfl, ⟨nd, rfl⟩⟩)
        | (go_at_call 9; refine (Put_nil _ _).mono ?_; rintro e w' ⟨rfl, rfl⟩)
        | (go_at_call 10; refine (Has_nil _ _).mono ?_; rintro e w' ⟨rfl, rfl⟩)
        | (go_at_call 11; refine (Len_nil _).mono ?_; rintro e w' ⟨rfl, rfl⟩)
        | (go_at_call 12; refine (Drain_nil _ _).mono ?_; rintro e w' ⟨rfl, rfl⟩)
        | (go_at_call 6; refine (works_q _).mono ?_; rintro e w' ⟨rfl, hB⟩; have HB := Aside0.mk hB; clear hB))
      go_ret
      exact ⟨rfl, below_step (pw_below_drewN (Below.refl _ _) nd) HB.out⟩
  obtain ⟨k, rfl⟩ := Int.eq_ofNat_of_zero_le (show 0 ≤ n by omega)
  have t2 : decide (100 < (k : Int)) = false := decide_eq_false (by omega)
  have HK := Aside0.mk (show k ≤ 100 by omega)
  have HMay := Aside0.mk (show balustraderef03_May.f (k : Int) = some true by unfold balustraderef03_May.f; split <;> simp <;> omega)
  have HR := Aside0.mk hr
  clear hr hbad hn1
  go_enter Try.func3, Try.ntmps3
  go_wp2_with (first
    | (go_at_call 7; refine (New_q k (by have := HK.out; omega) _).mono ?_; rintro e w' ⟨g, c, b, rfl, hq, hg, hcw, hbw, hB⟩; have HQ := Aside0.mk hq; have HC := Aside0.mk hcw; have HBb := Aside0.mk hbw; have HB := Aside0.mk hB; clear hq hg hcw hbw hB)
    | (go_at_call 8; refine (balustraderef03_May.calls k true _ HMay.out).mono ?_; rintro e w' ⟨rfl, hd⟩; have HQ0 := Aside0.mk (HQ.out.below hd.below); have HB0 := Aside0.mk (below_step HB.out hd.below); clear hd HQ HB)
    | ((with_reducible refine gate_dst (N := 59) rfl ?_); refine Kd.R_lit (Kd.int .i64) _ 3 ?hg (N := 59) ?hd (xs := ([] : List Int)) (inner := []) (ok := fun _ => True) (okp := fun _ => True) ?hr ?hp (fun _ hk => hk) trivial (Below.refl _ _) (Nat.le_refl _) (by simp) ?_; (case hd => rfl); (case hg => rfl); (case hr => first | (go_simp; done) | (go_simp; rfl)); (case hp => exact (Reps.none _ _)); intro v1 w3 ho4 hb hg_ hnew_; obtain ⟨A7, c7, e7, hc7, hC7⟩ := Kd.R_reads ho4; subst e7; have HCl := Aside0.mk hC7; have HQ1 := Aside0.mk (HQ0.out.below hb); have HB1 := Aside0.mk (below_step HB0.out hb); clear HQ0 HB0 ho4 hb hg_ hnew_ hC7))
  go_loopg [6, 7, 8, 9, 10, 11, 12, 13] len (fun kq v6 v7 v8 v9 v10 v11 v12 v13 w' => ∃ (i : Nat) (L : List Int) (A6 : Option Addr) (c6 : Nat), v6 = .slice A6 L.length c6 ∧ v7 = .int .i64 (i : Int) ∧ Aside0 (i + kq = len) ∧ Aside0 (L.length ≤ c6) ∧ Aside0 (Kd.C (Kd.int .i64) w' A6 L.length L) ∧ Aside0 (QAt w' g c b k L) ∧ Aside0 (Below w.heap.size w w'))
  case atStart => exact ⟨0, [], A7, c7, rfl, rfl, ⟨by omega⟩, ⟨hc7⟩, HCl, HQ1, HB1⟩
  case round =>
    clear HCl HQ1 HB1 hc7
    obtain ⟨i, L, A6, c6, rfl, rfl, HJ, H6, HCl, HQ, HB⟩ := hrel
    by_cases hlt : i < len
    · have p1 : 0 ≤ (i : Int) := by omega
      have p2 : (i : Int) < len := by omega
      obtain ⟨b0, o0, e, hx⟩ := HR.out.plain (by omega)
      cases e
      obtain ⟨kd, N, hx1, hx2⟩ := hx i hlt
      clear hx
      replace hx1 := (HB.out.cell (World.block_lt_of_cell? w _ hx1)).trans hx1
      replace hx2 := (HB.out.cell (World.block_lt_of_cell? w _ hx2)).trans hx2
      have HLT := Aside0.mk hlt
      clear hlt
      have hu31 := Try.underlying31
      go_upto_region 13 with fail
      obtain ⟨W2, hW2⟩ : ∃ W2, wr.alloc (Obj.cells #[Value.int IntKind.i64 kd, Value.int IntKind.i64 N] 31) = W2 := ⟨_, rfl⟩
      have hbx : W2.heap[wr.heap.size]? = some (Obj.cells #[Value.int IntKind.i64 kd, Value.int IntKind.i64 N] 31) := by rw [← hW2]; exact heap_alloc_new _ _
      have hb2 : Below wr.heap.size wr W2 := by rw [← hW2]; exact below_alloc (Below.refl _ _) _
      rw [hW2]
      obtain ⟨b8, hb8⟩ : ∃ b8, wr.heap.size = b8 := ⟨_, rfl⟩
      have ha0 : W2.cell? ⟨b8, 0, none⟩ = some (.int .i64 kd) := by rw [hb8] at hbx; simp [World.cell?, hbx]
      have ha1 : W2.cell? ⟨b8, 1, none⟩ = some (.int .i64 N) := by rw [hb8] at hbx; simp [World.cell?, hbx]
      have HQ2 := Aside0.mk (HQ.out.below hb2)
      have HB2 := Aside0.mk (below_step HB.out hb2)
      have HC2 := Aside0.mk (Kd.C_below HCl.out hb2)
      have HLL := Aside0.mk (show L.length ≤ 100 by have := HQ.out.room; have := HK.out; omega)
      have HW1 := Aside0.mk (wrap_succ i (by have := HLT.out; have := HLN.out; omega))
      rw [hb8]
      clear hbx hb2 hW2 HQ HB HCl hx1 hx2 hb8
      by_cases k0 : kd = 0
      · subst k0
        by_cases hput : 0 ≤ N ∧ N < (k : Int) ∧ N ∉ L
        · have HIN := Aside0.mk hput
          have T1 := Aside0.mk (decide_eq_false hput.2.2)
          clear hput
          go_upto_region 15 with (go_at_call 13; refine (refPut_yes k A6 c6 L N _ HC2.out H6.out (by have := HLL.out; omega) HIN.out.1 HIN.out.2.1 HIN.out.2.2).mono ?_; rintro e w' ⟨v, rfl, ho, hd⟩; obtain ⟨A9, c9, e9, hc9, hC9⟩ := Kd.R_reads ho; subst e9; have H9 := Aside0.mk hc9; have ha1 := pw_cell_below hd ha1; have HQ3 := Aside0.mk (HQ2.out.below hd); have HB3 := Aside0.mk (below_step HB2.out hd); have HC3 := Aside0.mk (Kd.C_below HC2.out hd); have HN3 := Aside0.mk hC9; clear hd ho hc9 hC9)
          go_region_with (first
            | (go_at_call 10; refine (Has_q N _ (HQ3.out.below (below_drew (Below.refl _ _)))).mono ?_; rintro e w' ⟨rfl, rfl⟩; rw [T1.out])
            | (go_at_call 14; refine (hasInt_c A6 c6 L N _ (Kd.C_drew HC3.out) H6.out (by have := HLL.out; omega)).mono ?_; rintro e w' ⟨rfl, hd⟩; rw [T1.out]; have ha4 := pw_cell_below hd.below (show (World.drew _).cell? _ = _ by simpa using ha1); have HQ4 := Aside0.mk ((HQ3.out.below (below_drew (Below.refl _ _))).below hd.below); have HB4 := Aside0.mk (below_step (below_drew HB3.out) hd.below); have HN4 := Aside0.mk (Kd.C_below (Kd.C_drew HN3.out) hd.below); clear hd)
            | (go_at_call 9; refine (Put_in N _ HQ4.out HIN.out.1 HIN.out.2.1 HIN.out.2.2 HB4.out HC.out HBb.out).mono ?_; rintro e w' ⟨rfl, hq, hkp, hB⟩; have HQ5 := Aside0.mk hq; have HB5 := Aside0.mk hB; have HN5 := Aside0.mk (HQ4.out.ints HN4.out hkp); clear hq hkp hB))
          all_goals
            go_wp2_with (go_at_call 11; refine (Len_q _ HQ5.out).mono ?_; rintro e w' ⟨rfl, rfl⟩)
            go_roundg (gk - 1)
            case measure => have := HJ.out; have := HLT.out; omega
            case rel => exact ⟨i + 1, L ++ [N], A9, c9, by rw [List.length_append]; rfl, by rw [HW1.out], ⟨by have := HJ.out; have := HLT.out; omega⟩, H9, HN5, HQ5, HB5⟩
        · have hp2 : ¬ (0 ≤ N ∧ N < (k : Int)) ∨ N ∈ L := by
            by_cases h3 : N ∈ L
            · exact .inr h3
            · exact .inl (fun h4 => hput ⟨h4.1, h4.2, h3⟩)
          have HIN := Aside0.mk hp2
          obtain ⟨tv, htv⟩ : ∃ tv, decide (N ∈ L) = tv := ⟨_, rfl⟩
          have T1 := Aside0.mk htv
          clear hput hp2 htv
          go_upto_region 15 with (go_at_call 13; refine (refPut_no k A6 c6 L N _ HC2.out H6.out (by have := HLL.out; omega) HIN.out).mono ?_; rintro e w' ⟨rfl, hd⟩; have ha1 := pw_cell_below hd.below ha1; have HQ3 := Aside0.mk (HQ2.out.below hd.below); have HB3 := Aside0.mk (below_step HB2.out hd.below); have HC3 := Aside0.mk (Kd.C_below HC2.out hd.below); clear hd)
          go_region_with (first
            | (go_at_call 10; refine (Has_q N _ (HQ3.out.below (below_drew (Below.refl _ _)))).mono ?_; rintro e w' ⟨rfl, rfl⟩; rw [T1.out])
            | (go_at_call 14; refine (hasInt_c A6 c6 L N _ (Kd.C_drew HC3.out) H6.out (by have := HLL.out; omega)).mono ?_; rintro e w' ⟨rfl, hd⟩; rw [T1.out]; have ha4 := pw_cell_below hd.below (show (World.drew _).cell? _ = _ by simpa using ha1); have HQ4 := Aside0.mk ((HQ3.out.below (below_drew (Below.refl _ _))).below hd.below); have HB4 := Aside0.mk (below_step (below_drew HB3.out) hd.below); have HC4 := Aside0.mk (Kd.C_below (Kd.C_drew HC3.out) hd.below); clear hd)
            | (go_at_call 9; refine (Put_out N _ HQ4.out HIN.out).mono ?_; rintro e w' ⟨rfl, rfl⟩))
          all_goals
            go_wp2_with (go_at_call 11; refine (Len_q _ HQ4.out).mono ?_; rintro e w' ⟨rfl, rfl⟩)
            go_roundg (gk - 1)
            case measure => have := HJ.out; have := HLT.out; omega
            case rel => exact ⟨i + 1, L, A6, c6, rfl, by rw [HW1.out], ⟨by have := HJ.out; have := HLT.out; omega⟩, H6, HC4, HQ4, HB4⟩
      · have t4 : (kd == 0) = false := beq_eq_false_iff_ne.mpr k0
        have t4' : decide (kd = 0) = false := decide_eq_false k0
        by_cases k1 : kd = 1
        · subst k1
          cases L with
          | nil =>
            have HF := Aside0.mk (show balustraderef03_First.f [] 1 = some 0 by rfl)
            go_wp2_with (first
              | (go_at_call 15; refine (Take_none _ HQ2.out HB2.out HC.out HBb.out).mono ?_; rintro e w' ⟨rfl, hq, hkp, hB⟩; have HQ3 := Aside0.mk hq; have HB3 := Aside0.mk hB; have HC3 := Aside0.mk (HQ2.out.ints HC2.out hkp); clear hq hkp hB)
              | (go_at_call 16; refine (balustraderef03_First.calls A6 c6 [] 1 0 _ HC3.out H6.out HF.out).mono ?_; rintro e w' ⟨rfl, hb⟩; have HQ4 := Aside0.mk (HQ3.out.below hb); have HB4 := Aside0.mk (below_step HB3.out hb); have HC4 := Aside0.mk (Kd.C_below HC3.out hb); clear hb)
              | (go_at_call 11; refine (Len_q _ HQ4.out).mono ?_; rintro e w' ⟨rfl, rfl⟩))
            go_roundg (gk - 1)
            case measure => have := HJ.out; have := HLT.out; omega
            case rel => exact ⟨i + 1, [], A6, c6, rfl, by rw [HW1.out], ⟨by have := HJ.out; have := HLT.out; omega⟩, H6, HC4, HQ4, HB4⟩
          | cons x t =>
            have HF := Aside0.mk (show balustraderef03_First.f (x :: t) 1 = some 1 by simp [balustraderef03_First.f, mx, mn]; omega)
            have h61 : 1 ≤ c6 := by have := H6.out; simp only [List.length_cons] at this; omega
            by_cases hcm : c6 = 1
            · subst hcm
              have ht0 : t = [] := by have := H6.out; simp only [List.length_cons] at this; exact List.eq_nil_of_length_eq_zero (by omega)
              subst ht0
              go_wp2_with (first
                | (go_at_call 15; refine (Take_some (x := x) (L := []) _ HQ2.out HB2.out HC.out HBb.out).mono ?_; rintro e w' ⟨rfl, hq, hkp, hB⟩; have HQ3 := Aside0.mk hq; have HB3 := Aside0.mk hB; have HC3 := Aside0.mk (HQ2.out.ints HC2.out hkp); obtain ⟨ad, e, hx⟩ := Kd.at_int HC3.out 0 (by omega) (by simp only [List.length_cons]; omega); cases e; replace hx : w'.cell? ad = some (.int .i64 x) := (by simpa [Addr.add, show rd [x] 0 = x from rfl] using hx); clear hq hkp hB)
                | (go_at_call 16; refine (balustraderef03_First.calls (some ad) 1 [x] 1 1 _ HC3.out H6.out HF.out).mono ?_; rintro e w' ⟨rfl, hb⟩; have HQ4 := Aside0.mk (HQ3.out.below hb); have HB4 := Aside0.mk (below_step HB3.out hb); have HC4 := Aside0.mk (Kd.C_below HC3.out hb); clear hb)
                | (go_at_call 11; refine (Len_q _ HQ4.out).mono ?_; rintro e w' ⟨rfl, rfl⟩))
              go_roundg (gk - 1)
              case measure => have := HJ.out; have := HLT.out; omega
              case rel => exact ⟨i + 1, [], some ad, 0, rfl, by rw [HW1.out], ⟨by have := HJ.out; have := HLT.out; omega⟩, ⟨Nat.le_refl _⟩, ⟨C_from0 (m := 1) (L := [x]) HC4.out (by simp) (by simp) rfl⟩, HQ4, HB4⟩
            · go_wp2_with (first
                | (go_at_call 15; refine (Take_some (x := x) (L := t) _ HQ2.out HB2.out HC.out HBb.out).mono ?_; rintro e w' ⟨rfl, hq, hkp, hB⟩; have HQ3 := Aside0.mk hq; have HB3 := Aside0.mk hB; have HC3 := Aside0.mk (HQ2.out.ints HC2.out hkp); obtain ⟨ad, e, hx⟩ := Kd.at_int HC3.out 0 (by omega) (by simp only [List.length_cons]; omega); cases e; replace hx : w'.cell? ad = some (.int .i64 x) := (by simpa [Addr.add, show rd (x :: t) 0 = x from rfl] using hx); clear hq hkp hB)
                | (go_at_call 16; refine (balustraderef03_First.calls (some ad) c6 (x :: t) 1 1 _ HC3.out H6.out HF.out).mono ?_; rintro e w' ⟨rfl, hb⟩; have HQ4 := Aside0.mk (HQ3.out.below hb); have HB4 := Aside0.mk (below_step HB3.out hb); have HC4 := Aside0.mk (Kd.C_below HC3.out hb); clear hb)
                | (go_at_call 11; refine (Len_q _ HQ4.out).mono ?_; rintro e w' ⟨rfl, rfl⟩))
              go_roundg (gk - 1)
              case measure => have := HJ.out; have := HLT.out; omega
              case rel => exact ⟨i + 1, t, some (ad.add 1), c6 - 1, rfl, by rw [HW1.out], ⟨by have := HJ.out; have := HLT.out; omega⟩, ⟨by have := H6.out; simp only [List.length_cons] at this; omega⟩, ⟨C_from (m := 1) HC4.out (by simp) H6.out hcm⟩, HQ4, HB4⟩
        · have t5 : (kd == 1) = false := beq_eq_false_iff_ne.mpr k1
          have t5' : decide (kd = 1) = false := decide_eq_false k1
          obtain ⟨m, hm⟩ : ∃ m : Nat, m = min L.length N.toNat := ⟨_, rfl⟩
          have HF := Aside0.mk (show balustraderef03_First.f L N = some (m : Int) by
            unfold balustraderef03_First.f mx mn
            rw [hm]
            congr 1
            split <;> split <;> omega)
          have hml : m ≤ L.length := by omega
          have e1 : L.take N.toNat = L.take m := by rw [hm]; rw [Nat.min_comm]; exact List.take_eq_take_min
          have e2 : L.drop N.toNat = L.drop m := by
            by_cases h : N.toNat ≤ L.length
            · rw [hm, Nat.min_eq_right h]
            · rw [List.drop_eq_nil_of_le (by omega), List.drop_eq_nil_of_le (by omega)]
          have h6 := H6.out
          have HE := Aside0.mk (And.intro e1 e2)
          have HT := Aside0.mk (show (L.take m).length = m by rw [List.length_take]; omega)
          clear hm e1 e2
          go_upto_region 24 with (go_at_call 16; refine (balustraderef03_First.calls A6 c6 L N m _ HC2.out H6.out HF.out).mono ?_; rintro e w' ⟨rfl, hb⟩; have ha1 := pw_cell_below hb ha1; have HQ3 := Aside0.mk (HQ2.out.below hb); have HB3 := Aside0.mk (below_step HB2.out hb); have HC3 := Aside0.mk (Kd.C_below HC2.out hb); clear hb)
          go_region_with (first
            | (go_at_call 12; refine (Drain_q N _ (HQ3.out.below (below_drew (Below.refl _ _))) (below_drew HB3.out) HC.out HBb.out).mono ?_; rintro e w' ⟨v, rfl, ho, hq, hkp, hB⟩; rw [HE.out.1] at ho; rw [HE.out.2] at hq; obtain ⟨A9, c9, e9, hc9, hC9⟩ := Kd.R_reads ho; rw [HT.out] at e9; subst e9; have H9 := Aside0.mk hc9; have HC9 := Aside0.mk hC9; have HC5 := Aside0.mk ((HQ3.out.below (below_drew (Below.refl _ _))).ints (Kd.C_drew HC3.out) hkp); have HQ5 := Aside0.mk hq; have HB5 := Aside0.mk hB; clear ho hq hkp hB hc9 hC9)
            | (go_at_call 17; refine (sameInts_n A9 c9 (L.take m) A6 c6 (L.take m) _ m m HT.out HT.out HC9.out H9.out (Kd.C_take HC5.out hml) (by rw [HT.out]; omega) (by rw [HT.out]; have := HLL.out; omega)).mono ?_; rintro e w' ⟨rfl, hd⟩; rw [show decide (L.take m = L.take m) = true from decide_eq_true rfl]; have HQ6 := Aside0.mk (HQ5.out.below hd.below); have HB6 := Aside0.mk (below_step HB5.out hd.below); have HC6 := Aside0.mk (Kd.C_below HC5.out hd.below); clear hd))
          all_goals
            have hLm := (show (L.drop m).length = L.length - m from List.length_drop)
            have HLm := Aside0.mk hLm
            by_cases hcm : c6 = m
            · go_wp2_with (go_at_call 11; refine (Len_q _ HQ6.out).mono ?_; rintro e w' ⟨rfl, rfl⟩)
              go_roundg (gk - 1)
              case measure => have := HJ.out; have := HLT.out; omega
              case rel => exact ⟨i + 1, L.drop m, A6, 0, by rw [HLm.out], by rw [HW1.out], ⟨by have := HJ.out; have := HLT.out; omega⟩, ⟨by rw [HLm.out]; omega⟩, ⟨C_from0 HC6.out hml H6.out hcm⟩, HQ6, HB6⟩
            · go_wp2_with (go_at_call 11; refine (Len_q _ HQ6.out).mono ?_; rintro e w' ⟨rfl, rfl⟩)
              go_roundg (gk - 1)
              case measure => have := HJ.out; have := HLT.out; omega
              case rel => exact ⟨i + 1, L.drop m, _, c6 - m, by rw [HLm.out], by rw [HW1.out], ⟨by have := HJ.out; have := HLT.out; omega⟩, ⟨by rw [HLm.out]; omega⟩, ⟨C_from HC6.out hml H6.out hcm⟩, HQ6, HB6⟩
    · have hie : i = len := by have := HJ.out; omega
      subst hie
      have HM1 := Aside0.mk (show L.take (1000 : Int).toNat = L from List.take_of_length_le (by have := HQ.out.room; have := HK.out; show _ ≤ 1000; omega))
      have HLL := Aside0.mk (show L.length ≤ 100 by have := HQ.out.room; have := HK.out; omega)
      go_wp2_with (first
        | (go_at_call 12; refine (Drain_q 1000 _ HQ.out HB.out HC.out HBb.out).mono ?_; rintro e w' ⟨v, rfl, ho, hq, hkp, hB⟩; rw [HM1.out] at ho; obtain ⟨A9, c9, e9, hc9, hC9⟩ := Kd.R_reads ho; subst e9; have HC9 := Aside0.mk hC9; have HC8 := Aside0.mk (HQ.out.ints HCl.out hkp); have HB9 := Aside0.mk hB; clear ho hq hkp hB hC9)
        | (go_at_call 17; refine (sameInts_c A9 c9 L A6 c6 L _ HC9.out hc9 HC8.out H6.out (by have := HLL.out; omega)).mono ?_; rintro e w' ⟨rfl, hd⟩; rw [show decide (L = L) = true from decide_eq_true rfl]; have HD := Aside0.mk hd.below; clear hd)
        | (go_at_call 6; refine (works_q _).mono ?_; rintro e w' ⟨rfl, hB⟩; have HB12 := Aside0.mk hB; clear hB))
      go_ret
      exact ⟨rfl, below_step (below_step HB9.out HD.out) HB12.out⟩
end Go.Proofs.YtbkbgooncedleaaQ

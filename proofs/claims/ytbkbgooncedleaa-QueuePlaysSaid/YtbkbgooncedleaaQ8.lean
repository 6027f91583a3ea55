import Derived.Test.YtbkbgooncedleaaQ7
namespace Go.Proofs.YtbkbgooncedleaaQ
open Go Go.Conc Go.RowKit Go.Proofs.YtbkbgooncedleaaW.PrintWords Go.Proofs.YtbkbgooncedleaaW.PrintLast Go.Proofs.YtbkbgooncedleaaW.PrintMore Go.Proofs.YtbkbgooncedleaaSel
open Go.Proofs.Ytbkbgooncedleaa.P Go.Proofs.Ytbkbgooncedleaa.Pure
set_option linter.unusedVariables false
set_option maxHeartbeats 8000000 in
theorem once_q (n : Int) (h0 : 0 ≤ n) (h1 : n < 256) (A : Option Addr) (cc : Nat) (l : List Int) (w : World) (hr : Kd.C (Kd.int .i64) w A l.length l) (hc : l.length ≤ cc) : Calls Try.prog 4 #[.int .u8 n, .slice A l.length cc] w fun e w' => e = .returned (.bool true) ∧ Below w.heap.size w w' := by
  by_cases hl : l.length ≤ 100
  case neg =>
    have t1 : decide (100 < (l.length : Int)) = true := decide_eq_true (by omega)
    clear hr
    go_enter Try.func4, Try.ntmps4
    go_wp2_with (go_at_call 6; refine (works_q _).mono ?_; rintro e w' ⟨rfl, hB⟩; have HB := Aside0.mk hB; clear hB)
    go_ret
    exact ⟨rfl, HB.out⟩
  have t1 : decide (100 < (l.length : Int)) = false := decide_eq_false (by omega)
  have HR := Aside0.mk hr
  clear hr
  obtain ⟨k, hk⟩ : ∃ k : Nat, n % 60 = (k : Int) := ⟨(n % 60).toNat, by omega⟩
  have hk60 : k < 60 := by omega
  have HK6 := Aside0.mk hk
  have HK60 := Aside0.mk hk60
  have HL := Aside0.mk hl
  clear hk hk60 hl
  go_enter Try.func4, Try.ntmps4
  go_wp2_with (first
    | (go_at_call 7; rw [HK6.out]; refine (New_q k (by have := HK60.out; omega) _).mono ?_; rintro e w' ⟨g, c, b, rfl, hq, hg, hcw, hbw, hB⟩; have HQ := Aside0.mk hq; have HC := Aside0.mk hcw; have HBb := Aside0.mk hbw; have HB := Aside0.mk hB; clear hq hg hcw hbw hB)
    | ((with_reducible refine gate_dst (N := 24) rfl ?_); refine Kd.R_lit (Kd.int .i64) _ 3 ?hg (N := 24) ?hd (xs := ([] : List Int)) (inner := []) (ok := fun _ => True) (okp := fun _ => True) ?hr ?hp (fun _ hk => hk) trivial (Below.refl _ _) (Nat.le_refl _) (by simp) ?_; (case hd => rfl); (case hg => rfl); (case hr => first | (go_simp; done) | (go_simp; rfl)); (case hp => exact (Reps.none _ _)); intro v1 w3 ho4 hb hg_ hnew_; have HO := Aside0.mk (Kd.R_lower ho4 (below_size HB.out)); have HQ1 := Aside0.mk (HQ.out.below hb); have HB1 := Aside0.mk (below_step HB.out hb); clear HQ HB ho4 hb hg_ hnew_))
  go_loopg [7, 8] l.length (fun kq v7 v8 w' => ∃ (i : Nat) (L : List Int), v8 = .int .i64 (i : Int) ∧ Aside0 (i + kq = l.length) ∧ Aside0 (Kd.R (Kd.int .i64) 3 w' w.heap.size (fun _ => True) v7 L) ∧ Aside0 (QAt w' g c b k L) ∧ Aside0 (∀ j : Nat, j < i → 0 ≤ rd l (j : Int) → rd l (j : Int) < (k : Int) → rd l (j : Int) ∈ L) ∧ Aside0 (Below w.heap.size w w'))
  case atStart => exact ⟨0, [], rfl, ⟨by omega⟩, HO, HQ1, ⟨fun j hj => absurd hj (by omega)⟩, HB1⟩
  case round =>
    clear HO HQ1 HB1
    obtain ⟨i, L, rfl, HJ, HO, HQ, HM, HB⟩ := hrel
    by_cases hlt : i < l.length
    · have p1 : 0 ≤ (i : Int) := by omega
      have p2 : (i : Int) < l.length := by omega
      obtain ⟨ad, e, hx⟩ := Kd.at_int HR.out (i : Int) p1 p2
      cases e
      replace hx : w.cell? (ad.add i) = some (.int .i64 (rd l (i : Int))) := by simpa using hx
      have HX0 := Aside0.mk hx
      replace hx := (HB.out.cell (World.block_lt_of_cell? w _ hx)).trans hx
      obtain ⟨x, hxe⟩ : ∃ x, rd l (i : Int) = x := ⟨_, rfl⟩
      rw [hxe] at hx HX0
      have HXE := Aside0.mk hxe
      have HLT := Aside0.mk hlt
      clear hxe hlt
      by_cases hput : 0 ≤ x ∧ x < (k : Int) ∧ x ∉ L
      · have HP := Aside0.mk hput
        clear hput
        go_wp2_with (first
          | (go_at_call 9; refine (Put_in x _ HQ.out HP.out.1 HP.out.2.1 HP.out.2.2 HB.out HC.out HBb.out).mono ?_; rintro e w' ⟨rfl, hq, hkp, hB⟩; have HO2 := Aside0.mk (HQ.out.owned HO.out hkp); have HQ2 := Aside0.mk hq; have HB2 := Aside0.mk hB; have hx2 := (HB2.out.cell (World.block_lt_of_cell? w _ HX0.out)).trans HX0.out; clear hq hkp hB)
          | ((with_reducible refine gate_builtin (b := .append) (xs := #[.tmp 37, .tmp 42]) rfl ?_); at_builtin; refine Kd.R_append (Kd.int .i64) (w0 := w) w.heap.size rfl (.tmp 37) (.tmp 42) 28 3 (.int .i64 0) 8 rfl Try.underlying28 info3 rfl (by decide) (by omega) u7 L x [.int .i64 x] (fun _ => True) (fun _ => False) rfl (by simp [Act.eval]) rfl (fun _ hk => hk.elim) (fun _ _ => trivial) HO2.out HB2.out (below_size HB2.out) (by have := HQ.out.room; have := HK60.out; omega) ?_; intro v1 w3 ho hb hg hat; have HO3 := Aside0.mk ho; have HB3 := Aside0.mk hb; have HQ3 := Aside0.mk (HQ2.out.grown HO2.out hg); clear ho hb hg hat))
        go_roundg (gk - 1)
        case measure => have := HJ.out; have := HLT.out; omega
        case rel => exact ⟨i + 1, L ++ [x], by rw [wrap_succ i (by have := HLT.out; have := HL.out; omega)], ⟨by have := HJ.out; have := HLT.out; omega⟩, HO3, HQ3, ⟨fun j hj q0 q1 => by
            by_cases e : j = i
            · subst e; rw [HXE.out]; simp
            · exact List.mem_append_left _ (HM.out j (by omega) q0 q1)⟩, HB3⟩
      · have hp2 : ¬ (0 ≤ x ∧ x < (k : Int)) ∨ x ∈ L := by
          by_cases h3 : x ∈ L
          · exact .inr h3
          · exact .inl (fun h4 => hput ⟨h4.1, h4.2, h3⟩)
        have HP := Aside0.mk hp2
        clear hp2 hput
        go_wp2_with (first
          | (go_at_call 9; refine (Put_out x _ HQ.out HP.out).mono ?_; rintro e w' ⟨rfl, rfl⟩))
        go_roundg (gk - 1)
        case measure => have := HJ.out; have := HLT.out; omega
        case rel => exact ⟨i + 1, L, by rw [wrap_succ i (by have := HLT.out; have := HL.out; omega)], ⟨by have := HJ.out; have := HLT.out; omega⟩, HO, HQ, ⟨fun j hj q0 q1 => by
            by_cases e : j = i
            · subst e; rw [HXE.out] at q0 q1 ⊢; rcases HP.out with h | h
              · exact absurd ⟨q0, q1⟩ h
              · exact h
            · exact HM.out j (by omega) q0 q1⟩, HB⟩
    · have hie : i = l.length := by have := HJ.out; omega
      subst hie
      have HM2 := Aside0.mk (fun (j : Nat) (hj : j < l.length) => HM.out j hj)
      have HLL := Aside0.mk (show L.length ≤ 60 by have := HQ.out.room; have := HK60.out; omega)
      obtain ⟨A7, c7, e7, hc7, hC7⟩ := Kd.R_reads HO.out
      subst e7
      have HC7 := Aside0.mk hC7
      clear hC7 HO HM HJ
      go_wp2
      go_loopg [9] l.length (fun kq v9 w' => ∃ (i : Nat), v9 = .int .i64 (i : Int) ∧ Aside0 (i + kq = l.length) ∧ Aside0 (Below w.heap.size w w') ∧ Aside0 (QAt w' g c b k L) ∧ Aside0 (Kd.C (Kd.int .i64) w' A7 L.length L))
      case atStart => exact ⟨0, rfl, ⟨by omega⟩, HB, HQ, HC7⟩
      case round =>
        clear HB HQ HC7
        obtain ⟨i, rfl, HJ, HB, HQ, HC7⟩ := hrel
        by_cases hlt : i < l.length
        · have p1 : 0 ≤ (i : Int) := by omega
          have p2 : (i : Int) < l.length := by omega
          obtain ⟨ad, e, hx⟩ := Kd.at_int HR.out (i : Int) p1 p2
          cases e
          replace hx : w.cell? (ad.add i) = some (.int .i64 (rd l (i : Int))) := by simpa using hx
          replace hx := (HB.out.cell (World.block_lt_of_cell? w _ hx)).trans hx
          have hm := HM2.out i hlt
          obtain ⟨x, hxe⟩ : ∃ x, rd l (i : Int) = x := ⟨_, rfl⟩
          rw [hxe] at hx hm
          have HLT := Aside0.mk hlt
          clear hxe hlt
          by_cases q0 : 0 ≤ x
          · have t2 : decide (0 ≤ x) = true := decide_eq_true q0
            by_cases q1 : x < (k : Int)
            · have t3 : decide (x < (k : Int)) = true := decide_eq_true q1
              have t4 : decide (x ∈ L) = true := decide_eq_true (hm q0 q1)
              have T4 := Aside0.mk t4
              clear hm t4
              go_wp2_with (go_at_call 14; refine (hasInt_c A7 c7 L x _ HC7.out hc7 (by have := HLL.out; omega)).mono ?_; rintro e w' ⟨rfl, hd⟩; rw [T4.out]; have HD := Aside0.mk hd.below; clear hd)
              go_roundg (gk - 1)
              case measure => have := HJ.out; have := HLT.out; omega
              case rel => exact ⟨i + 1, by rw [wrap_succ i (by have := HLT.out; have := HL.out; omega)], ⟨by have := HJ.out; have := HLT.out; omega⟩, ⟨below_step HB.out HD.out⟩, ⟨HQ.out.below HD.out⟩, ⟨Kd.C_below HC7.out HD.out⟩⟩
            · have t3 : decide (x < (k : Int)) = false := decide_eq_false q1
              clear hm
              go_wp2
              go_roundg (gk - 1)
              case measure => have := HJ.out; have := HLT.out; omega
              case rel => exact ⟨i + 1, by rw [wrap_succ i (by have := HLT.out; have := HL.out; omega)], ⟨by have := HJ.out; have := HLT.out; omega⟩, HB, HQ, HC7⟩
          · have t2 : decide (0 ≤ x) = false := decide_eq_false q0
            clear hm
            go_wp2
            go_roundg (gk - 1)
            case measure => have := HJ.out; have := HLT.out; omega
            case rel => exact ⟨i + 1, by rw [wrap_succ i (by have := HLT.out; have := HL.out; omega)], ⟨by have := HJ.out; have := HLT.out; omega⟩, HB, HQ, HC7⟩
        · have hie : i = l.length := by have := HJ.out; omega
          subst hie
          clear HJ
          go_wp2
          go_loopg [10, 11, 12] L.length (fun kq v10 v11 v12 w' => ∃ (i : Nat), v10 = .int .i64 (i : Int) ∧ Aside0 (i + kq = L.length) ∧ Aside0 (Below w.heap.size w w') ∧ Aside0 (QAt w' g c b k (L.drop i ++ L.take i)) ∧ Aside0 (Kd.C (Kd.int .i64) w' A7 L.length L))
          case atStart => exact ⟨0, rfl, ⟨by omega⟩, HB, ⟨by simpa using HQ.out⟩, HC7⟩
          case round =>
            have HND := Aside0.mk HQ.out.nodup
            clear HB HQ HC7
            obtain ⟨i, rfl, HJ, HB, HQ, HC7⟩ := hrel
            by_cases hlt : i < L.length
            · have hd : L.drop i = L[i] :: L.drop (i + 1) := List.drop_eq_getElem_cons hlt
              have hrd : rd L (i : Int) = L[i] := rd_nat L i hlt
              obtain ⟨x, hxe⟩ : ∃ x, L[i] = x := ⟨_, rfl⟩
              rw [hxe] at hd hrd
              have hq0 := HQ.out
              rw [hd, List.cons_append] at hq0
              have hnd := hq0.nodup
              rw [List.nodup_cons] at hnd
              have hxr := hq0.rng x (by simp)
              have ht : L.take i ++ [x] = L.take (i + 1) := by rw [List.take_succ_eq_append_getElem hlt, hxe]
              have HQ0 := Aside0.mk hq0
              have HNX := Aside0.mk hnd.1
              have T1 := Aside0.mk (decide_eq_false hnd.1)
              have HXR := Aside0.mk hxr
              have HT := Aside0.mk ht
              have HRD := Aside0.mk hrd
              have HLT := Aside0.mk hlt
              have hi1 : (i : Int) < (L.length : Int) := by omega
              clear hd hrd hxe hq0 hnd hxr ht hlt
              go_wp2_with (first
                | (go_at_call 15; refine (Take_some (x := x) _ HQ0.out HB.out HC.out HBb.out).mono ?_; rintro e w' ⟨rfl, hq, hkp, hB⟩; have HQ1 := Aside0.mk hq; have HB1 := Aside0.mk hB; have HC1 := Aside0.mk (HQ0.out.ints HC7.out hkp); obtain ⟨ad, e, hx⟩ := Kd.at_int HC1.out (i : Int) (by omega) (by have := HLT.out; omega); cases e; rw [HRD.out] at hx; replace hx : w'.cell? (ad.add i) = some (.int .i64 x) := (by simpa using hx); clear hq hkp hB HQ0)
                | (go_at_call 10; refine (Has_q x _ HQ1.out).mono ?_; rintro e w' ⟨rfl, rfl⟩; rw [T1.out])
                | (go_at_call 9; refine (Put_in x _ HQ1.out HXR.out.1 HXR.out.2 HNX.out HB1.out HC.out HBb.out).mono ?_; rintro e w' ⟨rfl, hq, hkp, hB⟩; have HQ2 := Aside0.mk hq; have HB2 := Aside0.mk hB; have HC2 := Aside0.mk (HQ1.out.ints HC1.out hkp); clear hq hkp hB))
              go_roundg (gk - 1)
              case measure => have := HJ.out; have := HLT.out; omega
              case rel => exact ⟨i + 1, by rw [wrap_succ i (by have := HLT.out; have := HLL.out; omega)], ⟨by have := HJ.out; have := HLT.out; omega⟩, HB2, ⟨by have := HQ2.out; rwa [List.append_assoc, HT.out] at this⟩, HC2⟩
            · have hie : i = L.length := by have := HJ.out; omega
              subst hie
              have hq0 : QAt wr g c b k L := by have := HQ.out; simpa using this
              have HQ0 := Aside0.mk hq0
              have hw1 : IntKind.i64.wrap ((L.length : Int) + 1) = ((L.length + 1 : Nat) : Int) := by rw [i64_w]; exact wrap_succ _ (by have := HLL.out; omega)
              have hm1 : L.take ((L.length + 1 : Nat) : Int).toNat = L := List.take_of_length_le (by simp)
              have HM1 := Aside0.mk hm1
              clear HQ HJ hq0 hm1
              go_wp2_with (first
                | (go_at_call 11; refine (Len_q _ HQ0.out).mono ?_; rintro e w' ⟨rfl, rfl⟩)
                | (go_at_call 12; refine (Drain_q ((L.length + 1 : Nat) : Int) _ HQ0.out HB.out HC.out HBb.out).mono ?_; rintro e w' ⟨v, rfl, ho, hq, hkp, hB⟩; rw [HM1.out] at ho; obtain ⟨A9, c9, e9, hc9, hC9⟩ := Kd.R_reads ho; subst e9; have HC9 := Aside0.mk hC9; have HC8 := Aside0.mk (HQ0.out.ints HC7.out hkp); have HB9 := Aside0.mk hB; clear ho hq hkp hB hC9)
                | (go_at_call 17; refine (sameInts_c A9 c9 L A7 c7 L _ HC9.out hc9 HC8.out hc7 (by have := HLL.out; omega)).mono ?_; rintro e w' ⟨rfl, hd⟩; rw [show decide (L = L) = true from decide_eq_true rfl]; have HD := Aside0.mk hd.below; have HC10 := Aside0.mk (Kd.C_below HC8.out hd.below); clear hd)
                | (go_at_call 18; refine (sorted_c A7 c7 L _ HC10.out hc7 (by have := HLL.out; omega) HND.out).mono ?_; rintro e w' ⟨A11, c11, rfl, hB⟩; have HB11 := Aside0.mk hB; clear hB)
                | (go_at_call 6; refine (works_q _).mono ?_; rintro e w' ⟨rfl, hB⟩; have HB12 := Aside0.mk hB; clear hB))
              go_ret
              exact ⟨rfl, below_step (below_step (below_step HB9.out HD.out) HB11.out) HB12.out⟩
end Go.Proofs.YtbkbgooncedleaaQ

/- The row of the law. -/
import Derived.Test.YtgbpkbfghonllaaRows
import Derived.Test.YtgbpkbfghonllaaFcFunChecksW
import Derived.Test.YtgbpkbfghonllaaFcOpensW
import Derived.WalkKit
import Derived.ProofKit
import Derived.OpenShut
import Derived.ShutString
import Derived.ChangeOld
import Derived.Below
import Derived.SizedLaws
namespace Go.Proofs.Ytgbpkbfghonllaa.funChecks
open Go.ChangeShapes Go.WideShapes Go.ChangeAt Go.RowKit Go.Proofs.YtgbpkbfghonllaaW.PrintWords
open Go.ChangeMaps (open_string shut_string)
set_option linter.unusedVariables false
theorem own : ownKnob Try.prog.godebug = none := by kernel_rfl
theorem laidOut : laidOutB Try.prog = true := by kernel_rfl
set_option maxRecDepth 100000 in
set_option maxHeartbeats 2000000 in
theorem lifted (os : Os) (started : os.Started) (H : Type) (enc : TypeId × Value → H) :
    ReturnsInHanded {} Try.checked os 3 .any (Rows.funChecksSpec.pre6 enc Try.prog Try.f3 Rows.funChecksRow.domain false) (Rows.funChecksSpec.post enc Try.prog Try.f3 false true false false) := by
  refine returnsInHanded_of_change_sized (C := Try.checked) own started (by kernel_rfl) Try.func3
    (ChangeSpec.witness6 (enc := enc) (C := Try.checked) false ⟨#[], #[.agg #[.slice none 0 0, .int .i64 0, .slice none 0 0]], []⟩ 8 (by kernel_rfl) (by kernel_rfl) (by kernel_rfl) (by kernel_rfl)) ?_
  intro W base args ds gs before hval0 hW hcnd hsz0 _
  have hsz : (DataW.weightsEach Try.prog (Try.f3.params.toList ++ Rows.funChecksSpec.plain.varTypes Try.prog) (ds ++ gs)).all (· ≤ reachBytes) = true := hsz0
  have hval : ∀ (j : Nat) t v, Try.f3.params[j]? = some t → args[j]? = some v → Value.okWide Try.prog W .any base t v := hval0
  have hW' := hW
  obtain ⟨p, q, hA0, hV, rfl, hfz, hnd⟩ := hW
  have hA : DataW.TrodAll enc Try.prog W 0 (fun _ => true) true Try.f3.params.toList args.toList ds p := hA0
  rw [Try.params3] at hA hval hsz
  obtain ⟨v0, vs0, d0, ds0, p0, q0, hargs, rfl, rfl, h0, r0⟩ := trodAll_cons hA
  obtain ⟨rfl, rfl, rfl⟩ := trodAll_nil r0
  obtain rfl : args = #[v0] := by cases args; simp_all
  obtain ⟨rfl, rfl⟩ := trodVars_none hV
  obtain ⟨cs0, rfl, _⟩ := okWide_struct Try.underlying25 (hval 0 25 v0 rfl rfl)
  have k0 := h0
  have lt0 : ∀ x ∈ p0, x.block < W.heap.size := by obtain ⟨m, hm⟩ := k0; exact DataW.trod_lt m _ _ _ hm
  obtain ⟨fuel0, hf0⟩ := h0
  obtain ⟨y0, hK0, hg0⟩ := (OpensW.opens_struct Try.underlying25 (by kernel_rfl) (OpensW.opens_field rfl (by kernel_rfl) (OpensW.opens_slice 80 Try.underlying22 (by kernel_rfl) (by kernel_rfl) (OpensW.opens_iso (fun x : P.S39 => (x.f0, x.f1, x.f2, x.f3, x.f4)) (fun y => ⟨y.1, y.2.1, y.2.2.1, y.2.2.2.1, y.2.2.2.2⟩) (fun _ => rfl) (OpensW.opens_struct Try.underlying39 (by kernel_rfl) (OpensW.opens_field rfl (by kernel_rfl) (OpensW.opens_string Try.underlying9) (OpensW.opens_field rfl (by kernel_rfl) (OpensW.opens_int Try.underlying3) (OpensW.opens_field rfl (by kernel_rfl) (OpensW.opens_int Try.underlying3) (OpensW.opens_field rfl (by kernel_rfl) (OpensW.opens_slice 8 Try.underlying36 (by kernel_rfl) (by kernel_rfl) (OpensW.opens_int Try.underlying3)) (OpensW.opens_last rfl (by kernel_rfl) (OpensW.opens_slice 24 Try.underlying37 (by kernel_rfl) (by kernel_rfl) (OpensW.opens_slice 88 Try.underlying40 (by kernel_rfl) (by kernel_rfl) (OpensW.opens_iso (fun x : P.S42 => (x.f0, x.f1, x.f2, x.f3, x.f4, x.f5, x.f6, x.f7, x.f8)) (fun y => ⟨y.1, y.2.1, y.2.2.1, y.2.2.2.1, y.2.2.2.2.1, y.2.2.2.2.2.1, y.2.2.2.2.2.2.1, y.2.2.2.2.2.2.2.1, y.2.2.2.2.2.2.2.2⟩) (fun _ => rfl) (OpensW.opens_struct Try.underlying42 (by kernel_rfl) (OpensW.opens_field rfl (by kernel_rfl) (OpensW.opens_int Try.underlying3) (OpensW.opens_field rfl (by kernel_rfl) (OpensW.opens_int Try.underlying3) (OpensW.opens_field rfl (by kernel_rfl) (OpensW.opens_int Try.underlying3) (OpensW.opens_field rfl (by kernel_rfl) (OpensW.opens_int Try.underlying3) (OpensW.opens_field rfl (by kernel_rfl) (OpensW.opens_int Try.underlying3) (OpensW.opens_field rfl (by kernel_rfl) (OpensW.opens_int Try.underlying3) (OpensW.opens_field rfl (by kernel_rfl) (OpensW.opens_int Try.underlying3) (OpensW.opens_field rfl (by kernel_rfl) (OpensW.opens_int Try.underlying3) (OpensW.opens_last rfl (by kernel_rfl) (OpensW.opens_slice 8 Try.underlying36 (by kernel_rfl) (by kernel_rfl) (OpensW.opens_int Try.underlying3))))))))))))))))))))))) (OpensW.opens_field rfl (by kernel_rfl) (OpensW.opens_int Try.underlying3) (OpensW.opens_last rfl (by kernel_rfl) (OpensW.opens_slice 16 Try.underlying23 (by kernel_rfl) (by kernel_rfl) (OpensW.opens_iso (fun x : P.S48 => (x.f0, x.f1)) (fun y => ⟨y.1, y.2⟩) (fun _ => rfl) (OpensW.opens_struct Try.underlying48 (by kernel_rfl) (OpensW.opens_field rfl (by kernel_rfl) (OpensW.opens_int Try.underlying3) (OpensW.opens_last rfl (by kernel_rfl) (OpensW.opens_int Try.underlying3)))))))))) _ _ _ _ _ _ _ _ _ hf0 (fun m hm => by have := List.all_eq_true.1 hsz m (DataW.weights_mem_each (j := 0) rfl rfl m hm); simpa using this)
  obtain ⟨y0_0, y0_1, y0_2⟩ := y0
  obtain ⟨_, _, e0_0, ⟨A0_0, c0_0, rfl, hl0_0, hr0_0⟩, ⟨_, _, e0_1, rfl, ⟨A0_2, c0_2, rfl, hl0_2, hr0_2⟩⟩⟩ := hK0
  have e0 : cs0 = #[.slice A0_0 y0_0.length c0_0, .int .i64 y0_1, .slice A0_2 y0_2.length c0_2] := by apply Array.ext'; have e_ := e0_0; (try subst e0_1); simpa [Value.cells, Kd.slice, Kd.int, Kd.scalar] using e_
  subst e0
  clear hA0 hval0 hsz0 hsz
  refine (P.balustradelaw16_FunChecks.walk A0_0 c0_0 y0_0 y0_1 A0_2 c0_2 y0_2 W hr0_0 hl0_0 hr0_2 hl0_2 (P.sized_of rfl hg0.1.2 (fun f hf => ⟨(hg0.1.1 f hf).2.2.2.2.2, (hg0.1.1 f hf).2.2.2.1.2, fun b hb => ⟨((hg0.1.1 f hf).2.2.2.2.1 b hb).2, fun x hx => (((hg0.1.1 f hf).2.2.2.2.1 b hb).1 x hx).2.2.2.2.2.2.2.2.2⟩⟩))).mono fun e W' ⟨he, bel⟩ => ?_
  subst he
  exact ⟨_, rfl, _, _, _, [], _, [], hW', trodAll_mk1 (shut_bool Try.underlying4 _), (trodAll_cons_mk (Below.trod laidOut (by kernel_rfl) (of_decide_eq_true (by kernel_rfl)) k0 bel lt0) trodAll_mk0), rfl, bel.frame _, fun h => by cases h⟩
theorem over : Rows.funChecksRow.holds Try.pinned (OpenSpec.ofChange Rows.funChecksSpec) :=
  OpenClaim.holds_of_wide 3 Try.f3 rfl rfl rfl rfl rfl rfl rfl ⟨rfl, rfl, rfl, rfl, rfl⟩ rfl rfl rfl rfl rfl (by kernel_rfl) Try.func3 (by kernel_rfl)
    (of_decide_eq_true (by kernel_rfl)) (by unfold Func.isWrapper; first | (rw [if_pos (by decide +kernel)]; kernel_rfl) | (rw [if_neg (by decide +kernel)]; exact ⟨rfl, rfl⟩))
    (fun os started H enc _ => lifted os started H enc)
theorem proved : Rows.FunChecksSaid := over
#print axioms proved
end Go.Proofs.Ytgbpkbfghonllaa.funChecks
namespace Go.Proofs.Ytgbpkbfghonllaa
theorem funChecks_holds : Rows.FunChecksSaid := funChecks.proved
end Go.Proofs.Ytgbpkbfghonllaa

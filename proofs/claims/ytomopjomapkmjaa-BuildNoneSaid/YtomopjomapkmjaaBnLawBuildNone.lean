/- The row of the law. -/
import Derived.Test.YtomopjomapkmjaaRows
import Derived.Test.YtomopjomapkmjaaBnBBuildNoneW
import Derived.Test.YtomopjomapkmjaaBnOpens
import Derived.WalkKit
import Derived.ProofKit
import Derived.OpenShut
import Derived.ShutString
import Derived.ChangeOld
import Derived.Below
import Derived.SizedLaws
namespace Go.Proofs.Ytomopjomapkmjaa.buildNone
open Go.ChangeShapes Go.WideShapes Go.ChangeAt Go.RowKit Go.Proofs.YtomopjomapkmjaaW.PrintWords
open Go.ChangeMaps (open_string shut_string)
set_option linter.unusedVariables false
theorem own : ownKnob Try.prog.godebug = none := by kernel_rfl
theorem laidOut : laidOutB Try.prog = true := by kernel_rfl
set_option maxRecDepth 100000 in
set_option maxHeartbeats 2000000 in
theorem lifted (os : Os) (started : os.Started) (H : Type) (enc : TypeId × Value → H) :
    ReturnsInHanded {} Try.checked os 7 .any (Rows.buildNoneSpec.pre6 enc Try.prog Try.f7 Rows.buildNoneRow.domain false) (Rows.buildNoneSpec.post enc Try.prog Try.f7 false true false false) := by
  refine returnsInHanded_of_change_sized (C := Try.checked) own started (by kernel_rfl) Try.func7
    (ChangeSpec.witness6 (enc := enc) (C := Try.checked) false ⟨#[], #[.agg #[.int .i64 0, .int .i64 0, .int .i64 0, .int .i64 0, .int .i64 0, .int .i64 0, .int .i64 0, .int .i64 0, .slice none 0 0], .int .i64 0], []⟩ 8 (by kernel_rfl) (by kernel_rfl) (by kernel_rfl) (by kernel_rfl)) ?_
  intro W base args ds gs before hval0 hW hcnd hsz0 _
  have hsz : (DataW.weightsEach Try.prog (Try.f7.params.toList ++ Rows.buildNoneSpec.plain.varTypes Try.prog) (ds ++ gs)).all (· ≤ reachBytes) = true := hsz0
  have hval : ∀ (j : Nat) t v, Try.f7.params[j]? = some t → args[j]? = some v → Value.okWide Try.prog W .any base t v := hval0
  have hW' := hW
  obtain ⟨p, q, hA0, hV, rfl, hfz, hnd⟩ := hW
  have hA : DataW.TrodAll enc Try.prog W 0 (fun _ => true) true Try.f7.params.toList args.toList ds p := hA0
  rw [Try.params7] at hA hval hsz
  obtain ⟨v0, vs0, d0, ds0, p0, q0, hargs, rfl, rfl, h0, r0⟩ := trodAll_cons hA
  obtain ⟨v1, vs1, d1, ds1, p1, q1, rfl, rfl, rfl, h1, r1⟩ := trodAll_cons r0
  obtain ⟨rfl, rfl, rfl⟩ := trodAll_nil r1
  obtain rfl : args = #[v0, v1] := by cases args; simp_all
  obtain ⟨rfl, rfl⟩ := trodVars_none hV
  obtain ⟨cs0, rfl, _⟩ := okWide_struct Try.underlying29 (hval 0 29 v0 rfl rfl)
  have k0 := h0
  have lt0 : ∀ x ∈ p0, x.block < W.heap.size := by obtain ⟨m, hm⟩ := k0; exact DataW.trod_lt m _ _ _ hm
  obtain ⟨fuel0, hf0⟩ := h0
  obtain ⟨y0, hK0, hg0⟩ := (Opens.opens_struct Try.underlying29 (by kernel_rfl) (Opens.opens_field rfl (by kernel_rfl) (Opens.opens_int Try.underlying3) (Opens.opens_field rfl (by kernel_rfl) (Opens.opens_int Try.underlying3) (Opens.opens_field rfl (by kernel_rfl) (Opens.opens_int Try.underlying3) (Opens.opens_field rfl (by kernel_rfl) (Opens.opens_int Try.underlying3) (Opens.opens_field rfl (by kernel_rfl) (Opens.opens_int Try.underlying3) (Opens.opens_field rfl (by kernel_rfl) (Opens.opens_int Try.underlying3) (Opens.opens_field rfl (by kernel_rfl) (Opens.opens_int Try.underlying3) (Opens.opens_field rfl (by kernel_rfl) (Opens.opens_int Try.underlying3) (Opens.opens_last rfl (by kernel_rfl) (Opens.opens_slice Try.underlying22 (by kernel_rfl) (Opens.opens_int Try.underlying3)))))))))))) _ _ _ _ _ _ _ _ _ hf0
  obtain ⟨y0_0, y0_1, y0_2, y0_3, y0_4, y0_5, y0_6, y0_7, y0_8⟩ := y0
  obtain ⟨_, _, e0_0, rfl, ⟨_, _, e0_1, rfl, ⟨_, _, e0_2, rfl, ⟨_, _, e0_3, rfl, ⟨_, _, e0_4, rfl, ⟨_, _, e0_5, rfl, ⟨_, _, e0_6, rfl, ⟨_, _, e0_7, rfl, ⟨A0_8, c0_8, rfl, hl0_8, hr0_8⟩⟩⟩⟩⟩⟩⟩⟩⟩ := hK0
  have e0 : cs0 = #[.int .i64 y0_0, .int .i64 y0_1, .int .i64 y0_2, .int .i64 y0_3, .int .i64 y0_4, .int .i64 y0_5, .int .i64 y0_6, .int .i64 y0_7, .slice A0_8 y0_8.length c0_8] := by apply Array.ext'; have e_ := e0_0; (try subst e0_1); (try subst e0_2); (try subst e0_3); (try subst e0_4); (try subst e0_5); (try subst e0_6); (try subst e0_7); simpa [Value.cells, Kd.slice, Kd.int, Kd.scalar] using e_
  subst e0
  obtain ⟨a1, rfl, rfl, rfl, w1⟩ := open_int Try.underlying3 (hval 1 3 v1 rfl rfl) h1
  clear hA0 hval0 hsz0 hsz
  refine (B.balustradelaw24_BuildNone.walk y0_0 y0_1 y0_2 y0_3 y0_4 y0_5 y0_6 y0_7 A0_8 c0_8 y0_8 a1 W hr0_8 hl0_8 w1).mono fun e W' ⟨he, bel⟩ => ?_
  subst he
  exact ⟨_, rfl, _, _, _, [], _, [], hW', trodAll_mk1 (shut_bool Try.underlying4 _), (trodAll_cons_mk (Below.trod laidOut (by kernel_rfl) (of_decide_eq_true (by kernel_rfl)) k0 bel lt0) (trodAll_cons_mk (shut_int Try.underlying3 w1) trodAll_mk0)), rfl, bel.frame _, fun h => by cases h⟩
theorem over : Rows.buildNoneRow.holds Try.pinned (OpenSpec.ofChange Rows.buildNoneSpec) :=
  OpenClaim.holds_of_wide 7 Try.f7 rfl rfl rfl rfl rfl rfl rfl ⟨rfl, rfl, rfl, rfl, rfl⟩ rfl rfl rfl rfl rfl (by kernel_rfl) Try.func7 (by kernel_rfl)
    (of_decide_eq_true (by kernel_rfl)) (by unfold Func.isWrapper; first | (rw [if_pos (by decide +kernel)]; kernel_rfl) | (rw [if_neg (by decide +kernel)]; exact ⟨rfl, rfl⟩))
    (fun os started H enc _ => lifted os started H enc)
theorem proved : Rows.BuildNoneSaid := over
#print axioms proved
end Go.Proofs.Ytomopjomapkmjaa.buildNone
namespace Go.Proofs.Ytomopjomapkmjaa
theorem buildNone_holds : Rows.BuildNoneSaid := buildNone.proved
end Go.Proofs.Ytomopjomapkmjaa

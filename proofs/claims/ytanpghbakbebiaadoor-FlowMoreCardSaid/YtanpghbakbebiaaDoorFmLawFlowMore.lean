/- The row of the law. -/
import Derived.Test.YtanpghbakbebiaaDoorRows
import Derived.Test.YtanpghbakbebiaaDoorFmFlowMoreW
import Derived.Test.YtanpghbakbebiaaDoorFmOpensW
import Derived.Test.YtanpghbakbebiaaDoorCards
import Derived.Test.YtanpghbakbebiaaDoorTie
import Derived.LaidMore
import Derived.Stop.Joined
import Derived.SevenTiedAt
import Derived.Lib.LaidTab
import Derived.WalkKit
import Derived.ProofKit
import Derived.OpenShut
import Derived.ShutString
import Derived.ChangeOld
import Derived.Below
import Derived.SizedLaws
namespace Go.Proofs.YtanpghbakbebiaaDoor.flowMore
open Go.ChangeShapes Go.WideShapes Go.ChangeAt Go.RowKit Go.Proofs.YtanpghbakbebiaaDoorW.PrintWords
open Go.ChangeMaps (open_string shut_string)
set_option linter.unusedVariables false
theorem own : ownKnob Tryd.prog.godebug = none := by kernel_rfl
theorem laidOut : laidOutB Tryd.prog = true := by kernel_rfl
theorem door_met (os : Os) (args : Array Value) : laidMetH Tryd.prog Rows.flowMoreRow.laid ((World.doorLaid Tryd.prog 400 os).forCall (fun _ _ => 0) ⟨#[], args, []⟩).memory :=
  laidMetH_of_parts3 (fuel := 8) (laidMet_of_run' 8 (by kernel_rfl) (by kernel_rfl)) (by kernel_rfl) (by kernel_rfl)
theorem tabW_of {W : World} (h : laidMetH Tryd.prog Rows.flowMoreRow.laid W) : P.TabW W := by
  rw [MakeChecks.laidMetH_plain _ _ _ (by kernel_rfl)] at h
  have h1 : Lib.TabIs Tryd.prog W "math/bits.deBruijn64tab" .u8 (Lib.deBruijn64tab.map fun (n : Nat) => (n : Int)) :=
    Lib.tabIs_of_head (g := 0) (rest := []) (by kernel_rfl) (by kernel_rfl) Tryd.underlying85 Tryd.underlying5 (by kernel_rfl) (by kernel_rfl) (show laidMet Tryd.prog [("math/bits.deBruijn64tab", Lib.tabData .u8 (Lib.deBruijn64tab.map fun (n : Nat) => (n : Int)))] W from h)
  intro j hj
  have hl : (Lib.deBruijn64tab.map fun (n : Nat) => (n : Int)).length = 64 := by kernel_rfl
  have h2 := h1.cell (g := 0) (by kernel_rfl) j (by rw [hl]; exact hj)
  rw [h2]
  have hl2 : j < Lib.deBruijn64tab.length := by rw [List.length_map] at hl; omega
  simp [List.getD_eq_getElem?_getD, hl2]
set_option maxRecDepth 100000 in
set_option maxHeartbeats 2000000 in
theorem lifted (os : Os) (started : os.Started) (H : Type) (enc : TypeId × Value → H) :
    ReturnsInHanded {} Tryd.checked os 4 .any (fun w args => (Rows.flowMoreSpec.pre enc Tryd.prog Tryd.f4 [] false w args ∧ laidMetH Tryd.prog Rows.flowMoreRow.laid w) ∧ sizedMet enc Tryd.prog Tryd.f4 (OpenSpec.ofChange Rows.flowMoreSpec) false w args)
      (Rows.flowMoreSpec.post enc Tryd.prog Tryd.f4 false true false false) := by
  refine returnsInHanded_of_change_and (C := Tryd.checked) (X := fun w _ => laidMetH Tryd.prog Rows.flowMoreRow.laid w) (fun _ _ _ hh h => h.of_heap hh) own started (by kernel_rfl) Tryd.func4
    (ChangeSpec.witness_shaped (enc := enc) (C := Tryd.checked) (os := os) (X := fun w _ => laidMetH Tryd.prog Rows.flowMoreRow.laid w) false (World.doorLaid Tryd.prog 400 os) #[.agg #[.slice none 0 0, .bool false, .bool false, .int .i64 0, .slice none 0 0, .slice none 0 0, .slice none 0 0], .int .u8 0, .int .u8 0] 8 rfl (World.shaped_of_RefB (by kernel_rfl) (by kernel_rfl)) (by kernel_rfl) (by kernel_rfl) (by kernel_rfl) (door_met os _)) ?_
  intro W base args ds gs before hval0 hW hcnd hsz0 hL _
  have hT := tabW_of hL
  have hsz : (DataW.weightsEach Tryd.prog (Tryd.f4.params.toList ++ Rows.flowMoreSpec.plain.varTypes Tryd.prog) (ds ++ gs)).all (· ≤ reachBytes) = true := hsz0
  have hval : ∀ (j : Nat) t v, Tryd.f4.params[j]? = some t → args[j]? = some v → Value.okWide Tryd.prog W .any base t v := hval0
  have hW' := hW
  obtain ⟨p, q, hA0, hV, rfl, hfz, hnd⟩ := hW
  have hA : DataW.TrodAll enc Tryd.prog W 0 (fun _ => true) true Tryd.f4.params.toList args.toList ds p := hA0
  rw [Tryd.params4] at hA hval hsz
  obtain ⟨v0, vs0, d0, ds0, p0, q0, hargs, rfl, rfl, h0, r0⟩ := trodAll_cons hA
  obtain ⟨v1, vs1, d1, ds1, p1, q1, rfl, rfl, rfl, h1, r1⟩ := trodAll_cons r0
  obtain ⟨v2, vs2, d2, ds2, p2, q2, rfl, rfl, rfl, h2, r2⟩ := trodAll_cons r1
  obtain ⟨rfl, rfl, rfl⟩ := trodAll_nil r2
  obtain rfl : args = #[v0, v1, v2] := by cases args; simp_all
  obtain ⟨rfl, rfl⟩ := trodVars_none hV
  obtain ⟨cs0, rfl, _⟩ := okWide_struct Tryd.underlying25 (hval 0 25 v0 rfl rfl)
  have k0 := h0
  have lt0 : ∀ x ∈ p0, x.block < W.heap.size := by obtain ⟨m, hm⟩ := k0; exact DataW.trod_lt m _ _ _ hm
  obtain ⟨fuel0, hf0⟩ := h0
  obtain ⟨y0, hK0, hg0⟩ := (OpensW.opens_struct Tryd.underlying25 (by kernel_rfl) (OpensW.opens_field rfl (by kernel_rfl) (OpensW.opens_slice 24 Tryd.underlying22 (by kernel_rfl) (by kernel_rfl) (OpensW.opens_slice 8 Tryd.underlying23 (by kernel_rfl) (by kernel_rfl) (OpensW.opens_int Tryd.underlying3))) (OpensW.opens_field rfl (by kernel_rfl) (OpensW.opens_bool Tryd.underlying4) (OpensW.opens_field rfl (by kernel_rfl) (OpensW.opens_bool Tryd.underlying4) (OpensW.opens_field rfl (by kernel_rfl) (OpensW.opens_int Tryd.underlying3) (OpensW.opens_field rfl (by kernel_rfl) (OpensW.opens_slice 24 Tryd.underlying22 (by kernel_rfl) (by kernel_rfl) (OpensW.opens_slice 8 Tryd.underlying23 (by kernel_rfl) (by kernel_rfl) (OpensW.opens_int Tryd.underlying3))) (OpensW.opens_field rfl (by kernel_rfl) (OpensW.opens_slice 24 Tryd.underlying22 (by kernel_rfl) (by kernel_rfl) (OpensW.opens_slice 8 Tryd.underlying23 (by kernel_rfl) (by kernel_rfl) (OpensW.opens_int Tryd.underlying3))) (OpensW.opens_last rfl (by kernel_rfl) (OpensW.opens_slice 8 Tryd.underlying23 (by kernel_rfl) (by kernel_rfl) (OpensW.opens_int Tryd.underlying3)))))))))) _ _ _ _ _ _ _ _ _ hf0 (fun m hm => by have := List.all_eq_true.1 hsz m (DataW.weights_mem_each (j := 0) rfl rfl m hm); simpa using this)
  obtain ⟨y0_0, y0_1, y0_2, y0_3, y0_4, y0_5, y0_6⟩ := y0
  obtain ⟨_, _, e0_0, ⟨A0_0, c0_0, rfl, hl0_0, hr0_0⟩, ⟨_, _, e0_1, rfl, ⟨_, _, e0_2, rfl, ⟨_, _, e0_3, rfl, ⟨_, _, e0_4, ⟨A0_4, c0_4, rfl, hl0_4, hr0_4⟩, ⟨_, _, e0_5, ⟨A0_5, c0_5, rfl, hl0_5, hr0_5⟩, ⟨A0_6, c0_6, rfl, hl0_6, hr0_6⟩⟩⟩⟩⟩⟩⟩ := hK0
  have e0 : cs0 = #[.slice A0_0 y0_0.length c0_0, .bool y0_1, .bool y0_2, .int .i64 y0_3, .slice A0_4 y0_4.length c0_4, .slice A0_5 y0_5.length c0_5, .slice A0_6 y0_6.length c0_6] := by apply Array.ext'; have e_ := e0_0; (try subst e0_1); (try subst e0_2); (try subst e0_3); (try subst e0_4); (try subst e0_5); simpa [Value.cells, Kd.slice, Kd.int, Kd.scalar] using e_
  subst e0
  obtain ⟨a1, rfl, rfl, rfl, w1⟩ := open_int Tryd.underlying5 (hval 1 5 v1 rfl rfl) h1
  obtain ⟨a2, rfl, rfl, rfl, w2⟩ := open_int Tryd.underlying5 (hval 2 5 v2 rfl rfl) h2
  clear hA0 hval0 hsz0 hsz
  refine (P.balustradelaw18_FlowMore.walk A0_0 c0_0 y0_0 y0_1 y0_2 y0_3 A0_4 c0_4 y0_4 A0_5 c0_5 y0_5 A0_6 c0_6 y0_6 a1 a2 W hT hr0_0 hl0_0 hr0_4 hl0_4 hr0_5 hl0_5 hr0_6 hl0_6 hg0.2.2.2.1 (P.sz_of hg0.1 hg0.2.2.2.2.1 hg0.2.2.2.2.2.1 hg0.2.2.2.2.2.2) w1 w2).mono fun e W' ⟨he, bel⟩ => ?_
  subst he
  exact ⟨_, rfl, _, _, _, [], _, [], hW', trodAll_mk1 (shut_bool Tryd.underlying4 _), (trodAll_cons_mk (Below.trod laidOut (by kernel_rfl) (of_decide_eq_true (by kernel_rfl)) k0 bel lt0) (trodAll_cons_mk (shut_int Tryd.underlying5 w1) (trodAll_cons_mk (shut_int Tryd.underlying5 w2) trodAll_mk0))), rfl, bel.frame _, fun h => by cases h⟩
theorem over : Rows.flowMoreRow.holds Tryd.pinned (OpenSpec.ofChange Rows.flowMoreSpec) :=
  OpenClaim.holds_of_wide 4 Tryd.f4 rfl rfl rfl rfl rfl rfl rfl ⟨rfl, rfl, rfl, rfl, rfl⟩ rfl rfl rfl rfl rfl (by kernel_rfl) Tryd.func4 (by kernel_rfl)
    (of_decide_eq_true (by kernel_rfl)) (by unfold Func.isWrapper; first | (rw [if_pos (by decide +kernel)]; kernel_rfl) | (rw [if_neg (by decide +kernel)]; exact ⟨rfl, rfl⟩))
    (fun os started H enc _ => lifted os started H enc)
theorem proved : Rows.FlowMoreSaid := over
#print axioms proved
end Go.Proofs.YtanpghbakbebiaaDoor.flowMore
namespace Go.Proofs.YtanpghbakbebiaaDoor
theorem flowMore_holds : Rows.FlowMoreSaid := flowMore.proved
theorem flowMore_card : Rows.FlowMoreCardSaid :=
  Claim7.holds_tied_plain_at .later [] [.data] true (true, "7c7a1ba0842420c2a29bce6ebd71091e643fc14efd502a1b1beaf25ac9c6f060") false
    flowMore_holds (fun _ h => by cases h) (by kernel_rfl) (fun _ h => by cases h) flowMore_row_tie rfl ⟨rfl, rfl⟩ (by kernel_rfl) rfl
    (fun f fn hf hfn => by
      obtain rfl : f = 4 := Option.some.inj ((show Tryd.prog.funcNamed "balustrade/balustradelaw18.FlowMore" = some 4 by kernel_rfl).symm.trans hf) |>.symm
      obtain rfl : fn = Tryd.f4 := (Option.some.inj (Tryd.func4.symm.trans hfn)).symm
      exact ⟨by kernel_rfl, fun j t ht => by
        rw [Tryd.params4] at ht
        have hm : t ∈ Tryd.f4.params := by rw [Tryd.params4]; exact Array.mem_of_getElem? ht
        have hall : (Tryd.f4.params.toList.all fun u => !Tryd.prog.wantsStandIn u) = true := by kernel_rfl
        exact (show Tryd.prog.wantsStandIn t = false by simpa using List.all_eq_true.1 hall t (by simpa using hm))⟩)
    (by kernel_rfl)
#print axioms flowMore_card
end Go.Proofs.YtanpghbakbebiaaDoor

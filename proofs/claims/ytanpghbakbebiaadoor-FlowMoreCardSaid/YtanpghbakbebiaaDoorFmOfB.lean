/- A part of it. -/
import Derived.Test.YtanpghbakbebiaaDoorFmZ
import Derived.Test.YtanpghbakbebiaaDoorFmOfA
import Derived.Test.YtanpghbakbebiaaDoorFmP0
import Derived.Test.YtanpghbakbebiaaDoorFmP8
import Derived.Deep.AppendLies
import Derived.Outline
set_option linter.unusedVariables false
set_option linter.unusedSimpArgs false
namespace Go.Proofs.YtanpghbakbebiaaDoor.P
open Go Go.RowKit Go.Proofs.YtanpghbakbebiaaDoorW.PrintWords Go.Proofs.YtanpghbakbebiaaDoorW.PrintLast Go.Proofs.YtanpghbakbebiaaDoorW.PrintMore
def of_l : Nat → Int → List (List Int) → Int → List (List Int) → List (List Int) → Option (List (List Int) × List (List Int))
  | 0, _, _, _, _, _ => none
  | k + 1, wd, l, i, A, C => if i < (l.length : Int) then (if 0 ≤ i ∧ A.length ≤ 65536 ∧ C.length ≤ 65536 then ((balustradelaw18_inside.f k (rd_L1 l i) wd).bind fun t => ((bits_Of.f k wd t).bind fun s => of_l k wd l (wrap64 (i + 1)) (A ++ [s]) (C ++ [t]))) else none) else some (A, C)
def of_f (k : Nat) (wd : Int) (l4 l5 : List (List Int)) (l6 : List Int) : Option (List Int × List Int × (List (List Int) × List (List Int)) × (List (List Int) × List (List Int))) :=
  (balustradelaw18_inside.f k l6 wd).bind fun t => ((bits_Of.f k wd t).bind fun s => ((of_l k wd l4 0 [] []).bind fun q => ((of_l k wd l5 0 [] []).bind fun r => some (t, s, q, r))))
theorem blk_new2 (w : World) (o o' o2 : Obj) : (((w.alloc o).alloc o').alloc o2).heap[w.heap.size + 2]? = some o2 := by simpa using blk_new ((w.alloc o).alloc o') o2
theorem infos : (Tryd.prog.info? 30).map (fun i => (i.zero, i.size, i.bytes)) = some (some (.slice none 0 0), 1, 24) := by kernel_rfl
theorem infoi : (Tryd.prog.info? 23).map (fun i => (i.zero, i.size, i.bytes)) = some (some (.slice none 0 0), 1, 24) := by kernel_rfl
set_option maxHeartbeats 32000000 in
set_option maxRecDepth 100000 in
theorem of_at (D : RD) (k : Nat) (t s : List Int) (A C B E : List (List Int)) (w : World) (hD : D.Ok w) (h : of_f k D.wd D.l4 D.l5 D.l6 = some (t, s, (A, C), (B, E))) :
    Calls Tryd.prog 8 #[.agg #[.slice D.A0 D.l0.length D.c0, .bool D.bk, .bool D.al, .int .i64 D.wd, .slice D.A4 D.l4.length D.c4, .slice D.A5 D.l5.length D.c5, .slice D.A6 D.l6.length D.c6]] w fun e w' => ∃ f va vb vs vc vd vt, e = .returned (.tuple #[.agg #[.slice D.A0 D.l0.length D.c0, .bool D.bk, .bool D.al, .int .i64 D.wd, va, vb, vs], .agg #[.slice D.A0 D.l0.length D.c0, .bool D.bk, .bool D.al, .int .i64 D.wd, vc, vd, vt]]) ∧ ORows w D f ⟨va, vb, vs, vc, vd, vt, A, B, s, C, E, t⟩ w' := by
  have HD := Aside0.mk hD
  have hu25 := Tryd.underlying25
  have hu32 := Tryd.underlying32
  unfold of_f at h
  obtain ⟨t_, hI, h⟩ := Option.bind_eq_some_iff.mp h
  obtain ⟨s_, hO, h⟩ := Option.bind_eq_some_iff.mp h
  obtain ⟨⟨A_, C_⟩, h4, h⟩ := Option.bind_eq_some_iff.mp h
  obtain ⟨⟨B_, E_⟩, h5, h⟩ := Option.bind_eq_some_iff.mp h
  injection Option.some.inj h with e1 h
  injection h with e2 h
  injection h with e3 e4
  injection e3 with e3 e5
  injection e4 with e4 e6
  replace e1 := e1.symm; replace e2 := e2.symm; replace e3 := e3.symm; replace e4 := e4.symm; replace e5 := e5.symm; replace e6 := e6.symm
  subst e1 e2 e3 e4 e5 e6
  have HI := Aside0.mk hI
  have HO := Aside0.mk hO
  have H4 := Aside0.mk h4
  have H5 := Aside0.mk h5
  clear hI hO h4 h5
  have HP0 : Aside0 (OPre w D (((w.alloc (.cells #[.slice D.A0 D.l0.length D.c0, .bool D.bk, .bool D.al, .int .i64 D.wd, .slice D.A4 D.l4.length D.c4, .slice D.A5 D.l5.length D.c5, .slice D.A6 D.l6.length D.c6] 25)).alloc (.cells #[.slice none 0 0, .bool false, .bool false, .int .i64 0, .slice none 0 0, .slice none 0 0, .slice none 0 0] 32)).alloc (.cells #[.slice none 0 0, .bool false, .bool false, .int .i64 0, .slice none 0 0, .slice none 0 0, .slice none 0 0] 25))) := ⟨⟨below_alloc (below_alloc (below_alloc (Below.refl _ _) _) _) _, hD, blk_alloc (blk_alloc (blk_new _ _) _) _, blk_alloc (blk_new1 _ _ _) _, blk_new2 _ _ _ _⟩⟩
  clear hD
  go_enter Tryd.func8, Tryd.ntmps8
  go_upto_region 1 with (fail)
  generalize World.alloc (World.alloc (World.alloc _ _) _) _ = W at *
  have HS := Aside0.mk (OPre.below HP0.out (below_drew (Below.refl _ _)))
  clear HP0
  refine start_ (n := 19) (S := fun w' => w'.cell? ⟨w.heap.size, 0, none⟩ = some (.slice D.A0 D.l0.length D.c0) ∧ w'.cell? ⟨w.heap.size, 1, none⟩ = some (.bool D.bk) ∧ w'.cell? ⟨w.heap.size, 2, none⟩ = some (.bool D.al) ∧ w'.cell? ⟨w.heap.size, 3, none⟩ = some (.int .i64 D.wd) ∧ w'.cell? ⟨w.heap.size, 4, none⟩ = some (.slice D.A4 D.l4.length D.c4) ∧ w'.cell? ⟨w.heap.size, 5, none⟩ = some (.slice D.A5 D.l5.length D.c5) ∧ w'.cell? ⟨w.heap.size, 6, none⟩ = some (.slice D.A6 D.l6.length D.c6)) (ds := [18]) #[false, false, false, false, false, false, false, false, false, false, false, false, false, false, false, false, false, false, false] (by kernel_rfl) rfl rfl ⟨((blk_cell HS.out.p 0).trans rfl), ((blk_cell HS.out.p 1).trans rfl), ((blk_cell HS.out.p 2).trans rfl), ((blk_cell HS.out.p 3).trans rfl), ((blk_cell HS.out.p 4).trans rfl), ((blk_cell HS.out.p 5).trans rfl), ((blk_cell HS.out.p 6).trans rfl)⟩ (fun hHeld => ?_)
  refine pT 0 (some 8) (zb 19 1) (h := ?_)
  refine pT 2 (some 10) (zb 19 5) (h := ?_)
  refine pT 4 (some 12) (zb 19 21) (h := ?_)
  refine pT 6 (some 14) (zb 19 85) (h := ?_)
  refine pT 8 (some 16) (zb 19 341) (h := ?_)
  refine pT 10 (some 18) (zb 19 1365) (h := ?_)
  refine pT 12 (some 20) (zb 19 5461) (h := ?_)
  refine tT 1 (some 9) (zb 19 5463) hHeld (h := ?_)
  refine tT 3 (some 11) (zb 19 5471) hHeld (h := ?_)
  refine tT 5 (some 13) (zb 19 5503) hHeld (h := ?_)
  refine tT 7 (some 15) (zb 19 5631) hHeld (h := ?_)
  refine tT 9 (some 17) (zb 19 6143) hHeld (h := ?_)
  refine tT 11 (some 19) (zb 19 8191) hHeld (h := ?_)
  refine tT 13 (some 21) (zb 19 16383) hHeld (h := ?_)
  refine join_ (σ := Value × Value × Nat) 1 (zb 19 262143) (fun s_ => [(22, s_.1), (23, s_.2.1), (4, .pointer (some ⟨s_.2.2, 0, none⟩)), (24, .agg #[.slice D.A0 D.l0.length D.c0, .bool D.bk, .bool D.al, .int .i64 D.wd, .slice none 0 0, .slice none 0 0, s_.2.1])]) (fun s_ w' => (w'.cell? ⟨w.heap.size, 0, none⟩ = some (.slice D.A0 D.l0.length D.c0) ∧ w'.cell? ⟨w.heap.size, 1, none⟩ = some (.bool D.bk) ∧ w'.cell? ⟨w.heap.size, 2, none⟩ = some (.bool D.al) ∧ w'.cell? ⟨w.heap.size, 3, none⟩ = some (.int .i64 D.wd) ∧ w'.cell? ⟨w.heap.size, 4, none⟩ = some (.slice D.A4 D.l4.length D.c4) ∧ w'.cell? ⟨w.heap.size, 5, none⟩ = some (.slice D.A5 D.l5.length D.c5) ∧ w'.cell? ⟨w.heap.size, 6, none⟩ = some (.slice D.A6 D.l6.length D.c6)) ∧ OPre w D w' ∧ w'.heap[s_.2.2]? = some (.cells #[.slice none 0 0, .bool false, .bool false, .int .i64 0, .slice none 0 0, .slice none 0 0, .slice none 0 0] 32 (0, 0)) ∧ Kd.R (Kd.int .u64) 72 w' w.heap.size (fun k => k ≠ s_.2.2 ∧ w.heap.size + 2 < k) s_.2.1 s ∧ w.heap.size + 2 < s_.2.2) ?_ ?_
  rotate_left
  · intro hCont
    refine two_ (i := 14) (j := 17) (Ni := some 22) (Nj := some 4) (zb 19 32767) (zb 19 147455) rfl rfl rfl rfl (by kernel_rfl) (by decide) (by decide) (fun K hK => ?_) (fun K hK => ?_)
    · skip
      refine goes_ Tryd.func25 (by kernel_rfl) rfl #[.slice D.A6 (D.l6).length D.c6, .int .i64 D.wd] (by rfl) rfl rfl (by simp only [List.map_toArray, List.map_cons, List.map_nil]; rfl) ?_
      with_reducible refine (balustradelaw18_inside.calls k D.A6 D.c6 (D.l6) D.wd t _ (OPre.ok HS.out).r6 HD.out.c6 HI.out).mono ?_
      rintro e w5 ⟨vi, rfl, ho, hb⟩
      refine ⟨_, rfl, ?_⟩
      have HS9 := Aside0.mk (OPre.below HS.out hb)
      have HV1 := Aside0.mk (show _ ∧ True from ⟨ho, trivial⟩)
      clear HS
      have HS := HS9
      clear HS9
      obtain ⟨Ai, ci, rfl⟩ := Kd.R_slice ho
      clear ho hb
      refine hK.out _ _ ⟨((blk_cell HS.out.p 0).trans rfl), ((blk_cell HS.out.p 1).trans rfl), ((blk_cell HS.out.p 2).trans rfl), ((blk_cell HS.out.p 3).trans rfl), ((blk_cell HS.out.p 4).trans rfl), ((blk_cell HS.out.p 5).trans rfl), ((blk_cell HS.out.p 6).trans rfl)⟩ (fun hHeld => ?_)
      clear hK K
      refine nN (some 22) (h := ?_)
      refine two_ (i := 15) (j := 17) (Ni := some 23) (Nj := some 4) (zb 19 65535) (zb 19 163839) rfl rfl rfl rfl (by kernel_rfl) (by decide) (by decide) (fun K hK => ?_) (fun K hK => ?_)
      · skip
        have HZ := Aside0.mk (blk_lt HS.out.z2)
        refine goes_ Tryd.func16 (by kernel_rfl) rfl #[.int .i64 D.wd, .slice Ai t.length ci] (by rfl) rfl rfl (by simp only [List.map_toArray, List.map_cons, List.map_nil]; rfl) ?_
        with_reducible refine (bits_Of.calls k D.wd Ai ci t s _ (Kd.R_reads' HV1.out.1).2.2 (Kd.R_reads' HV1.out.1).2.1 HO.out).mono ?_
        rintro e w6 ⟨vs, rfl, ho, hb⟩
        refine ⟨_, rfl, ?_⟩
        obtain ⟨As, cs, rfl⟩ := Kd.R_slice ho
        have HS9 := Aside0.mk (OPre.below HS.out hb)
        have HV := Aside0.mk (Kd.R_lower (Kd.R_mono (Kd.R_bound ho) (ok' := fun k => k < w6.heap.size ∧ w.heap.size + 2 < k) (fun k hk => by have h1_ := hk.2.1; have h4_ := hk.2.2.1; have h2_ := HZ.out; exact ⟨by omega, by omega⟩)) (base' := w.heap.size) (by have := HZ.out; omega))
        clear HS
        have HS := HS9
        clear HS9
        clear ho hb
        refine hK.out _ _ ⟨((blk_cell HS.out.p 0).trans rfl), ((blk_cell HS.out.p 1).trans rfl), ((blk_cell HS.out.p 2).trans rfl), ((blk_cell HS.out.p 3).trans rfl), ((blk_cell HS.out.p 4).trans rfl), ((blk_cell HS.out.p 5).trans rfl), ((blk_cell HS.out.p 6).trans rfl)⟩ (fun hHeld => ?_)
        clear hK K
        refine nN (some 23) (h := ?_)
        refine pT 16 (some 24) (zb 19 131071) (h := ?_)
        refine one_ (i := 17) (N := some 4) (zb 19 262143) rfl rfl (by kernel_rfl) (by decide) (fun K hK => ?_)
        have HZ0 := Aside0.mk (blk_lt HS.out.z2)
        refine box_step ?hg (N := 4) ?hd (cs := #[.slice none 0 0, .bool false, .bool false, .int .i64 0, .slice none 0 0, .slice none 0 0, .slice none 0 0]) (t := 32) ?hr ?_; (case hd => rfl); (case hg => rfl); (case hr => first | (go_simp; done) | (go_simp; rfl))
        intro g1 hg w10 hbox hbA
        have HS9 := Aside0.mk (OPre.below HS.out hbA)
        have HG := Aside0.mk hbox
        have HG1 : Aside0 (w.heap.size + 2 < g1) := ⟨by have := HZ0.out; omega⟩
        have HV9 : Aside0 (Kd.R (Kd.int .u64) 72 w10 w.heap.size (fun k => k ≠ g1 ∧ w.heap.size + 2 < k) (.slice As s.length cs) s) := ⟨Kd.R_below (Kd.R_mono HV.out (fun k hk => ⟨by have := hk.1; omega, hk.2⟩)) hbA⟩
        clear HV
        have HV := HV9
        clear HV9
        clear HS
        have HS := HS9
        clear HS9
        clear hbox HZ0
        refine hK.out _ _ ⟨((blk_cell HS.out.p 0).trans rfl), ((blk_cell HS.out.p 1).trans rfl), ((blk_cell HS.out.p 2).trans rfl), ((blk_cell HS.out.p 3).trans rfl), ((blk_cell HS.out.p 4).trans rfl), ((blk_cell HS.out.p 5).trans rfl), ((blk_cell HS.out.p 6).trans rfl)⟩ (fun hHeld => ?_)
        clear hK K
        refine nN (some 4) (h := ?_)
        exact norm_ (by simp only [putAll, Act.put, List.setIfInBounds_toArray, List.set_cons_zero, List.set_cons_succ]) (hCont (.slice Ai t.length ci, .slice As s.length cs, g1) _ ⟨hHeld, HS.out, HG.out, HV.out, HG1.out⟩)
      · skip
        have HZ0 := Aside0.mk (blk_lt HS.out.z2)
        refine box_step ?hg (N := 4) ?hd (cs := #[.slice none 0 0, .bool false, .bool false, .int .i64 0, .slice none 0 0, .slice none 0 0, .slice none 0 0]) (t := 32) ?hr ?_; (case hd => rfl); (case hg => rfl); (case hr => first | (go_simp; done) | (go_simp; rfl))
        intro g1 hg w10 hbox hbA
        have HS9 := Aside0.mk (OPre.below HS.out hbA)
        have HG := Aside0.mk hbox
        have HG1 : Aside0 (w.heap.size + 2 < g1) := ⟨by have := HZ0.out; omega⟩
        clear HS
        have HS := HS9
        clear HS9
        clear hbox HZ0
        refine hK.out _ _ ⟨((blk_cell HS.out.p 0).trans rfl), ((blk_cell HS.out.p 1).trans rfl), ((blk_cell HS.out.p 2).trans rfl), ((blk_cell HS.out.p 3).trans rfl), ((blk_cell HS.out.p 4).trans rfl), ((blk_cell HS.out.p 5).trans rfl), ((blk_cell HS.out.p 6).trans rfl)⟩ (fun hHeld => ?_)
        clear hK K
        refine nN (some 4) (h := ?_)
        refine one_ (i := 15) (N := some 23) (zb 19 196607) rfl rfl (by kernel_rfl) (by decide) (fun K hK => ?_)
        have HZ := Aside0.mk (blk_lt HS.out.z2)
        have HGZ := Aside0.mk (blk_lt HG.out)
        refine goes_ Tryd.func16 (by kernel_rfl) rfl #[.int .i64 D.wd, .slice Ai t.length ci] (by rfl) rfl rfl (by simp only [List.map_toArray, List.map_cons, List.map_nil]; rfl) ?_
        with_reducible refine (bits_Of.calls k D.wd Ai ci t s _ (Kd.C_below (Kd.R_reads' HV1.out.1).2.2 (by repeat (first | exact Below.refl _ _ | exact hbA))) (Kd.R_reads' HV1.out.1).2.1 HO.out).mono ?_
        rintro e w6 ⟨vs, rfl, ho, hb⟩
        refine ⟨_, rfl, ?_⟩
        obtain ⟨As, cs, rfl⟩ := Kd.R_slice ho
        have HS9 := Aside0.mk (OPre.below HS.out hb)
        have HG9 := Aside0.mk (blk_below HG.out hb)
        have HV := Aside0.mk (Kd.R_lower (Kd.R_mono (Kd.R_bound ho) (ok' := fun k => k ≠ g1 ∧ w.heap.size + 2 < k) (fun k hk => by have h1_ := hk.2.1; have h2_ := HZ.out; have h3_ := HGZ.out; exact ⟨by omega, by omega⟩)) (base' := w.heap.size) (by have := HZ.out; omega))
        clear HG
        have HG := HG9
        clear HG9
        clear HS
        have HS := HS9
        clear HS9
        clear ho hb
        refine hK.out _ _ ⟨((blk_cell HS.out.p 0).trans rfl), ((blk_cell HS.out.p 1).trans rfl), ((blk_cell HS.out.p 2).trans rfl), ((blk_cell HS.out.p 3).trans rfl), ((blk_cell HS.out.p 4).trans rfl), ((blk_cell HS.out.p 5).trans rfl), ((blk_cell HS.out.p 6).trans rfl)⟩ (fun hHeld => ?_)
        clear hK K
        refine nN (some 23) (h := ?_)
        refine pT 16 (some 24) (zb 19 262143) (h := ?_)
        exact norm_ (by simp only [putAll, Act.put, List.setIfInBounds_toArray, List.set_cons_zero, List.set_cons_succ]) (hCont (.slice Ai t.length ci, .slice As s.length cs, g1) _ ⟨hHeld, HS.out, HG.out, HV.out, HG1.out⟩)
    · skip
      have HZ0 := Aside0.mk (blk_lt HS.out.z2)
      refine box_step ?hg (N := 4) ?hd (cs := #[.slice none 0 0, .bool false, .bool false, .int .i64 0, .slice none 0 0, .slice none 0 0, .slice none 0 0]) (t := 32) ?hr ?_; (case hd => rfl); (case hg => rfl); (case hr => first | (go_simp; done) | (go_simp; rfl))
      intro g1 hg w10 hbox hbA
      have HS9 := Aside0.mk (OPre.below HS.out hbA)
      have HG := Aside0.mk hbox
      have HG1 : Aside0 (w.heap.size + 2 < g1) := ⟨by have := HZ0.out; omega⟩
      clear HS
      have HS := HS9
      clear HS9
      clear hbox HZ0
      refine hK.out _ _ ⟨((blk_cell HS.out.p 0).trans rfl), ((blk_cell HS.out.p 1).trans rfl), ((blk_cell HS.out.p 2).trans rfl), ((blk_cell HS.out.p 3).trans rfl), ((blk_cell HS.out.p 4).trans rfl), ((blk_cell HS.out.p 5).trans rfl), ((blk_cell HS.out.p 6).trans rfl)⟩ (fun hHeld => ?_)
      clear hK K
      refine nN (some 4) (h := ?_)
      refine one_ (i := 14) (N := some 22) (zb 19 163839) rfl rfl (by kernel_rfl) (by decide) (fun K hK => ?_)
      refine goes_ Tryd.func25 (by kernel_rfl) rfl #[.slice D.A6 (D.l6).length D.c6, .int .i64 D.wd] (by rfl) rfl rfl (by simp only [List.map_toArray, List.map_cons, List.map_nil]; rfl) ?_
      with_reducible refine (balustradelaw18_inside.calls k D.A6 D.c6 (D.l6) D.wd t _ (OPre.ok HS.out).r6 HD.out.c6 HI.out).mono ?_
      rintro e w5 ⟨vi, rfl, ho, hb⟩
      refine ⟨_, rfl, ?_⟩
      have HS9 := Aside0.mk (OPre.below HS.out hb)
      have HV1 := Aside0.mk (show _ ∧ True from ⟨ho, trivial⟩)
      have HG9 := Aside0.mk (blk_below HG.out hb)
      clear HG
      have HG := HG9
      clear HG9
      clear HS
      have HS := HS9
      clear HS9
      obtain ⟨Ai, ci, rfl⟩ := Kd.R_slice ho
      clear ho hb
      refine hK.out _ _ ⟨((blk_cell HS.out.p 0).trans rfl), ((blk_cell HS.out.p 1).trans rfl), ((blk_cell HS.out.p 2).trans rfl), ((blk_cell HS.out.p 3).trans rfl), ((blk_cell HS.out.p 4).trans rfl), ((blk_cell HS.out.p 5).trans rfl), ((blk_cell HS.out.p 6).trans rfl)⟩ (fun hHeld => ?_)
      clear hK K
      refine nN (some 22) (h := ?_)
      refine one_ (i := 15) (N := some 23) (zb 19 196607) rfl rfl (by kernel_rfl) (by decide) (fun K hK => ?_)
      have HZ := Aside0.mk (blk_lt HS.out.z2)
      have HGZ := Aside0.mk (blk_lt HG.out)
      refine goes_ Tryd.func16 (by kernel_rfl) rfl #[.int .i64 D.wd, .slice Ai t.length ci] (by rfl) rfl rfl (by simp only [List.map_toArray, List.map_cons, List.map_nil]; rfl) ?_
      with_reducible refine (bits_Of.calls k D.wd Ai ci t s _ (Kd.R_reads' HV1.out.1).2.2 (Kd.R_reads' HV1.out.1).2.1 HO.out).mono ?_
      rintro e w6 ⟨vs, rfl, ho, hb⟩
      refine ⟨_, rfl, ?_⟩
      obtain ⟨As, cs, rfl⟩ := Kd.R_slice ho
      have HS9 := Aside0.mk (OPre.below HS.out hb)
      have HG9 := Aside0.mk (blk_below HG.out hb)
      have HV := Aside0.mk (Kd.R_lower (Kd.R_mono (Kd.R_bound ho) (ok' := fun k => k ≠ g1 ∧ w.heap.size + 2 < k) (fun k hk => by have h1_ := hk.2.1; have h2_ := HZ.out; have h3_ := HGZ.out; exact ⟨by omega, by omega⟩)) (base' := w.heap.size) (by have := HZ.out; omega))
      clear HG
      have HG := HG9
      clear HG9
      clear HS
      have HS := HS9
      clear HS9
      clear ho hb
      refine hK.out _ _ ⟨((blk_cell HS.out.p 0).trans rfl), ((blk_cell HS.out.p 1).trans rfl), ((blk_cell HS.out.p 2).trans rfl), ((blk_cell HS.out.p 3).trans rfl), ((blk_cell HS.out.p 4).trans rfl), ((blk_cell HS.out.p 5).trans rfl), ((blk_cell HS.out.p 6).trans rfl)⟩ (fun hHeld => ?_)
      clear hK K
      refine nN (some 23) (h := ?_)
      refine pT 16 (some 24) (zb 19 262143) (h := ?_)
      exact norm_ (by simp only [putAll, Act.put, List.setIfInBounds_toArray, List.set_cons_zero, List.set_cons_succ]) (hCont (.slice Ai t.length ci, .slice As s.length cs, g1) _ ⟨hHeld, HS.out, HG.out, HV.out, HG1.out⟩)
  rintro ⟨vi, vs, g1⟩ w1 ⟨hS_, h0_, h1_, h2_, h3_⟩
  have hHeld := hS_
  dsimp only at h1_ h2_ h3_
  obtain ⟨As, cs, rfl⟩ := Kd.R_slice h2_
  clear HS
  have HS := Aside0.mk h0_
  have HG := Aside0.mk h1_
  have HV := Aside0.mk h2_
  have HG1 := Aside0.mk h3_
  clear h0_ h1_ h2_ h3_ hS_
  refine norm_ (a' := ?_) ?_ ?_
  rotate_left
  · simp only [putAll, Act.put, List.setIfInBounds_toArray, List.set_cons_zero, List.set_cons_succ]
    rfl
  refine last_ (i := 18) (N := none) (zb 19 524287) rfl rfl (by kernel_rfl) (by decide) (fun K hK => ?_)
  obtain ⟨hs0, hs1, hs2, hs3, hs4, hs5, hs6⟩ := zc7 HG.out
  obtain ⟨hf0, hf1, hf2, hf3, hf4, hf5, hf6⟩ := zf7 HG.out
  refine skip_ (w1 := ?_) (by rfl) rfl ?_ ?_
  rotate_left
  · go_simp
    rfl
  refine hK.out _ _ ?_
  clear hK K
  refine done_ (by kernel_rfl) ?_
  have HS9 := Aside0.mk (O1.of HS.out HG1.out HG.out HV.out)
  clear HS HG HV HG1 hHeld hs0 hs1 hs2 hs3 hs4 hs5 hs6 hf0 hf1 hf2 hf3 hf4 hf5 hf6
  have HS := HS9
  clear HS9
  unfold put7 at HS
  go_upto_region 2 with (fail)
  generalize World.setCell _ _ _ = W8 at *
  have HS8 := HS
  have HS9 := Aside0.mk (O1.below HS.out (below_drew (Below.refl _ _)))
  have HKB := Aside0.mk (below_drew (Below.refl W8.heap.size W8))
  clear HS
  have HS := HS9
  clear HS9
  refine start_ (n := 16) (S := fun w' => w'.cell? ⟨w.heap.size, 0, none⟩ = some (.slice D.A0 D.l0.length D.c0) ∧ w'.cell? ⟨w.heap.size, 1, none⟩ = some (.bool D.bk) ∧ w'.cell? ⟨w.heap.size, 2, none⟩ = some (.bool D.al) ∧ w'.cell? ⟨w.heap.size, 3, none⟩ = some (.int .i64 D.wd) ∧ w'.cell? ⟨w.heap.size, 4, none⟩ = some (.slice D.A4 D.l4.length D.c4) ∧ w'.cell? ⟨w.heap.size, 5, none⟩ = some (.slice D.A5 D.l5.length D.c5) ∧ w'.cell? ⟨w.heap.size, 6, none⟩ = some (.slice D.A6 D.l6.length D.c6)) (ds := [15]) #[false, false, false, false, false, false, false, false, false, false, false, false, false, false, false, false] (by kernel_rfl) rfl rfl ⟨((blk_cell HS.out.P.p 0).trans rfl), ((blk_cell HS.out.P.p 1).trans rfl), ((blk_cell HS.out.P.p 2).trans rfl), ((blk_cell HS.out.P.p 3).trans rfl), ((blk_cell HS.out.P.p 4).trans rfl), ((blk_cell HS.out.P.p 5).trans rfl), ((blk_cell HS.out.P.p 6).trans rfl)⟩ (fun hHeld => ?_)
  refine pT 0 (some 25) (zb 16 1) (h := ?_)
  refine pT 2 (some 27) (zb 16 5) (h := ?_)
  refine pT 4 (some 29) (zb 16 21) (h := ?_)
  refine pT 6 (some 31) (zb 16 85) (h := ?_)
  refine pT 8 (some 33) (zb 16 341) (h := ?_)
  refine pT 10 (some 35) (zb 16 1365) (h := ?_)
  refine tT 1 (some 26) (zb 16 1367) hHeld (h := ?_)
  refine tT 3 (some 28) (zb 16 1375) hHeld (h := ?_)
  refine tT 5 (some 30) (zb 16 1407) hHeld (h := ?_)
  refine tT 7 (some 32) (zb 16 1535) hHeld (h := ?_)
  refine tT 9 (some 34) (zb 16 2047) hHeld (h := ?_)
  refine tT 11 (some 36) (zb 16 4095) hHeld (h := ?_)
  refine join_ (σ := Value × Nat) 1 (zb 16 32767) (fun s_ => [(37, s_.1), (5, .pointer (some ⟨s_.2, 0, none⟩)), (38, .agg #[.slice D.A0 D.l0.length D.c0, .bool D.bk, .bool D.al, .int .i64 D.wd, .slice none 0 0, .slice none 0 0, s_.1])]) (fun s_ w' => (w'.cell? ⟨w.heap.size, 0, none⟩ = some (.slice D.A0 D.l0.length D.c0) ∧ w'.cell? ⟨w.heap.size, 1, none⟩ = some (.bool D.bk) ∧ w'.cell? ⟨w.heap.size, 2, none⟩ = some (.bool D.al) ∧ w'.cell? ⟨w.heap.size, 3, none⟩ = some (.int .i64 D.wd) ∧ w'.cell? ⟨w.heap.size, 4, none⟩ = some (.slice D.A4 D.l4.length D.c4) ∧ w'.cell? ⟨w.heap.size, 5, none⟩ = some (.slice D.A5 D.l5.length D.c5) ∧ w'.cell? ⟨w.heap.size, 6, none⟩ = some (.slice D.A6 D.l6.length D.c6)) ∧ O1 w D g1 (.slice As s.length cs) s w' ∧ w'.heap[s_.2]? = some (.cells #[.slice none 0 0, .bool false, .bool false, .int .i64 0, .slice none 0 0, .slice none 0 0, .slice none 0 0] 25 (0, 0)) ∧ Kd.R (Kd.int .i64) 3 w' w.heap.size (fun k => k ≠ s_.2 ∧ W8.heap.size ≤ k) s_.1 t ∧ W8.heap.size ≤ s_.2 ∧ Below W8.heap.size W8 w') ?_ ?_
  rotate_left
  · intro hCont
    refine two_ (i := 12) (j := 14) (Ni := some 37) (Nj := some 5) (zb 16 8191) (zb 16 20479) rfl rfl rfl rfl (by kernel_rfl) (by decide) (by decide) (fun K hK => ?_) (fun K hK => ?_)
    · skip
      have HZ := Aside0.mk (Aside0.mk (blk_lt HS.out.q))
      refine goes_ Tryd.func25 (by kernel_rfl) rfl #[.slice D.A6 (D.l6).length D.c6, .int .i64 D.wd] (by rfl) rfl rfl (by simp only [List.map_toArray, List.map_cons, List.map_nil]; rfl) ?_
      with_reducible refine (balustradelaw18_inside.calls k D.A6 D.c6 (D.l6) D.wd t _ (OPre.ok (O1.P HS.out)).r6 HD.out.c6 HI.out).mono ?_
      rintro e w5 ⟨vt, rfl, ho, hb⟩
      refine ⟨_, rfl, ?_⟩
      obtain ⟨At, ct, rfl⟩ := Kd.R_slice ho
      have HS9 := Aside0.mk (O1.below HS.out hb)
      have HK9 := Aside0.mk (below_step HKB.out hb)
      have HV := Aside0.mk (Kd.R_lower (Kd.R_mono (Kd.R_bound ho) (ok' := fun k => k < w5.heap.size ∧ W8.heap.size ≤ k) (fun k hk => by have h1_ := hk.2.1; have h4_ := hk.2.2.1; have h5_ := HKB.out.size; exact ⟨by omega, by omega⟩)) (base' := w.heap.size) (by have := HKB.out.size; have := HS8.out.P.Bl.size; omega))
      clear HKB
      have HKB := HK9
      clear HK9
      clear HS
      have HS := HS9
      clear HS9
      clear ho hb HZ
      refine hK.out _ _ ⟨((blk_cell HS.out.P.p 0).trans rfl), ((blk_cell HS.out.P.p 1).trans rfl), ((blk_cell HS.out.P.p 2).trans rfl), ((blk_cell HS.out.P.p 3).trans rfl), ((blk_cell HS.out.P.p 4).trans rfl), ((blk_cell HS.out.P.p 5).trans rfl), ((blk_cell HS.out.P.p 6).trans rfl)⟩ (fun hHeld => ?_)
      clear hK K
      refine nN (some 37) (h := ?_)
      refine pT 13 (some 38) (zb 16 16383) (h := ?_)
      refine one_ (i := 14) (N := some 5) (zb 16 32767) rfl rfl (by kernel_rfl) (by decide) (fun K hK => ?_)
      have HZ0 := Aside0.mk HKB.out.size
      refine box_step ?hg (N := 5) ?hd (cs := #[.slice none 0 0, .bool false, .bool false, .int .i64 0, .slice none 0 0, .slice none 0 0, .slice none 0 0]) (t := 25) ?hr ?_; (case hd => rfl); (case hg => rfl); (case hr => first | (go_simp; done) | (go_simp; rfl))
      intro g2 hg w10 hbox hbA
      have HS9 := Aside0.mk (O1.below HS.out hbA)
      have HG := Aside0.mk hbox
      have HK9 := Aside0.mk (below_step HKB.out hbA)
      have HG1 : Aside0 (W8.heap.size ≤ g2) := ⟨by have := HZ0.out; omega⟩
      have HV9 : Aside0 (Kd.R (Kd.int .i64) 3 w10 w.heap.size (fun k => k ≠ g2 ∧ W8.heap.size ≤ k) (.slice At t.length ct) t) := ⟨Kd.R_below (Kd.R_mono HV.out (fun k hk => ⟨by have := hk.1; omega, hk.2⟩)) hbA⟩
      clear HV
      have HV := HV9
      clear HV9
      clear HS HKB
      have HS := HS9
      clear HS9
      have HKB := HK9
      clear HK9
      clear hbox HZ0
      refine hK.out _ _ ⟨((blk_cell HS.out.P.p 0).trans rfl), ((blk_cell HS.out.P.p 1).trans rfl), ((blk_cell HS.out.P.p 2).trans rfl), ((blk_cell HS.out.P.p 3).trans rfl), ((blk_cell HS.out.P.p 4).trans rfl), ((blk_cell HS.out.P.p 5).trans rfl), ((blk_cell HS.out.P.p 6).trans rfl)⟩ (fun hHeld => ?_)
      clear hK K
      refine nN (some 5) (h := ?_)
      exact norm_ (by simp only [putAll, Act.put, List.setIfInBounds_toArray, List.set_cons_zero, List.set_cons_succ]) (hCont (.slice At t.length ct, g2) _ ⟨hHeld, HS.out, HG.out, HV.out, HG1.out, HKB.out⟩)
    · skip
      have HZ0 := Aside0.mk HKB.out.size
      refine box_step ?hg (N := 5) ?hd (cs := #[.slice none 0 0, .bool false, .bool false, .int .i64 0, .slice none 0 0, .slice none 0 0, .slice none 0 0]) (t := 25) ?hr ?_; (case hd => rfl); (case hg => rfl); (case hr => first | (go_simp; done) | (go_simp; rfl))
      intro g2 hg w10 hbox hbA
      have HS9 := Aside0.mk (O1.below HS.out hbA)
      have HG := Aside0.mk hbox
      have HK9 := Aside0.mk (below_step HKB.out hbA)
      have HG1 : Aside0 (W8.heap.size ≤ g2) := ⟨by have := HZ0.out; omega⟩
      clear HS HKB
      have HS := HS9
      clear HS9
      have HKB := HK9
      clear HK9
      clear hbox HZ0
      refine hK.out _ _ ⟨((blk_cell HS.out.P.p 0).trans rfl), ((blk_cell HS.out.P.p 1).trans rfl), ((blk_cell HS.out.P.p 2).trans rfl), ((blk_cell HS.out.P.p 3).trans rfl), ((blk_cell HS.out.P.p 4).trans rfl), ((blk_cell HS.out.P.p 5).trans rfl), ((blk_cell HS.out.P.p 6).trans rfl)⟩ (fun hHeld => ?_)
      clear hK K
      refine nN (some 5) (h := ?_)
      refine one_ (i := 12) (N := some 37) (zb 16 24575) rfl rfl (by kernel_rfl) (by decide) (fun K hK => ?_)
      have HZ := Aside0.mk (Aside0.mk (blk_lt HS.out.q))
      have HGZ := Aside0.mk (blk_lt HG.out)
      refine goes_ Tryd.func25 (by kernel_rfl) rfl #[.slice D.A6 (D.l6).length D.c6, .int .i64 D.wd] (by rfl) rfl rfl (by simp only [List.map_toArray, List.map_cons, List.map_nil]; rfl) ?_
      with_reducible refine (balustradelaw18_inside.calls k D.A6 D.c6 (D.l6) D.wd t _ (OPre.ok (O1.P HS.out)).r6 HD.out.c6 HI.out).mono ?_
      rintro e w5 ⟨vt, rfl, ho, hb⟩
      refine ⟨_, rfl, ?_⟩
      obtain ⟨At, ct, rfl⟩ := Kd.R_slice ho
      have HS9 := Aside0.mk (O1.below HS.out hb)
      have HG9 := Aside0.mk (blk_below HG.out hb)
      have HK9 := Aside0.mk (below_step HKB.out hb)
      have HV := Aside0.mk (Kd.R_lower (Kd.R_mono (Kd.R_bound ho) (ok' := fun k => k ≠ g2 ∧ W8.heap.size ≤ k) (fun k hk => by have h1_ := hk.2.1; have h3_ := HGZ.out; have h4_ := HKB.out.size; exact ⟨by omega, by omega⟩)) (base' := w.heap.size) (by have := HKB.out.size; have := HS8.out.P.Bl.size; omega))
      clear HG HKB
      have HG := HG9
      clear HG9
      have HKB := HK9
      clear HK9
      clear HS
      have HS := HS9
      clear HS9
      clear ho hb HZ
      refine hK.out _ _ ⟨((blk_cell HS.out.P.p 0).trans rfl), ((blk_cell HS.out.P.p 1).trans rfl), ((blk_cell HS.out.P.p 2).trans rfl), ((blk_cell HS.out.P.p 3).trans rfl), ((blk_cell HS.out.P.p 4).trans rfl), ((blk_cell HS.out.P.p 5).trans rfl), ((blk_cell HS.out.P.p 6).trans rfl)⟩ (fun hHeld => ?_)
      clear hK K
      refine nN (some 37) (h := ?_)
      refine pT 13 (some 38) (zb 16 32767) (h := ?_)
      exact norm_ (by simp only [putAll, Act.put, List.setIfInBounds_toArray, List.set_cons_zero, List.set_cons_succ]) (hCont (.slice At t.length ct, g2) _ ⟨hHeld, HS.out, HG.out, HV.out, HG1.out, HKB.out⟩)
  rintro ⟨vt, g2⟩ w1 ⟨hS_, h0_, h1_, h2_, h3_, h4_⟩
  have hHeld := hS_
  dsimp only at h1_ h2_ h3_
  obtain ⟨At, ct, rfl⟩ := Kd.R_slice h2_
  clear HS HKB
  have HS := Aside0.mk h0_
  have HG := Aside0.mk h1_
  have HV := Aside0.mk h2_
  have HG1 := Aside0.mk h3_
  have HKB := Aside0.mk h4_
  clear h0_ h1_ h2_ h3_ h4_ hS_
  refine norm_ (a' := ?_) ?_ ?_
  rotate_left
  · simp only [putAll, Act.put, List.setIfInBounds_toArray, List.set_cons_zero, List.set_cons_succ]
    rfl
  refine last_ (i := 15) (N := none) (zb 16 65535) rfl rfl (by kernel_rfl) (by decide) (fun K hK => ?_)
  obtain ⟨hs0, hs1, hs2, hs3, hs4, hs5, hs6⟩ := zc7 HG.out
  obtain ⟨hf0, hf1, hf2, hf3, hf4, hf5, hf6⟩ := zf7 HG.out
  refine skip_ (w1 := ?_) (by rfl) rfl ?_ ?_
  rotate_left
  · go_simp
    rfl
  refine hK.out _ _ ?_
  clear hK K
  refine done_ (by kernel_rfl) ?_
  obtain ⟨f_, hst_⟩ := OSt.start HS8.out HG1.out HKB.out HG.out HV.out
  have HS9 := Aside0.mk hst_
  clear hst_ HS HS8 HKB HG HV HG1 hHeld hs0 hs1 hs2 hs3 hs4 hs5 hs6 hf0 hf1 hf2 hf3 hf4 hf5 hf6
  have HS := HS9
  clear HS9
  unfold put7 at HS
  go_wp2
  generalize World.setCell _ _ _ = W9 at *
  go_loopg [6] k (fun kq v6 w' => ∃ (i : Int) (f : Nat → Nat) (V : OV), v6 = .int .i64 i ∧ Aside0 (of_l kq D.wd D.l4 i V.A V.C = some (A, C)) ∧ Aside0 (V.B = [] ∧ V.E = [] ∧ V.s = s ∧ V.t = t) ∧ Aside0 (kq ≤ k) ∧ Aside0 (OSt w D g1 g2 f V w'))
  case atStart => exact ⟨0, _, ⟨.slice none 0 0, .slice none 0 0, .slice As s.length cs, .slice none 0 0, .slice none 0 0, .slice At t.length ct, [], [], s, [], [], t⟩, rfl, H4, ⟨rfl, rfl, rfl, rfl⟩, ⟨Nat.le_refl _⟩, HS⟩
  case round =>
    clear H4 HS
    obtain ⟨i, f, V, rfl, HA, HKP, HK1, HS⟩ := hrel
    cases gk with
    | zero => exact absurd HA.out (by simp [of_l])
    | succ k1 =>
      have H := HA.out
      clear HA
      simp only [of_l] at H
      have p4 := (blk_cell (OSt.p HS.out) 4).trans rfl
      have p5 := (blk_cell (OSt.p HS.out) 5).trans rfl
      (try simp only [List.getElem?_toArray, List.getElem?_cons_zero, List.getElem?_cons_succ] at p4 p5)
      by_cases ci : i < (D.l4.length : Int)
      · rw [if_pos ci] at H
        by_cases cj : 0 ≤ i ∧ V.A.length ≤ 65536 ∧ V.C.length ≤ 65536
        rotate_left
        · rw [if_neg cj] at H; cases H
        rw [if_pos cj] at H
        obtain ⟨t1, hI1, H⟩ := Option.bind_eq_some_iff.mp H
        obtain ⟨s1, hO1, H⟩ := Option.bind_eq_some_iff.mp H
        have HI1 := Aside0.mk hI1
        have HO1 := Aside0.mk hO1
        have HH := Aside0.mk H
        have HX : Aside0 (0 ≤ i ∧ i < (D.l4.length : Int) ∧ V.A.length ≤ 65536 ∧ V.C.length ≤ 65536) := ⟨⟨cj.1, ci, cj.2⟩⟩
        have b1 : decide (i < (D.l4.length : Int)) = true := decide_eq_true ci
        have b2 : decide (0 ≤ i) = true := decide_eq_true cj.1
        have ci0 : (0 ≤ i) = True := eq_true cj.1
        replace ci := eq_true ci
        clear hI1 hO1 H cj
        go_upto_region 6 with (fail)
        have HL0 := Aside0.mk HS.out.R.Bl.size
        obtain ⟨ad, Ar, cr, eA_, hx_, hl_, hi_⟩ := at_L1 (OSt.ok HS.out).r4 i HX.out.1 HX.out.2.1
        have HRR := Aside0.mk hi_
        have HRC := Aside0.mk hl_
        have HXX := Aside0.mk hx_
        clear hi_ hl_
        refine start_ (n := 17) (S := fun w' => w'.cell? ⟨g1, 4, none⟩ = some V.va ∧ w'.cell? ⟨w.heap.size, 3, none⟩ = some (.int .i64 D.wd) ∧ w'.cell? ⟨w.heap.size, 4, none⟩ = some (.slice D.A4 D.l4.length D.c4) ∧ w'.cell? (ad.add i.toNat) = some (.slice Ar (rd_L1 D.l4 i).length cr)) (ds := [14, 16]) #[false, false, false, false, false, false, false, false, false, false, false, false, false, false, false, false, false] (by kernel_rfl) rfl rfl ⟨((blk_cell (OSt.q (by first | exact HS.out | exact OSt.below HS.out (below_drew (Below.refl _ _)))) 4).trans rfl), ((blk_cell (OSt.p (by first | exact HS.out | exact OSt.below HS.out (below_drew (Below.refl _ _)))) 3).trans rfl), ((blk_cell (OSt.p (by first | exact HS.out | exact OSt.below HS.out (below_drew (Below.refl _ _)))) 4).trans rfl), (pw_cell_below (below_drew (Below.refl _ _)) HXX.out)⟩ (fun hHeld => ?_)
        refine pT 0 (some 46) (zb 17 1) (h := ?_)
        refine pT 2 (some 48) (zb 17 5) (h := ?_)
        refine pT 4 (some 50) (zb 17 21) (h := ?_)
        refine pT 6 (some 52) (zb 17 85) (h := ?_)
        refine pT 9 (some 55) (zb 17 597) (h := ?_)
        refine tT 1 (some 47) (zb 17 599) hHeld (h := ?_)
        refine tT 3 (some 49) (zb 17 607) hHeld (h := ?_)
        refine tT 5 (some 51) (zb 17 639) hHeld (h := ?_)
        refine pT 7 (some 53) (zb 17 767) (h := ?_)
        refine tT 8 (some 54) (zb 17 1023) hHeld (h := ?_)
        refine tT 10 (some 56) (zb 17 2047) hHeld (h := ?_)
        refine one_ (i := 11) (N := some 57) (zb 17 4095) rfl rfl (by kernel_rfl) (by decide) (fun K hK => ?_)
        refine goes_ Tryd.func25 (by kernel_rfl) rfl #[.slice Ar (rd_L1 D.l4 i).length cr, .int .i64 D.wd] (by rfl) rfl rfl (by simp only [List.map_toArray, List.map_cons, List.map_nil]; rfl) ?_
        with_reducible refine (balustradelaw18_inside.calls k1 Ar cr (rd_L1 D.l4 i) D.wd t1 _ (Kd.C_below HRR.out (below_drew (Below.refl _ _))) HRC.out HI1.out).mono ?_
        rintro e w5 ⟨vi, rfl, ho, hb⟩
        refine ⟨_, rfl, ?_⟩
        have HSN := Aside0.mk (OSt.below (by first | exact HS.out | exact OSt.below HS.out (below_drew (Below.refl _ _))) hb)
        have HXN := Aside0.mk (pw_cell_below hb (by first | exact HXX.out | exact (pw_cell_drew HXX.out) | exact HXX.out))
        obtain ⟨Ai, ci, rfl⟩ := Kd.R_slice ho
        have HV := Aside0.mk ho
        have HB5 := Aside0.mk (show Below wr.heap.size wr w5 from below_step (below_drew (Below.refl _ _)) hb)
        clear ho hb
        refine hK.out _ _ ⟨((blk_cell (OSt.q HSN.out) 4).trans rfl), ((blk_cell (OSt.p HSN.out) 3).trans rfl), ((blk_cell (OSt.p HSN.out) 4).trans rfl), HXN.out⟩ (fun hHeld => ?_)
        clear hK K
        refine nN (some 57) (h := ?_)
        refine one_ (i := 12) (N := some 58) (zb 17 8191) rfl rfl (by kernel_rfl) (by decide) (fun K hK => ?_)
        refine goes_ Tryd.func16 (by kernel_rfl) rfl #[.int .i64 D.wd, .slice Ai t1.length ci] (by rfl) rfl rfl (by simp only [List.map_toArray, List.map_cons, List.map_nil]; rfl) ?_
        with_reducible refine (bits_Of.calls k1 D.wd Ai ci t1 s1 _ (Kd.R_reads' HV.out).2.2 (Kd.R_reads' HV.out).2.1 HO1.out).mono ?_
        rintro e w6 ⟨vo, rfl, ho, hb⟩
        refine ⟨_, rfl, ?_⟩
        have HSN9 := Aside0.mk (OSt.below HSN.out hb)
        have HXN9 := Aside0.mk (pw_cell_below hb HXN.out)
        have HB59 := Aside0.mk (below_step HB5.out hb)
        clear HSN HXN HV
        have HSN := HSN9
        have HXN := HXN9
        have HV := Aside0.mk (Kd.R_lower (Kd.R_mono (Kd.R_bound ho) (ok' := fun k => wr.heap.size ≤ k) (fun k hk => Nat.le_trans HB5.out.size hk.2.1)) (base' := w.heap.size) (Nat.le_trans HL0.out HB5.out.size))
        clear HB5
        have HB5 := HB59
        clear HSN9 HXN9 HB59
        obtain ⟨Ao, co, rfl⟩ := Kd.R_slice ho
        clear ho hb
        refine hK.out _ _ ⟨((blk_cell (OSt.q HSN.out) 4).trans rfl), ((blk_cell (OSt.p HSN.out) 3).trans rfl), ((blk_cell (OSt.p HSN.out) 4).trans rfl), HXN.out⟩ (fun hHeld => ?_)
        clear hK K
        refine nN (some 58) (h := ?_)
        refine one_ (i := 13) (N := some 59) (zb 17 16383) rfl rfl (by kernel_rfl) (by decide) (fun K hK => ?_)
        have HSL := Aside0.mk (OSt.below HSN.out (below_alloc (Below.refl _ _) (.cells #[.slice Ao s1.length co] 30)))
        have HVL := Aside0.mk (Kd.R_below HV.out (below_alloc (Below.refl _ _) (.cells #[.slice Ao s1.length co] 30)))
        have HXL := Aside0.mk (pw_cell_below (below_alloc (Below.refl _ _) (.cells #[.slice Ao s1.length co] 30)) HXN.out)
        have HBL := Aside0.mk (below_alloc HB5.out (.cells #[.slice Ao s1.length co] 30))
        have HNL := Aside0.mk (blk_new w6 (.cells #[.slice Ao s1.length co] 30))
        refine value_ (w1 := ?_) (v := ?_) (by rfl) rfl ?_ ?_
        rotate_left 2
        · go_simp
          constructor
          · rfl
          · rfl
        refine hK.out _ _ ⟨((blk_cell (OSt.q HSL.out) 4).trans rfl), ((blk_cell (OSt.p HSL.out) 3).trans rfl), ((blk_cell (OSt.p HSL.out) 4).trans rfl), HXL.out⟩ (fun hHeld => ?_)
        clear hK K
        refine nN (some 59) (h := ?_)
        refine last_ (i := 14) (N := some 60) (zb 17 32767) rfl rfl (by kernel_rfl) (by decide) (fun K hK => ?_)
        refine S_append_at (Kd.slice 72 (Kd.int .u64)) (w0 := w) w.heap.size (by rfl) (.tmp 47) (.tmp 59) 28 30 (.slice none 0 0) 24 (by rfl) Tryd.underlying28 infos rfl (by decide) (by omega) V.va V.A s1 [.slice Ao s1.length co] (fun k => newLab f wr.heap.size 0 k = 0) (fun k => wr.heap.size ≤ k) (by rfl) w6.heap.size (by rfl) HNL.out ⟨_, rfl, HVL.out⟩ (fun k hk => ⟨newLab_new hk, fun e_ => by have := Kd.S_lt HS.out.R.a k e_.symm; omega⟩) (fun k hk => newLab_new (Nat.le_trans HBL.out.size hk)) (Kd.S_below (Kd.S_mono (Kd.S_bound HS.out.R.a) (fun k hk => ⟨(newLab_old hk.2.2.1).trans hk.1, by have := hk.2.2.1; omega⟩)) HBL.out) HSL.out.R.Bl HSL.out.R.Bl.size (by have := HX.out.2.2.1; omega) ?_
        intro v1 w7 ho hb hg hat
        obtain ⟨Av, cv, rfl⟩ := Kd.S_slice ho
        have HPUT := Aside0.mk (OSt.put0 HS.out HBL.out hg hb ho)
        have el_ : (V.A ++ [s1]).length = V.A.length + 1 := by simp
        rw [el_] at HPUT
        clear el_
        have HBX := Aside0.mk (blk_grown (OSt.q HSL.out) hg (fun e_ => by have e1 := (Kd.S_R HS.out.R.a).1 _ e_.symm; have e2 := HS.out.f3; omega))
        clear ho hb hg hat
        refine hK.out _ _ ?_
        clear hK K
        refine nN (some 60) (h := ?_)
        refine pT 15 (some 61) (zb 17 65535) (h := ?_)
        refine last_ (i := 16) (N := none) (zb 17 131071) rfl rfl (by kernel_rfl) (by decide) (fun K hK => ?_)
        have hs0 : w7.cell? ⟨g1, 4, none⟩ = some V.va := (blk_cell HBX.out 4).trans rfl
        have hf0 := blk_frozen HBX.out 4
        refine skip_ (w1 := ?_) (by rfl) rfl ?_ ?_
        rotate_left
        · go_simp
          rfl
        refine hK.out _ _ ?_
        clear hK K
        refine done_ (by kernel_rfl) ?_
        have HS9 := HPUT
        clear HS HPUT HBX HSN HSL HV HVL HXN HXL HBL HNL HB5 HRR HRC HXX hx_ hHeld hs0 hf0
        have HS := HS9
        clear HS9
        go_upto_region 7 with (fail)
        generalize World.setCell _ _ _ = WL2 at *
        generalize newLab _ _ _ = f2 at HS
        generalize eV : OV.mk _ _ _ _ _ _ _ _ _ _ _ _ = V2 at HS
        have HX2 : Aside0 (V2.C.length ≤ 65536) := ⟨by rw [← eV]; exact HX.out.2.2.2⟩
        have EV := Aside0.mk eV
        clear eV
        clear HL0
        have HL0 := Aside0.mk HS.out.R.Bl.size
        obtain ⟨ad2, Ar, cr, eA2_, hx_, hl_, hi_⟩ := at_L1 (OSt.ok HS.out).r4 i HX.out.1 HX.out.2.1
        have e9_ := Option.some.inj (eA_.symm.trans eA2_)
        subst e9_
        clear eA2_
        have HRR := Aside0.mk hi_
        have HRC := Aside0.mk hl_
        have HXX := Aside0.mk hx_
        clear hi_ hl_
        refine start_ (n := 14) (S := fun w' => w'.cell? ⟨g2, 4, none⟩ = some V2.vc ∧ w'.cell? ⟨w.heap.size, 3, none⟩ = some (.int .i64 D.wd) ∧ w'.cell? ⟨w.heap.size, 4, none⟩ = some (.slice D.A4 D.l4.length D.c4) ∧ w'.cell? (ad.add i.toNat) = some (.slice Ar (rd_L1 D.l4 i).length cr)) (ds := [11, 13]) #[false, false, false, false, false, false, false, false, false, false, false, false, false, false] (by kernel_rfl) rfl rfl ⟨((blk_cell (OSt.x (by first | exact HS.out | exact OSt.below HS.out (below_drew (Below.refl _ _)))) 4).trans rfl), ((blk_cell (OSt.p (by first | exact HS.out | exact OSt.below HS.out (below_drew (Below.refl _ _)))) 3).trans rfl), ((blk_cell (OSt.p (by first | exact HS.out | exact OSt.below HS.out (below_drew (Below.refl _ _)))) 4).trans rfl), (pw_cell_below (below_drew (Below.refl _ _)) HXX.out)⟩ (fun hHeld => ?_)
        refine pT 0 (some 62) (zb 14 1) (h := ?_)
        refine pT 2 (some 64) (zb 14 5) (h := ?_)
        refine pT 4 (some 66) (zb 14 21) (h := ?_)
        refine pT 7 (some 69) (zb 14 149) (h := ?_)
        refine tT 1 (some 63) (zb 14 151) hHeld (h := ?_)
        refine tT 3 (some 65) (zb 14 159) hHeld (h := ?_)
        refine pT 5 (some 67) (zb 14 191) (h := ?_)
        refine tT 6 (some 68) (zb 14 255) hHeld (h := ?_)
        refine tT 8 (some 70) (zb 14 511) hHeld (h := ?_)
        refine one_ (i := 9) (N := some 71) (zb 14 1023) rfl rfl (by kernel_rfl) (by decide) (fun K hK => ?_)
        refine goes_ Tryd.func25 (by kernel_rfl) rfl #[.slice Ar (rd_L1 D.l4 i).length cr, .int .i64 D.wd] (by rfl) rfl rfl (by simp only [List.map_toArray, List.map_cons, List.map_nil]; rfl) ?_
        with_reducible refine (balustradelaw18_inside.calls k1 Ar cr (rd_L1 D.l4 i) D.wd t1 _ (Kd.C_below HRR.out (below_drew (Below.refl _ _))) HRC.out HI1.out).mono ?_
        rintro e w5 ⟨vi, rfl, ho, hb⟩
        refine ⟨_, rfl, ?_⟩
        have HSN := Aside0.mk (OSt.below (by first | exact HS.out | exact OSt.below HS.out (below_drew (Below.refl _ _))) hb)
        have HXN := Aside0.mk (pw_cell_below hb (by first | exact HXX.out | exact (pw_cell_drew HXX.out) | exact HXX.out))
        obtain ⟨Ai, ci, rfl⟩ := Kd.R_slice ho
        have HV := Aside0.mk ho
        have HB5 := Aside0.mk (show Below WL2.heap.size WL2 w5 from below_step (below_drew (Below.refl _ _)) hb)
        clear ho hb
        have HV9 := Aside0.mk (Kd.R_lower (Kd.R_mono (Kd.R_bound HV.out) (ok' := fun k => WL2.heap.size ≤ k) (fun k hk => hk.2.1)) (base' := w.heap.size) HL0.out)
        clear HV
        have HV := HV9
        clear HV9
        refine hK.out _ _ ⟨((blk_cell (OSt.x HSN.out) 4).trans rfl), ((blk_cell (OSt.p HSN.out) 3).trans rfl), ((blk_cell (OSt.p HSN.out) 4).trans rfl), HXN.out⟩ (fun hHeld => ?_)
        clear hK K
        refine nN (some 71) (h := ?_)
        refine one_ (i := 10) (N := some 72) (zb 14 2047) rfl rfl (by kernel_rfl) (by decide) (fun K hK => ?_)
        have HSL := Aside0.mk (OSt.below HSN.out (below_alloc (Below.refl _ _) (.cells #[.slice Ai t1.length ci] 23)))
        have HVL := Aside0.mk (Kd.R_below HV.out (below_alloc (Below.refl _ _) (.cells #[.slice Ai t1.length ci] 23)))
        have HXL := Aside0.mk (pw_cell_below (below_alloc (Below.refl _ _) (.cells #[.slice Ai t1.length ci] 23)) HXN.out)
        have HBL := Aside0.mk (below_alloc HB5.out (.cells #[.slice Ai t1.length ci] 23))
        have HNL := Aside0.mk (blk_new w5 (.cells #[.slice Ai t1.length ci] 23))
        refine value_ (w1 := ?_) (v := ?_) (by rfl) rfl ?_ ?_
        rotate_left 2
        · go_simp
          constructor
          · rfl
          · rfl
        refine hK.out _ _ ⟨((blk_cell (OSt.x HSL.out) 4).trans rfl), ((blk_cell (OSt.p HSL.out) 3).trans rfl), ((blk_cell (OSt.p HSL.out) 4).trans rfl), HXL.out⟩ (fun hHeld => ?_)
        clear hK K
        refine nN (some 72) (h := ?_)
        refine last_ (i := 11) (N := some 73) (zb 14 4095) rfl rfl (by kernel_rfl) (by decide) (fun K hK => ?_)
        refine S_append_at (Kd.slice 3 (Kd.int .i64)) (w0 := w) w.heap.size (by rfl) (.tmp 63) (.tmp 72) 22 23 (.slice none 0 0) 24 (by rfl) Tryd.underlying22 infoi rfl (by decide) (by omega) V2.vc V2.C t1 [.slice Ai t1.length ci] (fun k => newLab f2 WL2.heap.size 3 k = 3) (fun k => WL2.heap.size ≤ k) (by rfl) w5.heap.size (by rfl) HNL.out ⟨_, rfl, HVL.out⟩ (fun k hk => ⟨newLab_new hk, fun e_ => by have := Kd.S_lt HS.out.R.c k e_.symm; omega⟩) (fun k hk => newLab_new (Nat.le_trans HBL.out.size hk)) (Kd.S_below (Kd.S_mono (Kd.S_bound HS.out.R.c) (fun k hk => ⟨(newLab_old hk.2.2.1).trans hk.1, by have := hk.2.2.1; omega⟩)) HBL.out) HSL.out.R.Bl HSL.out.R.Bl.size (by have := HX2.out; omega) ?_
        intro v2 w7 ho hb hg hat
        obtain ⟨Av, cv, rfl⟩ := Kd.S_slice ho
        have HPUT := Aside0.mk (OSt.put3 HS.out HBL.out hg hb ho)
        have el_ : (V2.C ++ [t1]).length = V2.C.length + 1 := by simp
        rw [el_] at HPUT
        clear el_
        have HBX := Aside0.mk (blk_grown (OSt.x HSL.out) hg (fun e_ => by have e1 := (Kd.S_R HS.out.R.c).1 _ e_.symm; have e2 := HS.out.f4; omega))
        clear ho hb hg hat
        refine hK.out _ _ ?_
        clear hK K
        refine nN (some 73) (h := ?_)
        refine pT 12 (some 74) (zb 14 8191) (h := ?_)
        refine last_ (i := 13) (N := none) (zb 14 16383) rfl rfl (by kernel_rfl) (by decide) (fun K hK => ?_)
        have hs0 : w7.cell? ⟨g2, 4, none⟩ = some V2.vc := (blk_cell HBX.out 4).trans rfl
        have hf0 := blk_frozen HBX.out 4
        refine skip_ (w1 := ?_) (by rfl) rfl ?_ ?_
        rotate_left
        · go_simp
          rfl
        refine hK.out _ _ ?_
        clear hK K
        refine done_ (by kernel_rfl) ?_
        have HS9 := HPUT
        clear HS HPUT HBX HSN HSL HV HVL HXN HXL HBL HNL HB5 HRR HRC HXX hx_ hHeld hs0 hf0
        have HS := HS9
        clear HS9
        have eV := EV.out
        subst eV
        clear EV
        rw [← eA_]
        clear eA_
        go_wp2
        go_roundg k1
        case measure => have := HK1.out; omega
        case rel => exact ⟨wrap64 (i + 1), _, { V with va := _, A := V.A ++ [s1], vc := _, C := V.C ++ [t1] }, rfl, HH, HKP, ⟨by have := HK1.out; omega⟩, HS⟩
      · rw [if_neg ci] at H
        obtain ⟨eA_, eC_⟩ := Prod.mk.inj (Option.some.inj H)
        have b1 : decide (i < (D.l4.length : Int)) = false := decide_eq_false ci
        have HE := Aside0.mk (And.intro eA_ eC_)
        clear ci H eA_ eC_
        go_wp2
        clear HK1 p4 p5
        have H5_ : Aside0 (of_l k D.wd D.l5 0 V.B V.E = some (B, E)) := ⟨by rw [HKP.out.1, HKP.out.2.1]; exact H5.out⟩
        go_loopg [7] k (fun kq v6 w' => ∃ (i : Int) (f : Nat → Nat) (V : OV), v6 = .int .i64 i ∧ Aside0 (of_l kq D.wd D.l5 i V.B V.E = some (B, E)) ∧ Aside0 (V.A = A ∧ V.C = C ∧ V.s = s ∧ V.t = t) ∧ Aside0 (kq ≤ k) ∧ Aside0 (OSt w D g1 g2 f V w'))
        case atStart => exact ⟨0, _, V, rfl, H5_, ⟨HE.out.1, HE.out.2, HKP.out.2.2.1, HKP.out.2.2.2⟩, ⟨Nat.le_refl _⟩, HS⟩
        case round =>
          clear H5 H5_ HE HKP HS
          obtain ⟨i, f, V, rfl, HA, HKP, HK1, HS⟩ := hrel
          cases gk with
          | zero => exact absurd HA.out (by simp [of_l])
          | succ k1 =>
            have H := HA.out
            clear HA
            simp only [of_l] at H
            have p4 := (blk_cell (OSt.p HS.out) 4).trans rfl
            have p5 := (blk_cell (OSt.p HS.out) 5).trans rfl
            (try simp only [List.getElem?_toArray, List.getElem?_cons_zero, List.getElem?_cons_succ] at p4 p5)
            by_cases ci : i < (D.l5.length : Int)
            · rw [if_pos ci] at H
              by_cases cj : 0 ≤ i ∧ V.B.length ≤ 65536 ∧ V.E.length ≤ 65536
              rotate_left
              · rw [if_neg cj] at H; cases H
              rw [if_pos cj] at H
              obtain ⟨t1, hI1, H⟩ := Option.bind_eq_some_iff.mp H
              obtain ⟨s1, hO1, H⟩ := Option.bind_eq_some_iff.mp H
              have HI1 := Aside0.mk hI1
              have HO1 := Aside0.mk hO1
              have HH := Aside0.mk H
              have HX : Aside0 (0 ≤ i ∧ i < (D.l5.length : Int) ∧ V.B.length ≤ 65536 ∧ V.E.length ≤ 65536) := ⟨⟨cj.1, ci, cj.2⟩⟩
              have b1 : decide (i < (D.l5.length : Int)) = true := decide_eq_true ci
              have b2 : decide (0 ≤ i) = true := decide_eq_true cj.1
              have ci0 : (0 ≤ i) = True := eq_true cj.1
              replace ci := eq_true ci
              clear hI1 hO1 H cj
              go_upto_region 11 with (fail)
              have HL0 := Aside0.mk HS.out.R.Bl.size
              obtain ⟨ad, Ar, cr, eA_, hx_, hl_, hi_⟩ := at_L1 (OSt.ok HS.out).r5 i HX.out.1 HX.out.2.1
              have HRR := Aside0.mk hi_
              have HRC := Aside0.mk hl_
              have HXX := Aside0.mk hx_
              clear hi_ hl_
              refine start_ (n := 17) (S := fun w' => w'.cell? ⟨g1, 5, none⟩ = some V.vb ∧ w'.cell? ⟨w.heap.size, 3, none⟩ = some (.int .i64 D.wd) ∧ w'.cell? ⟨w.heap.size, 5, none⟩ = some (.slice D.A5 D.l5.length D.c5) ∧ w'.cell? (ad.add i.toNat) = some (.slice Ar (rd_L1 D.l5 i).length cr)) (ds := [14, 16]) #[false, false, false, false, false, false, false, false, false, false, false, false, false, false, false, false, false] (by kernel_rfl) rfl rfl ⟨((blk_cell (OSt.q (by first | exact HS.out | exact OSt.below HS.out (below_drew (Below.refl _ _)))) 5).trans rfl), ((blk_cell (OSt.p (by first | exact HS.out | exact OSt.below HS.out (below_drew (Below.refl _ _)))) 3).trans rfl), ((blk_cell (OSt.p (by first | exact HS.out | exact OSt.below HS.out (below_drew (Below.refl _ _)))) 5).trans rfl), (pw_cell_below (below_drew (Below.refl _ _)) HXX.out)⟩ (fun hHeld => ?_)
              refine pT 0 (some 82) (zb 17 1) (h := ?_)
              refine pT 2 (some 84) (zb 17 5) (h := ?_)
              refine pT 4 (some 86) (zb 17 21) (h := ?_)
              refine pT 6 (some 88) (zb 17 85) (h := ?_)
              refine pT 9 (some 91) (zb 17 597) (h := ?_)
              refine tT 1 (some 83) (zb 17 599) hHeld (h := ?_)
              refine tT 3 (some 85) (zb 17 607) hHeld (h := ?_)
              refine tT 5 (some 87) (zb 17 639) hHeld (h := ?_)
              refine pT 7 (some 89) (zb 17 767) (h := ?_)
              refine tT 8 (some 90) (zb 17 1023) hHeld (h := ?_)
              refine tT 10 (some 92) (zb 17 2047) hHeld (h := ?_)
              refine one_ (i := 11) (N := some 93) (zb 17 4095) rfl rfl (by kernel_rfl) (by decide) (fun K hK => ?_)
              refine goes_ Tryd.func25 (by kernel_rfl) rfl #[.slice Ar (rd_L1 D.l5 i).length cr, .int .i64 D.wd] (by rfl) rfl rfl (by simp only [List.map_toArray, List.map_cons, List.map_nil]; rfl) ?_
              with_reducible refine (balustradelaw18_inside.calls k1 Ar cr (rd_L1 D.l5 i) D.wd t1 _ (Kd.C_below HRR.out (below_drew (Below.refl _ _))) HRC.out HI1.out).mono ?_
              rintro e w5 ⟨vi, rfl, ho, hb⟩
              refine ⟨_, rfl, ?_⟩
              have HSN := Aside0.mk (OSt.below (by first | exact HS.out | exact OSt.below HS.out (below_drew (Below.refl _ _))) hb)
              have HXN := Aside0.mk (pw_cell_below hb (by first | exact HXX.out | exact (pw_cell_drew HXX.out) | exact HXX.out))
              obtain ⟨Ai, ci, rfl⟩ := Kd.R_slice ho
              have HV := Aside0.mk ho
              have HB5 := Aside0.mk (show Below wr.heap.size wr w5 from below_step (below_drew (Below.refl _ _)) hb)
              clear ho hb
              refine hK.out _ _ ⟨((blk_cell (OSt.q HSN.out) 5).trans rfl), ((blk_cell (OSt.p HSN.out) 3).trans rfl), ((blk_cell (OSt.p HSN.out) 5).trans rfl), HXN.out⟩ (fun hHeld => ?_)
              clear hK K
              refine nN (some 93) (h := ?_)
              refine one_ (i := 12) (N := some 94) (zb 17 8191) rfl rfl (by kernel_rfl) (by decide) (fun K hK => ?_)
              refine goes_ Tryd.func16 (by kernel_rfl) rfl #[.int .i64 D.wd, .slice Ai t1.length ci] (by rfl) rfl rfl (by simp only [List.map_toArray, List.map_cons, List.map_nil]; rfl) ?_
              with_reducible refine (bits_Of.calls k1 D.wd Ai ci t1 s1 _ (Kd.R_reads' HV.out).2.2 (Kd.R_reads' HV.out).2.1 HO1.out).mono ?_
              rintro e w6 ⟨vo, rfl, ho, hb⟩
              refine ⟨_, rfl, ?_⟩
              have HSN9 := Aside0.mk (OSt.below HSN.out hb)
              have HXN9 := Aside0.mk (pw_cell_below hb HXN.out)
              have HB59 := Aside0.mk (below_step HB5.out hb)
              clear HSN HXN HV
              have HSN := HSN9
              have HXN := HXN9
              have HV := Aside0.mk (Kd.R_lower (Kd.R_mono (Kd.R_bound ho) (ok' := fun k => wr.heap.size ≤ k) (fun k hk => Nat.le_trans HB5.out.size hk.2.1)) (base' := w.heap.size) (Nat.le_trans HL0.out HB5.out.size))
              clear HB5
              have HB5 := HB59
              clear HSN9 HXN9 HB59
              obtain ⟨Ao, co, rfl⟩ := Kd.R_slice ho
              clear ho hb
              refine hK.out _ _ ⟨((blk_cell (OSt.q HSN.out) 5).trans rfl), ((blk_cell (OSt.p HSN.out) 3).trans rfl), ((blk_cell (OSt.p HSN.out) 5).trans rfl), HXN.out⟩ (fun hHeld => ?_)
              clear hK K
              refine nN (some 94) (h := ?_)
              refine one_ (i := 13) (N := some 95) (zb 17 16383) rfl rfl (by kernel_rfl) (by decide) (fun K hK => ?_)
              have HSL := Aside0.mk (OSt.below HSN.out (below_alloc (Below.refl _ _) (.cells #[.slice Ao s1.length co] 30)))
              have HVL := Aside0.mk (Kd.R_below HV.out (below_alloc (Below.refl _ _) (.cells #[.slice Ao s1.length co] 30)))
              have HXL := Aside0.mk (pw_cell_below (below_alloc (Below.refl _ _) (.cells #[.slice Ao s1.length co] 30)) HXN.out)
              have HBL := Aside0.mk (below_alloc HB5.out (.cells #[.slice Ao s1.length co] 30))
              have HNL := Aside0.mk (blk_new w6 (.cells #[.slice Ao s1.length co] 30))
              refine value_ (w1 := ?_) (v := ?_) (by rfl) rfl ?_ ?_
              rotate_left 2
              · go_simp
                constructor
                · rfl
                · rfl
              refine hK.out _ _ ⟨((blk_cell (OSt.q HSL.out) 5).trans rfl), ((blk_cell (OSt.p HSL.out) 3).trans rfl), ((blk_cell (OSt.p HSL.out) 5).trans rfl), HXL.out⟩ (fun hHeld => ?_)
              clear hK K
              refine nN (some 95) (h := ?_)
              refine last_ (i := 14) (N := some 96) (zb 17 32767) rfl rfl (by kernel_rfl) (by decide) (fun K hK => ?_)
              refine S_append_at (Kd.slice 72 (Kd.int .u64)) (w0 := w) w.heap.size (by rfl) (.tmp 83) (.tmp 95) 28 30 (.slice none 0 0) 24 (by rfl) Tryd.underlying28 infos rfl (by decide) (by omega) V.vb V.B s1 [.slice Ao s1.length co] (fun k => newLab f wr.heap.size 1 k = 1) (fun k => wr.heap.size ≤ k) (by rfl) w6.heap.size (by rfl) HNL.out ⟨_, rfl, HVL.out⟩ (fun k hk => ⟨newLab_new hk, fun e_ => by have := Kd.S_lt HS.out.R.b k e_.symm; omega⟩) (fun k hk => newLab_new (Nat.le_trans HBL.out.size hk)) (Kd.S_below (Kd.S_mono (Kd.S_bound HS.out.R.b) (fun k hk => ⟨(newLab_old hk.2.2.1).trans hk.1, by have := hk.2.2.1; omega⟩)) HBL.out) HSL.out.R.Bl HSL.out.R.Bl.size (by have := HX.out.2.2.1; omega) ?_
              intro v1 w7 ho hb hg hat
              obtain ⟨Av, cv, rfl⟩ := Kd.S_slice ho
              have HPUT := Aside0.mk (OSt.put1 HS.out HBL.out hg hb ho)
              have el_ : (V.B ++ [s1]).length = V.B.length + 1 := by simp
              rw [el_] at HPUT
              clear el_
              have HBX := Aside0.mk (blk_grown (OSt.q HSL.out) hg (fun e_ => by have e1 := (Kd.S_R HS.out.R.b).1 _ e_.symm; have e2 := HS.out.f3; omega))
              clear ho hb hg hat
              refine hK.out _ _ ?_
              clear hK K
              refine nN (some 96) (h := ?_)
              refine pT 15 (some 97) (zb 17 65535) (h := ?_)
              refine last_ (i := 16) (N := none) (zb 17 131071) rfl rfl (by kernel_rfl) (by decide) (fun K hK => ?_)
              have hs0 : w7.cell? ⟨g1, 5, none⟩ = some V.vb := (blk_cell HBX.out 5).trans rfl
              have hf0 := blk_frozen HBX.out 5
              refine skip_ (w1 := ?_) (by rfl) rfl ?_ ?_
              rotate_left
              · go_simp
                rfl
              refine hK.out _ _ ?_
              clear hK K
              refine done_ (by kernel_rfl) ?_
              have HS9 := HPUT
              clear HS HPUT HBX HSN HSL HV HVL HXN HXL HBL HNL HB5 HRR HRC HXX hx_ hHeld hs0 hf0
              have HS := HS9
              clear HS9
              go_upto_region 12 with (fail)
              generalize World.setCell _ _ _ = WL2 at *
              generalize newLab _ _ _ = f2 at HS
              generalize eV : OV.mk _ _ _ _ _ _ _ _ _ _ _ _ = V2 at HS
              have HX2 : Aside0 (V2.E.length ≤ 65536) := ⟨by rw [← eV]; exact HX.out.2.2.2⟩
              have EV := Aside0.mk eV
              clear eV
              clear HL0
              have HL0 := Aside0.mk HS.out.R.Bl.size
              obtain ⟨ad2, Ar, cr, eA2_, hx_, hl_, hi_⟩ := at_L1 (OSt.ok HS.out).r5 i HX.out.1 HX.out.2.1
              have e9_ := Option.some.inj (eA_.symm.trans eA2_)
              subst e9_
              clear eA2_
              have HRR := Aside0.mk hi_
              have HRC := Aside0.mk hl_
              have HXX := Aside0.mk hx_
              clear hi_ hl_
              refine start_ (n := 14) (S := fun w' => w'.cell? ⟨g2, 5, none⟩ = some V2.vd ∧ w'.cell? ⟨w.heap.size, 3, none⟩ = some (.int .i64 D.wd) ∧ w'.cell? ⟨w.heap.size, 5, none⟩ = some (.slice D.A5 D.l5.length D.c5) ∧ w'.cell? (ad.add i.toNat) = some (.slice Ar (rd_L1 D.l5 i).length cr)) (ds := [11, 13]) #[false, false, false, false, false, false, false, false, false, false, false, false, false, false] (by kernel_rfl) rfl rfl ⟨((blk_cell (OSt.x (by first | exact HS.out | exact OSt.below HS.out (below_drew (Below.refl _ _)))) 5).trans rfl), ((blk_cell (OSt.p (by first | exact HS.out | exact OSt.below HS.out (below_drew (Below.refl _ _)))) 3).trans rfl), ((blk_cell (OSt.p (by first | exact HS.out | exact OSt.below HS.out (below_drew (Below.refl _ _)))) 5).trans rfl), (pw_cell_below (below_drew (Below.refl _ _)) HXX.out)⟩ (fun hHeld => ?_)
              refine pT 0 (some 98) (zb 14 1) (h := ?_)
              refine pT 2 (some 100) (zb 14 5) (h := ?_)
              refine pT 4 (some 102) (zb 14 21) (h := ?_)
              refine pT 7 (some 105) (zb 14 149) (h := ?_)
              refine tT 1 (some 99) (zb 14 151) hHeld (h := ?_)
              refine tT 3 (some 101) (zb 14 159) hHeld (h := ?_)
              refine pT 5 (some 103) (zb 14 191) (h := ?_)
              refine tT 6 (some 104) (zb 14 255) hHeld (h := ?_)
              refine tT 8 (some 106) (zb 14 511) hHeld (h := ?_)
              refine one_ (i := 9) (N := some 107) (zb 14 1023) rfl rfl (by kernel_rfl) (by decide) (fun K hK => ?_)
              refine goes_ Tryd.func25 (by kernel_rfl) rfl #[.slice Ar (rd_L1 D.l5 i).length cr, .int .i64 D.wd] (by rfl) rfl rfl (by simp only [List.map_toArray, List.map_cons, List.map_nil]; rfl) ?_
              with_reducible refine (balustradelaw18_inside.calls k1 Ar cr (rd_L1 D.l5 i) D.wd t1 _ (Kd.C_below HRR.out (below_drew (Below.refl _ _))) HRC.out HI1.out).mono ?_
              rintro e w5 ⟨vi, rfl, ho, hb⟩
              refine ⟨_, rfl, ?_⟩
              have HSN := Aside0.mk (OSt.below (by first | exact HS.out | exact OSt.below HS.out (below_drew (Below.refl _ _))) hb)
              have HXN := Aside0.mk (pw_cell_below hb (by first | exact HXX.out | exact (pw_cell_drew HXX.out) | exact HXX.out))
              obtain ⟨Ai, ci, rfl⟩ := Kd.R_slice ho
              have HV := Aside0.mk ho
              have HB5 := Aside0.mk (show Below WL2.heap.size WL2 w5 from below_step (below_drew (Below.refl _ _)) hb)
              clear ho hb
              have HV9 := Aside0.mk (Kd.R_lower (Kd.R_mono (Kd.R_bound HV.out) (ok' := fun k => WL2.heap.size ≤ k) (fun k hk => hk.2.1)) (base' := w.heap.size) HL0.out)
              clear HV
              have HV := HV9
              clear HV9
              refine hK.out _ _ ⟨((blk_cell (OSt.x HSN.out) 5).trans rfl), ((blk_cell (OSt.p HSN.out) 3).trans rfl), ((blk_cell (OSt.p HSN.out) 5).trans rfl), HXN.out⟩ (fun hHeld => ?_)
              clear hK K
              refine nN (some 107) (h := ?_)
              refine one_ (i := 10) (N := some 108) (zb 14 2047) rfl rfl (by kernel_rfl) (by decide) (fun K hK => ?_)
              have HSL := Aside0.mk (OSt.below HSN.out (below_alloc (Below.refl _ _) (.cells #[.slice Ai t1.length ci] 23)))
              have HVL := Aside0.mk (Kd.R_below HV.out (below_alloc (Below.refl _ _) (.cells #[.slice Ai t1.length ci] 23)))
              have HXL := Aside0.mk (pw_cell_below (below_alloc (Below.refl _ _) (.cells #[.slice Ai t1.length ci] 23)) HXN.out)
              have HBL := Aside0.mk (below_alloc HB5.out (.cells #[.slice Ai t1.length ci] 23))
              have HNL := Aside0.mk (blk_new w5 (.cells #[.slice Ai t1.length ci] 23))
              refine value_ (w1 := ?_) (v := ?_) (by rfl) rfl ?_ ?_
              rotate_left 2
              · go_simp
                constructor
                · rfl
                · rfl
              refine hK.out _ _ ⟨((blk_cell (OSt.x HSL.out) 5).trans rfl), ((blk_cell (OSt.p HSL.out) 3).trans rfl), ((blk_cell (OSt.p HSL.out) 5).trans rfl), HXL.out⟩ (fun hHeld => ?_)
              clear hK K
              refine nN (some 108) (h := ?_)
              refine last_ (i := 11) (N := some 109) (zb 14 4095) rfl rfl (by kernel_rfl) (by decide) (fun K hK => ?_)
              refine S_append_at (Kd.slice 3 (Kd.int .i64)) (w0 := w) w.heap.size (by rfl) (.tmp 99) (.tmp 108) 22 23 (.slice none 0 0) 24 (by rfl) Tryd.underlying22 infoi rfl (by decide) (by omega) V2.vd V2.E t1 [.slice Ai t1.length ci] (fun k => newLab f2 WL2.heap.size 4 k = 4) (fun k => WL2.heap.size ≤ k) (by rfl) w5.heap.size (by rfl) HNL.out ⟨_, rfl, HVL.out⟩ (fun k hk => ⟨newLab_new hk, fun e_ => by have := Kd.S_lt HS.out.R.d k e_.symm; omega⟩) (fun k hk => newLab_new (Nat.le_trans HBL.out.size hk)) (Kd.S_below (Kd.S_mono (Kd.S_bound HS.out.R.d) (fun k hk => ⟨(newLab_old hk.2.2.1).trans hk.1, by have := hk.2.2.1; omega⟩)) HBL.out) HSL.out.R.Bl HSL.out.R.Bl.size (by have := HX2.out; omega) ?_
              intro v2 w7 ho hb hg hat
              obtain ⟨Av, cv, rfl⟩ := Kd.S_slice ho
              have HPUT := Aside0.mk (OSt.put4 HS.out HBL.out hg hb ho)
              have el_ : (V2.E ++ [t1]).length = V2.E.length + 1 := by simp
              rw [el_] at HPUT
              clear el_
              have HBX := Aside0.mk (blk_grown (OSt.x HSL.out) hg (fun e_ => by have e1 := (Kd.S_R HS.out.R.d).1 _ e_.symm; have e2 := HS.out.f4; omega))
              clear ho hb hg hat
              refine hK.out _ _ ?_
              clear hK K
              refine nN (some 109) (h := ?_)
              refine pT 12 (some 110) (zb 14 8191) (h := ?_)
              refine last_ (i := 13) (N := none) (zb 14 16383) rfl rfl (by kernel_rfl) (by decide) (fun K hK => ?_)
              have hs0 : w7.cell? ⟨g2, 5, none⟩ = some V2.vd := (blk_cell HBX.out 5).trans rfl
              have hf0 := blk_frozen HBX.out 5
              refine skip_ (w1 := ?_) (by rfl) rfl ?_ ?_
              rotate_left
              · go_simp
                rfl
              refine hK.out _ _ ?_
              clear hK K
              refine done_ (by kernel_rfl) ?_
              have HS9 := HPUT
              clear HS HPUT HBX HSN HSL HV HVL HXN HXL HBL HNL HB5 HRR HRC HXX hx_ hHeld hs0 hf0
              have HS := HS9
              clear HS9
              have eV := EV.out
              subst eV
              clear EV
              rw [← eA_]
              clear eA_
              go_wp2
              go_roundg k1
              case measure => have := HK1.out; omega
              case rel => exact ⟨wrap64 (i + 1), _, { V with vb := _, B := V.B ++ [s1], vd := _, E := V.E ++ [t1] }, rfl, HH, HKP, ⟨by have := HK1.out; omega⟩, HS⟩
            · rw [if_neg ci] at H
              obtain ⟨eA_, eC_⟩ := Prod.mk.inj (Option.some.inj H)
              have b1 : decide (i < (D.l5.length : Int)) = false := decide_eq_false ci
              have HE := Aside0.mk (And.intro eA_ eC_)
              clear ci H eA_ eC_
              obtain ⟨eB_, eE_⟩ := HE.out
              obtain ⟨eA_, eC_, es_, et_⟩ := HKP.out
              have HS9 := HS.out
              clear HE HKP HK1 HS
              obtain ⟨va, vb, vs_, vc, vd, vt_, XA, XB, Xs, XC, XE, Xt⟩ := V
              dsimp only at eB_ eE_ eA_ eC_ es_ et_
              subst eB_ eE_ eA_ eC_ es_ et_
              obtain ⟨Aa, ca, e1_⟩ := Kd.S_slice HS9.R.a
              obtain ⟨Ab, cb, e2_⟩ := Kd.S_slice HS9.R.b
              obtain ⟨As_, cs_, e3_⟩ := Kd.R_slice HS9.R.s
              obtain ⟨Ac, cc, e4_⟩ := Kd.S_slice HS9.R.c
              obtain ⟨Ad, cd, e5_⟩ := Kd.S_slice HS9.R.d
              obtain ⟨At_, ct_, e6_⟩ := Kd.R_slice HS9.R.t
              dsimp only at e1_ e2_ e3_ e4_ e5_ e6_
              subst e1_ e2_ e3_ e4_ e5_ e6_
              have HS := Aside0.mk HS9
              clear HS9
              go_upto_region 13 with (fail)
              clear p4 p5
              obtain ⟨y2, EY2⟩ : ∃ y, Aside0 (y = w.heap.size + 1 + 1) := ⟨_, ⟨rfl⟩⟩
              rw [← EY2.out]
              obtain ⟨y1, EY1⟩ : ∃ y, Aside0 (y = w.heap.size + 1) := ⟨_, ⟨rfl⟩⟩
              rw [← EY1.out]
              have HSD := Aside0.mk (OSt.below HS.out (below_drew (Below.refl _ _)))
              refine start_ (n := 4) (S := fun w' => w'.cell? ⟨g1, 0, none⟩ = some (.slice D.A0 D.l0.length D.c0) ∧ w'.cell? ⟨g1, 1, none⟩ = some (.bool D.bk) ∧ w'.cell? ⟨g1, 2, none⟩ = some (.bool D.al) ∧ w'.cell? ⟨g1, 3, none⟩ = some (.int .i64 D.wd) ∧ w'.cell? ⟨g1, 4, none⟩ = some (.slice Aa XA.length ca) ∧ w'.cell? ⟨g1, 5, none⟩ = some (.slice Ab XB.length cb) ∧ w'.cell? ⟨g1, 6, none⟩ = some (.slice As_ Xs.length cs_) ∧ w'.cell? ⟨g2, 0, none⟩ = some (.slice D.A0 D.l0.length D.c0) ∧ w'.cell? ⟨g2, 1, none⟩ = some (.bool D.bk) ∧ w'.cell? ⟨g2, 2, none⟩ = some (.bool D.al) ∧ w'.cell? ⟨g2, 3, none⟩ = some (.int .i64 D.wd) ∧ w'.cell? ⟨g2, 4, none⟩ = some (.slice Ac XC.length cc) ∧ w'.cell? ⟨g2, 5, none⟩ = some (.slice Ad XE.length cd) ∧ w'.cell? ⟨g2, 6, none⟩ = some (.slice At_ Xt.length ct_)) (ds := [3]) #[false, false, false, false] (by kernel_rfl) rfl rfl ⟨((blk_cell (OSt.q (OSt.below HS.out (below_drew (Below.refl _ _)))) 0).trans rfl), ((blk_cell (OSt.q (OSt.below HS.out (below_drew (Below.refl _ _)))) 1).trans rfl), ((blk_cell (OSt.q (OSt.below HS.out (below_drew (Below.refl _ _)))) 2).trans rfl), ((blk_cell (OSt.q (OSt.below HS.out (below_drew (Below.refl _ _)))) 3).trans rfl), ((blk_cell (OSt.q (OSt.below HS.out (below_drew (Below.refl _ _)))) 4).trans rfl), ((blk_cell (OSt.q (OSt.below HS.out (below_drew (Below.refl _ _)))) 5).trans rfl), ((blk_cell (OSt.q (OSt.below HS.out (below_drew (Below.refl _ _)))) 6).trans rfl), ((blk_cell (OSt.x (OSt.below HS.out (below_drew (Below.refl _ _)))) 0).trans rfl), ((blk_cell (OSt.x (OSt.below HS.out (below_drew (Below.refl _ _)))) 1).trans rfl), ((blk_cell (OSt.x (OSt.below HS.out (below_drew (Below.refl _ _)))) 2).trans rfl), ((blk_cell (OSt.x (OSt.below HS.out (below_drew (Below.refl _ _)))) 3).trans rfl), ((blk_cell (OSt.x (OSt.below HS.out (below_drew (Below.refl _ _)))) 4).trans rfl), ((blk_cell (OSt.x (OSt.below HS.out (below_drew (Below.refl _ _)))) 5).trans rfl), ((blk_cell (OSt.x (OSt.below HS.out (below_drew (Below.refl _ _)))) 6).trans rfl)⟩ (fun hHeld => ?_)
              generalize wr.drew = w8 at HSD hHeld ⊢
              refine tT 0 (some 111) #[true, false, false, false] hHeld (h := ?_)
              refine tT 1 (some 112) #[true, true, false, false] hHeld (h := ?_)
              refine one_ (i := 2) (N := none) #[true, true, true, false] rfl rfl (by kernel_rfl) (by decide) (fun K hK => ?_)
              have hz1 : w8.heap[y1]? = some (.cells #[.slice none 0 0, .bool false, .bool false, .int .i64 0, .slice none 0 0, .slice none 0 0, .slice none 0 0] 32 (0, 0)) := by rw [EY1.out]; exact HSD.out.z1
              have hs0 := (blk_cell hz1 0).trans rfl
              have hs1 := (blk_cell hz1 1).trans rfl
              have hs2 := (blk_cell hz1 2).trans rfl
              have hs3 := (blk_cell hz1 3).trans rfl
              have hs4 := (blk_cell hz1 4).trans rfl
              have hs5 := (blk_cell hz1 5).trans rfl
              have hs6 := (blk_cell hz1 6).trans rfl
              (try simp only [List.getElem?_toArray, List.getElem?_cons_zero, List.getElem?_cons_succ] at hs0 hs1 hs2 hs3 hs4 hs5 hs6)
              have hf0 := blk_frozen hz1 0
              have hf1 := blk_frozen hz1 1
              have hf2 := blk_frozen hz1 2
              have hf3 := blk_frozen hz1 3
              have hf4 := blk_frozen hz1 4
              have hf5 := blk_frozen hz1 5
              have hf6 := blk_frozen hz1 6
              clear hz1
              refine skip_ (w1 := ?_) (by rfl) rfl ?_ ?_
              rotate_left
              · go_simp
                rfl
              refine hK.out _ _ ⟨((blk_cell ((put7_far g1 (by have := HS.out.h1; have := EY1.out; omega)).trans (OSt.q HSD.out)) 0).trans rfl), ((blk_cell ((put7_far g1 (by have := HS.out.h1; have := EY1.out; omega)).trans (OSt.q HSD.out)) 1).trans rfl), ((blk_cell ((put7_far g1 (by have := HS.out.h1; have := EY1.out; omega)).trans (OSt.q HSD.out)) 2).trans rfl), ((blk_cell ((put7_far g1 (by have := HS.out.h1; have := EY1.out; omega)).trans (OSt.q HSD.out)) 3).trans rfl), ((blk_cell ((put7_far g1 (by have := HS.out.h1; have := EY1.out; omega)).trans (OSt.q HSD.out)) 4).trans rfl), ((blk_cell ((put7_far g1 (by have := HS.out.h1; have := EY1.out; omega)).trans (OSt.q HSD.out)) 5).trans rfl), ((blk_cell ((put7_far g1 (by have := HS.out.h1; have := EY1.out; omega)).trans (OSt.q HSD.out)) 6).trans rfl), ((blk_cell ((put7_far g2 (by have := HS.out.h1; have := HS.out.h2; have := EY1.out; omega)).trans (OSt.x HSD.out)) 0).trans rfl), ((blk_cell ((put7_far g2 (by have := HS.out.h1; have := HS.out.h2; have := EY1.out; omega)).trans (OSt.x HSD.out)) 1).trans rfl), ((blk_cell ((put7_far g2 (by have := HS.out.h1; have := HS.out.h2; have := EY1.out; omega)).trans (OSt.x HSD.out)) 2).trans rfl), ((blk_cell ((put7_far g2 (by have := HS.out.h1; have := HS.out.h2; have := EY1.out; omega)).trans (OSt.x HSD.out)) 3).trans rfl), ((blk_cell ((put7_far g2 (by have := HS.out.h1; have := HS.out.h2; have := EY1.out; omega)).trans (OSt.x HSD.out)) 4).trans rfl), ((blk_cell ((put7_far g2 (by have := HS.out.h1; have := HS.out.h2; have := EY1.out; omega)).trans (OSt.x HSD.out)) 5).trans rfl), ((blk_cell ((put7_far g2 (by have := HS.out.h1; have := HS.out.h2; have := EY1.out; omega)).trans (OSt.x HSD.out)) 6).trans rfl)⟩ (fun hHeld => ?_)
              clear hK K
              refine last_ (i := 3) (N := none) #[true, true, true, true] rfl rfl (by kernel_rfl) (by decide) (fun K hK => ?_)
              have hz2 : (put7 w8 y1 (.slice D.A0 D.l0.length D.c0) (.bool D.bk) (.bool D.al) (.int .i64 D.wd) (.slice Aa XA.length ca) (.slice Ab XB.length cb) (.slice As_ Xs.length cs_)).heap[y2]? = some (.cells #[.slice none 0 0, .bool false, .bool false, .int .i64 0, .slice none 0 0, .slice none 0 0, .slice none 0 0] 25 (0, 0)) := (put7_far _ (by rw [EY1.out, EY2.out]; omega)).trans (by rw [EY2.out]; exact HSD.out.z2)
              unfold put7 at hz2
              generalize hwz : World.setCell _ _ _ = wz at hz2 hHeld ⊢
              have HWZ := Aside0.mk hwz
              clear hwz
              clear hs0 hs1 hs2 hs3 hs4 hs5 hs6 hf0 hf1 hf2 hf3 hf4 hf5 hf6
              have ht0 := (blk_cell hz2 0).trans rfl
              have ht1 := (blk_cell hz2 1).trans rfl
              have ht2 := (blk_cell hz2 2).trans rfl
              have ht3 := (blk_cell hz2 3).trans rfl
              have ht4 := (blk_cell hz2 4).trans rfl
              have ht5 := (blk_cell hz2 5).trans rfl
              have ht6 := (blk_cell hz2 6).trans rfl
              (try simp only [List.getElem?_toArray, List.getElem?_cons_zero, List.getElem?_cons_succ] at ht0 ht1 ht2 ht3 ht4 ht5 ht6)
              have hg0 := blk_frozen hz2 0
              have hg1 := blk_frozen hz2 1
              have hg2 := blk_frozen hz2 2
              have hg3 := blk_frozen hz2 3
              have hg4 := blk_frozen hz2 4
              have hg5 := blk_frozen hz2 5
              have hg6 := blk_frozen hz2 6
              clear hz2
              refine skip_ (w1 := ?_) (by rfl) rfl ?_ ?_
              rotate_left
              · go_simp
                rfl
              refine hK.out _ _ ?_
              clear hK K
              refine done_ (by kernel_rfl) ?_
              clear hHeld
              go_wp2
              obtain ⟨rfl⟩ := HWZ
              obtain ⟨rfl⟩ := EY1
              obtain ⟨rfl⟩ := EY2
              refine bodyPost_ret (results_cc rfl _ _ (w.heap.size + 1) (w.heap.size + 2) 32 25 #[.slice D.A0 D.l0.length D.c0, .bool D.bk, .bool D.al, .int .i64 D.wd, .slice Aa XA.length ca, .slice Ab XB.length cb, .slice As_ Xs.length cs_] #[.slice D.A0 D.l0.length D.c0, .bool D.bk, .bool D.al, .int .i64 D.wd, .slice Ac XC.length cc, .slice Ad XE.length cd, .slice At_ Xt.length ct_] (0, 0) (0, 0) _ _ rfl ?bz1 Tryd.underlying32 rfl (by kernel_rfl) rfl ?bz2 Tryd.underlying25 rfl (by kernel_rfl)) rfl ?_
              case bz1 => exact (put7_far _ (by omega)).trans (put7_at HSD.out.z1)
              case bz2 => exact put7_at ((put7_far _ (by omega)).trans HSD.out.z2)
              refine ⟨f, _, _, _, _, _, _, rfl, ORows.step HSD.out.R (put7_below (put7_below HSD.out.R.Bl (by omega)) (by omega)) (fun k m hm e_ hk => (put7_far k ?_).trans (put7_far k ?_))⟩
              · intro e2_; subst e2_; have h9_ : f (w.heap.size + 1 + 1) = 9 := HSD.out.f2; omega
              · intro e2_; subst e2_; have := HSD.out.f1; omega
end Go.Proofs.YtanpghbakbebiaaDoor.P

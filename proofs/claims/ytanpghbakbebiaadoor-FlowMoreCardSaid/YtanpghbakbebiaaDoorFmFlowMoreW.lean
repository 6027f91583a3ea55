/- A part of it. -/
import Derived.Test.YtanpghbakbebiaaDoorFmZ
import Derived.Test.YtanpghbakbebiaaDoorFmM48
import Derived.Test.YtanpghbakbebiaaDoorFmM47
import Derived.Test.YtanpghbakbebiaaDoorFmP0
import Derived.Test.YtanpghbakbebiaaDoorFmP1
import Derived.Test.YtanpghbakbebiaaDoorFmP2
import Derived.Test.YtanpghbakbebiaaDoorFmP5
import Derived.Test.YtanpghbakbebiaaDoorFmP7
import Derived.Test.YtanpghbakbebiaaDoorFmP8
import Derived.Test.YtanpghbakbebiaaDoorFmP17
import Derived.Outline
set_option linter.unusedVariables false
set_option linter.unusedSimpArgs false
namespace Go.Proofs.YtanpghbakbebiaaDoor.P
open Go Go.RowKit Go.Proofs.YtanpghbakbebiaaDoorW.PrintWords Go.Proofs.YtanpghbakbebiaaDoorW.PrintLast Go.Proofs.YtanpghbakbebiaaDoorW.PrintMore
theorem N_put1 {ok : Nat → Prop} {e g base n cap : Nat} {W : World} {xs : List (List Int)} (h : Kd.N (Kd.slice 72 (Kd.int .u64)) e W base ok (.slice (some ⟨g, 0, none⟩) n cap) xs) (i : Nat) (hi : i < n) {A : Option Addr} {c : Nat} {x : List Int} (hl : x.length ≤ c) (hx : Kd.F (Kd.int .u64) W (fun k => ok k ∧ k ≠ g) A x.length x) : Kd.N (Kd.slice 72 (Kd.int .u64)) e (W.setCell ⟨g, i, none⟩ (.slice A x.length c)) base ok (.slice (some ⟨g, 0, none⟩) n cap) (xs.set i x) := by
 obtain ⟨cl, h1, h2, h3, h4⟩ := Kd.N_elem h ([] : List Int) (i : Int) (by omega) (by omega)
 have hc1 : cl.length = 1 := h1
 have := (Kd.N_seg h (i : Int) (by omega) (by omega) (seg := [.slice A x.length c]) (j := 0) h1 h3 (show 0 + 1 ≤ 1 by omega) (x' := x) (by
  have e1 : cl.take 0 ++ [Value.slice A x.length c] ++ cl.drop (0 + [Value.slice A x.length c].length) = [Value.slice A x.length c] := by
   simp [List.drop_eq_nil_of_le (show cl.length ≤ 1 by omega)]
  rw [e1]
  exact Kd.FK_slice_mk hl hx) (fun k hk => hk)).1
 simpa [World.setCells, Kd.slice, Kd.raw] using this
theorem N_at1 {ok : Nat → Prop} {e g base n cap : Nat} {W : World} {xs : List (List Int)} (h : Kd.N (Kd.slice 72 (Kd.int .u64)) e W base ok (.slice (some ⟨g, 0, none⟩) n cap) xs) (i : Nat) (hi : i < n) : ∃ A c, W.cell? ⟨g, i, none⟩ = some (.slice A (xs.getD i []).length c) ∧ W.frozen? ⟨g, i, none⟩ = false ∧ (xs.getD i []).length ≤ c ∧ Kd.F (Kd.int .u64) W (fun k => ok k ∧ k ≠ g) A (xs.getD i []).length (xs.getD i []) := by
 obtain ⟨cl, h1, h2, h3, h4⟩ := Kd.N_elem h ([] : List Int) (i : Int) (by omega) (by omega)
 rw [Int.toNat_natCast] at h2
 obtain ⟨A, c, rfl, hl, hf⟩ := Kd.FK_slice_open h2
 refine ⟨A, c, ?_, ?_, hl, hf⟩
 ·have := h3 0 _ rfl
  simpa [Kd.slice, Kd.raw] using this
 ·have := h4 0
  simpa [Kd.slice, Kd.raw] using this
set_option maxHeartbeats 16000000 in
set_option maxRecDepth 100000 in
theorem more_no (D : RD) (kk fact : Int) (k : Nat) (w : World) (hT : TabW w) (hD : D.Ok w) (h0 : balustradelaw18_few.f k D.l0 D.bk D.al D.wd D.l4 D.l5 D.l6 = some false) (hw : balustradelaw18_works.f k = some true) :
  Calls Tryd.prog 4 #[.agg #[.slice D.A0 D.l0.length D.c0, .bool D.bk, .bool D.al, .int .i64 D.wd, .slice D.A4 D.l4.length D.c4, .slice D.A5 D.l5.length D.c5, .slice D.A6 D.l6.length D.c6], .int .u8 kk, .int .u8 fact] w fun e w' => e = .returned (.bool true) ∧ Below w.heap.size w w' := by
 have hu25 := Tryd.underlying25
 have hu32 := Tryd.underlying32
 have hu36 := Tryd.underlying36
 have HT := Aside0.mk hT
 have HD := Aside0.mk hD
 have H0 := Aside0.mk h0
 have HWK := Aside0.mk hw
 have HL := Aside0.mk (LW.start w)
 clear hT hD h0 hw
 go_enter Tryd.func4, Tryd.ntmps4
 go_wp2_with (first | ((with_reducible refine gate_dst (N := 3) rfl ?_); (try (refine gate_guard (by rfl) ?_; dsimp only)); refine box_event ?hg (N := 3) ?hd (cs := #[.slice D.A0 D.l0.length D.c0, .bool D.bk, .bool D.al, .int .i64 D.wd, .slice D.A4 D.l4.length D.c4, .slice D.A5 D.l5.length D.c5, .slice D.A6 D.l6.length D.c6]) (t := 25) ?hr ?_; (case hd => rfl); (case hg => rfl); (case hr => first | (go_simp; done) | (go_simp; rfl)); intro gp hg w1 hbox hb; have HL9 := Aside0.mk (LW.add HL.out hb hbox); clear HL; have HL := HL9; clear HL9; have HGP : Aside0 (w.heap.size ≤ gp) := ⟨by omega⟩; clear hbox hb hg; (try clear p0 p1 p2 p3 p4 p5 p6); have p0 := (blk_cell HL.out.b0 0).trans rfl; have p1 := (blk_cell HL.out.b0 1).trans rfl; have p2 := (blk_cell HL.out.b0 2).trans rfl; have p3 := (blk_cell HL.out.b0 3).trans rfl; have p4 := (blk_cell HL.out.b0 4).trans rfl; have p5 := (blk_cell HL.out.b0 5).trans rfl; have p6 := (blk_cell HL.out.b0 6).trans rfl; (try simp only [List.getElem?_toArray, List.getElem?_cons_zero, List.getElem?_cons_succ] at p0 p1 p2 p3 p4 p5 p6)) | ((with_reducible refine gate_callee (f := 6) rfl ?_); refine goesL_ (some 17) rfl rfl Tryd.func6 (by kernel_rfl) rfl #[.agg #[.slice D.A0 D.l0.length D.c0, .bool D.bk, .bool D.al, .int .i64 D.wd, .slice D.A4 D.l4.length D.c4, .slice D.A5 D.l5.length D.c5, .slice D.A6 D.l6.length D.c6]] rfl zE ?_; (with_reducible refine (balustradelaw18_few.calls k D.A0 D.c0 D.l0 D.bk D.al D.wd D.A4 D.c4 D.l4 D.A5 D.c5 D.l5 D.A6 D.c6 D.l6 false _ (RD.Ok.below HD.out HL.out.B).r0 (RD.Ok.below HD.out HL.out.B).c0 (RD.Ok.below HD.out HL.out.B).r4 (RD.Ok.below HD.out HL.out.B).c4 (RD.Ok.below HD.out HL.out.B).r5 (RD.Ok.below HD.out HL.out.B).c5 (RD.Ok.below HD.out HL.out.B).r6 (RD.Ok.below HD.out HL.out.B).c6 H0.out).mono ?_); rintro e w2 ⟨rfl, hb⟩; refine ⟨_, rfl, ?_⟩; have HL9 := Aside0.mk (LW.below HL.out hb); clear HL; have HL := HL9; clear HL9; clear hb; (try clear p0 p1 p2 p3 p4 p5 p6); have p0 := (blk_cell HL.out.b0 0).trans rfl; have p1 := (blk_cell HL.out.b0 1).trans rfl; have p2 := (blk_cell HL.out.b0 2).trans rfl; have p3 := (blk_cell HL.out.b0 3).trans rfl; have p4 := (blk_cell HL.out.b0 4).trans rfl; have p5 := (blk_cell HL.out.b0 5).trans rfl; have p6 := (blk_cell HL.out.b0 6).trans rfl; (try simp only [List.getElem?_toArray, List.getElem?_cons_zero, List.getElem?_cons_succ] at p0 p1 p2 p3 p4 p5 p6)) | ((with_reducible refine gate_callee (f := 7) rfl ?_); refine goesL_ (some 25) rfl rfl Tryd.func7 (by kernel_rfl) rfl #[] rfl zE ?_; (with_reducible refine (balustradelaw18_works.calls k true _ (TabW.below HT.out HL.out.B) HWK.out).mono ?_); rintro e w9 ⟨rfl, hb⟩; refine ⟨_, rfl, ?_⟩; have HL9 := Aside0.mk (LW.below HL.out hb); clear HL; have HL := HL9; clear HL9; clear hb; (try clear p0 p1 p2 p3 p4 p5 p6); have p0 := (blk_cell HL.out.b0 0).trans rfl; have p1 := (blk_cell HL.out.b0 1).trans rfl; have p2 := (blk_cell HL.out.b0 2).trans rfl; have p3 := (blk_cell HL.out.b0 3).trans rfl; have p4 := (blk_cell HL.out.b0 4).trans rfl; have p5 := (blk_cell HL.out.b0 5).trans rfl; have p6 := (blk_cell HL.out.b0 6).trans rfl; (try simp only [List.getElem?_toArray, List.getElem?_cons_zero, List.getElem?_cons_succ] at p0 p1 p2 p3 p4 p5 p6)))
 go_ret
 exact ⟨rfl, HL.out.B⟩
set_option maxHeartbeats 16000000 in
set_option maxRecDepth 100000 in
theorem more_zero (D : RD) (kk fact : Int) (k : Nat) (w : World) (hT : TabW w) (hD : D.Ok w) (h0 : balustradelaw18_few.f k D.l0 D.bk D.al D.wd D.l4 D.l5 D.l6 = some true) (hG : D.l4 = []) (hw : balustradelaw18_works.f k = some true) :
  Calls Tryd.prog 4 #[.agg #[.slice D.A0 D.l0.length D.c0, .bool D.bk, .bool D.al, .int .i64 D.wd, .slice D.A4 D.l4.length D.c4, .slice D.A5 D.l5.length D.c5, .slice D.A6 D.l6.length D.c6], .int .u8 kk, .int .u8 fact] w fun e w' => e = .returned (.bool true) ∧ Below w.heap.size w w' := by
 have hu25 := Tryd.underlying25
 have hu32 := Tryd.underlying32
 have hu36 := Tryd.underlying36
 have HT := Aside0.mk hT
 have HD := Aside0.mk hD
 have b0 : ((D.l4.length : Int) == 0) = true := by rw [hG]; rfl
 clear hG
 have H0 := Aside0.mk h0
 have HWK := Aside0.mk hw
 have HL := Aside0.mk (LW.start w)
 clear hT hD h0 hw
 go_enter Tryd.func4, Tryd.ntmps4
 go_wp2_with (first | ((with_reducible refine gate_dst (N := 3) rfl ?_); (try (refine gate_guard (by rfl) ?_; dsimp only)); refine box_event ?hg (N := 3) ?hd (cs := #[.slice D.A0 D.l0.length D.c0, .bool D.bk, .bool D.al, .int .i64 D.wd, .slice D.A4 D.l4.length D.c4, .slice D.A5 D.l5.length D.c5, .slice D.A6 D.l6.length D.c6]) (t := 25) ?hr ?_; (case hd => rfl); (case hg => rfl); (case hr => first | (go_simp; done) | (go_simp; rfl)); intro gp hg w1 hbox hb; have HL9 := Aside0.mk (LW.add HL.out hb hbox); clear HL; have HL := HL9; clear HL9; have HGP : Aside0 (w.heap.size ≤ gp) := ⟨by omega⟩; clear hbox hb hg; (try clear p0 p1 p2 p3 p4 p5 p6); have p0 := (blk_cell HL.out.b0 0).trans rfl; have p1 := (blk_cell HL.out.b0 1).trans rfl; have p2 := (blk_cell HL.out.b0 2).trans rfl; have p3 := (blk_cell HL.out.b0 3).trans rfl; have p4 := (blk_cell HL.out.b0 4).trans rfl; have p5 := (blk_cell HL.out.b0 5).trans rfl; have p6 := (blk_cell HL.out.b0 6).trans rfl; (try simp only [List.getElem?_toArray, List.getElem?_cons_zero, List.getElem?_cons_succ] at p0 p1 p2 p3 p4 p5 p6)) | ((with_reducible refine gate_callee (f := 6) rfl ?_); refine goesL_ (some 17) rfl rfl Tryd.func6 (by kernel_rfl) rfl #[.agg #[.slice D.A0 D.l0.length D.c0, .bool D.bk, .bool D.al, .int .i64 D.wd, .slice D.A4 D.l4.length D.c4, .slice D.A5 D.l5.length D.c5, .slice D.A6 D.l6.length D.c6]] rfl zE ?_; (with_reducible refine (balustradelaw18_few.calls k D.A0 D.c0 D.l0 D.bk D.al D.wd D.A4 D.c4 D.l4 D.A5 D.c5 D.l5 D.A6 D.c6 D.l6 true _ (RD.Ok.below HD.out HL.out.B).r0 (RD.Ok.below HD.out HL.out.B).c0 (RD.Ok.below HD.out HL.out.B).r4 (RD.Ok.below HD.out HL.out.B).c4 (RD.Ok.below HD.out HL.out.B).r5 (RD.Ok.below HD.out HL.out.B).c5 (RD.Ok.below HD.out HL.out.B).r6 (RD.Ok.below HD.out HL.out.B).c6 H0.out).mono ?_); rintro e w2 ⟨rfl, hb⟩; refine ⟨_, rfl, ?_⟩; have HL9 := Aside0.mk (LW.below HL.out hb); clear HL; have HL := HL9; clear HL9; clear hb; (try clear p0 p1 p2 p3 p4 p5 p6); have p0 := (blk_cell HL.out.b0 0).trans rfl; have p1 := (blk_cell HL.out.b0 1).trans rfl; have p2 := (blk_cell HL.out.b0 2).trans rfl; have p3 := (blk_cell HL.out.b0 3).trans rfl; have p4 := (blk_cell HL.out.b0 4).trans rfl; have p5 := (blk_cell HL.out.b0 5).trans rfl; have p6 := (blk_cell HL.out.b0 6).trans rfl; (try simp only [List.getElem?_toArray, List.getElem?_cons_zero, List.getElem?_cons_succ] at p0 p1 p2 p3 p4 p5 p6)) | ((with_reducible refine gate_callee (f := 7) rfl ?_); refine goesL_ (some 25) rfl rfl Tryd.func7 (by kernel_rfl) rfl #[] rfl zE ?_; (with_reducible refine (balustradelaw18_works.calls k true _ (TabW.below HT.out HL.out.B) HWK.out).mono ?_); rintro e w9 ⟨rfl, hb⟩; refine ⟨_, rfl, ?_⟩; have HL9 := Aside0.mk (LW.below HL.out hb); clear HL; have HL := HL9; clear HL9; clear hb; (try clear p0 p1 p2 p3 p4 p5 p6); have p0 := (blk_cell HL.out.b0 0).trans rfl; have p1 := (blk_cell HL.out.b0 1).trans rfl; have p2 := (blk_cell HL.out.b0 2).trans rfl; have p3 := (blk_cell HL.out.b0 3).trans rfl; have p4 := (blk_cell HL.out.b0 4).trans rfl; have p5 := (blk_cell HL.out.b0 5).trans rfl; have p6 := (blk_cell HL.out.b0 6).trans rfl; (try simp only [List.getElem?_toArray, List.getElem?_cons_zero, List.getElem?_cons_succ] at p0 p1 p2 p3 p4 p5 p6)))
 go_ret
 exact ⟨rfl, HL.out.B⟩
set_option maxHeartbeats 16000000 in
set_option maxRecDepth 100000 in
theorem more_bad (D : RD) (kk fact : Int) (k : Nat) (t s : List Int) (A C B E : List (List Int)) (w : World) (hT : TabW w) (hD : D.Ok w) (h0 : balustradelaw18_few.f k D.l0 D.bk D.al D.wd D.l4 D.l5 D.l6 = some true) (hG : 0 < D.l4.length) (h1 : of_f k D.wd D.l4 D.l5 D.l6 = some (t, s, (A, C), (B, E))) (h2 : flow_Solve.f k D.l0 D.bk D.al D.wd A B s = some ([], [], false)) (hw : balustradelaw18_works.f k = some true) :
  Calls Tryd.prog 4 #[.agg #[.slice D.A0 D.l0.length D.c0, .bool D.bk, .bool D.al, .int .i64 D.wd, .slice D.A4 D.l4.length D.c4, .slice D.A5 D.l5.length D.c5, .slice D.A6 D.l6.length D.c6], .int .u8 kk, .int .u8 fact] w fun e w' => e = .returned (.bool true) ∧ Below w.heap.size w w' := by
 have hu25 := Tryd.underlying25
 have hu32 := Tryd.underlying32
 have hu36 := Tryd.underlying36
 have HT := Aside0.mk hT
 have HD := Aside0.mk hD
 have b0 : ((D.l4.length : Int) == 0) = false := by rw [beq_eq_false_iff_ne]; omega
 clear hG
 have H0 := Aside0.mk h0
 have H1 := Aside0.mk h1
 have H2 := Aside0.mk h2
 have HWK := Aside0.mk hw
 have HL := Aside0.mk (LW.start w)
 clear hT hD h0 h1 h2 hw
 go_enter Tryd.func4, Tryd.ntmps4
 go_upto_region 4 with (first | ((with_reducible refine gate_dst (N := 3) rfl ?_); (try (refine gate_guard (by rfl) ?_; dsimp only)); refine box_event ?hg (N := 3) ?hd (cs := #[.slice D.A0 D.l0.length D.c0, .bool D.bk, .bool D.al, .int .i64 D.wd, .slice D.A4 D.l4.length D.c4, .slice D.A5 D.l5.length D.c5, .slice D.A6 D.l6.length D.c6]) (t := 25) ?hr ?_; (case hd => rfl); (case hg => rfl); (case hr => first | (go_simp; done) | (go_simp; rfl)); intro gp hg w1 hbox hb; have HL9 := Aside0.mk (LW.add HL.out hb hbox); clear HL; have HL := HL9; clear HL9; have HGP : Aside0 (w.heap.size ≤ gp) := ⟨by omega⟩; clear hbox hb hg; (try clear p0 p1 p2 p3 p4 p5 p6); have p0 := (blk_cell HL.out.b0 0).trans rfl; have p1 := (blk_cell HL.out.b0 1).trans rfl; have p2 := (blk_cell HL.out.b0 2).trans rfl; have p3 := (blk_cell HL.out.b0 3).trans rfl; have p4 := (blk_cell HL.out.b0 4).trans rfl; have p5 := (blk_cell HL.out.b0 5).trans rfl; have p6 := (blk_cell HL.out.b0 6).trans rfl; (try simp only [List.getElem?_toArray, List.getElem?_cons_zero, List.getElem?_cons_succ] at p0 p1 p2 p3 p4 p5 p6)) | ((with_reducible refine gate_callee (f := 6) rfl ?_); refine goesL_ (some 17) rfl rfl Tryd.func6 (by kernel_rfl) rfl #[.agg #[.slice D.A0 D.l0.length D.c0, .bool D.bk, .bool D.al, .int .i64 D.wd, .slice D.A4 D.l4.length D.c4, .slice D.A5 D.l5.length D.c5, .slice D.A6 D.l6.length D.c6]] rfl zE ?_; (with_reducible refine (balustradelaw18_few.calls k D.A0 D.c0 D.l0 D.bk D.al D.wd D.A4 D.c4 D.l4 D.A5 D.c5 D.l5 D.A6 D.c6 D.l6 true _ (RD.Ok.below HD.out HL.out.B).r0 (RD.Ok.below HD.out HL.out.B).c0 (RD.Ok.below HD.out HL.out.B).r4 (RD.Ok.below HD.out HL.out.B).c4 (RD.Ok.below HD.out HL.out.B).r5 (RD.Ok.below HD.out HL.out.B).c5 (RD.Ok.below HD.out HL.out.B).r6 (RD.Ok.below HD.out HL.out.B).c6 H0.out).mono ?_); rintro e w2 ⟨rfl, hb⟩; refine ⟨_, rfl, ?_⟩; have HL9 := Aside0.mk (LW.below HL.out hb); clear HL; have HL := HL9; clear HL9; clear hb; (try clear p0 p1 p2 p3 p4 p5 p6); have p0 := (blk_cell HL.out.b0 0).trans rfl; have p1 := (blk_cell HL.out.b0 1).trans rfl; have p2 := (blk_cell HL.out.b0 2).trans rfl; have p3 := (blk_cell HL.out.b0 3).trans rfl; have p4 := (blk_cell HL.out.b0 4).trans rfl; have p5 := (blk_cell HL.out.b0 5).trans rfl; have p6 := (blk_cell HL.out.b0 6).trans rfl; (try simp only [List.getElem?_toArray, List.getElem?_cons_zero, List.getElem?_cons_succ] at p0 p1 p2 p3 p4 p5 p6)) | ((with_reducible refine gate_callee (f := 8) rfl ?_); refine goesL_ (some 28) rfl rfl Tryd.func8 (by kernel_rfl) rfl #[.agg #[.slice D.A0 D.l0.length D.c0, .bool D.bk, .bool D.al, .int .i64 D.wd, .slice D.A4 D.l4.length D.c4, .slice D.A5 D.l5.length D.c5, .slice D.A6 D.l6.length D.c6]] rfl zE ?_; (with_reducible refine (of_at D k t s A C B E _ (RD.Ok.below HD.out HL.out.B) H1.out).mono ?_); rintro e w3 ⟨f_, va, vb, vs, vc, vd, vt, rfl, hrows⟩; refine ⟨_, rfl, ?_⟩; obtain ⟨Aa, ca, e1_⟩ := Kd.S_slice hrows.a; obtain ⟨Ab, cb, e2_⟩ := Kd.S_slice hrows.b; obtain ⟨As, cs, e3_⟩ := Kd.R_slice hrows.s; obtain ⟨Ac, cc, e4_⟩ := Kd.S_slice hrows.c; obtain ⟨Ad, cd, e5_⟩ := Kd.S_slice hrows.d; obtain ⟨At, ct, e6_⟩ := Kd.R_slice hrows.t; dsimp only at e1_ e2_ e3_ e4_ e5_ e6_; subst e1_ e2_ e3_ e4_ e5_ e6_; have HL9 := Aside0.mk (LW.now (LW.below HL.out hrows.Bl)); have HQ := Aside0.mk (PD.Ok.mk (D := ⟨D.A0, D.c0, D.l0, D.bk, D.al, D.wd, Aa, ca, A, Ab, cb, B, As, cs, s⟩) (RD.Ok.below HD.out HL9.out.B).r0 HD.out.c0 (Kd.S_reads' hrows.a).2.2 (Kd.S_reads' hrows.a).2.1 (Kd.S_reads' hrows.b).2.2 (Kd.S_reads' hrows.b).2.1 (Kd.R_reads' hrows.s).2.2 (Kd.R_reads' hrows.s).2.1); have HX := Aside0.mk (RD.Ok.mk (D := ⟨D.A0, D.c0, D.l0, D.bk, D.al, D.wd, Ac, cc, C, Ad, cd, E, At, ct, t⟩) (RD.Ok.below HD.out HL9.out.B).r0 HD.out.c0 (Kd.S_reads' hrows.c).2.2 (Kd.S_reads' hrows.c).2.1 (Kd.S_reads' hrows.d).2.2 (Kd.S_reads' hrows.d).2.1 (Kd.R_reads' hrows.t).2.2 (Kd.R_reads' hrows.t).2.1); clear HL hrows; have HL := HL9; clear HL9; have HZ3 := Aside0.mk (Nat.le_refl w3.heap.size)) | ((with_reducible refine gate_dst (N := 7) rfl ?_); (try (refine gate_guard (by rfl) ?_; dsimp only)); refine box_event ?hg (N := 7) ?hd (cs := #[.slice none 0 0, .bool false, .bool false, .int .i64 0, .slice none 0 0, .slice none 0 0, .slice none 0 0]) (t := 32) ?hr ?_; (case hd => rfl); (case hg => rfl); (case hr => first | (go_simp; done) | (go_simp; rfl)); intro gq hg w4 hbox hb; have HGQ : Aside0 (w3.heap.size ≤ gq ∧ w.heap.size ≤ gq ∧ gp ≠ gq) := ⟨⟨by omega, by have := HL.out.B.size; omega, by have := blk_lt HL.out.b0; omega⟩⟩; have HL9 := Aside0.mk (LW.add HL.out hb hbox); clear HL; have HL := HL9; clear HL9; clear hbox hb hg) | ((with_reducible refine gate_dst (N := 8) rfl ?_); (try (refine gate_guard (by rfl) ?_; dsimp only)); refine box_event ?hg (N := 8) ?hd (cs := #[.slice none 0 0, .bool false, .bool false, .int .i64 0, .slice none 0 0, .slice none 0 0, .slice none 0 0]) (t := 25) ?hr ?_; (case hd => rfl); (case hg => rfl); (case hr => first | (go_simp; done) | (go_simp; rfl)); intro gx hg w5 hbox hb; have HGX : Aside0 (w3.heap.size ≤ gx ∧ w.heap.size ≤ gx ∧ gp ≠ gx ∧ gq ≠ gx) := ⟨⟨by have := HL.out.Bb.size; omega, by have := HL.out.B.size; omega, by have := blk_lt HL.out.b1; omega, by have := blk_lt HL.out.b0; omega⟩⟩; have HL9 := Aside0.mk (LW.add HL.out hb hbox); clear HL; have HL := HL9; clear HL9; clear hbox hb hg; (try clear q0 q1 q2 q3 q4 q5 q6); have q0 := (blk_cell HL.out.b1 0).trans rfl; have q1 := (blk_cell HL.out.b1 1).trans rfl; have q2 := (blk_cell HL.out.b1 2).trans rfl; have q3 := (blk_cell HL.out.b1 3).trans rfl; have q4 := (blk_cell HL.out.b1 4).trans rfl; have q5 := (blk_cell HL.out.b1 5).trans rfl; have q6 := (blk_cell HL.out.b1 6).trans rfl; (try simp only [List.getElem?_toArray, List.getElem?_cons_zero, List.getElem?_cons_succ] at q0 q1 q2 q3 q4 q5 q6); have qf0 := blk_frozen HL.out.b1 0; have qf1 := blk_frozen HL.out.b1 1; have qf2 := blk_frozen HL.out.b1 2; have qf3 := blk_frozen HL.out.b1 3; have qf4 := blk_frozen HL.out.b1 4; have qf5 := blk_frozen HL.out.b1 5; have qf6 := blk_frozen HL.out.b1 6) | ((with_reducible refine gate_store (t := 32) (p := 7) rfl ?_); refine store_event (t := 32) (p := 7) (v := ?vo_) (w1 := (put7 w5 gq (.slice D.A0 D.l0.length D.c0) (.bool D.bk) (.bool D.al) (.int .i64 D.wd) (.slice Aa A.length ca) (.slice Ab B.length cb) (.slice As s.length cs))) ?hg ?ho ?hn ?hr ?_; (case ho => rfl); (case hg => rfl); (case hn => rfl); (case hr => first | (go_simp; done) | (go_simp; rfl)); intro w6 hw; have HL9 := Aside0.mk (LW.put1 (W1 := w6) HL.out (by rw [hw]; exact put7_below HL.out.B HGQ.out.2.1) (by rw [hw]; exact put7_below HL.out.Bb HGQ.out.1) (fun k_ hk_ => by rw [hw]; exact put7_far k_ hk_) (by rw [hw]; exact put7_at HL.out.b1) (fun p_ hp_ => by rcases List.mem_cons.1 hp_ with rfl | hp_; exact fun e_ => HGX.out.2.2.2 e_.symm; rw [List.mem_singleton.1 hp_]; exact HGQ.out.2.2)); clear HL hw q0 q1 q2 q3 q4 q5 q6 qf0 qf1 qf2 qf3 qf4 qf5 qf6; have HL := HL9; clear HL9; (try clear x0 x1 x2 x3 x4 x5 x6); have x0 := (blk_cell HL.out.b0 0).trans rfl; have x1 := (blk_cell HL.out.b0 1).trans rfl; have x2 := (blk_cell HL.out.b0 2).trans rfl; have x3 := (blk_cell HL.out.b0 3).trans rfl; have x4 := (blk_cell HL.out.b0 4).trans rfl; have x5 := (blk_cell HL.out.b0 5).trans rfl; have x6 := (blk_cell HL.out.b0 6).trans rfl; (try simp only [List.getElem?_toArray, List.getElem?_cons_zero, List.getElem?_cons_succ] at x0 x1 x2 x3 x4 x5 x6); have xf0 := blk_frozen HL.out.b0 0; have xf1 := blk_frozen HL.out.b0 1; have xf2 := blk_frozen HL.out.b0 2; have xf3 := blk_frozen HL.out.b0 3; have xf4 := blk_frozen HL.out.b0 4; have xf5 := blk_frozen HL.out.b0 5; have xf6 := blk_frozen HL.out.b0 6))
 have HL9 := Aside0.mk (LW.put0 (W1 := (put7 w6 gx (.slice D.A0 D.l0.length D.c0) (.bool D.bk) (.bool D.al) (.int .i64 D.wd) (.slice Ac C.length cc) (.slice Ad E.length cd) (.slice At t.length ct))) HL.out (put7_below HL.out.B HGX.out.2.1) (put7_below HL.out.Bb HGX.out.1) (fun k_ hk_ => put7_far k_ hk_) (put7_at HL.out.b0) (fun p_ hp_ => by rcases List.mem_cons.1 hp_ with rfl | hp_; exact HGX.out.2.2.2; rw [List.mem_singleton.1 hp_]; exact HGX.out.2.2.1))
 clear HL x0 x1 x2 x3 x4 x5 x6 xf0 xf1 xf2 xf3 xf4 xf5 xf6
 have HL := HL9
 clear HL9
 unfold put7 at HL
 generalize World.setCell _ _ _ = w7 at *
 (try clear x0 x1 x2 x3 x4 x5 x6)
 have x0 := (blk_cell HL.out.b0 0).trans rfl
 have x1 := (blk_cell HL.out.b0 1).trans rfl
 have x2 := (blk_cell HL.out.b0 2).trans rfl
 have x3 := (blk_cell HL.out.b0 3).trans rfl
 have x4 := (blk_cell HL.out.b0 4).trans rfl
 have x5 := (blk_cell HL.out.b0 5).trans rfl
 have x6 := (blk_cell HL.out.b0 6).trans rfl
 (try simp only [List.getElem?_toArray, List.getElem?_cons_zero, List.getElem?_cons_succ] at x0 x1 x2 x3 x4 x5 x6)
 (try clear q0 q1 q2 q3 q4 q5 q6)
 have q0 := (blk_cell HL.out.b1 0).trans rfl
 have q1 := (blk_cell HL.out.b1 1).trans rfl
 have q2 := (blk_cell HL.out.b1 2).trans rfl
 have q3 := (blk_cell HL.out.b1 3).trans rfl
 have q4 := (blk_cell HL.out.b1 4).trans rfl
 have q5 := (blk_cell HL.out.b1 5).trans rfl
 have q6 := (blk_cell HL.out.b1 6).trans rfl
 (try simp only [List.getElem?_toArray, List.getElem?_cons_zero, List.getElem?_cons_succ] at q0 q1 q2 q3 q4 q5 q6)
 (try clear p0 p1 p2 p3 p4 p5 p6)
 have p0 := (blk_cell HL.out.b2 0).trans rfl
 have p1 := (blk_cell HL.out.b2 1).trans rfl
 have p2 := (blk_cell HL.out.b2 2).trans rfl
 have p3 := (blk_cell HL.out.b2 3).trans rfl
 have p4 := (blk_cell HL.out.b2 4).trans rfl
 have p5 := (blk_cell HL.out.b2 5).trans rfl
 have p6 := (blk_cell HL.out.b2 6).trans rfl
 (try simp only [List.getElem?_toArray, List.getElem?_cons_zero, List.getElem?_cons_succ] at p0 p1 p2 p3 p4 p5 p6)
 go_upto_region 5 with (first | ((with_reducible refine gate_callee (f := 9) rfl ?_); refine goesL_ (some 33) rfl rfl Tryd.func9 (by kernel_rfl) rfl #[.agg #[.slice D.A0 D.l0.length D.c0, .bool D.bk, .bool D.al, .int .i64 D.wd, .slice Aa A.length ca, .slice Ab B.length cb, .slice As s.length cs]] rfl zE ?_; (with_reducible refine (flow_Solve.calls k D.A0 D.c0 D.l0 D.bk D.al D.wd Aa ca A Ab cb B As cs s _ _ _ _ (TabW.below HT.out HL.out.B) (PD.Ok.below HQ.out HL.out.Bb).r0 (PD.Ok.below HQ.out HL.out.Bb).c0 (PD.Ok.below HQ.out HL.out.Bb).r4 (PD.Ok.below HQ.out HL.out.Bb).c4 (PD.Ok.below HQ.out HL.out.Bb).r5 (PD.Ok.below HQ.out HL.out.Bb).c5 (PD.Ok.below HQ.out HL.out.Bb).r6 (PD.Ok.below HQ.out HL.out.Bb).c6 H2.out).mono ?_); rintro e w8 ⟨v0, v1, rfl, hn0, hn1, hb⟩; refine ⟨_, rfl, ?_⟩; obtain ⟨A0, c0, e0_, hc0, hr0⟩ := Kd.N_reads hn0; obtain ⟨A1, c1, e1_, hc1, hr1⟩ := Kd.N_reads hn1; subst e0_ e1_; have HN0 := Aside0.mk hn0; have HN1 := Aside0.mk hn1; have HL9 := Aside0.mk (LW.below HL.out hb); clear HL; have HL := HL9; clear HL9; have HF := Aside0.mk (And.intro hr0 hc0); have HTT := Aside0.mk (And.intro hr1 hc1); have HB8 := Aside0.mk (Below.refl w8.heap.size w8); clear hn0 hn1 hb hc0 hr0 hc1 hr1) | ((with_reducible refine gate_dst (N := 9) rfl ?_); (try (refine gate_guard (by rfl) ?_; dsimp only)); refine box_event ?hg (N := 9) ?hd (cs := #[.slice none 0 0, .slice none 0 0]) (t := 36) ?hr ?_; (case hd => rfl); (case hg => rfl); (case hr => first | (go_simp; done) | (go_simp; rfl)); intro gs hg w10 hbox hb; have HGS : Aside0 (w8.heap.size ≤ gs ∧ w3.heap.size ≤ gs ∧ w.heap.size ≤ gs ∧ gp ≠ gs ∧ gq ≠ gs ∧ gx ≠ gs) := ⟨⟨by omega, by have := HL.out.Bb.size; omega, by have := HL.out.B.size; omega, by have := blk_lt HL.out.b2; omega, by have := blk_lt HL.out.b1; omega, by have := blk_lt HL.out.b0; omega⟩⟩; have HB89 := Aside0.mk (below_step HB8.out hb); clear HB8; have HB8 := HB89; clear HB89; have HL9 := Aside0.mk (LW.add HL.out hb hbox); clear HL; have HL := HL9; clear HL9; clear hbox hb hg; (try clear s_0 s_1); have s_0 := (blk_cell HL.out.b0 0).trans rfl; have s_1 := (blk_cell HL.out.b0 1).trans rfl; (try simp only [List.getElem?_toArray, List.getElem?_cons_zero, List.getElem?_cons_succ] at s_0 s_1); have sf0 := blk_frozen HL.out.b0 0; have sf1 := blk_frozen HL.out.b0 1))
 have HL9 := Aside0.mk (LW.put0 (W1 := ((w10.setCell ⟨gs, 0, none⟩ (.slice A0 0 c0)).setCell ⟨gs, 1, none⟩ (.slice A1 0 c1))) (o' := .cells #[.slice A0 0 c0, .slice A1 0 c1] 36 (0, 0)) HL.out ((HL.out.B.setCell (by exact HGS.out.2.2.1) _).setCell (by exact HGS.out.2.2.1) _) ((HL.out.Bb.setCell (by exact HGS.out.2.1) _).setCell (by exact HGS.out.2.1) _) (fun k_ hk_ => by rw [Below.heap_setCell _ _ _ _ hk_, Below.heap_setCell _ _ _ _ hk_]) (blk_put (cs := #[.slice A0 0 c0, .slice none 0 0]) (blk_put (cs := #[.slice none 0 0, .slice none 0 0]) HL.out.b0 0 _ rfl) 1 _ rfl) (fun p_ hp_ => by rcases List.mem_cons.1 hp_ with rfl | hp_; exact HGS.out.2.2.2.2.2; rcases List.mem_cons.1 hp_ with rfl | hp_; exact HGS.out.2.2.2.2.1; rw [List.mem_singleton.1 hp_]; exact HGS.out.2.2.2.1))
 have HB89 : Aside0 (Below w8.heap.size w8 ((w10.setCell ⟨gs, 0, none⟩ (.slice A0 0 c0)).setCell ⟨gs, 1, none⟩ (.slice A1 0 c1))) := ⟨(HB8.out.setCell (by exact HGS.out.1) _).setCell (by exact HGS.out.1) _⟩
 clear HL s_0 s_1 sf0 sf1 HB8
 have HL := HL9
 have HB8 := HB89
 clear HL9 HB89
 (try simp only [List.length_nil] at HL HB8)
 generalize World.setCell _ _ _ = w11 at *
 (try clear s_0 s_1)
 have s_0 := (blk_cell HL.out.b0 0).trans rfl
 have s_1 := (blk_cell HL.out.b0 1).trans rfl
 (try simp only [List.getElem?_toArray, List.getElem?_cons_zero, List.getElem?_cons_succ] at s_0 s_1)
 (try clear x0 x1 x2 x3 x4 x5 x6)
 have x0 := (blk_cell HL.out.b1 0).trans rfl
 have x1 := (blk_cell HL.out.b1 1).trans rfl
 have x2 := (blk_cell HL.out.b1 2).trans rfl
 have x3 := (blk_cell HL.out.b1 3).trans rfl
 have x4 := (blk_cell HL.out.b1 4).trans rfl
 have x5 := (blk_cell HL.out.b1 5).trans rfl
 have x6 := (blk_cell HL.out.b1 6).trans rfl
 (try simp only [List.getElem?_toArray, List.getElem?_cons_zero, List.getElem?_cons_succ] at x0 x1 x2 x3 x4 x5 x6)
 (try clear q0 q1 q2 q3 q4 q5 q6)
 have q0 := (blk_cell HL.out.b2 0).trans rfl
 have q1 := (blk_cell HL.out.b2 1).trans rfl
 have q2 := (blk_cell HL.out.b2 2).trans rfl
 have q3 := (blk_cell HL.out.b2 3).trans rfl
 have q4 := (blk_cell HL.out.b2 4).trans rfl
 have q5 := (blk_cell HL.out.b2 5).trans rfl
 have q6 := (blk_cell HL.out.b2 6).trans rfl
 (try simp only [List.getElem?_toArray, List.getElem?_cons_zero, List.getElem?_cons_succ] at q0 q1 q2 q3 q4 q5 q6)
 (try clear p0 p1 p2 p3 p4 p5 p6)
 have p0 := (blk_cell HL.out.b3 0).trans rfl
 have p1 := (blk_cell HL.out.b3 1).trans rfl
 have p2 := (blk_cell HL.out.b3 2).trans rfl
 have p3 := (blk_cell HL.out.b3 3).trans rfl
 have p4 := (blk_cell HL.out.b3 4).trans rfl
 have p5 := (blk_cell HL.out.b3 5).trans rfl
 have p6 := (blk_cell HL.out.b3 6).trans rfl
 (try simp only [List.getElem?_toArray, List.getElem?_cons_zero, List.getElem?_cons_succ] at p0 p1 p2 p3 p4 p5 p6)
 go_wp2_with (first | ((with_reducible refine gate_callee (f := 7) rfl ?_); refine goesL_ (some 38) rfl rfl Tryd.func7 (by kernel_rfl) rfl #[] rfl zE ?_; (with_reducible refine (balustradelaw18_works.calls k true _ (TabW.below HT.out HL.out.B) HWK.out).mono ?_); rintro e w9 ⟨rfl, hb⟩; refine ⟨_, rfl, ?_⟩; have HL9 := Aside0.mk (LW.below HL.out hb); clear HL; have HL := HL9; clear HL9; clear hb; (try clear s_0 s_1); have s_0 := (blk_cell HL.out.b0 0).trans rfl; have s_1 := (blk_cell HL.out.b0 1).trans rfl; (try simp only [List.getElem?_toArray, List.getElem?_cons_zero, List.getElem?_cons_succ] at s_0 s_1); (try clear x0 x1 x2 x3 x4 x5 x6); have x0 := (blk_cell HL.out.b1 0).trans rfl; have x1 := (blk_cell HL.out.b1 1).trans rfl; have x2 := (blk_cell HL.out.b1 2).trans rfl; have x3 := (blk_cell HL.out.b1 3).trans rfl; have x4 := (blk_cell HL.out.b1 4).trans rfl; have x5 := (blk_cell HL.out.b1 5).trans rfl; have x6 := (blk_cell HL.out.b1 6).trans rfl; (try simp only [List.getElem?_toArray, List.getElem?_cons_zero, List.getElem?_cons_succ] at x0 x1 x2 x3 x4 x5 x6); (try clear q0 q1 q2 q3 q4 q5 q6); have q0 := (blk_cell HL.out.b2 0).trans rfl; have q1 := (blk_cell HL.out.b2 1).trans rfl; have q2 := (blk_cell HL.out.b2 2).trans rfl; have q3 := (blk_cell HL.out.b2 3).trans rfl; have q4 := (blk_cell HL.out.b2 4).trans rfl; have q5 := (blk_cell HL.out.b2 5).trans rfl; have q6 := (blk_cell HL.out.b2 6).trans rfl; (try simp only [List.getElem?_toArray, List.getElem?_cons_zero, List.getElem?_cons_succ] at q0 q1 q2 q3 q4 q5 q6); (try clear p0 p1 p2 p3 p4 p5 p6); have p0 := (blk_cell HL.out.b3 0).trans rfl; have p1 := (blk_cell HL.out.b3 1).trans rfl; have p2 := (blk_cell HL.out.b3 2).trans rfl; have p3 := (blk_cell HL.out.b3 3).trans rfl; have p4 := (blk_cell HL.out.b3 4).trans rfl; have p5 := (blk_cell HL.out.b3 5).trans rfl; have p6 := (blk_cell HL.out.b3 6).trans rfl; (try simp only [List.getElem?_toArray, List.getElem?_cons_zero, List.getElem?_cons_succ] at p0 p1 p2 p3 p4 p5 p6)))
 go_ret
 exact ⟨rfl, HL.out.B⟩
set_option maxHeartbeats 16000000 in
set_option maxRecDepth 100000 in
theorem more_good (D : RD) (kk fact : Int) (k i0 : Nat) (t s o1 o2 : List Int) (A C B E fr tt fr2 tt2 : List (List Int)) (w : World) (hT : TabW w) (hD : D.Ok w) (h0 : balustradelaw18_few.f k D.l0 D.bk D.al D.wd D.l4 D.l5 D.l6 = some true) (hG : 0 < D.l4.length) (h1 : of_f k D.wd D.l4 D.l5 D.l6 = some (t, s, (A, C), (B, E))) (h2 : flow_Solve.f k D.l0 D.bk D.al D.wd A B s = some (fr, tt, true)) (hA : A.length = D.l4.length) (hA2 : A.length ≤ 65536) (hn : tt.length ≤ 12) (hi : Int.tmod (wrap64 kk) (A.length : Int) = (i0 : Int)) (hil : i0 < A.length) (h3 : bits_Of.f k D.wd [wrap64 fact] = some o1) (h4 : bits_Or.f k (A.getD i0 []) o1 = some o2) (h5 : flow_Solve.f k D.l0 D.bk D.al D.wd (A.set i0 o2) B s = some (fr2, tt2, true)) (l1 : fr.length = tt.length) (l2 : fr2.length = tt.length) (l3 : tt2.length = tt.length) (hj : ∀ j, j < tt.length → ∃ e1 e2, bits_Less.f k (tt.getD j []) (tt2.getD j []) = some e1 ∧ bits_Set_Count.f k e1 = some 0 ∧ bits_Less.f k (fr.getD j []) (fr2.getD j []) = some e2 ∧ bits_Set_Count.f k e2 = some 0) (hw : balustradelaw18_works.f k = some true) :
  Calls Tryd.prog 4 #[.agg #[.slice D.A0 D.l0.length D.c0, .bool D.bk, .bool D.al, .int .i64 D.wd, .slice D.A4 D.l4.length D.c4, .slice D.A5 D.l5.length D.c5, .slice D.A6 D.l6.length D.c6], .int .u8 kk, .int .u8 fact] w fun e w' => e = .returned (.bool true) ∧ Below w.heap.size w w' := by
 have hu25 := Tryd.underlying25
 have hu32 := Tryd.underlying32
 have hu36 := Tryd.underlying36
 have HT := Aside0.mk hT
 have HD := Aside0.mk hD
 have b0 : ((D.l4.length : Int) == 0) = false := by rw [beq_eq_false_iff_ne]; omega
 have c0 : ((A.length : Int) == 0) = false := by rw [beq_eq_false_iff_ne]; omega
 have c1 : ((A.length : Int) = 0) = False := eq_false (by omega)
 have c2 : (A = []) = False := eq_false (by rintro rfl; simp at hil)
 have HAL := Aside0.mk hA2
 have HIL := Aside0.mk hil
 have HI := Aside0.mk hi
 have HNN := Aside0.mk hn
 have HLS := Aside0.mk (And.intro l1 (And.intro l2 l3))
 have HJ := Aside0.mk hj
 clear hG hA2 hil hi hn l1 l2 l3 hj hA
 have H0 := Aside0.mk h0
 have H1 := Aside0.mk h1
 have H2 := Aside0.mk h2
 have H3 := Aside0.mk h3
 have H4 := Aside0.mk h4
 have H5 := Aside0.mk h5
 have HWK := Aside0.mk hw
 have HL := Aside0.mk (LW.start w)
 clear hT hD h0 h1 h2 h3 h4 h5 hw
 go_enter Tryd.func4, Tryd.ntmps4
 go_upto_region 4 with (first | ((with_reducible refine gate_dst (N := 3) rfl ?_); (try (refine gate_guard (by rfl) ?_; dsimp only)); refine box_event ?hg (N := 3) ?hd (cs := #[.slice D.A0 D.l0.length D.c0, .bool D.bk, .bool D.al, .int .i64 D.wd, .slice D.A4 D.l4.length D.c4, .slice D.A5 D.l5.length D.c5, .slice D.A6 D.l6.length D.c6]) (t := 25) ?hr ?_; (case hd => rfl); (case hg => rfl); (case hr => first | (go_simp; done) | (go_simp; rfl)); intro gp hg w1 hbox hb; have HL9 := Aside0.mk (LW.add HL.out hb hbox); clear HL; have HL := HL9; clear HL9; have HGP : Aside0 (w.heap.size ≤ gp) := ⟨by omega⟩; clear hbox hb hg; (try clear p0 p1 p2 p3 p4 p5 p6); have p0 := (blk_cell HL.out.b0 0).trans rfl; have p1 := (blk_cell HL.out.b0 1).trans rfl; have p2 := (blk_cell HL.out.b0 2).trans rfl; have p3 := (blk_cell HL.out.b0 3).trans rfl; have p4 := (blk_cell HL.out.b0 4).trans rfl; have p5 := (blk_cell HL.out.b0 5).trans rfl; have p6 := (blk_cell HL.out.b0 6).trans rfl; (try simp only [List.getElem?_toArray, List.getElem?_cons_zero, List.getElem?_cons_succ] at p0 p1 p2 p3 p4 p5 p6)) | ((with_reducible refine gate_callee (f := 6) rfl ?_); refine goesL_ (some 17) rfl rfl Tryd.func6 (by kernel_rfl) rfl #[.agg #[.slice D.A0 D.l0.length D.c0, .bool D.bk, .bool D.al, .int .i64 D.wd, .slice D.A4 D.l4.length D.c4, .slice D.A5 D.l5.length D.c5, .slice D.A6 D.l6.length D.c6]] rfl zE ?_; (with_reducible refine (balustradelaw18_few.calls k D.A0 D.c0 D.l0 D.bk D.al D.wd D.A4 D.c4 D.l4 D.A5 D.c5 D.l5 D.A6 D.c6 D.l6 true _ (RD.Ok.below HD.out HL.out.B).r0 (RD.Ok.below HD.out HL.out.B).c0 (RD.Ok.below HD.out HL.out.B).r4 (RD.Ok.below HD.out HL.out.B).c4 (RD.Ok.below HD.out HL.out.B).r5 (RD.Ok.below HD.out HL.out.B).c5 (RD.Ok.below HD.out HL.out.B).r6 (RD.Ok.below HD.out HL.out.B).c6 H0.out).mono ?_); rintro e w2 ⟨rfl, hb⟩; refine ⟨_, rfl, ?_⟩; have HL9 := Aside0.mk (LW.below HL.out hb); clear HL; have HL := HL9; clear HL9; clear hb; (try clear p0 p1 p2 p3 p4 p5 p6); have p0 := (blk_cell HL.out.b0 0).trans rfl; have p1 := (blk_cell HL.out.b0 1).trans rfl; have p2 := (blk_cell HL.out.b0 2).trans rfl; have p3 := (blk_cell HL.out.b0 3).trans rfl; have p4 := (blk_cell HL.out.b0 4).trans rfl; have p5 := (blk_cell HL.out.b0 5).trans rfl; have p6 := (blk_cell HL.out.b0 6).trans rfl; (try simp only [List.getElem?_toArray, List.getElem?_cons_zero, List.getElem?_cons_succ] at p0 p1 p2 p3 p4 p5 p6)) | ((with_reducible refine gate_callee (f := 8) rfl ?_); refine goesL_ (some 28) rfl rfl Tryd.func8 (by kernel_rfl) rfl #[.agg #[.slice D.A0 D.l0.length D.c0, .bool D.bk, .bool D.al, .int .i64 D.wd, .slice D.A4 D.l4.length D.c4, .slice D.A5 D.l5.length D.c5, .slice D.A6 D.l6.length D.c6]] rfl zE ?_; (with_reducible refine (of_at D k t s A C B E _ (RD.Ok.below HD.out HL.out.B) H1.out).mono ?_); rintro e w3 ⟨f_, va, vb, vs, vc, vd, vt, rfl, hrows⟩; refine ⟨_, rfl, ?_⟩; obtain ⟨Aa, ca, e1_⟩ := Kd.S_slice hrows.a; obtain ⟨Ab, cb, e2_⟩ := Kd.S_slice hrows.b; obtain ⟨As, cs, e3_⟩ := Kd.R_slice hrows.s; obtain ⟨Ac, cc, e4_⟩ := Kd.S_slice hrows.c; obtain ⟨Ad, cd, e5_⟩ := Kd.S_slice hrows.d; obtain ⟨At, ct, e6_⟩ := Kd.R_slice hrows.t; dsimp only at e1_ e2_ e3_ e4_ e5_ e6_; subst e1_ e2_ e3_ e4_ e5_ e6_; have HL9 := Aside0.mk (LW.now (LW.below HL.out hrows.Bl)); have HQ := Aside0.mk (PD.Ok.mk (D := ⟨D.A0, D.c0, D.l0, D.bk, D.al, D.wd, Aa, ca, A, Ab, cb, B, As, cs, s⟩) (RD.Ok.below HD.out HL9.out.B).r0 HD.out.c0 (Kd.S_reads' hrows.a).2.2 (Kd.S_reads' hrows.a).2.1 (Kd.S_reads' hrows.b).2.2 (Kd.S_reads' hrows.b).2.1 (Kd.R_reads' hrows.s).2.2 (Kd.R_reads' hrows.s).2.1); have HX := Aside0.mk (RD.Ok.mk (D := ⟨D.A0, D.c0, D.l0, D.bk, D.al, D.wd, Ac, cc, C, Ad, cd, E, At, ct, t⟩) (RD.Ok.below HD.out HL9.out.B).r0 HD.out.c0 (Kd.S_reads' hrows.c).2.2 (Kd.S_reads' hrows.c).2.1 (Kd.S_reads' hrows.d).2.2 (Kd.S_reads' hrows.d).2.1 (Kd.R_reads' hrows.t).2.2 (Kd.R_reads' hrows.t).2.1); clear HL hrows; have HL := HL9; clear HL9; have HZ3 := Aside0.mk (Nat.le_refl w3.heap.size)) | ((with_reducible refine gate_dst (N := 7) rfl ?_); (try (refine gate_guard (by rfl) ?_; dsimp only)); refine box_event ?hg (N := 7) ?hd (cs := #[.slice none 0 0, .bool false, .bool false, .int .i64 0, .slice none 0 0, .slice none 0 0, .slice none 0 0]) (t := 32) ?hr ?_; (case hd => rfl); (case hg => rfl); (case hr => first | (go_simp; done) | (go_simp; rfl)); intro gq hg w4 hbox hb; have HGQ : Aside0 (w3.heap.size ≤ gq ∧ w.heap.size ≤ gq ∧ gp ≠ gq) := ⟨⟨by omega, by have := HL.out.B.size; omega, by have := blk_lt HL.out.b0; omega⟩⟩; have HL9 := Aside0.mk (LW.add HL.out hb hbox); clear HL; have HL := HL9; clear HL9; clear hbox hb hg) | ((with_reducible refine gate_dst (N := 8) rfl ?_); (try (refine gate_guard (by rfl) ?_; dsimp only)); refine box_event ?hg (N := 8) ?hd (cs := #[.slice none 0 0, .bool false, .bool false, .int .i64 0, .slice none 0 0, .slice none 0 0, .slice none 0 0]) (t := 25) ?hr ?_; (case hd => rfl); (case hg => rfl); (case hr => first | (go_simp; done) | (go_simp; rfl)); intro gx hg w5 hbox hb; have HGX : Aside0 (w3.heap.size ≤ gx ∧ w.heap.size ≤ gx ∧ gp ≠ gx ∧ gq ≠ gx) := ⟨⟨by have := HL.out.Bb.size; omega, by have := HL.out.B.size; omega, by have := blk_lt HL.out.b1; omega, by have := blk_lt HL.out.b0; omega⟩⟩; have HL9 := Aside0.mk (LW.add HL.out hb hbox); clear HL; have HL := HL9; clear HL9; clear hbox hb hg; (try clear q0 q1 q2 q3 q4 q5 q6); have q0 := (blk_cell HL.out.b1 0).trans rfl; have q1 := (blk_cell HL.out.b1 1).trans rfl; have q2 := (blk_cell HL.out.b1 2).trans rfl; have q3 := (blk_cell HL.out.b1 3).trans rfl; have q4 := (blk_cell HL.out.b1 4).trans rfl; have q5 := (blk_cell HL.out.b1 5).trans rfl; have q6 := (blk_cell HL.out.b1 6).trans rfl; (try simp only [List.getElem?_toArray, List.getElem?_cons_zero, List.getElem?_cons_succ] at q0 q1 q2 q3 q4 q5 q6); have qf0 := blk_frozen HL.out.b1 0; have qf1 := blk_frozen HL.out.b1 1; have qf2 := blk_frozen HL.out.b1 2; have qf3 := blk_frozen HL.out.b1 3; have qf4 := blk_frozen HL.out.b1 4; have qf5 := blk_frozen HL.out.b1 5; have qf6 := blk_frozen HL.out.b1 6) | ((with_reducible refine gate_store (t := 32) (p := 7) rfl ?_); refine store_event (t := 32) (p := 7) (v := ?vo_) (w1 := (put7 w5 gq (.slice D.A0 D.l0.length D.c0) (.bool D.bk) (.bool D.al) (.int .i64 D.wd) (.slice Aa A.length ca) (.slice Ab B.length cb) (.slice As s.length cs))) ?hg ?ho ?hn ?hr ?_; (case ho => rfl); (case hg => rfl); (case hn => rfl); (case hr => first | (go_simp; done) | (go_simp; rfl)); intro w6 hw; have HL9 := Aside0.mk (LW.put1 (W1 := w6) HL.out (by rw [hw]; exact put7_below HL.out.B HGQ.out.2.1) (by rw [hw]; exact put7_below HL.out.Bb HGQ.out.1) (fun k_ hk_ => by rw [hw]; exact put7_far k_ hk_) (by rw [hw]; exact put7_at HL.out.b1) (fun p_ hp_ => by rcases List.mem_cons.1 hp_ with rfl | hp_; exact fun e_ => HGX.out.2.2.2 e_.symm; rw [List.mem_singleton.1 hp_]; exact HGQ.out.2.2)); clear HL hw q0 q1 q2 q3 q4 q5 q6 qf0 qf1 qf2 qf3 qf4 qf5 qf6; have HL := HL9; clear HL9; (try clear x0 x1 x2 x3 x4 x5 x6); have x0 := (blk_cell HL.out.b0 0).trans rfl; have x1 := (blk_cell HL.out.b0 1).trans rfl; have x2 := (blk_cell HL.out.b0 2).trans rfl; have x3 := (blk_cell HL.out.b0 3).trans rfl; have x4 := (blk_cell HL.out.b0 4).trans rfl; have x5 := (blk_cell HL.out.b0 5).trans rfl; have x6 := (blk_cell HL.out.b0 6).trans rfl; (try simp only [List.getElem?_toArray, List.getElem?_cons_zero, List.getElem?_cons_succ] at x0 x1 x2 x3 x4 x5 x6); have xf0 := blk_frozen HL.out.b0 0; have xf1 := blk_frozen HL.out.b0 1; have xf2 := blk_frozen HL.out.b0 2; have xf3 := blk_frozen HL.out.b0 3; have xf4 := blk_frozen HL.out.b0 4; have xf5 := blk_frozen HL.out.b0 5; have xf6 := blk_frozen HL.out.b0 6))
 have HL9 := Aside0.mk (LW.put0 (W1 := (put7 w6 gx (.slice D.A0 D.l0.length D.c0) (.bool D.bk) (.bool D.al) (.int .i64 D.wd) (.slice Ac C.length cc) (.slice Ad E.length cd) (.slice At t.length ct))) HL.out (put7_below HL.out.B HGX.out.2.1) (put7_below HL.out.Bb HGX.out.1) (fun k_ hk_ => put7_far k_ hk_) (put7_at HL.out.b0) (fun p_ hp_ => by rcases List.mem_cons.1 hp_ with rfl | hp_; exact HGX.out.2.2.2; rw [List.mem_singleton.1 hp_]; exact HGX.out.2.2.1))
 clear HL x0 x1 x2 x3 x4 x5 x6 xf0 xf1 xf2 xf3 xf4 xf5 xf6
 have HL := HL9
 clear HL9
 unfold put7 at HL
 generalize World.setCell _ _ _ = w7 at *
 (try clear x0 x1 x2 x3 x4 x5 x6)
 have x0 := (blk_cell HL.out.b0 0).trans rfl
 have x1 := (blk_cell HL.out.b0 1).trans rfl
 have x2 := (blk_cell HL.out.b0 2).trans rfl
 have x3 := (blk_cell HL.out.b0 3).trans rfl
 have x4 := (blk_cell HL.out.b0 4).trans rfl
 have x5 := (blk_cell HL.out.b0 5).trans rfl
 have x6 := (blk_cell HL.out.b0 6).trans rfl
 (try simp only [List.getElem?_toArray, List.getElem?_cons_zero, List.getElem?_cons_succ] at x0 x1 x2 x3 x4 x5 x6)
 (try clear q0 q1 q2 q3 q4 q5 q6)
 have q0 := (blk_cell HL.out.b1 0).trans rfl
 have q1 := (blk_cell HL.out.b1 1).trans rfl
 have q2 := (blk_cell HL.out.b1 2).trans rfl
 have q3 := (blk_cell HL.out.b1 3).trans rfl
 have q4 := (blk_cell HL.out.b1 4).trans rfl
 have q5 := (blk_cell HL.out.b1 5).trans rfl
 have q6 := (blk_cell HL.out.b1 6).trans rfl
 (try simp only [List.getElem?_toArray, List.getElem?_cons_zero, List.getElem?_cons_succ] at q0 q1 q2 q3 q4 q5 q6)
 (try clear p0 p1 p2 p3 p4 p5 p6)
 have p0 := (blk_cell HL.out.b2 0).trans rfl
 have p1 := (blk_cell HL.out.b2 1).trans rfl
 have p2 := (blk_cell HL.out.b2 2).trans rfl
 have p3 := (blk_cell HL.out.b2 3).trans rfl
 have p4 := (blk_cell HL.out.b2 4).trans rfl
 have p5 := (blk_cell HL.out.b2 5).trans rfl
 have p6 := (blk_cell HL.out.b2 6).trans rfl
 (try simp only [List.getElem?_toArray, List.getElem?_cons_zero, List.getElem?_cons_succ] at p0 p1 p2 p3 p4 p5 p6)
 have HQ7 : Aside0 (gq < w7.heap.size) := ⟨blk_lt HL.out.b1⟩
 go_upto_region 5 with (first | ((with_reducible refine gate_callee (f := 9) rfl ?_); refine goesL_ (some 33) rfl rfl Tryd.func9 (by kernel_rfl) rfl #[.agg #[.slice D.A0 D.l0.length D.c0, .bool D.bk, .bool D.al, .int .i64 D.wd, .slice Aa A.length ca, .slice Ab B.length cb, .slice As s.length cs]] rfl zE ?_; (with_reducible refine (flow_Solve.calls k D.A0 D.c0 D.l0 D.bk D.al D.wd Aa ca A Ab cb B As cs s _ _ _ _ (TabW.below HT.out HL.out.B) (PD.Ok.below HQ.out HL.out.Bb).r0 (PD.Ok.below HQ.out HL.out.Bb).c0 (PD.Ok.below HQ.out HL.out.Bb).r4 (PD.Ok.below HQ.out HL.out.Bb).c4 (PD.Ok.below HQ.out HL.out.Bb).r5 (PD.Ok.below HQ.out HL.out.Bb).c5 (PD.Ok.below HQ.out HL.out.Bb).r6 (PD.Ok.below HQ.out HL.out.Bb).c6 H2.out).mono ?_); rintro e w8 ⟨v0, v1, rfl, hn0, hn1, hb⟩; refine ⟨_, rfl, ?_⟩; obtain ⟨A0, c0, e0_, hc0, hr0⟩ := Kd.N_reads hn0; obtain ⟨A1, c1, e1_, hc1, hr1⟩ := Kd.N_reads hn1; subst e0_ e1_; have HN0 := Aside0.mk hn0; have HN1 := Aside0.mk hn1; have HL9 := Aside0.mk (LW.below HL.out hb); clear HL; have HL := HL9; clear HL9; have HF := Aside0.mk (And.intro hr0 hc0); have HTT := Aside0.mk (And.intro hr1 hc1); have HB8 := Aside0.mk (Below.refl w8.heap.size w8); clear hn0 hn1 hb hc0 hr0 hc1 hr1) | ((with_reducible refine gate_dst (N := 9) rfl ?_); (try (refine gate_guard (by rfl) ?_; dsimp only)); refine box_event ?hg (N := 9) ?hd (cs := #[.slice none 0 0, .slice none 0 0]) (t := 36) ?hr ?_; (case hd => rfl); (case hg => rfl); (case hr => first | (go_simp; done) | (go_simp; rfl)); intro gs hg w10 hbox hb; have HGS : Aside0 (w8.heap.size ≤ gs ∧ w3.heap.size ≤ gs ∧ w.heap.size ≤ gs ∧ gp ≠ gs ∧ gq ≠ gs ∧ gx ≠ gs) := ⟨⟨by omega, by have := HL.out.Bb.size; omega, by have := HL.out.B.size; omega, by have := blk_lt HL.out.b2; omega, by have := blk_lt HL.out.b1; omega, by have := blk_lt HL.out.b0; omega⟩⟩; have HB89 := Aside0.mk (below_step HB8.out hb); clear HB8; have HB8 := HB89; clear HB89; have HL9 := Aside0.mk (LW.add HL.out hb hbox); clear HL; have HL := HL9; clear HL9; clear hbox hb hg; (try clear s_0 s_1); have s_0 := (blk_cell HL.out.b0 0).trans rfl; have s_1 := (blk_cell HL.out.b0 1).trans rfl; (try simp only [List.getElem?_toArray, List.getElem?_cons_zero, List.getElem?_cons_succ] at s_0 s_1); have sf0 := blk_frozen HL.out.b0 0; have sf1 := blk_frozen HL.out.b0 1))
 have HL9 := Aside0.mk (LW.put0 (W1 := ((w10.setCell ⟨gs, 0, none⟩ (.slice A0 fr.length c0)).setCell ⟨gs, 1, none⟩ (.slice A1 tt.length c1))) (o' := .cells #[.slice A0 fr.length c0, .slice A1 tt.length c1] 36 (0, 0)) HL.out ((HL.out.B.setCell (by exact HGS.out.2.2.1) _).setCell (by exact HGS.out.2.2.1) _) ((HL.out.Bb.setCell (by exact HGS.out.2.1) _).setCell (by exact HGS.out.2.1) _) (fun k_ hk_ => by rw [Below.heap_setCell _ _ _ _ hk_, Below.heap_setCell _ _ _ _ hk_]) (blk_put (cs := #[.slice A0 fr.length c0, .slice none 0 0]) (blk_put (cs := #[.slice none 0 0, .slice none 0 0]) HL.out.b0 0 _ rfl) 1 _ rfl) (fun p_ hp_ => by rcases List.mem_cons.1 hp_ with rfl | hp_; exact HGS.out.2.2.2.2.2; rcases List.mem_cons.1 hp_ with rfl | hp_; exact HGS.out.2.2.2.2.1; rw [List.mem_singleton.1 hp_]; exact HGS.out.2.2.2.1))
 have HB89 : Aside0 (Below w8.heap.size w8 ((w10.setCell ⟨gs, 0, none⟩ (.slice A0 fr.length c0)).setCell ⟨gs, 1, none⟩ (.slice A1 tt.length c1))) := ⟨(HB8.out.setCell (by exact HGS.out.1) _).setCell (by exact HGS.out.1) _⟩
 clear HL s_0 s_1 sf0 sf1 HB8
 have HL := HL9
 have HB8 := HB89
 clear HL9 HB89
 (try simp only [List.length_nil] at HL HB8)
 generalize World.setCell _ _ _ = w11 at *
 (try clear s_0 s_1)
 have s_0 := (blk_cell HL.out.b0 0).trans rfl
 have s_1 := (blk_cell HL.out.b0 1).trans rfl
 (try simp only [List.getElem?_toArray, List.getElem?_cons_zero, List.getElem?_cons_succ] at s_0 s_1)
 (try clear x0 x1 x2 x3 x4 x5 x6)
 have x0 := (blk_cell HL.out.b1 0).trans rfl
 have x1 := (blk_cell HL.out.b1 1).trans rfl
 have x2 := (blk_cell HL.out.b1 2).trans rfl
 have x3 := (blk_cell HL.out.b1 3).trans rfl
 have x4 := (blk_cell HL.out.b1 4).trans rfl
 have x5 := (blk_cell HL.out.b1 5).trans rfl
 have x6 := (blk_cell HL.out.b1 6).trans rfl
 (try simp only [List.getElem?_toArray, List.getElem?_cons_zero, List.getElem?_cons_succ] at x0 x1 x2 x3 x4 x5 x6)
 (try clear q0 q1 q2 q3 q4 q5 q6)
 have q0 := (blk_cell HL.out.b2 0).trans rfl
 have q1 := (blk_cell HL.out.b2 1).trans rfl
 have q2 := (blk_cell HL.out.b2 2).trans rfl
 have q3 := (blk_cell HL.out.b2 3).trans rfl
 have q4 := (blk_cell HL.out.b2 4).trans rfl
 have q5 := (blk_cell HL.out.b2 5).trans rfl
 have q6 := (blk_cell HL.out.b2 6).trans rfl
 (try simp only [List.getElem?_toArray, List.getElem?_cons_zero, List.getElem?_cons_succ] at q0 q1 q2 q3 q4 q5 q6)
 (try clear p0 p1 p2 p3 p4 p5 p6)
 have p0 := (blk_cell HL.out.b3 0).trans rfl
 have p1 := (blk_cell HL.out.b3 1).trans rfl
 have p2 := (blk_cell HL.out.b3 2).trans rfl
 have p3 := (blk_cell HL.out.b3 3).trans rfl
 have p4 := (blk_cell HL.out.b3 4).trans rfl
 have p5 := (blk_cell HL.out.b3 5).trans rfl
 have p6 := (blk_cell HL.out.b3 6).trans rfl
 (try simp only [List.getElem?_toArray, List.getElem?_cons_zero, List.getElem?_cons_succ] at p0 p1 p2 p3 p4 p5 p6)
 go_upto_region 8 with (fail)
 rw [HI.out]
 obtain ⟨w12, HZ12, e12⟩ : ∃ w12, Aside0 (w3.heap.size ≤ w12.heap.size) ∧ w12 = w11 := ⟨w11, ⟨HL.out.Bb.size⟩, rfl⟩
 have HL12 : Aside0 (LW _ _ _ w12) := ⟨by rw [e12]; exact HL.out⟩
 have HB812 : Aside0 (Below _ _ w12) := ⟨by rw [e12]; exact HB8.out⟩
 have HQ12 : Aside0 (gq < w12.heap.size) := ⟨blk_lt HL12.out.b2⟩
 have HBX := Aside0.mk (LW.lt HL12.out)
 have H812 : Aside0 (w8.heap.size ≤ w12.heap.size) := ⟨HB812.out.size⟩
 have HW12 : Aside0 (w.heap.size ≤ w12.heap.size) := ⟨HL12.out.B.size⟩
 subst e12
 go_upto_region 9 with (first | ((with_reducible refine gate_dst (N := 45) rfl ?_); (try (refine gate_guard (by rfl) ?_; dsimp only)); refine Kd.S_lit (Kd.slice 72 (Kd.int .u64)) _ 30 ?hg (N := 45) ?hd (xs := ([] : List (List Int))) (inner := []) (ok := fun _ => True) (okp := fun _ => True) ?hr ?hp (fun _ hk => hk) trivial (Below.refl _ _) (Nat.le_refl _) (by simp) ?_; (case hd => rfl); (case hg => rfl); (case hr => first | (go_simp; done) | (go_simp; rfl)); (case hp => exact (Reps.none _ _)); intro vn wn hn hbn hg_ hnew_; clear hg_ hnew_; have HLN := Aside0.mk (And.intro hn hbn); have HB89 := Aside0.mk (below_step HB8.out hbn); clear HB8; have HB8 := HB89; clear HB89; have HL9 := Aside0.mk (LW.below HL.out hbn); clear HL; have HL := HL9; clear HL9; clear hn hbn; (try clear s_0 s_1); have s_0 := (blk_cell HL.out.b0 0).trans rfl; have s_1 := (blk_cell HL.out.b0 1).trans rfl; (try simp only [List.getElem?_toArray, List.getElem?_cons_zero, List.getElem?_cons_succ] at s_0 s_1); (try clear x0 x1 x2 x3 x4 x5 x6); have x0 := (blk_cell HL.out.b1 0).trans rfl; have x1 := (blk_cell HL.out.b1 1).trans rfl; have x2 := (blk_cell HL.out.b1 2).trans rfl; have x3 := (blk_cell HL.out.b1 3).trans rfl; have x4 := (blk_cell HL.out.b1 4).trans rfl; have x5 := (blk_cell HL.out.b1 5).trans rfl; have x6 := (blk_cell HL.out.b1 6).trans rfl; (try simp only [List.getElem?_toArray, List.getElem?_cons_zero, List.getElem?_cons_succ] at x0 x1 x2 x3 x4 x5 x6); (try clear q0 q1 q2 q3 q4 q5 q6); have q0 := (blk_cell HL.out.b2 0).trans rfl; have q1 := (blk_cell HL.out.b2 1).trans rfl; have q2 := (blk_cell HL.out.b2 2).trans rfl; have q3 := (blk_cell HL.out.b2 3).trans rfl; have q4 := (blk_cell HL.out.b2 4).trans rfl; have q5 := (blk_cell HL.out.b2 5).trans rfl; have q6 := (blk_cell HL.out.b2 6).trans rfl; (try simp only [List.getElem?_toArray, List.getElem?_cons_zero, List.getElem?_cons_succ] at q0 q1 q2 q3 q4 q5 q6); (try clear p0 p1 p2 p3 p4 p5 p6); have p0 := (blk_cell HL.out.b3 0).trans rfl; have p1 := (blk_cell HL.out.b3 1).trans rfl; have p2 := (blk_cell HL.out.b3 2).trans rfl; have p3 := (blk_cell HL.out.b3 3).trans rfl; have p4 := (blk_cell HL.out.b3 4).trans rfl; have p5 := (blk_cell HL.out.b3 5).trans rfl; have p6 := (blk_cell HL.out.b3 6).trans rfl; (try simp only [List.getElem?_toArray, List.getElem?_cons_zero, List.getElem?_cons_succ] at p0 p1 p2 p3 p4 p5 p6)) | ((with_reducible refine gate_builtin (b := .append) (xs := #[.tmp 45, .tmp 47]) rfl ?_); at_builtin; refine Kd.N_append_rows (Kd.slice 72 (Kd.int .u64)) (w0 := w12) w12.heap.size rfl (.tmp 45) (.tmp 47) 28 30 (.slice none 0 0) 24 rfl Tryd.underlying28 infos rfl (by decide) (by omega) vn [] A _ _ _ (fun k_ => k_ ≠ gq) (fun k_ => k_ < w3.heap.size) rfl rfl ?aO ?aR ?aP (fun k_ hk_ => by have h1_ := HQ12.out; have h2_ := HLN.out.2.size; omega) ?aB ?aS ?aL ?_; (case aO => exact Kd.S_N (Kd.S_mono (Kd.S_bound HLN.out.1) (fun k_ hk_ => by have h1_ := hk_.2.1; have h2_ := HQ12.out; omega))); (case aR => exact Kd.F_below (Kd.C_F (Kd.heap_slice 72 (Kd.heap_int .u64)) HQ.out.r4) HL.out.Bb); (case aP => exact fun k_ hk_ => ⟨by have h2_ := HGQ.out.1; omega, fun e_ => by have h1_ := Kd.S_base HLN.out.1 k_ e_.symm; have h2_ := HZ12.out; omega⟩); (case aB => exact HLN.out.2); (case aS => exact HLN.out.2.size); (case aL => have := HAL.out; first | omega | (simp; omega)); intro v1 w13 hn hbn hgn hat; have HM := Aside0.mk (show Kd.N (Kd.slice 72 (Kd.int .u64)) 30 w13 w12.heap.size (fun k_ => k_ ≠ gq) v1 A from by simpa using hn); have HL9 := Aside0.mk (LW.below HL12.out hbn); have HB89 := Aside0.mk (below_step HB812.out hbn); clear HL HB8 HL12 HB812 HLN hn hbn hgn hat; have HL := HL9; have HB8 := HB89; clear HL9 HB89; (try clear s_0 s_1); have s_0 := (blk_cell HL.out.b0 0).trans rfl; have s_1 := (blk_cell HL.out.b0 1).trans rfl; (try simp only [List.getElem?_toArray, List.getElem?_cons_zero, List.getElem?_cons_succ] at s_0 s_1); (try clear x0 x1 x2 x3 x4 x5 x6); have x0 := (blk_cell HL.out.b1 0).trans rfl; have x1 := (blk_cell HL.out.b1 1).trans rfl; have x2 := (blk_cell HL.out.b1 2).trans rfl; have x3 := (blk_cell HL.out.b1 3).trans rfl; have x4 := (blk_cell HL.out.b1 4).trans rfl; have x5 := (blk_cell HL.out.b1 5).trans rfl; have x6 := (blk_cell HL.out.b1 6).trans rfl; (try simp only [List.getElem?_toArray, List.getElem?_cons_zero, List.getElem?_cons_succ] at x0 x1 x2 x3 x4 x5 x6); (try clear q0 q1 q2 q3 q4 q5 q6); have q0 := (blk_cell HL.out.b2 0).trans rfl; have q1 := (blk_cell HL.out.b2 1).trans rfl; have q2 := (blk_cell HL.out.b2 2).trans rfl; have q3 := (blk_cell HL.out.b2 3).trans rfl; have q4 := (blk_cell HL.out.b2 4).trans rfl; have q5 := (blk_cell HL.out.b2 5).trans rfl; have q6 := (blk_cell HL.out.b2 6).trans rfl; (try simp only [List.getElem?_toArray, List.getElem?_cons_zero, List.getElem?_cons_succ] at q0 q1 q2 q3 q4 q5 q6); (try clear p0 p1 p2 p3 p4 p5 p6); have p0 := (blk_cell HL.out.b3 0).trans rfl; have p1 := (blk_cell HL.out.b3 1).trans rfl; have p2 := (blk_cell HL.out.b3 2).trans rfl; have p3 := (blk_cell HL.out.b3 3).trans rfl; have p4 := (blk_cell HL.out.b3 4).trans rfl; have p5 := (blk_cell HL.out.b3 5).trans rfl; have p6 := (blk_cell HL.out.b3 6).trans rfl; (try simp only [List.getElem?_toArray, List.getElem?_cons_zero, List.getElem?_cons_succ] at p0 p1 p2 p3 p4 p5 p6)))
 obtain ⟨gm, cm, eM, hgm, hgl, hgc⟩ := Kd.N_form HM.out (by have := HIL.out; omega)
 subst eM
 have HGM := Aside0.mk hgm
 obtain ⟨Au, cu, hxm, hfz, hlu, hfu⟩ := N_at1 HM.out i0 HIL.out
 have HXM := Aside0.mk hxm
 have HFU := Aside0.mk hfu
 have HLU := Aside0.mk hlu
 clear hgm hgl hgc hxm hfz hlu hfu
 have bi0 : decide ((0 : Int) ≤ (i0 : Int)) = true := decide_eq_true (by omega)
 have bi1 : decide ((i0 : Int) < (A.length : Int)) = true := decide_eq_true (by have := HIL.out; omega)
 have bi2 : ((0 : Int) ≤ (i0 : Int)) = True := eq_true (by omega)
 have bi3 : ((i0 : Int) < (A.length : Int)) = True := eq_true (by have := HIL.out; omega)
 generalize w13 = w14 at *
 refine start_ (n := 15) (S := fun w' => w'.cell? ⟨gp, 3, none⟩ = some (.int .i64 D.wd) ∧ w'.cell? ⟨gm, i0, none⟩ = some (.slice Au (A.getD i0 []).length cu)) (ds := [14]) #[false, false, false, false, false, false, false, false, false, false, false, false, false, false, false] (by kernel_rfl) rfl rfl ⟨((blk_cell (LW.below HL.out (below_drew (Below.refl _ _))).b3 3).trans rfl), (pw_cell_below (below_drew (Below.refl _ _)) HXM.out)⟩ (fun hHeld => ?_)
 have hdr_ := below_drew (Below.refl w14.heap.size w14)
 have HB89 := Aside0.mk (below_step HB8.out hdr_)
 clear HB8
 have HB8 := HB89
 clear HB89
 have HL9 := Aside0.mk (LW.below HL.out hdr_)
 clear HL
 have HL := HL9
 clear HL9
 have HM9 := Aside0.mk (Kd.N_below HM.out hdr_)
 have HXM9 := Aside0.mk (pw_cell_below hdr_ HXM.out)
 have HFU9 := Aside0.mk (Kd.F_below HFU.out hdr_)
 clear HM HXM HFU
 have HM := HM9
 have HXM := HXM9
 have HFU := HFU9
 clear HM9 HXM9 HFU9
 clear hdr_
 generalize w14.drew = w14d at *
 refine pT 0 (some 49) (zb 15 1) (h := ?_)
 refine pT 1 (some 50) (zb 15 3) (h := ?_)
 refine pT 2 (some 51) (zb 15 7) (h := ?_)
 refine pT 3 (some 52) (zb 15 15) (h := ?_)
 refine pT 4 (some 53) (zb 15 31) (h := ?_)
 refine pT 6 (some 55) (zb 15 95) (h := ?_)
 refine pT 8 (some 57) (zb 15 351) (h := ?_)
 refine pT 9 (some 58) (zb 15 863) (h := ?_)
 refine tT 5 (some 54) (zb 15 895) hHeld (h := ?_)
 refine tT 7 (some 56) (zb 15 1023) hHeld (h := ?_)
 refine one_ (i := 10) (N := some 59) (zb 15 2047) rfl rfl (by kernel_rfl) (by decide) (fun K hK => ?_)
 refine Kd.R_lit_step (Kd.int .i64) _ 3 ?hg (N := 59) ?hd (xs := ([wrap64 fact] : List Int)) (inner := [.int .i64 (wrap64 fact)]) (ok := fun _ => True) (okp := fun _ => True) ?hr ?hp (fun _ hk => hk) trivial (Below.refl _ _) (Nat.le_refl _) (by simp) ?_; (case hd => rfl); (case hg => rfl); (case hr => first | (go_simp; done) | (go_simp; rfl)); (case hp => exact (Reps.one (show Kd.M (Kd.int .i64) _ _ _ (wrap64 fact) [.int .i64 (wrap64 fact)] from rfl) (Reps.none _ _)))
 intro v2 w15 ho hb hg_ hnew_
 clear hg_ hnew_
 have HB89 := Aside0.mk (below_step HB8.out hb)
 clear HB8
 have HB8 := HB89
 clear HB89
 have HL9 := Aside0.mk (LW.below HL.out hb)
 clear HL
 have HL := HL9
 clear HL9
 have HM9 := Aside0.mk (Kd.N_below HM.out hb)
 have HXM9 := Aside0.mk (pw_cell_below hb HXM.out)
 have HFU9 := Aside0.mk (Kd.F_below HFU.out hb)
 clear HM HXM HFU
 have HM := HM9
 have HXM := HXM9
 have HFU := HFU9
 clear HM9 HXM9 HFU9
 have HV := Aside0.mk ho
 obtain ⟨A2, c2, rfl⟩ := Kd.R_slice ho
 clear ho hb
 refine hK.out _ _ ⟨((blk_cell HL.out.b3 3).trans rfl), HXM.out⟩ (fun hHeld => ?_)
 clear hK K
 refine nN (some 59) (h := ?_)
 refine one_ (i := 11) (N := some 60) (zb 15 4095) rfl rfl (by kernel_rfl) (by decide) (fun K hK => ?_)
 refine goes_ Tryd.func16 (by kernel_rfl) rfl #[.int .i64 D.wd, .slice A2 [wrap64 fact].length c2] (by rfl) rfl rfl (by simp only [List.map_toArray, List.map_cons, List.map_nil]; rfl) ?_
 with_reducible refine (bits_Of.calls k D.wd A2 c2 [wrap64 fact] o1 _ (Kd.R_reads' HV.out).2.2 (Kd.R_reads' HV.out).2.1 H3.out).mono ?_
 rintro e w16 ⟨v3, rfl, ho, hb⟩
 refine ⟨_, rfl, ?_⟩
 have HB89 := Aside0.mk (below_step HB8.out hb)
 clear HB8
 have HB8 := HB89
 clear HB89
 have HL9 := Aside0.mk (LW.below HL.out hb)
 clear HL
 have HL := HL9
 clear HL9
 have HM9 := Aside0.mk (Kd.N_below HM.out hb)
 have HXM9 := Aside0.mk (pw_cell_below hb HXM.out)
 have HFU9 := Aside0.mk (Kd.F_below HFU.out hb)
 clear HM HXM HFU
 have HM := HM9
 have HXM := HXM9
 have HFU := HFU9
 clear HM9 HXM9 HFU9
 clear HV
 have HV := Aside0.mk ho
 obtain ⟨A3, c3, rfl⟩ := Kd.R_slice ho
 clear ho hb
 refine hK.out _ _ ⟨((blk_cell HL.out.b3 3).trans rfl), HXM.out⟩ (fun hHeld => ?_)
 clear hK K
 refine nN (some 60) (h := ?_)
 refine one_ (i := 12) (N := some 61) (zb 15 8191) rfl rfl (by kernel_rfl) (by decide) (fun K hK => ?_)
 refine goes_ Tryd.func15 (by kernel_rfl) rfl #[.slice Au (A.getD i0 []).length cu, .slice A3 o1.length c3] (by rfl) rfl rfl (by simp only [List.map_toArray, List.map_cons, List.map_nil]; rfl) ?_
 with_reducible refine (bits_Or.calls k Au cu (A.getD i0 []) A3 c3 o1 o2 _ (Kd.F_now HFU.out) HLU.out (Kd.R_reads' HV.out).2.2 (Kd.R_reads' HV.out).2.1 H4.out).mono ?_
 rintro e w17 ⟨v4, rfl, ho, hb⟩
 refine ⟨_, rfl, ?_⟩
 have HGN := Aside0.mk (Kd.N_lt HM.out gm rfl)
 have HB89 := Aside0.mk (below_step HB8.out hb)
 clear HB8
 have HB8 := HB89
 clear HB89
 have HL9 := Aside0.mk (LW.below HL.out hb)
 clear HL
 have HL := HL9
 clear HL9
 have HM9 := Aside0.mk (Kd.N_below HM.out hb)
 have HXM9 := Aside0.mk (pw_cell_below hb HXM.out)
 have HFU9 := Aside0.mk (Kd.F_below HFU.out hb)
 clear HM HXM HFU
 have HM := HM9
 have HXM := HXM9
 have HFU := HFU9
 clear HM9 HXM9 HFU9
 clear HV
 have HV := Aside0.mk (Kd.R_bound ho)
 obtain ⟨A4, c4, rfl⟩ := Kd.R_slice ho
 clear ho hb
 refine hK.out _ _ ⟨((blk_cell HL.out.b3 3).trans rfl), HXM.out⟩ (fun hHeld => ?_)
 clear hK K
 refine nN (some 61) (h := ?_)
 refine pT 13 (some 62) (zb 15 16383) (h := ?_)
 refine last_ (i := 14) (N := none) (zb 15 32767) rfl rfl (by kernel_rfl) (by decide) (fun K hK => ?_)
 obtain ⟨Ay, cy, hcy, hfy, _, _⟩ := N_at1 HM.out i0 (by have := HIL.out; omega)
 refine skip_ (w1 := ?_) (by rfl) rfl ?_ ?_
 rotate_left
 ·go_simp
  rfl
 refine hK.out _ _ ?_
 clear hK K
 refine done_ (by kernel_rfl) ?_
 have HM9 := Aside0.mk (N_put1 HM.out i0 HIL.out (Kd.R_reads' HV.out).2.1 (Kd.F_mono (Kd.N_F (Kd.R_N HV.out)) (fun k_ hk_ => by have h1_ := HGN.out; have h2_ := hk_.2.1; have h3_ := HQ12.out; have h4_ := HGM.out; exact ⟨by omega, by omega⟩)))
 have HL9 := Aside0.mk (LW.set HL.out (by have h1_ := HGM.out; have h2_ := HW12.out; omega) (by have h1_ := HGM.out; have h2_ := HZ12.out; omega) (fun p_ hp_ => Nat.lt_of_lt_of_le (HBX.out p_ hp_) HGM.out) i0 (.slice A4 o2.length c4))
 have HB89 := Aside0.mk (HB8.out.setCell (p := ⟨gm, i0, none⟩) (show w8.heap.size ≤ gm by have h1_ := HGM.out; have h2_ := H812.out; omega) (.slice A4 o2.length c4))
 clear HM HL HB8 HV HFU HXM HGN hHeld hcy hfy
 have HM := HM9
 have HL := HL9
 have HB8 := HB89
 clear HM9 HL9 HB89
 generalize World.setCell _ _ _ = w18 at *
 (try clear s_0 s_1)
 have s_0 := (blk_cell HL.out.b0 0).trans rfl
 have s_1 := (blk_cell HL.out.b0 1).trans rfl
 (try simp only [List.getElem?_toArray, List.getElem?_cons_zero, List.getElem?_cons_succ] at s_0 s_1)
 (try clear x0 x1 x2 x3 x4 x5 x6)
 have x0 := (blk_cell HL.out.b1 0).trans rfl
 have x1 := (blk_cell HL.out.b1 1).trans rfl
 have x2 := (blk_cell HL.out.b1 2).trans rfl
 have x3 := (blk_cell HL.out.b1 3).trans rfl
 have x4 := (blk_cell HL.out.b1 4).trans rfl
 have x5 := (blk_cell HL.out.b1 5).trans rfl
 have x6 := (blk_cell HL.out.b1 6).trans rfl
 (try simp only [List.getElem?_toArray, List.getElem?_cons_zero, List.getElem?_cons_succ] at x0 x1 x2 x3 x4 x5 x6)
 (try clear q0 q1 q2 q3 q4 q5 q6)
 have q0 := (blk_cell HL.out.b2 0).trans rfl
 have q1 := (blk_cell HL.out.b2 1).trans rfl
 have q2 := (blk_cell HL.out.b2 2).trans rfl
 have q3 := (blk_cell HL.out.b2 3).trans rfl
 have q4 := (blk_cell HL.out.b2 4).trans rfl
 have q5 := (blk_cell HL.out.b2 5).trans rfl
 have q6 := (blk_cell HL.out.b2 6).trans rfl
 (try simp only [List.getElem?_toArray, List.getElem?_cons_zero, List.getElem?_cons_succ] at q0 q1 q2 q3 q4 q5 q6)
 (try clear p0 p1 p2 p3 p4 p5 p6)
 have p0 := (blk_cell HL.out.b3 0).trans rfl
 have p1 := (blk_cell HL.out.b3 1).trans rfl
 have p2 := (blk_cell HL.out.b3 2).trans rfl
 have p3 := (blk_cell HL.out.b3 3).trans rfl
 have p4 := (blk_cell HL.out.b3 4).trans rfl
 have p5 := (blk_cell HL.out.b3 5).trans rfl
 have p6 := (blk_cell HL.out.b3 6).trans rfl
 (try simp only [List.getElem?_toArray, List.getElem?_cons_zero, List.getElem?_cons_succ] at p0 p1 p2 p3 p4 p5 p6)
 have qf4 := blk_frozen HL.out.b2 4
 go_upto_region 11 with (fail)
 have HL9 := Aside0.mk (LW.put2 (W1 := w18.setCell ⟨gq, 4, none⟩ (.slice (some ⟨gm, 0, none⟩) A.length cm)) (o' := .cells #[.slice D.A0 D.l0.length D.c0, .bool D.bk, .bool D.al, .int .i64 D.wd, .slice (some ⟨gm, 0, none⟩) A.length cm, .slice Ab B.length cb, .slice As s.length cs] 32 (0, 0)) HL.out (HL.out.B.setCell (by exact HGQ.out.2.1) _) (HL.out.Bb.setCell (by exact HGQ.out.1) _) (fun k_ hk_ => Below.heap_setCell _ _ _ _ hk_) (blk_put (cs := #[.slice D.A0 D.l0.length D.c0, .bool D.bk, .bool D.al, .int .i64 D.wd, .slice Aa A.length ca, .slice Ab B.length cb, .slice As s.length cs]) HL.out.b2 4 _ rfl) (fun p_ hp_ => by rcases List.mem_cons.1 hp_ with rfl | hp_; exact fun e_ => HGS.out.2.2.2.2.1 e_.symm; rcases List.mem_cons.1 hp_ with rfl | hp_; exact fun e_ => HGX.out.2.2.2 e_.symm; rw [List.mem_singleton.1 hp_]; exact HGQ.out.2.2))
 have HM9 := Aside0.mk (Kd.N_far (p := ⟨gq, 4, none⟩) HM.out (fun k_ hk_ => hk_) (.slice (some ⟨gm, 0, none⟩) A.length cm))
 have HF9 := Aside0.mk (And.intro (Kd.F_now (Kd.F_far (p := ⟨gq, 4, none⟩) (Kd.F_below (Kd.N_F HN0.out) HB8.out) (fun k_ hk_ => by have h1_ := hk_.2; have h2_ := HQ7.out; exact Nat.ne_of_gt (Nat.lt_of_lt_of_le h2_ h1_)) (.slice (some ⟨gm, 0, none⟩) A.length cm))) HF.out.2)
 have HTT9 := Aside0.mk (And.intro (Kd.F_now (Kd.F_far (p := ⟨gq, 4, none⟩) (Kd.F_below (Kd.N_F HN1.out) HB8.out) (fun k_ hk_ => by have h1_ := hk_.2; have h2_ := HQ7.out; exact Nat.ne_of_gt (Nat.lt_of_lt_of_le h2_ h1_)) (.slice (some ⟨gm, 0, none⟩) A.length cm))) HTT.out.2)
 have HQ2 := Aside0.mk (PD.Ok.mk (D := ⟨D.A0, D.c0, D.l0, D.bk, D.al, D.wd, some ⟨gm, 0, none⟩, cm, A.set i0 o2, Ab, cb, B, As, cs, s⟩) (PD.Ok.below HQ.out HL9.out.Bb).r0 HQ.out.c0 (Kd.N_reads' HM9.out).2.2 (by rw [List.length_set]; exact (Kd.N_reads' HM9.out).2.1) (PD.Ok.below HQ.out HL9.out.Bb).r5 HQ.out.c5 (PD.Ok.below HQ.out HL9.out.Bb).r6 HQ.out.c6)
 have HLX := Aside0.mk (LW.now HL9.out)
 clear HM HM9 HL HL9 HB8 HF HTT HN0 HN1 HQ qf4
 have HL := HLX
 have HF := HF9
 have HTT := HTT9
 clear HLX HF9 HTT9
 generalize World.setCell _ _ _ = w19 at *
 (try clear s_0 s_1)
 have s_0 := (blk_cell HL.out.b0 0).trans rfl
 have s_1 := (blk_cell HL.out.b0 1).trans rfl
 (try simp only [List.getElem?_toArray, List.getElem?_cons_zero, List.getElem?_cons_succ] at s_0 s_1)
 (try clear x0 x1 x2 x3 x4 x5 x6)
 have x0 := (blk_cell HL.out.b1 0).trans rfl
 have x1 := (blk_cell HL.out.b1 1).trans rfl
 have x2 := (blk_cell HL.out.b1 2).trans rfl
 have x3 := (blk_cell HL.out.b1 3).trans rfl
 have x4 := (blk_cell HL.out.b1 4).trans rfl
 have x5 := (blk_cell HL.out.b1 5).trans rfl
 have x6 := (blk_cell HL.out.b1 6).trans rfl
 (try simp only [List.getElem?_toArray, List.getElem?_cons_zero, List.getElem?_cons_succ] at x0 x1 x2 x3 x4 x5 x6)
 (try clear q0 q1 q2 q3 q4 q5 q6)
 have q0 := (blk_cell HL.out.b2 0).trans rfl
 have q1 := (blk_cell HL.out.b2 1).trans rfl
 have q2 := (blk_cell HL.out.b2 2).trans rfl
 have q3 := (blk_cell HL.out.b2 3).trans rfl
 have q4 := (blk_cell HL.out.b2 4).trans rfl
 have q5 := (blk_cell HL.out.b2 5).trans rfl
 have q6 := (blk_cell HL.out.b2 6).trans rfl
 (try simp only [List.getElem?_toArray, List.getElem?_cons_zero, List.getElem?_cons_succ] at q0 q1 q2 q3 q4 q5 q6)
 (try clear p0 p1 p2 p3 p4 p5 p6)
 have p0 := (blk_cell HL.out.b3 0).trans rfl
 have p1 := (blk_cell HL.out.b3 1).trans rfl
 have p2 := (blk_cell HL.out.b3 2).trans rfl
 have p3 := (blk_cell HL.out.b3 3).trans rfl
 have p4 := (blk_cell HL.out.b3 4).trans rfl
 have p5 := (blk_cell HL.out.b3 5).trans rfl
 have p6 := (blk_cell HL.out.b3 6).trans rfl
 (try simp only [List.getElem?_toArray, List.getElem?_cons_zero, List.getElem?_cons_succ] at p0 p1 p2 p3 p4 p5 p6)
 go_upto_region 12 with (first | ((with_reducible refine gate_callee (f := 9) rfl ?_); refine goesL_ (some 67) rfl rfl Tryd.func9 (by kernel_rfl) rfl #[.agg #[.slice D.A0 D.l0.length D.c0, .bool D.bk, .bool D.al, .int .i64 D.wd, .slice (some ⟨gm, 0, none⟩) A.length cm, .slice Ab B.length cb, .slice As s.length cs]] rfl zE ?_; have hcs_ := flow_Solve.calls k D.A0 D.c0 D.l0 D.bk D.al D.wd (some ⟨gm, 0, none⟩) cm (A.set i0 o2) Ab cb B As cs s _ _ _ _ (TabW.below HT.out HL.out.B) (PD.Ok.below HQ2.out HL.out.Bb).r0 (PD.Ok.below HQ2.out HL.out.Bb).c0 (PD.Ok.below HQ2.out HL.out.Bb).r4 (PD.Ok.below HQ2.out HL.out.Bb).c4 (PD.Ok.below HQ2.out HL.out.Bb).r5 (PD.Ok.below HQ2.out HL.out.Bb).c5 (PD.Ok.below HQ2.out HL.out.Bb).r6 (PD.Ok.below HQ2.out HL.out.Bb).c6 H5.out; rw [List.length_set] at hcs_; (with_reducible refine hcs_.mono ?_); rintro e w20 ⟨v5, v6, rfl, hn0, hn1, hb⟩; clear hcs_; refine ⟨_, rfl, ?_⟩; obtain ⟨A5, c5, e0_, hc0, hr0⟩ := Kd.N_reads hn0; obtain ⟨A6, c6, e1_, hc1, hr1⟩ := Kd.N_reads hn1; subst e0_ e1_; have HL9 := Aside0.mk (LW.below HL.out hb); clear HL; have HL := HL9; clear HL9; have HF2 := Aside0.mk (And.intro hr0 hc0); have HTT2 := Aside0.mk (And.intro hr1 hc1); have HB20 := Aside0.mk (Below.refl w20.heap.size w20); clear hn0 hn1 hb hc0 hr0 hc1 hr1) | ((with_reducible refine gate_dst (N := 13) rfl ?_); (try (refine gate_guard (by rfl) ?_; dsimp only)); refine box_event ?hg (N := 13) ?hd (cs := #[.slice none 0 0, .slice none 0 0]) (t := 36) ?hr ?_; (case hd => rfl); (case hg => rfl); (case hr => first | (go_simp; done) | (go_simp; rfl)); intro gt hg w21 hbox hb; have HGT : Aside0 (w20.heap.size ≤ gt ∧ w19.heap.size ≤ gt ∧ w.heap.size ≤ gt) := ⟨⟨by omega, by have := HL.out.Bb.size; omega, by have := HL.out.B.size; omega⟩⟩; have HGTL := Aside0.mk (LW.ne HL.out (Nat.le_of_eq hg.symm)); have HB209 := Aside0.mk (below_step HB20.out hb); clear HB20; have HB20 := HB209; clear HB209; have HL9 := Aside0.mk (LW.add HL.out hb hbox); clear HL; have HL := HL9; clear HL9; clear hbox hb hg; (try clear t_0 t_1); have t_0 := (blk_cell HL.out.b0 0).trans rfl; have t_1 := (blk_cell HL.out.b0 1).trans rfl; (try simp only [List.getElem?_toArray, List.getElem?_cons_zero, List.getElem?_cons_succ] at t_0 t_1); have tf0 := blk_frozen HL.out.b0 0; have tf1 := blk_frozen HL.out.b0 1))
 have HL9 := Aside0.mk (LW.put0 (W1 := ((w21.setCell ⟨gt, 0, none⟩ (.slice A5 fr2.length c5)).setCell ⟨gt, 1, none⟩ (.slice A6 tt2.length c6))) (o' := .cells #[.slice A5 fr2.length c5, .slice A6 tt2.length c6] 36 (0, 0)) HL.out ((HL.out.B.setCell (by exact HGT.out.2.2) _).setCell (by exact HGT.out.2.2) _) ((HL.out.Bb.setCell (by exact HGT.out.2.1) _).setCell (by exact HGT.out.2.1) _) (fun k_ hk_ => by rw [Below.heap_setCell _ _ _ _ hk_, Below.heap_setCell _ _ _ _ hk_]) (blk_put (cs := #[.slice A5 fr2.length c5, .slice none 0 0]) (blk_put (cs := #[.slice none 0 0, .slice none 0 0]) HL.out.b0 0 _ rfl) 1 _ rfl) HGTL.out)
 have HB209 : Aside0 (Below w20.heap.size w20 ((w21.setCell ⟨gt, 0, none⟩ (.slice A5 fr2.length c5)).setCell ⟨gt, 1, none⟩ (.slice A6 tt2.length c6))) := ⟨(HB20.out.setCell (by exact HGT.out.1) _).setCell (by exact HGT.out.1) _⟩
 clear HL t_0 t_1 tf0 tf1 HB20
 have HL := HL9
 have HB20 := HB209
 clear HL9 HB209
 generalize World.setCell _ _ _ = w22 at *
 (try clear t_0 t_1)
 have t_0 := (blk_cell HL.out.b0 0).trans rfl
 have t_1 := (blk_cell HL.out.b0 1).trans rfl
 (try simp only [List.getElem?_toArray, List.getElem?_cons_zero, List.getElem?_cons_succ] at t_0 t_1)
 (try clear s_0 s_1)
 have s_0 := (blk_cell HL.out.b1 0).trans rfl
 have s_1 := (blk_cell HL.out.b1 1).trans rfl
 (try simp only [List.getElem?_toArray, List.getElem?_cons_zero, List.getElem?_cons_succ] at s_0 s_1)
 (try clear x0 x1 x2 x3 x4 x5 x6)
 have x0 := (blk_cell HL.out.b2 0).trans rfl
 have x1 := (blk_cell HL.out.b2 1).trans rfl
 have x2 := (blk_cell HL.out.b2 2).trans rfl
 have x3 := (blk_cell HL.out.b2 3).trans rfl
 have x4 := (blk_cell HL.out.b2 4).trans rfl
 have x5 := (blk_cell HL.out.b2 5).trans rfl
 have x6 := (blk_cell HL.out.b2 6).trans rfl
 (try simp only [List.getElem?_toArray, List.getElem?_cons_zero, List.getElem?_cons_succ] at x0 x1 x2 x3 x4 x5 x6)
 (try clear q0 q1 q2 q3 q4 q5 q6)
 have q0 := (blk_cell HL.out.b3 0).trans rfl
 have q1 := (blk_cell HL.out.b3 1).trans rfl
 have q2 := (blk_cell HL.out.b3 2).trans rfl
 have q3 := (blk_cell HL.out.b3 3).trans rfl
 have q4 := (blk_cell HL.out.b3 4).trans rfl
 have q5 := (blk_cell HL.out.b3 5).trans rfl
 have q6 := (blk_cell HL.out.b3 6).trans rfl
 (try simp only [List.getElem?_toArray, List.getElem?_cons_zero, List.getElem?_cons_succ] at q0 q1 q2 q3 q4 q5 q6)
 (try clear p0 p1 p2 p3 p4 p5 p6)
 have p0 := (blk_cell HL.out.b4 0).trans rfl
 have p1 := (blk_cell HL.out.b4 1).trans rfl
 have p2 := (blk_cell HL.out.b4 2).trans rfl
 have p3 := (blk_cell HL.out.b4 3).trans rfl
 have p4 := (blk_cell HL.out.b4 4).trans rfl
 have p5 := (blk_cell HL.out.b4 5).trans rfl
 have p6 := (blk_cell HL.out.b4 6).trans rfl
 (try simp only [List.getElem?_toArray, List.getElem?_cons_zero, List.getElem?_cons_succ] at p0 p1 p2 p3 p4 p5 p6)
 have ne1 : ((fr.length : Int) != (tt.length : Int)) = false := by rw [HLS.out.1]; simp
 have ne2 : ((fr2.length : Int) != (fr.length : Int)) = false := by rw [HLS.out.1, HLS.out.2.1]; simp
 have ne3 : ((tt2.length : Int) != (tt.length : Int)) = false := by rw [HLS.out.2.2]; simp
 go_wp2
 clear t_0 t_1 s_0 s_1 x0 x1 x2 x3 x4 x5 x6 q0 q1 q2 q3 q4 q5 q6 p0 p1 p2 p3 p4 p5 p6
 have HL2 := Aside0.mk (LW.two HL.out)
 go_loopw [15] (fun v15 wr => ∃ j : Nat, v15 = .int .i64 (j : Int) ∧ Aside0 (j ≤ tt.length) ∧ Aside0 (LW w w19 [(gt, .cells #[.slice A5 fr2.length c5, .slice A6 tt2.length c6] 36 (0, 0)), (gs, .cells #[.slice A0 fr.length c0, .slice A1 tt.length c1] 36 (0, 0))] wr) ∧ Aside0 (Below w20.heap.size w20 wr)) (fun v15 wr => tt.length - (intOf v15).toNat)
 case atStart => exact ⟨0, rfl, ⟨Nat.zero_le _⟩, HL2, HB20⟩
 case round =>
  clear HL HL2 HB20 ne1 ne2 ne3
  obtain ⟨j, rfl, HJJ, HL, HB20⟩ := hrel
  (try clear t_0 t_1)
  have t_0 := (blk_cell HL.out.b0 0).trans rfl
  have t_1 := (blk_cell HL.out.b0 1).trans rfl
  (try simp only [List.getElem?_toArray, List.getElem?_cons_zero, List.getElem?_cons_succ] at t_0 t_1)
  (try clear s_0 s_1)
  have s_0 := (blk_cell HL.out.b1 0).trans rfl
  have s_1 := (blk_cell HL.out.b1 1).trans rfl
  (try simp only [List.getElem?_toArray, List.getElem?_cons_zero, List.getElem?_cons_succ] at s_0 s_1)
  by_cases hlt : j < tt.length
  rotate_left
  ·have s1 : decide ((j : Int) < (tt.length : Int)) = false := decide_eq_false (by omega)
   go_wp2_with (((with_reducible refine gate_callee (f := 7) rfl ?_); refine goesL_ (some 132) rfl rfl Tryd.func7 (by kernel_rfl) rfl #[] rfl zE ?_; (with_reducible refine (balustradelaw18_works.calls k true _ (TabW.below HT.out HL.out.B) HWK.out).mono ?_); rintro e w9 ⟨rfl, hb⟩; refine ⟨_, rfl, ?_⟩; have HL9 := Aside0.mk (LW.below HL.out hb); clear HL; have HL := HL9; clear HL9; clear hb))
   go_ret
   exact ⟨rfl, HL.out.B⟩
  have HLT := Aside0.mk hlt
  have HWR : Aside0 (wrap64 ((j : Int) + 1) = ((j + 1 : Nat) : Int)) := ⟨by have h_ := HNN.out; unfold wrap64; omega⟩
  obtain ⟨e1, e2, k1_, k2_, k3_, k4_⟩ := HJ.out j hlt
  have HK1 := Aside0.mk k1_
  have HK2 := Aside0.mk k2_
  have HK3 := Aside0.mk k3_
  have HK4 := Aside0.mk k4_
  clear k1_ k2_ k3_ k4_
  obtain ⟨ad0, Ae0, ce0, eE_, hx0, hl0, hc0⟩ := at_L3 (Kd.C_below HF.out.1 HL.out.Bb) (j : Int) (by omega) (by have := HLS.out; have := HLT.out; omega)
  subst eE_
  rw [Int.toNat_natCast, Pure.rdL3_nat] at hx0
  rw [Pure.rdL3_nat] at hl0 hc0
  have HE0 := Aside0.mk hx0
  have HG0 := Aside0.mk (And.intro hc0 hl0)
  clear hx0 hl0 hc0
  obtain ⟨ad1, Ae1, ce1, eE_, hx1, hl1, hc1⟩ := at_L3 (Kd.C_below HTT.out.1 HL.out.Bb) (j : Int) (by omega) (by have := HLS.out; have := HLT.out; omega)
  subst eE_
  rw [Int.toNat_natCast, Pure.rdL3_nat] at hx1
  rw [Pure.rdL3_nat] at hl1 hc1
  have HE1 := Aside0.mk hx1
  have HG1 := Aside0.mk (And.intro hc1 hl1)
  clear hx1 hl1 hc1
  obtain ⟨ad5, Ae5, ce5, eE_, hx5, hl5, hc5⟩ := at_L3 (Kd.C_below HF2.out.1 HB20.out) (j : Int) (by omega) (by have := HLS.out; have := HLT.out; omega)
  subst eE_
  rw [Int.toNat_natCast, Pure.rdL3_nat] at hx5
  rw [Pure.rdL3_nat] at hl5 hc5
  have HE5 := Aside0.mk hx5
  have HG5 := Aside0.mk (And.intro hc5 hl5)
  clear hx5 hl5 hc5
  obtain ⟨ad6, Ae6, ce6, eE_, hx6, hl6, hc6⟩ := at_L3 (Kd.C_below HTT2.out.1 HB20.out) (j : Int) (by omega) (by have := HLS.out; have := HLT.out; omega)
  subst eE_
  rw [Int.toNat_natCast, Pure.rdL3_nat] at hx6
  rw [Pure.rdL3_nat] at hl6 hc6
  have HE6 := Aside0.mk hx6
  have HG6 := Aside0.mk (And.intro hc6 hl6)
  clear hx6 hl6 hc6
  have s1 : decide ((j : Int) < (tt.length : Int)) = true := decide_eq_true (by omega)
  have i0 : ((j : Int) < (fr.length : Int)) = True := eq_true (by have := HLS.out; omega)
  have i1 : ((j : Int) < (tt.length : Int)) = True := eq_true (by have := HLS.out; omega)
  have i5 : ((j : Int) < (fr2.length : Int)) = True := eq_true (by have := HLS.out; omega)
  have i6 : ((j : Int) < (tt2.length : Int)) = True := eq_true (by have := HLS.out; omega)
  have ip : ((0 : Int) ≤ (j : Int)) = True := eq_true (by omega)
  clear hlt
  have z0_ : wrap64 0 = 0 := by unfold wrap64; omega
  go_upto_region 17 with (fail)
  clear t_0 t_1 s_0 s_1
  have hdr_ := below_drew (Below.refl wr.heap.size wr)
  have HB209 := Aside0.mk (below_step HB20.out hdr_)
  clear HB20
  have HB20 := HB209
  clear HB209
  have HL9 := Aside0.mk (LW.below HL.out hdr_)
  clear HL
  have HL := HL9
  clear HL9
  have HE9 := Aside0.mk (pw_cell_below hdr_ HE0.out)
  clear HE0
  have HE0 := HE9
  clear HE9
  have HG9 := Aside0.mk (And.intro (Kd.C_below HG0.out.1 hdr_) HG0.out.2)
  clear HG0
  have HG0 := HG9
  clear HG9
  have HE9 := Aside0.mk (pw_cell_below hdr_ HE1.out)
  clear HE1
  have HE1 := HE9
  clear HE9
  have HG9 := Aside0.mk (And.intro (Kd.C_below HG1.out.1 hdr_) HG1.out.2)
  clear HG1
  have HG1 := HG9
  clear HG9
  have HE9 := Aside0.mk (pw_cell_below hdr_ HE5.out)
  clear HE5
  have HE5 := HE9
  clear HE9
  have HG9 := Aside0.mk (And.intro (Kd.C_below HG5.out.1 hdr_) HG5.out.2)
  clear HG5
  have HG5 := HG9
  clear HG9
  have HE9 := Aside0.mk (pw_cell_below hdr_ HE6.out)
  clear HE6
  have HE6 := HE9
  clear HE9
  have HG9 := Aside0.mk (And.intro (Kd.C_below HG6.out.1 hdr_) HG6.out.2)
  clear HG6
  have HG6 := HG9
  clear HG9
  clear hdr_
  refine start_ (n := 26) (S := fun w' => w'.cell? ⟨gs, 0, none⟩ = some (.slice (some ad0) fr.length c0) ∧ w'.cell? ⟨gs, 1, none⟩ = some (.slice (some ad1) tt.length c1) ∧ w'.cell? ⟨gt, 0, none⟩ = some (.slice (some ad5) fr2.length c5) ∧ w'.cell? ⟨gt, 1, none⟩ = some (.slice (some ad6) tt2.length c6) ∧ w'.cell? (ad0.add j) = some (.slice Ae0 (fr.getD j []).length ce0) ∧ w'.cell? (ad1.add j) = some (.slice Ae1 (tt.getD j []).length ce1) ∧ w'.cell? (ad5.add j) = some (.slice Ae5 (fr2.getD j []).length ce5) ∧ w'.cell? (ad6.add j) = some (.slice Ae6 (tt2.getD j []).length ce6)) (ds := []) #[false, false, false, false, false, false, false, false, false, false, false, false, false, false, false, false, false, false, false, false, false, false, false, false, false, false] (by kernel_rfl) rfl rfl ⟨((blk_cell HL.out.b1 0).trans rfl), ((blk_cell HL.out.b1 1).trans rfl), ((blk_cell HL.out.b0 0).trans rfl), ((blk_cell HL.out.b0 1).trans rfl), HE0.out, HE1.out, HE5.out, HE6.out⟩ (fun hHeld => ?_)
  refine pT 0 (some 106) (zb 26 1) (h := ?_)
  refine pT 2 (some 108) (zb 26 5) (h := ?_)
  refine pT 5 (some 111) (zb 26 37) (h := ?_)
  refine pT 7 (some 113) (zb 26 165) (h := ?_)
  refine pT 12 (some 118) (zb 26 4261) (h := ?_)
  refine pT 14 (some 120) (zb 26 20645) (h := ?_)
  refine pT 17 (some 123) (zb 26 151717) (h := ?_)
  refine pT 19 (some 125) (zb 26 676005) (h := ?_)
  refine tT 1 (some 107) (zb 26 676007) hHeld (h := ?_)
  refine pT 3 (some 109) (zb 26 676015) (h := ?_)
  refine tT 4 (some 110) (zb 26 676031) hHeld (h := ?_)
  refine tT 6 (some 112) (zb 26 676095) hHeld (h := ?_)
  refine pT 8 (some 114) (zb 26 676351) (h := ?_)
  refine tT 9 (some 115) (zb 26 676863) hHeld (h := ?_)
  refine tT 13 (some 119) (zb 26 685055) hHeld (h := ?_)
  refine pT 15 (some 121) (zb 26 717823) (h := ?_)
  refine tT 16 (some 122) (zb 26 783359) hHeld (h := ?_)
  refine tT 18 (some 124) (zb 26 1045503) hHeld (h := ?_)
  refine pT 20 (some 126) (zb 26 2094079) (h := ?_)
  refine tT 21 (some 127) (zb 26 4191231) hHeld (h := ?_)
  refine one_ (i := 10) (N := some 116) (zb 26 4192255) rfl rfl (by kernel_rfl) (by decide) (fun K hK => ?_)
  refine goes_ Tryd.func17 (by kernel_rfl) rfl #[.slice Ae1 (tt.getD j []).length ce1, .slice Ae6 (tt2.getD j []).length ce6] (by rfl) rfl rfl (by simp only [List.map_toArray, List.map_cons, List.map_nil]; rfl) ?_
  with_reducible refine (bits_Less.calls k Ae1 ce1 (tt.getD j []) Ae6 ce6 (tt2.getD j []) e1 _ HG1.out.1 HG1.out.2 HG6.out.1 HG6.out.2 HK1.out).mono ?_
  rintro e wl ⟨v_, rfl, ho, hb⟩
  refine ⟨_, rfl, ?_⟩
  have HB209 := Aside0.mk (below_step HB20.out hb)
  clear HB20
  have HB20 := HB209
  clear HB209
  have HL9 := Aside0.mk (LW.below HL.out hb)
  clear HL
  have HL := HL9
  clear HL9
  have HE9 := Aside0.mk (pw_cell_below hb HE0.out)
  clear HE0
  have HE0 := HE9
  clear HE9
  have HG9 := Aside0.mk (And.intro (Kd.C_below HG0.out.1 hb) HG0.out.2)
  clear HG0
  have HG0 := HG9
  clear HG9
  have HE9 := Aside0.mk (pw_cell_below hb HE1.out)
  clear HE1
  have HE1 := HE9
  clear HE9
  have HG9 := Aside0.mk (And.intro (Kd.C_below HG1.out.1 hb) HG1.out.2)
  clear HG1
  have HG1 := HG9
  clear HG9
  have HE9 := Aside0.mk (pw_cell_below hb HE5.out)
  clear HE5
  have HE5 := HE9
  clear HE9
  have HG9 := Aside0.mk (And.intro (Kd.C_below HG5.out.1 hb) HG5.out.2)
  clear HG5
  have HG5 := HG9
  clear HG9
  have HE9 := Aside0.mk (pw_cell_below hb HE6.out)
  clear HE6
  have HE6 := HE9
  clear HE9
  have HG9 := Aside0.mk (And.intro (Kd.C_below HG6.out.1 hb) HG6.out.2)
  clear HG6
  have HG6 := HG9
  clear HG9
  have HV := Aside0.mk ho
  obtain ⟨Av, cv, rfl⟩ := Kd.R_slice ho
  clear ho hb
  refine hK.out _ _ ⟨((blk_cell HL.out.b1 0).trans rfl), ((blk_cell HL.out.b1 1).trans rfl), ((blk_cell HL.out.b0 0).trans rfl), ((blk_cell HL.out.b0 1).trans rfl), HE0.out, HE1.out, HE5.out, HE6.out⟩ (fun hHeld => ?_)
  clear hK K
  refine nN (some 116) (h := ?_)
  refine one_ (i := 11) (N := some 117) (zb 26 4194303) rfl rfl (by kernel_rfl) (by decide) (fun K hK => ?_)
  refine goes_ Tryd.func18 (by kernel_rfl) rfl #[.slice Av e1.length cv] (by rfl) rfl rfl (by simp only [List.map_toArray, List.map_cons, List.map_nil]; rfl) ?_
  with_reducible refine (bits_Set_Count.calls k Av cv e1 0 _ (Kd.R_reads' HV.out).2.2 (Kd.R_reads' HV.out).2.1 HK2.out).mono ?_
  rintro e wl ⟨rfl, hd_⟩
  refine ⟨_, rfl, ?_⟩
  have hb := Drawn0.below hd_
  have HB209 := Aside0.mk (below_step HB20.out hb)
  clear HB20
  have HB20 := HB209
  clear HB209
  have HL9 := Aside0.mk (LW.below HL.out hb)
  clear HL
  have HL := HL9
  clear HL9
  have HE9 := Aside0.mk (pw_cell_below hb HE0.out)
  clear HE0
  have HE0 := HE9
  clear HE9
  have HG9 := Aside0.mk (And.intro (Kd.C_below HG0.out.1 hb) HG0.out.2)
  clear HG0
  have HG0 := HG9
  clear HG9
  have HE9 := Aside0.mk (pw_cell_below hb HE1.out)
  clear HE1
  have HE1 := HE9
  clear HE9
  have HG9 := Aside0.mk (And.intro (Kd.C_below HG1.out.1 hb) HG1.out.2)
  clear HG1
  have HG1 := HG9
  clear HG9
  have HE9 := Aside0.mk (pw_cell_below hb HE5.out)
  clear HE5
  have HE5 := HE9
  clear HE9
  have HG9 := Aside0.mk (And.intro (Kd.C_below HG5.out.1 hb) HG5.out.2)
  clear HG5
  have HG5 := HG9
  clear HG9
  have HE9 := Aside0.mk (pw_cell_below hb HE6.out)
  clear HE6
  have HE6 := HE9
  clear HE9
  have HG9 := Aside0.mk (And.intro (Kd.C_below HG6.out.1 hb) HG6.out.2)
  clear HG6
  have HG6 := HG9
  clear HG9
  clear hd_ hb HV
  refine hK.out _ _ ⟨((blk_cell HL.out.b1 0).trans rfl), ((blk_cell HL.out.b1 1).trans rfl), ((blk_cell HL.out.b0 0).trans rfl), ((blk_cell HL.out.b0 1).trans rfl), HE0.out, HE1.out, HE5.out, HE6.out⟩ (fun hHeld => ?_)
  clear hK K
  refine nN (some 117) (h := ?_)
  refine one_ (i := 22) (N := some 128) (zb 26 8388607) rfl rfl (by kernel_rfl) (by decide) (fun K hK => ?_)
  refine goes_ Tryd.func17 (by kernel_rfl) rfl #[.slice Ae0 (fr.getD j []).length ce0, .slice Ae5 (fr2.getD j []).length ce5] (by rfl) rfl rfl (by simp only [List.map_toArray, List.map_cons, List.map_nil]; rfl) ?_
  with_reducible refine (bits_Less.calls k Ae0 ce0 (fr.getD j []) Ae5 ce5 (fr2.getD j []) e2 _ HG0.out.1 HG0.out.2 HG5.out.1 HG5.out.2 HK3.out).mono ?_
  rintro e wl ⟨v_, rfl, ho, hb⟩
  refine ⟨_, rfl, ?_⟩
  have HB209 := Aside0.mk (below_step HB20.out hb)
  clear HB20
  have HB20 := HB209
  clear HB209
  have HL9 := Aside0.mk (LW.below HL.out hb)
  clear HL
  have HL := HL9
  clear HL9
  have HE9 := Aside0.mk (pw_cell_below hb HE0.out)
  clear HE0
  have HE0 := HE9
  clear HE9
  have HG9 := Aside0.mk (And.intro (Kd.C_below HG0.out.1 hb) HG0.out.2)
  clear HG0
  have HG0 := HG9
  clear HG9
  have HE9 := Aside0.mk (pw_cell_below hb HE1.out)
  clear HE1
  have HE1 := HE9
  clear HE9
  have HG9 := Aside0.mk (And.intro (Kd.C_below HG1.out.1 hb) HG1.out.2)
  clear HG1
  have HG1 := HG9
  clear HG9
  have HE9 := Aside0.mk (pw_cell_below hb HE5.out)
  clear HE5
  have HE5 := HE9
  clear HE9
  have HG9 := Aside0.mk (And.intro (Kd.C_below HG5.out.1 hb) HG5.out.2)
  clear HG5
  have HG5 := HG9
  clear HG9
  have HE9 := Aside0.mk (pw_cell_below hb HE6.out)
  clear HE6
  have HE6 := HE9
  clear HE9
  have HG9 := Aside0.mk (And.intro (Kd.C_below HG6.out.1 hb) HG6.out.2)
  clear HG6
  have HG6 := HG9
  clear HG9
  have HV := Aside0.mk ho
  obtain ⟨Av, cv, rfl⟩ := Kd.R_slice ho
  clear ho hb
  refine hK.out _ _ ⟨((blk_cell HL.out.b1 0).trans rfl), ((blk_cell HL.out.b1 1).trans rfl), ((blk_cell HL.out.b0 0).trans rfl), ((blk_cell HL.out.b0 1).trans rfl), HE0.out, HE1.out, HE5.out, HE6.out⟩ (fun hHeld => ?_)
  clear hK K
  refine nN (some 128) (h := ?_)
  refine one_ (i := 23) (N := some 129) (zb 26 16777215) rfl rfl (by kernel_rfl) (by decide) (fun K hK => ?_)
  refine goes_ Tryd.func18 (by kernel_rfl) rfl #[.slice Av e2.length cv] (by rfl) rfl rfl (by simp only [List.map_toArray, List.map_cons, List.map_nil]; rfl) ?_
  with_reducible refine (bits_Set_Count.calls k Av cv e2 0 _ (Kd.R_reads' HV.out).2.2 (Kd.R_reads' HV.out).2.1 HK4.out).mono ?_
  rintro e wl ⟨rfl, hd_⟩
  refine ⟨_, rfl, ?_⟩
  have hb := Drawn0.below hd_
  have HB209 := Aside0.mk (below_step HB20.out hb)
  clear HB20
  have HB20 := HB209
  clear HB209
  have HL9 := Aside0.mk (LW.below HL.out hb)
  clear HL
  have HL := HL9
  clear HL9
  have HE9 := Aside0.mk (pw_cell_below hb HE0.out)
  clear HE0
  have HE0 := HE9
  clear HE9
  have HG9 := Aside0.mk (And.intro (Kd.C_below HG0.out.1 hb) HG0.out.2)
  clear HG0
  have HG0 := HG9
  clear HG9
  have HE9 := Aside0.mk (pw_cell_below hb HE1.out)
  clear HE1
  have HE1 := HE9
  clear HE9
  have HG9 := Aside0.mk (And.intro (Kd.C_below HG1.out.1 hb) HG1.out.2)
  clear HG1
  have HG1 := HG9
  clear HG9
  have HE9 := Aside0.mk (pw_cell_below hb HE5.out)
  clear HE5
  have HE5 := HE9
  clear HE9
  have HG9 := Aside0.mk (And.intro (Kd.C_below HG5.out.1 hb) HG5.out.2)
  clear HG5
  have HG5 := HG9
  clear HG9
  have HE9 := Aside0.mk (pw_cell_below hb HE6.out)
  clear HE6
  have HE6 := HE9
  clear HE9
  have HG9 := Aside0.mk (And.intro (Kd.C_below HG6.out.1 hb) HG6.out.2)
  clear HG6
  have HG6 := HG9
  clear HG9
  clear hd_ hb HV
  refine hK.out _ _ ⟨((blk_cell HL.out.b1 0).trans rfl), ((blk_cell HL.out.b1 1).trans rfl), ((blk_cell HL.out.b0 0).trans rfl), ((blk_cell HL.out.b0 1).trans rfl), HE0.out, HE1.out, HE5.out, HE6.out⟩ (fun hHeld => ?_)
  clear hK K
  refine nN (some 129) (h := ?_)
  refine pT 24 (some 130) (zb 26 33554431) (h := ?_)
  refine pT 25 (some 131) (zb 26 67108863) (h := ?_)
  refine done_ (by kernel_rfl) ?_
  clear hHeld
  go_wp2
  go_roundw
  case rel => exact ⟨j + 1, by first | (rw [HWR.out]; done) | (rw [HWR.out]), ⟨by have := HLT.out; omega⟩, HL, HB20⟩
  case measure => exact lw_meas _ _ _ (by first | exact HWR.out | omega) HLT.out
theorem u8_wf {x : Int} (h : (Lit.int .u8 x).wf = true) : 0 ≤ x ∧ x ≤ 255 := by
 have h1 : (decide (IntKind.u8.min ≤ x) && decide (x ≤ IntKind.u8.max)) = true := h
 have e1 : IntKind.u8.min = 0 := by decide
 have e2 : IntKind.u8.max = 255 := by decide
 rw [e1, e2] at h1
 simpa using h1
theorem balustradelaw18_FlowMore.walk (A0_0 : Option Addr) (c0_0 : Nat) (l0_0 : List (List Int)) (a0_1 : Bool) (a0_2 : Bool) (a0_3 : Int) (A0_4 : Option Addr) (c0_4 : Nat) (l0_4 : List (List Int)) (A0_5 : Option Addr) (c0_5 : Nat) (l0_5 : List (List Int)) (A0_6 : Option Addr) (c0_6 : Nat) (l0_6 : List Int) (a1 a2 : Int) (w : World) (hT : TabW w) (hr0_0 : Kd.C (Kd.slice 3 (Kd.int .i64)) w A0_0 l0_0.length l0_0) (hc0_0 : l0_0.length ≤ c0_0) (hr0_4 : Kd.C (Kd.slice 3 (Kd.int .i64)) w A0_4 l0_4.length l0_4) (hc0_4 : l0_4.length ≤ c0_4) (hr0_5 : Kd.C (Kd.slice 3 (Kd.int .i64)) w A0_5 l0_5.length l0_5) (hc0_5 : l0_5.length ≤ c0_5) (hr0_6 : Kd.C (Kd.int .i64) w A0_6 l0_6.length l0_6) (hc0_6 : l0_6.length ≤ c0_6) (hw3 : (Lit.int .i64 a0_3).wf = true) (hsz : Pure.Sz l0_0 l0_4 l0_5 l0_6) (w1 : (Lit.int .u8 a1).wf = true) (w2 : (Lit.int .u8 a2).wf = true) :
  Calls Tryd.prog 4 #[.agg #[.slice A0_0 l0_0.length c0_0, .bool a0_1, .bool a0_2, .int .i64 a0_3, .slice A0_4 l0_4.length c0_4, .slice A0_5 l0_5.length c0_5, .slice A0_6 l0_6.length c0_6], .int .u8 a1, .int .u8 a2] w fun e w' => e = .returned (.bool true) ∧ Below w.heap.size w w' := by
 have hD : RD.Ok ⟨A0_0, c0_0, l0_0, a0_1, a0_2, a0_3, A0_4, c0_4, l0_4, A0_5, c0_5, l0_5, A0_6, c0_6, l0_6⟩ w := ⟨hr0_0, hc0_0, hr0_4, hc0_4, hr0_5, hc0_5, hr0_6, hc0_6⟩
 have u1 := u8_wf w1
 have u2 := u8_wf w2
 have e1 : wrap64 a1 = ((a1.toNat : Nat) : Int) := by unfold wrap64; omega
 have e2 : wrap64 a2 = a2 := by unfold wrap64; omega
 obtain ⟨k, hp, hw⟩ := Pure.more_plan a0_1 a0_2 hsz (Pure.i64_wf hw3).2 a1 a2 u1.1 u2.1 u2.2
 cases hp with
 | no h0 => exact more_no ⟨A0_0, c0_0, l0_0, a0_1, a0_2, a0_3, A0_4, c0_4, l0_4, A0_5, c0_5, l0_5, A0_6, c0_6, l0_6⟩ a1 a2 k w hT hD h0 hw
 | zero h0 hG => exact more_zero ⟨A0_0, c0_0, l0_0, a0_1, a0_2, a0_3, A0_4, c0_4, l0_4, A0_5, c0_5, l0_5, A0_6, c0_6, l0_6⟩ a1 a2 k w hT hD h0 hG hw
 | bad t s A C B E h0 hG h1 h2 => exact more_bad ⟨A0_0, c0_0, l0_0, a0_1, a0_2, a0_3, A0_4, c0_4, l0_4, A0_5, c0_5, l0_5, A0_6, c0_6, l0_6⟩ a1 a2 k t s A C B E w hT hD h0 hG h1 h2 hw
 | good t s o1 o2 A C B E fr tt fr2 tt2 h0 hG h1 h2 hA hg hn h3 h4 h5 l1 l2 l3 hj =>
  exact more_good ⟨A0_0, c0_0, l0_0, a0_1, a0_2, a0_3, A0_4, c0_4, l0_4, A0_5, c0_5, l0_5, A0_6, c0_6, l0_6⟩ a1 a2 k (a1.toNat % A.length) t s o1 o2 A C B E fr tt fr2 tt2 w hT hD h0 hG h1 h2 hA (by omega) hn (by rw [e1]; exact (Int.ofNat_tmod _ _).symm) (Nat.mod_lt _ (by omega)) (by rw [e2]; exact h3) h4 h5 l1 l2 l3 hj hw
end Go.Proofs.YtanpghbakbebiaaDoor.P

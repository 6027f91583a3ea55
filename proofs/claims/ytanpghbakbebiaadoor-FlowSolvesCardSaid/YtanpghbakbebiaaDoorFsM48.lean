/- A part of it. -/
import Derived.Test.YtanpghbakbebiaaDoorFsZ
import Derived.Test.YtanpghbakbebiaaDoorFsRsC
import Derived.Test.YtanpghbakbebiaaDoorFsP12
import Derived.Test.YtanpghbakbebiaaDoorFsM37
import Derived.Outline
import Derived.Test.YtanpghbakbebiaaDoorFsP0
set_option linter.unusedVariables false
set_option linter.unusedSimpArgs false
namespace Go.Proofs.YtanpghbakbebiaaDoor.P
open Go Go.RowKit Go.Proofs.YtanpghbakbebiaaDoorW.PrintWords Go.Proofs.YtanpghbakbebiaaDoorW.PrintLast Go.Proofs.YtanpghbakbebiaaDoorW.PrintMore
theorem tbRow_put (A : List (List Bool)) (b i : Int) (x : Bool) (h0 : 0 ≤ b) (h1 : b < (A.length : Int)) : (A.set b.toNat ((A.getD b.toNat []).set i.toNat x)).getD b.toNat [] = (A.getD b.toNat []).set i.toNat x := by
  have : b.toNat < A.length := by omega
  simp [List.getD_eq_getElem?_getD, this]
theorem rd_put (r : List Bool) (i : Int) (h0 : 0 ≤ i) (h1 : i < (r.length : Int)) (x : Bool) : rdOf false (r.set i.toNat x) i = x := by
  have : i.toNat < r.length := by omega
  simp [rdOf, List.getD_eq_getElem?_getD, this]
theorem infrb : (Tryd.prog.info? 49).map (fun i => (i.zero, i.size, i.bytes)) = some (some (.slice none 0 0), 1, 24) := by kernel_rfl
set_option maxHeartbeats 32000000 in
set_option maxRecDepth 100000 in
theorem rs_at (D : RD) (k : Nat) (q1 q2 : List (List Bool)) (w : World) (hD : D.Ok w) (h : rs_f k D.l0 D.bk D.al D.wd D.l4 D.l5 D.l6 = some (q1, q2)) :
    Calls Tryd.prog 13 #[.agg #[.slice D.A0 D.l0.length D.c0, .bool D.bk, .bool D.al, .int .i64 D.wd, .slice D.A4 D.l4.length D.c4, .slice D.A5 D.l5.length D.c5, .slice D.A6 D.l6.length D.c6]] w fun e w' => ∃ v0_ v1_ : Value, e = .returned (.tuple #[v0_, v1_]) ∧ Kd.N (Kd.slice 4 Kd.bool) 49 w' w.heap.size (fun k_ => some k_ ≠ (v1_ : Value).ownBlock ∧ w.heap.size ≤ k_) v0_ q1 ∧ Kd.N (Kd.slice 4 Kd.bool) 49 w' w.heap.size (fun k_ => some k_ ≠ (v0_ : Value).ownBlock ∧ w.heap.size ≤ k_) v1_ q2 ∧ Below w.heap.size w w' := by
  have HD := Aside0.mk hD
  have hu25 := Tryd.underlying25
  clear hD
  unfold rs_f at h
  obtain ⟨⟨A1, B1⟩, h0, h1⟩ := Option.bind_eq_some_iff.mp h
  have H0 := Aside0.mk h0
  have H1 := Aside0.mk h1
  clear h h0 h1
  go_enter Tryd.func13, Tryd.ntmps13
  go_upto_region 2 with (first | ((with_reducible refine gate_dst (N := 14) rfl ?_); (try (refine gate_guard (by rfl) ?_; dsimp only)); refine Kd.S_lit (Kd.slice 4 Kd.bool) _ 49 ?hg (N := 14) ?hd (xs := ([] : List (List Bool))) (inner := []) (ok := fun _ => True) (okp := fun _ => True) ?hr ?hp (fun _ hk => hk) trivial (Below.refl _ _) (Nat.le_refl _) (by simp) ?_; (case hd => rfl); (case hg => rfl); (case hr => first | (go_simp; done) | (go_simp; rfl)); (case hp => exact (Reps.none _ _)); intro vn wn hn hbn hg_ hnew_; clear hg_ hnew_; have HA1 := Aside0.mk hn; have HB1 := Aside0.mk hbn; clear hn hbn) | ((with_reducible refine gate_dst (N := 15) rfl ?_); (try (refine gate_guard (by rfl) ?_; dsimp only)); refine Kd.S_lit (Kd.slice 4 Kd.bool) _ 49 ?hg (N := 15) ?hd (xs := ([] : List (List Bool))) (inner := []) (ok := fun _ => True) (okp := fun _ => True) ?hr ?hp (fun _ hk => hk) trivial (Below.refl _ _) (Nat.le_refl _) (by simp) ?_; (case hd => rfl); (case hg => rfl); (case hr => first | (go_simp; done) | (go_simp; rfl)); (case hp => exact (Reps.none _ _)); intro vn wn hn hbn hg_ hnew_; clear hg_ hnew_; obtain ⟨f, hst⟩ := RSt.start HD.out HB1.out HA1.out hbn hn; have HS := Aside0.mk hst; clear hst hn hbn HA1 HB1))
  generalize vn = vb at *
  go_wp2
  go_loopg [4, 5, 6] k (fun kq v4 v5 v6 w' => ∃ (i : Int) (f : Nat → Nat) (va vb : Value) (A B : List (List Bool)), va = v4 ∧ vb = v5 ∧ v6 = .int .i64 i ∧ Aside0 (rs_l0 kq D.al D.wd D.l0.length i A B = some (A1, B1)) ∧ Aside0 (kq ≤ k) ∧ Aside0 (RSt w D f va vb (.slice none 0 0) (.slice none 0 0) A B [] [] w'))
  case atStart => exact ⟨0, _, _, _, _, _, rfl, rfl, rfl, H0, ⟨Nat.le_refl _⟩, HS⟩
  case round =>
    clear H0 HS
    obtain ⟨i, f, va, vb, A, B, rfl, rfl, rfl, HA, HK1, HS⟩ := hrel
    cases gk with
    | zero => exact absurd HA.out (by simp [rs_l0])
    | succ k1 =>
      have H := HA.out
      clear HA
      simp only [rs_l0] at H
      have p0 := (blk_cell HS.out.p 0).trans rfl
      have p1 := (blk_cell HS.out.p 1).trans rfl
      have p2 := (blk_cell HS.out.p 2).trans rfl
      have p3 := (blk_cell HS.out.p 3).trans rfl
      have p4 := (blk_cell HS.out.p 4).trans rfl
      have p5 := (blk_cell HS.out.p 5).trans rfl
      have p6 := (blk_cell HS.out.p 6).trans rfl
      (try simp only [List.getElem?_toArray, List.getElem?_cons_zero, List.getElem?_cons_succ] at p0 p1 p2 p3 p4 p5 p6)
      by_cases ci : i < (D.l0.length : Int)
      · rw [if_pos ci] at H
        by_cases cl : A.length ≤ 65536 ∧ B.length ≤ 65536
        rotate_left
        · rw [if_neg cl] at H; cases H
        rw [if_pos cl] at H
        have HLA := Aside0.mk cl
        obtain ⟨⟨r7, r8⟩, h7, H⟩ := Option.bind_eq_some_iff.mp H
        have H7 := Aside0.mk h7
        have HH := Aside0.mk H
        clear h7 H cl
        have b1 : decide (i < (D.l0.length : Int)) = true := decide_eq_true ci
        go_upto_region 6 with (first | ((with_reducible refine gate_dst (N := 23) rfl ?_); (try (refine gate_guard (by rfl) ?_; dsimp only)); refine Kd.R_lit Kd.bool _ 4 ?hg (N := 23) ?hd (xs := ([] : List Bool)) (inner := []) (ok := fun _ => True) (okp := fun _ => True) ?hr ?hp (fun _ hk => hk) trivial (Below.refl _ _) (Nat.le_refl _) (by simp) ?_; (case hd => rfl); (case hg => rfl); (case hr => first | (go_simp; done) | (go_simp; rfl)); (case hp => exact (Reps.none _ _)); intro vn wn hn hbn hg_ hnew_; clear hg_ hnew_; have HS9 := Aside0.mk (RSt.newC HS.out hbn hn); clear HS; have HS := HS9; clear HS9 hbn hn) | ((with_reducible refine gate_dst (N := 24) rfl ?_); (try (refine gate_guard (by rfl) ?_; dsimp only)); refine Kd.R_lit Kd.bool _ 4 ?hg (N := 24) ?hd (xs := ([] : List Bool)) (inner := []) (ok := fun _ => True) (okp := fun _ => True) ?hr ?hp (fun _ hk => hk) trivial (Below.refl _ _) (Nat.le_refl _) (by simp) ?_; (case hd => rfl); (case hg => rfl); (case hr => first | (go_simp; done) | (go_simp; rfl)); (case hp => exact (Reps.none _ _)); intro vn wn hn hbn hg_ hnew_; clear hg_ hnew_; have HS9 := Aside0.mk (RSt.newD HS.out hbn hn); clear HS; have HS := HS9; clear HS9 hbn hn))
        clear p0 p1 p2 p3 p4 p5 p6
        go_wp2
        go_loopg [7, 8, 9] k1 (fun kq v7 v8 v9 w' => ∃ (i2 : Int) (f : Nat → Nat) (vc vd : Value) (r s : List Bool), vc = v7 ∧ vd = v8 ∧ v9 = .int .i64 i2 ∧ Aside0 (rs_l1 kq D.al D.wd i2 r s = some (r7, r8)) ∧ Aside0 (kq ≤ k1) ∧ Aside0 (RSt w D f va vb vc vd A B r s w'))
        case atStart => exact ⟨0, _, _, _, _, _, rfl, rfl, rfl, H7, ⟨Nat.le_refl _⟩, HS⟩
        case round =>
          clear H7 HS
          obtain ⟨i2, f, vc, vd, r, s, rfl, rfl, rfl, HA, HK2, HS⟩ := hrel
          cases gk with
          | zero => exact absurd HA.out (by simp [rs_l1])
          | succ k2 =>
            have H := HA.out
            clear HA
            simp only [rs_l1] at H
            have p0 := (blk_cell HS.out.p 0).trans rfl
            have p1 := (blk_cell HS.out.p 1).trans rfl
            have p2 := (blk_cell HS.out.p 2).trans rfl
            have p3 := (blk_cell HS.out.p 3).trans rfl
            have p4 := (blk_cell HS.out.p 4).trans rfl
            have p5 := (blk_cell HS.out.p 5).trans rfl
            have p6 := (blk_cell HS.out.p 6).trans rfl
            (try simp only [List.getElem?_toArray, List.getElem?_cons_zero, List.getElem?_cons_succ] at p0 p1 p2 p3 p4 p5 p6)
            by_cases c2 : i2 < D.wd
            · rw [if_pos c2] at H
              by_cases cl : r.length ≤ 65536 ∧ s.length ≤ 65536
              rotate_left
              · rw [if_neg cl] at H; cases H
              rw [if_pos cl] at H
              have HL := Aside0.mk cl
              have HH2 := Aside0.mk H
              clear H cl
              have b2 : decide (i2 < D.wd) = true := decide_eq_true c2
              go_wp2_with (first | ((with_reducible refine gate_builtin (b := .append) (xs := #[.tmp 31, .tmp 34]) rfl ?_); at_builtin; refine Kd.R_append Kd.bool (w0 := w) w.heap.size rfl (.tmp 31) (.tmp 34) 49 4 (.bool false) 1 rfl Tryd.underlying49 Go.Proofs.YtanpghbakbebiaaDoorQ.info4b rfl (by decide) (by omega) vc r D.al [.bool D.al] (fun k => newLab f wr.heap.size 2 k = 2) (fun _ => False) rfl rfl ?aP ?aK ?aF ?aO HS.out.Bl HS.out.Bl.size ?aL ?_; (case aP => exact rfl); (case aK => exact (fun _ hk => hk.elim)); (case aF => exact (fun k hk => newLab_new hk)); (case aO => exact (RSt.relab HS.out (f' := newLab f wr.heap.size 2) (fun k hk => newLab_old hk)).c); (case aL => have := HL.out.1; omega); intro vn wn hn hbn hgn hat; have HS9 := Aside0.mk (RSt.grownC HS.out hbn hgn hn); clear HS; have HS := HS9; clear HS9 hn hbn hgn hat; clear p0 p1 p2 p3 p4 p5 p6; have p0 := (blk_cell HS.out.p 0).trans rfl; have p1 := (blk_cell HS.out.p 1).trans rfl; have p2 := (blk_cell HS.out.p 2).trans rfl; have p3 := (blk_cell HS.out.p 3).trans rfl; have p4 := (blk_cell HS.out.p 4).trans rfl; have p5 := (blk_cell HS.out.p 5).trans rfl; have p6 := (blk_cell HS.out.p 6).trans rfl; (try simp only [List.getElem?_toArray, List.getElem?_cons_zero, List.getElem?_cons_succ] at p0 p1 p2 p3 p4 p5 p6)) | ((with_reducible refine gate_builtin (b := .append) (xs := #[.tmp 36, .tmp 39]) rfl ?_); at_builtin; refine Kd.R_append Kd.bool (w0 := w) w.heap.size rfl (.tmp 36) (.tmp 39) 49 4 (.bool false) 1 rfl Tryd.underlying49 Go.Proofs.YtanpghbakbebiaaDoorQ.info4b rfl (by decide) (by omega) vd s D.al [.bool D.al] (fun k => newLab (newLab f wr.heap.size 2) wn.heap.size 3 k = 3) (fun _ => False) rfl rfl ?aP ?aK ?aF ?aO HS.out.Bl HS.out.Bl.size ?aL ?_; (case aP => exact rfl); (case aK => exact (fun _ hk => hk.elim)); (case aF => exact (fun k hk => newLab_new hk)); (case aO => exact (RSt.relab HS.out (f' := newLab (newLab f wr.heap.size 2) wn.heap.size 3) (fun k hk => newLab_old hk)).d); (case aL => have := HL.out.2; omega); intro vn wn hn hbn hgn hat; have HS9 := Aside0.mk (RSt.grownD HS.out hbn hgn hn); clear HS; have HS := HS9; clear HS9 hn hbn hgn hat))
              go_roundg k2
              case measure => have := HK2.out; omega
              case rel => exact ⟨wrap64 (i2 + 1), _, _, _, _, _, rfl, rfl, rfl, HH2, ⟨by have := HK2.out; omega⟩, HS⟩
            · rw [if_neg c2] at H
              obtain ⟨rfl, rfl⟩ := Prod.mk.inj (Option.some.inj H)
              have b2 : decide (i2 < D.wd) = false := decide_eq_false c2
              clear c2 H
              obtain ⟨Ac, cc, evc⟩ := Kd.R_slice HS.out.c
              subst evc
              obtain ⟨Ad, cd, evd⟩ := Kd.R_slice HS.out.d
              subst evd
              go_wp2_with (first | ((with_reducible refine gate_builtin (b := .append) (xs := #[.tmp 41, .tmp 43]) rfl ?_); at_builtin; refine Kd.S_append (Kd.slice 4 Kd.bool) (w0 := w) w.heap.size rfl (.tmp 41) (.tmp 43) 41 49 (.slice none 0 0) 24 rfl Tryd.underlying41 infrb rfl (by decide) (by omega) va A r [.slice Ac r.length cc] (fun k => joinLab f wr.heap.size 2 0 k = 0) (fun k => f k = 2) rfl rfl ?aP ?aK ?aF ?aO HS.out.Bl HS.out.Bl.size ?aL ?_; (case aP => exact ⟨_, rfl, HS.out.c⟩); (case aK => exact (RSt.jA HS.out).2); (case aF => exact (fun k hk => joinLab_new hk)); (case aO => exact (RSt.jA HS.out).1); (case aL => have := HLA.out.1; omega); intro vn wn hn hbn hgn hat; have HS9 := Aside0.mk (RSt.appA HS.out hbn hgn hn); clear HS; have HS := HS9; clear HS9 hn hbn hgn hat) | ((with_reducible refine gate_builtin (b := .append) (xs := #[.tmp 45, .tmp 47]) rfl ?_); at_builtin; refine Kd.S_append (Kd.slice 4 Kd.bool) (w0 := w) w.heap.size rfl (.tmp 45) (.tmp 47) 41 49 (.slice none 0 0) 24 rfl Tryd.underlying41 infrb rfl (by decide) (by omega) vb B s [.slice Ad s.length cd] (fun k => joinLab (joinLab f wr.heap.size 2 0) wn.heap.size 3 1 k = 1) (fun k => joinLab f wr.heap.size 2 0 k = 3) rfl rfl ?aP ?aK ?aF ?aO HS.out.Bl HS.out.Bl.size ?aL ?_; (case aP => exact ⟨_, rfl, HS.out.d⟩); (case aK => exact (RSt.jB HS.out).2); (case aF => exact (fun k hk => joinLab_new hk)); (case aO => exact (RSt.jB HS.out).1); (case aL => have := HLA.out.2; omega); intro vn wn hn hbn hgn hat; have HS9 := Aside0.mk (RSt.appB HS.out hbn hgn hn); clear HS; have HS := HS9; clear HS9 hn hbn hgn hat))
              go_roundg k1
              case measure => have := HK1.out; omega
              case rel => exact ⟨wrap64 (i + 1), _, _, _, _, _, rfl, rfl, rfl, HH, ⟨by have := HK1.out; omega⟩, HS⟩
      · rw [if_neg ci] at H
        obtain ⟨rfl, rfl⟩ := Prod.mk.inj (Option.some.inj H)
        have b1 : decide (i < (D.l0.length : Int)) = false := decide_eq_false ci
        clear ci H
        go_wp2
        clear p0 p1 p2 p3 p4 p5 p6
        go_loopg [10] k (fun kq v10 w' => ∃ (A B : List (List Bool)) (ch : Bool), v10 = .bool ch ∧ Aside0 (rs_l4 kq D.l0 D.bk D.al D.wd D.l4 D.l5 D.l6 A B ch = some (q1, q2)) ∧ Aside0 (kq ≤ k) ∧ Aside0 (RSt w D f va vb (.slice none 0 0) (.slice none 0 0) A B [] [] w'))
        case atStart => exact ⟨_, _, true, rfl, H1, ⟨Nat.le_refl _⟩, HS⟩
        case round =>
          clear H1 HS
          obtain ⟨A, B, ch, rfl, HA, HK3, HS⟩ := hrel
          cases gk with
          | zero => exact absurd HA.out (by simp [rs_l4])
          | succ k1 =>
            have H := HA.out
            clear HA
            simp only [rs_l4] at H
            cases ch
            · rw [if_neg (by simp)] at H
              obtain ⟨rfl, rfl⟩ := Prod.mk.inj (Option.some.inj H)
              clear H
              go_wp2
              go_ret2
              refine ⟨_, _, rfl, Kd.S_N (Kd.S_mono (Kd.S_bound HS.out.a) (fun k hk => ⟨fun q => by have h1_ := (Kd.S_R HS.out.b).1 k q.symm; have h2_ := hk.1; omega, hk.2.1⟩)), Kd.S_N (Kd.S_mono (Kd.S_bound HS.out.b) (fun k hk => ⟨fun q => by have h1_ := (Kd.S_R HS.out.a).1 k q.symm; have h2_ := hk.1; omega, hk.2.1⟩)), HS.out.Bl⟩
            · rw [if_pos rfl] at H
              obtain ⟨⟨A2, B2, ch2⟩, h2, H⟩ := Option.bind_eq_some_iff.mp H
              have H2 := Aside0.mk h2
              have HH := Aside0.mk H
              clear h2 H
              go_wp2
              go_loopg [10, 11] k1 (fun kq v10 v11 w' => ∃ (b : Int) (A B : List (List Bool)) (ch : Bool), v10 = .bool ch ∧ v11 = .int .i64 b ∧ Aside0 (rs_l2 kq D.l0 D.bk D.al D.wd D.l4 D.l5 D.l6 b A B ch = some (A2, B2, ch2)) ∧ Aside0 (kq ≤ k1) ∧ Aside0 (RSt w D f va vb (.slice none 0 0) (.slice none 0 0) A B [] [] w'))
              case atStart => exact ⟨0, _, _, false, rfl, rfl, H2, ⟨Nat.le_refl _⟩, HS⟩
              case round =>
                clear H2 HS
                obtain ⟨b, A, B, ch, rfl, rfl, HA, HK4, HS⟩ := hrel
                cases gk with
                | zero => exact absurd HA.out (by simp [rs_l2])
                | succ k2 =>
                  have H := HA.out
                  clear HA
                  simp only [rs_l2] at H
                  have p0 := (blk_cell HS.out.p 0).trans rfl
                  have p1 := (blk_cell HS.out.p 1).trans rfl
                  have p2 := (blk_cell HS.out.p 2).trans rfl
                  have p3 := (blk_cell HS.out.p 3).trans rfl
                  have p4 := (blk_cell HS.out.p 4).trans rfl
                  have p5 := (blk_cell HS.out.p 5).trans rfl
                  have p6 := (blk_cell HS.out.p 6).trans rfl
                  (try simp only [List.getElem?_toArray, List.getElem?_cons_zero, List.getElem?_cons_succ] at p0 p1 p2 p3 p4 p5 p6)
                  by_cases cb : b < (D.l0.length : Int)
                  · rw [if_pos cb] at H
                    obtain ⟨⟨A3, B3, ch3⟩, h3, H⟩ := Option.bind_eq_some_iff.mp H
                    have H3 := Aside0.mk h3
                    have HH2 := Aside0.mk H
                    clear h3 H
                    have b1 : decide (b < (D.l0.length : Int)) = true := decide_eq_true cb
                    clear cb
                    go_wp2
                    clear p0 p1 p2 p3 p4 p5 p6
                    go_loopg [10, 12] k2 (fun kq v10 v12 w' => ∃ (i : Int) (A B : List (List Bool)) (ch : Bool), v10 = .bool ch ∧ v12 = .int .i64 i ∧ Aside0 (rs_l3 kq D.l0 D.bk D.al D.wd D.l4 D.l5 D.l6 b i A B ch = some (A3, B3, ch3)) ∧ Aside0 (kq ≤ k2) ∧ Aside0 (RSt w D f va vb (.slice none 0 0) (.slice none 0 0) A B [] [] w'))
                    case atStart => exact ⟨0, _, _, _, rfl, rfl, H3, ⟨Nat.le_refl _⟩, HS⟩
                    case round =>
                      clear H3 HS
                      obtain ⟨i, A, B, ch, rfl, rfl, HA, HK5, HS⟩ := hrel
                      cases gk with
                      | zero => exact absurd HA.out (by simp [rs_l3])
                      | succ k3 =>
                        have H := HA.out
                        clear HA
                        simp only [rs_l3] at H
                        have p0 := (blk_cell HS.out.p 0).trans rfl
                        have p1 := (blk_cell HS.out.p 1).trans rfl
                        have p2 := (blk_cell HS.out.p 2).trans rfl
                        have p3 := (blk_cell HS.out.p 3).trans rfl
                        have p4 := (blk_cell HS.out.p 4).trans rfl
                        have p5 := (blk_cell HS.out.p 5).trans rfl
                        have p6 := (blk_cell HS.out.p 6).trans rfl
                        (try simp only [List.getElem?_toArray, List.getElem?_cons_zero, List.getElem?_cons_succ] at p0 p1 p2 p3 p4 p5 p6)
                        by_cases ci : i < D.wd
                        · rw [if_pos ci] at H
                          have b2 : decide (i < D.wd) = true := decide_eq_true ci
                          clear ci
                          simp only [rs_c] at H
                          by_cases hx : 0 ≤ b ∧ b < (A.length : Int) ∧ b < (B.length : Int) ∧ 0 ≤ i ∧ i < ((tbRow A b).length : Int) ∧ i < ((tbRow B b).length : Int)
                          rotate_left
                          · rw [if_neg hx] at H; cases H
                          rw [if_pos hx] at H
                          obtain ⟨q_, hq, H⟩ := Option.bind_eq_some_iff.mp H
                          obtain ⟨x, hFr, hq⟩ := Option.bind_eq_some_iff.mp hq
                          obtain ⟨y, hTo, hq⟩ := Option.bind_eq_some_iff.mp hq
                          obtain rfl := Option.some.inj hq
                          have HFR := Aside0.mk hFr
                          have HTO := Aside0.mk hTo
                          have HH3 := Aside0.mk H
                          have HX := Aside0.mk hx
                          clear hFr hTo H hq
                          obtain ⟨x0, x1, x2, x3, x4, x5⟩ := hx
                          obtain ⟨Aa, ca, eva⟩ := Kd.S_slice HS.out.a
                          obtain ⟨Ab, cb, evb⟩ := Kd.S_slice HS.out.b
                          subst eva evb
                          obtain ⟨ada, rfl⟩ : ∃ ad, Aa = some ad := by obtain ⟨g_, c_, e_, _⟩ := Kd.S_form HS.out.a (by omega); injection e_ with e1_ e2_ e3_; exact ⟨_, e1_⟩
                          obtain ⟨adb, rfl⟩ : ∃ ad, Ab = some ad := by obtain ⟨g_, c_, e_, _⟩ := Kd.S_form HS.out.b (by omega); injection e_ with e1_ e2_ e3_; exact ⟨_, e1_⟩
                          obtain ⟨ga, ca2, ya, yia, zia, lga, bga, sga, puta⟩ := tab_cell HS.out.a b i x0 x1 x3 x4
                          simp only [tbRow] at x4 x5
                          obtain ⟨ra, era⟩ : ∃ l, A.getD b.toNat [] = l := ⟨_, rfl⟩
                          obtain ⟨rb, erb⟩ : ∃ l, B.getD b.toNat [] = l := ⟨_, rfl⟩
                          rw [era] at x4 ya yia puta
                          rw [erb] at x5
                          have ERA := Aside0.mk era
                          have ERB := Aside0.mk erb
                          clear era erb
                          have d0 : decide (0 ≤ b) = true := decide_eq_true x0
                          have d1 : decide (b < (A.length : Int)) = true := decide_eq_true x1
                          have d2 : decide (b < (B.length : Int)) = true := decide_eq_true x2
                          have d3 : decide (0 ≤ i) = true := decide_eq_true x3
                          have d4 : decide (i < (ra.length : Int)) = true := decide_eq_true x4
                          have d5 : decide (i < (rb.length : Int)) = true := decide_eq_true x5
                          replace x0 := eq_true x0
                          replace x1 := eq_true x1
                          replace x2 := eq_true x2
                          replace x3 := eq_true x3
                          have x6 : (i < (ra.length : Int)) = True := eq_true x4
                          have x7 : (i < (rb.length : Int)) = True := eq_true x5
                          clear x4 x5
                          clear puta
                          go_upto_region 22 with (fail)
                          refine start_ (n := 12) (S := fun w' => w'.cell? ⟨w.heap.size, 0, none⟩ = some (.slice D.A0 D.l0.length D.c0) ∧ w'.cell? ⟨w.heap.size, 1, none⟩ = some (.bool D.bk) ∧ w'.cell? ⟨w.heap.size, 2, none⟩ = some (.bool D.al) ∧ w'.cell? ⟨w.heap.size, 3, none⟩ = some (.int .i64 D.wd) ∧ w'.cell? ⟨w.heap.size, 4, none⟩ = some (.slice D.A4 D.l4.length D.c4) ∧ w'.cell? ⟨w.heap.size, 5, none⟩ = some (.slice D.A5 D.l5.length D.c5) ∧ w'.cell? ⟨w.heap.size, 6, none⟩ = some (.slice D.A6 D.l6.length D.c6) ∧ w'.cell? (ada.add b.toNat) = some (.slice (some ⟨ga, 0, none⟩) ra.length ca2)) (ds := [11]) #[false, false, false, false, false, false, false, false, false, false, false, false] (by kernel_rfl) rfl rfl ⟨p0, p1, p2, p3, p4, p5, p6, ya⟩ (fun hHeld => ?_)
                          refine pT 0 (some 63) (zb 12 1) (h := ?_)
                          refine pT 1 (some 64) (zb 12 3) (h := ?_)
                          refine pT 2 (some 65) (zb 12 7) (h := ?_)
                          refine pT 4 (some 67) (zb 12 23) (h := ?_)
                          refine pT 6 (some 69) (zb 12 87) (h := ?_)
                          refine pT 7 (some 70) (zb 12 215) (h := ?_)
                          refine pT 8 (some 71) (zb 12 471) (h := ?_)
                          refine tT 3 (some 66) (zb 12 479) hHeld (h := ?_)
                          refine tT 5 (some 68) (zb 12 511) hHeld (h := ?_)
                          refine one_ (i := 9) (N := some 72) (zb 12 1023) rfl rfl (by kernel_rfl) (by decide) (fun K hK => ?_)
                          refine goes_ Tryd.func20 (by kernel_rfl) rfl #[.agg #[.slice D.A0 D.l0.length D.c0, .bool D.bk, .bool D.al, .int .i64 D.wd, .slice D.A4 D.l4.length D.c4, .slice D.A5 D.l5.length D.c5, .slice D.A6 D.l6.length D.c6], .slice (some adb) B.length cb, .int .i64 b, .int .i64 i] (by rfl) rfl rfl (by simp only [List.map_toArray, List.map_cons, List.map_nil]; rfl) ?_
                          with_reducible refine (balustraderef18_From.calls k3 D.A0 D.c0 D.l0 D.bk D.al D.wd D.A4 D.c4 D.l4 D.A5 D.c5 D.l5 D.A6 D.c6 D.l6 (some adb) cb B b i x _ (RD.Ok.below (RSt.o (by first | exact HS.out | exact RSt.below HS.out (below_drew (Below.refl _ _)))) (RSt.Bl (by first | exact HS.out | exact RSt.below HS.out (below_drew (Below.refl _ _))))).r0 HD.out.c0 (RD.Ok.below (RSt.o (by first | exact HS.out | exact RSt.below HS.out (below_drew (Below.refl _ _)))) (RSt.Bl (by first | exact HS.out | exact RSt.below HS.out (below_drew (Below.refl _ _))))).r4 HD.out.c4 (RD.Ok.below (RSt.o (by first | exact HS.out | exact RSt.below HS.out (below_drew (Below.refl _ _)))) (RSt.Bl (by first | exact HS.out | exact RSt.below HS.out (below_drew (Below.refl _ _))))).r5 HD.out.c5 (RD.Ok.below (RSt.o (by first | exact HS.out | exact RSt.below HS.out (below_drew (Below.refl _ _)))) (RSt.Bl (by first | exact HS.out | exact RSt.below HS.out (below_drew (Below.refl _ _))))).r6 HD.out.c6 (Kd.S_reads' (RSt.b (by first | exact HS.out | exact RSt.below HS.out (below_drew (Below.refl _ _))))).2.2 (Kd.S_reads' (RSt.b (by first | exact HS.out | exact RSt.below HS.out (below_drew (Below.refl _ _))))).2.1 HFR.out).mono ?_
                          rintro e w6 ⟨rfl, hbF⟩
                          refine ⟨_, rfl, ?_⟩
                          have HS9 := Aside0.mk (RSt.below (by first | exact HS.out | exact RSt.below HS.out (below_drew (Below.refl _ _))) hbF)
                          have HBF := Aside0.mk hbF
                          obtain ⟨ga', ca', ya', yi6, zi6, lg', bg', sg', puta6⟩ := tab_cell HS9.out.a b i HX.out.1 HX.out.2.1 HX.out.2.2.2.1 HX.out.2.2.2.2.1
                          obtain ⟨rfl, rfl⟩ : ga = ga' ∧ ca2 = ca' := by have q_ := (pw_cell_below HBF.out (by first | exact ya)).symm.trans ya'; injection q_ with q_; injection q_ with q1 q2 q3; injection q1 with q1; injection q1 with q1; exact ⟨q1, q3⟩
                          refine hK.out _ _ ⟨((blk_cell (RSt.p HS9.out) 0).trans rfl), ((blk_cell (RSt.p HS9.out) 1).trans rfl), ((blk_cell (RSt.p HS9.out) 2).trans rfl), ((blk_cell (RSt.p HS9.out) 3).trans rfl), ((blk_cell (RSt.p HS9.out) 4).trans rfl), ((blk_cell (RSt.p HS9.out) 5).trans rfl), ((blk_cell (RSt.p HS9.out) 6).trans rfl), (pw_cell_below HBF.out (by first | exact ya))⟩ (fun hHeld => ?_)
                          clear hK K
                          refine nN (some 72) (h := ?_)
                          refine pT 10 (some 73) (zb 12 2047) (h := ?_)
                          refine last_ (i := 11) (N := none) (zb 12 4095) rfl rfl (by kernel_rfl) (by decide) (fun K hK => ?_)
                          refine skip_ (w1 := ?_) (by rfl) rfl ?_ ?_
                          rotate_left
                          · go_simp
                            rfl
                          refine hK.out _ _ ?_
                          clear hK K
                          refine done_ (by kernel_rfl) ?_
                          have HS8 := Aside0.mk (RSt.putA HS9.out lg' bg' (puta6 x))
                          clear HS HS9 HBF ya yia zia ya' yi6 zi6 puta6 lg' bg' sg' lga bga sga p0 p1 p2 p3 p4 p5 p6
                          have HS := HS8
                          clear HS8
                          generalize HWX : World.setCell _ _ _ = W7 at *
                          clear HWX
                          obtain ⟨ga2, ca3, ya, yia, zia, lga, bga, sga, puta⟩ := tab_cell HS.out.a b i HX.out.1 HX.out.2.1 HX.out.2.2.2.1 (by rw [tbRow_put A b i x HX.out.1 HX.out.2.1, List.length_set]; exact HX.out.2.2.2.2.1)
                          rw [tbRow_put A b i x HX.out.1 HX.out.2.1] at ya yia
                          rw [rd_put _ i HX.out.2.2.2.1 HX.out.2.2.2.2.1 x] at yia
                          clear puta
                          obtain ⟨rc, erc⟩ : ∃ l, (A.getD b.toNat []).set i.toNat x = l := ⟨_, rfl⟩
                          have lrc : rc.length = ra.length := by have q_ := congrArg List.length erc; rw [List.length_set] at q_; rw [← q_]; exact congrArg List.length ERA.out
                          rw [erc, lrc] at ya
                          clear erc lrc
                          have p0 := (blk_cell HS.out.p 0).trans rfl
                          have p1 := (blk_cell HS.out.p 1).trans rfl
                          have p2 := (blk_cell HS.out.p 2).trans rfl
                          have p3 := (blk_cell HS.out.p 3).trans rfl
                          have p4 := (blk_cell HS.out.p 4).trans rfl
                          have p5 := (blk_cell HS.out.p 5).trans rfl
                          have p6 := (blk_cell HS.out.p 6).trans rfl
                          (try simp only [List.getElem?_toArray, List.getElem?_cons_zero, List.getElem?_cons_succ] at p0 p1 p2 p3 p4 p5 p6)
                          go_upto_region 23 with (fail)
                          refine start_ (n := 12) (S := fun w' => w'.cell? ⟨w.heap.size, 0, none⟩ = some (.slice D.A0 D.l0.length D.c0) ∧ w'.cell? ⟨w.heap.size, 1, none⟩ = some (.bool D.bk) ∧ w'.cell? ⟨w.heap.size, 2, none⟩ = some (.bool D.al) ∧ w'.cell? ⟨w.heap.size, 3, none⟩ = some (.int .i64 D.wd) ∧ w'.cell? ⟨w.heap.size, 4, none⟩ = some (.slice D.A4 D.l4.length D.c4) ∧ w'.cell? ⟨w.heap.size, 5, none⟩ = some (.slice D.A5 D.l5.length D.c5) ∧ w'.cell? ⟨w.heap.size, 6, none⟩ = some (.slice D.A6 D.l6.length D.c6) ∧ w'.cell? (ada.add b.toNat) = some (.slice (some ⟨ga2, 0, none⟩) ra.length ca3) ∧ w'.cell? ⟨ga2, i.toNat, none⟩ = some (.bool x)) (ds := []) #[false, false, false, false, false, false, false, false, false, false, false, false] (by kernel_rfl) rfl rfl ⟨p0, p1, p2, p3, p4, p5, p6, ya, yia⟩ (fun hHeld => ?_)
                          refine pT 1 (some 75) (zb 12 2) (h := ?_)
                          refine pT 2 (some 76) (zb 12 6) (h := ?_)
                          refine pT 3 (some 77) (zb 12 14) (h := ?_)
                          refine pT 5 (some 79) (zb 12 46) (h := ?_)
                          refine pT 8 (some 82) (zb 12 302) (h := ?_)
                          refine pT 9 (some 83) (zb 12 814) (h := ?_)
                          refine tT 0 (some 74) (zb 12 815) hHeld (h := ?_)
                          refine tT 4 (some 78) (zb 12 831) hHeld (h := ?_)
                          refine pT 6 (some 80) (zb 12 895) (h := ?_)
                          refine tT 7 (some 81) (zb 12 1023) hHeld (h := ?_)
                          refine one_ (i := 10) (N := some 84) (zb 12 2047) rfl rfl (by kernel_rfl) (by decide) (fun K hK => ?_)
                          refine goes_ Tryd.func21 (by kernel_rfl) rfl #[.agg #[.slice D.A0 D.l0.length D.c0, .bool D.bk, .bool D.al, .int .i64 D.wd, .slice D.A4 D.l4.length D.c4, .slice D.A5 D.l5.length D.c5, .slice D.A6 D.l6.length D.c6], .bool x, .int .i64 b, .int .i64 i] (by rfl) rfl rfl (by simp only [List.map_toArray, List.map_cons, List.map_nil]; rfl) ?_
                          with_reducible refine (balustraderef18_To.calls k3 D.A0 D.c0 D.l0 D.bk D.al D.wd D.A4 D.c4 D.l4 D.A5 D.c5 D.l5 D.A6 D.c6 D.l6 x b i y _ (RD.Ok.below (RSt.o (by first | exact HS.out | exact RSt.below HS.out (below_drew (Below.refl _ _)))) (RSt.Bl (by first | exact HS.out | exact RSt.below HS.out (below_drew (Below.refl _ _))))).r0 HD.out.c0 (RD.Ok.below (RSt.o (by first | exact HS.out | exact RSt.below HS.out (below_drew (Below.refl _ _)))) (RSt.Bl (by first | exact HS.out | exact RSt.below HS.out (below_drew (Below.refl _ _))))).r4 HD.out.c4 (RD.Ok.below (RSt.o (by first | exact HS.out | exact RSt.below HS.out (below_drew (Below.refl _ _)))) (RSt.Bl (by first | exact HS.out | exact RSt.below HS.out (below_drew (Below.refl _ _))))).r5 HD.out.c5 (RD.Ok.below (RSt.o (by first | exact HS.out | exact RSt.below HS.out (below_drew (Below.refl _ _)))) (RSt.Bl (by first | exact HS.out | exact RSt.below HS.out (below_drew (Below.refl _ _))))).r6 HD.out.c6 HTO.out).mono ?_
                          rintro e w8 ⟨rfl, hbF⟩
                          refine ⟨_, rfl, ?_⟩
                          have HS9 := Aside0.mk (RSt.below (by first | exact HS.out | exact RSt.below HS.out (below_drew (Below.refl _ _))) hbF)
                          have HBF := Aside0.mk hbF
                          refine hK.out _ _ ⟨((blk_cell (RSt.p HS9.out) 0).trans rfl), ((blk_cell (RSt.p HS9.out) 1).trans rfl), ((blk_cell (RSt.p HS9.out) 2).trans rfl), ((blk_cell (RSt.p HS9.out) 3).trans rfl), ((blk_cell (RSt.p HS9.out) 4).trans rfl), ((blk_cell (RSt.p HS9.out) 5).trans rfl), ((blk_cell (RSt.p HS9.out) 6).trans rfl), (pw_cell_below HBF.out (by first | exact ya)), (pw_cell_below HBF.out (by first | exact yia))⟩ (fun hHeld => ?_)
                          clear hK K
                          refine nN (some 84) (h := ?_)
                          refine pT 11 (some 13) (zb 12 4095) (h := ?_)
                          refine done_ (by kernel_rfl) ?_
                          clear hHeld p0 p1 p2 p3 p4 p5 p6 ya yia zia lga bga sga
                          have HS8 := HS9
                          clear HS HS9 HBF
                          have HS := HS8
                          clear HS8
                          obtain ⟨gb, cb2, yb, yib, zib, lgb, bgb, sgb, putb⟩ := tab_cell HS.out.b b i HX.out.1 HX.out.2.2.1 HX.out.2.2.2.1 HX.out.2.2.2.2.2
                          rw [ERB.out] at yb yib
                          obtain ⟨ob, eob⟩ : ∃ o, rdOf false rb i = o := ⟨_, rfl⟩
                          rw [eob] at yib
                          have hne : rdOf false (tbRow B b) i = ob := by show rdOf false (B.getD b.toNat []) i = ob; rw [ERB.out]; exact eob
                          have HC := HH3.out
                          simp only [hne] at HC
                          clear hne
                          have HC3 := Aside0.mk HC
                          clear HC eob HH3
                          have HW := Aside0.mk (RSt.putB HS.out lgb bgb (putb y))
                          clear putb lgb bgb sgb
                          cases y <;> cases ob
                          · go_wp2
                            go_roundg k3
                            case measure => have := HK5.out; omega
                            case rel => exact ⟨wrap64 (i + 1), _, _, _, rfl, rfl, HC3, ⟨by have := HK5.out; omega⟩, HW⟩
                          · go_wp2
                            go_roundg k3
                            case measure => have := HK5.out; omega
                            case rel => exact ⟨wrap64 (i + 1), _, _, _, rfl, rfl, HC3, ⟨by have := HK5.out; omega⟩, HW⟩
                          · go_wp2
                            go_roundg k3
                            case measure => have := HK5.out; omega
                            case rel => exact ⟨wrap64 (i + 1), _, _, _, rfl, rfl, HC3, ⟨by have := HK5.out; omega⟩, HW⟩
                          · go_wp2
                            go_roundg k3
                            case measure => have := HK5.out; omega
                            case rel => exact ⟨wrap64 (i + 1), _, _, _, rfl, rfl, HC3, ⟨by have := HK5.out; omega⟩, HW⟩
                        · rw [if_neg ci] at H
                          obtain ⟨rfl, H5⟩ := Prod.mk.inj (Option.some.inj H)
                          obtain ⟨rfl, rfl⟩ := Prod.mk.inj H5
                          have b2 : decide (i < D.wd) = false := decide_eq_false ci
                          clear ci H
                          go_wp2
                          go_roundg k2
                          case measure => have := HK4.out; omega
                          case rel => exact ⟨wrap64 (b + 1), _, _, _, rfl, rfl, HH2, ⟨by have := HK4.out; omega⟩, HS⟩
                  · rw [if_neg cb] at H
                    obtain ⟨rfl, H5⟩ := Prod.mk.inj (Option.some.inj H)
                    obtain ⟨rfl, rfl⟩ := Prod.mk.inj H5
                    have b1 : decide (b < (D.l0.length : Int)) = false := decide_eq_false cb
                    clear cb H
                    go_wp2
                    go_roundg k1
                    case measure => have := HK3.out; omega
                    case rel => exact ⟨_, _, _, rfl, HH, ⟨by have := HK3.out; omega⟩, HS⟩
end Go.Proofs.YtanpghbakbebiaaDoor.P
namespace Go.Proofs.YtanpghbakbebiaaDoor.P
open Go.RowKit Go.Proofs.YtanpghbakbebiaaDoorW.PrintWords Go.Proofs.YtanpghbakbebiaaDoorW.PrintLast Go.Proofs.YtanpghbakbebiaaDoorW.PrintMore
attribute [local go_sem] max2_int min2_int max_two min_two max_three min_three max_four min_four   
set_option linter.unusedVariables false
set_option linter.unusedSimpArgs false
def balustraderef18_Solve.f (k : Nat) (l0_0 : List (List Int)) (a0_1 : Bool) (a0_2 : Bool) (a0_3 : Int) (l0_4 : List (List Int)) (l0_5 : List (List Int)) (l0_6 : List Int) : Option (List (List Bool) × List (List Bool)) := rs_f k l0_0 a0_1 a0_2 a0_3 l0_4 l0_5 l0_6
theorem balustraderef18_Solve.calls (k : Nat) (A0_0 : Option Addr) (c0_0 : Nat) (l0_0 : List (List Int)) (a0_1 : Bool) (a0_2 : Bool) (a0_3 : Int) (A0_4 : Option Addr) (c0_4 : Nat) (l0_4 : List (List Int)) (A0_5 : Option Addr) (c0_5 : Nat) (l0_5 : List (List Int)) (A0_6 : Option Addr) (c0_6 : Nat) (l0_6 : List Int) (r1 r2 : List (List Bool)) (w : World) (hr0_0 : Kd.C (Kd.slice 3 (Kd.int .i64)) w A0_0 l0_0.length l0_0) (hc0_0 : l0_0.length ≤ c0_0) (hr0_4 : Kd.C (Kd.slice 3 (Kd.int .i64)) w A0_4 l0_4.length l0_4) (hc0_4 : l0_4.length ≤ c0_4) (hr0_5 : Kd.C (Kd.slice 3 (Kd.int .i64)) w A0_5 l0_5.length l0_5) (hc0_5 : l0_5.length ≤ c0_5) (hr0_6 : Kd.C (Kd.int .i64) w A0_6 l0_6.length l0_6) (hc0_6 : l0_6.length ≤ c0_6) (h : balustraderef18_Solve.f k l0_0 a0_1 a0_2 a0_3 l0_4 l0_5 l0_6 = some (r1, r2)) :
  Calls Tryd.prog 13 #[.agg #[.slice A0_0 l0_0.length c0_0, .bool a0_1, .bool a0_2, .int .i64 a0_3, .slice A0_4 l0_4.length c0_4, .slice A0_5 l0_5.length c0_5, .slice A0_6 l0_6.length c0_6]] w fun e w' => ∃ v0_ v1_ : Value, e = .returned (.tuple #[v0_, v1_]) ∧ Kd.N (Kd.slice 4 Kd.bool) 49 w' w.heap.size (fun k_ => some k_ ≠ (v1_ : Value).ownBlock ∧ w.heap.size ≤ k_) v0_ r1 ∧ Kd.N (Kd.slice 4 Kd.bool) 49 w' w.heap.size (fun k_ => some k_ ≠ (v0_ : Value).ownBlock ∧ w.heap.size ≤ k_) v1_ r2 ∧ Below w.heap.size w w' :=
 rs_at ⟨A0_0, c0_0, l0_0, a0_1, a0_2, a0_3, A0_4, c0_4, l0_4, A0_5, c0_5, l0_5, A0_6, c0_6, l0_6⟩ k r1 r2 w ⟨hr0_0, hc0_0, hr0_4, hc0_4, hr0_5, hc0_5, hr0_6, hc0_6⟩ h
end Go.Proofs.YtanpghbakbebiaaDoor.P

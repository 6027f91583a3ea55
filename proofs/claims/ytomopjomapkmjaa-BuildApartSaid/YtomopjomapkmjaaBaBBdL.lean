/- A text of this claim, what is not used left out. -/
import Derived.Test.YtomopjomapkmjaaBaBBdK
set_option linter.unusedVariables false
set_option linter.unusedSimpArgs false
namespace Go.Proofs.Ytomopjomapkmjaa.B
open Go Go.RowKit Go.Proofs.YtomopjomapkmjaaW.PrintWords Go.Proofs.YtomopjomapkmjaaW.PrintLast Go.Proofs.YtomopjomapkmjaaW.PrintMore Go.Proofs.Ytomopjomapkmjaa.Pure
set_option maxHeartbeats 8000000 in
set_option maxRecDepth 100000 in
theorem Clone_B (A0 : Option Addr) (c0 : Nat) (l0 : List (List S29)) (w0 w : World) (hr0 : kB.C w0 A0 l0.length l0) (hW : Below w0.heap.size w0 w) (hc0 : l0.length ≤ c0) (hl : l0.length < 1000000) :
    Calls Try.prog 49 #[.slice A0 l0.length c0] w fun e w' => ∃ v0_ : Value, e = .returned v0_ ∧ Kd.R (Kd.fixed kB w0) 35 w' w.heap.size (fun _ => True) v0_ l0 ∧ Below w.heap.size w w' := by
  have hsn := fun W : World => Lib.run_eql_slice_nil (P := Try.prog) W 30 35 A0 l0.length c0 0 0 Try.underlying30
  have HR0 := Aside0.mk hr0
  have HW := Aside0.mk hW
  have HL := Aside0.mk hl
  have HB := Aside0.mk (Below.refl w.heap.size w)
  clear hl hW
  cases A0 with
  | none =>
    have h0 : l0 = [] := by
      cases l0 with
      | nil => rfl
      | cons x t =>
        obtain ⟨q, e, _⟩ := hr0.2.2 (by simp)
        cases e
    simp only [Option.isNone_none] at hsn
    subst h0
    have hsn2 := hsn
    simp only [List.length_nil] at hsn2
    clear hr0
    go_enter Try.func49, Try.ntmps49
    go_wp2
    go_ret
    exact ⟨_, rfl, Kd.R_nil _ _ _ _ _, HB.out⟩
  | some ad =>
    simp only [Option.isNone_some] at hsn
    clear hr0
    go_enter Try.func49, Try.ntmps49
    go_wp2_with (first | ((with_reducible refine gate_dst (N := 5) rfl ?_); refine Kd.R_lit (Kd.fixed kB w0) _ 35 ?hg (N := 5) ?hd (xs := ([] : List (List S29))) (inner := []) (ok := fun _ => True) (okp := fun _ => True) ?hr ?hp (fun _ hk => hk) trivial (Below.refl _ _) (Nat.le_refl _) (by simp) ?_; (case hd => rfl); (case hg => rfl); (case hr => first | (go_simp; done) | (go_simp; rfl)); (case hp => exact (Reps.none _ _)); intro v247 w3 ho4 hb hg_ hnew_; clear hg_ hnew_; (try simp only [Int.reduceToNat] at ho4); have n0_ := Aside0.mk (Kd.R_lower ho4 (below_size HB.out)); have n1_ := Aside0.mk (below_step HB.out hb); clear HB; have HO248 := n0_; have HB := n1_; clear n0_ n1_; clear hb ho4) | ((with_reducible refine gate_builtin (b := .append) (xs := #[.tmp 5, .tmp 6]) rfl ?_); at_builtin; refine Kd.R_append_rows (Kd.fixed kB w0) (w0 := w) w.heap.size rfl (.tmp 5) (.tmp 6) 30 35 (.slice none 0 0) 24 rfl Try.underlying30 info35 rfl (by show 0 < 1; decide) (by omega) v247 ([] : List (List S29)) l0 _ _ _ (fun _ => True) (fun _ => False) rfl rfl ?aO ?aR (fun _ _ h => h) (fun _ h => h.elim) ?aF ?aB ?aS ?aL ?_; (case aR => exact (reads_told HR0.out (below_step HW.out HB.out))); (case aB => exact HB.out); (case aF => exact (fun _ _ => trivial)); (case aO => exact HO248.out); (case aS => exact (below_size HB.out)); (case aL => have := HL.out; simp; omega); intro v250 w5 ho hb hg hat; have n0_ := Aside0.mk hb; have n1_ := Aside0.mk ho; clear HB; clear HO248; have HB := n0_; have HO251 := n1_; clear n0_ n1_; clear ho hb hg hat))
    go_ret
    exact ⟨_, rfl, by simpa using HO251.out, HB.out⟩
set_option maxHeartbeats 8000000 in
set_option maxRecDepth 100000 in
theorem Clone_I (A0 : Option Addr) (c0 : Nat) (l0 : List (S29)) (w0 w : World) (hr0 : k29.C w0 A0 l0.length l0) (hW : Below w0.heap.size w0 w) (hc0 : l0.length ≤ c0) (hl : l0.length < 1000000) :
    Calls Try.prog 50 #[.slice A0 l0.length c0] w fun e w' => ∃ v0_ : Value, e = .returned v0_ ∧ Kd.R (Kd.fixed k29 w0) 29 w' w.heap.size (fun _ => True) v0_ l0 ∧ Below w.heap.size w w' := by
  have hsn := fun W : World => Lib.run_eql_slice_nil (P := Try.prog) W 35 29 A0 l0.length c0 0 0 Try.underlying35
  have HR0 := Aside0.mk hr0
  have HW := Aside0.mk hW
  have HL := Aside0.mk hl
  have HB := Aside0.mk (Below.refl w.heap.size w)
  clear hl hW
  cases A0 with
  | none =>
    have h0 : l0 = [] := by
      cases l0 with
      | nil => rfl
      | cons x t =>
        obtain ⟨q, e, _⟩ := hr0.2.2 (by simp)
        cases e
    simp only [Option.isNone_none] at hsn
    subst h0
    have hsn2 := hsn
    simp only [List.length_nil] at hsn2
    clear hr0
    go_enter Try.func50, Try.ntmps50
    go_wp2
    go_ret
    exact ⟨_, rfl, Kd.R_nil _ _ _ _ _, HB.out⟩
  | some ad =>
    simp only [Option.isNone_some] at hsn
    clear hr0
    go_enter Try.func50, Try.ntmps50
    go_wp2_with (first | ((with_reducible refine gate_dst (N := 5) rfl ?_); refine Kd.R_lit (Kd.fixed k29 w0) _ 29 ?hg (N := 5) ?hd (xs := ([] : List (S29))) (inner := []) (ok := fun _ => True) (okp := fun _ => True) ?hr ?hp (fun _ hk => hk) trivial (Below.refl _ _) (Nat.le_refl _) (by simp) ?_; (case hd => rfl); (case hg => rfl); (case hr => first | (go_simp; done) | (go_simp; rfl)); (case hp => exact (Reps.none _ _)); intro v247 w3 ho4 hb hg_ hnew_; clear hg_ hnew_; (try simp only [Int.reduceToNat] at ho4); have n0_ := Aside0.mk (Kd.R_lower ho4 (below_size HB.out)); have n1_ := Aside0.mk (below_step HB.out hb); clear HB; have HO248 := n0_; have HB := n1_; clear n0_ n1_; clear hb ho4) | ((with_reducible refine gate_builtin (b := .append) (xs := #[.tmp 5, .tmp 6]) rfl ?_); at_builtin; refine Kd.R_append_rows (Kd.fixed k29 w0) (w0 := w) w.heap.size rfl (.tmp 5) (.tmp 6) 35 29 (.agg #[.int .i64 0, .int .i64 0, .int .i64 0, .int .i64 0, .int .i64 0, .int .i64 0, .int .i64 0, .int .i64 0, .slice none 0 0]) 88 rfl Try.underlying35 info29 rfl (by show 0 < 9; decide) (by omega) v247 ([] : List (S29)) l0 _ _ _ (fun _ => True) (fun _ => False) rfl rfl ?aO ?aR (fun _ _ h => h) (fun _ h => h.elim) ?aF ?aB ?aS ?aL ?_; (case aR => exact (reads_told HR0.out (below_step HW.out HB.out))); (case aB => exact HB.out); (case aF => exact (fun _ _ => trivial)); (case aO => exact HO248.out); (case aS => exact (below_size HB.out)); (case aL => have := HL.out; simp; omega); intro v250 w5 ho hb hg hat; have n0_ := Aside0.mk hb; have n1_ := Aside0.mk ho; clear HB; clear HO248; have HB := n0_; have HO251 := n1_; clear n0_ n1_; clear ho hb hg hat))
    go_ret
    exact ⟨_, rfl, by simpa using HO251.out, HB.out⟩
end Go.Proofs.Ytomopjomapkmjaa.B

/- A text of this claim, what is not used left out. -/
import Derived.Test.YtomopjomapkmjaaBaBBdI
import Derived.Test.YtomopjomapkmjaaBaB1
set_option linter.unusedVariables false
set_option linter.unusedSimpArgs false
namespace Go.Proofs.Ytomopjomapkmjaa.B
open Go Go.RowKit Go.Proofs.YtomopjomapkmjaaW.PrintWords Go.Proofs.YtomopjomapkmjaaW.PrintLast Go.Proofs.YtomopjomapkmjaaW.PrintMore Go.Proofs.Ytomopjomapkmjaa.Pure
section
variable {base g : Nat} {ok : Nat → Prop} {w w0 w1 w2 W : World} {V : BV} {nm : ByteArray} {pa rt at_ : Int} {vr vb vs : Value} {rg st : List Int} {bl : List (List S29)} {f : Nat → Nat}
theorem BAt.lower {base' : Nat} (h : BAt base ok w g V) (hb : base' ≤ base) : BAt base' ok w g V := by
  obtain ⟨h1, h2, h3, f, vr, vb, vs, hc, hr, hB, ht⟩ := h
  exact ⟨by omega, h2, fun k hk => ⟨by have := (h3 k hk).1; omega, (h3 k hk).2⟩, f, vr, vb, vs, hc, Kd.R_lower hr hb, Kd.S_lower hB hb, Kd.R_lower ht hb⟩
theorem own_one {e : Nat} {B : Nat} {u : Value} (hb : base ≤ B) (h : W.heap[B]? = some (.cells #[u] e (0, 0))) : W.ownsRow base e 1 (.slice (some ⟨B, 0, none⟩) 1 1) 1 [u] :=
  ⟨rfl, .inr ⟨B, 1, #[u], rfl, hb, h, Nat.le_refl _, by unfold maxLen; omega, rfl, rfl⟩⟩
theorem bt_new {okr : Nat → Prop} {B S : Nat} (h1 : base ≤ g) (hB1 : base ≤ B) (hS1 : base ≤ S)
    (hb : W.heap[g]? = some (.cells #[.string nm, .int .i64 pa, .int .i64 rt, vr, .slice (some ⟨B, 0, none⟩) 1 1, .slice (some ⟨S, 0, none⟩) 1 1, .int .i64 0] 64 (0, 0)))
    (hB : W.heap[B]? = some (.cells #[.slice none 0 0] 35 (0, 0))) (hS : W.heap[S]? = some (.cells #[.int .i64 1] 3 (0, 0)))
    (hr : (Kd.int .i64).R 3 W base okr vr rg) (hn : ∀ k, okr k → base ≤ k ∧ k < W.heap.size ∧ k ≠ g ∧ k ≠ B ∧ k ≠ S) :
    BAt base (fun k => okr k ∨ k = B ∨ k = S) W g ⟨nm, pa, rt, rg, [[]], [1], 0⟩ := by
  have gB : g ≠ B := blk_ne hb hB (by decide)
  have gS : g ≠ S := blk_ne hb hS (by decide)
  have BS : B ≠ S := blk_ne hB hS (by decide)
  refine ⟨h1, ?_, ?_, fun k => if k = B then 1 else if k = S then 2 else 0, vr, .slice (some ⟨B, 0, none⟩) 1 1, .slice (some ⟨S, 0, none⟩) 1 1, hb, ?_, ?_, ?_⟩
  · rintro (h | h | h)
    · exact (hn g h).2.2.1 rfl
    · exact gB h
    · exact gS h
  · rintro k (h | h | h)
    · exact ⟨(hn k h).1, (hn k h).2.1⟩
    · subst h; exact ⟨hB1, blk_lt hB⟩
    · subst h; exact ⟨hS1, blk_lt hS⟩
  · exact Kd.R_mono hr (fun k hk => ⟨.inl hk, (if_neg (hn k hk).2.2.2.1).trans (if_neg (hn k hk).2.2.2.2)⟩)
  · refine ⟨fun _ => 0, fun k hk => ?_, [.slice none 0 0], own_one hB1 hB, ⟨rfl, fun j p hj => ?_⟩⟩
    · obtain rfl : B = k := by simpa [Value.ownBlock] using hk
      exact ⟨.inr (.inl rfl), if_pos rfl⟩
    · obtain rfl : j = 0 := by
        have := (List.getElem?_eq_some_iff.1 hj).1
        simp at this
        omega
      obtain rfl : p = ([], 0) := by simpa using hj.symm
      exact ⟨_, rfl, Kd.R_nil _ _ _ _ _⟩
  · refine ⟨fun k hk => ?_, [.int .i64 1], own_one hS1 hS, ⟨rfl, fun j p hj => ?_⟩⟩
    · obtain rfl : S = k := by simpa [Value.ownBlock] using hk
      exact ⟨.inr (.inr rfl), (if_neg (Ne.symm BS)).trans (if_pos rfl)⟩
    · obtain rfl : j = 0 := by
        have := (List.getElem?_eq_some_iff.1 hj).1
        simp at this
        omega
      obtain rfl : p = 1 := by simpa using hj.symm
      exact rfl
theorem heap_four (w : World) (o1 o2 o3 o4 : Obj) : ((((w.alloc o1).alloc o2).alloc o3).alloc o4).heap[w.heap.size]? = some o1 ∧ ((((w.alloc o1).alloc o2).alloc o3).alloc o4).heap[w.heap.size + 1 + 1]? = some o3 ∧ ((((w.alloc o1).alloc o2).alloc o3).alloc o4).heap[w.heap.size + 1 + 1 + 1]? = some o4 :=
  ⟨blk_alloc (blk_alloc (blk_alloc (blk_new w o1) o2) o3) o4, blk_alloc (by simpa using blk_new ((w.alloc o1).alloc o2) o3) o4, by simpa using blk_new (((w.alloc o1).alloc o2).alloc o3) o4⟩
def newB (params : List Int) (ret : Int) : Bool := decide (params.length ≤ 8) && (kindB ret && !params.any (fun k => !kindB k))
set_option maxHeartbeats 4000000 in
theorem New_at (A : Option Addr) (c : Nat) (nm : ByteArray) (params : List Int) (ret : Int) (w : World) (hC : (Kd.int .i64).C w A params.length params) (hc : params.length ≤ c) (hn : newB params ret = true) :
    Calls Try.prog 11 #[.string nm, .slice A params.length c, .int .i64 ret] w fun e w' => ∃ g ok, e = .returned (.pointer (some ⟨g, 0, none⟩)) ∧ BAt w.heap.size ok w' g ⟨nm, (params.length : Int), ret, params, [[]], [1], 0⟩ ∧ Below w.heap.size w w' := by
  have HK := Aside0.mk (kind_at ret w)
  have HH := Aside0.mk (HasNew A c params w hC hc)
  unfold newB at hn
  simp only [Bool.and_eq_true, decide_eq_true_eq, Bool.not_eq_true'] at hn
  obtain ⟨h8, hk, ha⟩ := hn
  rw [hk] at HK
  rw [ha] at HH
  have t1 : decide ((8 : Int) < (params.length : Int)) = false := decide_eq_false (by omega)
  have t2 : decide (8 < params.length) = false := decide_eq_false (by omega)
  have HCL : Aside0 (slices_Clone_int_int.f params = some params) := ⟨if_pos (by omega)⟩
  have HC := Aside0.mk hC
  have Hc := Aside0.mk hc
  clear hC hc hk ha h8
  go_enter Try.func11, Try.ntmps11
  go_wp2_with (first | (go_at_call 40; ((with_reducible refine HK.out.mono ?_); rintro e w' ⟨rfl, rfl⟩)) | (go_at_call 41; ((with_reducible refine HH.out.mono ?_); rintro e w' ⟨rfl, rfl⟩)) | (go_at_call 43; ((with_reducible refine (slices_Clone_int_int.calls A c params params _ HC.out Hc.out HCL.out).mono ?_); rintro e w1 ⟨v_, rfl, hR_, hb⟩; obtain ⟨Ac, cc, rfl⟩ := Kd.R_slice hR_; have HR := Aside0.mk hR_; have HB := Aside0.mk hb; clear hR_ hb)))
  go_ret
  obtain ⟨e1, e3, e4⟩ := heap_four w1 (.cells #[.slice none 0 0] 35) (.cells #[.string nm, .int .i64 (params.length : Int), .int .i64 ret, .slice Ac params.length cc, .slice (some ⟨w1.heap.size, 0, none⟩) 1 1] 32) (.cells #[.int .i64 1] 3) (.cells #[.string nm, .int .i64 (params.length : Int), .int .i64 ret, .slice Ac params.length cc, .slice (some ⟨w1.heap.size, 0, none⟩) 1 1, .slice (some ⟨w1.heap.size + 1 + 1, 0, none⟩) 1 1, .int .i64 0] 64)
  have hsz := HB.out.size
  refine ⟨_, _, rfl, bt_new (okr := fun k => w.heap.size ≤ k ∧ k < w1.heap.size) (by omega) hsz (by omega) e4 e1 e3 (Kd.R_alloc (Kd.R_alloc (Kd.R_alloc (Kd.R_alloc (Kd.R_mono (Kd.R_bound HR.out) (fun k hk => ⟨hk.2.1, hk.2.2.1⟩)) _) _) _) _) (fun k hk => ⟨hk.1, by simp; omega, by omega, by omega, by omega⟩), below_alloc (below_alloc (below_alloc (below_alloc HB.out _) _) _) _⟩
end
end Go.Proofs.Ytomopjomapkmjaa.B

/- A part of it. -/
import Derived.Test.YtgbpkbfghonllaaFcZ
import Derived.Test.YtgbpkbfghonllaaFcM35
import Derived.Test.YtgbpkbfghonllaaFcP0
import Derived.Test.YtgbpkbfghonllaaFcM29
import Derived.Test.YtgbpkbfghonllaaFcP13
import Derived.Outline
set_option linter.unusedVariables false
set_option linter.unusedSimpArgs false
namespace Go.Proofs.Ytgbpkbfghonllaa.P
open Go Go.RowKit Go.Proofs.YtgbpkbfghonllaaW.PrintWords Go.Proofs.YtgbpkbfghonllaaW.PrintLast Go.Proofs.YtgbpkbfghonllaaW.PrintMore Go.Proofs.Ytgbpkbfghonllaa.Pure
attribute [local go_sem] max2_int min2_int max_two min_two
theorem fin_row {W : World} {g : Nat} {T : TypeId} {z0 z1 z2 z3 a b c d : Value} (h : W.heap[g]? = some (.cells #[z0, z1, z2, z3] T (0, 0))) : ((((W.setCell ⟨g, 0, none⟩ a).setCell ⟨g, 1, none⟩ b).setCell ⟨g, 2, none⟩ c).setCell ⟨g, 3, none⟩ d).heap[g]? = some (.cells #[a, b, c, d] T (0, 0)) := by
 have := blk_set (blk_set (blk_set (blk_set h 0 a) 1 b) 2 c) 3 d
 simpa using this
theorem fin_below {w W : World} {g : Nat} {a b c d : Value} (h : Below w.heap.size w W) (hg : w.heap.size ≤ g) : Below w.heap.size w ((((W.setCell ⟨g, 0, none⟩ a).setCell ⟨g, 1, none⟩ b).setCell ⟨g, 2, none⟩ c).setCell ⟨g, 3, none⟩ d) :=
 (((h.setCell hg _).setCell hg _).setCell hg _).setCell hg _
structure FSt (w : World) (lcs : Array Value) (gw gq : Nat) (wv : Array Value) (pr : List Int) (W : World) : Prop where
 B : Below w.heap.size w W
 br : W.heap[w.heap.size + 1]? = some (.cells #[.int .i64 0, .int .i64 0, .int .i64 0, .int .i64 0] 30 (0, 0))
 bl : W.heap[w.heap.size + 2]? = some (.cells lcs 74 (0, 0))
 bw : W.heap[gw]? = some (.cells wv 30 (0, 0))
 bq : W.heap[gq]? = some (.cells (nums .i64 pr).toArray 3 (0, 0))
 hw : w.heap.size + 2 < gw
 hq : gw < gq
theorem FSt.step {w : World} {lcs : Array Value} {gw gq : Nat} {wv : Array Value} {pr : List Int} {W W1 : World} (h : FSt w lcs gw gq wv pr W) (hb : Below W.heap.size W W1) : FSt w lcs gw gq wv pr W1 :=
 ⟨below_step h.B hb, blk_below h.br hb, blk_below h.bl hb, blk_below h.bw hb, blk_below h.bq hb, h.hw, h.hq⟩
theorem FSt.setq {w : World} {lcs : Array Value} {gw gq : Nat} {wv : Array Value} {pr : List Int} {W : World} (h : FSt w lcs gw gq wv pr W) (i : Nat) (y : Int) : FSt w lcs gw gq wv (pr.set i y) (W.setCell ⟨gq, i, none⟩ (.int .i64 y)) := by
 have h1 := h.hw
 have h2 := h.hq
 refine ⟨h.B.setCell (show w.heap.size ≤ gq by omega) _, blk_far h.br (show w.heap.size + 1 ≠ gq by omega) _, blk_far h.bl (show w.heap.size + 2 ≠ gq by omega) _, blk_far h.bw (show gw ≠ gq by omega) _, ?_, h1, h2⟩
 have h3 := blk_set h.bq i (.int .i64 y)
 rw [h3]
 congr 2
 apply Array.ext'
 simp [nums, List.map_set]
theorem FSt.setw {w : World} {lcs : Array Value} {gw gq : Nat} {wv : Array Value} {pr : List Int} {W : World} (h : FSt w lcs gw gq wv pr W) (i : Nat) (u : Value) : FSt w lcs gw gq (wv.setIfInBounds i u) pr (W.setCell ⟨gw, i, none⟩ u) := by
 have h1 := h.hw
 have h2 := h.hq
 exact ⟨h.B.setCell (show w.heap.size ≤ gw by omega) _, blk_far h.br (show w.heap.size + 1 ≠ gw by omega) _, blk_far h.bl (show w.heap.size + 2 ≠ gw by omega) _, blk_set h.bw i u, blk_far h.bq (show gq ≠ gw by omega) _, h1, h2⟩
theorem made_nums (m : Nat) : (madeCells #[Value.int .i64 0] m) = (nums .i64 (List.replicate m 0)).toArray := by
 apply Array.ext'
 apply List.ext_getElem
 ·simp [nums, madeCells]
 ·intro i h1 h2
  simp [nums, madeCells, Nat.mod_one]
theorem nums_C {W : World} {g : Nat} {pr : List Int} (h : W.heap[g]? = some (.cells (nums .i64 pr).toArray 3 (0, 0))) (hl : pr.length < 100000) : (Kd.int .i64).C W (some ⟨g, 0, none⟩) pr.length pr := by
 have ho : W.ownsRow 0 3 1 (.slice (some ⟨g, 0, none⟩) pr.length pr.length) pr.length (encs (Value.int .i64) pr) := ⟨by simp [encs], .inr ⟨g, pr.length, _, rfl, Nat.zero_le _, h, Nat.le_refl _, by simp only [maxLen]; omega, by simp [nums], by show List.take (pr.length * 1) (nums .i64 pr) = _; rw [Nat.mul_one]; exact List.take_of_length_le (by simp [nums])⟩⟩
 exact (Kd.R_reads' (Kd.R_of_own (ok := fun _ => True) (h1 := fun _ => rfl) ho (fun _ _ => trivial))).2.2
theorem start_row {w W : World} {c0 c1 c2 c3 c4 c5 c6 c7 c8 : Value} {gw m : Nat} {wv : Array Value} (hB : Below w.heap.size w W) (hr : W.heap[w.heap.size + 1]? = some (.cells #[.int .i64 0, .int .i64 0, .int .i64 0, .int .i64 0] 30 (0, 0))) (hl : W.heap[w.heap.size + 2]? = some (.cells #[c0, c1, c2, c3, c4, c5, c6, c7, c8] 74 (0, 0))) (hw : W.heap[gw]? = some (.cells wv 30 (0, 0))) (hg : w.heap.size + 2 < gw) :
  FSt w #[c0, c1, c2, c3, c4, c5, c6, c7, .slice (some ⟨W.heap.size, 0, none⟩) m m] gw W.heap.size wv (List.replicate m 0) ((W.alloc (.cells (nums .i64 (List.replicate m 0)).toArray 3)).setCell ⟨w.heap.size + 2, 8, none⟩ (.slice (some ⟨W.heap.size, 0, none⟩) m m)) := by
 have hlt := blk_lt hl
 have hwl := blk_lt hw
 refine ⟨(below_alloc hB _).setCell (show w.heap.size ≤ w.heap.size + 2 by omega) _, blk_far (blk_alloc hr _) (show w.heap.size + 1 ≠ w.heap.size + 2 by omega) _, ?_, blk_far (blk_alloc hw _) (show gw ≠ w.heap.size + 2 by omega) _, blk_far (blk_new _ _) (show W.heap.size ≠ w.heap.size + 2 by omega) _, hg, hwl⟩
 have h := blk_set (blk_alloc hl (.cells (nums .i64 (List.replicate m 0)).toArray 3)) 8 (.slice (some ⟨W.heap.size, 0, none⟩) m m)
 simpa using h
def TvAt (gq : Nat) (W : World) (v : Value) (tv : List Int) : Prop := ∃ bs, gq < bs ∧ (Kd.int .i64).R 3 W bs (fun k => bs ≤ k) v tv
theorem TvAt.mk_ {gq : Nat} {W0 W : World} {v : Value} {tv : List Int} (h : (Kd.int .i64).R 3 W W0.heap.size (fun _ => True) v tv) (hq : gq < W0.heap.size) : TvAt gq W v tv :=
 ⟨W0.heap.size, hq, Kd.R_mono (Kd.R_bound h) (fun k hk => hk.2.1)⟩
theorem TvAt.set_ {gq : Nat} {W : World} {v : Value} {tv : List Int} (h : TvAt gq W v tv) (i : Nat) (u : Value) : TvAt gq (W.setCell ⟨gq, i, none⟩ u) v tv := by
 obtain ⟨bs, hb, hr⟩ := h
 exact ⟨bs, hb, Kd.R_far hr (fun k hk => (show k ≠ gq by have : bs ≤ k := hk; omega)) u⟩
theorem TvAt.C {gq : Nat} {W : World} {A : Option Addr} {c : Nat} {tv : List Int} (h : TvAt gq W (.slice A tv.length c) tv) : (Kd.int .i64).C W A tv.length tv := by
 obtain ⟨bs, hb, hr⟩ := h
 exact (Kd.R_reads' hr).2.2
theorem nums_cell {W : World} {g : Nat} {pr : List Int} (h : W.heap[g]? = some (.cells (nums .i64 pr).toArray 3 (0, 0))) (t : Int) (h0 : 0 ≤ t) (h1 : t < (pr.length : Int)) : W.cell? ⟨g, t.toNat, none⟩ = some (.int .i64 (rd pr t)) := by
 rw [blk_cell h, List.getElem?_toArray]
 unfold nums rd
 rw [List.getElem?_map, List.getD_eq_getElem?_getD, List.getElem?_eq_getElem (by omega)]
 rfl
theorem scanBs_bad (L : LA) {k m : Nat} (hk : k < m) (last : Int × Int) {j e : Int} (h : scanB L k (L.bl.getD k []) = (j, e)) (he : e ≠ 0) : scanBs L (m - k) k last = ((k : Int), j, e) := by
 obtain ⟨d, hd⟩ : ∃ d, m - k = d + 1 := ⟨m - k - 1, by omega⟩
 rw [hd]
 unfold scanBs
 rw [h, if_pos he]
theorem scanBs_ok (L : LA) {k m : Nat} (hk : k < m) (last : Int × Int) {j : Int} (h : scanB L k (L.bl.getD k []) = (j, 0)) : scanBs L (m - k) k last = scanBs L (m - (k + 1)) (k + 1) ((k : Int), j) := by
 obtain ⟨d, hd⟩ : ∃ d, m - k = d + 1 := ⟨m - k - 1, by omega⟩
 rw [hd, show m - (k + 1) = d by omega]
 conv => lhs; unfold scanBs
 rw [h, if_neg (by simp)]
theorem scanI_bad (L : LA) (k : Nat) (b : List S42) {j m : Nat} (hj : j < m) (last : Int) {e : Int} (h : insV L k b j = e) (he : e ≠ 0) : scanI L k b (m - j) j last = ((j : Int), e) := by
 obtain ⟨d, hd⟩ : ∃ d, m - j = d + 1 := ⟨m - j - 1, by omega⟩
 rw [hd]
 unfold scanI
 rw [h, if_pos he]
theorem scanI_ok (L : LA) (k : Nat) (b : List S42) {j m : Nat} (hj : j < m) (last : Int) (h : insV L k b j = 0) : scanI L k b (m - j) j last = scanI L k b (m - (j + 1)) (j + 1) (j : Int) := by
 obtain ⟨d, hd⟩ : ∃ d, m - j = d + 1 := ⟨m - j - 1, by omega⟩
 rw [hd, show m - (j + 1) = d by omega]
 conv => lhs; unfold scanI
 rw [h, if_neg (by simp)]
theorem scan_congr {L1 L2 : LA} (hi : ∀ k b j, insV L1 k b j = insV L2 k b j) (hb : L1.bl = L2.bl) : ∀ d k last, scanBs L1 d k last = scanBs L2 d k last := by
 have h1 : ∀ k b d j last, scanI L1 k b d j last = scanI L2 k b d j last := by
  intro k b d
  induction d with
  | zero => intro j last; rfl
  | succ d ih => intro j last; unfold scanI; rw [hi, ih]
 have h2 : ∀ k b, scanB L1 k b = scanB L2 k b := by
  intro k b
  unfold scanB
  rw [h1]
 intro d
 induction d with
 | zero => intro k last; rfl
 | succ d ih => intro k last; unfold scanBs; rw [h2, ih, hb]
theorem FSt.set1 {w : World} {lcs : Array Value} {gw gq : Nat} {a b c d u : Value} {pr : List Int} {W : World} (h : FSt w lcs gw gq #[a, b, c, d] pr W) : FSt w lcs gw gq #[a, u, c, d] pr (W.setCell ⟨gw, 1, none⟩ u) := by simpa using h.setw 1 u
theorem FSt.set2 {w : World} {lcs : Array Value} {gw gq : Nat} {a b c d u : Value} {pr : List Int} {W : World} (h : FSt w lcs gw gq #[a, b, c, d] pr W) : FSt w lcs gw gq #[a, b, u, d] pr (W.setCell ⟨gw, 2, none⟩ u) := by simpa using h.setw 2 u
theorem FSt.set3 {w : World} {lcs : Array Value} {gw gq : Nat} {a b c d u : Value} {pr : List Int} {W : World} (h : FSt w lcs gw gq #[a, b, c, d] pr W) : FSt w lcs gw gq #[a, b, c, u] pr (W.setCell ⟨gw, 3, none⟩ u) := by simpa using h.setw 3 u
structure Bx (g gw : Nat) (cs : Array Value) (T : TypeId) (W : World) : Prop where
 at_ : W.heap[g]? = some (.cells cs T (0, 0))
 ne : g ≠ gw
theorem Bx.step {g gw : Nat} {cs : Array Value} {T : TypeId} {W W1 : World} (h : Bx g gw cs T W) (hb : Below W.heap.size W W1) : Bx g gw cs T W1 := ⟨blk_below h.at_ hb, h.ne⟩
theorem Bx.set_ {g gw : Nat} {cs : Array Value} {T : TypeId} {W : World} (h : Bx g gw cs T W) (i : Nat) (u : Value) : Bx g gw cs T (W.setCell ⟨gw, i, none⟩ u) := ⟨blk_far h.at_ h.ne u, h.ne⟩
theorem ins1 (L : LA) (k : Nat) {b : List S42} {j : Nat} {e : Int} (h : (if formV b j then 0 else 5) = e) (he : e ≠ 0) : insV L k b j = e := by
 unfold insV
 cases hf : formV b j
 ·rw [hf] at h; exact h
 ·rw [hf] at h; exact absurd h.symm he
theorem ins2 (L : LA) (k : Nat) {b : List S42} {j : Nat} {e : Int} (h1 : formV b j = true) (h : (if thereV L k (b.getD j z42) then 0 else 2) = e) (he : e ≠ 0) : insV L k b j = e := by
 unfold insV
 rw [h1]
 cases hf : thereV L k (b.getD j z42)
 ·rw [hf] at h; exact h
 ·rw [hf] at h; exact absurd h.symm he
theorem ins3 (L : LA) (k : Nat) {b : List S42} {j : Nat} {e : Int} (h1 : formV b j = true) (h2 : thereV L k (b.getD j z42) = true) (h : (if fitsV L (b.getD j z42) then 0 else 11) = e) (he : e ≠ 0) : insV L k b j = e := by
 unfold insV
 rw [h1, h2]
 cases hf : fitsV L (b.getD j z42)
 ·rw [hf] at h; exact h
 ·rw [hf] at h; exact absurd h.symm he
theorem ins0 (L : LA) (k : Nat) {b : List S42} {j : Nat} (h1 : formV b j = true) (h2 : thereV L k (b.getD j z42) = true) (h3 : fitsV L (b.getD j z42) = true) : insV L k b j = 0 := by
 unfold insV
 rw [h1, h2, h3]
 rfl
theorem ask_true {q : Bool} {a : Int} (h : (if q then 0 else a) = 0) (ha : a ≠ 0) : q = true := by
 cases q
 ·exact absurd h ha
 ·rfl
theorem formV_right {b : List S42} {j : Nat} (h : formV b j = true) : rightI (b.getD j z42) = true := by
 unfold formV at h
 simp only [Bool.and_eq_true] at h
 exact h.1.1
theorem predAll_len (l : List (List S42)) : ∀ pr : List Int, (l.foldl predB pr).length = pr.length := by
 induction l with
 | nil => intro pr; rfl
 | cons b l ih => intro pr; exact (ih _).trans (predB_len pr b)
theorem take_fold {α β : Type} (l : List α) (d : α) (f : β → α → β) (b : β) {j : Nat} (h : j < l.length) : (l.take (j + 1)).foldl f b = f ((l.take j).foldl f b) (l.getD j d) := by
 rw [List.take_add_one, List.foldl_append, List.getD_eq_getElem?_getD, List.getElem?_eq_getElem h]
 rfl
set_option maxHeartbeats 16000000 in
set_option maxRecDepth 100000 in
theorem function_at (fs : List S39) (mn : Int) (ss : List S48) (Af : Option Addr) (cf : Nat) (As : Option Addr) (cs : Nat) (n : Nat) (w : World) (hf : k39.C w Af fs.length fs) (hfc : fs.length ≤ cf) (hs : k48.C w As ss.length ss) (hsc : ss.length ≤ cs) (hn : n < fs.length)
  (fn_ : S39) (efn : fs.getD n z39 = fn_) (hbl : fn_.f4.length < 100000) (hi : ∀ k, k < fn_.f4.length → (fn_.f4.getD k []).length < 100000 ∧ ∀ i, i < (fn_.f4.getD k []).length → ((fn_.f4.getD k []).getD i z42).f8.length < 100000)
  (kh : Nat) (hv : Int) (hh : fun_head.f kh fn_.f0 fn_.f1 fn_.f2 fn_.f3 fn_.f4 = some hv) (r2 r3 r4 : Int) (hr : (if hv ≠ 0 then (-1, -1, hv) else scanBs ⟨none, 0, fs, mn, none, 0, ss, fn_.f0, fn_.f1, fn_.f2, none, 0, fn_.f3, none, 0, fn_.f4, none, 0, predsV fn_.f4⟩ fn_.f4.length 0 (-1, -1)) = (r2, r3, r4)) :
  Calls Try.prog 25 #[.agg #[.slice Af fs.length cf, .int .i64 mn, .slice As ss.length cs], .int .i64 (n : Int)] w fun e w' => e = .returned (.agg #[.int .i64 (n : Int), .int .i64 r2, .int .i64 r3, .int .i64 r4]) ∧ Below w.heap.size w w' := by
 have hu30 := Try.underlying30
 have hm : fs.length ≤ 9223372036854775807 := Kd.C_max hf
 have b0_ : ∀ o1 o2, Below w.heap.size w ((w.alloc o1).alloc o2) := fun o1 o2 => below_step (below_alloc (Below.refl _ _) _) (below_alloc (Below.refl _ _) _)
 obtain ⟨qf, Ar, cr, Ab, cb, rfl, y0, y1, y2, y3, y4, ly3, Cy3, ly4, Cy4⟩ := at_T39 hf (n : Int) (by omega) (by omega)
 rw [show rd_T39 fs (n : Int) = fn_ from efn] at y0 y1 y2 y3 y4 ly3 Cy3 ly4 Cy4
 simp only [Int.toNat_natCast] at y0 y1 y2 y3 y4
 have b0 : Below w.heap.size w ((w.alloc (.cells #[.slice (some qf) fs.length cf, .int .i64 mn, .slice As ss.length cs] 25)).alloc (.cells #[.int .i64 0, .int .i64 0, .int .i64 0, .int .i64 0] 30)) := b0_ _ _
 replace y0 := pw_cell_below b0 y0
 replace y1 := pw_cell_below b0 y1
 replace y2 := pw_cell_below b0 y2
 replace y3 := pw_cell_below b0 y3
 replace y4 := pw_cell_below b0 y4
 have bp : ((w.alloc (.cells #[.slice (some qf) fs.length cf, .int .i64 mn, .slice As ss.length cs] 25)).alloc (.cells #[.int .i64 0, .int .i64 0, .int .i64 0, .int .i64 0] 30)).heap[w.heap.size]? = some (.cells #[.slice (some qf) fs.length cf, .int .i64 mn, .slice As ss.length cs] 25 (0, 0)) := blk_alloc (blk_new _ _) _
 have br : ((w.alloc (.cells #[.slice (some qf) fs.length cf, .int .i64 mn, .slice As ss.length cs] 25)).alloc (.cells #[.int .i64 0, .int .i64 0, .int .i64 0, .int .i64 0] 30)).heap[w.heap.size + 1]? = some (.cells #[.int .i64 0, .int .i64 0, .int .i64 0, .int .i64 0] 30 (0, 0)) := by
  have h := blk_new (w.alloc (.cells #[.slice (some qf) fs.length cf, .int .i64 mn, .slice As ss.length cs] 25)) (.cells #[.int .i64 0, .int .i64 0, .int .i64 0, .int .i64 0] 30)
  simpa only [World.size_alloc] using h
 have hsz : ((w.alloc (.cells #[.slice (some qf) fs.length cf, .int .i64 mn, .slice As ss.length cs] 25)).alloc (.cells #[.int .i64 0, .int .i64 0, .int .i64 0, .int .i64 0] 30)).heap.size = w.heap.size + 2 := by simp only [World.size_alloc]
 have c0 := blk_cell bp 0
 have c1 := blk_cell bp 1
 have c2 := blk_cell bp 2
 simp only [List.getElem?_toArray, List.getElem?_cons_zero, List.getElem?_cons_succ] at c0 c1 c2
 have HF := Aside0.mk (And.intro hf (And.intro hfc (And.intro hs (And.intro hsc (And.intro Cy3 (And.intro ly3 (And.intro Cy4 ly4)))))))
 have HI := Aside0.mk (And.intro hbl hi)
 have HH := Aside0.mk hh
 have HRV := Aside0.mk hr
 have HSZ := Aside0.mk hsz
 have B0 := Aside0.mk b0
 have BR := Aside0.mk br
 have p1 : (0 : Int) ≤ (n : Int) := by omega
 have p2 : (n : Int) < (fs.length : Int) := by omega
 clear b0_ hf hfc hs hsc Cy3 ly3 Cy4 ly4 hbl hi hh hr hsz b0 br bp hm hn efn
 go_enter Try.func25, Try.ntmps25
 refine scope_seq (fun K_ hK_ => ?_)
 go_upto_region 1 with (fail)
 generalize ((w.alloc (.cells #[.slice (some qf) fs.length cf, .int .i64 mn, .slice As ss.length cs] 25)).alloc (.cells #[.int .i64 0, .int .i64 0, .int .i64 0, .int .i64 0] 30)) = W at *
 refine start_ (n := 9) (S := fun w' => w'.cell? ⟨w.heap.size, 0, none⟩ = some (.slice (some qf) fs.length cf) ∧ w'.cell? ⟨w.heap.size, 1, none⟩ = some (.int .i64 mn) ∧ w'.cell? ⟨w.heap.size, 2, none⟩ = some (.slice As ss.length cs) ∧ w'.cell? (qf.add (n * 5)) = some (.string fn_.f0) ∧ w'.cell? ⟨(qf.add (n * 5)).block, (qf.add (n * 5)).off + 1, none⟩ = some (.int .i64 fn_.f1) ∧ w'.cell? ⟨(qf.add (n * 5)).block, (qf.add (n * 5)).off + 2, none⟩ = some (.int .i64 fn_.f2) ∧ w'.cell? ⟨(qf.add (n * 5)).block, (qf.add (n * 5)).off + 3, none⟩ = some (.slice Ar fn_.f3.length cr) ∧ w'.cell? ⟨(qf.add (n * 5)).block, (qf.add (n * 5)).off + 4, none⟩ = some (.slice Ab fn_.f4.length cb)) (ds := [8]) #[false, false, false, false, false, false, false, false, false] (by kernel_rfl) rfl rfl ⟨c0, c1, c2, y0, y1, y2, y3, y4⟩ (fun hHeld => ?_)
 refine pT 1 (some 18) (zb 9 2) (h := ?_)
 refine pT 3 (some 20) (zb 9 10) (h := ?_)
 refine tT 0 (some 17) (zb 9 11) hHeld (h := ?_)
 refine tT 2 (some 19) (zb 9 15) hHeld (h := ?_)
 refine pT 4 (some 21) (zb 9 31) (h := ?_)
 refine tT 5 (some 22) (zb 9 63) hHeld (h := ?_)
 refine pT 6 (some 23) (zb 9 127) (h := ?_)
 refine one_ (i := 7) (N := some 5) (zb 9 255) rfl rfl (by kernel_rfl) (by decide) (fun K hK => ?_)
 refine value_ (w1 := ?_) (v := ?_) (by rfl) rfl ?_ ?_
 rotate_left 2
 ·go_simp
  constructor
  ·rfl
  ·rfl
 refine hK.out _ _ ⟨pw_cell_below (below_alloc (Below.refl _ _) _) c0, pw_cell_below (below_alloc (Below.refl _ _) _) c1, pw_cell_below (below_alloc (Below.refl _ _) _) c2, pw_cell_below (below_alloc (Below.refl _ _) _) y0, pw_cell_below (below_alloc (Below.refl _ _) _) y1, pw_cell_below (below_alloc (Below.refl _ _) _) y2, pw_cell_below (below_alloc (Below.refl _ _) _) y3, pw_cell_below (below_alloc (Below.refl _ _) _) y4⟩ (fun hHeld => ?_)
 clear hK K
 refine nN (some 5) (h := ?_)
 refine last_ (i := 8) (N := none) (zb 9 511) rfl rfl (by kernel_rfl) (by decide) (fun K hK => ?_)
 refine skip_ (w1 := ?_) (by rfl) rfl ?_ ?_
 rotate_left
 ·go_simp
  rfl
 refine hK.out _ _ ?_
 clear hK K
 refine done_ (by kernel_rfl) ?_
 clear hHeld c0 c1 c2 y0 y1 y2 y3 y4
 go_upto_region 2 with (fail)
 have b1 : Below W.heap.size W (W.alloc (.cells #[.slice (some qf) fs.length cf, .int .i64 mn, .slice As ss.length cs, .string fn_.f0, .int .i64 fn_.f1, .int .i64 fn_.f2, .slice Ar fn_.f3.length cr, .slice Ab fn_.f4.length cb, .slice none 0 0] 74)).drew := below_drew (below_alloc (Below.refl _ _) _)
 have BL := Aside0.mk (blk_drew (blk_new W (.cells #[.slice (some qf) fs.length cf, .int .i64 mn, .slice As ss.length cs, .string fn_.f0, .int .i64 fn_.f1, .int .i64 fn_.f2, .slice Ar fn_.f3.length cr, .slice Ab fn_.f4.length cb, .slice none 0 0] 74)))
 replace BR := Aside0.mk (blk_below BR.out b1)
 replace B0 := Aside0.mk (below_step B0.out b1)
 clear b1
 generalize (W.alloc (.cells #[.slice (some qf) fs.length cf, .int .i64 mn, .slice As ss.length cs, .string fn_.f0, .int .i64 fn_.f1, .int .i64 fn_.f2, .slice Ar fn_.f3.length cr, .slice Ab fn_.f4.length cb, .slice none 0 0] 74)).drew = W1 at *
 generalize W.heap.size = gl at *
 have hgl := HSZ.out
 subst hgl
 clear HSZ
 have l0 := blk_cell BL.out 0
 have l1 := blk_cell BL.out 1
 have l2 := blk_cell BL.out 2
 have l3 := blk_cell BL.out 3
 have l4 := blk_cell BL.out 4
 have l5 := blk_cell BL.out 5
 have l6 := blk_cell BL.out 6
 have l7 := blk_cell BL.out 7
 have l8 := blk_cell BL.out 8
 simp only [List.getElem?_toArray, List.getElem?_cons_zero, List.getElem?_cons_succ] at l0 l1 l2 l3 l4 l5 l6 l7 l8
 go_upto_region 3 with ((go_at_call 49; ((with_reducible refine (fun_head.calls kh fn_.f0 fn_.f1 fn_.f2 Ar cr fn_.f3 Ab cb fn_.f4 hv _ (Kd.C_below HF.out.2.2.2.2.1 B0.out) HF.out.2.2.2.2.2.1 (Kd.C_below HF.out.2.2.2.2.2.2.1 B0.out) HF.out.2.2.2.2.2.2.2 HH.out).mono ?_); rintro e w' ⟨rfl, hb⟩; replace BL := Aside0.mk (blk_below BL.out hb); replace BR := Aside0.mk (blk_below BR.out hb); replace B0 := Aside0.mk (below_step B0.out hb); clear hb)))
 have BW0 := blk_new w' (.cells #[.int .i64 (n : Int), .int .i64 (-1), .int .i64 (-1), .int .i64 hv] 30)
 have b1 := below_alloc (Below.refl w'.heap.size w') (.cells #[.int .i64 (n : Int), .int .i64 (-1), .int .i64 (-1), .int .i64 hv] 30)
 have HGW := Aside0.mk (show w.heap.size + 2 < w'.heap.size from blk_lt BL.out)
 have BW := Aside0.mk BW0
 replace BL := Aside0.mk (blk_below BL.out b1)
 replace BR := Aside0.mk (blk_below BR.out b1)
 replace B0 := Aside0.mk (below_step B0.out b1)
 clear b1 BW0 l0 l1 l2 l3 l4 l5 l6 l7 l8
 generalize w'.alloc (.cells #[.int .i64 (n : Int), .int .i64 (-1), .int .i64 (-1), .int .i64 hv] 30) = W2 at *
 generalize w'.heap.size = gw at *
 have v0 := blk_cell BW.out 0
 have u0 := blk_frozen BW.out 0
 have v1 := blk_cell BW.out 1
 have u1 := blk_frozen BW.out 1
 have v2 := blk_cell BW.out 2
 have u2 := blk_frozen BW.out 2
 have v3 := blk_cell BW.out 3
 have u3 := blk_frozen BW.out 3
 simp only [List.getElem?_toArray, List.getElem?_cons_zero, List.getElem?_cons_succ] at v0 v1 v2 v3
 by_cases h0 : hv = 0
 rotate_left
 ·have t1 : (hv != 0) = true := bne_iff_ne.mpr h0
  have rc0 := blk_cell BR.out 0
  have rf0 := blk_frozen BR.out 0
  have rc1 := blk_cell BR.out 1
  have rf1 := blk_frozen BR.out 1
  have rc2 := blk_cell BR.out 2
  have rf2 := blk_frozen BR.out 2
  have rc3 := blk_cell BR.out 3
  have rf3 := blk_frozen BR.out 3
  simp only [List.getElem?_toArray, List.getElem?_cons_zero, List.getElem?_cons_succ] at rc0 rc1 rc2 rc3
  have hr := HRV.out
  rw [if_pos h0] at hr
  cases hr
  go_wp2
  exact bodyPost_ret (results_c1 rfl _ _ (w.heap.size + 1) 30 _ (0, 0) _ rfl (fin_row BR.out) hu30 rfl (by kernel_rfl)) rfl ⟨rfl, fin_below B0.out (by omega)⟩
 have hr := HRV.out
 rw [if_neg (by rw [h0]; decide)] at hr
 subst h0
 replace HRV := Aside0.mk hr
 clear hr HH
 have t1 : ((0 : Int) != 0) = false := rfl
 have BLa := blk_alloc BL.out (.cells (nums .i64 (List.replicate fn_.f4.length 0)).toArray 3)
 have l8a := blk_cell BLa 8
 have u8a := blk_frozen BLa 8
 simp only [List.getElem?_toArray, List.getElem?_cons_zero, List.getElem?_cons_succ] at l8a
 have l0 := blk_cell BL.out 0
 have l1 := blk_cell BL.out 1
 have l2 := blk_cell BL.out 2
 have l3 := blk_cell BL.out 3
 have l4 := blk_cell BL.out 4
 have l5 := blk_cell BL.out 5
 have l6 := blk_cell BL.out 6
 have l7 := blk_cell BL.out 7
 have l8 := blk_cell BL.out 8
 simp only [List.getElem?_toArray, List.getElem?_cons_zero, List.getElem?_cons_succ] at l0 l1 l2 l3 l4 l5 l6 l7 l8
 have hbl := HI.out.1
 have hmk := print_make (P := Try.prog) 36 3 .i64 8 Try.underlying36 (by kernel_rfl) (by decide) fn_.f4.length (by omega)
 rw [made_nums] at hmk
 go_upto_region 6 with (fail)
 have HS : Aside0 (FSt w #[.slice (some qf) fs.length cf, .int .i64 mn, .slice As ss.length cs, .string fn_.f0, .int .i64 fn_.f1, .int .i64 fn_.f2, .slice Ar fn_.f3.length cr, .slice Ab fn_.f4.length cb, .slice (some ⟨W2.heap.size, 0, none⟩) fn_.f4.length fn_.f4.length] gw W2.heap.size #[.int .i64 (n : Int), .int .i64 (-1), .int .i64 (-1), .int .i64 0] (List.replicate fn_.f4.length 0) ((W2.alloc (.cells (nums .i64 (List.replicate fn_.f4.length 0)).toArray 3)).setCell ⟨w.heap.size + 2, 8, none⟩ (.slice (some ⟨W2.heap.size, 0, none⟩) fn_.f4.length fn_.f4.length))) := ⟨start_row B0.out BR.out BL.out BW.out HGW.out⟩
 generalize ((W2.alloc (.cells (nums .i64 (List.replicate fn_.f4.length 0)).toArray 3)).setCell ⟨w.heap.size + 2, 8, none⟩ (.slice (some ⟨W2.heap.size, 0, none⟩) fn_.f4.length fn_.f4.length)) = W3 at *
 generalize W2.heap.size = gq at *
 clear hmk BLa l8a u8a BL BR BW B0 HGW l0 l1 l2 l3 l4 l5 l6 l7 l8 v0 v1 v2 v3 u0 u1 u2 u3
 have HFB : Aside0 (∀ W, Below w.heap.size w W → (Kd.slice 42 k42).C W Ab fn_.f4.length fn_.f4) := ⟨fun W hb => Kd.C_below HF.out.2.2.2.2.2.2.1 hb⟩
 obtain ⟨lcs, hlcs⟩ : ∃ l : Array Value, l = #[.slice (some qf) fs.length cf, .int .i64 mn, .slice As ss.length cs, .string fn_.f0, .int .i64 fn_.f1, .int .i64 fn_.f2, .slice Ar fn_.f3.length cr, .slice Ab fn_.f4.length cb, .slice (some ⟨gq, 0, none⟩) fn_.f4.length fn_.f4.length] := ⟨_, rfl⟩
 rw [← hlcs] at HS
 have HLC := Aside0.mk hlcs
 clear hlcs
 have BLx := HS.out.bl
 (first | rw [HLC.out] at BLx | rw [HLC2.out] at BLx)
 have l0 := blk_cell BLx 0
 have l1 := blk_cell BLx 1
 have l2 := blk_cell BLx 2
 have l3 := blk_cell BLx 3
 have l4 := blk_cell BLx 4
 have l5 := blk_cell BLx 5
 have l6 := blk_cell BLx 6
 have l7 := blk_cell BLx 7
 have l8 := blk_cell BLx 8
 clear BLx
 simp only [List.getElem?_toArray, List.getElem?_cons_zero, List.getElem?_cons_succ] at l0 l1 l2 l3 l4 l5 l6 l7 l8
 go_wp2
 go_loopw [43] (fun v43 wr => ∃ (j : Nat) (pr : List Int), v43 = .int .i64 (j : Int) ∧ Aside0 (j ≤ fn_.f4.length ∧ pr = (fn_.f4.take j).foldl predB (List.replicate fn_.f4.length 0)) ∧ Aside0 (FSt w lcs gw gq #[.int .i64 (n : Int), .int .i64 (-1), .int .i64 (-1), .int .i64 0] pr wr)) (fun v43 wr => fn_.f4.length - (intOf v43).toNat)
 case atStart => exact ⟨0, _, rfl, ⟨Nat.zero_le _, rfl⟩, HS⟩
 case round =>
  clear HS l0 l1 l2 l3 l4 l5 l6 l7 l8
  obtain ⟨j, pr, rfl, HJ, HS⟩ := hrel
  have HPL : Aside0 (pr.length = fn_.f4.length) := ⟨by rw [HJ.out.2, predAll_len]; simp⟩
  by_cases hlt : j < fn_.f4.length
  ·have HLT := Aside0.mk hlt
   have t1 : decide ((j : Int) < (fn_.f4.length : Int)) = true := decide_eq_true (by omega)
   have t2 : decide (j < fn_.f4.length) = true := decide_eq_true hlt
   have p1 : (0 : Int) ≤ (j : Int) := by omega
   have p2 : (j : Int) < (fn_.f4.length : Int) := by omega
   have hwr : wrap64 ((j : Int) + 1) = ((j + 1 : Nat) : Int) := by have := HI.out.1; unfold wrap64; omega
   have HWR := Aside0.mk hwr
   clear hwr
   obtain ⟨qb, A0, c0, ebq, cb_, hbl_, hbC⟩ := at_L5 (HFB.out _ HS.out.B) (j : Int) p1 p2
   subst ebq
   have hib := HI.out.2 j hlt
   rw [show rd_L5 fn_.f4 (j : Int) = fn_.f4.getD j [] from rfl] at cb_ hbl_ hbC
   obtain ⟨b, eb⟩ : ∃ b, fn_.f4.getD j [] = b := ⟨_, rfl⟩
   rw [eb] at cb_ hbl_ hbC hib
   (try simp only [Int.toNat_natCast] at cb_)
   have HNX : Aside0 (∀ pr2, pr2 = predB pr b → pr2 = (fn_.f4.take (j + 1)).foldl predB (List.replicate fn_.f4.length 0)) := ⟨fun pr2 h => by rw [h, HJ.out.2, take_fold _ [] _ _ hlt, eb]⟩
   clear eb
   by_cases hb0 : b.length = 0
   ·have s1 : decide ((b.length : Int) > 0) = false := decide_eq_false (by omega)
    have s2 : decide ((0 : Int) < (b.length : Int)) = false := decide_eq_false (by omega)
    have s3 : decide (0 < b.length) = false := decide_eq_false (by omega)
    have HPB : Aside0 (pr = predB pr b) := ⟨by unfold predB; rw [if_pos hb0]⟩
    clear hb0
    go_wp2
    go_round
    case rel => exact ⟨j + 1, pr, by first | (rw [HWR.out]; done) | (rw [HWR.out]) | go_num, ⟨by have := HLT.out; omega, HNX.out _ HPB.out⟩, HS⟩
    case measure => exact bd_meas2 _ _ _ (by first | exact HWR.out | omega) HLT.out
   have s1 : decide ((b.length : Int) > 0) = true := decide_eq_true (by omega)
   have s2 : decide ((0 : Int) < (b.length : Int)) = true := decide_eq_true (by omega)
   have s3 : decide (0 < b.length) = true := decide_eq_true (by omega)
   have q1 : (0 : Int) ≤ ((b.length - 1 : Nat) : Int) := by omega
   have q2 : ((b.length - 1 : Nat) : Int) < (b.length : Int) := by omega
   have q3 : wrap64 ((b.length : Int) - 1) = ((b.length - 1 : Nat) : Int) := by have := hib.1; unfold wrap64; omega
   obtain ⟨qx, A8, c8, exq, x0, x1, x2, x3, x4, x5, x6, x7, x8, hl8, hr8⟩ := at_T42 hbC ((b.length - 1 : Nat) : Int) q1 q2
   subst exq
   have hxl := hib.2 (b.length - 1) (by omega)
   rw [show rd_T42 b ((b.length - 1 : Nat) : Int) = b.getD (b.length - 1) z42 from rfl] at x0 x1 x2 x3 x4 x5 x6 x7 x8 hl8 hr8
   (try simp only [Int.toNat_natCast] at x0 x1 x2 x3 x4 x5 x6 x7 x8)
   have HPB : Aside0 (predB pr b = (targetsI (b.getD (b.length - 1) z42)).foldl predStep pr) := ⟨by unfold predB; rw [if_neg hb0]⟩
   obtain ⟨x, ex⟩ : ∃ x, b.getD (b.length - 1) z42 = x := ⟨_, rfl⟩
   rw [ex] at x0 x1 x2 x3 x4 x5 x6 x7 x8 hl8 hr8 hxl
   replace HPB := Aside0.mk (show predB pr b = (targetsI x).foldl predStep pr by rw [HPB.out, ex])
   obtain ⟨kT, hT⟩ := targets_ev x hxl
   have htl := targetsI_le x
   have htp := targets_pos x
   obtain ⟨tv, et⟩ : ∃ r, targetsI x = r := ⟨_, rfl⟩
   rw [et] at hT htl htp
   replace HPB := Aside0.mk (show predB pr b = tv.foldl predStep pr by rw [HPB.out, et])
   have HT := Aside0.mk hT
   have LT := Aside0.mk htl
   have HTP := Aside0.mk htp
   have HC8 := Aside0.mk hl8
   have HR8 := Aside0.mk hr8
   clear hT htl htp et ex hl8 hr8 hb0 hib hbC hbl_
   go_wp2_with ((go_at_call 50; ((with_reducible refine (instr_Targets.calls kT x.f0 x.f1 x.f2 x.f3 x.f4 x.f5 x.f6 x.f7 A8 c8 x.f8 tv _ HR8.out HC8.out HT.out).mono ?_); rintro e w'' ⟨v_, rfl, hR_, hb⟩; obtain ⟨At, ct, rfl⟩ := Kd.R_slice hR_; have HR : Aside0 (TvAt gq w'' (.slice At tv.length ct) tv) := ⟨TvAt.mk_ hR_ (blk_lt HS.out.bq)⟩; replace HS := Aside0.mk (HS.out.step hb); clear hb hR_ HR8 x0 x1 x2 x3 x4 x5 x6 x7 x8)))
   have BLx := HS.out.bl
   (first | rw [HLC.out] at BLx | rw [HLC2.out] at BLx)
   have l0 := blk_cell BLx 0
   have l1 := blk_cell BLx 1
   have l2 := blk_cell BLx 2
   have l3 := blk_cell BLx 3
   have l4 := blk_cell BLx 4
   have l5 := blk_cell BLx 5
   have l6 := blk_cell BLx 6
   have l7 := blk_cell BLx 7
   have l8 := blk_cell BLx 8
   clear BLx
   simp only [List.getElem?_toArray, List.getElem?_cons_zero, List.getElem?_cons_succ] at l0 l1 l2 l3 l4 l5 l6 l7 l8
   go_loopw [58] (fun v58 wr => ∃ (i : Nat) (pr2 : List Int), v58 = .int .i64 (i : Int) ∧ Aside0 (i ≤ tv.length ∧ pr2 = (tv.take i).foldl predStep pr) ∧ Aside0 (FSt w lcs gw gq #[.int .i64 (n : Int), .int .i64 (-1), .int .i64 (-1), .int .i64 0] pr2 wr) ∧ Aside0 (TvAt gq wr (.slice At tv.length ct) tv)) (fun v58 wr => tv.length - (intOf v58).toNat)
   case atStart => exact ⟨0, _, rfl, ⟨Nat.zero_le _, rfl⟩, HS, HR⟩
   case round =>
    clear HS HR l0 l1 l2 l3 l4 l5 l6 l7 l8
    obtain ⟨i, pr2, rfl, HI2, HS, HR⟩ := hrel
    have HPL2 : Aside0 (pr2.length = fn_.f4.length) := ⟨by rw [HI2.out.2, predFold_len]; exact HPL.out⟩
    have BLx := HS.out.bl
    (first | rw [HLC.out] at BLx | rw [HLC2.out] at BLx)
    have l0 := blk_cell BLx 0
    have l1 := blk_cell BLx 1
    have l2 := blk_cell BLx 2
    have l3 := blk_cell BLx 3
    have l4 := blk_cell BLx 4
    have l5 := blk_cell BLx 5
    have l6 := blk_cell BLx 6
    have l7 := blk_cell BLx 7
    have l8 := blk_cell BLx 8
    clear BLx
    simp only [List.getElem?_toArray, List.getElem?_cons_zero, List.getElem?_cons_succ] at l0 l1 l2 l3 l4 l5 l6 l7 l8
    by_cases hit : i < tv.length
    ·have HIT := Aside0.mk hit
     have a1 : decide ((i : Int) < (tv.length : Int)) = true := decide_eq_true (by omega)
     have a2 : decide (i < tv.length) = true := decide_eq_true hit
     have a3 : (0 : Int) ≤ (i : Int) := by omega
     have a4 : (i : Int) < (tv.length : Int) := by omega
     have hwi : wrap64 ((i : Int) + 1) = ((i + 1 : Nat) : Int) := by have := LT.out; unfold wrap64; omega
     have HWI := Aside0.mk hwi
     clear hwi
     obtain ⟨qt, eqt, ct_⟩ := Kd.at_int HR.out.C (i : Int) a3 a4
     subst eqt
     rw [show rd tv (i : Int) = tv.getD i 0 from rfl] at ct_
     (try simp only [Int.toNat_natCast] at ct_)
     have htp0 : 0 ≤ tv.getD i 0 := HTP.out _ (by rw [List.getD_eq_getElem?_getD, List.getElem?_eq_getElem hit]; exact List.getElem_mem hit)
     have HNI : Aside0 (predStep pr2 (tv.getD i 0) = (tv.take (i + 1)).foldl predStep pr) := ⟨by rw [HI2.out.2, take_fold _ 0 _ _ hit]⟩
     obtain ⟨t, et⟩ : ∃ t, tv.getD i 0 = t := ⟨_, rfl⟩
     rw [et] at ct_ htp0
     replace HNI := Aside0.mk (show predStep pr2 t = (tv.take (i + 1)).foldl predStep pr by rw [← HNI.out, et])
     clear et
     by_cases htl : t < (fn_.f4.length : Int)
     ·have g1 : decide (t < (fn_.f4.length : Int)) = true := decide_eq_true htl
      have HPS : Aside0 (predStep pr2 t = pr2.set t.toNat (wrap64 (rd pr2 t + 1))) := ⟨by unfold predStep; rw [if_pos (by have := HPL2.out; omega)]⟩
      have ctq := nums_cell HS.out.bq t htp0 (by have := HPL2.out; omega)
      have ftq := blk_frozen HS.out.bq t.toNat
      go_wp2
      go_round
      case rel => exact ⟨i + 1, _, by first | (rw [HWI.out]; done) | (rw [HWI.out]) | go_num, ⟨by have := HIT.out; omega, rfl⟩, by rw [← HNI.out, HPS.out]; exact ⟨HS.out.setq _ _⟩, ⟨HR.out.set_ _ _⟩⟩
      case measure => exact bd_meas2 _ _ _ (by first | exact HWI.out | omega) HIT.out
     have g1 : decide (t < (fn_.f4.length : Int)) = false := decide_eq_false htl
     have HPS : Aside0 (predStep pr2 t = pr2) := ⟨by unfold predStep; rw [if_neg (by have := HPL2.out; omega)]⟩
     go_wp2
     go_round
     case rel => exact ⟨i + 1, _, by first | (rw [HWI.out]; done) | (rw [HWI.out]) | go_num, ⟨by have := HIT.out; omega, rfl⟩, by rw [← HNI.out, HPS.out]; exact HS, HR⟩
     case measure => exact bd_meas2 _ _ _ (by first | exact HWI.out | omega) HIT.out
    have a1 : decide ((i : Int) < (tv.length : Int)) = false := decide_eq_false (by omega)
    have a2 : decide (i < tv.length) = false := decide_eq_false hit
    have HEN : Aside0 (pr2 = predB pr b) := ⟨by rw [HPB.out, HI2.out.2, show i = tv.length by have := HI2.out.1; omega, List.take_length]⟩
    go_wp2
    go_round
    case rel => exact ⟨j + 1, _, by first | (rw [HWR.out]; done) | (rw [HWR.out]) | go_num, ⟨by have := HLT.out; omega, HNX.out _ HEN.out⟩, HS⟩
    case measure => exact bd_meas2 _ _ _ (by first | exact HWR.out | omega) HLT.out
  have e_ : j = fn_.f4.length := by have := HJ.out.1; omega
  have t1 : decide ((j : Int) < (fn_.f4.length : Int)) = false := decide_eq_false (by omega)
  have t2 : decide (j < fn_.f4.length) = false := decide_eq_false hlt
  have HPR : Aside0 (pr = predsV fn_.f4) := ⟨by rw [HJ.out.2, e_, List.take_length]; rfl⟩
  replace HPL := Aside0.mk (show pr.length = fn_.f4.length from HPL.out)
  obtain ⟨L, hL⟩ : ∃ L : LA, L = ⟨some qf, cf, fs, mn, As, cs, ss, fn_.f0, fn_.f1, fn_.f2, Ar, cr, fn_.f3, Ab, cb, fn_.f4, some ⟨gq, 0, none⟩, fn_.f4.length, pr⟩ := ⟨_, rfl⟩
  have HLL : Aside0 (∀ W, FSt w lcs gw gq #[.int .i64 0] pr W ∨ (Below w.heap.size w W ∧ W.heap[gq]? = some (.cells (nums .i64 pr).toArray 3 (0, 0))) → LOk L W) := ⟨by
   intro W hW
   have hB : Below w.heap.size w W := hW.elim (fun h => h.B) (fun h => h.1)
   have hQ : W.heap[gq]? = some (.cells (nums .i64 pr).toArray 3 (0, 0)) := hW.elim (fun h => h.bq) (fun h => h.2)
   obtain ⟨f1, f2, f3, f4, f5, f6, f7, f8⟩ := HF.out
   rw [hL]
   exact ⟨Kd.C_below f1 hB, f2, Kd.C_below f3 hB, f4, Kd.C_below f5 hB, f6, Kd.C_below f7 hB, f8, nums_C hQ (by rw [HPL.out]; exact HI.out.1), by rw [HPL.out]; exact Nat.le_refl _⟩⟩
  have HLC2 : Aside0 (lcs = #[.slice L.Af L.fs.length L.cf, .int .i64 L.mn, .slice L.As L.ss.length L.cs, .string L.nm, .int .i64 L.ps, .int .i64 L.rt, .slice L.Ar L.rg.length L.cr, .slice L.Ab L.bl.length L.cb, .slice L.Aq L.pr.length L.cq]) := ⟨by rw [HLC.out, hL]; simp only [HPL.out]⟩
  have HLB : Aside0 (L.bl = fn_.f4 ∧ L.pr.length = fn_.f4.length) := ⟨by rw [hL]; exact ⟨rfl, HPL.out⟩⟩
  have HFN : Aside0 (scanBs L fn_.f4.length 0 (-1, -1) = (r2, r3, r4)) := ⟨by rw [← HRV.out, ← HPR.out]; exact scan_congr (fun k b j => by rw [hL]; rfl) (by rw [hL]) _ _ _⟩
  clear hL HRV HPR HJ HPL hlt e_
  have BLx := HS.out.bl
  (first | rw [HLC.out] at BLx | rw [HLC2.out] at BLx)
  have l0 := blk_cell BLx 0
  have l1 := blk_cell BLx 1
  have l2 := blk_cell BLx 2
  have l3 := blk_cell BLx 3
  have l4 := blk_cell BLx 4
  have l5 := blk_cell BLx 5
  have l6 := blk_cell BLx 6
  have l7 := blk_cell BLx 7
  have l8 := blk_cell BLx 8
  clear BLx
  simp only [List.getElem?_toArray, List.getElem?_cons_zero, List.getElem?_cons_succ] at l0 l1 l2 l3 l4 l5 l6 l7 l8
  go_wp2
  go_step3
  go_wp2
  go_loopw [80] (fun v80 wr => ∃ (k : Nat) (bk at_ : Int), v80 = .int .i64 (k : Int) ∧ Aside0 (k ≤ fn_.f4.length ∧ scanBs L (fn_.f4.length - k) k (bk, at_) = (r2, r3, r4)) ∧ Aside0 (FSt w lcs gw gq #[.int .i64 (n : Int), .int .i64 bk, .int .i64 at_, .int .i64 0] pr wr)) (fun v80 wr => fn_.f4.length - (intOf v80).toNat)
  case atStart => exact ⟨0, _, _, rfl, ⟨Nat.zero_le _, HFN.out⟩, HS⟩
  case round =>
   clear HS HFN l0 l1 l2 l3 l4 l5 l6 l7 l8
   obtain ⟨k, bk, at_, rfl, HJ, HS⟩ := hrel
   by_cases hlt : k < fn_.f4.length
   rotate_left
   ·have t1 : decide ((k : Int) < (fn_.f4.length : Int)) = false := decide_eq_false (by omega)
    have t2 : decide (k < fn_.f4.length) = false := decide_eq_false hlt
    have hr := HJ.out.2
    rw [show fn_.f4.length - k = 0 by omega] at hr
    cases hr
    go_upto_region 35 with (fail)
    have v0 := blk_cell HS.out.bw 0
    have v1 := blk_cell HS.out.bw 1
    have v2 := blk_cell HS.out.bw 2
    have v3 := blk_cell HS.out.bw 3
    have rc0 := blk_cell HS.out.br 0
    have rc1 := blk_cell HS.out.br 1
    have rc2 := blk_cell HS.out.br 2
    have rc3 := blk_cell HS.out.br 3
    have rf0 := blk_frozen HS.out.br 0
    have rf1 := blk_frozen HS.out.br 1
    have rf2 := blk_frozen HS.out.br 2
    have rf3 := blk_frozen HS.out.br 3
    simp only [List.getElem?_toArray, List.getElem?_cons_zero, List.getElem?_cons_succ] at v0 v1 v2 v3 rc0 rc1 rc2 rc3
    go_wp2
    exact bodyPost_ret (results_c1 rfl _ _ (w.heap.size + 1) 30 _ (0, 0) _ rfl (fin_row HS.out.br) hu30 rfl (by kernel_rfl)) rfl ⟨rfl, fin_below HS.out.B (by omega)⟩
   have HLT := Aside0.mk hlt
   have t1 : decide ((k : Int) < (fn_.f4.length : Int)) = true := decide_eq_true (by omega)
   have t2 : decide (k < fn_.f4.length) = true := decide_eq_true hlt
   have p1 : (0 : Int) ≤ (k : Int) := by omega
   have p2 : (k : Int) < (fn_.f4.length : Int) := by omega
   have hwr : wrap64 ((k : Int) + 1) = ((k + 1 : Nat) : Int) := by have := HI.out.1; unfold wrap64; omega
   have HWR := Aside0.mk hwr
   clear hwr
   obtain ⟨qb, A0, c0, ebq, cb_, hbl_, hbC⟩ := at_L5 (HFB.out w (Below.refl _ _)) (k : Int) p1 p2
   replace cb_ := pw_cell_below HS.out.B cb_
   subst ebq
   have hib := HI.out.2 k hlt
   rw [show rd_L5 fn_.f4 (k : Int) = fn_.f4.getD k [] from rfl] at cb_ hbl_ hbC
   have HLK : Aside0 (L.bl.getD k [] = fn_.f4.getD k []) := ⟨by rw [HLB.out.1]⟩
   obtain ⟨b, eb⟩ : ∃ b, fn_.f4.getD k [] = b := ⟨_, rfl⟩
   rw [eb] at cb_ hbl_ hbC hib
   replace HLK := Aside0.mk (show L.bl.getD k [] = b by rw [HLK.out, eb])
   clear eb
   (try simp only [Int.toNat_natCast] at cb_)
   have HBC0 := Aside0.mk hbC
   have HBL := Aside0.mk hbl_
   have HIB := Aside0.mk hib
   go_upto_region 20 with (fail)
   have b1 : Below wr.heap.size wr ((wr.alloc (.cells #[.int .i64 (k : Int)] 3)).alloc (.cells #[.slice A0 b.length c0] 40)) := below_step (below_alloc (Below.refl _ _) _) (below_alloc (Below.refl _ _) _)
   have G1 : Aside0 (Bx wr.heap.size gw #[.int .i64 (k : Int)] 3 ((wr.alloc (.cells #[.int .i64 (k : Int)] 3)).alloc (.cells #[.slice A0 b.length c0] 40))) := ⟨⟨blk_alloc (blk_new _ _) _, by have := blk_lt HS.out.bw; omega⟩⟩
   have G2 : Aside0 (Bx (wr.heap.size + 1) gw #[.slice A0 b.length c0] 40 ((wr.alloc (.cells #[.int .i64 (k : Int)] 3)).alloc (.cells #[.slice A0 b.length c0] 40))) := ⟨⟨by have h := blk_new (wr.alloc (.cells #[.int .i64 (k : Int)] 3)) (.cells #[.slice A0 b.length c0] 40); simpa only [World.size_alloc] using h, by have := blk_lt HS.out.bw; omega⟩⟩
   replace HS := Aside0.mk (HS.out.step b1)
   clear b1 hbC cb_ hib hbl_
   generalize ((wr.alloc (.cells #[.int .i64 (k : Int)] 3)).alloc (.cells #[.slice A0 b.length c0] 40)) = W4 at *
   generalize wr.heap.size + 1 = g12 at *
   generalize wr.heap.size = g11 at *
   have y1 := blk_cell G1.out.at_ 0
   have f1 := blk_frozen HS.out.bw 1
   have f2 := blk_frozen HS.out.bw 2
   have v1 := blk_cell HS.out.bw 1
   have v2 := blk_cell HS.out.bw 2
   simp only [List.getElem?_toArray, List.getElem?_cons_zero, List.getElem?_cons_succ] at y1 v1 v2
   go_upto_region 21 with (fail)
   replace HS := Aside0.mk (HS.out.set1 (u := .int .i64 (k : Int)))
   replace HS := Aside0.mk (HS.out.set2 (u := .int .i64 (-1)))
   replace G1 := Aside0.mk ((G1.out.set_ 1 (.int .i64 (k : Int))).set_ 2 (.int .i64 (-1)))
   replace G2 := Aside0.mk ((G2.out.set_ 1 (.int .i64 (k : Int))).set_ 2 (.int .i64 (-1)))
   clear y1 f1 f2 v1 v2
   generalize ((W4.setCell ⟨gw, 1, none⟩ (.int .i64 (k : Int))).setCell ⟨gw, 2, none⟩ (.int .i64 (-1))) = W5 at *
   have z12 := blk_cell G2.out.at_ 0
   simp only [List.getElem?_toArray, List.getElem?_cons_zero] at z12
   by_cases hb0 : b.length = 0
   ·have s1 : ((b.length : Int) == 0) = true := beq_iff_eq.mpr (by omega)
    have f3 := blk_frozen HS.out.bw 3
    have v3 := blk_cell HS.out.bw 3
    have hr := HJ.out.2
    rw [scanBs_bad L HLT.out (bk, at_) (j := -1) (e := 5) (by rw [HLK.out]; unfold scanB; rw [if_pos hb0]) (by decide)] at hr
    cases hr
    go_upto_region 35 with (fail)
    replace HS := Aside0.mk (HS.out.set3 (u := .int .i64 5))
    clear f3 v3
    generalize W5.setCell ⟨gw, 3, none⟩ (.int .i64 5) = W6 at *
    have v0 := blk_cell HS.out.bw 0
    have v1 := blk_cell HS.out.bw 1
    have v2 := blk_cell HS.out.bw 2
    have v3 := blk_cell HS.out.bw 3
    have rc0 := blk_cell HS.out.br 0
    have rc1 := blk_cell HS.out.br 1
    have rc2 := blk_cell HS.out.br 2
    have rc3 := blk_cell HS.out.br 3
    have rf0 := blk_frozen HS.out.br 0
    have rf1 := blk_frozen HS.out.br 1
    have rf2 := blk_frozen HS.out.br 2
    have rf3 := blk_frozen HS.out.br 3
    simp only [List.getElem?_toArray, List.getElem?_cons_zero, List.getElem?_cons_succ] at v0 v1 v2 v3 rc0 rc1 rc2 rc3
    go_wp2
    exact bodyPost_ret (results_c1 rfl _ _ (w.heap.size + 1) 30 _ (0, 0) _ rfl (fin_row HS.out.br) hu30 rfl (by kernel_rfl)) rfl ⟨rfl, fin_below HS.out.B (by omega)⟩
   have s1 : ((b.length : Int) == 0) = false := beq_eq_false_iff_ne.mpr (by omega)
   have HSB : Aside0 (scanI L k b (b.length - 0) 0 (-1) = scanB L k b) := ⟨by unfold scanB; rw [if_neg hb0]; rfl⟩
   clear hb0
   go_wp2
   go_loopw [94] (fun v94 wr => ∃ (j2 : Nat) (a2 : Int), v94 = .int .i64 (j2 : Int) ∧ Aside0 (j2 ≤ b.length ∧ scanI L k b (b.length - j2) j2 a2 = scanB L k b) ∧ Aside0 (FSt w lcs gw gq #[.int .i64 (n : Int), .int .i64 (k : Int), .int .i64 a2, .int .i64 0] pr wr) ∧ Aside0 (Bx g11 gw #[.int .i64 (k : Int)] 3 wr) ∧ Aside0 (Bx g12 gw #[.slice A0 b.length c0] 40 wr)) (fun v94 wr => b.length - (intOf v94).toNat)
   case atStart => exact ⟨0, -1, rfl, ⟨Nat.zero_le _, HSB.out⟩, HS, G1, G2⟩
   case round =>
    clear HS G1 G2 HSB z12
    obtain ⟨j2, a2, rfl, HJ2, HS, G1, G2⟩ := hrel
    by_cases hjt : j2 < b.length
    rotate_left
    ·have a1 : decide ((j2 : Int) < (b.length : Int)) = false := decide_eq_false (by omega)
     have a3 : decide (j2 < b.length) = false := decide_eq_false hjt
     have hs := HJ2.out.2
     rw [show b.length - j2 = 0 by omega] at hs
     have hn := scanBs_ok L HLT.out (bk, at_) (j := a2) (by rw [HLK.out, ← hs]; rfl)
     rw [HJ.out.2] at hn
     have HN := Aside0.mk hn.symm
     clear hn hs
     go_wp2
     go_round
     case rel => exact ⟨k + 1, _, _, by first | (rw [HWR.out]; done) | (rw [HWR.out]) | go_num, ⟨by have := HLT.out; omega, HN.out⟩, HS⟩
     case measure => exact bd_meas2 _ _ _ (by first | exact HWR.out | omega) HLT.out
    have HJT := Aside0.mk hjt
    have a1 : decide ((j2 : Int) < (b.length : Int)) = true := decide_eq_true (by omega)
    have a3 : decide (j2 < b.length) = true := decide_eq_true hjt
    have a4 : (0 : Int) ≤ (j2 : Int) := by omega
    have a5 : (j2 : Int) < (b.length : Int) := by omega
    have hwj : wrap64 ((j2 : Int) + 1) = ((j2 + 1 : Nat) : Int) := by have := HIB.out.1; unfold wrap64; omega
    have HWJ := Aside0.mk hwj
    clear hwj
    obtain ⟨qx, A8, c8, exq, x0, x1, x2, x3, x4, x5, x6, x7, x8, hl8, hr8⟩ := at_T42 HBC0.out (j2 : Int) a4 a5
    subst exq
    have hxl := HIB.out.2 j2 hjt
    rw [show rd_T42 b (j2 : Int) = b.getD j2 z42 from rfl] at x0 x1 x2 x3 x4 x5 x6 x7 x8 hl8 hr8
    (try simp only [Int.toNat_natCast] at x0 x1 x2 x3 x4 x5 x6 x7 x8)
    obtain ⟨x, ex⟩ : ∃ x, b.getD j2 z42 = x := ⟨_, rfl⟩
    rw [ex] at x0 x1 x2 x3 x4 x5 x6 x7 x8 hl8 hr8 hxl
    replace x0 := pw_cell_below HS.out.B x0
    replace x1 := pw_cell_below HS.out.B x1
    replace x2 := pw_cell_below HS.out.B x2
    replace x3 := pw_cell_below HS.out.B x3
    replace x4 := pw_cell_below HS.out.B x4
    replace x5 := pw_cell_below HS.out.B x5
    replace x6 := pw_cell_below HS.out.B x6
    replace x7 := pw_cell_below HS.out.B x7
    replace x8 := pw_cell_below HS.out.B x8
    have z12 := blk_cell G2.out.at_ 0
    simp only [List.getElem?_toArray, List.getElem?_cons_zero] at z12
    have HEX := Aside0.mk ex
    have HXL := Aside0.mk hxl
    have HC8 := Aside0.mk hl8
    have HR8 := Aside0.mk hr8
    clear ex hxl hl8 hr8
    go_upto_region 26 with (fail)
    have b1 : Below wr.heap.size wr ((wr.alloc (.cells #[.int .i64 (j2 : Int)] 3)).alloc (.cells #[.int .i64 x.f0, .int .i64 x.f1, .int .i64 x.f2, .int .i64 x.f3, .int .i64 x.f4, .int .i64 x.f5, .int .i64 x.f6, .int .i64 x.f7, .slice A8 x.f8.length c8] 42)) := below_step (below_alloc (Below.refl _ _) _) (below_alloc (Below.refl _ _) _)
    have G3 : Aside0 (Bx wr.heap.size gw #[.int .i64 (j2 : Int)] 3 ((wr.alloc (.cells #[.int .i64 (j2 : Int)] 3)).alloc (.cells #[.int .i64 x.f0, .int .i64 x.f1, .int .i64 x.f2, .int .i64 x.f3, .int .i64 x.f4, .int .i64 x.f5, .int .i64 x.f6, .int .i64 x.f7, .slice A8 x.f8.length c8] 42))) := ⟨⟨blk_alloc (blk_new _ _) _, by have := blk_lt HS.out.bw; omega⟩⟩
    have G4 : Aside0 (Bx (wr.heap.size + 1) gw #[.int .i64 x.f0, .int .i64 x.f1, .int .i64 x.f2, .int .i64 x.f3, .int .i64 x.f4, .int .i64 x.f5, .int .i64 x.f6, .int .i64 x.f7, .slice A8 x.f8.length c8] 42 ((wr.alloc (.cells #[.int .i64 (j2 : Int)] 3)).alloc (.cells #[.int .i64 x.f0, .int .i64 x.f1, .int .i64 x.f2, .int .i64 x.f3, .int .i64 x.f4, .int .i64 x.f5, .int .i64 x.f6, .int .i64 x.f7, .slice A8 x.f8.length c8] 42))) := ⟨⟨by have h := blk_new (wr.alloc (.cells #[.int .i64 (j2 : Int)] 3)) (.cells #[.int .i64 x.f0, .int .i64 x.f1, .int .i64 x.f2, .int .i64 x.f3, .int .i64 x.f4, .int .i64 x.f5, .int .i64 x.f6, .int .i64 x.f7, .slice A8 x.f8.length c8] 42); simpa only [World.size_alloc] using h, by have := blk_lt HS.out.bw; omega⟩⟩
    replace HS := Aside0.mk (HS.out.step b1)
    replace G1 := Aside0.mk (G1.out.step b1)
    replace G2 := Aside0.mk (G2.out.step b1)
    clear b1 x0 x1 x2 x3 x4 x5 x6 x7 x8 z12
    generalize ((wr.alloc (.cells #[.int .i64 (j2 : Int)] 3)).alloc (.cells #[.int .i64 x.f0, .int .i64 x.f1, .int .i64 x.f2, .int .i64 x.f3, .int .i64 x.f4, .int .i64 x.f5, .int .i64 x.f6, .int .i64 x.f7, .slice A8 x.f8.length c8] 42)) = W7 at *
    generalize wr.heap.size + 1 = g14 at *
    generalize wr.heap.size = g13 at *
    have y1 := blk_cell G3.out.at_ 0
    have f2 := blk_frozen HS.out.bw 2
    have v2 := blk_cell HS.out.bw 2
    simp only [List.getElem?_toArray, List.getElem?_cons_zero, List.getElem?_cons_succ] at y1 v2
    go_upto_region 27 with (fail)
    replace HS := Aside0.mk (HS.out.set2 (u := .int .i64 (j2 : Int)))
    replace G1 := Aside0.mk (G1.out.set_ 2 (.int .i64 (j2 : Int)))
    replace G2 := Aside0.mk (G2.out.set_ 2 (.int .i64 (j2 : Int)))
    replace G3 := Aside0.mk (G3.out.set_ 2 (.int .i64 (j2 : Int)))
    replace G4 := Aside0.mk (G4.out.set_ 2 (.int .i64 (j2 : Int)))
    clear y1 f2 v2
    generalize W7.setCell ⟨gw, 2, none⟩ (.int .i64 (j2 : Int)) = W8 at *
    have b1 : Below W8.heap.size W8 (W8.alloc (.cells #[.func (.func 51) #[] #[.pointer (some ⟨w.heap.size + 2, 0, none⟩), .pointer (some ⟨g12, 0, none⟩), .pointer (some ⟨g13, 0, none⟩)], .func (.func 53) #[] #[.pointer (some ⟨w.heap.size + 2, 0, none⟩), .pointer (some ⟨g11, 0, none⟩), .pointer (some ⟨g14, 0, none⟩)], .func (.func 55) #[] #[.pointer (some ⟨w.heap.size + 2, 0, none⟩), .pointer (some ⟨g14, 0, none⟩)]] 76)) := below_alloc (Below.refl _ _) _
    have G5 : Aside0 (Bx W8.heap.size gw #[.func (.func 51) #[] #[.pointer (some ⟨w.heap.size + 2, 0, none⟩), .pointer (some ⟨g12, 0, none⟩), .pointer (some ⟨g13, 0, none⟩)], .func (.func 53) #[] #[.pointer (some ⟨w.heap.size + 2, 0, none⟩), .pointer (some ⟨g11, 0, none⟩), .pointer (some ⟨g14, 0, none⟩)], .func (.func 55) #[] #[.pointer (some ⟨w.heap.size + 2, 0, none⟩), .pointer (some ⟨g14, 0, none⟩)]] 76 (W8.alloc (.cells #[.func (.func 51) #[] #[.pointer (some ⟨w.heap.size + 2, 0, none⟩), .pointer (some ⟨g12, 0, none⟩), .pointer (some ⟨g13, 0, none⟩)], .func (.func 53) #[] #[.pointer (some ⟨w.heap.size + 2, 0, none⟩), .pointer (some ⟨g11, 0, none⟩), .pointer (some ⟨g14, 0, none⟩)], .func (.func 55) #[] #[.pointer (some ⟨w.heap.size + 2, 0, none⟩), .pointer (some ⟨g14, 0, none⟩)]] 76))) := ⟨⟨blk_new _ _, by have := blk_lt HS.out.bw; omega⟩⟩
    replace HS := Aside0.mk (HS.out.step b1)
    replace G1 := Aside0.mk (G1.out.step b1)
    replace G2 := Aside0.mk (G2.out.step b1)
    replace G3 := Aside0.mk (G3.out.step b1)
    replace G4 := Aside0.mk (G4.out.step b1)
    clear b1
    go_wp2
    generalize W8.alloc (.cells #[.func (.func 51) #[] #[.pointer (some ⟨w.heap.size + 2, 0, none⟩), .pointer (some ⟨g12, 0, none⟩), .pointer (some ⟨g13, 0, none⟩)], .func (.func 53) #[] #[.pointer (some ⟨w.heap.size + 2, 0, none⟩), .pointer (some ⟨g11, 0, none⟩), .pointer (some ⟨g14, 0, none⟩)], .func (.func 55) #[] #[.pointer (some ⟨w.heap.size + 2, 0, none⟩), .pointer (some ⟨g14, 0, none⟩)]] 76) = W9 at *
    generalize W8.heap.size = gz at *
    go_loopw [106] (fun v106 wr => ∃ c : Nat, v106 = .int .i64 (c : Int) ∧ Aside0 (c ≤ 3 ∧ (0 < c → formV b j2 = true) ∧ (1 < c → thereV L k x = true) ∧ (2 < c → fitsV L x = true)) ∧ Aside0 (FSt w lcs gw gq #[.int .i64 (n : Int), .int .i64 (k : Int), .int .i64 (j2 : Int), .int .i64 0] pr wr) ∧ Aside0 (Bx g11 gw #[.int .i64 (k : Int)] 3 wr) ∧ Aside0 (Bx g12 gw #[.slice (some qx) b.length c0] 40 wr) ∧ Aside0 (Bx g13 gw #[.int .i64 (j2 : Int)] 3 wr) ∧ Aside0 (Bx g14 gw #[.int .i64 x.f0, .int .i64 x.f1, .int .i64 x.f2, .int .i64 x.f3, .int .i64 x.f4, .int .i64 x.f5, .int .i64 x.f6, .int .i64 x.f7, .slice A8 x.f8.length c8] 42 wr) ∧ Aside0 (Bx gz gw #[.func (.func 51) #[] #[.pointer (some ⟨w.heap.size + 2, 0, none⟩), .pointer (some ⟨g12, 0, none⟩), .pointer (some ⟨g13, 0, none⟩)], .func (.func 53) #[] #[.pointer (some ⟨w.heap.size + 2, 0, none⟩), .pointer (some ⟨g11, 0, none⟩), .pointer (some ⟨g14, 0, none⟩)], .func (.func 55) #[] #[.pointer (some ⟨w.heap.size + 2, 0, none⟩), .pointer (some ⟨g14, 0, none⟩)]] 76 wr)) (fun v106 wr => 3 - (intOf v106).toNat)
    case atStart => exact ⟨0, rfl, ⟨by decide, fun h => absurd h (by decide), fun h => absurd h (by decide), fun h => absurd h (by decide)⟩, HS, G1, G2, G3, G4, G5⟩
    case round =>
     clear HS G1 G2 G3 G4 G5
     obtain ⟨c, rfl, HK, HS, G1, G2, G3, G4, G5⟩ := hrel
     by_cases hc3 : c < 3
     rotate_left
     ·obtain rfl : c = 3 := by have := HK.out.1; omega
      have HN : Aside0 (scanI L k b (b.length - (j2 + 1)) (j2 + 1) (j2 : Int) = scanB L k b) := ⟨by rw [← scanI_ok L k b HJT.out a2 (ins0 L k (HK.out.2.1 (by decide)) (by rw [HEX.out]; exact HK.out.2.2.1 (by decide)) (by rw [HEX.out]; exact HK.out.2.2.2 (by decide)))]; exact HJ2.out.2⟩
      go_wp2
      go_round
      case rel => exact ⟨j2 + 1, _, by first | (rw [HWJ.out]; done) | (rw [HWJ.out]) | go_num, ⟨by have := HJT.out; omega, HN.out⟩, HS, G1, G2⟩
      case measure => exact bd_meas2 _ _ _ (by first | exact HWJ.out | omega) HJT.out
     obtain rfl | rfl | rfl : c = 0 ∨ c = 1 ∨ c = 2 := by omega
     ·have y0 := blk_cell G5.out.at_ 0
      simp only [List.getElem?_toArray, List.getElem?_cons_zero, List.getElem?_cons_succ] at y0
      obtain ⟨e, he⟩ : ∃ e : Int, (if formV b j2 then 0 else 5) = e := ⟨_, rfl⟩
      have HE := Aside0.mk he
      clear he
      have H2 : Aside0 (wr.heap[w.heap.size + 2]? = some (.cells #[.slice L.Af L.fs.length L.cf, .int .i64 L.mn, .slice L.As L.ss.length L.cs, .string L.nm, .int .i64 L.ps, .int .i64 L.rt, .slice L.Ar L.rg.length L.cr, .slice L.Ab L.bl.length L.cb, .slice L.Aq L.pr.length L.cq] 74 (0, 0))) := ⟨by have h := HS.out.bl; rw [HLC2.out] at h; exact h⟩
      go_upto_region 31 with ((go_at_call 51; ((with_reducible refine (clo1_at H2.out G2.out.at_ G3.out.at_ (Kd.C_below HBC0.out HS.out.B) HBL.out HJT.out HIB.out.2 e HE.out).mono ?_); rintro r w'' ⟨rfl, hb⟩; replace HS := Aside0.mk (HS.out.step hb); replace G1 := Aside0.mk (G1.out.step hb); replace G2 := Aside0.mk (G2.out.step hb); replace G3 := Aside0.mk (G3.out.step hb); replace G4 := Aside0.mk (G4.out.step hb); replace G5 := Aside0.mk (G5.out.step hb); have f3 := blk_frozen HS.out.bw 3; have v3_ := blk_cell HS.out.bw 3; clear hb H2)))
      replace HS := Aside0.mk (HS.out.set3 (u := .int .i64 e))
      replace G1 := Aside0.mk (G1.out.set_ 3 (.int .i64 e))
      replace G2 := Aside0.mk (G2.out.set_ 3 (.int .i64 e))
      replace G3 := Aside0.mk (G3.out.set_ 3 (.int .i64 e))
      replace G4 := Aside0.mk (G4.out.set_ 3 (.int .i64 e))
      replace G5 := Aside0.mk (G5.out.set_ 3 (.int .i64 e))
      clear f3 v3_ y0
      generalize w''.setCell ⟨gw, 3, none⟩ (.int .i64 e) = W10 at *
      have v3 := blk_cell HS.out.bw 3
      simp only [List.getElem?_toArray, List.getElem?_cons_zero, List.getElem?_cons_succ] at v3
      by_cases he0 : e = 0
      ·subst he0
       have g1 : ((0 : Int) != 0) = false := rfl
       go_wp2
       go_round
       case rel => exact ⟨1, by first | rfl | go_num | (simp [wrap64]; done) | decide, ⟨by decide, fun _ => ask_true HE.out (by decide), fun h => absurd h (by decide), fun h => absurd h (by decide)⟩, HS, G1, G2, G3, G4, G5⟩
       case measure => first | decide | (simp [intOf, wrap64]; done) | omega
      have g1 : (e != 0) = true := bne_iff_ne.mpr he0
      have hr := HJ.out.2
      rw [scanBs_bad L HLT.out (bk, at_) (j := (j2 : Int)) (e := e) (by rw [HLK.out, ← HJ2.out.2]; exact scanI_bad L k b HJT.out a2 (ins1 L k HE.out he0) he0) he0] at hr
      cases hr
      go_upto_region 35 with (fail)
      have v0 := blk_cell HS.out.bw 0
      have v1 := blk_cell HS.out.bw 1
      have v2 := blk_cell HS.out.bw 2
      have v3 := blk_cell HS.out.bw 3
      have rc0 := blk_cell HS.out.br 0
      have rc1 := blk_cell HS.out.br 1
      have rc2 := blk_cell HS.out.br 2
      have rc3 := blk_cell HS.out.br 3
      have rf0 := blk_frozen HS.out.br 0
      have rf1 := blk_frozen HS.out.br 1
      have rf2 := blk_frozen HS.out.br 2
      have rf3 := blk_frozen HS.out.br 3
      simp only [List.getElem?_toArray, List.getElem?_cons_zero, List.getElem?_cons_succ] at v0 v1 v2 v3 rc0 rc1 rc2 rc3
      go_wp2
      exact bodyPost_ret (results_c1 rfl _ _ (w.heap.size + 1) 30 _ (0, 0) _ rfl (fin_row HS.out.br) hu30 rfl (by kernel_rfl)) rfl ⟨rfl, fin_below HS.out.B (by omega)⟩
     ·have y1 := blk_cell G5.out.at_ 1
      simp only [List.getElem?_toArray, List.getElem?_cons_zero, List.getElem?_cons_succ] at y1
      have HRI : Aside0 (rightI x = true) := ⟨by rw [← HEX.out]; exact formV_right (HK.out.2.1 (by decide))⟩
      obtain ⟨e, he⟩ : ∃ e : Int, (if thereV L k x then 0 else 2) = e := ⟨_, rfl⟩
      have HE := Aside0.mk he
      clear he
      have H2 : Aside0 (wr.heap[w.heap.size + 2]? = some (.cells #[.slice L.Af L.fs.length L.cf, .int .i64 L.mn, .slice L.As L.ss.length L.cs, .string L.nm, .int .i64 L.ps, .int .i64 L.rt, .slice L.Ar L.rg.length L.cr, .slice L.Ab L.bl.length L.cb, .slice L.Aq L.pr.length L.cq] 74 (0, 0))) := ⟨by have h := HS.out.bl; rw [HLC2.out] at h; exact h⟩
      go_upto_region 31 with ((go_at_call 53; ((with_reducible refine (clo2_at H2.out G1.out.at_ G4.out.at_ (HLL.out _ (.inr ⟨HS.out.B, HS.out.bq⟩)) (by rw [HLB.out.2]; exact HLT.out) (Kd.C_below HR8.out HS.out.B) HC8.out HXL.out HRI.out e HE.out).mono ?_); rintro r w'' ⟨rfl, hb⟩; replace HS := Aside0.mk (HS.out.step hb); replace G1 := Aside0.mk (G1.out.step hb); replace G2 := Aside0.mk (G2.out.step hb); replace G3 := Aside0.mk (G3.out.step hb); replace G4 := Aside0.mk (G4.out.step hb); replace G5 := Aside0.mk (G5.out.step hb); have f3 := blk_frozen HS.out.bw 3; have v3_ := blk_cell HS.out.bw 3; clear hb H2)))
      replace HS := Aside0.mk (HS.out.set3 (u := .int .i64 e))
      replace G1 := Aside0.mk (G1.out.set_ 3 (.int .i64 e))
      replace G2 := Aside0.mk (G2.out.set_ 3 (.int .i64 e))
      replace G3 := Aside0.mk (G3.out.set_ 3 (.int .i64 e))
      replace G4 := Aside0.mk (G4.out.set_ 3 (.int .i64 e))
      replace G5 := Aside0.mk (G5.out.set_ 3 (.int .i64 e))
      clear f3 v3_ y1
      generalize w''.setCell ⟨gw, 3, none⟩ (.int .i64 e) = W10 at *
      have v3 := blk_cell HS.out.bw 3
      simp only [List.getElem?_toArray, List.getElem?_cons_zero, List.getElem?_cons_succ] at v3
      by_cases he0 : e = 0
      ·subst he0
       have g1 : ((0 : Int) != 0) = false := rfl
       go_wp2
       go_round
       case rel => exact ⟨2, by first | rfl | go_num | (simp [wrap64]; done) | decide, ⟨by decide, fun _ => HK.out.2.1 (by decide), fun _ => ask_true HE.out (by decide), fun h => absurd h (by decide)⟩, HS, G1, G2, G3, G4, G5⟩
       case measure => first | decide | (simp [intOf, wrap64]; done) | omega
      have g1 : (e != 0) = true := bne_iff_ne.mpr he0
      have hr := HJ.out.2
      rw [scanBs_bad L HLT.out (bk, at_) (j := (j2 : Int)) (e := e) (by rw [HLK.out, ← HJ2.out.2]; exact scanI_bad L k b HJT.out a2 (ins2 L k (HK.out.2.1 (by decide)) (by rw [HEX.out]; exact HE.out) he0) he0) he0] at hr
      cases hr
      go_upto_region 35 with (fail)
      have v0 := blk_cell HS.out.bw 0
      have v1 := blk_cell HS.out.bw 1
      have v2 := blk_cell HS.out.bw 2
      have v3 := blk_cell HS.out.bw 3
      have rc0 := blk_cell HS.out.br 0
      have rc1 := blk_cell HS.out.br 1
      have rc2 := blk_cell HS.out.br 2
      have rc3 := blk_cell HS.out.br 3
      have rf0 := blk_frozen HS.out.br 0
      have rf1 := blk_frozen HS.out.br 1
      have rf2 := blk_frozen HS.out.br 2
      have rf3 := blk_frozen HS.out.br 3
      simp only [List.getElem?_toArray, List.getElem?_cons_zero, List.getElem?_cons_succ] at v0 v1 v2 v3 rc0 rc1 rc2 rc3
      go_wp2
      exact bodyPost_ret (results_c1 rfl _ _ (w.heap.size + 1) 30 _ (0, 0) _ rfl (fin_row HS.out.br) hu30 rfl (by kernel_rfl)) rfl ⟨rfl, fin_below HS.out.B (by omega)⟩
     ·have y2 := blk_cell G5.out.at_ 2
      simp only [List.getElem?_toArray, List.getElem?_cons_zero, List.getElem?_cons_succ] at y2
      have HRI : Aside0 (rightI x = true) := ⟨by rw [← HEX.out]; exact formV_right (HK.out.2.1 (by decide))⟩
      obtain ⟨e, he⟩ : ∃ e : Int, (if fitsV L x then 0 else 11) = e := ⟨_, rfl⟩
      have HE := Aside0.mk he
      clear he
      have H2 : Aside0 (wr.heap[w.heap.size + 2]? = some (.cells #[.slice L.Af L.fs.length L.cf, .int .i64 L.mn, .slice L.As L.ss.length L.cs, .string L.nm, .int .i64 L.ps, .int .i64 L.rt, .slice L.Ar L.rg.length L.cr, .slice L.Ab L.bl.length L.cb, .slice L.Aq L.pr.length L.cq] 74 (0, 0))) := ⟨by have h := HS.out.bl; rw [HLC2.out] at h; exact h⟩
      go_upto_region 31 with ((go_at_call 55; ((with_reducible refine (clo3_at (k := k) H2.out G4.out.at_ (HLL.out _ (.inr ⟨HS.out.B, HS.out.bq⟩)) (Kd.C_below HR8.out HS.out.B) HC8.out HXL.out HRI.out (HK.out.2.2.1 (by decide)) e HE.out).mono ?_); rintro r w'' ⟨rfl, hb⟩; replace HS := Aside0.mk (HS.out.step hb); replace G1 := Aside0.mk (G1.out.step hb); replace G2 := Aside0.mk (G2.out.step hb); replace G3 := Aside0.mk (G3.out.step hb); replace G4 := Aside0.mk (G4.out.step hb); replace G5 := Aside0.mk (G5.out.step hb); have f3 := blk_frozen HS.out.bw 3; have v3_ := blk_cell HS.out.bw 3; clear hb H2)))
      replace HS := Aside0.mk (HS.out.set3 (u := .int .i64 e))
      replace G1 := Aside0.mk (G1.out.set_ 3 (.int .i64 e))
      replace G2 := Aside0.mk (G2.out.set_ 3 (.int .i64 e))
      replace G3 := Aside0.mk (G3.out.set_ 3 (.int .i64 e))
      replace G4 := Aside0.mk (G4.out.set_ 3 (.int .i64 e))
      replace G5 := Aside0.mk (G5.out.set_ 3 (.int .i64 e))
      clear f3 v3_ y2
      generalize w''.setCell ⟨gw, 3, none⟩ (.int .i64 e) = W10 at *
      have v3 := blk_cell HS.out.bw 3
      simp only [List.getElem?_toArray, List.getElem?_cons_zero, List.getElem?_cons_succ] at v3
      by_cases he0 : e = 0
      ·subst he0
       have g1 : ((0 : Int) != 0) = false := rfl
       go_wp2
       go_round
       case rel => exact ⟨3, by first | rfl | go_num | (simp [wrap64]; done) | decide, ⟨by decide, fun _ => HK.out.2.1 (by decide), fun _ => HK.out.2.2.1 (by decide), fun _ => ask_true HE.out (by decide)⟩, HS, G1, G2, G3, G4, G5⟩
       case measure => first | decide | (simp [intOf, wrap64]; done) | omega
      have g1 : (e != 0) = true := bne_iff_ne.mpr he0
      have hr := HJ.out.2
      rw [scanBs_bad L HLT.out (bk, at_) (j := (j2 : Int)) (e := e) (by rw [HLK.out, ← HJ2.out.2]; exact scanI_bad L k b HJT.out a2 (ins3 L k (HK.out.2.1 (by decide)) (by rw [HEX.out]; exact HK.out.2.2.1 (by decide)) (by rw [HEX.out]; exact HE.out) he0) he0) he0] at hr
      cases hr
      go_upto_region 35 with (fail)
      have v0 := blk_cell HS.out.bw 0
      have v1 := blk_cell HS.out.bw 1
      have v2 := blk_cell HS.out.bw 2
      have v3 := blk_cell HS.out.bw 3
      have rc0 := blk_cell HS.out.br 0
      have rc1 := blk_cell HS.out.br 1
      have rc2 := blk_cell HS.out.br 2
      have rc3 := blk_cell HS.out.br 3
      have rf0 := blk_frozen HS.out.br 0
      have rf1 := blk_frozen HS.out.br 1
      have rf2 := blk_frozen HS.out.br 2
      have rf3 := blk_frozen HS.out.br 3
      simp only [List.getElem?_toArray, List.getElem?_cons_zero, List.getElem?_cons_succ] at v0 v1 v2 v3 rc0 rc1 rc2 rc3
      go_wp2
      exact bodyPost_ret (results_c1 rfl _ _ (w.heap.size + 1) 30 _ (0, 0) _ rfl (fin_row HS.out.br) hu30 rfl (by kernel_rfl)) rfl ⟨rfl, fin_below HS.out.B (by omega)⟩
end Go.Proofs.Ytgbpkbfghonllaa.P

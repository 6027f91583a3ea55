/- A part of it. -/
import Derived.Test.YtanpghbakbebiaaDoorFmM28
import Derived.Test.YtanpghbakbebiaaDoorFmP0
import Derived.Outline
namespace Go.Proofs.YtanpghbakbebiaaDoorQ
open Go Go.Conc Go.RowKit Go.Proofs.YtanpghbakbebiaaDoorW.PrintWords Go.Proofs.YtanpghbakbebiaaDoorW.PrintLast Go.Proofs.YtanpghbakbebiaaDoorW.PrintMore Go.Proofs.YtanpghbakbebiaaDoorQuA
set_option maxHeartbeats 1000000 in
theorem Take_some {w0 : World} {g c b n : Nat} {x : Int} {L : List Int} (w : World) (h : QAt w g c b n (x :: L)) (hB : Below w0.heap.size w0 w) (hcw : w0.heap.size ≤ c) (hbw : w0.heap.size ≤ b) :
    Calls Tryd.prog 30 #[.pointer (some ⟨g, 0, none⟩)] w fun e w' => e = .returned (.tuple #[.int .i64 x, .bool true]) ∧ QAt w' g c b n L ∧ Kept w w' (fun k => k = c ∨ k = b) ∧ Below w0.heap.size w0 w' := by
  have HD := Aside0.mk (Drain_q 1 w h hB hcw hbw)
  clear h hB hcw hbw
  go_enter Tryd.func30, Tryd.ntmps30
  go_wp2_with (go_at_call 44; refine HD.out.mono ?_; rintro e w' ⟨v, rfl, ho, hq, hk, hb⟩; simp only [show (1 : Int).toNat = 1 from rfl, List.take_succ_cons, List.take_zero, List.drop_succ_cons, List.drop_zero] at ho hq; obtain ⟨g2, c2, e2, gb, gl, cl, hg⟩ := Kd.R_form ho (by simp); subst e2; have hx := (Kd.R_celln 0 ho 0 (by omega) (by simp)).1; replace hx : w'.cell? ⟨g2, 0, none⟩ = some (.int .i64 x) := hx; have HQ := Aside0.mk hq; have HK := Aside0.mk hk; have HB := Aside0.mk hb; clear ho hq hk hb gb gl cl hg HD)
  go_ret2
  exact ⟨rfl, HQ.out, HK.out, HB.out⟩
set_option maxHeartbeats 1000000 in
theorem Take_none {w0 : World} {g c b n : Nat} (w : World) (h : QAt w g c b n []) (hB : Below w0.heap.size w0 w) (hcw : w0.heap.size ≤ c) (hbw : w0.heap.size ≤ b) :
    Calls Tryd.prog 30 #[.pointer (some ⟨g, 0, none⟩)] w fun e w' => e = .returned (.tuple #[.int .i64 0, .bool false]) ∧ QAt w' g c b n [] ∧ Kept w w' (fun k => k = c ∨ k = b) ∧ Below w0.heap.size w0 w' := by
  have HD := Aside0.mk (Drain_q 1 w h hB hcw hbw)
  clear h hB hcw hbw
  go_enter Tryd.func30, Tryd.ntmps30
  go_wp2_with (go_at_call 44; refine HD.out.mono ?_; rintro e w' ⟨v, rfl, ho, hq, hk, hb⟩; simp only [List.take_nil, List.drop_nil] at ho hq; obtain ⟨A2, c2, e2⟩ := Kd.R_slice ho; subst e2; have HQ := Aside0.mk hq; have HK := Aside0.mk hk; have HB := Aside0.mk hb; clear ho hq hk hb HD)
  go_ret2
  exact ⟨rfl, HQ.out, HK.out, HB.out⟩
end Go.Proofs.YtanpghbakbebiaaDoorQ
set_option linter.unusedVariables false
set_option linter.unusedSimpArgs false
namespace Go.Proofs.YtanpghbakbebiaaDoor.P
open Go Go.RowKit Go.Proofs.YtanpghbakbebiaaDoorW.PrintWords Go.Proofs.YtanpghbakbebiaaDoorW.PrintLast Go.Proofs.YtanpghbakbebiaaDoorW.PrintMore
def SetsAt (W : World) (g : Nat) (ok : Nat → Prop) (xs : List (List Int)) : Prop := ∃ vs : Array Value, W.heap[g]? = some (.cells vs 30 (0, 0)) ∧ vs.size = xs.length ∧ ∀ j, j < xs.length → ∃ A c, vs[j]? = some (.slice A (xs.getD j []).length c) ∧ (xs.getD j []).length ≤ c ∧ Kd.F (Kd.int .u64) W ok A (xs.getD j []).length (xs.getD j [])
section
variable {W W1 w : World} {g : Nat} {ok ok' S : Nat → Prop} {xs : List (List Int)}
theorem SetsAt.lt (h : SetsAt W g ok xs) : g < W.heap.size := by
 obtain ⟨vs, h1, _⟩ := h
 exact blk_lt h1
theorem SetsAt.step (h : SetsAt W g ok xs) (hm : ∀ k, (k = g ∨ ok k) → k < W.heap.size → W1.heap[k]? = W.heap[k]?) : SetsAt W1 g ok xs := by
 obtain ⟨vs, h1, h2, h3⟩ := h
 refine ⟨vs, (hm g (.inl rfl) (blk_lt h1)).trans h1, h2, fun j hj => ?_⟩
 obtain ⟨A, c, e, hl, hf⟩ := h3 j hj
 exact ⟨A, c, e, hl, Kd.F_step hf (fun k hk hlt => hm k (.inr hk) hlt)⟩
theorem SetsAt.below (h : SetsAt W g ok xs) (hb : Below W.heap.size W W1) : SetsAt W1 g ok xs := h.step (fun k _ hlt => hb.block k hlt)
theorem SetsAt.kept (h : SetsAt W g ok xs) (hk : Kept W W1 S) (hg : ¬ S g) (hok : ∀ k, ok k → ¬ S k) : SetsAt W1 g ok xs :=
 h.step (fun k ho hlt => hk.2 k hlt (by rcases ho with rfl | ho <;> first | exact hg | exact hok k ho))
theorem SetsAt.far (h : SetsAt W g ok xs) {p : Addr} (hg : g ≠ p.block) (hok : ∀ k, ok k → k ≠ p.block) (u : Value) : SetsAt (W.setCell p u) g ok xs :=
 h.step (fun k ho _ => Below.heap_setCell W p u k (by rcases ho with rfl | ho <;> first | exact hg | exact hok k ho))
theorem SetsAt.widen (h : SetsAt W g ok xs) (hok : ∀ k, ok k → k < W.heap.size → ok' k) : SetsAt W g ok' xs := by
 obtain ⟨vs, h1, h2, h3⟩ := h
 refine ⟨vs, h1, h2, fun j hj => ?_⟩
 obtain ⟨A, c, e, hl, hf⟩ := h3 j hj
 exact ⟨A, c, e, hl, Kd.F_mono (Kd.F_bound hf) (fun k hk => hok k hk.1 hk.2)⟩
theorem SetsAt.get (h : SetsAt W g ok xs) (i : Int) (h0 : 0 ≤ i) (h1 : i < (xs.length : Int)) : ∃ A c, W.cell? ⟨g, i.toNat, none⟩ = some (.slice A (rd_L3 xs i).length c) ∧ W.frozen? ⟨g, i.toNat, none⟩ = false ∧ (rd_L3 xs i).length ≤ c ∧ Kd.F (Kd.int .u64) W ok A (rd_L3 xs i).length (rd_L3 xs i) := by
 obtain ⟨vs, g1, g2, g3⟩ := h
 obtain ⟨A, c, e, hl, hf⟩ := g3 i.toNat (by omega)
 exact ⟨A, c, (blk_cell g1 i.toNat).trans e, blk_frozen g1 i.toNat, hl, hf⟩
theorem SetsAt.set (h : SetsAt W g ok xs) (i : Int) (h0 : 0 ≤ i) (h1 : i < (xs.length : Int)) {A : Option Addr} {c : Nat} (x : List Int) (hl : x.length ≤ c) (hf : Kd.F (Kd.int .u64) W ok A x.length x) (hok : ∀ k, ok k → k ≠ g) : SetsAt (W.setCell ⟨g, i.toNat, none⟩ (.slice A x.length c)) g ok (xs.set i.toNat x) := by
 obtain ⟨vs, g1, g2, g3⟩ := h
 have far : ∀ {A' : Option Addr} {l : List Int}, Kd.F (Kd.int .u64) W ok A' l.length l → Kd.F (Kd.int .u64) (W.setCell ⟨g, i.toNat, none⟩ (.slice A x.length c)) ok A' l.length l := fun hq => Kd.F_far hq (p := ⟨g, i.toNat, none⟩) (fun k hk => hok k hk) _
 refine ⟨vs.setIfInBounds i.toNat (.slice A x.length c), blk_set g1 i.toNat _, by simp [g2], fun j hj => ?_⟩
 rw [List.length_set] at hj
 by_cases e : i.toNat = j
 ·subst e
  refine ⟨A, c, ?_, ?_, ?_⟩
  ·rw [Array.getElem?_setIfInBounds_self_of_lt (by omega)]
   simp [List.getD_eq_getElem?_getD, hj]
  ·simpa [List.getD_eq_getElem?_getD, hj] using hl
  ·have := far hf
   simpa [List.getD_eq_getElem?_getD, hj] using this
 ·obtain ⟨A', c', e', hl', hf'⟩ := g3 j hj
  have q : (xs.set i.toNat x).getD j [] = xs.getD j [] := by simp [List.getD_eq_getElem?_getD, List.getElem?_set_ne e]
  rw [q]
  exact ⟨A', c', by rw [Array.getElem?_setIfInBounds_ne e]; exact e', hl', far hf'⟩
theorem SetsAt.of_made (n : Nat) (ok : Nat → Prop) (h : W.heap[g]? = some (.cells (madeCells #[.slice none 0 0] n) 30 (0, 0))) : SetsAt W g ok (List.replicate n []) := by
 refine ⟨_, h, by simp [size_madeCells], fun j hj => ⟨none, 0, ?_, ?_, ?_⟩⟩
 ·rw [List.length_replicate] at hj
  have : j % 1 = 0 := by omega
  simp [madeCells, hj, this, List.getD_eq_getElem?_getD]
 ·rw [List.length_replicate] at hj
  simp [List.getD_eq_getElem?_getD, hj]
 ·rw [List.length_replicate] at hj
  have e : (List.replicate n ([] : List Int)).getD j [] = [] := by simp [List.getD_eq_getElem?_getD, hj]
  rw [e]
  exact Kd.F_nil _ _ _
theorem SetsAt.N (h : SetsAt W g ok xs) (base : Nat) (hb : base ≤ g) (hg : ok' g) (hok : ∀ k, ok k → ok' k ∧ k ≠ g) (hn : xs.length ≤ 65536) : Kd.N (Kd.slice 72 (Kd.int .u64)) 30 W base ok' (.slice (some ⟨g, 0, none⟩) xs.length xs.length) xs := by
 obtain ⟨vs, g1, g2, g3⟩ := h
 have hv : ∀ j, j < vs.toList.length → ∃ A c, vs.toList[j]? = some (.slice A (xs.getD j []).length c) := by
  intro j hj
  obtain ⟨A, c, e, _, _⟩ := g3 j (by simpa [g2] using hj)
  exact ⟨A, c, by simpa using e⟩
 have h1 : ∀ u ∈ vs.toList, u.oneCell' = true := by
  intro u hu
  obtain ⟨j, hj, rfl⟩ := List.mem_iff_getElem.1 hu
  obtain ⟨A, c, e⟩ := hv j hj
  rw [List.getElem?_eq_getElem hj] at e
  rw [Option.some.inj e]; rfl
 refine ⟨fun k hk => ?_, vs.toList.map (fun u => [u]), by simp [g2], ⟨fun k hk => hk.symm, vs.toList, ⟨?_, .inr ⟨g, xs.length, _, by simp [g2], hb, g1, by simp [g2], by simp only [maxLen]; omega, by simp [g2, Kd.raw, Kd.slice], ?_⟩⟩, ?_⟩, fun j x c hx hc => ?_⟩
 ·have : g = k := by simpa [Value.ownBlock] using hk
  exact this ▸ hg
 ·show _ = _ * 1
  simp [g2]
 ·show List.take (_ * 1) _ = _
  apply List.take_of_length_le
  simp [g2, Kd.slice, Kd.raw]
 ·refine ⟨by simp [Kd.slice, Kd.raw], fun j p hj => ?_⟩
  rw [List.getElem?_map, Option.map_eq_some_iff] at hj
  obtain ⟨u, hu, rfl⟩ := hj
  have hlt := (List.getElem?_eq_some_iff.1 hu).1
  have e1 : List.take 1 (List.drop (j * 1) vs.toList) = [u] := by
   rw [Nat.mul_one, List.drop_eq_getElem_cons hlt]
   have := (List.getElem?_eq_some_iff.1 hu).2
   simp [this]
  show List.take 1 (List.drop (j * 1) vs.toList) = [u] ∧ (List.take 1 (List.drop (j * 1) vs.toList)).length = 1 ∧ _
  refine ⟨e1, by rw [e1]; rfl, fun q hq => ?_⟩
  ·have hq2 : q ∈ List.take 1 (List.drop (j * 1) vs.toList) := hq
   rw [e1] at hq2
   rw [List.mem_singleton.1 hq2]
   exact h1 u (List.mem_of_getElem? hu)
 ·have hj : j < xs.length := (List.getElem?_eq_some_iff.1 hx).1
  obtain ⟨A, c', e, hl, hf⟩ := g3 j hj
  have ex : xs.getD j [] = x := by rw [List.getD_eq_getElem?_getD, hx]; rfl
  rw [ex] at e hl hf
  rw [List.getElem?_map] at hc
  have e2 : vs.toList[j]? = some (.slice A x.length c') := by simpa using e
  rw [e2] at hc
  obtain rfl := Option.some.inj hc
  refine Kd.FK_mono (Kd.FK_slice_mk hl hf) (fun k hk => ⟨(hok k hk).1, ?_⟩)
  simp only [Value.ownBlock]
  intro e3
  exact (hok k hk).2 (Option.some.inj e3)
theorem SetsAt.C (h : SetsAt W g ok xs) (hn : xs.length ≤ 65536) : Kd.C (Kd.slice 72 (Kd.int .u64)) W (some ⟨g, 0, none⟩) xs.length xs := by
 have hq : SetsAt W g (fun k => ok k) xs := h
 by_cases hgk : True
 ·obtain ⟨vs, g1, g2, g3⟩ := h
  refine ⟨rfl, by omega, fun hp => ⟨_, rfl, fun j x hj => ?_⟩⟩
  have hjl : j < xs.length := (List.getElem?_eq_some_iff.1 hj).1
  obtain ⟨A, c, e, hl, hf⟩ := g3 j hjl
  have ex : xs.getD j [] = x := by rw [List.getD_eq_getElem?_getD, hj]; rfl
  rw [ex] at e hl hf
  refine ⟨[.slice A x.length c], rfl, ⟨A, c, rfl, hl, Kd.F_now hf⟩, fun m u hm => ?_⟩
  rcases m with _ | m
  ·simp only [List.getElem?_cons_zero, Option.some.injEq] at hm
   subst hm
   have := (blk_cell g1 j).trans e
   have e2 : (⟨g, 0, none⟩ : Addr).add (j * 1 + 0) = ⟨g, j, none⟩ := by
    unfold Addr.add
    have hj1 : j * 1 + 0 = j := by omega
    rw [hj1]
    by_cases hz : j = 0
    ·rw [if_pos hz]
     skip
     rw [hz]
    ·rw [if_neg hz]
     simp only [Nat.zero_add, Nat.mul_one, Nat.add_zero]
   show W.cell? ((⟨g, 0, none⟩ : Addr).add (j * 1 + 0)) = _
   rw [e2]; exact this
  ·simp at hm
 ·exact absurd trivial hgk
end
end Go.Proofs.YtanpghbakbebiaaDoor.P

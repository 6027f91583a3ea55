/- A part of it. -/
import Derived.Test.YtanpghbakbebiaaDoorFmFlowP6
import Derived.Test.YtanpghbakbebiaaDoorFmFlowS2
import Derived.Test.YtanpghbakbebiaaDoorFmP0
import Derived.Test.YtanpghbakbebiaaDoorFmP4
import Derived.Test.YtanpghbakbebiaaDoorFmP6
set_option linter.unusedVariables false
namespace Go.Proofs.YtanpghbakbebiaaDoor.Pure
open Go.RowKit Go.Proofs.YtanpghbakbebiaaDoor.P Go.Proofs.YtanpghbakbebiaaDoorW.PrintWords Go.Proofs.YtanpghbakbebiaaDoorW.PrintLast Go.Proofs.YtanpghbakbebiaaDoorW.PrintMore
def puts (n : Nat) (L r : List Int) : List Int := r.foldl (fs_put n) L
theorem mem_put {n : Nat} {L : List Int} {i x : Int} : x ∈ fs_put n L i ↔ x ∈ L ∨ (x = i ∧ 0 ≤ i ∧ i < (n : Int)) := by
 unfold fs_put
 by_cases h : 0 ≤ i ∧ i < (n : Int) ∧ i ∉ L
 ·rw [if_pos h, List.mem_append, List.mem_singleton]
  constructor
  ·rintro (q | q)
   ·exact .inl q
   ·exact .inr ⟨q, h.1, h.2.1⟩
  ·rintro (q | q)
   ·exact .inl q
   ·exact .inr q.1
 ·rw [if_neg h]
  constructor
  ·exact .inl
  ·rintro (q | ⟨rfl, q1, q2⟩)
   ·exact q
   ·exact Classical.byContradiction (fun q3 => h ⟨q1, q2, q3⟩)
theorem nodup_put {n : Nat} {L : List Int} (h : L.Nodup) (i : Int) : (fs_put n L i).Nodup := by
 unfold fs_put
 split
 ·rename_i q
  rw [List.nodup_append]
  exact ⟨h, by simp, fun a ha b hb e => q.2.2 (by rw [List.mem_singleton.1 hb] at e; rwa [← e])⟩
 ·exact h
theorem mem_puts {n : Nat} : ∀ (r L : List Int) (x : Int), x ∈ puts n L r ↔ x ∈ L ∨ (x ∈ r ∧ 0 ≤ x ∧ x < (n : Int)) := by
 intro r
 induction r with
 | nil => intro L x; simp [puts]
 | cons y r ih =>
  intro L x
  rw [show puts n L (y :: r) = puts n (fs_put n L y) r from rfl, ih, mem_put, List.mem_cons]
  constructor
  ·rintro ((q | ⟨rfl, q1, q2⟩) | ⟨q, q1, q2⟩)
   ·exact .inl q
   ·exact .inr ⟨.inl rfl, q1, q2⟩
   ·exact .inr ⟨.inr q, q1, q2⟩
  ·rintro (q | ⟨rfl | q, q1, q2⟩)
   ·exact .inl (.inl q)
   ·exact .inl (.inr ⟨rfl, q1, q2⟩)
   ·exact .inr ⟨q, q1, q2⟩
theorem nodup_puts {n : Nat} : ∀ (r L : List Int), L.Nodup → (puts n L r).Nodup := by
 intro r
 induction r with
 | nil => intro L h; exact h
 | cons y r ih => intro L h; exact ih _ (nodup_put h y)
theorem nodup_len {n : Nat} {L : List Int} (h : L.Nodup) (hr : ∀ x ∈ L, 0 ≤ x ∧ x < (n : Int)) : L.length ≤ n := by
 have h2 : (L.map Int.toNat).Nodup := by
  rw [List.nodup_iff_pairwise_ne] at h ⊢
  rw [List.pairwise_map]
  exact h.imp_of_mem (fun {a b} ha hb e q => by have := hr a ha; have := hr b hb; exact e (by omega))
 have h3 := h2.length_le_of_subset (l₂ := List.range n) (fun x hx => by
  obtain ⟨y, hy, rfl⟩ := List.mem_map.1 hx
  have := hr y hy
  rw [List.mem_range]; omega)
 simpa using h3
section
variable {E G K : List (List Int)} {S : List Int} {bk al : Bool} {W : Nat} {A B : List (List Int)} {s : List Int}
theorem fs_l3_ev {ah bh fr tt : List (List Int)} {r : List Int} (hr : r.length < 17592186044416) {q : List (List Int) × List (List Int)} : ∀ d j L, r.length - j = d → j ≤ r.length →
  Ev (fun k => fs_l2 k E bk al (W : Int) A B s ah bh fr tt (puts E.length L (r.drop j))) q → Ev (fun k => fs_l3 k E bk al (W : Int) A B s ah bh fr tt L r (j : Int)) q := by
 intro d
 induction d with
 | zero =>
  intro j L hd hj hq
  obtain rfl : j = r.length := by omega
  rw [List.drop_length] at hq
  apply Ev.step
  ·intro k
   rw [fs_l3, if_neg (by omega)]
  ·exact hq
 | succ d ih =>
  intro j L hd hj hq
  have hlt : j < r.length := by omega
  rw [List.drop_eq_getElem_cons hlt] at hq
  apply Ev.step
  ·intro k
   rw [fs_l3, if_pos (by omega), if_pos (by omega), rd_nat r j hlt, wrap_succ j (by omega)]
  ·exact ih (j + 1) _ (by omega) (by omega) hq
structure Wl (P : Pr) (fr tt : List (List Int)) (L : List Int) : Prop where
 fl : fr.length = P.n
 tl : Sets tt P.n P.wd
 inv : P.Inv (bt tt)
 nd : L.Nodup
 rng : ∀ x ∈ L, 0 ≤ x ∧ x < (P.n : Int)
 done : ∀ k : Nat, k < P.n → (k : Int) ∉ L → SetOf (P.wd : Int) (fr.getD k []) (P.frm (bt tt) k) ∧ ∀ i, i < P.wd → bt tt k i = P.tto (bt tt) k i
theorem frm_apart (P : Pr) {a b : Fa} {x : Nat} (h : ∀ k i, k ≠ x → i < P.wd → a k i = b k i) {k i : Nat} (hi : i < P.wd) (hx : x ∉ P.ah k) : P.frm a k i = P.frm b k i := by
 unfold Pr.frm
 have e1 : (P.ah k).all (fun y => a y i) = (P.ah k).all (fun y => b y i) := by
  rw [Bool.eq_iff_iff]; simp only [List.all_eq_true]
  exact ⟨fun q y hy => by rw [← h y i (fun e => hx (e ▸ hy)) hi]; exact q y hy, fun q y hy => by rw [h y i (fun e => hx (e ▸ hy)) hi]; exact q y hy⟩
 have e2 : (P.ah k).any (fun y => a y i) = (P.ah k).any (fun y => b y i) := by
  rw [Bool.eq_iff_iff]; simp only [List.any_eq_true]
  exact ⟨fun ⟨y, hy, q⟩ => ⟨y, hy, by rw [← h y i (fun e => hx (e ▸ hy)) hi]; exact q⟩, fun ⟨y, hy, q⟩ => ⟨y, hy, by rw [h y i (fun e => hx (e ▸ hy)) hi]; exact q⟩⟩
 rw [e1, e2]
theorem fs_l2_ev (h : Prog E G K S W A B s) {ah bh : List (List Int)} (ha : Ahead (PP E G K S bk al W) bk E ah) (hbl : bh.length = E.length) (hb1 : ∀ k, k < E.length → (bh.getD k []).length < 17592186044416) (hb2 : ∀ k, k < E.length → ∀ x ∈ bh.getD k [], 0 ≤ x ∧ x < (E.length : Int))
  (hb3 : ∀ k b : Nat, k < E.length → b < E.length → k ∈ (PP E G K S bk al W).ah b → (b : Int) ∈ bh.getD k []) :
  ∀ m fr tt L, (PP E G K S bk al W).un (bt tt) * (E.length + 1) + L.length = m → Wl (PP E G K S bk al W) fr tt L →
   ∃ fr1 tt1, Ev (fun q => fs_l2 q E bk al (W : Int) A B s ah bh fr tt L) (fr1, tt1) ∧ Wl (PP E G K S bk al W) fr1 tt1 [] := by
 have hw := h.good.w
 have n_ : (PP E G K S bk al W).n = E.length := rfl
 have wd_ : (PP E G K S bk al W).wd = W := rfl
 have hP := prOf_ok (bk := bk) (al := al) h.good
 intro m
 induction m using Nat.strongRecOn with
 | _ m ih =>
  intro fr tt L hm hI
  cases L with
  | nil =>
   refine ⟨fr, tt, ?_, hI⟩
   apply Ev.step
   ·intro k
    rw [fs_l2]
   ·exact Ev.now _
  | cons x L =>
   obtain ⟨x0, x1⟩ := hI.rng x (List.mem_cons_self ..)
   obtain ⟨x, rfl⟩ : ∃ y : Nat, x = (y : Int) := ⟨x.toNat, by omega⟩
   have hx : x < E.length := by omega
   have hfl := hI.fl
   have htl := hI.tl.len
   rw [n_] at hfl htl
   have hnd := List.nodup_cons.1 hI.nd
   obtain ⟨f, hf, sf⟩ := from_set (bk := bk) (al := al) h ha hI.tl hx
   obtain ⟨t, ht, st⟩ := to_set (bk := bk) (al := al) h hx sf
   obtain ⟨b, hb, ib⟩ := same_set hw st (hI.tl.set x hx)
   have hstep : ∀ k, fs_l2 (k + 1) E bk al (W : Int) A B s ah bh fr tt ((x : Int) :: L) = ((flow_Problem_from.f k E bk al (W : Int) A B s (x : Int) ah tt).bind fun s' => ((flow_Problem_to.f k E bk al (W : Int) A B s (x : Int) s').bind fun t => ((bits_Same.f k t (rd_L3 tt (x : Int))).bind fun b => (if b = true then fs_l2 k E bk al (W : Int) A B s ah bh (fr.set (x : Int).toNat s') tt L else fs_l3 k E bk al (W : Int) A B s ah bh (fr.set (x : Int).toNat s') (tt.set (x : Int).toNat t) L (rd_L1 bh (x : Int)) 0)))) := by
    intro k
    rw [fs_l2, if_pos ⟨by omega, by omega, by omega, by omega⟩]
   rw [← rdL3_nat] at hb
   have gf : ∀ k, (fr.set x f).getD k [] = if k = x then f else fr.getD k [] := fun k => by
    rw [getD_set]
    by_cases e : x = k
    ·rw [if_pos ⟨e, by omega⟩, if_pos e.symm]
    ·rw [if_neg (by omega), if_neg (by omega)]
   cases b
   ·
    obtain ⟨stt, btt⟩ := hI.tl.put (x := x) (by rw [n_]; exact hx) st
    obtain ⟨i1, l1⟩ := Pr.inv_step hP hI.inv (b := bt (tt.set x t)) (fun k i _ hi => by
     rw [btt k i hi]
     by_cases q : k = x
     ·rw [if_pos q, q]; exact .inr rfl
     ·rw [if_neg q]; exact .inl rfl)
    have hne : ∃ i, i < W ∧ bt tt x i ≠ bt (tt.set x t) x i := by
     refine Classical.byContradiction (fun q => ?_)
     have : false = true := ib.2 (fun i hi => Classical.byContradiction (fun q2 => q ⟨i, hi, fun e => q2 (by rw [e, btt x i hi, if_pos rfl])⟩))
     cases this
    obtain ⟨i0, hi0, hne⟩ := hne
    have hun := Pr.un_lt (P := PP E G K S bk al W) l1 (k := x) (i := i0) hx hi0 hne
    have nd' := nodup_puts (n := E.length) (bh.getD x []) L hnd.2
    have rng' : ∀ y ∈ puts E.length L (bh.getD x []), 0 ≤ y ∧ y < (E.length : Int) := fun y hy => by
     rcases (mem_puts _ _ _).1 hy with q | q
     ·exact hI.rng y (List.mem_cons_of_mem _ q)
     ·exact q.2
    have len' := nodup_len nd' rng'
    have apart : ∀ k i, k ≠ x → i < (PP E G K S bk al W).wd → bt (tt.set x t) k i = bt tt k i := fun k i hk hi => by rw [btt k i hi, if_neg hk]
    have hI' : Wl (PP E G K S bk al W) (fr.set x f) (tt.set x t) (puts E.length L (bh.getD x [])) := by
     refine ⟨by rw [List.length_set]; exact hfl, stt, i1, nd', rng', fun k hk hkL => ?_⟩
     rw [mem_puts] at hkL
     have hkL1 : (k : Int) ∉ L := fun q => hkL (.inl q)
     have hkx : x ∉ (PP E G K S bk al W).ah k := fun q => by
      have q2 := hb3 x k hx hk q
      exact hkL (.inr ⟨q2, by omega, by omega⟩)
     have fe : ∀ i, i < W → (PP E G K S bk al W).frm (bt (tt.set x t)) k i = (PP E G K S bk al W).frm (bt tt) k i := fun i hi => frm_apart _ apart hi hkx
     have te : ∀ i, i < W → (PP E G K S bk al W).tto (bt (tt.set x t)) k i = (PP E G K S bk al W).tto (bt tt) k i := fun i hi => by unfold Pr.tto; rw [fe i hi]
     rw [gf]
     by_cases q : k = x
     ·subst q
      rw [if_pos rfl]
      exact ⟨sf.congr (fun i hi => (fe i hi).symm), fun i hi => by rw [btt k i hi, if_pos rfl, te i hi]; rfl⟩
     ·rw [if_neg q]
      have hkL2 : (k : Int) ∉ (x : Int) :: L := by
       intro q2
       rcases List.mem_cons.1 q2 with q2 | q2
       ·omega
       ·exact hkL1 q2
      obtain ⟨d1, d2⟩ := hI.done k hk hkL2
      exact ⟨d1.congr (fun i hi => (fe i hi).symm), fun i hi => by rw [apart k i q hi, te i hi]; exact d2 i hi⟩
    obtain ⟨fr1, tt1, h1, r1⟩ := ih _ (by
     have : ((PP E G K S bk al W).un (bt (tt.set x t)) + 1) * (E.length + 1) ≤ (PP E G K S bk al W).un (bt tt) * (E.length + 1) := Nat.mul_le_mul_right _ hun
     rw [Nat.add_mul] at this
     simp only [List.length_cons] at hm
     omega) (fr.set x f) (tt.set x t) (puts E.length L (bh.getD x [])) rfl hI'
    refine ⟨fr1, tt1, ?_, r1⟩
    apply Ev.step hstep
    refine Ev.bind hf (Ev.bind ht (Ev.bind hb ?_))
    refine Ev.congr (fun k => by rw [if_neg (by simp), Int.toNat_natCast, rdL1_nat]) ?_
    exact fs_l3_ev (hb1 x hx) _ 0 L rfl (by omega) (by rw [List.drop_zero]; exact h1)
   ·have hsame : ∀ i, i < W → (PP E G K S bk al W).tto (bt tt) x i = bt tt x i := ib.1 rfl
    have hI' : Wl (PP E G K S bk al W) (fr.set x f) tt L := by
     refine ⟨by rw [List.length_set]; exact hfl, hI.tl, hI.inv, hnd.2, fun y hy => hI.rng y (List.mem_cons_of_mem _ hy), fun k hk hkL => ?_⟩
     rw [gf]
     by_cases q : k = x
     ·subst q
      rw [if_pos rfl]
      exact ⟨sf, fun i hi => (hsame i hi).symm⟩
     ·rw [if_neg q]
      exact hI.done k hk (fun q2 => by
       rcases List.mem_cons.1 q2 with q2 | q2
       ·omega
       ·exact hkL q2)
    obtain ⟨fr1, tt1, h1, r1⟩ := ih _ (by simp only [List.length_cons] at hm; omega) (fr.set x f) tt L rfl hI'
    refine ⟨fr1, tt1, ?_, r1⟩
    apply Ev.step hstep
    refine Ev.bind hf (Ev.bind ht (Ev.bind hb ?_))
    exact Ev.congr (fun k => by rw [if_pos rfl, Int.toNat_natCast]) h1
theorem fs_l0_ev (hW : W ≤ 65536) {n : Nat} (hn : n ≤ 65536) : ∀ d i tt, n - i = d → i ≤ n → tt.length = n → (∀ k, k < i → SetOf (W : Int) (tt.getD k []) (fun _ => al)) → ∃ r, Ev (fun q => fs_l0 q al (W : Int) (n : Int) (i : Int) tt) r ∧ r.length = n ∧ ∀ k, k < n → SetOf (W : Int) (r.getD k []) (fun _ => al) := by
 intro d
 induction d with
 | zero =>
  intro i tt hd hi hl hs
  obtain rfl : i = n := by omega
  refine ⟨tt, ?_, hl, hs⟩
  apply Ev.step
  ·intro q
   rw [fs_l0, if_neg (by omega)]
  ·exact Ev.now _
 | succ d ih =>
  intro i tt hd hi hl hs
  obtain ⟨o, ho, so⟩ := none_ev hW al
  obtain ⟨r, hr, h1, h2⟩ := ih (i + 1) (tt.set i o) (by omega) (by omega) (by rw [List.length_set]; exact hl) (fun k hk => by
   rw [getD_set]
   by_cases e : i = k
   ·rw [if_pos ⟨e, by omega⟩]; exact so
   ·rw [if_neg (by omega)]; exact hs k (by omega))
  refine ⟨r, ?_, h1, h2⟩
  apply Ev.step
  ·intro q
   rw [fs_l0, if_pos (by omega), if_pos (by omega), wrap_succ i (by omega), Int.toNat_natCast]
  ·exact Ev.bind ho hr
theorem fs_l1_ev {n : Nat} (hn : n ≤ 65536) : ∀ d i L, n - i = d → i ≤ n → L.Nodup → (∀ x : Int, x ∈ L ↔ 0 ≤ x ∧ x < (i : Int)) → ∃ r, Ev (fun q => fs_l1 q n (i : Int) L) r ∧ r.Nodup ∧ ∀ x : Int, x ∈ r ↔ 0 ≤ x ∧ x < (n : Int) := by
 intro d
 induction d with
 | zero =>
  intro i L hd hi hnd hm
  obtain rfl : i = n := by omega
  refine ⟨L, ?_, hnd, hm⟩
  apply Ev.step
  ·intro q
   rw [fs_l1, if_neg (by omega)]
  ·exact Ev.now _
 | succ d ih =>
  intro i L hd hi hnd hm
  obtain ⟨r, hr, h1, h2⟩ := ih (i + 1) (fs_put n L (i : Int)) (by omega) (by omega) (nodup_put hnd _) (fun x => by rw [mem_put, hm]; omega)
  refine ⟨r, ?_, h1, h2⟩
  apply Ev.step
  ·intro q
   rw [fs_l1, if_pos (by omega), wrap_succ i (by omega)]
  ·exact hr
theorem fs_ev (h : Prog E G K S W A B s) (hr : Ev (fun q => flow_Right.f q E bk al (W : Int) A B s) true) : ∃ fr tt, Ev (fun q => fs_f q E bk al (W : Int) A B s) (fr, tt, true) ∧ fr.length = E.length ∧ Sets tt E.length W ∧ (PP E G K S bk al W).Lst (bt tt) ∧ ∀ k, k < E.length → SetOf (W : Int) (fr.getD k []) ((PP E G K S bk al W).frm (bt tt) k) := by
 obtain ⟨ah, bh, hw, ha, hbl, hb1, hb2, hb3⟩ := ways_ev (bk := bk) (al := al) h.good h.er A B s
 obtain ⟨t0, h0, tl, ts⟩ := fs_l0_ev (al := al) h.good.w h.good.n E.length 0 (List.replicate E.length []) (by omega) (by omega) (by simp) (fun k hk => by omega)
 obtain ⟨L, hL, nd, mL⟩ := fs_l1_ev h.good.n E.length 0 [] (by omega) (by omega) List.nodup_nil (fun x => by simp only [List.not_mem_nil, false_iff]; omega)
 have st0 : Sets t0 E.length W := ⟨tl, fun k hk => (ts k hk).self⟩
 have bt0 : ∀ k i, k < E.length → i < W → bt t0 k i = al := fun k i hk hi => (ts k hk).bit hi
 obtain ⟨fr, tt, hf, hI⟩ := fs_l2_ev (bk := bk) (al := al) h ha hbl hb1 hb2 hb3 _ (List.replicate E.length []) t0 L rfl ⟨by simp [prOf], st0, Pr.inv_start _ bt0, nd, fun x hx => (mL x).1 hx, fun k hk hkL => absurd ((mL _).2 ⟨by omega, by have : (PP E G K S bk al W).n = E.length := rfl; omega⟩) hkL⟩
 refine ⟨fr, tt, ?_, hI.fl, hI.tl, Pr.inv_lst hI.inv (fun k i hk hi => (hI.done k hk (by simp)).2 i hi), fun k hk => (hI.done k hk (by simp)).1⟩
 refine Ev.bind hr ?_
 refine Ev.congr (fun q => by rw [if_pos rfl, if_pos h.good.n]) ?_
 exact Ev.bind hw (Ev.bind h0 (Ev.bind hL (Ev.bind hf (Ev.now _))))
end
end Go.Proofs.YtanpghbakbebiaaDoor.Pure

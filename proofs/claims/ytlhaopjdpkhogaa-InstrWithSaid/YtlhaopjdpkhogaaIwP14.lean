/- A text of this claim, what is not used left out. -/
import Derived.Test.YtlhaopjdpkhogaaIwP0
import Derived.Test.YtlhaopjdpkhogaaIwP1
import Derived.Test.YtlhaopjdpkhogaaIwP3
import Derived.Test.YtlhaopjdpkhogaaIwP5
import Derived.Test.YtlhaopjdpkhogaaIwP13
namespace Go.Proofs.Ytlhaopjdpkhogaa.P
open Go.RowKit Go.Proofs.YtlhaopjdpkhogaaW.PrintWords Go.Proofs.YtlhaopjdpkhogaaW.PrintLast Go.Proofs.YtlhaopjdpkhogaaW.PrintMore
attribute [local go_sem] max2_int min2_int max_two min_two max_three min_three max_four min_four   
set_option linter.unusedVariables false
set_option linter.unusedSimpArgs false
def WiNo (w : World) (e : Ending) (w' : World) : Prop := e = .returned (.tuple #[.agg #[.int .i64 0, .int .i64 0, .int .i64 0, .int .i64 0, .int .i64 0, .int .i64 0, .int .i64 0, .int .i64 0, .slice none 0 0], .bool false]) ∧ Below w.heap.size w w'
set_option maxHeartbeats 8000000 in
set_option maxRecDepth 100000 in
theorem wi_no (k : Nat) (a0_0 a0_1 a0_2 a0_3 a0_4 a0_5 a0_6 a0_7 : Int) (A0_8 : Option Addr) (c0_8 : Nat) (l0_8 : List Int) (a1 : Int) (A2 : Option Addr) (c2 : Nat) (l2 : List Int) (w : World) (hr0_8 : Kd.C (Kd.int .i64) w A0_8 l0_8.length l0_8) (hc0_8 : l0_8.length ≤ c0_8) (hr2 : Kd.C (Kd.int .i64) w A2 l2.length l2) (hc2 : l2.length ≤ c2) (u : List Int) (t : Bool)
  (hu : instr_Uses.f k a0_0 a0_1 a0_2 a0_3 a0_4 a0_5 a0_6 a0_7 l0_8 = some u) (ht : instr_Right.f k a0_0 a0_1 a0_2 a0_3 a0_4 a0_5 a0_6 a0_7 l0_8 = some t) (hl1 : u.length < 1099511627776) (hl2 : l2.length < 1099511627776) (hno : u.length ≠ l2.length ∨ t = false) :
  Calls Try.prog 44 #[.agg #[.int .i64 a0_0, .int .i64 a0_1, .int .i64 a0_2, .int .i64 a0_3, .int .i64 a0_4, .int .i64 a0_5, .int .i64 a0_6, .int .i64 a0_7, .slice A0_8 l0_8.length c0_8], .int .i64 a1, .slice A2 l2.length c2] w (WiNo w) := by
 have hu24 := Try.underlying24
 have hb1 := below_alloc (below_alloc (below_alloc (Below.refl w.heap.size w) (.cells #[.int .i64 a0_0, .int .i64 a0_1, .int .i64 a0_2, .int .i64 a0_3, .int .i64 a0_4, .int .i64 a0_5, .int .i64 a0_6, .int .i64 a0_7, .slice A0_8 l0_8.length c0_8] 24)) (.cells #[.slice A2 l2.length c2] 22)) (.cells #[.int .i64 0, .int .i64 0, .int .i64 0, .int .i64 0, .int .i64 0, .int .i64 0, .int .i64 0, .int .i64 0, .slice none 0 0] 24)
 have HR8 := Aside0.mk (Kd.C_below hr0_8 hb1)
 have HR2 := Aside0.mk (Kd.C_below hr2 hb1)
 have HC8 := Aside0.mk hc0_8
 have HC2 := Aside0.mk hc2
 have HB := Aside0.mk hb1
 have BK := Aside0.mk (blk_alloc (blk_alloc (blk_new w (.cells #[.int .i64 a0_0, .int .i64 a0_1, .int .i64 a0_2, .int .i64 a0_3, .int .i64 a0_4, .int .i64 a0_5, .int .i64 a0_6, .int .i64 a0_7, .slice A0_8 l0_8.length c0_8] 24)) (.cells #[.slice A2 l2.length c2] 22)) (.cells #[.int .i64 0, .int .i64 0, .int .i64 0, .int .i64 0, .int .i64 0, .int .i64 0, .int .i64 0, .int .i64 0, .slice none 0 0] 24))
 have bu := blk_alloc (blk_new (w.alloc (.cells #[.int .i64 a0_0, .int .i64 a0_1, .int .i64 a0_2, .int .i64 a0_3, .int .i64 a0_4, .int .i64 a0_5, .int .i64 a0_6, .int .i64 a0_7, .slice A0_8 l0_8.length c0_8] 24)) (.cells #[.slice A2 l2.length c2] 22)) (.cells #[.int .i64 0, .int .i64 0, .int .i64 0, .int .i64 0, .int .i64 0, .int .i64 0, .int .i64 0, .int .i64 0, .slice none 0 0] 24)
 rw [World.size_alloc] at bu
 have BU := Aside0.mk bu
 have bz := blk_new ((w.alloc (.cells #[.int .i64 a0_0, .int .i64 a0_1, .int .i64 a0_2, .int .i64 a0_3, .int .i64 a0_4, .int .i64 a0_5, .int .i64 a0_6, .int .i64 a0_7, .slice A0_8 l0_8.length c0_8] 24)).alloc (.cells #[.slice A2 l2.length c2] 22)) (.cells #[.int .i64 0, .int .i64 0, .int .i64 0, .int .i64 0, .int .i64 0, .int .i64 0, .int .i64 0, .int .i64 0, .slice none 0 0] 24)
 rw [World.size_alloc, World.size_alloc] at bz
 have BZ := Aside0.mk bz
 have HU := Aside0.mk hu
 have HT := Aside0.mk ht
 have HR2W := Aside0.mk hr2
 clear hr0_8 hr2 hc0_8 hc2 hb1 hu ht bu bz
 by_cases hne : u.length = l2.length
 ·have hf : t = false := hno.resolve_left (fun h => h hne)
  subst hf
  have t1 : ((u.length : Int) != (l2.length : Int)) = false := by rw [hne]; simp
  have t2 : (u.length != l2.length) = false := by rw [hne]; simp
  clear hno hne
  go_enter Try.func44, Try.ntmps44
  go_upto_region 1 with (fail)
  replace HR8 := Aside0.mk (Kd.C_drew HR8.out)
  replace HR2 := Aside0.mk (Kd.C_drew HR2.out)
  replace HB := Aside0.mk (below_drew1 HB.out)
  replace BK := Aside0.mk (blk_drew BK.out)
  replace BU := Aside0.mk (blk_drew BU.out)
  replace BZ := Aside0.mk (blk_drew BZ.out)
  first | (go_region_held3 (fun w' => w'.cell? ⟨w.heap.size, 0, none⟩ = some (.int .i64 a0_0) ∧ w'.cell? ⟨w.heap.size, 1, none⟩ = some (.int .i64 a0_1) ∧ w'.cell? ⟨w.heap.size, 2, none⟩ = some (.int .i64 a0_2) ∧ w'.cell? ⟨w.heap.size, 3, none⟩ = some (.int .i64 a0_3) ∧ w'.cell? ⟨w.heap.size, 4, none⟩ = some (.int .i64 a0_4) ∧ w'.cell? ⟨w.heap.size, 5, none⟩ = some (.int .i64 a0_5) ∧ w'.cell? ⟨w.heap.size, 6, none⟩ = some (.int .i64 a0_6) ∧ w'.cell? ⟨w.heap.size, 7, none⟩ = some (.int .i64 a0_7) ∧ w'.cell? ⟨w.heap.size, 8, none⟩ = some (.slice A0_8 l0_8.length c0_8) ∧ w'.cell? ⟨w.heap.size + 1, 0, none⟩ = some (.slice A2 l2.length c2)) (exact ⟨(blk_cell BK.out 0).trans rfl, (blk_cell BK.out 1).trans rfl, (blk_cell BK.out 2).trans rfl, (blk_cell BK.out 3).trans rfl, (blk_cell BK.out 4).trans rfl, (blk_cell BK.out 5).trans rfl, (blk_cell BK.out 6).trans rfl, (blk_cell BK.out 7).trans rfl, (blk_cell BK.out 8).trans rfl, (blk_cell BU.out 0).trans rfl⟩) (first | (go_at_call 15; ((with_reducible refine (instr_Uses.calls k a0_0 a0_1 a0_2 a0_3 a0_4 a0_5 a0_6 a0_7 A0_8 c0_8 l0_8 u _ HR8.out HC8.out HU.out).mono ?_); rintro e w' ⟨v_, rfl, hR_, hb⟩; replace HB := Aside0.mk (below_step HB.out hb); replace BK := Aside0.mk (blk_below BK.out hb); replace BU := Aside0.mk (blk_below BU.out hb); replace BZ := Aside0.mk (blk_below BZ.out hb); replace HR8 := Aside0.mk (Kd.C_below HR8.out hb); replace HR2 := Aside0.mk (Kd.C_below HR2.out hb); obtain ⟨Au, cu, rfl⟩ := Kd.R_slice hR_; clear hb hR_)) | (go_at_call 10; ((with_reducible refine (instr_Right.calls k a0_0 a0_1 a0_2 a0_3 a0_4 a0_5 a0_6 a0_7 A0_8 c0_8 l0_8 false _ HR8.out HC8.out HT.out).mono ?_); rintro e w' ⟨rfl, hb⟩; replace HB := Aside0.mk (below_step HB.out hb); replace BK := Aside0.mk (blk_below BK.out hb); replace BU := Aside0.mk (blk_below BU.out hb); replace BZ := Aside0.mk (blk_below BZ.out hb); replace HR8 := Aside0.mk (Kd.C_below HR8.out hb); replace HR2 := Aside0.mk (Kd.C_below HR2.out hb); clear hb)))) | fail
  have rc0 := blk_cell BZ.out 0
  have rf0 := blk_frozen BZ.out 0
  have rc1 := blk_cell BZ.out 1
  have rf1 := blk_frozen BZ.out 1
  have rc2 := blk_cell BZ.out 2
  have rf2 := blk_frozen BZ.out 2
  have rc3 := blk_cell BZ.out 3
  have rf3 := blk_frozen BZ.out 3
  have rc4 := blk_cell BZ.out 4
  have rf4 := blk_frozen BZ.out 4
  have rc5 := blk_cell BZ.out 5
  have rf5 := blk_frozen BZ.out 5
  have rc6 := blk_cell BZ.out 6
  have rf6 := blk_frozen BZ.out 6
  have rc7 := blk_cell BZ.out 7
  have rf7 := blk_frozen BZ.out 7
  have rc8 := blk_cell BZ.out 8
  have rf8 := blk_frozen BZ.out 8
  simp only [List.getElem?_toArray, List.getElem?_cons_zero, List.getElem?_cons_succ] at rc0 rc1 rc2 rc3 rc4 rc5 rc6 rc7 rc8
  go_wp2
  refine bodyPost_ret (results_ct rfl _ _ (w.heap.size + 1 + 1) 24 #[.int .i64 0, .int .i64 0, .int .i64 0, .int .i64 0, .int .i64 0, .int .i64 0, .int .i64 0, .int .i64 0, .slice none 0 0] (0, 0) _ rfl ?hg hu24 rfl (by kernel_rfl)) rfl ?_
  case hg => have h_ := blk_set (blk_set (blk_set (blk_set (blk_set (blk_set (blk_set (blk_set (blk_set (BZ.out) 0 (.int .i64 0)) 1 (.int .i64 0)) 2 (.int .i64 0)) 3 (.int .i64 0)) 4 (.int .i64 0)) 5 (.int .i64 0)) 6 (.int .i64 0)) 7 (.int .i64 0)) 8 (.slice none 0 0); simpa using h_
  exact ⟨rfl, below_set (below_set (below_set (below_set (below_set (below_set (below_set (below_set (below_set (HB.out) (by omega)) (by omega)) (by omega)) (by omega)) (by omega)) (by omega)) (by omega)) (by omega)) (by omega)⟩
 ·have t1 : ((u.length : Int) != (l2.length : Int)) = true := by simp; omega
  have t2 : (u.length != l2.length) = true := by simp [hne]
  have t3 : decide ((u.length : Int) = (l2.length : Int)) = false := decide_eq_false (by omega)
  have t4 : ((u.length : Int) == (l2.length : Int)) = false := beq_eq_false_iff_ne.mpr (by omega)
  have t5 : decide (u.length = l2.length) = false := decide_eq_false hne
  have t6 : (u.length == l2.length) = false := beq_eq_false_iff_ne.mpr hne
  clear hno hne
  go_enter Try.func44, Try.ntmps44
  go_upto_region 1 with (fail)
  replace HR8 := Aside0.mk (Kd.C_drew HR8.out)
  replace HR2 := Aside0.mk (Kd.C_drew HR2.out)
  replace HB := Aside0.mk (below_drew1 HB.out)
  replace BK := Aside0.mk (blk_drew BK.out)
  replace BU := Aside0.mk (blk_drew BU.out)
  replace BZ := Aside0.mk (blk_drew BZ.out)
  have cu0 := blk_cell BU.out 0
  simp only [List.getElem?_toArray, List.getElem?_cons_zero, List.getElem?_cons_succ] at cu0
  have ck0 := blk_cell BK.out 0
  have ck1 := blk_cell BK.out 1
  have ck2 := blk_cell BK.out 2
  have ck3 := blk_cell BK.out 3
  have ck4 := blk_cell BK.out 4
  have ck5 := blk_cell BK.out 5
  have ck6 := blk_cell BK.out 6
  have ck7 := blk_cell BK.out 7
  have ck8 := blk_cell BK.out 8
  simp only [List.getElem?_toArray, List.getElem?_cons_zero, List.getElem?_cons_succ] at ck0 ck1 ck2 ck3 ck4 ck5 ck6 ck7 ck8
  go_region_with (first | (go_at_call 15; ((with_reducible refine (instr_Uses.calls k a0_0 a0_1 a0_2 a0_3 a0_4 a0_5 a0_6 a0_7 A0_8 c0_8 l0_8 u _ HR8.out HC8.out HU.out).mono ?_); rintro e w' ⟨v_, rfl, hR_, hb⟩; replace HB := Aside0.mk (below_step HB.out hb); replace BK := Aside0.mk (blk_below BK.out hb); replace BU := Aside0.mk (blk_below BU.out hb); replace BZ := Aside0.mk (blk_below BZ.out hb); replace HR8 := Aside0.mk (Kd.C_below HR8.out hb); replace HR2 := Aside0.mk (Kd.C_below HR2.out hb); obtain ⟨Au, cu, rfl⟩ := Kd.R_slice hR_; clear hb hR_); have cv0 := blk_cell BU.out 0; simp only [List.getElem?_toArray, List.getElem?_cons_zero, List.getElem?_cons_succ] at cv0; have rc0 := blk_cell BZ.out 0; have rf0 := blk_frozen BZ.out 0; have rc1 := blk_cell BZ.out 1; have rf1 := blk_frozen BZ.out 1; have rc2 := blk_cell BZ.out 2; have rf2 := blk_frozen BZ.out 2; have rc3 := blk_cell BZ.out 3; have rf3 := blk_frozen BZ.out 3; have rc4 := blk_cell BZ.out 4; have rf4 := blk_frozen BZ.out 4; have rc5 := blk_cell BZ.out 5; have rf5 := blk_frozen BZ.out 5; have rc6 := blk_cell BZ.out 6; have rf6 := blk_frozen BZ.out 6; have rc7 := blk_cell BZ.out 7; have rf7 := blk_frozen BZ.out 7; have rc8 := blk_cell BZ.out 8; have rf8 := blk_frozen BZ.out 8; simp only [List.getElem?_toArray, List.getElem?_cons_zero, List.getElem?_cons_succ] at rc0 rc1 rc2 rc3 rc4 rc5 rc6 rc7 rc8))
  all_goals (go_wp2)
  all_goals (refine bodyPost_ret (results_ct rfl _ _ (w.heap.size + 1 + 1) 24 #[.int .i64 0, .int .i64 0, .int .i64 0, .int .i64 0, .int .i64 0, .int .i64 0, .int .i64 0, .int .i64 0, .slice none 0 0] (0, 0) _ rfl ?hg hu24 rfl (by kernel_rfl)) rfl ?_; (case hg => have h_ := blk_set (blk_set (blk_set (blk_set (blk_set (blk_set (blk_set (blk_set (blk_set (BZ.out) 0 (.int .i64 0)) 1 (.int .i64 0)) 2 (.int .i64 0)) 3 (.int .i64 0)) 4 (.int .i64 0)) 5 (.int .i64 0)) 6 (.int .i64 0)) 7 (.int .i64 0)) 8 (.slice none 0 0); simpa using h_); exact ⟨rfl, below_set (below_set (below_set (below_set (below_set (below_set (below_set (below_set (below_set (HB.out) (by omega)) (by omega)) (by omega)) (by omega)) (by omega)) (by omega)) (by omega)) (by omega)) (by omega)⟩)
def wiVf (V0 : Nat → Int) (ps : List Nat) (u : List Int) : Nat → Int := (ps.zip u).foldl (fun f p q => if q = p.1 then p.2 else f q) V0
theorem wiVf_cons (V0 : Nat → Int) (p : Nat) (ps : List Nat) (x : Int) (u : List Int) : wiVf V0 (p :: ps) (x :: u) = wiVf (fun q => if q = p then x else V0 q) ps u := rfl
theorem wiVf_snoc (x : Nat) : ∀ (ps : List Nat) (u : List Int) (V0 : Nat → Int) (h : ps.length < u.length), wiVf V0 (ps ++ [x]) u = fun q => if q = x then rd u (ps.length : Int) else wiVf V0 ps u q
 | [], y :: u, V0, _ => rfl
 | p :: ps, y :: u, V0, h => by
  rw [List.cons_append, wiVf_cons, wiVf_snoc x ps u _ (by simpa using h)]
  funext q
  rw [wiVf_cons]
  have e : rd (y :: u) (((p :: ps).length : Nat) : Int) = rd u (ps.length : Int) := by simp [rd]
  rw [e]
theorem wiVf_range (len : Nat) : ∀ (s : Nat) (V0 : Nat → Int) (u : List Int) (_ : u.length = len) (q : Nat), wiVf V0 (List.range' s len) u q = if s ≤ q ∧ q < s + len then u.getD (q - s) 0 else V0 q := by
 induction len with
 | zero => intro s V0 u hu q; simp [wiVf]; omega
 | succ n ih =>
  intro s V0 u hu q
  cases u with
  | nil => simp at hu
  | cons x u =>
   rw [List.range'_succ, wiVf_cons, ih (s + 1) _ u (by simpa using hu) q]
   by_cases h1 : q = s
   ·subst h1
    rw [if_neg (by omega), if_pos rfl, if_pos (by omega)]
    simp
   ·by_cases h2 : s + 1 ≤ q ∧ q < s + 1 + n
    ·rw [if_pos h2, if_pos (by omega)]
     have e : q - s = (q - (s + 1)) + 1 := by omega
     rw [e, List.getD_cons_succ]
    ·rw [if_neg h2, if_neg h1, if_neg (by omega)]
def wiOne (h : Bool) (x : Int) (u : List Int) : Int × List Int := if h then (u.headD x, u.tail) else (x, u)
theorem wiVf_one (b : Bool) (i : Nat) (ps : List Nat) (V0 : Nat → Int) (u : List Int) (h : u.length = ((if b then [i] else []) ++ ps).length) :
  wiVf V0 ((if b then [i] else []) ++ ps) u = wiVf (fun q => if q = i then (wiOne b (V0 i) u).1 else V0 q) ps (wiOne b (V0 i) u).2 ∧ (wiOne b (V0 i) u).2.length = ps.length := by
 cases b with
 | false =>
  refine ⟨?_, by simpa [wiOne] using h⟩
  have e : (fun q => if q = i then (wiOne false (V0 i) u).1 else V0 q) = V0 := by
   funext q
   by_cases hq : q = i
   ·subst hq; simp [wiOne]
   ·simp [hq]
  rw [e]
  rfl
 | true =>
  cases u with
  | nil => simp at h
  | cons x u => exact ⟨rfl, by simpa [wiOne] using h⟩
theorem wiVf_all (x y z : Bool) (len : Nat) (V0 : Nat → Int) (u : List Int) (hu : u.length = ((if x then [0] else []) ++ (if y then [1] else []) ++ (if z then [2] else []) ++ List.range' 3 len).length) (W : Nat → Int) (p q r : Int × List Int)
  (eW : W = wiVf V0 ((if x then [0] else []) ++ (if y then [1] else []) ++ (if z then [2] else []) ++ List.range' 3 len) u) (ep : p = wiOne x (V0 0) u) (eq : q = wiOne y (V0 1) p.2) (er : r = wiOne z (V0 2) q.2) :
  W 0 = p.1 ∧ W 1 = q.1 ∧ W 2 = r.1 ∧ (List.range len).map (fun j => W (3 + j)) = r.2 := by
 have last : ∀ (V : Nat → Int) (us : List Int), us.length = len → (List.range len).map (fun j => wiVf V (List.range' 3 len) us (3 + j)) = us := by
  intro V us h
  apply List.ext_getElem
  ·simp [h]
  ·intro i h1 h2
   simp at h1
   simp only [List.getElem_map, List.getElem_range]
   rw [wiVf_range len 3 V us h, if_pos (by omega)]
   have e : 3 + i - 3 = i := by omega
   rw [e, List.getD_eq_getElem?_getD, List.getElem?_eq_getElem h2]; rfl
 have lo : ∀ (V : Nat → Int) (us : List Int) (q : Nat), us.length = len → q < 3 → wiVf V (List.range' 3 len) us q = V q := by
  intro V us q h hq
  rw [wiVf_range len 3 V us h, if_neg (by omega)]
 simp only [List.append_assoc] at hu eW
 obtain ⟨e1, l1⟩ := wiVf_one x 0 _ V0 u hu
 rw [← ep] at e1 l1
 obtain ⟨e2, l2⟩ := wiVf_one y 1 _ (fun q => if q = 0 then p.1 else V0 q) p.2 l1
 rw [if_neg (show ¬ (1 : Nat) = 0 by omega), ← eq] at e2 l2
 obtain ⟨e3, l3⟩ := wiVf_one z 2 _ (fun q_1 => if q_1 = 1 then q.1 else if q_1 = 0 then p.1 else V0 q_1) q.2 l2
 rw [if_neg (show ¬ (2 : Nat) = 1 by omega), if_neg (show ¬ (2 : Nat) = 0 by omega), ← er] at e3 l3
 have l4 : r.2.length = len := by simpa using l3
 rw [eW, e1, e2, e3]
 exact ⟨by rw [lo _ _ _ l4 (by omega)]; rfl, by rw [lo _ _ _ l4 (by omega)]; rfl, by rw [lo _ _ _ l4 (by omega)]; rfl, last _ _ l4⟩
def wiA (op : Int) : Bool := Go.bits .and .i64 (hasV op) 2 != 0
def wiB (op m : Int) : Bool := (Go.bits .and .i64 (hasV op) 4 != 0) && ((Go.bits .and .i64 (hasV op) 2048 == 0) || m != 21)
def wiC (op : Int) : Bool := Go.bits .and .i64 (hasV op) 8 != 0
def wiV (op a b c m : Int) (u : List Int) : Int × Int × Int × List Int :=
 let p := wiOne (wiA op) a u
 let q := wiOne (wiB op m) b p.2
 let r := wiOne (wiC op) c q.2
 (p.1, q.1, r.1, r.2)
def wiAd (B0 g p : Nat) : Addr := if p < 3 then ⟨B0, 2 + p, none⟩ else ⟨g, p - 3, none⟩
structure WiS (w : World) (NR g Bk : Nat) (op D n m s : Int) (Ac : Option Addr) (len cc : Nat) (A2 : Option Addr) (n2 c2 : Nat) (V : Nat → Int) (k : Nat) (W : World) : Prop where
 b0 : W.heap[w.heap.size]? = some (.cells #[.int .i64 op, .int .i64 D, .int .i64 (V 0), .int .i64 (V 1), .int .i64 (V 2), .int .i64 n, .int .i64 m, .int .i64 s, .slice Ac len cc] 24 (0, 0))
 b1 : W.heap[w.heap.size + 1]? = some (.cells #[.slice A2 n2 c2] 22 (0, 0))
 b2 : W.heap[w.heap.size + 1 + 1]? = some (.cells #[.int .i64 0, .int .i64 0, .int .i64 0, .int .i64 0, .int .i64 0, .int .i64 0, .int .i64 0, .int .i64 0, .slice none 0 0] 24 (0, 0))
 bk : W.heap[Bk]? = some (.cells #[.int .i64 (k : Int)] 3 (0, 0))
 row : (Kd.int .i64).R 3 W NR (fun _ => True) (.slice Ac len cc) ((List.range len).map (fun j => V (3 + j)))
 bel : Below w.heap.size w W
theorem WiS.grown {w : World} {NR g Bk : Nat} {op D n m s : Int} {Ac : Option Addr} {len cc : Nat} {A2 : Option Addr} {n2 c2 : Nat} {V : Nat → Int} {k : Nat} {W W' : World} (h : WiS w NR g Bk op D n m s Ac len cc A2 n2 c2 V k W) {row : Option Nat} (hg : W.grownBy W' row)
  (hr : ∀ r, row = some r → ∃ o : Obj, W.heap[r]? = some o ∧ o.isCells = false) (hr2 : ∀ r, row = some r → w.heap.size ≤ r) : WiS w NR g Bk op D n m s Ac len cc A2 n2 c2 V k W' := by
 have hne : ∀ (b : Nat) (cs : Array Value) (t : TypeId), W.heap[b]? = some (.cells cs t (0, 0)) → some b ≠ row := by
  intro b cs t hb e
  obtain ⟨o, ho, hc⟩ := hr b e.symm
  rw [hb] at ho
  cases ho
  cases hc
 refine ⟨blk_grown h.b0 hg (hne _ _ _ h.b0), blk_grown h.b1 hg (hne _ _ _ h.b1), blk_grown h.b2 hg (hne _ _ _ h.b2), blk_grown h.bk hg (hne _ _ _ h.bk), ?_, h.bel.grown hg h.bel.size hr2⟩
 refine Kd.R_mono (Kd.R_grown (Kd.R_bound h.row) hg ?_) (fun _ _ => trivial)
 rintro k ⟨_, _, _, q, _, cells, hc⟩
 exact hne k _ _ hc
theorem WiS.at {w : World} {NR g Bk : Nat} {op D n m s : Int} {Ac : Option Addr} {len cc : Nat} {A2 : Option Addr} {n2 c2 : Nat} {V : Nat → Int} {k : Nat} {W : World} (h : WiS w NR g Bk op D n m s Ac len cc A2 n2 c2 V k W) (hA : 0 < len → Ac = some ⟨g, 0, none⟩) {x : Nat} (hx : x < 3 + len) :
  W.cell? (wiAd w.heap.size g x) = some (.int .i64 (V x)) ∧ W.frozen? (wiAd w.heap.size g x) = false := by
 unfold wiAd
 by_cases h3 : x < 3
 ·rw [if_pos h3]
  refine ⟨(blk_cell h.b0 _).trans ?_, blk_frozen h.b0 _⟩
  rcases (show x = 0 ∨ x = 1 ∨ x = 2 by omega) with rfl | rfl | rfl <;> rfl
 ·rw [if_neg h3]
  have hr := h.row
  rw [hA (by omega)] at hr
  obtain ⟨r1, r2⟩ := Kd.R_celln (0 : Int) hr ((x - 3 : Nat) : Int) (by omega) (by omega)
  simp only [Int.toNat_natCast] at r1 r2
  refine ⟨r1.trans ?_, r2⟩
  congr 2
  simp [rdOf]
  rw [List.getElem?_range (by omega)]
  simp
  congr 1
  omega
theorem WiS.put {w : World} {NR g Bk : Nat} {op D n m s : Int} {Ac : Option Addr} {len cc : Nat} {A2 : Option Addr} {n2 c2 : Nat} {V : Nat → Int} {k : Nat} {W : World} (h : WiS w NR g Bk op D n m s Ac len cc A2 n2 c2 V k W) (hA : 0 < len → Ac = some ⟨g, 0, none⟩) (hgk : ∀ b, (Value.slice Ac len cc).ownBlock = some b → b < Bk) (hgk2 : 0 < len → g < Bk) (hgr : 0 < len → w.heap.size + 2 < g) (hgb : w.heap.size + 2 < Bk) {x : Nat} (hx : x < 3 + len) (v : Int) :
  WiS w NR g Bk op D n m s Ac len cc A2 n2 c2 (fun q => if q = x then v else V q) (k + 1) ((W.setCell (wiAd w.heap.size g x) (.int .i64 v)).setCell ⟨Bk, 0, none⟩ (.int .i64 ((k : Int) + 1))) := by
 have hbk : (W.setCell (wiAd w.heap.size g x) (.int .i64 v)).heap[Bk]? = some (.cells #[.int .i64 (k : Int)] 3 (0, 0)) := by
  refine blk_far h.bk ?_ _
  unfold wiAd
  by_cases h3 : x < 3
  ·rw [if_pos h3]
   show Bk ≠ w.heap.size
   omega
  ·rw [if_neg h3]
   show Bk ≠ g
   have := hgk2 (by omega)
   omega
 have key : WiS w NR g Bk op D n m s Ac len cc A2 n2 c2 (fun q => if q = x then v else V q) k (W.setCell (wiAd w.heap.size g x) (.int .i64 v)) := by
  unfold wiAd at hbk ⊢
  by_cases h3 : x < 3
  ·rw [if_pos h3] at hbk ⊢
   refine ⟨?_, blk_far h.b1 (by show w.heap.size + 1 ≠ w.heap.size; omega) _, blk_far h.b2 (by show w.heap.size + 1 + 1 ≠ w.heap.size; omega) _, hbk, ?_, below_set h.bel (Nat.le_refl _)⟩
   ·have e := blk_set h.b0 (2 + x) (.int .i64 v)
    rcases (show x = 0 ∨ x = 1 ∨ x = 2 by omega) with rfl | rfl | rfl <;> exact e
   ·have e : (List.range len).map (fun j => if 3 + j = x then v else V (3 + j)) = (List.range len).map (fun j => V (3 + j)) := by
     apply List.map_congr_left
     intro j _
     rw [if_neg (by omega)]
    show Kd.R _ 3 _ NR _ _ ((List.range len).map (fun j => if 3 + j = x then v else V (3 + j)))
    rw [e]
    exact Kd.R_set h.row h.b0 (by intro q hq; simp [Kd.int, Kd.scalar] at hq; subst hq; decide) (2 + x) _
  ·rw [if_neg h3] at hbk ⊢
   have hgk2 := hgk2 (by omega)
   have hgr := hgr (by omega)
   refine ⟨?_, blk_far h.b1 (by show w.heap.size + 1 ≠ g; omega) _, blk_far h.b2 (by show w.heap.size + 1 + 1 ≠ g; omega) _, hbk, ?_, below_set h.bel (by omega)⟩
   ·have e := blk_far h.b0 (p := ⟨g, x - 3, none⟩) (by show w.heap.size ≠ g; omega) (.int .i64 v)
    have e0 : (if 0 = x then v else V 0) = V 0 := if_neg (by omega)
    have e1 : (if 1 = x then v else V 1) = V 1 := if_neg (by omega)
    have e2 : (if 2 = x then v else V 2) = V 2 := if_neg (by omega)
    show _ = some (Obj.cells #[.int .i64 op, .int .i64 D, .int .i64 (if 0 = x then v else V 0), .int .i64 (if 1 = x then v else V 1), .int .i64 (if 2 = x then v else V 2), .int .i64 n, .int .i64 m, .int .i64 s, .slice Ac len cc] 24 (0, 0))
    rw [e0, e1, e2]
    exact e
   ·have hr := h.row
    rw [hA (by omega)] at hr ⊢
    have hp := Kd.R_putn hr ((x - 3 : Nat) : Int) v
    simp only [Int.toNat_natCast] at hp
    have e : ((List.range len).map (fun j => V (3 + j))).set (x - 3) v = (List.range len).map (fun j => if 3 + j = x then v else V (3 + j)) := by
     apply List.ext_getElem
     ·simp
     ·intro i h1 h2
      simp at h1
      simp only [List.getElem_set, List.getElem_map, List.getElem_range]
      by_cases hi : x - 3 = i
      ·rw [if_pos hi, if_pos (by omega)]
      ·rw [if_neg hi, if_neg (by omega)]
    rw [e] at hp
    exact hp
 refine ⟨blk_far key.b0 (by show w.heap.size ≠ Bk; omega) _, blk_far key.b1 (by show w.heap.size + 1 ≠ Bk; omega) _, blk_far key.b2 (by show w.heap.size + 1 + 1 ≠ Bk; omega) _, blk_set hbk 0 _, ?_, below_set key.bel (by omega)⟩
 refine Kd.R_mono (Kd.R_far (p := ⟨Bk, 0, none⟩) (ok := fun k => True ∧ k ≠ Bk) ?_ (fun _ h => h.2) _) (fun _ _ => trivial)
 obtain ⟨h1, h2⟩ := key.row
 refine ⟨fun b hb => ⟨trivial, ?_⟩, ?_⟩
 ·intro e
  exact absurd (hgk b hb) (by omega)
 ·exact h2.imp_ (fun _ _ hp => hp)
def WiPost (w : World) (op D a b c n m s : Int) (l : List Int) (t : Bool) (e : Ending) (w' : World) : Prop := ∃ v : Value, e = .returned (.tuple #[.agg #[.int .i64 op, .int .i64 D, .int .i64 a, .int .i64 b, .int .i64 c, .int .i64 n, .int .i64 m, .int .i64 s, v], .bool t]) ∧ Kd.R (Kd.int .i64) 3 w' w.heap.size (fun _ => True) v l ∧ Below w.heap.size w w'
theorem wi_kp {w : World} {NR g Bk Bh Bp : Nat} {op D n m s : Int} {Ac : Option Addr} {len cc : Nat} {A2 : Option Addr} {n2 c2 : Nat} {V : Nat → Int} {k : Nat} {W : World} (h : WiS w NR g Bk op D n m s Ac len cc A2 n2 c2 V k W) {x : Nat} (hx : x < 3 + len) (hg1 : 0 < len → g < Bk) (hg2 : 0 < len → w.heap.size + 2 < g) (h1 : w.heap.size + 2 < Bk ∧ Bk < Bh) (h2 : Bk < Bp) (v u : Value) :
  UsKp Bh Bp w.heap.size W ((W.setCell (wiAd w.heap.size g x) v).setCell ⟨Bk, 0, none⟩ u) := by
 have e : (W.setCell (wiAd w.heap.size g x) v).heap[w.heap.size]? = W.heap[w.heap.size]? ∨ ∃ i, i < 3 ∧ wiAd w.heap.size g x = ⟨w.heap.size, 2 + i, none⟩ := by
  unfold wiAd
  by_cases h3 : x < 3
  ·rw [if_pos h3]; exact .inr ⟨x, h3, rfl⟩
  ·rw [if_neg h3]
   have := hg2 (by omega)
   exact .inl (Below.heap_setCell W _ v _ (by show w.heap.size ≠ g; omega))
 have eo : ∀ b, b = Bh ∨ b = Bp → (W.setCell (wiAd w.heap.size g x) v).heap[b]? = W.heap[b]? := by
  intro b hb
  refine Below.heap_setCell W _ v _ ?_
  unfold wiAd
  by_cases h3 : x < 3
  ·rw [if_pos h3]; show b ≠ w.heap.size; omega
  ·rw [if_neg h3]; have := hg1 (by omega); show b ≠ g; omega
 have ek : ∀ b, b ≠ Bk → ((W.setCell (wiAd w.heap.size g x) v).setCell ⟨Bk, 0, none⟩ u).heap[b]? = (W.setCell (wiAd w.heap.size g x) v).heap[b]? := fun b hb => Below.heap_setCell _ _ _ _ hb
 refine ⟨?_, ?_, ?_, ?_⟩
 ·exact World.cell?_of_block (a := ⟨Bh, 0, none⟩) ((ek Bh (by omega)).trans (eo Bh (.inl rfl)))
 ·exact World.cell?_of_block (a := ⟨Bp, 0, none⟩) ((ek Bp (by omega)).trans (eo Bp (.inr rfl)))
 ·rcases e with e | ⟨i, hi, e⟩
  ·exact World.cell?_of_block (a := ⟨w.heap.size, 6, none⟩) ((ek w.heap.size (by omega)).trans e)
  ·rw [e]
   rw [blk_cell (blk_far (blk_set h.b0 (2 + i) v) (p := ⟨Bk, 0, none⟩) (by show w.heap.size ≠ Bk; omega) u) 6, blk_cell h.b0 6]
   rcases (show i = 0 ∨ i = 1 ∨ i = 2 by omega) with rfl | rfl | rfl <;> rfl
 ·rcases e with e | ⟨i, hi, e⟩
  ·exact World.cell?_of_block (a := ⟨w.heap.size, 8, none⟩) ((ek w.heap.size (by omega)).trans e)
  ·rw [e]
   rw [blk_cell (blk_far (blk_set h.b0 (2 + i) v) (p := ⟨Bk, 0, none⟩) (by show w.heap.size ≠ Bk; omega) u) 8, blk_cell h.b0 8]
   rcases (show i = 0 ∨ i = 1 ∨ i = 2 by omega) with rfl | rfl | rfl <;> rfl
def wiNine (w W7 : World) (v0 v1 v2 v3 v4 v5 v6 v7 v8 : Value) : World := (((((((((W7.setCell ⟨w.heap.size + 1 + 1, 0, none⟩ v0).setCell ⟨w.heap.size + 1 + 1, 1, none⟩ v1).setCell ⟨w.heap.size + 1 + 1, 2, none⟩ v2).setCell ⟨w.heap.size + 1 + 1, 3, none⟩ v3).setCell ⟨w.heap.size + 1 + 1, 4, none⟩ v4).setCell ⟨w.heap.size + 1 + 1, 5, none⟩ v5).setCell ⟨w.heap.size + 1 + 1, 6, none⟩ v6).setCell ⟨w.heap.size + 1 + 1, 7, none⟩ v7).setCell ⟨w.heap.size + 1 + 1, 8, none⟩ v8)
theorem wi_nine_far (w W7 : World) (v0 v1 v2 v3 v4 v5 v6 v7 v8 : Value) (k : Nat) (h : k ≠ w.heap.size + 1 + 1) : (wiNine w W7 v0 v1 v2 v3 v4 v5 v6 v7 v8).heap[k]? = W7.heap[k]? := by
 unfold wiNine
 have e : ∀ (W : World) (i : Nat) (v : Value), (W.setCell ⟨w.heap.size + 1 + 1, i, none⟩ v).heap[k]? = W.heap[k]? := fun W i v => Below.heap_setCell W ⟨w.heap.size + 1 + 1, i, none⟩ v k h
 rw [e, e, e, e, e, e, e, e, e]
theorem wi_last (w W w7 : World) (Dd NR : Nat) (z0 z1 z2 z3 z4 z5 z6 z7 z8 : Value) (h2 : W.heap[w.heap.size + 1 + 1]? = some (.cells #[z0, z1, z2, z3, z4, z5, z6, z7, z8] 24 (0, 0))) (hb : Below w.heap.size w W) (h7 : Below W.heap.size W w7) (hD : W.heap[Dd]? = some (.deferred (some []))) (hDw : w.heap.size ≤ Dd) (v0 v1 v2 v3 v4 v5 v6 v7 v8 : Value) :
  (wiNine w w7 v0 v1 v2 v3 v4 v5 v6 v7 v8).heap[Dd]? = some (.deferred (some [])) ∧ ((wiNine w w7 v0 v1 v2 v3 v4 v5 v6 v7 v8).putObj Dd (.deferred none)).heap[w.heap.size + 1 + 1]? = some (.cells #[v0, v1, v2, v3, v4, v5, v6, v7, v8] 24 (0, 0)) ∧
   Below w.heap.size w ((wiNine w w7 v0 v1 v2 v3 v4 v5 v6 v7 v8).putObj Dd (.deferred none)) ∧
   (∀ v xs, (Kd.int .i64).R 3 W NR (fun _ => True) v xs → w.heap.size + 3 ≤ NR → (Kd.int .i64).R 3 ((wiNine w w7 v0 v1 v2 v3 v4 v5 v6 v7 v8).putObj Dd (.deferred none)) w.heap.size (fun _ => True) v xs) := by
 have hne : Dd ≠ w.heap.size + 1 + 1 := by
  rintro rfl
  rw [h2] at hD
  cases hD
 have hDl : Dd < W.heap.size := blk_lt hD
 have hd : (wiNine w w7 v0 v1 v2 v3 v4 v5 v6 v7 v8).heap[Dd]? = some (.deferred (some [])) := (wi_nine_far w w7 v0 v1 v2 v3 v4 v5 v6 v7 v8 Dd hne).trans (blk_below hD h7)
 have hB : Below w.heap.size w (wiNine w w7 v0 v1 v2 v3 v4 v5 v6 v7 v8) := by
  have e : ∀ (W : World) (i : Nat) (v : Value), Below w.heap.size w W → Below w.heap.size w (W.setCell ⟨w.heap.size + 1 + 1, i, none⟩ v) := fun W i v h => below_set h (by omega)
  unfold wiNine
  exact e _ _ _ (e _ _ _ (e _ _ _ (e _ _ _ (e _ _ _ (e _ _ _ (e _ _ _ (e _ _ _ (e _ _ _ (below_step hb h7)))))))))
 refine ⟨hd, ?_, hB.trans (belowK_b (w := w) (Nat.le_refl _) _ Dd _ _ hDw hd rfl rfl), ?_⟩
 ·rw [World.putObj_heap_other (Ne.symm hne)]
  have h_ := blk_set (blk_set (blk_set (blk_set (blk_set (blk_set (blk_set (blk_set (blk_set (blk_below h2 h7) 0 v0) 1 v1) 2 v2) 3 v3) 4 v4) 5 v5) 6 v6) 7 v7) 8 v8
  unfold wiNine
  simpa using h_
 ·intro v xs hr hn
  refine Kd.R_lower (Kd.R_mono (Kd.R_move (Kd.R_bound hr) ?_) (fun _ _ => trivial)) (show w.heap.size ≤ NR by omega)
  rintro k ⟨_, hk1, hk2, q, _, cells, hc⟩
  have hkd : k ≠ Dd := by
   rintro rfl
   rw [hc] at hD
   cases hD
  rw [World.putObj_heap_other hkd, wi_nine_far w w7 v0 v1 v2 v3 v4 v5 v6 v7 v8 k (by omega)]
  exact h7.block k hk2
section
attribute [local go_sem] Oper.semAt_some
set_option maxHeartbeats 8000000 in
set_option maxRecDepth 100000 in
theorem wi_yes1 (k : Nat) (a0_0 a0_1 a0_2 a0_3 a0_4 a0_5 a0_6 a0_7 : Int) (A0_8 : Option Addr) (c0_8 : Nat) (l0_8 : List Int) (a1 : Int) (A2 : Option Addr) (c2 : Nat) (l2 : List Int) (w : World) (hr0_8 : Kd.C (Kd.int .i64) w A0_8 l0_8.length l0_8) (hc0_8 : l0_8.length ≤ c0_8) (hr2 : Kd.C (Kd.int .i64) w A2 l2.length l2) (hc2 : l2.length ≤ c2) (u : List Int)
  (hu : instr_Uses.f k a0_0 a0_1 a0_2 a0_3 a0_4 a0_5 a0_6 a0_7 l0_8 = some u) (ht : instr_Right.f k a0_0 a0_1 a0_2 a0_3 a0_4 a0_5 a0_6 a0_7 l0_8 = some true) (hl1 : u.length < 1099511627776) (hl2 : l2.length < 1099511627776) (hl8 : l0_8.length < 1099511627776) (hne : u.length = l2.length) (huv : u.length = (usV a0_0 a0_2 a0_3 a0_4 a0_6 l0_8).length) (hd : (Go.bits .and .i64 (hasV a0_0) 1 != 0) = true)
  (pa pb pc : Int) (pl : List Int) (hV : wiV a0_0 a0_2 a0_3 a0_4 a0_6 l2 = (pa, pb, pc, pl)) (t2 : Bool) (hT2 : instr_Right.f k a0_0 a1 pa pb pc a0_5 a0_6 a0_7 pl = some t2) :
  Calls Try.prog 44 #[.agg #[.int .i64 a0_0, .int .i64 a0_1, .int .i64 a0_2, .int .i64 a0_3, .int .i64 a0_4, .int .i64 a0_5, .int .i64 a0_6, .int .i64 a0_7, .slice A0_8 l0_8.length c0_8], .int .i64 a1, .slice A2 l2.length c2] w (if t2 = true then WiPost w a0_0 a1 pa pb pc a0_5 a0_6 a0_7 pl true else WiPost w 0 0 0 0 0 0 0 0 [] false) := by
 have hu24 := Try.underlying24
 have hb1 := below_alloc (below_alloc (below_alloc (Below.refl w.heap.size w) (.cells #[.int .i64 a0_0, .int .i64 a0_1, .int .i64 a0_2, .int .i64 a0_3, .int .i64 a0_4, .int .i64 a0_5, .int .i64 a0_6, .int .i64 a0_7, .slice A0_8 l0_8.length c0_8] 24)) (.cells #[.slice A2 l2.length c2] 22)) (.cells #[.int .i64 0, .int .i64 0, .int .i64 0, .int .i64 0, .int .i64 0, .int .i64 0, .int .i64 0, .int .i64 0, .slice none 0 0] 24)
 have HR8 := Aside0.mk (Kd.C_below hr0_8 hb1)
 have HR2 := Aside0.mk (Kd.C_below hr2 hb1)
 have HC8 := Aside0.mk hc0_8
 have HC2 := Aside0.mk hc2
 have HB := Aside0.mk hb1
 have BK := Aside0.mk (blk_alloc (blk_alloc (blk_new w (.cells #[.int .i64 a0_0, .int .i64 a0_1, .int .i64 a0_2, .int .i64 a0_3, .int .i64 a0_4, .int .i64 a0_5, .int .i64 a0_6, .int .i64 a0_7, .slice A0_8 l0_8.length c0_8] 24)) (.cells #[.slice A2 l2.length c2] 22)) (.cells #[.int .i64 0, .int .i64 0, .int .i64 0, .int .i64 0, .int .i64 0, .int .i64 0, .int .i64 0, .int .i64 0, .slice none 0 0] 24))
 have bu := blk_alloc (blk_new (w.alloc (.cells #[.int .i64 a0_0, .int .i64 a0_1, .int .i64 a0_2, .int .i64 a0_3, .int .i64 a0_4, .int .i64 a0_5, .int .i64 a0_6, .int .i64 a0_7, .slice A0_8 l0_8.length c0_8] 24)) (.cells #[.slice A2 l2.length c2] 22)) (.cells #[.int .i64 0, .int .i64 0, .int .i64 0, .int .i64 0, .int .i64 0, .int .i64 0, .int .i64 0, .int .i64 0, .slice none 0 0] 24)
 rw [World.size_alloc] at bu
 have BU := Aside0.mk bu
 have bz := blk_new ((w.alloc (.cells #[.int .i64 a0_0, .int .i64 a0_1, .int .i64 a0_2, .int .i64 a0_3, .int .i64 a0_4, .int .i64 a0_5, .int .i64 a0_6, .int .i64 a0_7, .slice A0_8 l0_8.length c0_8] 24)).alloc (.cells #[.slice A2 l2.length c2] 22)) (.cells #[.int .i64 0, .int .i64 0, .int .i64 0, .int .i64 0, .int .i64 0, .int .i64 0, .int .i64 0, .int .i64 0, .slice none 0 0] 24)
 rw [World.size_alloc, World.size_alloc] at bz
 have BZ := Aside0.mk bz
 have HU := Aside0.mk hu
 have HT := Aside0.mk ht
 have HR2W := Aside0.mk hr2
 clear hr0_8 hr2 hc0_8 hc2 hb1 hu ht bu bz
 have hcl : slices_Clone_int_int.f l0_8 = some l0_8 := if_pos (by omega)
 have hhas : instr_has.f a0_0 = some (hasV a0_0) := rfl
 have t1 : ((u.length : Int) != (l2.length : Int)) = false := by rw [hne]; simp
 have t2_ : (u.length != l2.length) = false := by rw [hne]; simp
 have HCL := Aside0.mk hcl
 have HHAS := Aside0.mk hhas
 have HL8 := Aside0.mk hl8
 have HUV := Aside0.mk huv
 have HNE := Aside0.mk hne
 have HV := Aside0.mk hV
 have HT2 := Aside0.mk hT2
 clear hcl hhas hne hl8 huv hV hT2
 obtain ⟨PQ, hQ⟩ : ∃ PQ, PQ = (if t2 = true then WiPost w a0_0 a1 pa pb pc a0_5 a0_6 a0_7 pl true else WiPost w 0 0 0 0 0 0 0 0 [] false) := ⟨_, rfl⟩
 rw [← hQ]
 have HQ := Aside0.mk hQ
 clear hQ
 refine callsIn_wide.1 (callsIn_of_wp_marks (F := Fence.wide) (n := 6) Try.func44 rfl trivial ?_ rfl)
 simp only [Try.ntmps44, List.size_toArray, List.length_cons, List.length_nil, Nat.reduceAdd, Nat.reduceSub, Array.replicate_succ, Array.replicate_zero, List.push_toArray, List.append_toArray, List.nil_append, List.cons_append]
 refine wpIn_wide.2 ?_
 go_upto_region 1 with (fail)
 replace HR8 := Aside0.mk (Kd.C_drew HR8.out)
 replace HR2 := Aside0.mk (Kd.C_drew HR2.out)
 replace HB := Aside0.mk (below_drew1 HB.out)
 replace BK := Aside0.mk (blk_drew BK.out)
 replace BU := Aside0.mk (blk_drew BU.out)
 replace BZ := Aside0.mk (blk_drew BZ.out)
 first | (go_region_held3 (fun w' => w'.cell? ⟨w.heap.size, 0, none⟩ = some (.int .i64 a0_0) ∧ w'.cell? ⟨w.heap.size, 1, none⟩ = some (.int .i64 a0_1) ∧ w'.cell? ⟨w.heap.size, 2, none⟩ = some (.int .i64 a0_2) ∧ w'.cell? ⟨w.heap.size, 3, none⟩ = some (.int .i64 a0_3) ∧ w'.cell? ⟨w.heap.size, 4, none⟩ = some (.int .i64 a0_4) ∧ w'.cell? ⟨w.heap.size, 5, none⟩ = some (.int .i64 a0_5) ∧ w'.cell? ⟨w.heap.size, 6, none⟩ = some (.int .i64 a0_6) ∧ w'.cell? ⟨w.heap.size, 7, none⟩ = some (.int .i64 a0_7) ∧ w'.cell? ⟨w.heap.size, 8, none⟩ = some (.slice A0_8 l0_8.length c0_8) ∧ w'.cell? ⟨w.heap.size + 1, 0, none⟩ = some (.slice A2 l2.length c2)) (exact ⟨(blk_cell BK.out 0).trans rfl, (blk_cell BK.out 1).trans rfl, (blk_cell BK.out 2).trans rfl, (blk_cell BK.out 3).trans rfl, (blk_cell BK.out 4).trans rfl, (blk_cell BK.out 5).trans rfl, (blk_cell BK.out 6).trans rfl, (blk_cell BK.out 7).trans rfl, (blk_cell BK.out 8).trans rfl, (blk_cell BU.out 0).trans rfl⟩) (first | (go_at_call 15; ((with_reducible refine (instr_Uses.calls k a0_0 a0_1 a0_2 a0_3 a0_4 a0_5 a0_6 a0_7 A0_8 c0_8 l0_8 u _ HR8.out HC8.out HU.out).mono ?_); rintro e w' ⟨v_, rfl, hR_, hb⟩; replace HB := Aside0.mk (below_step HB.out hb); replace BK := Aside0.mk (blk_below BK.out hb); replace BU := Aside0.mk (blk_below BU.out hb); replace BZ := Aside0.mk (blk_below BZ.out hb); replace HR8 := Aside0.mk (Kd.C_below HR8.out hb); replace HR2 := Aside0.mk (Kd.C_below HR2.out hb); obtain ⟨Au, cu, rfl⟩ := Kd.R_slice hR_; clear hb hR_)) | (go_at_call 10; ((with_reducible refine (instr_Right.calls k a0_0 a0_1 a0_2 a0_3 a0_4 a0_5 a0_6 a0_7 A0_8 c0_8 l0_8 true _ HR8.out HC8.out HT.out).mono ?_); rintro e w' ⟨rfl, hb⟩; replace HB := Aside0.mk (below_step HB.out hb); replace BK := Aside0.mk (blk_below BK.out hb); replace BU := Aside0.mk (blk_below BU.out hb); replace BZ := Aside0.mk (blk_below BZ.out hb); replace HR8 := Aside0.mk (Kd.C_below HR8.out hb); replace HR2 := Aside0.mk (Kd.C_below HR2.out hb); clear hb)))) | fail
 have HSZ := Aside0.mk (blk_lt BZ.out)
 go_wp2_with (first | (go_at_call 60; ((with_reducible refine (slices_Clone_int_int.calls A0_8 c0_8 l0_8 l0_8 _ HR8.out HC8.out HCL.out).mono ?_); rintro e w3 ⟨v_, rfl, hR_, hb⟩; obtain ⟨Ac, cc, rfl⟩ := Kd.R_slice hR_; have HRC := Aside0.mk hR_; have HB3 := Aside0.mk hb; replace HB := Aside0.mk (below_step HB.out hb); replace BK := Aside0.mk (blk_below BK.out hb); replace BU := Aside0.mk (blk_below BU.out hb); replace BZ := Aside0.mk (blk_below BZ.out hb); replace HR8 := Aside0.mk (Kd.C_below HR8.out hb); replace HR2 := Aside0.mk (Kd.C_below HR2.out hb); clear hb hR_; have bc0 : w3.cell? ⟨w.heap.size, 0, none⟩ = some (.int .i64 a0_0) := (blk_cell BK.out 0).trans rfl; have bcf0 : w3.frozen? ⟨w.heap.size, 0, none⟩ = false := blk_frozen BK.out 0; have bc1 : w3.cell? ⟨w.heap.size, 1, none⟩ = some (.int .i64 a0_1) := (blk_cell BK.out 1).trans rfl; have bcf1 : w3.frozen? ⟨w.heap.size, 1, none⟩ = false := blk_frozen BK.out 1; have bc2 : w3.cell? ⟨w.heap.size, 2, none⟩ = some (.int .i64 a0_2) := (blk_cell BK.out 2).trans rfl; have bcf2 : w3.frozen? ⟨w.heap.size, 2, none⟩ = false := blk_frozen BK.out 2; have bc3 : w3.cell? ⟨w.heap.size, 3, none⟩ = some (.int .i64 a0_3) := (blk_cell BK.out 3).trans rfl; have bcf3 : w3.frozen? ⟨w.heap.size, 3, none⟩ = false := blk_frozen BK.out 3; have bc4 : w3.cell? ⟨w.heap.size, 4, none⟩ = some (.int .i64 a0_4) := (blk_cell BK.out 4).trans rfl; have bcf4 : w3.frozen? ⟨w.heap.size, 4, none⟩ = false := blk_frozen BK.out 4; have bc5 : w3.cell? ⟨w.heap.size, 5, none⟩ = some (.int .i64 a0_5) := (blk_cell BK.out 5).trans rfl; have bcf5 : w3.frozen? ⟨w.heap.size, 5, none⟩ = false := blk_frozen BK.out 5; have bc6 : w3.cell? ⟨w.heap.size, 6, none⟩ = some (.int .i64 a0_6) := (blk_cell BK.out 6).trans rfl; have bcf6 : w3.frozen? ⟨w.heap.size, 6, none⟩ = false := blk_frozen BK.out 6; have bc7 : w3.cell? ⟨w.heap.size, 7, none⟩ = some (.int .i64 a0_7) := (blk_cell BK.out 7).trans rfl; have bcf7 : w3.frozen? ⟨w.heap.size, 7, none⟩ = false := blk_frozen BK.out 7; have bc8 : w3.cell? ⟨w.heap.size, 8, none⟩ = some (.slice A0_8 l0_8.length c0_8) := (blk_cell BK.out 8).trans rfl; have bcf8 : w3.frozen? ⟨w.heap.size, 8, none⟩ = false := blk_frozen BK.out 8)) | (go_at_call 46; ((with_reducible refine (instr_has.calls a0_0 (hasV a0_0) _ HHAS.out).mono ?_); rintro e w4 ⟨rfl, hb⟩; have BK2 := Aside0.mk (blk_below (blk_set BK.out 8 (.slice Ac l0_8.length cc)) hb); have HBH := Aside0.mk hb; clear hb; have bd0 : w4.cell? ⟨w.heap.size, 0, none⟩ = some (.int .i64 a0_0) := (blk_cell BK2.out 0).trans rfl; have bdf0 : w4.frozen? ⟨w.heap.size, 0, none⟩ = false := blk_frozen BK2.out 0; have bd1 : w4.cell? ⟨w.heap.size, 1, none⟩ = some (.int .i64 a0_1) := (blk_cell BK2.out 1).trans rfl; have bdf1 : w4.frozen? ⟨w.heap.size, 1, none⟩ = false := blk_frozen BK2.out 1; have bd2 : w4.cell? ⟨w.heap.size, 2, none⟩ = some (.int .i64 a0_2) := (blk_cell BK2.out 2).trans rfl; have bdf2 : w4.frozen? ⟨w.heap.size, 2, none⟩ = false := blk_frozen BK2.out 2; have bd3 : w4.cell? ⟨w.heap.size, 3, none⟩ = some (.int .i64 a0_3) := (blk_cell BK2.out 3).trans rfl; have bdf3 : w4.frozen? ⟨w.heap.size, 3, none⟩ = false := blk_frozen BK2.out 3; have bd4 : w4.cell? ⟨w.heap.size, 4, none⟩ = some (.int .i64 a0_4) := (blk_cell BK2.out 4).trans rfl; have bdf4 : w4.frozen? ⟨w.heap.size, 4, none⟩ = false := blk_frozen BK2.out 4; have bd5 : w4.cell? ⟨w.heap.size, 5, none⟩ = some (.int .i64 a0_5) := (blk_cell BK2.out 5).trans rfl; have bdf5 : w4.frozen? ⟨w.heap.size, 5, none⟩ = false := blk_frozen BK2.out 5; have bd6 : w4.cell? ⟨w.heap.size, 6, none⟩ = some (.int .i64 a0_6) := (blk_cell BK2.out 6).trans rfl; have bdf6 : w4.frozen? ⟨w.heap.size, 6, none⟩ = false := blk_frozen BK2.out 6; have bd7 : w4.cell? ⟨w.heap.size, 7, none⟩ = some (.int .i64 a0_7) := (blk_cell BK2.out 7).trans rfl; have bdf7 : w4.frozen? ⟨w.heap.size, 7, none⟩ = false := blk_frozen BK2.out 7; have bd8 : w4.cell? ⟨w.heap.size, 8, none⟩ = some (.slice Ac l0_8.length cc) := (blk_cell BK2.out 8).trans rfl; have bdf8 : w4.frozen? ⟨w.heap.size, 8, none⟩ = false := blk_frozen BK2.out 8)) | (go_at_call 52; ((with_reducible refine (us_reads w.heap.size a0_0 _ ?cc).mono ?_); rotate_left; rintro e w5 ⟨Bh, rfl, hc1, hc2, hlt1, hlt2, hb2⟩; have HC1 := Aside0.mk hc1; have HC2 := Aside0.mk hc2; have HT1 := Aside0.mk hlt1; have HT2_ := Aside0.mk hlt2; have HB5 := Aside0.mk hb2; clear hc1 hc2 hlt1 hlt2 hb2)))
 rotate_left
 case cc => exact blk_cell (blk_alloc (blk_set BK2.out 1 (.int .i64 a1)) (.cells #[.int .i64 0] 3)) 0
 have BK5 := blk_below (blk_alloc (blk_set BK2.out 1 (.int .i64 a1)) (.cells #[.int .i64 0] 3)) HB5.out
 have BKK := blk_below (blk_new (w4.setCell ⟨w.heap.size, 1, none⟩ (.int .i64 a1)) (.cells #[.int .i64 0] 3)) HB5.out
 clear bc0 bcf0 bd0 bdf0 bc1 bcf1 bd1 bdf1 bc2 bcf2 bd2 bdf2 bc3 bcf3 bd3 bdf3 bc4 bcf4 bd4 bdf4 bc5 bcf5 bd5 bdf5 bc6 bcf6 bd6 bdf6 bc7 bcf7 bd7 bdf7 bc8 bcf8 bd8 bdf8
 have z3 : w.heap.size + 3 ≤ w'.heap.size ∧ w'.heap.size ≤ w3.heap.size := by
  have h2 := blk_lt BZ.out
  have h3 := HB3.out.size
  exact ⟨by have := HSZ.out; omega, h3⟩
 have z4 : w3.heap.size ≤ w4.heap.size := by have := HBH.out.size; simpa using this
 have z5 : w4.heap.size + 1 ≤ w5.heap.size := by have := HB5.out.size; simpa using this
 have b34 : Below w.heap.size w (w4.setCell ⟨w.heap.size, 1, none⟩ (.int .i64 a1)) := by
  have h1 := below_step (below_set (j := 8) (v := .slice Ac l0_8.length cc) HB.out (Nat.le_refl _)) HBH.out
  exact below_set h1 (Nat.le_refl _)
 have b5 : Below w.heap.size w w5 := below_step (below_alloc b34 (.cells #[.int .i64 0] 3)) HB5.out
 have BU5 := blk_below (blk_alloc (blk_far (blk_below (blk_far BU.out (p := ⟨w.heap.size, 8, none⟩) (by show w.heap.size + 1 ≠ w.heap.size; omega) _) HBH.out) (p := ⟨w.heap.size, 1, none⟩) (by show w.heap.size + 1 ≠ w.heap.size; omega) _) (.cells #[.int .i64 0] 3)) HB5.out
 have BZ5 := blk_below (blk_alloc (blk_far (blk_below (blk_far BZ.out (p := ⟨w.heap.size, 8, none⟩) (by show w.heap.size + 1 + 1 ≠ w.heap.size; omega) _) HBH.out) (p := ⟨w.heap.size, 1, none⟩) (by show w.heap.size + 1 + 1 ≠ w.heap.size; omega) _) (.cells #[.int .i64 0] 3)) HB5.out
 have HRC5 : (Kd.int .i64).R 3 w5 w'.heap.size (fun _ => True) (.slice Ac l0_8.length cc) l0_8 := by
  have h1 := Kd.R_below (Kd.R_set HRC.out BK.out (by intro q hq; simp [Kd.int, Kd.scalar] at hq; subst hq; decide) 8 (.slice Ac l0_8.length cc)) HBH.out
  have h1 := Kd.R_set h1 BK2.out (by intro q hq; simp [Kd.int, Kd.scalar] at hq; subst hq; decide) 1 (.int .i64 a1)
  exact Kd.R_below (Kd.R_alloc h1 (.cells #[.int .i64 0] 3)) HB5.out
 have own3 : ∀ b, (Value.slice Ac l0_8.length cc).ownBlock = some b → b < w3.heap.size := Kd.R_lt HRC.out
 obtain ⟨g, hg1, hg2, hg3⟩ : ∃ g, (0 < l0_8.length → Ac = some ⟨g, 0, none⟩) ∧ (0 < l0_8.length → w.heap.size + 2 < g) ∧ (0 < l0_8.length → g < w4.heap.size) := by
  rcases Nat.eq_zero_or_pos l0_8.length with h0 | h0
  ·exact ⟨0, fun h => absurd h (by omega), fun h => absurd h (by omega), fun h => absurd h (by omega)⟩
  ·obtain ⟨g, cap, e, hb_, hl_, _⟩ := Kd.R_form HRC.out h0
   injection e with e1 e2 e3
   exact ⟨g, fun _ => e1, fun _ => by omega, fun _ => by omega⟩
 have hc1 := HC1.out
 have hc2 : w5.cell? ⟨w4.heap.size + 1, 0, none⟩ = some (.pointer (some ⟨w.heap.size, 0, none⟩)) := by have := HC2.out; simpa using this
 have hlt1 := HT1.out
 have hlt2 : w4.heap.size + 1 < Bh := by have := HT2_.out; simpa using this
 have hUA : UsAt Bh (w4.heap.size + 1) w.heap.size (hasV a0_0) a0_6 Ac l0_8.length cc w5 := ⟨hc1, hc2, blk_cell BK5 6, blk_cell BK5 8⟩
 obtain ⟨V0, hV0⟩ : ∃ V : Nat → Int, V = fun p => if p = 0 then a0_2 else if p = 1 then a0_3 else if p = 2 then a0_4 else l0_8.getD (p - 3) 0 := ⟨_, rfl⟩
 have hrow0 : (List.range l0_8.length).map (fun j => V0 (3 + j)) = l0_8 := by
  rw [hV0]
  apply List.ext_getElem
  ·simp
  ·intro i h1 h2
   simp only [List.getElem_map, List.getElem_range]
   rw [if_neg (by omega), if_neg (by omega), if_neg (by omega), show 3 + i - 3 = i by omega, List.getD_eq_getElem?_getD, List.getElem?_eq_getElem h2]
   rfl
 have hS0 : WiS w w'.heap.size g w4.heap.size a0_0 a1 a0_5 a0_6 a0_7 Ac l0_8.length cc A2 l2.length c2 V0 0 w5 := by
  refine ⟨?_, BU5, BZ5, ?_, ?_, b5⟩
  ·have e := BK5
   rw [hV0]
   exact e
  ·have e := BKK
   exact (by simpa using e)
  ·rw [hrow0]; exact HRC5
 let Al := { p : Nat // p < 3 + l0_8.length }
 let ad : Al → Addr := fun p => wiAd w.heap.size g p.1
 obtain ⟨xa, hxa⟩ : ∃ x : Al, x.1 = 0 := ⟨⟨0, by omega⟩, rfl⟩
 obtain ⟨xb, hxb⟩ : ∃ x : Al, x.1 = 1 := ⟨⟨1, by omega⟩, rfl⟩
 obtain ⟨xc, hxc⟩ : ∃ x : Al, x.1 = 2 := ⟨⟨2, by omega⟩, rfl⟩
 obtain ⟨xt, hxt⟩ : ∃ xt : List Al, xt.map (·.1) = List.range' 3 l0_8.length := ⟨(List.range' 3 l0_8.length).pmap (fun p h => ⟨p, h⟩) (by intro a ha; simp at ha; omega), by rw [List.map_pmap]; simp⟩
 have hxl : xt.length = l0_8.length := by have := congrArg List.length hxt; simpa using this
 have hxi : ∀ (j : Nat) (hj : j < xt.length), (xt[j]).1 = 3 + j := by
  intro j hj
  have e : (xt.map (·.1))[j]'(by simpa using hj) = (List.range' 3 l0_8.length)[j]'(by simp; omega) := by simp only [hxt]
  simpa using e
 have hsq := us_seq (α := Al) ad 5 (by omega) Bh (w4.heap.size + 1) w.heap.size a0_0 a0_6 Ac l0_8.length cc (by have := HL8.out; omega) xa xb xc (by show wiAd _ _ _ = _; rw [hxa]; rfl) (by show wiAd _ _ _ = _; rw [hxb]; rfl) (by show wiAd _ _ _ = _; rw [hxc]; rfl) xt hxl (by
  intro j hj
  refine ⟨⟨g, 0, none⟩, hg1 (by omega), ?_⟩
  show wiAd _ _ _ = _
  rw [hxi j hj]
  unfold wiAd
  rw [if_neg (by omega)]
  rw [show 3 + j - 3 = j by omega]
  simp [Addr.add])
  w5 hUA hlt1 (by omega) (by omega)
 have hmp : (usL a0_0 a0_6 xa xb xc xt).map (·.1) = (if wiA a0_0 then [0] else []) ++ (if wiB a0_0 a0_6 then [1] else []) ++ (if wiC a0_0 then [2] else []) ++ List.range' 3 l0_8.length := by rw [usL_map, hxt, hxa, hxb, hxc]; rfl
 obtain ⟨XS, hXS⟩ : ∃ l, usL a0_0 a0_6 xa xb xc xt = l := ⟨_, rfl⟩
 rw [hXS] at hsq hmp
 have hXl : XS.length = l2.length := by
  have e1 := congrArg List.length hmp
  have e2 := HUV.out
  have e3 := HNE.out
  simp only [List.length_map] at e1
  rw [← e3, e2, e1]
  unfold usV wiA wiB wiC
  simp only [List.length_append, List.length_range']
  congr 1
  congr 1
  ·congr 1 <;> split <;> rfl
  ·split <;> rfl
 have HX := Aside0.mk hXl
 have HMP := Aside0.mk hmp
 have HRW := Aside0.mk hrow0
 have HV0 := Aside0.mk hV0
 have HS0 := Aside0.mk hS0
 have HG : Aside0 ((0 < l0_8.length → Ac = some ⟨g, 0, none⟩) ∧ (0 < l0_8.length → w.heap.size + 2 < g) ∧ (0 < l0_8.length → g < w4.heap.size) ∧ (∀ b, (Value.slice Ac l0_8.length cc).ownBlock = some b → b < w4.heap.size)) := ⟨⟨hg1, hg2, hg3, fun b hb => Nat.lt_of_lt_of_le (own3 b hb) z4⟩⟩
 have HZ : Aside0 (w.heap.size + 3 ≤ w4.heap.size ∧ w4.heap.size + 1 < Bh ∧ Bh < w5.heap.size) := ⟨⟨by omega, hlt2, hlt1⟩⟩
 clear hXl hmp hrow0 hV0 hS0 hg1 hg2 hg3 own3 hlt1 hlt2 hc1 hc2 hXS hxa hxb hxc hxt hxl hxi BK5 BKK BU5 BZ5 HRC5 b34 hUA
 refine (wpIn_wide (n := 6)).1 ?_
 refine wpIn_rangeFunc_ownG (F := Fence.wide) (n := 6) rfl (by omega) (gf := 62) (lb := #[.pointer (some ⟨Bh, 0, none⟩), .pointer (some ⟨w4.heap.size + 1, 0, none⟩)]) rfl trivial (enters_of Try.func62 (by kernel_rfl) rfl)
  hsq usKp_t (usKp_b (by have := HZ.out; omega) (by have := HZ.out; omega) (by have := HZ.out; omega)) (Below.refl _ _) (fun _ => rfl)
  (fun (pre : List Al) W => WiS w w'.heap.size g w4.heap.size a0_0 a1 a0_5 a0_6 a0_7 Ac l0_8.length cc A2 l2.length c2 (wiVf V0 (pre.map (fun p : Al => p.1)) l2) pre.length W)
  (fun _ _ _ => False)
  (fun (s : List Al) W W' row hs hg_ hr => WiS.grown (V := wiVf V0 (s.map (fun p : Al => p.1)) l2) hs hg_ (fun r e => (hr r e).2) (fun r e => by have := (hr r e).1; have := HZ.out; omega))
  (fun _ _ _ _ _ hs _ _ => hs)
  (by show WiS w w'.heap.size g w4.heap.size a0_0 a1 a0_5 a0_6 a0_7 Ac l0_8.length cc A2 l2.length c2 (wiVf V0 [] l2) 0 w5; exact HS0.out)
  (fun x => { tmps := #[(.agg #[.int .i64 a0_0, .int .i64 a0_1, .int .i64 a0_2, .int .i64 a0_3, .int .i64 a0_4, .int .i64 a0_5, .int .i64 a0_6, .int .i64 a0_7, .slice A0_8 l0_8.length c0_8] : Value), .int .i64 a1, .slice A2 l2.length c2, .pointer (some ⟨w.heap.size, 0, none⟩), undef, .pointer (some ⟨w.heap.size + 1, 0, none⟩), .pointer (some ⟨w.heap.size + 1 + 1, 0, none⟩), .bool false, .pointer (some ⟨w4.heap.size, 0, none⟩), .pointer (some (ad x)), .agg #[.int .i64 a0_0, .int .i64 a0_1, .int .i64 a0_2, .int .i64 a0_3, .int .i64 a0_4, .int .i64 a0_5, .int .i64 a0_6, .int .i64 a0_7, .slice A0_8 l0_8.length c0_8], .slice Au u.length cu, .int .i64 (u.length : Int), .slice A2 l2.length c2, .int .i64 (l2.length : Int), .bool false, .bool false, .agg #[.int .i64 a0_0, .int .i64 a0_1, .int .i64 a0_2, .int .i64 a0_3, .int .i64 a0_4, .int .i64 a0_5, .int .i64 a0_6, .int .i64 a0_7, .slice A0_8 l0_8.length c0_8], .bool true, .bool false, .bool false, undef, .pointer (some ⟨w.heap.size, 8, none⟩), .slice A0_8 l0_8.length c0_8, .slice Ac l0_8.length cc, .pointer (some ⟨w.heap.size, 8, none⟩), .pointer (some ⟨w.heap.size, 0, none⟩), .int .i64 a0_0, .int .i64 (hasV a0_0), .int .i64 (Go.bits .and .i64 (hasV a0_0) 1), .bool true, .int .i64 a1, .pointer (some ⟨w.heap.size, 1, none⟩), .func (.func 62) #[] #[.pointer (some ⟨Bh, 0, none⟩), .pointer (some ⟨w4.heap.size + 1, 0, none⟩)], .pointer (some (ad x)), undef, undef, undef, undef, undef, undef, undef, undef, undef, undef, undef, undef, undef], defers := [] }) ?assign ?body ?done ?stop
 case assign =>
  intro l x W K hK
  gi_wp2
  exact hK
 case body =>
  intro l pre x W hS hlt
  have HSW := Aside0.mk hS
  clear hS
  have hlt2 : pre.length < l2.length := by have := HX.out; omega
  obtain ⟨cx, fx⟩ := HSW.out.at HG.out.1 x.2
  have c1 := blk_cell HSW.out.b1 0
  have ck := blk_cell HSW.out.bk 0
  have fk := blk_frozen HSW.out.bk 0
  simp only [List.getElem?_toArray, List.getElem?_cons_zero, List.getElem?_cons_succ] at c1 ck
  have p1 : (0 : Int) ≤ (pre.length : Int) := by omega
  have p2 : (pre.length : Int) < (l2.length : Int) := by omega
  obtain ⟨q2, hA2, cu2⟩ := Kd.at_int (Kd.C_below HR2W.out HSW.out.bel) (pre.length : Int) p1 (by omega)
  have hput := HSW.out.put HG.out.1 HG.out.2.2.2 HG.out.2.2.1 HG.out.2.1 (by have := HZ.out; omega) x.2 (rd l2 (pre.length : Int))
  have hadk : w4.heap.size ≠ (wiAd w.heap.size g x.1).block := by
   unfold wiAd
   by_cases h3 : x.1 < 3
   ·rw [if_pos h3]; show w4.heap.size ≠ w.heap.size; have := HZ.out; omega
   ·rw [if_neg h3]; show w4.heap.size ≠ g; have := HG.out.2.2.1 (by have := x.2; omega); omega
  have ck2 : ∀ v, (W.setCell (wiAd w.heap.size g x.1) v).cell? ⟨w4.heap.size, 0, none⟩ = some (.int .i64 (pre.length : Int)) := fun v => blk_cell (blk_far HSW.out.bk hadk v) 0
  have fk2 : ∀ v, (W.setCell (wiAd w.heap.size g x.1) v).frozen? ⟨w4.heap.size, 0, none⟩ = false := fun v => blk_frozen (blk_far HSW.out.bk hadk v) 0
  have cx' : W.cell? (ad x) = some (.int .i64 (wiVf V0 (pre.map (·.1)) l2 x.1)) := cx
  have fx' : W.frozen? (ad x) = false := fx
  have ck2' : ∀ v, (W.setCell (ad x) v).cell? ⟨w4.heap.size, 0, none⟩ = some (.int .i64 (pre.length : Int)) := ck2
  have fk2' : ∀ v, (W.setCell (ad x) v).frozen? ⟨w4.heap.size, 0, none⟩ = false := fk2
  have hput' : WiS w w'.heap.size g w4.heap.size a0_0 a1 a0_5 a0_6 a0_7 Ac l0_8.length cc A2 l2.length c2 (fun q => if q = x.1 then rd l2 (pre.length : Int) else wiVf V0 (pre.map (·.1)) l2 q) (pre.length + 1) ((W.setCell (ad x) (.int .i64 (rd l2 (pre.length : Int)))).setCell ⟨w4.heap.size, 0, none⟩ (.int .i64 ((pre.length : Int) + 1))) := hput
  have HP := Aside0.mk hput'
  have HA2 := Aside0.mk hA2
  have HNK : Aside0 (∀ v, UsKp Bh (w4.heap.size + 1) w.heap.size W ((W.setCell (ad x) v).setCell ⟨w4.heap.size, 0, none⟩ (.int .i64 ((pre.length : Int) + 1)))) := ⟨fun v => wi_kp HSW.out x.2 HG.out.2.2.1 HG.out.2.1 (by have := HZ.out; omega) (by have := HZ.out; omega) v _⟩
  clear hput hput' hadk ck2 fk2 cx fx
  subst hA2
  (try simp only [Int.toNat_natCast] at cu2)
  gi_wp2
  refine ⟨((KeepsOthers.setCell _ _ _).trans (KeepsOthers.setCell _ _ _)).from _, HNK.out _, ?_⟩
  have e1 : wiVf V0 ((pre ++ [x]).map (·.1)) l2 = fun q => if q = x.1 then rd l2 (pre.length : Int) else wiVf V0 (pre.map (·.1)) l2 q := by rw [List.map_append, List.map_cons, List.map_nil, wiVf_snoc _ _ _ _ (by simpa using hlt2), List.length_map]
  have e2 : (pre ++ [x]).length = pre.length + 1 := by simp
  show WiS w w'.heap.size g w4.heap.size a0_0 a1 a0_5 a0_6 a0_7 Ac l0_8.length cc (some q2) l2.length c2 (wiVf V0 ((pre ++ [x]).map (fun p : Al => p.1)) l2) (pre ++ [x]).length _
  rw [e1, e2]
  exact HP.out
 case done =>
  rintro Dd ys W hD rfl hS hK
  obtain ⟨Vf, hVf⟩ : ∃ Vf, wiVf V0 (ys.map (·.1)) l2 = Vf := ⟨_, rfl⟩
  have hall := wiVf_all (wiA a0_0) (wiB a0_0 a0_6) (wiC a0_0) l0_8.length V0 l2 (by rw [← HMP.out]; simp [HX.out]) Vf _ _ _ (by rw [← HMP.out]; exact hVf.symm) rfl rfl rfl
  have hS : WiS w w'.heap.size g w4.heap.size a0_0 a1 a0_5 a0_6 a0_7 Ac l0_8.length cc A2 l2.length c2 (wiVf V0 (ys.map (fun p : Al => p.1)) l2) ys.length W := hS
  rw [hVf] at hS
  have hv := HV.out
  simp only [wiV, Prod.mk.injEq] at hv
  have v0 : V0 0 = a0_2 ∧ V0 1 = a0_3 ∧ V0 2 = a0_4 := by rw [HV0.out]; exact ⟨rfl, rfl, rfl⟩
  rw [v0.1, v0.2.1, v0.2.2] at hall
  obtain ⟨ha, hb_, hc_, hl_⟩ := hall
  have va : Vf 0 = pa := ha.trans hv.1
  have vb : Vf 1 = pb := hb_.trans hv.2.1
  have vc : Vf 2 = pc := hc_.trans hv.2.2.1
  have vl : (List.range l0_8.length).map (fun j => Vf (3 + j)) = pl := hl_.trans hv.2.2.2
  obtain ⟨s0, s1, s2, sk, sr, sb⟩ := hS
  rw [va, vb, vc] at s0
  rw [vl] at sr
  have hpl : pl.length = l0_8.length := by rw [← vl]; simp
  obtain ⟨A9, c9, e9, hc9, hr9⟩ := Kd.R_reads sr
  injection e9 with e91 e92 e93
  subst e91 e93
  rw [e92] at s0 sr
  have S0 := Aside0.mk s0
  have S2 := Aside0.mk s2
  have SR := Aside0.mk sr
  have SB := Aside0.mk sb
  have HR9 := Aside0.mk hr9
  have HC9 := Aside0.mk hc9
  have HKK := Aside0.mk hK
  have HD := Aside0.mk hD
  have k0 : W.cell? ⟨w.heap.size, 0, none⟩ = some (.int .i64 a0_0) := blk_cell S0.out 0
  have k1 : W.cell? ⟨w.heap.size, 1, none⟩ = some (.int .i64 a1) := blk_cell S0.out 1
  have k2 : W.cell? ⟨w.heap.size, 2, none⟩ = some (.int .i64 pa) := blk_cell S0.out 2
  have k3 : W.cell? ⟨w.heap.size, 3, none⟩ = some (.int .i64 pb) := blk_cell S0.out 3
  have k4 : W.cell? ⟨w.heap.size, 4, none⟩ = some (.int .i64 pc) := blk_cell S0.out 4
  have k5 : W.cell? ⟨w.heap.size, 5, none⟩ = some (.int .i64 a0_5) := blk_cell S0.out 5
  have k6 : W.cell? ⟨w.heap.size, 6, none⟩ = some (.int .i64 a0_6) := blk_cell S0.out 6
  have k7 : W.cell? ⟨w.heap.size, 7, none⟩ = some (.int .i64 a0_7) := blk_cell S0.out 7
  have k8 : W.cell? ⟨w.heap.size, 8, none⟩ = some (.slice Ac pl.length cc) := blk_cell S0.out 8
  clear s0 s1 s2 sk sr sb hr9 hc9 hK hD ha hb_ hc_ hl_ hv v0 va vb vc vl hpl e92 hS hVf hsq
  cases t2 with
  | false =>
   go_wp2_with (first | (go_at_call 10; ((with_reducible refine (instr_Right.calls k a0_0 a1 pa pb pc a0_5 a0_6 a0_7 Ac cc pl false _ HR9.out HC9.out HT2.out).mono ?_); rintro e w7 ⟨rfl, hb7⟩; have HB7 := Aside0.mk hb7; clear hb7; have m0 := (blk_cell (blk_below S0.out HB7.out) 0); have m1 := (blk_cell (blk_below S0.out HB7.out) 1); have m2 := (blk_cell (blk_below S0.out HB7.out) 2); have m3 := (blk_cell (blk_below S0.out HB7.out) 3); have m4 := (blk_cell (blk_below S0.out HB7.out) 4); have m5 := (blk_cell (blk_below S0.out HB7.out) 5); have m6 := (blk_cell (blk_below S0.out HB7.out) 6); have m7 := (blk_cell (blk_below S0.out HB7.out) 7); have m8 := (blk_cell (blk_below S0.out HB7.out) 8); simp only [List.getElem?_toArray, List.getElem?_cons_zero, List.getElem?_cons_succ] at m0 m1 m2 m3 m4 m5 m6 m7 m8; have r0 := (blk_cell (blk_below S2.out HB7.out) 0); have rf0 := (blk_frozen (blk_below S2.out HB7.out) 0); have r1 := (blk_cell (blk_below S2.out HB7.out) 1); have rf1 := (blk_frozen (blk_below S2.out HB7.out) 1); have r2 := (blk_cell (blk_below S2.out HB7.out) 2); have rf2 := (blk_frozen (blk_below S2.out HB7.out) 2); have r3 := (blk_cell (blk_below S2.out HB7.out) 3); have rf3 := (blk_frozen (blk_below S2.out HB7.out) 3); have r4 := (blk_cell (blk_below S2.out HB7.out) 4); have rf4 := (blk_frozen (blk_below S2.out HB7.out) 4); have r5 := (blk_cell (blk_below S2.out HB7.out) 5); have rf5 := (blk_frozen (blk_below S2.out HB7.out) 5); have r6 := (blk_cell (blk_below S2.out HB7.out) 6); have rf6 := (blk_frozen (blk_below S2.out HB7.out) 6); have r7 := (blk_cell (blk_below S2.out HB7.out) 7); have rf7 := (blk_frozen (blk_below S2.out HB7.out) 7); have r8 := (blk_cell (blk_below S2.out HB7.out) 8); have rf8 := (blk_frozen (blk_below S2.out HB7.out) 8); simp only [List.getElem?_toArray, List.getElem?_cons_zero, List.getElem?_cons_succ] at r0 r1 r2 r3 r4 r5 r6 r7 r8)))
   obtain ⟨f1, f2, f3, f4⟩ := wi_last w W w7 Dd w'.heap.size _ _ _ _ _ _ _ _ _ S2.out SB.out HB7.out HKK.out (by have := HD.out; have := HZ.out; omega) (.int .i64 0) (.int .i64 0) (.int .i64 0) (.int .i64 0) (.int .i64 0) (.int .i64 0) (.int .i64 0) (.int .i64 0) (.slice none 0 0)
   refine ⟨by simp, .inl ⟨_, _, rfl, run_takeDeferred f1, ?_⟩⟩
   refine ⟨_, results_ct rfl _ _ (w.heap.size + 1 + 1) 24 #[.int .i64 0, .int .i64 0, .int .i64 0, .int .i64 0, .int .i64 0, .int .i64 0, .int .i64 0, .int .i64 0, .slice none 0 0] (0, 0) _ rfl f2 hu24 rfl (by kernel_rfl), ?_⟩
   rw [HQ.out]
   exact ⟨_, rfl, Kd.R_nil _ _ _ _ _, f3⟩
  | true =>
   go_wp2_with (first | (go_at_call 10; ((with_reducible refine (instr_Right.calls k a0_0 a1 pa pb pc a0_5 a0_6 a0_7 Ac cc pl true _ HR9.out HC9.out HT2.out).mono ?_); rintro e w7 ⟨rfl, hb7⟩; have HB7 := Aside0.mk hb7; clear hb7; have m0 := (blk_cell (blk_below S0.out HB7.out) 0); have m1 := (blk_cell (blk_below S0.out HB7.out) 1); have m2 := (blk_cell (blk_below S0.out HB7.out) 2); have m3 := (blk_cell (blk_below S0.out HB7.out) 3); have m4 := (blk_cell (blk_below S0.out HB7.out) 4); have m5 := (blk_cell (blk_below S0.out HB7.out) 5); have m6 := (blk_cell (blk_below S0.out HB7.out) 6); have m7 := (blk_cell (blk_below S0.out HB7.out) 7); have m8 := (blk_cell (blk_below S0.out HB7.out) 8); simp only [List.getElem?_toArray, List.getElem?_cons_zero, List.getElem?_cons_succ] at m0 m1 m2 m3 m4 m5 m6 m7 m8; have r0 := (blk_cell (blk_below S2.out HB7.out) 0); have rf0 := (blk_frozen (blk_below S2.out HB7.out) 0); have r1 := (blk_cell (blk_below S2.out HB7.out) 1); have rf1 := (blk_frozen (blk_below S2.out HB7.out) 1); have r2 := (blk_cell (blk_below S2.out HB7.out) 2); have rf2 := (blk_frozen (blk_below S2.out HB7.out) 2); have r3 := (blk_cell (blk_below S2.out HB7.out) 3); have rf3 := (blk_frozen (blk_below S2.out HB7.out) 3); have r4 := (blk_cell (blk_below S2.out HB7.out) 4); have rf4 := (blk_frozen (blk_below S2.out HB7.out) 4); have r5 := (blk_cell (blk_below S2.out HB7.out) 5); have rf5 := (blk_frozen (blk_below S2.out HB7.out) 5); have r6 := (blk_cell (blk_below S2.out HB7.out) 6); have rf6 := (blk_frozen (blk_below S2.out HB7.out) 6); have r7 := (blk_cell (blk_below S2.out HB7.out) 7); have rf7 := (blk_frozen (blk_below S2.out HB7.out) 7); have r8 := (blk_cell (blk_below S2.out HB7.out) 8); have rf8 := (blk_frozen (blk_below S2.out HB7.out) 8); simp only [List.getElem?_toArray, List.getElem?_cons_zero, List.getElem?_cons_succ] at r0 r1 r2 r3 r4 r5 r6 r7 r8)))
   obtain ⟨f1, f2, f3, f4⟩ := wi_last w W w7 Dd w'.heap.size _ _ _ _ _ _ _ _ _ S2.out SB.out HB7.out HKK.out (by have := HD.out; have := HZ.out; omega) (.int .i64 a0_0) (.int .i64 a1) (.int .i64 pa) (.int .i64 pb) (.int .i64 pc) (.int .i64 a0_5) (.int .i64 a0_6) (.int .i64 a0_7) (.slice Ac pl.length cc)
   refine ⟨by simp, .inl ⟨_, _, rfl, run_takeDeferred f1, ?_⟩⟩
   refine ⟨_, results_ct rfl _ _ (w.heap.size + 1 + 1) 24 #[.int .i64 a0_0, .int .i64 a1, .int .i64 pa, .int .i64 pb, .int .i64 pc, .int .i64 a0_5, .int .i64 a0_6, .int .i64 a0_7, .slice Ac pl.length cc] (0, 0) _ rfl f2 hu24 rfl (by kernel_rfl), ?_⟩
   rw [HQ.out]
   exact ⟨_, rfl, f4 _ _ SR.out (by have := z3; omega), f3⟩
 case stop =>
  rintro D c pre W _ _ h _
  exact h.elim
end
section
attribute [local go_sem] Oper.semAt_some
set_option maxHeartbeats 8000000 in
set_option maxRecDepth 100000 in
theorem wi_yes0 (k : Nat) (a0_0 a0_1 a0_2 a0_3 a0_4 a0_5 a0_6 a0_7 : Int) (A0_8 : Option Addr) (c0_8 : Nat) (l0_8 : List Int) (a1 : Int) (A2 : Option Addr) (c2 : Nat) (l2 : List Int) (w : World) (hr0_8 : Kd.C (Kd.int .i64) w A0_8 l0_8.length l0_8) (hc0_8 : l0_8.length ≤ c0_8) (hr2 : Kd.C (Kd.int .i64) w A2 l2.length l2) (hc2 : l2.length ≤ c2) (u : List Int)
  (hu : instr_Uses.f k a0_0 a0_1 a0_2 a0_3 a0_4 a0_5 a0_6 a0_7 l0_8 = some u) (ht : instr_Right.f k a0_0 a0_1 a0_2 a0_3 a0_4 a0_5 a0_6 a0_7 l0_8 = some true) (hl1 : u.length < 1099511627776) (hl2 : l2.length < 1099511627776) (hl8 : l0_8.length < 1099511627776) (hne : u.length = l2.length) (huv : u.length = (usV a0_0 a0_2 a0_3 a0_4 a0_6 l0_8).length) (hd : (Go.bits .and .i64 (hasV a0_0) 1 != 0) = false)
  (pa pb pc : Int) (pl : List Int) (hV : wiV a0_0 a0_2 a0_3 a0_4 a0_6 l2 = (pa, pb, pc, pl)) (t2 : Bool) (hT2 : instr_Right.f k a0_0 a0_1 pa pb pc a0_5 a0_6 a0_7 pl = some t2) :
  Calls Try.prog 44 #[.agg #[.int .i64 a0_0, .int .i64 a0_1, .int .i64 a0_2, .int .i64 a0_3, .int .i64 a0_4, .int .i64 a0_5, .int .i64 a0_6, .int .i64 a0_7, .slice A0_8 l0_8.length c0_8], .int .i64 a1, .slice A2 l2.length c2] w (if t2 = true then WiPost w a0_0 a0_1 pa pb pc a0_5 a0_6 a0_7 pl true else WiPost w 0 0 0 0 0 0 0 0 [] false) := by
 have hu24 := Try.underlying24
 have hb1 := below_alloc (below_alloc (below_alloc (Below.refl w.heap.size w) (.cells #[.int .i64 a0_0, .int .i64 a0_1, .int .i64 a0_2, .int .i64 a0_3, .int .i64 a0_4, .int .i64 a0_5, .int .i64 a0_6, .int .i64 a0_7, .slice A0_8 l0_8.length c0_8] 24)) (.cells #[.slice A2 l2.length c2] 22)) (.cells #[.int .i64 0, .int .i64 0, .int .i64 0, .int .i64 0, .int .i64 0, .int .i64 0, .int .i64 0, .int .i64 0, .slice none 0 0] 24)
 have HR8 := Aside0.mk (Kd.C_below hr0_8 hb1)
 have HR2 := Aside0.mk (Kd.C_below hr2 hb1)
 have HC8 := Aside0.mk hc0_8
 have HC2 := Aside0.mk hc2
 have HB := Aside0.mk hb1
 have BK := Aside0.mk (blk_alloc (blk_alloc (blk_new w (.cells #[.int .i64 a0_0, .int .i64 a0_1, .int .i64 a0_2, .int .i64 a0_3, .int .i64 a0_4, .int .i64 a0_5, .int .i64 a0_6, .int .i64 a0_7, .slice A0_8 l0_8.length c0_8] 24)) (.cells #[.slice A2 l2.length c2] 22)) (.cells #[.int .i64 0, .int .i64 0, .int .i64 0, .int .i64 0, .int .i64 0, .int .i64 0, .int .i64 0, .int .i64 0, .slice none 0 0] 24))
 have bu := blk_alloc (blk_new (w.alloc (.cells #[.int .i64 a0_0, .int .i64 a0_1, .int .i64 a0_2, .int .i64 a0_3, .int .i64 a0_4, .int .i64 a0_5, .int .i64 a0_6, .int .i64 a0_7, .slice A0_8 l0_8.length c0_8] 24)) (.cells #[.slice A2 l2.length c2] 22)) (.cells #[.int .i64 0, .int .i64 0, .int .i64 0, .int .i64 0, .int .i64 0, .int .i64 0, .int .i64 0, .int .i64 0, .slice none 0 0] 24)
 rw [World.size_alloc] at bu
 have BU := Aside0.mk bu
 have bz := blk_new ((w.alloc (.cells #[.int .i64 a0_0, .int .i64 a0_1, .int .i64 a0_2, .int .i64 a0_3, .int .i64 a0_4, .int .i64 a0_5, .int .i64 a0_6, .int .i64 a0_7, .slice A0_8 l0_8.length c0_8] 24)).alloc (.cells #[.slice A2 l2.length c2] 22)) (.cells #[.int .i64 0, .int .i64 0, .int .i64 0, .int .i64 0, .int .i64 0, .int .i64 0, .int .i64 0, .int .i64 0, .slice none 0 0] 24)
 rw [World.size_alloc, World.size_alloc] at bz
 have BZ := Aside0.mk bz
 have HU := Aside0.mk hu
 have HT := Aside0.mk ht
 have HR2W := Aside0.mk hr2
 clear hr0_8 hr2 hc0_8 hc2 hb1 hu ht bu bz
 have hcl : slices_Clone_int_int.f l0_8 = some l0_8 := if_pos (by omega)
 have hhas : instr_has.f a0_0 = some (hasV a0_0) := rfl
 have t1 : ((u.length : Int) != (l2.length : Int)) = false := by rw [hne]; simp
 have t2_ : (u.length != l2.length) = false := by rw [hne]; simp
 have HCL := Aside0.mk hcl
 have HHAS := Aside0.mk hhas
 have HL8 := Aside0.mk hl8
 have HUV := Aside0.mk huv
 have HNE := Aside0.mk hne
 have HV := Aside0.mk hV
 have HT2 := Aside0.mk hT2
 clear hcl hhas hne hl8 huv hV hT2
 obtain ⟨PQ, hQ⟩ : ∃ PQ, PQ = (if t2 = true then WiPost w a0_0 a0_1 pa pb pc a0_5 a0_6 a0_7 pl true else WiPost w 0 0 0 0 0 0 0 0 [] false) := ⟨_, rfl⟩
 rw [← hQ]
 have HQ := Aside0.mk hQ
 clear hQ
 refine callsIn_wide.1 (callsIn_of_wp_marks (F := Fence.wide) (n := 6) Try.func44 rfl trivial ?_ rfl)
 simp only [Try.ntmps44, List.size_toArray, List.length_cons, List.length_nil, Nat.reduceAdd, Nat.reduceSub, Array.replicate_succ, Array.replicate_zero, List.push_toArray, List.append_toArray, List.nil_append, List.cons_append]
 refine wpIn_wide.2 ?_
 go_upto_region 1 with (fail)
 replace HR8 := Aside0.mk (Kd.C_drew HR8.out)
 replace HR2 := Aside0.mk (Kd.C_drew HR2.out)
 replace HB := Aside0.mk (below_drew1 HB.out)
 replace BK := Aside0.mk (blk_drew BK.out)
 replace BU := Aside0.mk (blk_drew BU.out)
 replace BZ := Aside0.mk (blk_drew BZ.out)
 first | (go_region_held3 (fun w' => w'.cell? ⟨w.heap.size, 0, none⟩ = some (.int .i64 a0_0) ∧ w'.cell? ⟨w.heap.size, 1, none⟩ = some (.int .i64 a0_1) ∧ w'.cell? ⟨w.heap.size, 2, none⟩ = some (.int .i64 a0_2) ∧ w'.cell? ⟨w.heap.size, 3, none⟩ = some (.int .i64 a0_3) ∧ w'.cell? ⟨w.heap.size, 4, none⟩ = some (.int .i64 a0_4) ∧ w'.cell? ⟨w.heap.size, 5, none⟩ = some (.int .i64 a0_5) ∧ w'.cell? ⟨w.heap.size, 6, none⟩ = some (.int .i64 a0_6) ∧ w'.cell? ⟨w.heap.size, 7, none⟩ = some (.int .i64 a0_7) ∧ w'.cell? ⟨w.heap.size, 8, none⟩ = some (.slice A0_8 l0_8.length c0_8) ∧ w'.cell? ⟨w.heap.size + 1, 0, none⟩ = some (.slice A2 l2.length c2)) (exact ⟨(blk_cell BK.out 0).trans rfl, (blk_cell BK.out 1).trans rfl, (blk_cell BK.out 2).trans rfl, (blk_cell BK.out 3).trans rfl, (blk_cell BK.out 4).trans rfl, (blk_cell BK.out 5).trans rfl, (blk_cell BK.out 6).trans rfl, (blk_cell BK.out 7).trans rfl, (blk_cell BK.out 8).trans rfl, (blk_cell BU.out 0).trans rfl⟩) (first | (go_at_call 15; ((with_reducible refine (instr_Uses.calls k a0_0 a0_1 a0_2 a0_3 a0_4 a0_5 a0_6 a0_7 A0_8 c0_8 l0_8 u _ HR8.out HC8.out HU.out).mono ?_); rintro e w' ⟨v_, rfl, hR_, hb⟩; replace HB := Aside0.mk (below_step HB.out hb); replace BK := Aside0.mk (blk_below BK.out hb); replace BU := Aside0.mk (blk_below BU.out hb); replace BZ := Aside0.mk (blk_below BZ.out hb); replace HR8 := Aside0.mk (Kd.C_below HR8.out hb); replace HR2 := Aside0.mk (Kd.C_below HR2.out hb); obtain ⟨Au, cu, rfl⟩ := Kd.R_slice hR_; clear hb hR_)) | (go_at_call 10; ((with_reducible refine (instr_Right.calls k a0_0 a0_1 a0_2 a0_3 a0_4 a0_5 a0_6 a0_7 A0_8 c0_8 l0_8 true _ HR8.out HC8.out HT.out).mono ?_); rintro e w' ⟨rfl, hb⟩; replace HB := Aside0.mk (below_step HB.out hb); replace BK := Aside0.mk (blk_below BK.out hb); replace BU := Aside0.mk (blk_below BU.out hb); replace BZ := Aside0.mk (blk_below BZ.out hb); replace HR8 := Aside0.mk (Kd.C_below HR8.out hb); replace HR2 := Aside0.mk (Kd.C_below HR2.out hb); clear hb)))) | fail
 have HSZ := Aside0.mk (blk_lt BZ.out)
 go_wp2_with (first | (go_at_call 60; ((with_reducible refine (slices_Clone_int_int.calls A0_8 c0_8 l0_8 l0_8 _ HR8.out HC8.out HCL.out).mono ?_); rintro e w3 ⟨v_, rfl, hR_, hb⟩; obtain ⟨Ac, cc, rfl⟩ := Kd.R_slice hR_; have HRC := Aside0.mk hR_; have HB3 := Aside0.mk hb; replace HB := Aside0.mk (below_step HB.out hb); replace BK := Aside0.mk (blk_below BK.out hb); replace BU := Aside0.mk (blk_below BU.out hb); replace BZ := Aside0.mk (blk_below BZ.out hb); replace HR8 := Aside0.mk (Kd.C_below HR8.out hb); replace HR2 := Aside0.mk (Kd.C_below HR2.out hb); clear hb hR_; have bc0 : w3.cell? ⟨w.heap.size, 0, none⟩ = some (.int .i64 a0_0) := (blk_cell BK.out 0).trans rfl; have bcf0 : w3.frozen? ⟨w.heap.size, 0, none⟩ = false := blk_frozen BK.out 0; have bc1 : w3.cell? ⟨w.heap.size, 1, none⟩ = some (.int .i64 a0_1) := (blk_cell BK.out 1).trans rfl; have bcf1 : w3.frozen? ⟨w.heap.size, 1, none⟩ = false := blk_frozen BK.out 1; have bc2 : w3.cell? ⟨w.heap.size, 2, none⟩ = some (.int .i64 a0_2) := (blk_cell BK.out 2).trans rfl; have bcf2 : w3.frozen? ⟨w.heap.size, 2, none⟩ = false := blk_frozen BK.out 2; have bc3 : w3.cell? ⟨w.heap.size, 3, none⟩ = some (.int .i64 a0_3) := (blk_cell BK.out 3).trans rfl; have bcf3 : w3.frozen? ⟨w.heap.size, 3, none⟩ = false := blk_frozen BK.out 3; have bc4 : w3.cell? ⟨w.heap.size, 4, none⟩ = some (.int .i64 a0_4) := (blk_cell BK.out 4).trans rfl; have bcf4 : w3.frozen? ⟨w.heap.size, 4, none⟩ = false := blk_frozen BK.out 4; have bc5 : w3.cell? ⟨w.heap.size, 5, none⟩ = some (.int .i64 a0_5) := (blk_cell BK.out 5).trans rfl; have bcf5 : w3.frozen? ⟨w.heap.size, 5, none⟩ = false := blk_frozen BK.out 5; have bc6 : w3.cell? ⟨w.heap.size, 6, none⟩ = some (.int .i64 a0_6) := (blk_cell BK.out 6).trans rfl; have bcf6 : w3.frozen? ⟨w.heap.size, 6, none⟩ = false := blk_frozen BK.out 6; have bc7 : w3.cell? ⟨w.heap.size, 7, none⟩ = some (.int .i64 a0_7) := (blk_cell BK.out 7).trans rfl; have bcf7 : w3.frozen? ⟨w.heap.size, 7, none⟩ = false := blk_frozen BK.out 7; have bc8 : w3.cell? ⟨w.heap.size, 8, none⟩ = some (.slice A0_8 l0_8.length c0_8) := (blk_cell BK.out 8).trans rfl; have bcf8 : w3.frozen? ⟨w.heap.size, 8, none⟩ = false := blk_frozen BK.out 8)) | (go_at_call 46; ((with_reducible refine (instr_has.calls a0_0 (hasV a0_0) _ HHAS.out).mono ?_); rintro e w4 ⟨rfl, hb⟩; have BK2 := Aside0.mk (blk_below (blk_set BK.out 8 (.slice Ac l0_8.length cc)) hb); have HBH := Aside0.mk hb; clear hb; have bd0 : w4.cell? ⟨w.heap.size, 0, none⟩ = some (.int .i64 a0_0) := (blk_cell BK2.out 0).trans rfl; have bdf0 : w4.frozen? ⟨w.heap.size, 0, none⟩ = false := blk_frozen BK2.out 0; have bd1 : w4.cell? ⟨w.heap.size, 1, none⟩ = some (.int .i64 a0_1) := (blk_cell BK2.out 1).trans rfl; have bdf1 : w4.frozen? ⟨w.heap.size, 1, none⟩ = false := blk_frozen BK2.out 1; have bd2 : w4.cell? ⟨w.heap.size, 2, none⟩ = some (.int .i64 a0_2) := (blk_cell BK2.out 2).trans rfl; have bdf2 : w4.frozen? ⟨w.heap.size, 2, none⟩ = false := blk_frozen BK2.out 2; have bd3 : w4.cell? ⟨w.heap.size, 3, none⟩ = some (.int .i64 a0_3) := (blk_cell BK2.out 3).trans rfl; have bdf3 : w4.frozen? ⟨w.heap.size, 3, none⟩ = false := blk_frozen BK2.out 3; have bd4 : w4.cell? ⟨w.heap.size, 4, none⟩ = some (.int .i64 a0_4) := (blk_cell BK2.out 4).trans rfl; have bdf4 : w4.frozen? ⟨w.heap.size, 4, none⟩ = false := blk_frozen BK2.out 4; have bd5 : w4.cell? ⟨w.heap.size, 5, none⟩ = some (.int .i64 a0_5) := (blk_cell BK2.out 5).trans rfl; have bdf5 : w4.frozen? ⟨w.heap.size, 5, none⟩ = false := blk_frozen BK2.out 5; have bd6 : w4.cell? ⟨w.heap.size, 6, none⟩ = some (.int .i64 a0_6) := (blk_cell BK2.out 6).trans rfl; have bdf6 : w4.frozen? ⟨w.heap.size, 6, none⟩ = false := blk_frozen BK2.out 6; have bd7 : w4.cell? ⟨w.heap.size, 7, none⟩ = some (.int .i64 a0_7) := (blk_cell BK2.out 7).trans rfl; have bdf7 : w4.frozen? ⟨w.heap.size, 7, none⟩ = false := blk_frozen BK2.out 7; have bd8 : w4.cell? ⟨w.heap.size, 8, none⟩ = some (.slice Ac l0_8.length cc) := (blk_cell BK2.out 8).trans rfl; have bdf8 : w4.frozen? ⟨w.heap.size, 8, none⟩ = false := blk_frozen BK2.out 8)) | (go_at_call 52; ((with_reducible refine (us_reads w.heap.size a0_0 _ ?cc).mono ?_); rotate_left; rintro e w5 ⟨Bh, rfl, hc1, hc2, hlt1, hlt2, hb2⟩; have HC1 := Aside0.mk hc1; have HC2 := Aside0.mk hc2; have HT1 := Aside0.mk hlt1; have HT2_ := Aside0.mk hlt2; have HB5 := Aside0.mk hb2; clear hc1 hc2 hlt1 hlt2 hb2)))
 rotate_left
 case cc => exact blk_cell (blk_alloc BK2.out (.cells #[.int .i64 0] 3)) 0
 have BK5 := blk_below (blk_alloc BK2.out (.cells #[.int .i64 0] 3)) HB5.out
 have BKK := blk_below (blk_new w4 (.cells #[.int .i64 0] 3)) HB5.out
 clear bc0 bcf0 bd0 bdf0 bc1 bcf1 bd1 bdf1 bc2 bcf2 bd2 bdf2 bc3 bcf3 bd3 bdf3 bc4 bcf4 bd4 bdf4 bc5 bcf5 bd5 bdf5 bc6 bcf6 bd6 bdf6 bc7 bcf7 bd7 bdf7 bc8 bcf8 bd8 bdf8
 have z3 : w.heap.size + 3 ≤ w'.heap.size ∧ w'.heap.size ≤ w3.heap.size := by
  have h2 := blk_lt BZ.out
  have h3 := HB3.out.size
  exact ⟨by have := HSZ.out; omega, h3⟩
 have z4 : w3.heap.size ≤ w4.heap.size := by have := HBH.out.size; simpa using this
 have z5 : w4.heap.size + 1 ≤ w5.heap.size := by have := HB5.out.size; simpa using this
 have b34 : Below w.heap.size w w4 := by
  have h1 := below_step (below_set (j := 8) (v := .slice Ac l0_8.length cc) HB.out (Nat.le_refl _)) HBH.out
  exact h1
 have b5 : Below w.heap.size w w5 := below_step (below_alloc b34 (.cells #[.int .i64 0] 3)) HB5.out
 have BU5 := blk_below (blk_alloc (blk_below (blk_far BU.out (p := ⟨w.heap.size, 8, none⟩) (by show w.heap.size + 1 ≠ w.heap.size; omega) _) HBH.out) (.cells #[.int .i64 0] 3)) HB5.out
 have BZ5 := blk_below (blk_alloc (blk_below (blk_far BZ.out (p := ⟨w.heap.size, 8, none⟩) (by show w.heap.size + 1 + 1 ≠ w.heap.size; omega) _) HBH.out) (.cells #[.int .i64 0] 3)) HB5.out
 have HRC5 : (Kd.int .i64).R 3 w5 w'.heap.size (fun _ => True) (.slice Ac l0_8.length cc) l0_8 := by
  have h1 := Kd.R_below (Kd.R_set HRC.out BK.out (by intro q hq; simp [Kd.int, Kd.scalar] at hq; subst hq; decide) 8 (.slice Ac l0_8.length cc)) HBH.out
  exact Kd.R_below (Kd.R_alloc h1 (.cells #[.int .i64 0] 3)) HB5.out
 have own3 : ∀ b, (Value.slice Ac l0_8.length cc).ownBlock = some b → b < w3.heap.size := Kd.R_lt HRC.out
 obtain ⟨g, hg1, hg2, hg3⟩ : ∃ g, (0 < l0_8.length → Ac = some ⟨g, 0, none⟩) ∧ (0 < l0_8.length → w.heap.size + 2 < g) ∧ (0 < l0_8.length → g < w4.heap.size) := by
  rcases Nat.eq_zero_or_pos l0_8.length with h0 | h0
  ·exact ⟨0, fun h => absurd h (by omega), fun h => absurd h (by omega), fun h => absurd h (by omega)⟩
  ·obtain ⟨g, cap, e, hb_, hl_, _⟩ := Kd.R_form HRC.out h0
   injection e with e1 e2 e3
   exact ⟨g, fun _ => e1, fun _ => by omega, fun _ => by omega⟩
 have hc1 := HC1.out
 have hc2 : w5.cell? ⟨w4.heap.size + 1, 0, none⟩ = some (.pointer (some ⟨w.heap.size, 0, none⟩)) := by have := HC2.out; simpa using this
 have hlt1 := HT1.out
 have hlt2 : w4.heap.size + 1 < Bh := by have := HT2_.out; simpa using this
 have hUA : UsAt Bh (w4.heap.size + 1) w.heap.size (hasV a0_0) a0_6 Ac l0_8.length cc w5 := ⟨hc1, hc2, blk_cell BK5 6, blk_cell BK5 8⟩
 obtain ⟨V0, hV0⟩ : ∃ V : Nat → Int, V = fun p => if p = 0 then a0_2 else if p = 1 then a0_3 else if p = 2 then a0_4 else l0_8.getD (p - 3) 0 := ⟨_, rfl⟩
 have hrow0 : (List.range l0_8.length).map (fun j => V0 (3 + j)) = l0_8 := by
  rw [hV0]
  apply List.ext_getElem
  ·simp
  ·intro i h1 h2
   simp only [List.getElem_map, List.getElem_range]
   rw [if_neg (by omega), if_neg (by omega), if_neg (by omega), show 3 + i - 3 = i by omega, List.getD_eq_getElem?_getD, List.getElem?_eq_getElem h2]
   rfl
 have hS0 : WiS w w'.heap.size g w4.heap.size a0_0 a0_1 a0_5 a0_6 a0_7 Ac l0_8.length cc A2 l2.length c2 V0 0 w5 := by
  refine ⟨?_, BU5, BZ5, ?_, ?_, b5⟩
  ·have e := BK5
   rw [hV0]
   exact e
  ·have e := BKK
   exact (by simpa using e)
  ·rw [hrow0]; exact HRC5
 let Al := { p : Nat // p < 3 + l0_8.length }
 let ad : Al → Addr := fun p => wiAd w.heap.size g p.1
 obtain ⟨xa, hxa⟩ : ∃ x : Al, x.1 = 0 := ⟨⟨0, by omega⟩, rfl⟩
 obtain ⟨xb, hxb⟩ : ∃ x : Al, x.1 = 1 := ⟨⟨1, by omega⟩, rfl⟩
 obtain ⟨xc, hxc⟩ : ∃ x : Al, x.1 = 2 := ⟨⟨2, by omega⟩, rfl⟩
 obtain ⟨xt, hxt⟩ : ∃ xt : List Al, xt.map (·.1) = List.range' 3 l0_8.length := ⟨(List.range' 3 l0_8.length).pmap (fun p h => ⟨p, h⟩) (by intro a ha; simp at ha; omega), by rw [List.map_pmap]; simp⟩
 have hxl : xt.length = l0_8.length := by have := congrArg List.length hxt; simpa using this
 have hxi : ∀ (j : Nat) (hj : j < xt.length), (xt[j]).1 = 3 + j := by
  intro j hj
  have e : (xt.map (·.1))[j]'(by simpa using hj) = (List.range' 3 l0_8.length)[j]'(by simp; omega) := by simp only [hxt]
  simpa using e
 have hsq := us_seq (α := Al) ad 5 (by omega) Bh (w4.heap.size + 1) w.heap.size a0_0 a0_6 Ac l0_8.length cc (by have := HL8.out; omega) xa xb xc (by show wiAd _ _ _ = _; rw [hxa]; rfl) (by show wiAd _ _ _ = _; rw [hxb]; rfl) (by show wiAd _ _ _ = _; rw [hxc]; rfl) xt hxl (by
  intro j hj
  refine ⟨⟨g, 0, none⟩, hg1 (by omega), ?_⟩
  show wiAd _ _ _ = _
  rw [hxi j hj]
  unfold wiAd
  rw [if_neg (by omega)]
  rw [show 3 + j - 3 = j by omega]
  simp [Addr.add])
  w5 hUA hlt1 (by omega) (by omega)
 have hmp : (usL a0_0 a0_6 xa xb xc xt).map (·.1) = (if wiA a0_0 then [0] else []) ++ (if wiB a0_0 a0_6 then [1] else []) ++ (if wiC a0_0 then [2] else []) ++ List.range' 3 l0_8.length := by rw [usL_map, hxt, hxa, hxb, hxc]; rfl
 obtain ⟨XS, hXS⟩ : ∃ l, usL a0_0 a0_6 xa xb xc xt = l := ⟨_, rfl⟩
 rw [hXS] at hsq hmp
 have hXl : XS.length = l2.length := by
  have e1 := congrArg List.length hmp
  have e2 := HUV.out
  have e3 := HNE.out
  simp only [List.length_map] at e1
  rw [← e3, e2, e1]
  unfold usV wiA wiB wiC
  simp only [List.length_append, List.length_range']
  congr 1
  congr 1
  ·congr 1 <;> split <;> rfl
  ·split <;> rfl
 have HX := Aside0.mk hXl
 have HMP := Aside0.mk hmp
 have HRW := Aside0.mk hrow0
 have HV0 := Aside0.mk hV0
 have HS0 := Aside0.mk hS0
 have HG : Aside0 ((0 < l0_8.length → Ac = some ⟨g, 0, none⟩) ∧ (0 < l0_8.length → w.heap.size + 2 < g) ∧ (0 < l0_8.length → g < w4.heap.size) ∧ (∀ b, (Value.slice Ac l0_8.length cc).ownBlock = some b → b < w4.heap.size)) := ⟨⟨hg1, hg2, hg3, fun b hb => Nat.lt_of_lt_of_le (own3 b hb) z4⟩⟩
 have HZ : Aside0 (w.heap.size + 3 ≤ w4.heap.size ∧ w4.heap.size + 1 < Bh ∧ Bh < w5.heap.size) := ⟨⟨by omega, hlt2, hlt1⟩⟩
 clear hXl hmp hrow0 hV0 hS0 hg1 hg2 hg3 own3 hlt1 hlt2 hc1 hc2 hXS hxa hxb hxc hxt hxl hxi BK5 BKK BU5 BZ5 HRC5 b34 hUA
 refine (wpIn_wide (n := 6)).1 ?_
 refine wpIn_rangeFunc_ownG (F := Fence.wide) (n := 6) rfl (by omega) (gf := 62) (lb := #[.pointer (some ⟨Bh, 0, none⟩), .pointer (some ⟨w4.heap.size + 1, 0, none⟩)]) rfl trivial (enters_of Try.func62 (by kernel_rfl) rfl)
  hsq usKp_t (usKp_b (by have := HZ.out; omega) (by have := HZ.out; omega) (by have := HZ.out; omega)) (Below.refl _ _) (fun _ => rfl)
  (fun (pre : List Al) W => WiS w w'.heap.size g w4.heap.size a0_0 a0_1 a0_5 a0_6 a0_7 Ac l0_8.length cc A2 l2.length c2 (wiVf V0 (pre.map (fun p : Al => p.1)) l2) pre.length W)
  (fun _ _ _ => False)
  (fun (s : List Al) W W' row hs hg_ hr => WiS.grown (V := wiVf V0 (s.map (fun p : Al => p.1)) l2) hs hg_ (fun r e => (hr r e).2) (fun r e => by have := (hr r e).1; have := HZ.out; omega))
  (fun _ _ _ _ _ hs _ _ => hs)
  (by show WiS w w'.heap.size g w4.heap.size a0_0 a0_1 a0_5 a0_6 a0_7 Ac l0_8.length cc A2 l2.length c2 (wiVf V0 [] l2) 0 w5; exact HS0.out)
  (fun x => { tmps := #[(.agg #[.int .i64 a0_0, .int .i64 a0_1, .int .i64 a0_2, .int .i64 a0_3, .int .i64 a0_4, .int .i64 a0_5, .int .i64 a0_6, .int .i64 a0_7, .slice A0_8 l0_8.length c0_8] : Value), .int .i64 a1, .slice A2 l2.length c2, .pointer (some ⟨w.heap.size, 0, none⟩), undef, .pointer (some ⟨w.heap.size + 1, 0, none⟩), .pointer (some ⟨w.heap.size + 1 + 1, 0, none⟩), .bool false, .pointer (some ⟨w4.heap.size, 0, none⟩), .pointer (some (ad x)), .agg #[.int .i64 a0_0, .int .i64 a0_1, .int .i64 a0_2, .int .i64 a0_3, .int .i64 a0_4, .int .i64 a0_5, .int .i64 a0_6, .int .i64 a0_7, .slice A0_8 l0_8.length c0_8], .slice Au u.length cu, .int .i64 (u.length : Int), .slice A2 l2.length c2, .int .i64 (l2.length : Int), .bool false, .bool false, .agg #[.int .i64 a0_0, .int .i64 a0_1, .int .i64 a0_2, .int .i64 a0_3, .int .i64 a0_4, .int .i64 a0_5, .int .i64 a0_6, .int .i64 a0_7, .slice A0_8 l0_8.length c0_8], .bool true, .bool false, .bool false, undef, .pointer (some ⟨w.heap.size, 8, none⟩), .slice A0_8 l0_8.length c0_8, .slice Ac l0_8.length cc, .pointer (some ⟨w.heap.size, 8, none⟩), .pointer (some ⟨w.heap.size, 0, none⟩), .int .i64 a0_0, .int .i64 (hasV a0_0), .int .i64 (Go.bits .and .i64 (hasV a0_0) 1), .bool false, undef, undef, .func (.func 62) #[] #[.pointer (some ⟨Bh, 0, none⟩), .pointer (some ⟨w4.heap.size + 1, 0, none⟩)], .pointer (some (ad x)), undef, undef, undef, undef, undef, undef, undef, undef, undef, undef, undef, undef, undef], defers := [] }) ?assign ?body ?done ?stop
 case assign =>
  intro l x W K hK
  gi_wp2
  exact hK
 case body =>
  intro l pre x W hS hlt
  have HSW := Aside0.mk hS
  clear hS
  have hlt2 : pre.length < l2.length := by have := HX.out; omega
  obtain ⟨cx, fx⟩ := HSW.out.at HG.out.1 x.2
  have c1 := blk_cell HSW.out.b1 0
  have ck := blk_cell HSW.out.bk 0
  have fk := blk_frozen HSW.out.bk 0
  simp only [List.getElem?_toArray, List.getElem?_cons_zero, List.getElem?_cons_succ] at c1 ck
  have p1 : (0 : Int) ≤ (pre.length : Int) := by omega
  have p2 : (pre.length : Int) < (l2.length : Int) := by omega
  obtain ⟨q2, hA2, cu2⟩ := Kd.at_int (Kd.C_below HR2W.out HSW.out.bel) (pre.length : Int) p1 (by omega)
  have hput := HSW.out.put HG.out.1 HG.out.2.2.2 HG.out.2.2.1 HG.out.2.1 (by have := HZ.out; omega) x.2 (rd l2 (pre.length : Int))
  have hadk : w4.heap.size ≠ (wiAd w.heap.size g x.1).block := by
   unfold wiAd
   by_cases h3 : x.1 < 3
   ·rw [if_pos h3]; show w4.heap.size ≠ w.heap.size; have := HZ.out; omega
   ·rw [if_neg h3]; show w4.heap.size ≠ g; have := HG.out.2.2.1 (by have := x.2; omega); omega
  have ck2 : ∀ v, (W.setCell (wiAd w.heap.size g x.1) v).cell? ⟨w4.heap.size, 0, none⟩ = some (.int .i64 (pre.length : Int)) := fun v => blk_cell (blk_far HSW.out.bk hadk v) 0
  have fk2 : ∀ v, (W.setCell (wiAd w.heap.size g x.1) v).frozen? ⟨w4.heap.size, 0, none⟩ = false := fun v => blk_frozen (blk_far HSW.out.bk hadk v) 0
  have cx' : W.cell? (ad x) = some (.int .i64 (wiVf V0 (pre.map (·.1)) l2 x.1)) := cx
  have fx' : W.frozen? (ad x) = false := fx
  have ck2' : ∀ v, (W.setCell (ad x) v).cell? ⟨w4.heap.size, 0, none⟩ = some (.int .i64 (pre.length : Int)) := ck2
  have fk2' : ∀ v, (W.setCell (ad x) v).frozen? ⟨w4.heap.size, 0, none⟩ = false := fk2
  have hput' : WiS w w'.heap.size g w4.heap.size a0_0 a0_1 a0_5 a0_6 a0_7 Ac l0_8.length cc A2 l2.length c2 (fun q => if q = x.1 then rd l2 (pre.length : Int) else wiVf V0 (pre.map (·.1)) l2 q) (pre.length + 1) ((W.setCell (ad x) (.int .i64 (rd l2 (pre.length : Int)))).setCell ⟨w4.heap.size, 0, none⟩ (.int .i64 ((pre.length : Int) + 1))) := hput
  have HP := Aside0.mk hput'
  have HA2 := Aside0.mk hA2
  have HNK : Aside0 (∀ v, UsKp Bh (w4.heap.size + 1) w.heap.size W ((W.setCell (ad x) v).setCell ⟨w4.heap.size, 0, none⟩ (.int .i64 ((pre.length : Int) + 1)))) := ⟨fun v => wi_kp HSW.out x.2 HG.out.2.2.1 HG.out.2.1 (by have := HZ.out; omega) (by have := HZ.out; omega) v _⟩
  clear hput hput' hadk ck2 fk2 cx fx
  subst hA2
  (try simp only [Int.toNat_natCast] at cu2)
  gi_wp2
  refine ⟨((KeepsOthers.setCell _ _ _).trans (KeepsOthers.setCell _ _ _)).from _, HNK.out _, ?_⟩
  have e1 : wiVf V0 ((pre ++ [x]).map (·.1)) l2 = fun q => if q = x.1 then rd l2 (pre.length : Int) else wiVf V0 (pre.map (·.1)) l2 q := by rw [List.map_append, List.map_cons, List.map_nil, wiVf_snoc _ _ _ _ (by simpa using hlt2), List.length_map]
  have e2 : (pre ++ [x]).length = pre.length + 1 := by simp
  show WiS w w'.heap.size g w4.heap.size a0_0 a0_1 a0_5 a0_6 a0_7 Ac l0_8.length cc (some q2) l2.length c2 (wiVf V0 ((pre ++ [x]).map (fun p : Al => p.1)) l2) (pre ++ [x]).length _
  rw [e1, e2]
  exact HP.out
 case done =>
  rintro Dd ys W hD rfl hS hK
  obtain ⟨Vf, hVf⟩ : ∃ Vf, wiVf V0 (ys.map (·.1)) l2 = Vf := ⟨_, rfl⟩
  have hall := wiVf_all (wiA a0_0) (wiB a0_0 a0_6) (wiC a0_0) l0_8.length V0 l2 (by rw [← HMP.out]; simp [HX.out]) Vf _ _ _ (by rw [← HMP.out]; exact hVf.symm) rfl rfl rfl
  have hS : WiS w w'.heap.size g w4.heap.size a0_0 a0_1 a0_5 a0_6 a0_7 Ac l0_8.length cc A2 l2.length c2 (wiVf V0 (ys.map (fun p : Al => p.1)) l2) ys.length W := hS
  rw [hVf] at hS
  have hv := HV.out
  simp only [wiV, Prod.mk.injEq] at hv
  have v0 : V0 0 = a0_2 ∧ V0 1 = a0_3 ∧ V0 2 = a0_4 := by rw [HV0.out]; exact ⟨rfl, rfl, rfl⟩
  rw [v0.1, v0.2.1, v0.2.2] at hall
  obtain ⟨ha, hb_, hc_, hl_⟩ := hall
  have va : Vf 0 = pa := ha.trans hv.1
  have vb : Vf 1 = pb := hb_.trans hv.2.1
  have vc : Vf 2 = pc := hc_.trans hv.2.2.1
  have vl : (List.range l0_8.length).map (fun j => Vf (3 + j)) = pl := hl_.trans hv.2.2.2
  obtain ⟨s0, s1, s2, sk, sr, sb⟩ := hS
  rw [va, vb, vc] at s0
  rw [vl] at sr
  have hpl : pl.length = l0_8.length := by rw [← vl]; simp
  obtain ⟨A9, c9, e9, hc9, hr9⟩ := Kd.R_reads sr
  injection e9 with e91 e92 e93
  subst e91 e93
  rw [e92] at s0 sr
  have S0 := Aside0.mk s0
  have S2 := Aside0.mk s2
  have SR := Aside0.mk sr
  have SB := Aside0.mk sb
  have HR9 := Aside0.mk hr9
  have HC9 := Aside0.mk hc9
  have HKK := Aside0.mk hK
  have HD := Aside0.mk hD
  have k0 : W.cell? ⟨w.heap.size, 0, none⟩ = some (.int .i64 a0_0) := blk_cell S0.out 0
  have k1 : W.cell? ⟨w.heap.size, 1, none⟩ = some (.int .i64 a0_1) := blk_cell S0.out 1
  have k2 : W.cell? ⟨w.heap.size, 2, none⟩ = some (.int .i64 pa) := blk_cell S0.out 2
  have k3 : W.cell? ⟨w.heap.size, 3, none⟩ = some (.int .i64 pb) := blk_cell S0.out 3
  have k4 : W.cell? ⟨w.heap.size, 4, none⟩ = some (.int .i64 pc) := blk_cell S0.out 4
  have k5 : W.cell? ⟨w.heap.size, 5, none⟩ = some (.int .i64 a0_5) := blk_cell S0.out 5
  have k6 : W.cell? ⟨w.heap.size, 6, none⟩ = some (.int .i64 a0_6) := blk_cell S0.out 6
  have k7 : W.cell? ⟨w.heap.size, 7, none⟩ = some (.int .i64 a0_7) := blk_cell S0.out 7
  have k8 : W.cell? ⟨w.heap.size, 8, none⟩ = some (.slice Ac pl.length cc) := blk_cell S0.out 8
  clear s0 s1 s2 sk sr sb hr9 hc9 hK hD ha hb_ hc_ hl_ hv v0 va vb vc vl hpl e92 hS hVf hsq
  cases t2 with
  | false =>
   go_wp2_with (first | (go_at_call 10; ((with_reducible refine (instr_Right.calls k a0_0 a0_1 pa pb pc a0_5 a0_6 a0_7 Ac cc pl false _ HR9.out HC9.out HT2.out).mono ?_); rintro e w7 ⟨rfl, hb7⟩; have HB7 := Aside0.mk hb7; clear hb7; have m0 := (blk_cell (blk_below S0.out HB7.out) 0); have m1 := (blk_cell (blk_below S0.out HB7.out) 1); have m2 := (blk_cell (blk_below S0.out HB7.out) 2); have m3 := (blk_cell (blk_below S0.out HB7.out) 3); have m4 := (blk_cell (blk_below S0.out HB7.out) 4); have m5 := (blk_cell (blk_below S0.out HB7.out) 5); have m6 := (blk_cell (blk_below S0.out HB7.out) 6); have m7 := (blk_cell (blk_below S0.out HB7.out) 7); have m8 := (blk_cell (blk_below S0.out HB7.out) 8); simp only [List.getElem?_toArray, List.getElem?_cons_zero, List.getElem?_cons_succ] at m0 m1 m2 m3 m4 m5 m6 m7 m8; have r0 := (blk_cell (blk_below S2.out HB7.out) 0); have rf0 := (blk_frozen (blk_below S2.out HB7.out) 0); have r1 := (blk_cell (blk_below S2.out HB7.out) 1); have rf1 := (blk_frozen (blk_below S2.out HB7.out) 1); have r2 := (blk_cell (blk_below S2.out HB7.out) 2); have rf2 := (blk_frozen (blk_below S2.out HB7.out) 2); have r3 := (blk_cell (blk_below S2.out HB7.out) 3); have rf3 := (blk_frozen (blk_below S2.out HB7.out) 3); have r4 := (blk_cell (blk_below S2.out HB7.out) 4); have rf4 := (blk_frozen (blk_below S2.out HB7.out) 4); have r5 := (blk_cell (blk_below S2.out HB7.out) 5); have rf5 := (blk_frozen (blk_below S2.out HB7.out) 5); have r6 := (blk_cell (blk_below S2.out HB7.out) 6); have rf6 := (blk_frozen (blk_below S2.out HB7.out) 6); have r7 := (blk_cell (blk_below S2.out HB7.out) 7); have rf7 := (blk_frozen (blk_below S2.out HB7.out) 7); have r8 := (blk_cell (blk_below S2.out HB7.out) 8); have rf8 := (blk_frozen (blk_below S2.out HB7.out) 8); simp only [List.getElem?_toArray, List.getElem?_cons_zero, List.getElem?_cons_succ] at r0 r1 r2 r3 r4 r5 r6 r7 r8)))
   obtain ⟨f1, f2, f3, f4⟩ := wi_last w W w7 Dd w'.heap.size _ _ _ _ _ _ _ _ _ S2.out SB.out HB7.out HKK.out (by have := HD.out; have := HZ.out; omega) (.int .i64 0) (.int .i64 0) (.int .i64 0) (.int .i64 0) (.int .i64 0) (.int .i64 0) (.int .i64 0) (.int .i64 0) (.slice none 0 0)
   refine ⟨by simp, .inl ⟨_, _, rfl, run_takeDeferred f1, ?_⟩⟩
   refine ⟨_, results_ct rfl _ _ (w.heap.size + 1 + 1) 24 #[.int .i64 0, .int .i64 0, .int .i64 0, .int .i64 0, .int .i64 0, .int .i64 0, .int .i64 0, .int .i64 0, .slice none 0 0] (0, 0) _ rfl f2 hu24 rfl (by kernel_rfl), ?_⟩
   rw [HQ.out]
   exact ⟨_, rfl, Kd.R_nil _ _ _ _ _, f3⟩
  | true =>
   go_wp2_with (first | (go_at_call 10; ((with_reducible refine (instr_Right.calls k a0_0 a0_1 pa pb pc a0_5 a0_6 a0_7 Ac cc pl true _ HR9.out HC9.out HT2.out).mono ?_); rintro e w7 ⟨rfl, hb7⟩; have HB7 := Aside0.mk hb7; clear hb7; have m0 := (blk_cell (blk_below S0.out HB7.out) 0); have m1 := (blk_cell (blk_below S0.out HB7.out) 1); have m2 := (blk_cell (blk_below S0.out HB7.out) 2); have m3 := (blk_cell (blk_below S0.out HB7.out) 3); have m4 := (blk_cell (blk_below S0.out HB7.out) 4); have m5 := (blk_cell (blk_below S0.out HB7.out) 5); have m6 := (blk_cell (blk_below S0.out HB7.out) 6); have m7 := (blk_cell (blk_below S0.out HB7.out) 7); have m8 := (blk_cell (blk_below S0.out HB7.out) 8); simp only [List.getElem?_toArray, List.getElem?_cons_zero, List.getElem?_cons_succ] at m0 m1 m2 m3 m4 m5 m6 m7 m8; have r0 := (blk_cell (blk_below S2.out HB7.out) 0); have rf0 := (blk_frozen (blk_below S2.out HB7.out) 0); have r1 := (blk_cell (blk_below S2.out HB7.out) 1); have rf1 := (blk_frozen (blk_below S2.out HB7.out) 1); have r2 := (blk_cell (blk_below S2.out HB7.out) 2); have rf2 := (blk_frozen (blk_below S2.out HB7.out) 2); have r3 := (blk_cell (blk_below S2.out HB7.out) 3); have rf3 := (blk_frozen (blk_below S2.out HB7.out) 3); have r4 := (blk_cell (blk_below S2.out HB7.out) 4); have rf4 := (blk_frozen (blk_below S2.out HB7.out) 4); have r5 := (blk_cell (blk_below S2.out HB7.out) 5); have rf5 := (blk_frozen (blk_below S2.out HB7.out) 5); have r6 := (blk_cell (blk_below S2.out HB7.out) 6); have rf6 := (blk_frozen (blk_below S2.out HB7.out) 6); have r7 := (blk_cell (blk_below S2.out HB7.out) 7); have rf7 := (blk_frozen (blk_below S2.out HB7.out) 7); have r8 := (blk_cell (blk_below S2.out HB7.out) 8); have rf8 := (blk_frozen (blk_below S2.out HB7.out) 8); simp only [List.getElem?_toArray, List.getElem?_cons_zero, List.getElem?_cons_succ] at r0 r1 r2 r3 r4 r5 r6 r7 r8)))
   obtain ⟨f1, f2, f3, f4⟩ := wi_last w W w7 Dd w'.heap.size _ _ _ _ _ _ _ _ _ S2.out SB.out HB7.out HKK.out (by have := HD.out; have := HZ.out; omega) (.int .i64 a0_0) (.int .i64 a0_1) (.int .i64 pa) (.int .i64 pb) (.int .i64 pc) (.int .i64 a0_5) (.int .i64 a0_6) (.int .i64 a0_7) (.slice Ac pl.length cc)
   refine ⟨by simp, .inl ⟨_, _, rfl, run_takeDeferred f1, ?_⟩⟩
   refine ⟨_, results_ct rfl _ _ (w.heap.size + 1 + 1) 24 #[.int .i64 a0_0, .int .i64 a0_1, .int .i64 pa, .int .i64 pb, .int .i64 pc, .int .i64 a0_5, .int .i64 a0_6, .int .i64 a0_7, .slice Ac pl.length cc] (0, 0) _ rfl f2 hu24 rfl (by kernel_rfl), ?_⟩
   rw [HQ.out]
   exact ⟨_, rfl, f4 _ _ SR.out (by have := z3; omega), f3⟩
 case stop =>
  rintro D c pre W _ _ h _
  exact h.elim
end
theorem usV_len (op a b c m : Int) (l : List Int) : (usV op a b c m l).length ≤ l.length + 3 := by
 unfold usV
 simp only [List.length_append]
 split <;> split <;> split <;> simp <;> omega
def instr_With.f (k : Nat) (a0_0 a0_1 a0_2 a0_3 a0_4 a0_5 a0_6 a0_7 : Int) (l0_8 : List Int) (a1 : Int) (l2 : List Int) : Option (Int × Int × Int × Int × Int × Int × Int × Int × (List Int) × Bool) := if l0_8.length < 1099511627000 ∧ l2.length < 1099511627000 then ((instr_Uses.f k a0_0 a0_1 a0_2 a0_3 a0_4 a0_5 a0_6 a0_7 l0_8).bind fun u => (instr_Right.f k a0_0 a0_1 a0_2 a0_3 a0_4 a0_5 a0_6 a0_7 l0_8).bind fun t => if u.length = l2.length ∧ t = true then ((instr_Right.f k a0_0 (if (Go.bits .and .i64 (hasV a0_0) 1 != 0) = true then a1 else a0_1) (wiV a0_0 a0_2 a0_3 a0_4 a0_6 l2).1 (wiV a0_0 a0_2 a0_3 a0_4 a0_6 l2).2.1 (wiV a0_0 a0_2 a0_3 a0_4 a0_6 l2).2.2.1 a0_5 a0_6 a0_7 (wiV a0_0 a0_2 a0_3 a0_4 a0_6 l2).2.2.2).bind fun t2 => some (if t2 = true then (a0_0, (if (Go.bits .and .i64 (hasV a0_0) 1 != 0) = true then a1 else a0_1), (wiV a0_0 a0_2 a0_3 a0_4 a0_6 l2).1, (wiV a0_0 a0_2 a0_3 a0_4 a0_6 l2).2.1, (wiV a0_0 a0_2 a0_3 a0_4 a0_6 l2).2.2.1, a0_5, a0_6, a0_7, (wiV a0_0 a0_2 a0_3 a0_4 a0_6 l2).2.2.2, true) else (0, 0, 0, 0, 0, 0, 0, 0, [], false))) else some (0, 0, 0, 0, 0, 0, 0, 0, [], false)) else none
set_option maxHeartbeats 8000000 in
theorem instr_With.calls (k : Nat) (a0_0 : Int) (a0_1 : Int) (a0_2 : Int) (a0_3 : Int) (a0_4 : Int) (a0_5 : Int) (a0_6 : Int) (a0_7 : Int) (A0_8 : Option Addr) (c0_8 : Nat) (l0_8 : List Int) (a1 : Int) (A2 : Option Addr) (c2 : Nat) (l2 : List Int) (r1 : Int) (r2 : Int) (r3 : Int) (r4 : Int) (r5 : Int) (r6 : Int) (r7 : Int) (r8 : Int) (r9 : List Int) (r10 : Bool) (w : World) (hr0_8 : Kd.C (Kd.int .i64) w A0_8 l0_8.length l0_8) (hc0_8 : l0_8.length ≤ c0_8) (hr2 : Kd.C (Kd.int .i64) w A2 l2.length l2) (hc2 : l2.length ≤ c2) (h : instr_With.f k a0_0 a0_1 a0_2 a0_3 a0_4 a0_5 a0_6 a0_7 l0_8 a1 l2 = some (r1, r2, r3, r4, r5, r6, r7, r8, r9, r10)) :
  Calls Try.prog 44 #[.agg #[.int .i64 a0_0, .int .i64 a0_1, .int .i64 a0_2, .int .i64 a0_3, .int .i64 a0_4, .int .i64 a0_5, .int .i64 a0_6, .int .i64 a0_7, .slice A0_8 l0_8.length c0_8], .int .i64 a1, .slice A2 l2.length c2] w fun e w' => ∃ v8_ : Value, e = .returned (.tuple #[.agg #[.int .i64 r1, .int .i64 r2, .int .i64 r3, .int .i64 r4, .int .i64 r5, .int .i64 r6, .int .i64 r7, .int .i64 r8, v8_], .bool r10]) ∧ Kd.R (Kd.int .i64) 3 w' w.heap.size (fun _ => True) v8_ r9 ∧ Below w.heap.size w w' := by
 unfold instr_With.f at h
 by_cases hl : l0_8.length < 1099511627000 ∧ l2.length < 1099511627000
 ·rw [if_pos hl] at h
  obtain ⟨hl8, hl2⟩ := hl
  obtain ⟨u, hu, h⟩ := Option.bind_eq_some_iff.mp h
  obtain ⟨t, ht, h⟩ := Option.bind_eq_some_iff.mp h
  have hu' := hu
  unfold instr_Uses.f at hu'
  rw [if_pos (by omega), ht] at hu'
  simp only [Option.bind_some] at hu'
  have hlen := usV_len a0_0 a0_2 a0_3 a0_4 a0_6 l0_8
  have hl1 : u.length < 1099511627776 := by
   split at hu' <;> (have e := Option.some.inj hu'; rw [← e]; simp <;> omega)
  by_cases hg : u.length = l2.length ∧ t = true
  ·rw [if_pos hg] at h
   obtain ⟨t2, ht2, h⟩ := Option.bind_eq_some_iff.mp h
   obtain ⟨hne, htt⟩ := hg
   rw [htt] at ht
   rw [if_pos htt] at hu'
   have huv : u.length = (usV a0_0 a0_2 a0_3 a0_4 a0_6 l0_8).length := by rw [Option.some.inj hu']
   cases hd : (Go.bits .and .i64 (hasV a0_0) 1 != 0) with
   | true =>
    rw [hd] at ht2 h
    simp only [if_true, if_false, Bool.false_eq_true] at ht2 h
    have key := wi_yes1 k a0_0 a0_1 a0_2 a0_3 a0_4 a0_5 a0_6 a0_7 A0_8 c0_8 l0_8 a1 A2 c2 l2 w hr0_8 hc0_8 hr2 hc2 u hu ht hl1 (by omega) (by omega) hne huv hd _ _ _ _ rfl t2 ht2
    refine key.mono ?_
    intro e w' hp
    have h := Option.some.inj h
    cases t2 with
    | true => simp only [if_true, Prod.mk.injEq] at h; obtain ⟨h1, h2, h3, h4, h5, h6, h7, h8, h9, h10⟩ := h; rw [if_pos rfl] at hp; rw [← h1, ← h2, ← h3, ← h4, ← h5, ← h6, ← h7, ← h8, ← h9, ← h10]; exact hp
    | false => simp only [if_false, Bool.false_eq_true, Prod.mk.injEq] at h; obtain ⟨h1, h2, h3, h4, h5, h6, h7, h8, h9, h10⟩ := h; rw [if_neg (by simp)] at hp; rw [← h1, ← h2, ← h3, ← h4, ← h5, ← h6, ← h7, ← h8, ← h9, ← h10]; exact hp
   | false =>
    rw [hd] at ht2 h
    simp only [if_true, if_false, Bool.false_eq_true] at ht2 h
    have key := wi_yes0 k a0_0 a0_1 a0_2 a0_3 a0_4 a0_5 a0_6 a0_7 A0_8 c0_8 l0_8 a1 A2 c2 l2 w hr0_8 hc0_8 hr2 hc2 u hu ht hl1 (by omega) (by omega) hne huv hd _ _ _ _ rfl t2 ht2
    refine key.mono ?_
    intro e w' hp
    have h := Option.some.inj h
    cases t2 with
    | true => simp only [if_true, Prod.mk.injEq] at h; obtain ⟨h1, h2, h3, h4, h5, h6, h7, h8, h9, h10⟩ := h; rw [if_pos rfl] at hp; rw [← h1, ← h2, ← h3, ← h4, ← h5, ← h6, ← h7, ← h8, ← h9, ← h10]; exact hp
    | false => simp only [if_false, Bool.false_eq_true, Prod.mk.injEq] at h; obtain ⟨h1, h2, h3, h4, h5, h6, h7, h8, h9, h10⟩ := h; rw [if_neg (by simp)] at hp; rw [← h1, ← h2, ← h3, ← h4, ← h5, ← h6, ← h7, ← h8, ← h9, ← h10]; exact hp
  ·rw [if_neg hg] at h
   have h := Option.some.inj h
   simp only [Prod.mk.injEq] at h
   obtain ⟨h1, h2, h3, h4, h5, h6, h7, h8, h9, h10⟩ := h
   refine (wi_no k a0_0 a0_1 a0_2 a0_3 a0_4 a0_5 a0_6 a0_7 A0_8 c0_8 l0_8 a1 A2 c2 l2 w hr0_8 hc0_8 hr2 hc2 u t hu ht hl1 (by omega) (Classical.byCases (fun e : u.length = l2.length => .inr (by cases t with | false => rfl | true => exact absurd ⟨e, rfl⟩ hg)) (fun e => .inl e))).mono ?_
   rintro e w' ⟨he, hb⟩
   rw [← h1, ← h2, ← h3, ← h4, ← h5, ← h6, ← h7, ← h8, ← h9, ← h10]
   exact ⟨_, he, Kd.R_nil _ _ _ _ _, hb⟩
 ·rw [if_neg hl] at h
  cases h
end Go.Proofs.Ytlhaopjdpkhogaa.P

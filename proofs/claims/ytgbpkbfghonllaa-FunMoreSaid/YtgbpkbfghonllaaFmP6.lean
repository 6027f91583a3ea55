/- A part of it. -/
import Derived.Test.YtgbpkbfghonllaaFmM21
namespace Go.Proofs.Ytgbpkbfghonllaa.P
open Go.RowKit Go.Proofs.YtgbpkbfghonllaaW.PrintWords Go.Proofs.YtgbpkbfghonllaaW.PrintLast Go.Proofs.YtgbpkbfghonllaaW.PrintMore
attribute [local go_sem] max2_int min2_int max_two min_two max_three min_three max_four min_four   
set_option linter.unusedVariables false
set_option linter.unusedSimpArgs false
def mEnt : List (Int × Int) → Nat → List MapEntry
 | [], _ => []
 | p :: L, i => { key := .int .i64 p.1, val := .int .i64 p.2, born := i } :: mEnt L (i + 1)
def mObj (L : List (Int × Int)) : Obj := .map (mEnt L 0).toArray L.length
def assoc (L : List (Int × Int)) (k : Int) : Option Int := (L.find? (fun p => p.1 == k)).map (·.2)
theorem mEnt_snoc (p : Int × Int) : ∀ (L : List (Int × Int)) (i : Nat), mEnt (L ++ [p]) i = mEnt L i ++ [{ key := .int .i64 p.1, val := .int .i64 p.2, born := i + L.length }] := by
 intro L
 induction L with
 | nil => intro i; rfl
 | cons q L ih =>
  intro i
  show _ :: mEnt (L ++ [p]) (i + 1) = _ :: (mEnt L (i + 1) ++ _)
  rw [ih, show i + 1 + L.length = i + (q :: L).length by simp; omega]
theorem findNow_ints (k : Int) : ∀ (L : List (Int × Int)) (i j : Nat), ∃ r, Instr.findNow (.int .i64) (.int .i64 k) (mEnt L i) j = some r ∧ r.map (·.2) = (assoc L k).map (Value.int .i64) := by
 intro L
 induction L with
 | nil => intro i j; exact ⟨none, rfl, rfl⟩
 | cons q L ih =>
  intro i j
  by_cases h : k = q.1
  ·refine ⟨some (j, .int .i64 q.2), ?_, ?_⟩
   ·simp [mEnt, Instr.findNow, Instr.sameNow, h]
   ·simp [assoc, h]
  ·obtain ⟨r, h1, h2⟩ := ih (i + 1) (j + 1)
   refine ⟨r, ?_, ?_⟩
   ·have hb : (k == q.1) = false := by simp [h]
    simp [mEnt, Instr.findNow, Instr.sameNow, hb, h1]
   ·rw [h2]
    have : (q.1 == k) = false := by simp [Ne.symm h]
    simp [assoc, this]
section
variable {P : Program} {t kt : TypeId} {w : World} {L : List (Int × Int)}
theorem run_ins (ht : P.underlying t = some (.map kt kt)) (hk : P.underlying kt = some (.int .i64)) (k v : Int) (hn : assoc L k = none) :
  (Instr.mapUpdate t (.map (some w.heap.size)) (.int .i64 k) (.int .i64 v)).run P (w.alloc (mObj L)) = .ok () (w.alloc (mObj (L ++ [(k, v)]))) := by
 have hb : (w.alloc (mObj L)).heap[w.heap.size]? = some (.map (mEnt L 0).toArray L.length) := heap_alloc_new w _
 obtain ⟨r, h1, h2⟩ := findNow_ints k L 0 0
 rw [hn] at h2
 have h3 : r = none := by cases r <;> simp_all
 subst h3
 have hs : ∀ o : Obj, ({ (w.alloc (mObj L)) with heap := (w.alloc (mObj L)).heap.setIfInBounds w.heap.size o } : World) = w.alloc o := by
  intro o
  show ({ w with heap := (w.heap.push (mObj L)).setIfInBounds w.heap.size o } : World) = { w with heap := w.heap.push o }
  congr 1
  apply Array.ext_getElem?
  intro i
  rw [Array.getElem?_setIfInBounds, Array.getElem?_push, Array.getElem?_push]
  by_cases e : w.heap.size = i
  ·subst e; simp
  ·rw [if_neg e, if_neg (Ne.symm e), if_neg (Ne.symm e)]
 have h1' : Instr.findNow (.int .i64) (.int .i64 k) ((mEnt L 0).toArray.toList) 0 = some none := by simpa using h1
 simp [Instr.mapUpdate, run_underlying ht, Result.andThen, Go.MapKept.run_getObj_map hb, Go.MapKept.run_checkKey (w := w.alloc (mObj L)) hk (k := .int .i64 k) (show Go.MapKept.IsKey (.int .i64) (.int .i64 k) from rfl), Go.MapKept.run_findKey (w := w.alloc (mObj L)) hk h1', Go.MapKept.run_setObj_map _ hb]
 unfold mObj
 rw [mEnt_snoc]
 simp
 exact hs _
theorem run_look (ht : P.underlying t = some (.map kt kt)) (hk : P.underlying kt = some (.int .i64)) (hz : (P.info? kt).map (·.zero) = some (some (.int .i64 0))) (k : Int) :
  (Instr.lookup t (.map (some w.heap.size)) (.int .i64 k) false).run P (w.alloc (mObj L)) = .ok (.int .i64 ((assoc L k).getD 0)) (w.alloc (mObj L)) := by
 have hb : (w.alloc (mObj L)).heap[w.heap.size]? = some (.map (mEnt L 0).toArray L.length) := heap_alloc_new w _
 obtain ⟨r, h1, h2⟩ := findNow_ints k L 0 0
 have h1' : Instr.findNow (.int .i64) (.int .i64 k) ((mEnt L 0).toArray.toList) 0 = some r := by simpa using h1
 obtain ⟨i, hi, hi2⟩ := Option.map_eq_some_iff.1 hz
 have hzv : (zeroValue kt).run P (w.alloc (mObj L)) = .ok (.int .i64 0) (w.alloc (mObj L)) := by
  simp [zeroValue, typeInfo, hi, hi2, Result.andThen]
 simp [Instr.lookup, run_underlying ht, Result.andThen, Go.MapKept.run_getObj_map hb, Go.MapKept.run_checkKey (w := w.alloc (mObj L)) hk (k := .int .i64 k) (show Go.MapKept.IsKey (.int .i64) (.int .i64 k) from rfl), Go.MapKept.run_findKey (w := w.alloc (mObj L)) hk h1']
 cases ha : assoc L k with
 | none =>
  rw [ha] at h2
  have h3 : r = none := by cases r <;> simp_all
  subst h3
  simp [hzv]
 | some v =>
  rw [ha] at h2
  cases r with
  | none => simp at h2
  | some p => simp at h2; simp [h2]
end
def hasTab : List (Int × Int) := [(20, 17), (21, 33), (22, 1), (30, 14), (31, 258), (32, 262), (33, 262), (34, 262), (35, 262), (36, 258), (37, 262), (38, 258), (39, 577), (40, 2), (41, 64), (42, 194), (43, 2), (44, 1537), (45, 2055)]
def hasV (op : Int) : Int := if 3 ≤ op ∧ op ≤ 16 ∨ op = 29 then 7 else if 23 ≤ op ∧ op ≤ 28 then 3 else (assoc hasTab op).getD 0
theorem instr_zero : (Try.prog.info? 3).map (·.zero) = some (some (.int .i64 0)) := by kernel_rfl
set_option maxHeartbeats 4000000 in
theorem has_tab (op : Int) (w : World) (h1 : ¬ (3 ≤ op ∧ op ≤ 16)) (h2 : op ≠ 29) (h3 : ¬ (23 ≤ op ∧ op ≤ 28)) :
  Calls Try.prog 85 #[.int .i64 op] w fun e w' => e = .returned (.int .i64 (hasV op)) ∧ Below w.heap.size w w' := by
 have hv : hasV op = (assoc hasTab op).getD 0 := by
  unfold hasV
  rw [if_neg (by omega), if_neg h3]
 have HV := Aside0.mk hv
 have i0 : (Instr.mapUpdate 105 (.map (some w.heap.size)) (.int .i64 20) (.int .i64 17)).run Try.prog (w.alloc (mObj [])) = .ok () (w.alloc (mObj [(20, 17)])) := run_ins Try.underlying105 Try.underlying3 20 17 rfl
 have i1 : (Instr.mapUpdate 105 (.map (some w.heap.size)) (.int .i64 21) (.int .i64 33)).run Try.prog (w.alloc (mObj [(20, 17)])) = .ok () (w.alloc (mObj [(20, 17), (21, 33)])) := run_ins Try.underlying105 Try.underlying3 21 33 rfl
 have i2 : (Instr.mapUpdate 105 (.map (some w.heap.size)) (.int .i64 22) (.int .i64 1)).run Try.prog (w.alloc (mObj [(20, 17), (21, 33)])) = .ok () (w.alloc (mObj [(20, 17), (21, 33), (22, 1)])) := run_ins Try.underlying105 Try.underlying3 22 1 rfl
 have i3 : (Instr.mapUpdate 105 (.map (some w.heap.size)) (.int .i64 30) (.int .i64 14)).run Try.prog (w.alloc (mObj [(20, 17), (21, 33), (22, 1)])) = .ok () (w.alloc (mObj [(20, 17), (21, 33), (22, 1), (30, 14)])) := run_ins Try.underlying105 Try.underlying3 30 14 rfl
 have i4 : (Instr.mapUpdate 105 (.map (some w.heap.size)) (.int .i64 31) (.int .i64 258)).run Try.prog (w.alloc (mObj [(20, 17), (21, 33), (22, 1), (30, 14)])) = .ok () (w.alloc (mObj [(20, 17), (21, 33), (22, 1), (30, 14), (31, 258)])) := run_ins Try.underlying105 Try.underlying3 31 258 rfl
 have i5 : (Instr.mapUpdate 105 (.map (some w.heap.size)) (.int .i64 32) (.int .i64 262)).run Try.prog (w.alloc (mObj [(20, 17), (21, 33), (22, 1), (30, 14), (31, 258)])) = .ok () (w.alloc (mObj [(20, 17), (21, 33), (22, 1), (30, 14), (31, 258), (32, 262)])) := run_ins Try.underlying105 Try.underlying3 32 262 rfl
 have i6 : (Instr.mapUpdate 105 (.map (some w.heap.size)) (.int .i64 33) (.int .i64 262)).run Try.prog (w.alloc (mObj [(20, 17), (21, 33), (22, 1), (30, 14), (31, 258), (32, 262)])) = .ok () (w.alloc (mObj [(20, 17), (21, 33), (22, 1), (30, 14), (31, 258), (32, 262), (33, 262)])) := run_ins Try.underlying105 Try.underlying3 33 262 rfl
 have i7 : (Instr.mapUpdate 105 (.map (some w.heap.size)) (.int .i64 34) (.int .i64 262)).run Try.prog (w.alloc (mObj [(20, 17), (21, 33), (22, 1), (30, 14), (31, 258), (32, 262), (33, 262)])) = .ok () (w.alloc (mObj [(20, 17), (21, 33), (22, 1), (30, 14), (31, 258), (32, 262), (33, 262), (34, 262)])) := run_ins Try.underlying105 Try.underlying3 34 262 rfl
 have i8 : (Instr.mapUpdate 105 (.map (some w.heap.size)) (.int .i64 35) (.int .i64 262)).run Try.prog (w.alloc (mObj [(20, 17), (21, 33), (22, 1), (30, 14), (31, 258), (32, 262), (33, 262), (34, 262)])) = .ok () (w.alloc (mObj [(20, 17), (21, 33), (22, 1), (30, 14), (31, 258), (32, 262), (33, 262), (34, 262), (35, 262)])) := run_ins Try.underlying105 Try.underlying3 35 262 rfl
 have i9 : (Instr.mapUpdate 105 (.map (some w.heap.size)) (.int .i64 36) (.int .i64 258)).run Try.prog (w.alloc (mObj [(20, 17), (21, 33), (22, 1), (30, 14), (31, 258), (32, 262), (33, 262), (34, 262), (35, 262)])) = .ok () (w.alloc (mObj [(20, 17), (21, 33), (22, 1), (30, 14), (31, 258), (32, 262), (33, 262), (34, 262), (35, 262), (36, 258)])) := run_ins Try.underlying105 Try.underlying3 36 258 rfl
 have i10 : (Instr.mapUpdate 105 (.map (some w.heap.size)) (.int .i64 37) (.int .i64 262)).run Try.prog (w.alloc (mObj [(20, 17), (21, 33), (22, 1), (30, 14), (31, 258), (32, 262), (33, 262), (34, 262), (35, 262), (36, 258)])) = .ok () (w.alloc (mObj [(20, 17), (21, 33), (22, 1), (30, 14), (31, 258), (32, 262), (33, 262), (34, 262), (35, 262), (36, 258), (37, 262)])) := run_ins Try.underlying105 Try.underlying3 37 262 rfl
 have i11 : (Instr.mapUpdate 105 (.map (some w.heap.size)) (.int .i64 38) (.int .i64 258)).run Try.prog (w.alloc (mObj [(20, 17), (21, 33), (22, 1), (30, 14), (31, 258), (32, 262), (33, 262), (34, 262), (35, 262), (36, 258), (37, 262)])) = .ok () (w.alloc (mObj [(20, 17), (21, 33), (22, 1), (30, 14), (31, 258), (32, 262), (33, 262), (34, 262), (35, 262), (36, 258), (37, 262), (38, 258)])) := run_ins Try.underlying105 Try.underlying3 38 258 rfl
 have i12 : (Instr.mapUpdate 105 (.map (some w.heap.size)) (.int .i64 39) (.int .i64 577)).run Try.prog (w.alloc (mObj [(20, 17), (21, 33), (22, 1), (30, 14), (31, 258), (32, 262), (33, 262), (34, 262), (35, 262), (36, 258), (37, 262), (38, 258)])) = .ok () (w.alloc (mObj [(20, 17), (21, 33), (22, 1), (30, 14), (31, 258), (32, 262), (33, 262), (34, 262), (35, 262), (36, 258), (37, 262), (38, 258), (39, 577)])) := run_ins Try.underlying105 Try.underlying3 39 577 rfl
 have i13 : (Instr.mapUpdate 105 (.map (some w.heap.size)) (.int .i64 40) (.int .i64 2)).run Try.prog (w.alloc (mObj [(20, 17), (21, 33), (22, 1), (30, 14), (31, 258), (32, 262), (33, 262), (34, 262), (35, 262), (36, 258), (37, 262), (38, 258), (39, 577)])) = .ok () (w.alloc (mObj [(20, 17), (21, 33), (22, 1), (30, 14), (31, 258), (32, 262), (33, 262), (34, 262), (35, 262), (36, 258), (37, 262), (38, 258), (39, 577), (40, 2)])) := run_ins Try.underlying105 Try.underlying3 40 2 rfl
 have i14 : (Instr.mapUpdate 105 (.map (some w.heap.size)) (.int .i64 41) (.int .i64 64)).run Try.prog (w.alloc (mObj [(20, 17), (21, 33), (22, 1), (30, 14), (31, 258), (32, 262), (33, 262), (34, 262), (35, 262), (36, 258), (37, 262), (38, 258), (39, 577), (40, 2)])) = .ok () (w.alloc (mObj [(20, 17), (21, 33), (22, 1), (30, 14), (31, 258), (32, 262), (33, 262), (34, 262), (35, 262), (36, 258), (37, 262), (38, 258), (39, 577), (40, 2), (41, 64)])) := run_ins Try.underlying105 Try.underlying3 41 64 rfl
 have i15 : (Instr.mapUpdate 105 (.map (some w.heap.size)) (.int .i64 42) (.int .i64 194)).run Try.prog (w.alloc (mObj [(20, 17), (21, 33), (22, 1), (30, 14), (31, 258), (32, 262), (33, 262), (34, 262), (35, 262), (36, 258), (37, 262), (38, 258), (39, 577), (40, 2), (41, 64)])) = .ok () (w.alloc (mObj [(20, 17), (21, 33), (22, 1), (30, 14), (31, 258), (32, 262), (33, 262), (34, 262), (35, 262), (36, 258), (37, 262), (38, 258), (39, 577), (40, 2), (41, 64), (42, 194)])) := run_ins Try.underlying105 Try.underlying3 42 194 rfl
 have i16 : (Instr.mapUpdate 105 (.map (some w.heap.size)) (.int .i64 43) (.int .i64 2)).run Try.prog (w.alloc (mObj [(20, 17), (21, 33), (22, 1), (30, 14), (31, 258), (32, 262), (33, 262), (34, 262), (35, 262), (36, 258), (37, 262), (38, 258), (39, 577), (40, 2), (41, 64), (42, 194)])) = .ok () (w.alloc (mObj [(20, 17), (21, 33), (22, 1), (30, 14), (31, 258), (32, 262), (33, 262), (34, 262), (35, 262), (36, 258), (37, 262), (38, 258), (39, 577), (40, 2), (41, 64), (42, 194), (43, 2)])) := run_ins Try.underlying105 Try.underlying3 43 2 rfl
 have i17 : (Instr.mapUpdate 105 (.map (some w.heap.size)) (.int .i64 44) (.int .i64 1537)).run Try.prog (w.alloc (mObj [(20, 17), (21, 33), (22, 1), (30, 14), (31, 258), (32, 262), (33, 262), (34, 262), (35, 262), (36, 258), (37, 262), (38, 258), (39, 577), (40, 2), (41, 64), (42, 194), (43, 2)])) = .ok () (w.alloc (mObj [(20, 17), (21, 33), (22, 1), (30, 14), (31, 258), (32, 262), (33, 262), (34, 262), (35, 262), (36, 258), (37, 262), (38, 258), (39, 577), (40, 2), (41, 64), (42, 194), (43, 2), (44, 1537)])) := run_ins Try.underlying105 Try.underlying3 44 1537 rfl
 have i18 : (Instr.mapUpdate 105 (.map (some w.heap.size)) (.int .i64 45) (.int .i64 2055)).run Try.prog (w.alloc (mObj [(20, 17), (21, 33), (22, 1), (30, 14), (31, 258), (32, 262), (33, 262), (34, 262), (35, 262), (36, 258), (37, 262), (38, 258), (39, 577), (40, 2), (41, 64), (42, 194), (43, 2), (44, 1537)])) = .ok () (w.alloc (mObj [(20, 17), (21, 33), (22, 1), (30, 14), (31, 258), (32, 262), (33, 262), (34, 262), (35, 262), (36, 258), (37, 262), (38, 258), (39, 577), (40, 2), (41, 64), (42, 194), (43, 2), (44, 1537), (45, 2055)])) := run_ins Try.underlying105 Try.underlying3 45 2055 rfl
 have hlk : (Instr.lookup 105 (.map (some w.heap.size)) (.int .i64 op) false).run Try.prog (w.alloc (mObj [(20, 17), (21, 33), (22, 1), (30, 14), (31, 258), (32, 262), (33, 262), (34, 262), (35, 262), (36, 258), (37, 262), (38, 258), (39, 577), (40, 2), (41, 64), (42, 194), (43, 2), (44, 1537), (45, 2055)])) = .ok (.int .i64 ((assoc hasTab op).getD 0)) (w.alloc (mObj [(20, 17), (21, 33), (22, 1), (30, 14), (31, 258), (32, 262), (33, 262), (34, 262), (35, 262), (36, 258), (37, 262), (38, 258), (39, 577), (40, 2), (41, 64), (42, 194), (43, 2), (44, 1537), (45, 2055)])) := run_look (P := Try.prog) (w := w) (L := hasTab) Try.underlying105 Try.underlying3 instr_zero op
 have hmm : (Instr.makeMap 105 none).run Try.prog w = .ok (.map (some w.heap.size)) (w.alloc (mObj [])) := rfl
 have HB := Aside0.mk (Below.refl w.heap.size w)
 have t2 : (op == 29) = false := beq_eq_false_iff_ne.mpr h2
 have t2' : decide (op = 29) = false := decide_eq_false h2
 clear hv h2
 have go : ∀ b1 b2 b3 b4 : Bool, decide (3 ≤ op) = b1 → decide (op ≤ 16) = b2 → decide (23 ≤ op) = b3 → decide (op ≤ 28) = b4 → (b1 && b2) = false → (b3 && b4) = false → Calls Try.prog 85 #[.int .i64 op] w fun e w' => e = .returned (.int .i64 (hasV op)) ∧ Below w.heap.size w w' := by
  intro b1 b2 b3 b4 e1 e2 e3 e4 e5 e6
  clear h1 h3
  cases b1 <;> cases b2 <;> cases b3 <;> cases b4 <;> simp only [Bool.and_true, Bool.and_false, reduceCtorEq] at e5 e6
  all_goals
   clear e5 e6
   go_enter Try.func85, Try.ntmps85
   go_wp2
   go_ret
   refine ⟨?_, below_alloc HB.out _⟩
   rw [HV.out]
   rfl
 exact go _ _ _ _ rfl rfl rfl rfl (by by_cases c : 3 ≤ op <;> simp [c] <;> omega) (by by_cases c : 23 ≤ op <;> simp [c] <;> omega)
set_option maxHeartbeats 1000000 in
theorem has_seven (op : Int) (w : World) (h1 : 3 ≤ op ∧ op ≤ 16 ∨ op = 29) :
  Calls Try.prog 85 #[.int .i64 op] w fun e w' => e = .returned (.int .i64 7) ∧ Below w.heap.size w w' := by
 have HB := Aside0.mk (Below.refl w.heap.size w)
 rcases h1 with ⟨h1, h2⟩ | rfl
 ·have t1 : decide (3 ≤ op) = true := decide_eq_true h1
  have t2 : decide (op ≤ 16) = true := decide_eq_true h2
  go_enter Try.func85, Try.ntmps85
  go_wp2
  go_ret
  exact ⟨rfl, HB.out⟩
 ·go_enter Try.func85, Try.ntmps85
  go_wp2
  go_ret
  exact ⟨rfl, HB.out⟩
set_option maxHeartbeats 1000000 in
theorem has_three (op : Int) (w : World) (h1 : 23 ≤ op) (h2 : op ≤ 28) :
  Calls Try.prog 85 #[.int .i64 op] w fun e w' => e = .returned (.int .i64 3) ∧ Below w.heap.size w w' := by
 have HB := Aside0.mk (Below.refl w.heap.size w)
 have t1 : decide (3 ≤ op) = true := decide_eq_true (by omega)
 have t2 : decide (op ≤ 16) = false := decide_eq_false (by omega)
 have t3 : decide (23 ≤ op) = true := decide_eq_true h1
 have t4 : decide (op ≤ 28) = true := decide_eq_true h2
 have t5 : (op == 29) = false := beq_eq_false_iff_ne.mpr (by omega)
 have t5' : decide (op = 29) = false := decide_eq_false (by omega)
 go_enter Try.func85, Try.ntmps85
 go_wp2
 go_ret
 exact ⟨rfl, HB.out⟩
def instr_has.f (a0 : Int) : Option Int := some (hasV a0)
theorem instr_has.calls (a0 : Int) (r : Int) (w : World) (h : instr_has.f a0 = some r) :
  Calls Try.prog 85 #[.int .i64 a0] w fun e w' => e = .returned (.int .i64 r) ∧ Below w.heap.size w w' := by
 unfold instr_has.f at h
 obtain rfl := Option.some.inj h
 by_cases h1 : 3 ≤ a0 ∧ a0 ≤ 16 ∨ a0 = 29
 ·have e : hasV a0 = 7 := if_pos h1
  rw [e]
  exact has_seven a0 w h1
 ·by_cases h2 : 23 ≤ a0 ∧ a0 ≤ 28
  ·have e : hasV a0 = 3 := by unfold hasV; rw [if_neg h1, if_pos h2]
   rw [e]
   exact has_three a0 w h2.1 h2.2
  ·exact has_tab a0 w (by omega) (by omega) h2
def instr_tells.f (a0 : Int) : Option (Bool) := if a0 ≥ 3 then (if a0 ≤ 8 then (some true) else (if a0 = 20 then (some true) else (some (a0 == 21)))) else (if a0 = 20 then (some true) else (some (a0 == 21)))
set_option maxHeartbeats 8000000 in
set_option maxRecDepth 100000 in
theorem instr_tells.calls (a0 : Int) (r : Bool) (w : World) (h : instr_tells.f a0 = some r) :
  Calls Try.prog 91 #[.int .i64 a0] w fun e w' => e = .returned (.bool r) ∧ Drawn0 w w' := by
 have H : (if a0 ≥ 3 then (if a0 ≤ 8 then (some true) else (if a0 = 20 then (some true) else (some (a0 == 21)))) else (if a0 = 20 then (some true) else (some (a0 == 21)))) = some r := h
 clear h
 by_cases c2 : a0 ≥ 3
 ·rw [if_pos c2] at H
  have c2b0 : decide (3 ≤ a0) = true := decide_eq_true c2
  clear c2
  by_cases c3 : a0 ≤ 8
  ·rw [if_pos c3] at H
   have c3b0 : decide (a0 ≤ 8) = true := decide_eq_true c3
   clear c3
   obtain rfl := Option.some.inj H
   go_enter Try.func91, Try.ntmps91
   go_wp2
   go_ret
   exact ⟨zQ, zD⟩
  ·rw [if_neg c3] at H
   have c3b0 : decide (a0 ≤ 8) = false := decide_eq_false c3
   clear c3
   by_cases c4 : a0 = 20
   ·rw [if_pos c4] at H
    have c4b0 : (a0 == 20) = true := beq_iff_eq.mpr c4
    have c4b1 : (a0 != 20) = false := bne_eq_false_iff_eq.mpr c4
    clear c4
    obtain rfl := Option.some.inj H
    go_enter Try.func91, Try.ntmps91
    go_wp2
    go_ret
    exact ⟨zQ, zD⟩
   ·rw [if_neg c4] at H
    have c4b0 : (a0 == 20) = false := beq_eq_false_iff_ne.mpr c4
    have c4b1 : (a0 != 20) = true := bne_iff_ne.mpr c4
    obtain rfl := Option.some.inj H
    go_enter Try.func91, Try.ntmps91
    go_wp2
    go_ret
    exact ⟨zQ, zD⟩
 ·rw [if_neg c2] at H
  have c2b0 : decide (3 ≤ a0) = false := decide_eq_false c2
  clear c2
  by_cases c5 : a0 = 20
  ·rw [if_pos c5] at H
   have c5b0 : (a0 == 20) = true := beq_iff_eq.mpr c5
   have c5b1 : (a0 != 20) = false := bne_eq_false_iff_eq.mpr c5
   clear c5
   obtain rfl := Option.some.inj H
   go_enter Try.func91, Try.ntmps91
   go_wp2
   go_ret
   exact ⟨zQ, zD⟩
  ·rw [if_neg c5] at H
   have c5b0 : (a0 == 20) = false := beq_eq_false_iff_ne.mpr c5
   have c5b1 : (a0 != 20) = true := bne_iff_ne.mpr c5
   obtain rfl := Option.some.inj H
   go_enter Try.func91, Try.ntmps91
   go_wp2
   go_ret
   exact ⟨zQ, zD⟩
end Go.Proofs.Ytgbpkbfghonllaa.P

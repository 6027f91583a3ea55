/- A text of this claim, what is not used left out. -/
import Derived.Test.YtlhaopjdpkhogaaIwP0
namespace Go.Proofs.Ytlhaopjdpkhogaa.P
open Go.RowKit Go.Proofs.YtlhaopjdpkhogaaW.PrintWords Go.Proofs.YtlhaopjdpkhogaaW.PrintLast Go.Proofs.YtlhaopjdpkhogaaW.PrintMore
attribute [local go_sem] max2_int min2_int max_two min_two max_three min_three max_four min_four   
set_option linter.unusedVariables false
set_option linter.unusedSimpArgs false
def mEnt : List (Int × Int) → Nat → List MapEntry
 | [], _ => []
 | p :: L, i => { key := .int .i64 p.1, val := .int .i64 p.2, born := i } :: mEnt L (i + 1)
def mObj (L : List (Int × Int)) : Obj := .map (mEnt L 0).toArray L.length
def assoc (L : List (Int × Int)) (k : Int) : Option Int := (L.find? (fun p => p.1 == k)).map (·.2)
theorem mEnt_snoc (p : Int × Int) : ∀ (L : List (Int × Int)) (i : Nat), mEnt (L ++ [p]) i = mEnt L i ++ [{ key := .int .i64 p.1, val := .int .i64 p.2, born := i + L.length }] := by
 intro L
 induction L with
 | nil => intro i; rfl
 | cons q L ih =>
  intro i
  show _ :: mEnt (L ++ [p]) (i + 1) = _ :: (mEnt L (i + 1) ++ _)
  rw [ih, show i + 1 + L.length = i + (q :: L).length by simp; omega]
theorem findNow_ints (k : Int) : ∀ (L : List (Int × Int)) (i j : Nat), ∃ r, Instr.findNow (.int .i64) (.int .i64 k) (mEnt L i) j = some r ∧ r.map (·.2) = (assoc L k).map (Value.int .i64) := by
 intro L
 induction L with
 | nil => intro i j; exact ⟨none, rfl, rfl⟩
 | cons q L ih =>
  intro i j
  by_cases h : k = q.1
  ·refine ⟨some (j, .int .i64 q.2), ?_, ?_⟩
   ·simp [mEnt, Instr.findNow, Instr.sameNow, h]
   ·simp [assoc, h]
  ·obtain ⟨r, h1, h2⟩ := ih (i + 1) (j + 1)
   refine ⟨r, ?_, ?_⟩
   ·have hb : (k == q.1) = false := by simp [h]
    simp [mEnt, Instr.findNow, Instr.sameNow, hb, h1]
   ·rw [h2]
    have : (q.1 == k) = false := by simp [Ne.symm h]
    simp [assoc, this]
section
variable {P : Program} {t kt : TypeId} {w : World} {L : List (Int × Int)}
theorem run_ins (ht : P.underlying t = some (.map kt kt)) (hk : P.underlying kt = some (.int .i64)) (k v : Int) (hn : assoc L k = none) :
  (Instr.mapUpdate t (.map (some w.heap.size)) (.int .i64 k) (.int .i64 v)).run P (w.alloc (mObj L)) = .ok () (w.alloc (mObj (L ++ [(k, v)]))) := by
 have hb : (w.alloc (mObj L)).heap[w.heap.size]? = some (.map (mEnt L 0).toArray L.length) := heap_alloc_new w _
 obtain ⟨r, h1, h2⟩ := findNow_ints k L 0 0
 rw [hn] at h2
 have h3 : r = none := by cases r <;> simp_all
 subst h3
 have hs : ∀ o : Obj, ({ (w.alloc (mObj L)) with heap := (w.alloc (mObj L)).heap.setIfInBounds w.heap.size o } : World) = w.alloc o := by
  intro o
  show ({ w with heap := (w.heap.push (mObj L)).setIfInBounds w.heap.size o } : World) = { w with heap := w.heap.push o }
  congr 1
  apply Array.ext_getElem?
  intro i
  rw [Array.getElem?_setIfInBounds, Array.getElem?_push, Array.getElem?_push]
  by_cases e : w.heap.size = i
  ·subst e; simp
  ·rw [if_neg e, if_neg (Ne.symm e), if_neg (Ne.symm e)]
 have h1' : Instr.findNow (.int .i64) (.int .i64 k) ((mEnt L 0).toArray.toList) 0 = some none := by simpa using h1
 simp [Instr.mapUpdate, run_underlying ht, Result.andThen, Go.MapKept.run_getObj_map hb, Go.MapKept.run_checkKey (w := w.alloc (mObj L)) hk (k := .int .i64 k) (show Go.MapKept.IsKey (.int .i64) (.int .i64 k) from rfl), Go.MapKept.run_findKey (w := w.alloc (mObj L)) hk h1', Go.MapKept.run_setObj_map _ hb]
 unfold mObj
 rw [mEnt_snoc]
 simp
 exact hs _
theorem run_look (ht : P.underlying t = some (.map kt kt)) (hk : P.underlying kt = some (.int .i64)) (hz : (P.info? kt).map (·.zero) = some (some (.int .i64 0))) (k : Int) :
  (Instr.lookup t (.map (some w.heap.size)) (.int .i64 k) false).run P (w.alloc (mObj L)) = .ok (.int .i64 ((assoc L k).getD 0)) (w.alloc (mObj L)) := by
 have hb : (w.alloc (mObj L)).heap[w.heap.size]? = some (.map (mEnt L 0).toArray L.length) := heap_alloc_new w _
 obtain ⟨r, h1, h2⟩ := findNow_ints k L 0 0
 have h1' : Instr.findNow (.int .i64) (.int .i64 k) ((mEnt L 0).toArray.toList) 0 = some r := by simpa using h1
 obtain ⟨i, hi, hi2⟩ := Option.map_eq_some_iff.1 hz
 have hzv : (zeroValue kt).run P (w.alloc (mObj L)) = .ok (.int .i64 0) (w.alloc (mObj L)) := by
  simp [zeroValue, typeInfo, hi, hi2, Result.andThen]
 simp [Instr.lookup, run_underlying ht, Result.andThen, Go.MapKept.run_getObj_map hb, Go.MapKept.run_checkKey (w := w.alloc (mObj L)) hk (k := .int .i64 k) (show Go.MapKept.IsKey (.int .i64) (.int .i64 k) from rfl), Go.MapKept.run_findKey (w := w.alloc (mObj L)) hk h1']
 cases ha : assoc L k with
 | none =>
  rw [ha] at h2
  have h3 : r = none := by cases r <;> simp_all
  subst h3
  simp [hzv]
 | some v =>
  rw [ha] at h2
  cases r with
  | none => simp at h2
  | some p => simp at h2; simp [h2]
end
def hasTab : List (Int × Int) := [(20, 17), (21, 33), (22, 1), (30, 14), (31, 258), (32, 262), (33, 262), (34, 262), (35, 262), (36, 258), (37, 262), (38, 258), (39, 577), (40, 2), (41, 64), (42, 194), (43, 2), (44, 1537), (45, 2055)]
def hasV (op : Int) : Int := if 3 ≤ op ∧ op ≤ 16 ∨ op = 29 then 7 else if 23 ≤ op ∧ op ≤ 28 then 3 else (assoc hasTab op).getD 0
theorem instr_zero : (Try.prog.info? 3).map (·.zero) = some (some (.int .i64 0)) := by kernel_rfl
set_option maxHeartbeats 4000000 in
theorem has_tab (op : Int) (w : World) (h1 : ¬ (3 ≤ op ∧ op ≤ 16)) (h2 : op ≠ 29) (h3 : ¬ (23 ≤ op ∧ op ≤ 28)) :
  Calls Try.prog 46 #[.int .i64 op] w fun e w' => e = .returned (.int .i64 (hasV op)) ∧ Below w.heap.size w w' := by
 have hv : hasV op = (assoc hasTab op).getD 0 := by
  unfold hasV
  rw [if_neg (by omega), if_neg h3]
 have HV := Aside0.mk hv
 have i0 : (Instr.mapUpdate 68 (.map (some w.heap.size)) (.int .i64 20) (.int .i64 17)).run Try.prog (w.alloc (mObj [])) = .ok () (w.alloc (mObj [(20, 17)])) := run_ins Try.underlying68 Try.underlying3 20 17 rfl
 have i1 : (Instr.mapUpdate 68 (.map (some w.heap.size)) (.int .i64 21) (.int .i64 33)).run Try.prog (w.alloc (mObj [(20, 17)])) = .ok () (w.alloc (mObj [(20, 17), (21, 33)])) := run_ins Try.underlying68 Try.underlying3 21 33 rfl
 have i2 : (Instr.mapUpdate 68 (.map (some w.heap.size)) (.int .i64 22) (.int .i64 1)).run Try.prog (w.alloc (mObj [(20, 17), (21, 33)])) = .ok () (w.alloc (mObj [(20, 17), (21, 33), (22, 1)])) := run_ins Try.underlying68 Try.underlying3 22 1 rfl
 have i3 : (Instr.mapUpdate 68 (.map (some w.heap.size)) (.int .i64 30) (.int .i64 14)).run Try.prog (w.alloc (mObj [(20, 17), (21, 33), (22, 1)])) = .ok () (w.alloc (mObj [(20, 17), (21, 33), (22, 1), (30, 14)])) := run_ins Try.underlying68 Try.underlying3 30 14 rfl
 have i4 : (Instr.mapUpdate 68 (.map (some w.heap.size)) (.int .i64 31) (.int .i64 258)).run Try.prog (w.alloc (mObj [(20, 17), (21, 33), (22, 1), (30, 14)])) = .ok () (w.alloc (mObj [(20, 17), (21, 33), (22, 1), (30, 14), (31, 258)])) := run_ins Try.underlying68 Try.underlying3 31 258 rfl
 have i5 : (Instr.mapUpdate 68 (.map (some w.heap.size)) (.int .i64 32) (.int .i64 262)).run Try.prog (w.alloc (mObj [(20, 17), (21, 33), (22, 1), (30, 14), (31, 258)])) = .ok () (w.alloc (mObj [(20, 17), (21, 33), (22, 1), (30, 14), (31, 258), (32, 262)])) := run_ins Try.underlying68 Try.underlying3 32 262 rfl
 have i6 : (Instr.mapUpdate 68 (.map (some w.heap.size)) (.int .i64 33) (.int .i64 262)).run Try.prog (w.alloc (mObj [(20, 17), (21, 33), (22, 1), (30, 14), (31, 258), (32, 262)])) = .ok () (w.alloc (mObj [(20, 17), (21, 33), (22, 1), (30, 14), (31, 258), (32, 262), (33, 262)])) := run_ins Try.underlying68 Try.underlying3 33 262 rfl
 have i7 : (Instr.mapUpdate 68 (.map (some w.heap.size)) (.int .i64 34) (.int .i64 262)).run Try.prog (w.alloc (mObj [(20, 17), (21, 33), (22, 1), (30, 14), (31, 258), (32, 262), (33, 262)])) = .ok () (w.alloc (mObj [(20, 17), (21, 33), (22, 1), (30, 14), (31, 258), (32, 262), (33, 262), (34, 262)])) := run_ins Try.underlying68 Try.underlying3 34 262 rfl
 have i8 : (Instr.mapUpdate 68 (.map (some w.heap.size)) (.int .i64 35) (.int .i64 262)).run Try.prog (w.alloc (mObj [(20, 17), (21, 33), (22, 1), (30, 14), (31, 258), (32, 262), (33, 262), (34, 262)])) = .ok () (w.alloc (mObj [(20, 17), (21, 33), (22, 1), (30, 14), (31, 258), (32, 262), (33, 262), (34, 262), (35, 262)])) := run_ins Try.underlying68 Try.underlying3 35 262 rfl
 have i9 : (Instr.mapUpdate 68 (.map (some w.heap.size)) (.int .i64 36) (.int .i64 258)).run Try.prog (w.alloc (mObj [(20, 17), (21, 33), (22, 1), (30, 14), (31, 258), (32, 262), (33, 262), (34, 262), (35, 262)])) = .ok () (w.alloc (mObj [(20, 17), (21, 33), (22, 1), (30, 14), (31, 258), (32, 262), (33, 262), (34, 262), (35, 262), (36, 258)])) := run_ins Try.underlying68 Try.underlying3 36 258 rfl
 have i10 : (Instr.mapUpdate 68 (.map (some w.heap.size)) (.int .i64 37) (.int .i64 262)).run Try.prog (w.alloc (mObj [(20, 17), (21, 33), (22, 1), (30, 14), (31, 258), (32, 262), (33, 262), (34, 262), (35, 262), (36, 258)])) = .ok () (w.alloc (mObj [(20, 17), (21, 33), (22, 1), (30, 14), (31, 258), (32, 262), (33, 262), (34, 262), (35, 262), (36, 258), (37, 262)])) := run_ins Try.underlying68 Try.underlying3 37 262 rfl
 have i11 : (Instr.mapUpdate 68 (.map (some w.heap.size)) (.int .i64 38) (.int .i64 258)).run Try.prog (w.alloc (mObj [(20, 17), (21, 33), (22, 1), (30, 14), (31, 258), (32, 262), (33, 262), (34, 262), (35, 262), (36, 258), (37, 262)])) = .ok () (w.alloc (mObj [(20, 17), (21, 33), (22, 1), (30, 14), (31, 258), (32, 262), (33, 262), (34, 262), (35, 262), (36, 258), (37, 262), (38, 258)])) := run_ins Try.underlying68 Try.underlying3 38 258 rfl
 have i12 : (Instr.mapUpdate 68 (.map (some w.heap.size)) (.int .i64 39) (.int .i64 577)).run Try.prog (w.alloc (mObj [(20, 17), (21, 33), (22, 1), (30, 14), (31, 258), (32, 262), (33, 262), (34, 262), (35, 262), (36, 258), (37, 262), (38, 258)])) = .ok () (w.alloc (mObj [(20, 17), (21, 33), (22, 1), (30, 14), (31, 258), (32, 262), (33, 262), (34, 262), (35, 262), (36, 258), (37, 262), (38, 258), (39, 577)])) := run_ins Try.underlying68 Try.underlying3 39 577 rfl
 have i13 : (Instr.mapUpdate 68 (.map (some w.heap.size)) (.int .i64 40) (.int .i64 2)).run Try.prog (w.alloc (mObj [(20, 17), (21, 33), (22, 1), (30, 14), (31, 258), (32, 262), (33, 262), (34, 262), (35, 262), (36, 258), (37, 262), (38, 258), (39, 577)])) = .ok () (w.alloc (mObj [(20, 17), (21, 33), (22, 1), (30, 14), (31, 258), (32, 262), (33, 262), (34, 262), (35, 262), (36, 258), (37, 262), (38, 258), (39, 577), (40, 2)])) := run_ins Try.underlying68 Try.underlying3 40 2 rfl
 have i14 : (Instr.mapUpdate 68 (.map (some w.heap.size)) (.int .i64 41) (.int .i64 64)).run Try.prog (w.alloc (mObj [(20, 17), (21, 33), (22, 1), (30, 14), (31, 258), (32, 262), (33, 262), (34, 262), (35, 262), (36, 258), (37, 262), (38, 258), (39, 577), (40, 2)])) = .ok () (w.alloc (mObj [(20, 17), (21, 33), (22, 1), (30, 14), (31, 258), (32, 262), (33, 262), (34, 262), (35, 262), (36, 258), (37, 262), (38, 258), (39, 577), (40, 2), (41, 64)])) := run_ins Try.underlying68 Try.underlying3 41 64 rfl
 have i15 : (Instr.mapUpdate 68 (.map (some w.heap.size)) (.int .i64 42) (.int .i64 194)).run Try.prog (w.alloc (mObj [(20, 17), (21, 33), (22, 1), (30, 14), (31, 258), (32, 262), (33, 262), (34, 262), (35, 262), (36, 258), (37, 262), (38, 258), (39, 577), (40, 2), (41, 64)])) = .ok () (w.alloc (mObj [(20, 17), (21, 33), (22, 1), (30, 14), (31, 258), (32, 262), (33, 262), (34, 262), (35, 262), (36, 258), (37, 262), (38, 258), (39, 577), (40, 2), (41, 64), (42, 194)])) := run_ins Try.underlying68 Try.underlying3 42 194 rfl
 have i16 : (Instr.mapUpdate 68 (.map (some w.heap.size)) (.int .i64 43) (.int .i64 2)).run Try.prog (w.alloc (mObj [(20, 17), (21, 33), (22, 1), (30, 14), (31, 258), (32, 262), (33, 262), (34, 262), (35, 262), (36, 258), (37, 262), (38, 258), (39, 577), (40, 2), (41, 64), (42, 194)])) = .ok () (w.alloc (mObj [(20, 17), (21, 33), (22, 1), (30, 14), (31, 258), (32, 262), (33, 262), (34, 262), (35, 262), (36, 258), (37, 262), (38, 258), (39, 577), (40, 2), (41, 64), (42, 194), (43, 2)])) := run_ins Try.underlying68 Try.underlying3 43 2 rfl
 have i17 : (Instr.mapUpdate 68 (.map (some w.heap.size)) (.int .i64 44) (.int .i64 1537)).run Try.prog (w.alloc (mObj [(20, 17), (21, 33), (22, 1), (30, 14), (31, 258), (32, 262), (33, 262), (34, 262), (35, 262), (36, 258), (37, 262), (38, 258), (39, 577), (40, 2), (41, 64), (42, 194), (43, 2)])) = .ok () (w.alloc (mObj [(20, 17), (21, 33), (22, 1), (30, 14), (31, 258), (32, 262), (33, 262), (34, 262), (35, 262), (36, 258), (37, 262), (38, 258), (39, 577), (40, 2), (41, 64), (42, 194), (43, 2), (44, 1537)])) := run_ins Try.underlying68 Try.underlying3 44 1537 rfl
 have i18 : (Instr.mapUpdate 68 (.map (some w.heap.size)) (.int .i64 45) (.int .i64 2055)).run Try.prog (w.alloc (mObj [(20, 17), (21, 33), (22, 1), (30, 14), (31, 258), (32, 262), (33, 262), (34, 262), (35, 262), (36, 258), (37, 262), (38, 258), (39, 577), (40, 2), (41, 64), (42, 194), (43, 2), (44, 1537)])) = .ok () (w.alloc (mObj [(20, 17), (21, 33), (22, 1), (30, 14), (31, 258), (32, 262), (33, 262), (34, 262), (35, 262), (36, 258), (37, 262), (38, 258), (39, 577), (40, 2), (41, 64), (42, 194), (43, 2), (44, 1537), (45, 2055)])) := run_ins Try.underlying68 Try.underlying3 45 2055 rfl
 have hlk : (Instr.lookup 68 (.map (some w.heap.size)) (.int .i64 op) false).run Try.prog (w.alloc (mObj [(20, 17), (21, 33), (22, 1), (30, 14), (31, 258), (32, 262), (33, 262), (34, 262), (35, 262), (36, 258), (37, 262), (38, 258), (39, 577), (40, 2), (41, 64), (42, 194), (43, 2), (44, 1537), (45, 2055)])) = .ok (.int .i64 ((assoc hasTab op).getD 0)) (w.alloc (mObj [(20, 17), (21, 33), (22, 1), (30, 14), (31, 258), (32, 262), (33, 262), (34, 262), (35, 262), (36, 258), (37, 262), (38, 258), (39, 577), (40, 2), (41, 64), (42, 194), (43, 2), (44, 1537), (45, 2055)])) := run_look (P := Try.prog) (w := w) (L := hasTab) Try.underlying68 Try.underlying3 instr_zero op
 have hmm : (Instr.makeMap 68 none).run Try.prog w = .ok (.map (some w.heap.size)) (w.alloc (mObj [])) := rfl
 have HB := Aside0.mk (Below.refl w.heap.size w)
 have t2 : (op == 29) = false := beq_eq_false_iff_ne.mpr h2
 have t2' : decide (op = 29) = false := decide_eq_false h2
 clear hv h2
 have go : ∀ b1 b2 b3 b4 : Bool, decide (3 ≤ op) = b1 → decide (op ≤ 16) = b2 → decide (23 ≤ op) = b3 → decide (op ≤ 28) = b4 → (b1 && b2) = false → (b3 && b4) = false → Calls Try.prog 46 #[.int .i64 op] w fun e w' => e = .returned (.int .i64 (hasV op)) ∧ Below w.heap.size w w' := by
  intro b1 b2 b3 b4 e1 e2 e3 e4 e5 e6
  clear h1 h3
  cases b1 <;> cases b2 <;> cases b3 <;> cases b4 <;> simp only [Bool.and_true, Bool.and_false, reduceCtorEq] at e5 e6
  all_goals
   clear e5 e6
   go_enter Try.func46, Try.ntmps46
   go_wp2
   go_ret
   refine ⟨?_, below_alloc HB.out _⟩
   rw [HV.out]
   rfl
 exact go _ _ _ _ rfl rfl rfl rfl (by by_cases c : 3 ≤ op <;> simp [c] <;> omega) (by by_cases c : 23 ≤ op <;> simp [c] <;> omega)
set_option maxHeartbeats 1000000 in
theorem has_seven (op : Int) (w : World) (h1 : 3 ≤ op ∧ op ≤ 16 ∨ op = 29) :
  Calls Try.prog 46 #[.int .i64 op] w fun e w' => e = .returned (.int .i64 7) ∧ Below w.heap.size w w' := by
 have HB := Aside0.mk (Below.refl w.heap.size w)
 rcases h1 with ⟨h1, h2⟩ | rfl
 ·have t1 : decide (3 ≤ op) = true := decide_eq_true h1
  have t2 : decide (op ≤ 16) = true := decide_eq_true h2
  go_enter Try.func46, Try.ntmps46
  go_wp2
  go_ret
  exact ⟨rfl, HB.out⟩
 ·go_enter Try.func46, Try.ntmps46
  go_wp2
  go_ret
  exact ⟨rfl, HB.out⟩
set_option maxHeartbeats 1000000 in
theorem has_three (op : Int) (w : World) (h1 : 23 ≤ op) (h2 : op ≤ 28) :
  Calls Try.prog 46 #[.int .i64 op] w fun e w' => e = .returned (.int .i64 3) ∧ Below w.heap.size w w' := by
 have HB := Aside0.mk (Below.refl w.heap.size w)
 have t1 : decide (3 ≤ op) = true := decide_eq_true (by omega)
 have t2 : decide (op ≤ 16) = false := decide_eq_false (by omega)
 have t3 : decide (23 ≤ op) = true := decide_eq_true h1
 have t4 : decide (op ≤ 28) = true := decide_eq_true h2
 have t5 : (op == 29) = false := beq_eq_false_iff_ne.mpr (by omega)
 have t5' : decide (op = 29) = false := decide_eq_false (by omega)
 go_enter Try.func46, Try.ntmps46
 go_wp2
 go_ret
 exact ⟨rfl, HB.out⟩
def instr_has.f (a0 : Int) : Option Int := some (hasV a0)
theorem instr_has.calls (a0 : Int) (r : Int) (w : World) (h : instr_has.f a0 = some r) :
  Calls Try.prog 46 #[.int .i64 a0] w fun e w' => e = .returned (.int .i64 r) ∧ Below w.heap.size w w' := by
 unfold instr_has.f at h
 obtain rfl := Option.some.inj h
 by_cases h1 : 3 ≤ a0 ∧ a0 ≤ 16 ∨ a0 = 29
 ·have e : hasV a0 = 7 := if_pos h1
  rw [e]
  exact has_seven a0 w h1
 ·by_cases h2 : 23 ≤ a0 ∧ a0 ≤ 28
  ·have e : hasV a0 = 3 := by unfold hasV; rw [if_neg h1, if_pos h2]
   rw [e]
   exact has_three a0 w h2.1 h2.2
  ·exact has_tab a0 w (by omega) (by omega) h2
def instr_tells.f (a0 : Int) : Option (Bool) := if a0 ≥ 3 then (if a0 ≤ 8 then (some true) else (if a0 = 20 then (some true) else (some (a0 == 21)))) else (if a0 = 20 then (some true) else (some (a0 == 21)))
set_option maxHeartbeats 8000000 in
set_option maxRecDepth 100000 in
theorem instr_tells.calls (a0 : Int) (r : Bool) (w : World) (h : instr_tells.f a0 = some r) :
  Calls Try.prog 61 #[.int .i64 a0] w fun e w' => e = .returned (.bool r) ∧ Drawn0 w w' := by
 have H : (if a0 ≥ 3 then (if a0 ≤ 8 then (some true) else (if a0 = 20 then (some true) else (some (a0 == 21)))) else (if a0 = 20 then (some true) else (some (a0 == 21)))) = some r := h
 clear h
 by_cases c2 : a0 ≥ 3
 ·rw [if_pos c2] at H
  have c2b0 : decide (3 ≤ a0) = true := decide_eq_true c2
  clear c2
  by_cases c3 : a0 ≤ 8
  ·rw [if_pos c3] at H
   have c3b0 : decide (a0 ≤ 8) = true := decide_eq_true c3
   clear c3
   obtain rfl := Option.some.inj H
   go_enter Try.func61, Try.ntmps61
   go_wp2
   go_ret
   exact ⟨by first | rfl | (simp; done) | (simp [*]; done), by repeat (first | exact Drawn0.refl _ | apply Drawn0.step)⟩
  ·rw [if_neg c3] at H
   have c3b0 : decide (a0 ≤ 8) = false := decide_eq_false c3
   clear c3
   by_cases c4 : a0 = 20
   ·rw [if_pos c4] at H
    have c4b0 : (a0 == 20) = true := beq_iff_eq.mpr c4
    have c4b1 : (a0 != 20) = false := bne_eq_false_iff_eq.mpr c4
    clear c4
    obtain rfl := Option.some.inj H
    go_enter Try.func61, Try.ntmps61
    go_wp2
    go_ret
    exact ⟨by first | rfl | (simp; done) | (simp [*]; done), by repeat (first | exact Drawn0.refl _ | apply Drawn0.step)⟩
   ·rw [if_neg c4] at H
    have c4b0 : (a0 == 20) = false := beq_eq_false_iff_ne.mpr c4
    have c4b1 : (a0 != 20) = true := bne_iff_ne.mpr c4
    obtain rfl := Option.some.inj H
    go_enter Try.func61, Try.ntmps61
    go_wp2
    go_ret
    exact ⟨by first | rfl | (simp; done) | (simp [*]; done), by repeat (first | exact Drawn0.refl _ | apply Drawn0.step)⟩
 ·rw [if_neg c2] at H
  have c2b0 : decide (3 ≤ a0) = false := decide_eq_false c2
  clear c2
  by_cases c5 : a0 = 20
  ·rw [if_pos c5] at H
   have c5b0 : (a0 == 20) = true := beq_iff_eq.mpr c5
   have c5b1 : (a0 != 20) = false := bne_eq_false_iff_eq.mpr c5
   clear c5
   obtain rfl := Option.some.inj H
   go_enter Try.func61, Try.ntmps61
   go_wp2
   go_ret
   exact ⟨by first | rfl | (simp; done) | (simp [*]; done), by repeat (first | exact Drawn0.refl _ | apply Drawn0.step)⟩
  ·rw [if_neg c5] at H
   have c5b0 : (a0 == 20) = false := beq_eq_false_iff_ne.mpr c5
   have c5b1 : (a0 != 20) = true := bne_iff_ne.mpr c5
   obtain rfl := Option.some.inj H
   go_enter Try.func61, Try.ntmps61
   go_wp2
   go_ret
   exact ⟨by first | rfl | (simp; done) | (simp [*]; done), by repeat (first | exact Drawn0.refl _ | apply Drawn0.step)⟩
def instr_fields.j0 : Nat → Int → Int → Int → Int → Int → Int → Int → Int → Int → List Int → Option (Bool)
 | 0, _, _, _, _, _, _, _, _, _, _ => none
 | k + 1, x1, x102000, x102001, x102002, x102003, x102004, x102005, x102006, x102007, x102008 => if (Go.bits .and .i64 x1 128) = 0 then (if (Go.bits .and .i64 x1 2048) = 0 then (some (x102006 == 0)) else ((instr_tells.f x102006).bind fun t102 => (if t102 = true then (if x102006 = 21 then (some (x102003 == 0)) else (some true)) else (some false)))) else (if x102006 ≥ 0 then (some (x102006 != x102005)) else (some false))
def instr_fields.f (k : Nat) (a0_0 : Int) (a0_1 : Int) (a0_2 : Int) (a0_3 : Int) (a0_4 : Int) (a0_5 : Int) (a0_6 : Int) (a0_7 : Int) (l0_8 : List Int) (a1 : Int) : Option (Bool) := if (Go.bits .and .i64 a1 16) = 0 then (if (Go.bits .and .i64 a1 32) = 0 then (if a0_5 < 0 then (some false) else (if (Go.bits .and .i64 a1 64) = 0 then (if a0_5 = 0 then (instr_fields.j0 k a1 a0_0 a0_1 a0_2 a0_3 a0_4 a0_5 a0_6 a0_7 l0_8) else (some false)) else (instr_fields.j0 k a1 a0_0 a0_1 a0_2 a0_3 a0_4 a0_5 a0_6 a0_7 l0_8))) else (if a0_5 = 0 then (instr_fields.j0 k a1 a0_0 a0_1 a0_2 a0_3 a0_4 a0_5 a0_6 a0_7 l0_8) else (if a0_5 = 1 then (instr_fields.j0 k a1 a0_0 a0_1 a0_2 a0_3 a0_4 a0_5 a0_6 a0_7 l0_8) else (some false)))) else (instr_fields.j0 k a1 a0_0 a0_1 a0_2 a0_3 a0_4 a0_5 a0_6 a0_7 l0_8)
set_option maxHeartbeats 8000000 in
set_option maxRecDepth 100000 in
theorem instr_fields.calls (k : Nat) (a0_0 : Int) (a0_1 : Int) (a0_2 : Int) (a0_3 : Int) (a0_4 : Int) (a0_5 : Int) (a0_6 : Int) (a0_7 : Int) (A0_8 : Option Addr) (c0_8 : Nat) (l0_8 : List Int) (a1 : Int) (r : Bool) (w : World) (hr0_8 : Kd.C (Kd.int .i64) w A0_8 l0_8.length l0_8) (hc0_8 : l0_8.length ≤ c0_8) (h : instr_fields.f k a0_0 a0_1 a0_2 a0_3 a0_4 a0_5 a0_6 a0_7 l0_8 a1 = some r) :
  Calls Try.prog 47 #[.agg #[.int .i64 a0_0, .int .i64 a0_1, .int .i64 a0_2, .int .i64 a0_3, .int .i64 a0_4, .int .i64 a0_5, .int .i64 a0_6, .int .i64 a0_7, .slice A0_8 l0_8.length c0_8], .int .i64 a1] w fun e w' => e = .returned (.bool r) ∧ Below w.heap.size w w' := by
 have hu24 := Try.underlying24
 have HR0_8 := Aside0.mk hr0_8
 have HC0_8 := Aside0.mk hc0_8
 clear hr0_8 hc0_8
 have HB := Aside0.mk (Below.refl w.heap.size w)
 have H : (if (Go.bits .and .i64 a1 16) = 0 then (if (Go.bits .and .i64 a1 32) = 0 then (if a0_5 < 0 then (some false) else (if (Go.bits .and .i64 a1 64) = 0 then (if a0_5 = 0 then (instr_fields.j0 k a1 a0_0 a0_1 a0_2 a0_3 a0_4 a0_5 a0_6 a0_7 l0_8) else (some false)) else (instr_fields.j0 k a1 a0_0 a0_1 a0_2 a0_3 a0_4 a0_5 a0_6 a0_7 l0_8))) else (if a0_5 = 0 then (instr_fields.j0 k a1 a0_0 a0_1 a0_2 a0_3 a0_4 a0_5 a0_6 a0_7 l0_8) else (if a0_5 = 1 then (instr_fields.j0 k a1 a0_0 a0_1 a0_2 a0_3 a0_4 a0_5 a0_6 a0_7 l0_8) else (some false)))) else (instr_fields.j0 k a1 a0_0 a0_1 a0_2 a0_3 a0_4 a0_5 a0_6 a0_7 l0_8)) = some r := h
 clear h
 have HC3 := Aside0.mk H
 clear H
 go_enter Try.func47, Try.ntmps47
 go_upto_block 0 with (first | ((with_reducible refine gate_dst (N := 2) rfl ?_); refine box_event ?hg (N := 2) ?hd (cs := #[.int .i64 a0_0, .int .i64 a0_1, .int .i64 a0_2, .int .i64 a0_3, .int .i64 a0_4, .int .i64 a0_5, .int .i64 a0_6, .int .i64 a0_7, .slice A0_8 l0_8.length c0_8]) (t := 24) ?hr ?_; (case hd => rfl); (case hg => rfl); (case hr => first | (go_simp; done) | (go_simp; rfl)); intro gb101 hg w4 hbox hb; have n0_ := Aside0.mk (below_step (zB) hb); have n1_ := Aside0.mk (hbox); have n2_ := Aside0.mk ((by rw [hg]; exact (below_size (zB)) : w.heap.size ≤ gb101)); have n3_ := Aside0.mk ((by rw [hg]; exact (below_size (zB)) : w.heap.size ≤ gb101)); clear HB; have HB := n0_; have BK101 := n1_; have GW101 := n2_; have GE101 := n3_; clear n0_ n1_ n2_ n3_; clear hb hbox hg))
 (try simp only [Act.put, List.setIfInBounds_toArray, List.set_cons_zero, List.set_cons_succ])
 go_cut [] (fun wc => ∃ (kq : Nat), Aside0 (instr_fields.j0 kq a1 a0_0 a0_1 a0_2 a0_3 a0_4 a0_5 a0_6 a0_7 l0_8 = some r) ∧ Aside0 (kq ≤ k) ∧ Aside0 (wc.heap[gb101]? = some (.cells #[.int .i64 a0_0, .int .i64 a0_1, .int .i64 a0_2, .int .i64 a0_3, .int .i64 a0_4, .int .i64 a0_5, .int .i64 a0_6, .int .i64 a0_7, (.slice A0_8 l0_8.length c0_8)] 24 (0, 0))) ∧ Aside0 (Below w.heap.size w wc))
 case first =>
  have H := HC3.out
  clear HC3
  by_cases c5 : (Go.bits .and .i64 a1 16) = 0
  ·rw [if_pos c5] at H
   have c5b0 : ((Go.bits .and .i64 a1 16) == 0) = true := beq_iff_eq.mpr c5
   have c5b1 : ((Go.bits .and .i64 a1 16) != 0) = false := bne_eq_false_iff_eq.mpr c5
   clear c5
   (first | rw [c5b0] | (simp only [i64_w, i32_w]; rw [c5b0]) | skip)
   by_cases c6 : (Go.bits .and .i64 a1 32) = 0
   ·rw [if_pos c6] at H
    have c6b0 : ((Go.bits .and .i64 a1 32) == 0) = true := beq_iff_eq.mpr c6
    have c6b1 : ((Go.bits .and .i64 a1 32) != 0) = false := bne_eq_false_iff_eq.mpr c6
    clear c6
    by_cases c7 : a0_5 < 0
    ·rw [if_pos c7] at H
     have c7b0 : decide (a0_5 < 0) = true := decide_eq_true c7
     clear c7
     obtain rfl := Option.some.inj H
     have hcz8_0 : w4.cell? ⟨gb101, 0, none⟩ = some (.int .i64 a0_0) := (blk_cell BK101.out 0).trans rfl
     have hcz8_1 : w4.cell? ⟨gb101, 1, none⟩ = some (.int .i64 a0_1) := (blk_cell BK101.out 1).trans rfl
     have hcz8_2 : w4.cell? ⟨gb101, 2, none⟩ = some (.int .i64 a0_2) := (blk_cell BK101.out 2).trans rfl
     have hcz8_3 : w4.cell? ⟨gb101, 3, none⟩ = some (.int .i64 a0_3) := (blk_cell BK101.out 3).trans rfl
     have hcz8_4 : w4.cell? ⟨gb101, 4, none⟩ = some (.int .i64 a0_4) := (blk_cell BK101.out 4).trans rfl
     have hcz8_5 : w4.cell? ⟨gb101, 5, none⟩ = some (.int .i64 a0_5) := (blk_cell BK101.out 5).trans rfl
     have hcz8_6 : w4.cell? ⟨gb101, 6, none⟩ = some (.int .i64 a0_6) := (blk_cell BK101.out 6).trans rfl
     have hcz8_7 : w4.cell? ⟨gb101, 7, none⟩ = some (.int .i64 a0_7) := (blk_cell BK101.out 7).trans rfl
     have hcz8_8 : w4.cell? ⟨gb101, 8, none⟩ = some (.slice A0_8 l0_8.length c0_8) := (blk_cell BK101.out 8).trans rfl
     have hfz8_0 := blk_frozen BK101.out 0
     have hfz8_1 := blk_frozen BK101.out 1
     have hfz8_2 := blk_frozen BK101.out 2
     have hfz8_3 := blk_frozen BK101.out 3
     have hfz8_4 := blk_frozen BK101.out 4
     have hfz8_5 := blk_frozen BK101.out 5
     have hfz8_6 := blk_frozen BK101.out 6
     have hfz8_7 := blk_frozen BK101.out 7
     have hfz8_8 := blk_frozen BK101.out 8
     go_wp2
     go_ret
     exact ⟨by first | rfl | (simp [errW_none, errW_some] <;> rfl) | (simp [*, errW_none, errW_some] <;> rfl), by repeat (first | (with_reducible first | exact HB.out | apply below_alloc | apply pw_below_drewN | apply below_drew1 | refine below_set ?_ GE101.out) | exact HB.out)⟩
    ·rw [if_neg c7] at H
     have c7b0 : decide (a0_5 < 0) = false := decide_eq_false c7
     clear c7
     by_cases c9 : (Go.bits .and .i64 a1 64) = 0
     ·rw [if_pos c9] at H
      have c9b0 : ((Go.bits .and .i64 a1 64) == 0) = true := beq_iff_eq.mpr c9
      have c9b1 : ((Go.bits .and .i64 a1 64) != 0) = false := bne_eq_false_iff_eq.mpr c9
      clear c9
      by_cases c10 : a0_5 = 0
      ·rw [if_pos c10] at H
       have c10b0 : (a0_5 == 0) = true := beq_iff_eq.mpr c10
       have c10b1 : (a0_5 != 0) = false := bne_eq_false_iff_eq.mpr c10
       clear c10
       have H' := Aside0.mk H
       clear H
       have hcz11_0 : w4.cell? ⟨gb101, 0, none⟩ = some (.int .i64 a0_0) := (blk_cell BK101.out 0).trans rfl
       have hcz11_1 : w4.cell? ⟨gb101, 1, none⟩ = some (.int .i64 a0_1) := (blk_cell BK101.out 1).trans rfl
       have hcz11_2 : w4.cell? ⟨gb101, 2, none⟩ = some (.int .i64 a0_2) := (blk_cell BK101.out 2).trans rfl
       have hcz11_3 : w4.cell? ⟨gb101, 3, none⟩ = some (.int .i64 a0_3) := (blk_cell BK101.out 3).trans rfl
       have hcz11_4 : w4.cell? ⟨gb101, 4, none⟩ = some (.int .i64 a0_4) := (blk_cell BK101.out 4).trans rfl
       have hcz11_5 : w4.cell? ⟨gb101, 5, none⟩ = some (.int .i64 a0_5) := (blk_cell BK101.out 5).trans rfl
       have hcz11_6 : w4.cell? ⟨gb101, 6, none⟩ = some (.int .i64 a0_6) := (blk_cell BK101.out 6).trans rfl
       have hcz11_7 : w4.cell? ⟨gb101, 7, none⟩ = some (.int .i64 a0_7) := (blk_cell BK101.out 7).trans rfl
       have hcz11_8 : w4.cell? ⟨gb101, 8, none⟩ = some (.slice A0_8 l0_8.length c0_8) := (blk_cell BK101.out 8).trans rfl
       have hfz11_0 := blk_frozen BK101.out 0
       have hfz11_1 := blk_frozen BK101.out 1
       have hfz11_2 := blk_frozen BK101.out 2
       have hfz11_3 := blk_frozen BK101.out 3
       have hfz11_4 := blk_frozen BK101.out 4
       have hfz11_5 := blk_frozen BK101.out 5
       have hfz11_6 := blk_frozen BK101.out 6
       have hfz11_7 := blk_frozen BK101.out 7
       have hfz11_8 := blk_frozen BK101.out 8
       go_wp2
       go_meet
       case rel => exact ⟨_, H', ⟨by first | omega | exact Nat.le_refl _⟩, ⟨by (with_reducible repeat (first | refine blk_drewN ?_ _ | refine blk_drew ?_ | refine blk_alloc ?_ _)); exact BK101.out⟩, ⟨by repeat (first | (with_reducible first | exact HB.out | apply below_alloc | apply pw_below_drewN | apply below_drew1 | refine below_set ?_ GE101.out) | exact HB.out)⟩⟩
      ·rw [if_neg c10] at H
       have c10b0 : (a0_5 == 0) = false := beq_eq_false_iff_ne.mpr c10
       have c10b1 : (a0_5 != 0) = true := bne_iff_ne.mpr c10
       obtain rfl := Option.some.inj H
       have hcz12_0 : w4.cell? ⟨gb101, 0, none⟩ = some (.int .i64 a0_0) := (blk_cell BK101.out 0).trans rfl
       have hcz12_1 : w4.cell? ⟨gb101, 1, none⟩ = some (.int .i64 a0_1) := (blk_cell BK101.out 1).trans rfl
       have hcz12_2 : w4.cell? ⟨gb101, 2, none⟩ = some (.int .i64 a0_2) := (blk_cell BK101.out 2).trans rfl
       have hcz12_3 : w4.cell? ⟨gb101, 3, none⟩ = some (.int .i64 a0_3) := (blk_cell BK101.out 3).trans rfl
       have hcz12_4 : w4.cell? ⟨gb101, 4, none⟩ = some (.int .i64 a0_4) := (blk_cell BK101.out 4).trans rfl
       have hcz12_5 : w4.cell? ⟨gb101, 5, none⟩ = some (.int .i64 a0_5) := (blk_cell BK101.out 5).trans rfl
       have hcz12_6 : w4.cell? ⟨gb101, 6, none⟩ = some (.int .i64 a0_6) := (blk_cell BK101.out 6).trans rfl
       have hcz12_7 : w4.cell? ⟨gb101, 7, none⟩ = some (.int .i64 a0_7) := (blk_cell BK101.out 7).trans rfl
       have hcz12_8 : w4.cell? ⟨gb101, 8, none⟩ = some (.slice A0_8 l0_8.length c0_8) := (blk_cell BK101.out 8).trans rfl
       have hfz12_0 := blk_frozen BK101.out 0
       have hfz12_1 := blk_frozen BK101.out 1
       have hfz12_2 := blk_frozen BK101.out 2
       have hfz12_3 := blk_frozen BK101.out 3
       have hfz12_4 := blk_frozen BK101.out 4
       have hfz12_5 := blk_frozen BK101.out 5
       have hfz12_6 := blk_frozen BK101.out 6
       have hfz12_7 := blk_frozen BK101.out 7
       have hfz12_8 := blk_frozen BK101.out 8
       go_wp2
       go_ret
       exact ⟨by first | rfl | (simp [errW_none, errW_some] <;> rfl) | (simp [*, errW_none, errW_some] <;> rfl), by repeat (first | (with_reducible first | exact HB.out | apply below_alloc | apply pw_below_drewN | apply below_drew1 | refine below_set ?_ GE101.out) | exact HB.out)⟩
     ·rw [if_neg c9] at H
      have c9b0 : ((Go.bits .and .i64 a1 64) == 0) = false := beq_eq_false_iff_ne.mpr c9
      have c9b1 : ((Go.bits .and .i64 a1 64) != 0) = true := bne_iff_ne.mpr c9
      have H' := Aside0.mk H
      clear H
      have hcz13_0 : w4.cell? ⟨gb101, 0, none⟩ = some (.int .i64 a0_0) := (blk_cell BK101.out 0).trans rfl
      have hcz13_1 : w4.cell? ⟨gb101, 1, none⟩ = some (.int .i64 a0_1) := (blk_cell BK101.out 1).trans rfl
      have hcz13_2 : w4.cell? ⟨gb101, 2, none⟩ = some (.int .i64 a0_2) := (blk_cell BK101.out 2).trans rfl
      have hcz13_3 : w4.cell? ⟨gb101, 3, none⟩ = some (.int .i64 a0_3) := (blk_cell BK101.out 3).trans rfl
      have hcz13_4 : w4.cell? ⟨gb101, 4, none⟩ = some (.int .i64 a0_4) := (blk_cell BK101.out 4).trans rfl
      have hcz13_5 : w4.cell? ⟨gb101, 5, none⟩ = some (.int .i64 a0_5) := (blk_cell BK101.out 5).trans rfl
      have hcz13_6 : w4.cell? ⟨gb101, 6, none⟩ = some (.int .i64 a0_6) := (blk_cell BK101.out 6).trans rfl
      have hcz13_7 : w4.cell? ⟨gb101, 7, none⟩ = some (.int .i64 a0_7) := (blk_cell BK101.out 7).trans rfl
      have hcz13_8 : w4.cell? ⟨gb101, 8, none⟩ = some (.slice A0_8 l0_8.length c0_8) := (blk_cell BK101.out 8).trans rfl
      have hfz13_0 := blk_frozen BK101.out 0
      have hfz13_1 := blk_frozen BK101.out 1
      have hfz13_2 := blk_frozen BK101.out 2
      have hfz13_3 := blk_frozen BK101.out 3
      have hfz13_4 := blk_frozen BK101.out 4
      have hfz13_5 := blk_frozen BK101.out 5
      have hfz13_6 := blk_frozen BK101.out 6
      have hfz13_7 := blk_frozen BK101.out 7
      have hfz13_8 := blk_frozen BK101.out 8
      go_wp2
      go_meet
      case rel => exact ⟨_, H', ⟨by first | omega | exact Nat.le_refl _⟩, ⟨by (with_reducible repeat (first | refine blk_drewN ?_ _ | refine blk_drew ?_ | refine blk_alloc ?_ _)); exact BK101.out⟩, ⟨by repeat (first | (with_reducible first | exact HB.out | apply below_alloc | apply pw_below_drewN | apply below_drew1 | refine below_set ?_ GE101.out) | exact HB.out)⟩⟩
   ·rw [if_neg c6] at H
    have c6b0 : ((Go.bits .and .i64 a1 32) == 0) = false := beq_eq_false_iff_ne.mpr c6
    have c6b1 : ((Go.bits .and .i64 a1 32) != 0) = true := bne_iff_ne.mpr c6
    by_cases c14 : a0_5 = 0
    ·rw [if_pos c14] at H
     have c14b0 : (a0_5 == 0) = true := beq_iff_eq.mpr c14
     have c14b1 : (a0_5 != 0) = false := bne_eq_false_iff_eq.mpr c14
     clear c14
     have H' := Aside0.mk H
     clear H
     have hcz15_0 : w4.cell? ⟨gb101, 0, none⟩ = some (.int .i64 a0_0) := (blk_cell BK101.out 0).trans rfl
     have hcz15_1 : w4.cell? ⟨gb101, 1, none⟩ = some (.int .i64 a0_1) := (blk_cell BK101.out 1).trans rfl
     have hcz15_2 : w4.cell? ⟨gb101, 2, none⟩ = some (.int .i64 a0_2) := (blk_cell BK101.out 2).trans rfl
     have hcz15_3 : w4.cell? ⟨gb101, 3, none⟩ = some (.int .i64 a0_3) := (blk_cell BK101.out 3).trans rfl
     have hcz15_4 : w4.cell? ⟨gb101, 4, none⟩ = some (.int .i64 a0_4) := (blk_cell BK101.out 4).trans rfl
     have hcz15_5 : w4.cell? ⟨gb101, 5, none⟩ = some (.int .i64 a0_5) := (blk_cell BK101.out 5).trans rfl
     have hcz15_6 : w4.cell? ⟨gb101, 6, none⟩ = some (.int .i64 a0_6) := (blk_cell BK101.out 6).trans rfl
     have hcz15_7 : w4.cell? ⟨gb101, 7, none⟩ = some (.int .i64 a0_7) := (blk_cell BK101.out 7).trans rfl
     have hcz15_8 : w4.cell? ⟨gb101, 8, none⟩ = some (.slice A0_8 l0_8.length c0_8) := (blk_cell BK101.out 8).trans rfl
     have hfz15_0 := blk_frozen BK101.out 0
     have hfz15_1 := blk_frozen BK101.out 1
     have hfz15_2 := blk_frozen BK101.out 2
     have hfz15_3 := blk_frozen BK101.out 3
     have hfz15_4 := blk_frozen BK101.out 4
     have hfz15_5 := blk_frozen BK101.out 5
     have hfz15_6 := blk_frozen BK101.out 6
     have hfz15_7 := blk_frozen BK101.out 7
     have hfz15_8 := blk_frozen BK101.out 8
     go_wp2
     go_meet
     case rel => exact ⟨_, H', ⟨by first | omega | exact Nat.le_refl _⟩, ⟨by (with_reducible repeat (first | refine blk_drewN ?_ _ | refine blk_drew ?_ | refine blk_alloc ?_ _)); exact BK101.out⟩, ⟨by repeat (first | (with_reducible first | exact HB.out | apply below_alloc | apply pw_below_drewN | apply below_drew1 | refine below_set ?_ GE101.out) | exact HB.out)⟩⟩
    ·rw [if_neg c14] at H
     have c14b0 : (a0_5 == 0) = false := beq_eq_false_iff_ne.mpr c14
     have c14b1 : (a0_5 != 0) = true := bne_iff_ne.mpr c14
     by_cases c16 : a0_5 = 1
     ·rw [if_pos c16] at H
      have c16b0 : (a0_5 == 1) = true := beq_iff_eq.mpr c16
      have c16b1 : (a0_5 != 1) = false := bne_eq_false_iff_eq.mpr c16
      clear c16
      have H' := Aside0.mk H
      clear H
      have hcz17_0 : w4.cell? ⟨gb101, 0, none⟩ = some (.int .i64 a0_0) := (blk_cell BK101.out 0).trans rfl
      have hcz17_1 : w4.cell? ⟨gb101, 1, none⟩ = some (.int .i64 a0_1) := (blk_cell BK101.out 1).trans rfl
      have hcz17_2 : w4.cell? ⟨gb101, 2, none⟩ = some (.int .i64 a0_2) := (blk_cell BK101.out 2).trans rfl
      have hcz17_3 : w4.cell? ⟨gb101, 3, none⟩ = some (.int .i64 a0_3) := (blk_cell BK101.out 3).trans rfl
      have hcz17_4 : w4.cell? ⟨gb101, 4, none⟩ = some (.int .i64 a0_4) := (blk_cell BK101.out 4).trans rfl
      have hcz17_5 : w4.cell? ⟨gb101, 5, none⟩ = some (.int .i64 a0_5) := (blk_cell BK101.out 5).trans rfl
      have hcz17_6 : w4.cell? ⟨gb101, 6, none⟩ = some (.int .i64 a0_6) := (blk_cell BK101.out 6).trans rfl
      have hcz17_7 : w4.cell? ⟨gb101, 7, none⟩ = some (.int .i64 a0_7) := (blk_cell BK101.out 7).trans rfl
      have hcz17_8 : w4.cell? ⟨gb101, 8, none⟩ = some (.slice A0_8 l0_8.length c0_8) := (blk_cell BK101.out 8).trans rfl
      have hfz17_0 := blk_frozen BK101.out 0
      have hfz17_1 := blk_frozen BK101.out 1
      have hfz17_2 := blk_frozen BK101.out 2
      have hfz17_3 := blk_frozen BK101.out 3
      have hfz17_4 := blk_frozen BK101.out 4
      have hfz17_5 := blk_frozen BK101.out 5
      have hfz17_6 := blk_frozen BK101.out 6
      have hfz17_7 := blk_frozen BK101.out 7
      have hfz17_8 := blk_frozen BK101.out 8
      go_wp2
      go_meet
      case rel => exact ⟨_, H', ⟨by first | omega | exact Nat.le_refl _⟩, ⟨by (with_reducible repeat (first | refine blk_drewN ?_ _ | refine blk_drew ?_ | refine blk_alloc ?_ _)); exact BK101.out⟩, ⟨by repeat (first | (with_reducible first | exact HB.out | apply below_alloc | apply pw_below_drewN | apply below_drew1 | refine below_set ?_ GE101.out) | exact HB.out)⟩⟩
     ·rw [if_neg c16] at H
      have c16b0 : (a0_5 == 1) = false := beq_eq_false_iff_ne.mpr c16
      have c16b1 : (a0_5 != 1) = true := bne_iff_ne.mpr c16
      obtain rfl := Option.some.inj H
      have hcz18_0 : w4.cell? ⟨gb101, 0, none⟩ = some (.int .i64 a0_0) := (blk_cell BK101.out 0).trans rfl
      have hcz18_1 : w4.cell? ⟨gb101, 1, none⟩ = some (.int .i64 a0_1) := (blk_cell BK101.out 1).trans rfl
      have hcz18_2 : w4.cell? ⟨gb101, 2, none⟩ = some (.int .i64 a0_2) := (blk_cell BK101.out 2).trans rfl
      have hcz18_3 : w4.cell? ⟨gb101, 3, none⟩ = some (.int .i64 a0_3) := (blk_cell BK101.out 3).trans rfl
      have hcz18_4 : w4.cell? ⟨gb101, 4, none⟩ = some (.int .i64 a0_4) := (blk_cell BK101.out 4).trans rfl
      have hcz18_5 : w4.cell? ⟨gb101, 5, none⟩ = some (.int .i64 a0_5) := (blk_cell BK101.out 5).trans rfl
      have hcz18_6 : w4.cell? ⟨gb101, 6, none⟩ = some (.int .i64 a0_6) := (blk_cell BK101.out 6).trans rfl
      have hcz18_7 : w4.cell? ⟨gb101, 7, none⟩ = some (.int .i64 a0_7) := (blk_cell BK101.out 7).trans rfl
      have hcz18_8 : w4.cell? ⟨gb101, 8, none⟩ = some (.slice A0_8 l0_8.length c0_8) := (blk_cell BK101.out 8).trans rfl
      have hfz18_0 := blk_frozen BK101.out 0
      have hfz18_1 := blk_frozen BK101.out 1
      have hfz18_2 := blk_frozen BK101.out 2
      have hfz18_3 := blk_frozen BK101.out 3
      have hfz18_4 := blk_frozen BK101.out 4
      have hfz18_5 := blk_frozen BK101.out 5
      have hfz18_6 := blk_frozen BK101.out 6
      have hfz18_7 := blk_frozen BK101.out 7
      have hfz18_8 := blk_frozen BK101.out 8
      go_wp2
      go_ret
      exact ⟨by first | rfl | (simp [errW_none, errW_some] <;> rfl) | (simp [*, errW_none, errW_some] <;> rfl), by repeat (first | (with_reducible first | exact HB.out | apply below_alloc | apply pw_below_drewN | apply below_drew1 | refine below_set ?_ GE101.out) | exact HB.out)⟩
  ·rw [if_neg c5] at H
   have c5b0 : ((Go.bits .and .i64 a1 16) == 0) = false := beq_eq_false_iff_ne.mpr c5
   have c5b1 : ((Go.bits .and .i64 a1 16) != 0) = true := bne_iff_ne.mpr c5
   (first | rw [c5b0] | (simp only [i64_w, i32_w]; rw [c5b0]) | skip)
   have H' := Aside0.mk H
   clear H
   go_wp2
   go_meet
   case rel => exact ⟨_, H', ⟨by first | omega | exact Nat.le_refl _⟩, ⟨by (with_reducible repeat (first | refine blk_drewN ?_ _ | refine blk_drew ?_ | refine blk_alloc ?_ _)); exact BK101.out⟩, ⟨by repeat (first | (with_reducible first | exact HB.out | apply below_alloc | apply pw_below_drewN | apply below_drew1 | refine below_set ?_ GE101.out) | exact HB.out)⟩⟩
 case rest =>
  clear HC3
  try clear c1
  try clear p2
  try clear c4
  try clear c5
  try clear c5b0
  try clear c5b1
  try clear c6
  try clear c6b0
  try clear c6b1
  try clear c7
  try clear c7b0
  try clear c9
  try clear c9b0
  try clear c9b1
  try clear c10
  try clear c10b0
  try clear c10b1
  try clear c14
  try clear c14b0
  try clear c14b1
  try clear c16
  try clear c16b0
  try clear c16b1
  try clear hcz11_0
  try clear hcz11_1
  try clear hcz11_2
  try clear hcz11_3
  try clear hcz11_4
  try clear hcz11_5
  try clear hcz11_6
  try clear hcz11_7
  try clear hcz11_8
  try clear hcz12_0
  try clear hcz12_1
  try clear hcz12_2
  try clear hcz12_3
  try clear hcz12_4
  try clear hcz12_5
  try clear hcz12_6
  try clear hcz12_7
  try clear hcz12_8
  try clear hcz13_0
  try clear hcz13_1
  try clear hcz13_2
  try clear hcz13_3
  try clear hcz13_4
  try clear hcz13_5
  try clear hcz13_6
  try clear hcz13_7
  try clear hcz13_8
  try clear hcz15_0
  try clear hcz15_1
  try clear hcz15_2
  try clear hcz15_3
  try clear hcz15_4
  try clear hcz15_5
  try clear hcz15_6
  try clear hcz15_7
  try clear hcz15_8
  try clear hcz17_0
  try clear hcz17_1
  try clear hcz17_2
  try clear hcz17_3
  try clear hcz17_4
  try clear hcz17_5
  try clear hcz17_6
  try clear hcz17_7
  try clear hcz17_8
  try clear hcz18_0
  try clear hcz18_1
  try clear hcz18_2
  try clear hcz18_3
  try clear hcz18_4
  try clear hcz18_5
  try clear hcz18_6
  try clear hcz18_7
  try clear hcz18_8
  try clear hcz8_0
  try clear hcz8_1
  try clear hcz8_2
  try clear hcz8_3
  try clear hcz8_4
  try clear hcz8_5
  try clear hcz8_6
  try clear hcz8_7
  try clear hcz8_8
  try clear hfz11_0
  try clear hfz11_1
  try clear hfz11_2
  try clear hfz11_3
  try clear hfz11_4
  try clear hfz11_5
  try clear hfz11_6
  try clear hfz11_7
  try clear hfz11_8
  try clear hfz12_0
  try clear hfz12_1
  try clear hfz12_2
  try clear hfz12_3
  try clear hfz12_4
  try clear hfz12_5
  try clear hfz12_6
  try clear hfz12_7
  try clear hfz12_8
  try clear hfz13_0
  try clear hfz13_1
  try clear hfz13_2
  try clear hfz13_3
  try clear hfz13_4
  try clear hfz13_5
  try clear hfz13_6
  try clear hfz13_7
  try clear hfz13_8
  try clear hfz15_0
  try clear hfz15_1
  try clear hfz15_2
  try clear hfz15_3
  try clear hfz15_4
  try clear hfz15_5
  try clear hfz15_6
  try clear hfz15_7
  try clear hfz15_8
  try clear hfz17_0
  try clear hfz17_1
  try clear hfz17_2
  try clear hfz17_3
  try clear hfz17_4
  try clear hfz17_5
  try clear hfz17_6
  try clear hfz17_7
  try clear hfz17_8
  try clear hfz18_0
  try clear hfz18_1
  try clear hfz18_2
  try clear hfz18_3
  try clear hfz18_4
  try clear hfz18_5
  try clear hfz18_6
  try clear hfz18_7
  try clear hfz18_8
  try clear hfz8_0
  try clear hfz8_1
  try clear hfz8_2
  try clear hfz8_3
  try clear hfz8_4
  try clear hfz8_5
  try clear hfz8_6
  try clear hfz8_7
  try clear hfz8_8
  obtain ⟨kq, HA, HJ2, BK101, HB⟩ := hcut
  cases kq with
  | zero => exact absurd HA.out (by simp [instr_fields.j0])
  | succ kj2 =>
   have H := HA.out
   clear HA
   simp only [instr_fields.j0] at H
   by_cases c19 : (Go.bits .and .i64 a1 128) = 0
   ·rw [if_pos c19] at H
    have c19b0 : ((Go.bits .and .i64 a1 128) == 0) = true := beq_iff_eq.mpr c19
    have c19b1 : ((Go.bits .and .i64 a1 128) != 0) = false := bne_eq_false_iff_eq.mpr c19
    clear c19
    by_cases c20 : (Go.bits .and .i64 a1 2048) = 0
    ·rw [if_pos c20] at H
     have c20b0 : ((Go.bits .and .i64 a1 2048) == 0) = true := beq_iff_eq.mpr c20
     have c20b1 : ((Go.bits .and .i64 a1 2048) != 0) = false := bne_eq_false_iff_eq.mpr c20
     clear c20
     obtain rfl := Option.some.inj H
     have hcz21_0 : wc.cell? ⟨gb101, 0, none⟩ = some (.int .i64 a0_0) := (blk_cell BK101.out 0).trans rfl
     have hcz21_1 : wc.cell? ⟨gb101, 1, none⟩ = some (.int .i64 a0_1) := (blk_cell BK101.out 1).trans rfl
     have hcz21_2 : wc.cell? ⟨gb101, 2, none⟩ = some (.int .i64 a0_2) := (blk_cell BK101.out 2).trans rfl
     have hcz21_3 : wc.cell? ⟨gb101, 3, none⟩ = some (.int .i64 a0_3) := (blk_cell BK101.out 3).trans rfl
     have hcz21_4 : wc.cell? ⟨gb101, 4, none⟩ = some (.int .i64 a0_4) := (blk_cell BK101.out 4).trans rfl
     have hcz21_5 : wc.cell? ⟨gb101, 5, none⟩ = some (.int .i64 a0_5) := (blk_cell BK101.out 5).trans rfl
     have hcz21_6 : wc.cell? ⟨gb101, 6, none⟩ = some (.int .i64 a0_6) := (blk_cell BK101.out 6).trans rfl
     have hcz21_7 : wc.cell? ⟨gb101, 7, none⟩ = some (.int .i64 a0_7) := (blk_cell BK101.out 7).trans rfl
     have hcz21_8 : wc.cell? ⟨gb101, 8, none⟩ = some (.slice A0_8 l0_8.length c0_8) := (blk_cell BK101.out 8).trans rfl
     have hfz21_0 := blk_frozen BK101.out 0
     have hfz21_1 := blk_frozen BK101.out 1
     have hfz21_2 := blk_frozen BK101.out 2
     have hfz21_3 := blk_frozen BK101.out 3
     have hfz21_4 := blk_frozen BK101.out 4
     have hfz21_5 := blk_frozen BK101.out 5
     have hfz21_6 := blk_frozen BK101.out 6
     have hfz21_7 := blk_frozen BK101.out 7
     have hfz21_8 := blk_frozen BK101.out 8
     go_wp2
     go_ret
     exact ⟨by first | rfl | (simp [errW_none, errW_some] <;> rfl) | (simp [*, errW_none, errW_some] <;> rfl), by repeat (first | (with_reducible first | exact HB.out | apply below_alloc | apply pw_below_drewN | apply below_drew1 | refine below_set ?_ GE101.out) | exact HB.out)⟩
    ·rw [if_neg c20] at H
     have c20b0 : ((Go.bits .and .i64 a1 2048) == 0) = false := beq_eq_false_iff_ne.mpr c20
     have c20b1 : ((Go.bits .and .i64 a1 2048) != 0) = true := bne_iff_ne.mpr c20
     replace H := Option.bind_eq_some_iff.mp H
     obtain ⟨t102, A220, H⟩ := H
     replace H : (if t102 = true then (if a0_6 = 21 then (some (a0_3 == 0)) else (some true)) else (some false)) = some r := H
     have A22 := Aside0.mk A220
     clear A220
     by_cases c23 : t102 = true
     ·subst c23
      have H1 : (if a0_6 = 21 then (some (a0_3 == 0)) else (some true)) = some r := by rw [if_pos rfl] at H; exact H
      clear H
      have H := H1
      clear H1
      by_cases c24 : a0_6 = 21
      ·rw [if_pos c24] at H
       have c24b0 : (a0_6 == 21) = true := beq_iff_eq.mpr c24
       have c24b1 : (a0_6 != 21) = false := bne_eq_false_iff_eq.mpr c24
       clear c24
       obtain rfl := Option.some.inj H
       have hcz25_0 : wc.cell? ⟨gb101, 0, none⟩ = some (.int .i64 a0_0) := (blk_cell BK101.out 0).trans rfl
       have hcz25_1 : wc.cell? ⟨gb101, 1, none⟩ = some (.int .i64 a0_1) := (blk_cell BK101.out 1).trans rfl
       have hcz25_2 : wc.cell? ⟨gb101, 2, none⟩ = some (.int .i64 a0_2) := (blk_cell BK101.out 2).trans rfl
       have hcz25_3 : wc.cell? ⟨gb101, 3, none⟩ = some (.int .i64 a0_3) := (blk_cell BK101.out 3).trans rfl
       have hcz25_4 : wc.cell? ⟨gb101, 4, none⟩ = some (.int .i64 a0_4) := (blk_cell BK101.out 4).trans rfl
       have hcz25_5 : wc.cell? ⟨gb101, 5, none⟩ = some (.int .i64 a0_5) := (blk_cell BK101.out 5).trans rfl
       have hcz25_6 : wc.cell? ⟨gb101, 6, none⟩ = some (.int .i64 a0_6) := (blk_cell BK101.out 6).trans rfl
       have hcz25_7 : wc.cell? ⟨gb101, 7, none⟩ = some (.int .i64 a0_7) := (blk_cell BK101.out 7).trans rfl
       have hcz25_8 : wc.cell? ⟨gb101, 8, none⟩ = some (.slice A0_8 l0_8.length c0_8) := (blk_cell BK101.out 8).trans rfl
       have hfz25_0 := blk_frozen BK101.out 0
       have hfz25_1 := blk_frozen BK101.out 1
       have hfz25_2 := blk_frozen BK101.out 2
       have hfz25_3 := blk_frozen BK101.out 3
       have hfz25_4 := blk_frozen BK101.out 4
       have hfz25_5 := blk_frozen BK101.out 5
       have hfz25_6 := blk_frozen BK101.out 6
       have hfz25_7 := blk_frozen BK101.out 7
       have hfz25_8 := blk_frozen BK101.out 8
       go_wp2_with (first | ((with_reducible refine gate_callee (f := 61) rfl ?_); refine goesL_ (some 55) rfl rfl Try.func61 (by kernel_rfl) rfl #[.int .i64 a0_6] rfl zE ?_; (with_reducible refine (instr_tells.calls a0_6 true _ A22.out).mono ?_); rintro e w' ⟨rfl, ⟨nd, rfl⟩⟩; refine ⟨_, rfl, ?_⟩))
       go_ret
       exact ⟨by first | rfl | (simp [errW_none, errW_some] <;> rfl) | (simp [*, errW_none, errW_some] <;> rfl), by repeat (first | (with_reducible first | exact HB.out | apply below_alloc | apply pw_below_drewN | apply below_drew1 | refine below_set ?_ GE101.out) | exact HB.out)⟩
      ·rw [if_neg c24] at H
       have c24b0 : (a0_6 == 21) = false := beq_eq_false_iff_ne.mpr c24
       have c24b1 : (a0_6 != 21) = true := bne_iff_ne.mpr c24
       obtain rfl := Option.some.inj H
       have hcz26_0 : wc.cell? ⟨gb101, 0, none⟩ = some (.int .i64 a0_0) := (blk_cell BK101.out 0).trans rfl
       have hcz26_1 : wc.cell? ⟨gb101, 1, none⟩ = some (.int .i64 a0_1) := (blk_cell BK101.out 1).trans rfl
       have hcz26_2 : wc.cell? ⟨gb101, 2, none⟩ = some (.int .i64 a0_2) := (blk_cell BK101.out 2).trans rfl
       have hcz26_3 : wc.cell? ⟨gb101, 3, none⟩ = some (.int .i64 a0_3) := (blk_cell BK101.out 3).trans rfl
       have hcz26_4 : wc.cell? ⟨gb101, 4, none⟩ = some (.int .i64 a0_4) := (blk_cell BK101.out 4).trans rfl
       have hcz26_5 : wc.cell? ⟨gb101, 5, none⟩ = some (.int .i64 a0_5) := (blk_cell BK101.out 5).trans rfl
       have hcz26_6 : wc.cell? ⟨gb101, 6, none⟩ = some (.int .i64 a0_6) := (blk_cell BK101.out 6).trans rfl
       have hcz26_7 : wc.cell? ⟨gb101, 7, none⟩ = some (.int .i64 a0_7) := (blk_cell BK101.out 7).trans rfl
       have hcz26_8 : wc.cell? ⟨gb101, 8, none⟩ = some (.slice A0_8 l0_8.length c0_8) := (blk_cell BK101.out 8).trans rfl
       have hfz26_0 := blk_frozen BK101.out 0
       have hfz26_1 := blk_frozen BK101.out 1
       have hfz26_2 := blk_frozen BK101.out 2
       have hfz26_3 := blk_frozen BK101.out 3
       have hfz26_4 := blk_frozen BK101.out 4
       have hfz26_5 := blk_frozen BK101.out 5
       have hfz26_6 := blk_frozen BK101.out 6
       have hfz26_7 := blk_frozen BK101.out 7
       have hfz26_8 := blk_frozen BK101.out 8
       go_wp2_with (first | ((with_reducible refine gate_callee (f := 61) rfl ?_); refine goesL_ (some 55) rfl rfl Try.func61 (by kernel_rfl) rfl #[.int .i64 a0_6] rfl zE ?_; (with_reducible refine (instr_tells.calls a0_6 true _ A22.out).mono ?_); rintro e w' ⟨rfl, ⟨nd, rfl⟩⟩; refine ⟨_, rfl, ?_⟩))
       go_ret
       exact ⟨by first | rfl | (simp [errW_none, errW_some] <;> rfl) | (simp [*, errW_none, errW_some] <;> rfl), by repeat (first | (with_reducible first | exact HB.out | apply below_alloc | apply pw_below_drewN | apply below_drew1 | refine below_set ?_ GE101.out) | exact HB.out)⟩
     ·replace c23 := Bool.eq_false_iff.mpr c23
      subst c23
      have H1 : (some false) = some r := by rw [if_neg (show ¬ (false = true) by decide)] at H; exact H
      clear H
      have H := H1
      clear H1
      obtain rfl := Option.some.inj H
      have hcz27_0 : wc.cell? ⟨gb101, 0, none⟩ = some (.int .i64 a0_0) := (blk_cell BK101.out 0).trans rfl
      have hcz27_1 : wc.cell? ⟨gb101, 1, none⟩ = some (.int .i64 a0_1) := (blk_cell BK101.out 1).trans rfl
      have hcz27_2 : wc.cell? ⟨gb101, 2, none⟩ = some (.int .i64 a0_2) := (blk_cell BK101.out 2).trans rfl
      have hcz27_3 : wc.cell? ⟨gb101, 3, none⟩ = some (.int .i64 a0_3) := (blk_cell BK101.out 3).trans rfl
      have hcz27_4 : wc.cell? ⟨gb101, 4, none⟩ = some (.int .i64 a0_4) := (blk_cell BK101.out 4).trans rfl
      have hcz27_5 : wc.cell? ⟨gb101, 5, none⟩ = some (.int .i64 a0_5) := (blk_cell BK101.out 5).trans rfl
      have hcz27_6 : wc.cell? ⟨gb101, 6, none⟩ = some (.int .i64 a0_6) := (blk_cell BK101.out 6).trans rfl
      have hcz27_7 : wc.cell? ⟨gb101, 7, none⟩ = some (.int .i64 a0_7) := (blk_cell BK101.out 7).trans rfl
      have hcz27_8 : wc.cell? ⟨gb101, 8, none⟩ = some (.slice A0_8 l0_8.length c0_8) := (blk_cell BK101.out 8).trans rfl
      have hfz27_0 := blk_frozen BK101.out 0
      have hfz27_1 := blk_frozen BK101.out 1
      have hfz27_2 := blk_frozen BK101.out 2
      have hfz27_3 := blk_frozen BK101.out 3
      have hfz27_4 := blk_frozen BK101.out 4
      have hfz27_5 := blk_frozen BK101.out 5
      have hfz27_6 := blk_frozen BK101.out 6
      have hfz27_7 := blk_frozen BK101.out 7
      have hfz27_8 := blk_frozen BK101.out 8
      go_wp2_with (first | ((with_reducible refine gate_callee (f := 61) rfl ?_); refine goesL_ (some 55) rfl rfl Try.func61 (by kernel_rfl) rfl #[.int .i64 a0_6] rfl zE ?_; (with_reducible refine (instr_tells.calls a0_6 false _ A22.out).mono ?_); rintro e w' ⟨rfl, ⟨nd, rfl⟩⟩; refine ⟨_, rfl, ?_⟩))
      go_ret
      exact ⟨by first | rfl | (simp [errW_none, errW_some] <;> rfl) | (simp [*, errW_none, errW_some] <;> rfl), by repeat (first | (with_reducible first | exact HB.out | apply below_alloc | apply pw_below_drewN | apply below_drew1 | refine below_set ?_ GE101.out) | exact HB.out)⟩
   ·rw [if_neg c19] at H
    have c19b0 : ((Go.bits .and .i64 a1 128) == 0) = false := beq_eq_false_iff_ne.mpr c19
    have c19b1 : ((Go.bits .and .i64 a1 128) != 0) = true := bne_iff_ne.mpr c19
    by_cases c28 : a0_6 ≥ 0
    ·rw [if_pos c28] at H
     have c28b0 : decide (0 ≤ a0_6) = true := decide_eq_true c28
     clear c28
     obtain rfl := Option.some.inj H
     have hcz29_0 : wc.cell? ⟨gb101, 0, none⟩ = some (.int .i64 a0_0) := (blk_cell BK101.out 0).trans rfl
     have hcz29_1 : wc.cell? ⟨gb101, 1, none⟩ = some (.int .i64 a0_1) := (blk_cell BK101.out 1).trans rfl
     have hcz29_2 : wc.cell? ⟨gb101, 2, none⟩ = some (.int .i64 a0_2) := (blk_cell BK101.out 2).trans rfl
     have hcz29_3 : wc.cell? ⟨gb101, 3, none⟩ = some (.int .i64 a0_3) := (blk_cell BK101.out 3).trans rfl
     have hcz29_4 : wc.cell? ⟨gb101, 4, none⟩ = some (.int .i64 a0_4) := (blk_cell BK101.out 4).trans rfl
     have hcz29_5 : wc.cell? ⟨gb101, 5, none⟩ = some (.int .i64 a0_5) := (blk_cell BK101.out 5).trans rfl
     have hcz29_6 : wc.cell? ⟨gb101, 6, none⟩ = some (.int .i64 a0_6) := (blk_cell BK101.out 6).trans rfl
     have hcz29_7 : wc.cell? ⟨gb101, 7, none⟩ = some (.int .i64 a0_7) := (blk_cell BK101.out 7).trans rfl
     have hcz29_8 : wc.cell? ⟨gb101, 8, none⟩ = some (.slice A0_8 l0_8.length c0_8) := (blk_cell BK101.out 8).trans rfl
     have hfz29_0 := blk_frozen BK101.out 0
     have hfz29_1 := blk_frozen BK101.out 1
     have hfz29_2 := blk_frozen BK101.out 2
     have hfz29_3 := blk_frozen BK101.out 3
     have hfz29_4 := blk_frozen BK101.out 4
     have hfz29_5 := blk_frozen BK101.out 5
     have hfz29_6 := blk_frozen BK101.out 6
     have hfz29_7 := blk_frozen BK101.out 7
     have hfz29_8 := blk_frozen BK101.out 8
     go_wp2
     go_ret
     exact ⟨by first | rfl | (simp [errW_none, errW_some] <;> rfl) | (simp [*, errW_none, errW_some] <;> rfl), by repeat (first | (with_reducible first | exact HB.out | apply below_alloc | apply pw_below_drewN | apply below_drew1 | refine below_set ?_ GE101.out) | exact HB.out)⟩
    ·rw [if_neg c28] at H
     have c28b0 : decide (0 ≤ a0_6) = false := decide_eq_false c28
     clear c28
     obtain rfl := Option.some.inj H
     have hcz30_0 : wc.cell? ⟨gb101, 0, none⟩ = some (.int .i64 a0_0) := (blk_cell BK101.out 0).trans rfl
     have hcz30_1 : wc.cell? ⟨gb101, 1, none⟩ = some (.int .i64 a0_1) := (blk_cell BK101.out 1).trans rfl
     have hcz30_2 : wc.cell? ⟨gb101, 2, none⟩ = some (.int .i64 a0_2) := (blk_cell BK101.out 2).trans rfl
     have hcz30_3 : wc.cell? ⟨gb101, 3, none⟩ = some (.int .i64 a0_3) := (blk_cell BK101.out 3).trans rfl
     have hcz30_4 : wc.cell? ⟨gb101, 4, none⟩ = some (.int .i64 a0_4) := (blk_cell BK101.out 4).trans rfl
     have hcz30_5 : wc.cell? ⟨gb101, 5, none⟩ = some (.int .i64 a0_5) := (blk_cell BK101.out 5).trans rfl
     have hcz30_6 : wc.cell? ⟨gb101, 6, none⟩ = some (.int .i64 a0_6) := (blk_cell BK101.out 6).trans rfl
     have hcz30_7 : wc.cell? ⟨gb101, 7, none⟩ = some (.int .i64 a0_7) := (blk_cell BK101.out 7).trans rfl
     have hcz30_8 : wc.cell? ⟨gb101, 8, none⟩ = some (.slice A0_8 l0_8.length c0_8) := (blk_cell BK101.out 8).trans rfl
     have hfz30_0 := blk_frozen BK101.out 0
     have hfz30_1 := blk_frozen BK101.out 1
     have hfz30_2 := blk_frozen BK101.out 2
     have hfz30_3 := blk_frozen BK101.out 3
     have hfz30_4 := blk_frozen BK101.out 4
     have hfz30_5 := blk_frozen BK101.out 5
     have hfz30_6 := blk_frozen BK101.out 6
     have hfz30_7 := blk_frozen BK101.out 7
     have hfz30_8 := blk_frozen BK101.out 8
     go_wp2
     go_ret
     exact ⟨by first | rfl | (simp [errW_none, errW_some] <;> rfl) | (simp [*, errW_none, errW_some] <;> rfl), by repeat (first | (with_reducible first | exact HB.out | apply below_alloc | apply pw_below_drewN | apply below_drew1 | refine below_set ?_ GE101.out) | exact HB.out)⟩
end Go.Proofs.Ytlhaopjdpkhogaa.P

/- A text of this claim, what is not used left out. -/
import Derived.Test.YtomopjomapkmjaaBaB0
import Derived.Test.YtomopjomapkmjaaBaB7
namespace Go.Proofs.Ytomopjomapkmjaa.B
open Go.RowKit Go.Proofs.YtomopjomapkmjaaW.PrintWords Go.Proofs.YtomopjomapkmjaaW.PrintLast Go.Proofs.YtomopjomapkmjaaW.PrintMore
attribute [local go_sem] max2_int min2_int max_two min_two max_three min_three max_four min_four   
set_option linter.unusedVariables false
set_option linter.unusedSimpArgs false
open Go.Sort
def rr_fitsV (x : Bool) (n : Int) : Bool := decide (n = 0) || (x && decide (0 < n))
def rr_twoV (op : Int) : Bool := decide (3 ≤ op ∧ op ≤ 16) || decide (op ∈ ([29, 32, 33, 34, 35, 37] : List Int))
def rr_oneV (op : Int) : Bool := decide (op ∈ ([23, 24, 25, 26, 27, 28, 31, 36, 38, 40, 42, 43] : List Int))
def rr_wrV (op : Int) : Bool := decide (3 ≤ op ∧ op ≤ 16) || decide (20 ≤ op ∧ op ≤ 29) || decide (op = 39) || decide (op = 44) || decide (op = 45)
def rr_ckV (op : Int) : Bool := decide (31 ≤ op ∧ op ≤ 38)
def rr_bV (op : Int) : Bool := rr_twoV op || decide (op = 30) || decide (op = 45)
def rr_tailV (op n m : Int) (len : Nat) : Bool :=
 if op = 39 then decide (0 ≤ n ∧ m = 0 ∧ len ≤ 8)
 else if op = 44 then decide (n = 0 ∧ m = 0 ∧ 1 ≤ len)
 else if op = 45 then decide (n = 0 ∧ (3 ≤ m ∧ m ≤ 8 ∨ m = 20 ∨ m = 21) ∧ len = 0)
 else if 0 < len then false
 else if op = 20 then decide (m = 0)
 else if op = 21 then decide (m = 0 ∧ (n = 0 ∨ n = 1))
 else if op = 41 then decide (m = 0 ∧ 0 ≤ n)
 else if op = 42 then decide (0 ≤ m ∧ 0 ≤ n ∧ m ≠ n)
 else decide (n = 0 ∧ m = 0)
def rr_rightV (op dst a b c n m site : Int) (args : List Int) : Bool :=
 decide (3 ≤ op ∧ op ≤ 45 ∧ ¬ (16 < op ∧ op < 20)) && rr_fitsV (rr_wrV op) dst && rr_fitsV (rr_bV op || rr_oneV op) a && rr_fitsV (rr_bV op && (decide (op ≠ 45) || decide (m ≠ 21))) b && rr_fitsV (decide (op = 30)) c && rr_fitsV (rr_ckV op) site &&
  args.all (fun x => decide (0 ≤ x)) && rr_tailV op n m args.length
def rr_BoxAt (w : World) (B : Nat) (cs : Array Value) : Prop := w.heap[B]? = some (.cells cs 29 (0, 0))
theorem rr_BoxAt.cell {w : World} {B : Nat} {cs : Array Value} (h : rr_BoxAt w B cs) (i : Nat) (v : Value) (hv : cs[i]? = some v) : w.cell? ⟨B, i, none⟩ = some v := by simp [World.cell?, show w.heap[B]? = _ from h, hv]
theorem rr_BoxAt.below {w w1 : World} {B : Nat} {cs : Array Value} (h : rr_BoxAt w B cs) (hb : Below w.heap.size w w1) : rr_BoxAt w1 B cs := (hb.block B (blk_lt h)).trans h
end Go.Proofs.Ytomopjomapkmjaa.B

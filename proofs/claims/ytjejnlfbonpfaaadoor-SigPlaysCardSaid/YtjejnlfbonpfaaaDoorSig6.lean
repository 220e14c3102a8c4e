/-
The two states side by side: bits and lists of truths.
-/
import Derived.Test.YtjejnlfbonpfaaaDoorSig5
namespace Go.Proofs.YtjejnlfbonpfaaaDoor
set_option linter.unusedVariables false
set_option linter.unusedSimpArgs false
open Eng
def bit (w i : Int) : Bool := decide (bitv .and .u16 (shrv .u16 w i) 1 = 1)
def setb (w i : Int) : Int := bitv .or .u16 w (shlv .u16 1 i)
def lowb (w : Int) : Int := bitv .andNot .u16 w (shlv .u16 1 (tz w))
def okw (w : Int) : Bool := decide (0 ≤ w ∧ w < 512 ∧ w % 2 = 0)
def evens : List Nat := List.range 256
def sigs : List Nat := [1, 2, 3, 4, 5, 6, 7, 8]
def chkSet : Bool := evens.all fun k => sigs.all fun i => okw (setb (2 * k : Nat) i) && sigs.all fun j => bit (setb (2 * k : Nat) i) j == (j == i || bit (2 * k : Nat) j)
def chkLow : Bool := evens.all fun k => k == 0 || (decide (1 ≤ tz (2 * k : Nat) ∧ tz (2 * k : Nat) ≤ 8) && bit (2 * k : Nat) (tz (2 * k : Nat)) && okw (lowb (2 * k : Nat)) && (!(decide (tz (2 * k : Nat) = 8)) || decide (lowb (2 * k : Nat) = 0)) &&
  sigs.all fun j => (!(decide ((j : Int) < tz (2 * k : Nat))) || !(bit (2 * k : Nat) j)) && (bit (lowb (2 * k : Nat)) j == (!(decide ((j : Int) = tz (2 * k : Nat))) && bit (2 * k : Nat) j)))
def chkZero : Bool := sigs.all fun j => !(bit 0 j)
set_option maxRecDepth 100000 in
theorem chkSet_ok : chkSet = true := by decide +kernel
set_option maxRecDepth 100000 in
theorem chkLow_ok : chkLow = true := by decide +kernel
theorem chkZero_ok : chkZero = true := by decide +kernel
end Go.Proofs.YtjejnlfbonpfaaaDoor

/- nests: numbers of ways, checked number by number. -/
import Derived.Test.YtkfmedmanhcdeaaDef
import Derived.KernelRfl
namespace Go.Proofs.Ytkfmedmanhcdeaa
open Go.Am
def wgo : List Nat → List Nat
  | [] => []
  | x :: t => (x + t.getD 1 0) :: wgo t
def wrow : Nat → List Nat
  | 0 => [1]
  | m + 1 => (wrow m).getD 1 0 :: wgo (wrow m)
def pgo : List Nat → List Nat
  | [] => []
  | x :: t => (x + t.getD 0 0) :: pgo t
def prow : Nat → List Nat
  | 0 => [1]
  | n + 1 => 1 :: pgo (prow n)
def reachC (p : List Nat) (s h : Nat) : Nat := if (s - h) % 2 ≠ 0 ∨ s < h then 0 else p.getD ((s - h) / 2) 0 - (if (s - h) / 2 = 0 then 0 else p.getD ((s - h) / 2 - 1) 0)
def geC (p : List Nat) (s h : Nat) : Bool := (s - h) / 2 == 0 || decide (p.getD ((s - h) / 2 - 1) 0 ≤ p.getD ((s - h) / 2) 0)
def chkNB (s : Nat) : Bool := (List.range (s + 2)).all fun h => reachC (prow s) s h == (wrow s).getD h 0 && geC (prow s) s h
theorem chkNB_ok : ((List.range 31).all chkNB) = true := by kernel_rfl
def bgo (i : Nat) : Nat → Nat → List Nat → List Nat
  | _, _, [] => []
  | left, k, x :: t => (if i ≤ k then 0 else (if i = 1 ∧ k = 0 then 1 else x) + left) :: bgo i (if i ≤ k then 0 else (if i = 1 ∧ k = 0 then 1 else x) + left) (k + 1) t
def brow : Nat → List Nat
  | 0 => List.replicate 16 0
  | i + 1 => bgo (i + 1) 0 0 (brow i)
def bf (i k : Nat) : Nat := (brow i).getD k 0
def bftab : List (List Nat) := (List.range 16).map brow
def bfT (i k : Nat) : Nat := (bftab.getD i []).getD k 0
def chkNC (i k : Nat) : Bool := bf (i + 1) k == (if i + 1 ≤ k then 0 else (if i = 0 ∧ k = 0 then 1 else bf i k) + (if k = 0 then 0 else bf (i + 1) (k - 1)))
theorem chkNC_ok : ((List.range 15).all fun i => (List.range 16).all fun k => chkNC i k) = true := by kernel_rfl
def chkND (a b : Nat) : Bool := bf a b == (if a ≤ b then 0 else (prow (a + b)).getD a 0 * (a - b) / (a + b)) && decide (bf a b ≤ 1000000000) && decide ((prow (a + b)).getD a 0 ≤ 1000000000)
theorem chkND_ok : ((List.range 16).all fun a => (List.range 16).all fun b => chkND a b) = true := by kernel_rfl
end Go.Proofs.Ytkfmedmanhcdeaa

/- blocks.Count and blocks.All against castref.HeapsOf and the number of heaps. -/
import Derived.Test.YtdkmepeolmdccaaDef
import Derived.KernelRfl
namespace Go.Proofs.Ytdkmepeolmdccaa
open Go.Am
def chkC (n k : Nat) : Bool := match F33 60 n k, F38 60 n k with
  | some r, some x => r.2 == 0 && r.1 == x
  | _, _ => false
theorem chkC_a : ((List.range 6).all fun n => (List.range 11).all fun k => chkC n k) = true := by kernel_rfl
theorem chkC_b : ((List.range 11).all fun k => chkC 6 k) = true := by kernel_rfl
theorem chkC_c : ((List.range 11).all fun k => chkC 7 k) = true := by kernel_rfl
theorem chkC_d : ((List.range 11).all fun k => chkC 8 k) = true := by kernel_rfl
theorem chkC_e : ((List.range 11).all fun k => chkC 9 k) = true := by kernel_rfl
theorem chkC_f : ((List.range 11).all fun k => chkC 10 k) = true := by kernel_rfl
/-- The numbers of heaps. -/
def bell (n : Nat) : Nat := [1, 1, 2, 5, 15, 52, 203, 877, 4140, 21147, 115975].getD n 0
def chkA (n : Nat) : Bool := match F34 60 n with
  | some r => r.2 == 0 && r.1 == (bell n : Int)
  | _ => false
theorem chkA_a : ((List.range 8).all fun n => chkA n) = true := by kernel_rfl
theorem chkA_b : ((List.range 3).all fun n => chkA (n + 8)) = true := by kernel_rfl
end Go.Proofs.Ytdkmepeolmdccaa

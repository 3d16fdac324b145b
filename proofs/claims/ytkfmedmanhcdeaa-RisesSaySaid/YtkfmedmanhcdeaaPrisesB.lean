/- rises.Count against castref.FallsOf, number by number. -/
import Derived.Test.YtkfmedmanhcdeaaDef
import Derived.KernelRfl
namespace Go.Proofs.Ytkfmedmanhcdeaa
open Go.Am
def chkR (n k : Nat) : Bool := match F51 100 n k, F55 100 n k with
  | some r, some x => r.2 == 0 && r.1 == x
  | _, _ => false
theorem chkR_a : ((List.range 13).all fun n => (List.range 16).all fun k => chkR n k) = true := by kernel_rfl
theorem chkR_b : ((List.range 16).all fun k => chkR 13 k) = true := by kernel_rfl
theorem chkR_c : ((List.range 16).all fun k => chkR 14 k) = true := by kernel_rfl
theorem chkR_d : ((List.range 16).all fun k => chkR 15 k) = true := by kernel_rfl
end Go.Proofs.Ytkfmedmanhcdeaa

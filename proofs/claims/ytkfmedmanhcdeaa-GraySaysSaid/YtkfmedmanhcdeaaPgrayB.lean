/- Gray's code: a closed check over all numbers of sixteen digits. -/
import Derived.Test.YtkfmedmanhcdeaaPure
import Derived.KernelRfl
namespace Go.Proofs.Ytkfmedmanhcdeaa
open Go.Am
def gr (a : Nat) : Nat := a ^^^ (a / 2)
def st (a k : Nat) : Nat := a ^^^ (a / 2 ^ k)
def back (a : Nat) : Nat := st (st (st (st a 1) 2) 4) 8
def tz : Nat → Nat → Nat
  | 0, _ => 0
  | f + 1, a => if a % 2 = 1 then tz f (a / 2) + 1 else 0
def chk1 (a : Nat) : Bool := (gr (back a)).beq a && (a.beq 65535 || ((tz 16 a).ble 15 && (gr a ^^^ 2 ^ tz 16 a).beq (gr (a + 1))))
theorem chk1_ok : all2 256 256 chk1 = true := by kernel_rfl

end Go.Proofs.Ytkfmedmanhcdeaa

/- More fuel, the same answer: printed by a program of ours (gen.py). -/
import Derived.Test.YtihmliblbhjlaaaDef
import Derived.Test.YtihmliblbhjlaaaPure
set_option linter.unusedVariables false
namespace Go.Proofs.Ytihmliblbhjlaaa
open Go.Am
theorem Le.compF {α : Type} {e e' : α → α → Option Bool} {L : List α} (h : ∀ x y, Le (e x y) (e' x y)) : Le (compF? e L) (compF? e' L) := ⟨fun _ hr => compF?_mono (fun x y _ hq => (h x y).up _ hq) hr⟩
theorem F165_l0_le {F F' : Nat} (h : F ≤ F') (t0 : Int) (s3 : Int) : Le (F165_l0 F t0 s3) (F165_l0 F' t0 s3) := by
  unfold F165_l0
  repeat' (first | (with_reducible exact Le.refl _) | refine Le.compF (fun _ _ => ?_) | refine Le.ite ?_ ?_ | refine Le.bind ?_ ?_ | refine Le.iter (fun _ => ?_) h | intro _ | split)
theorem F165_le {F F' : Nat} (h : F ≤ F') (t0 : Int) : Le (F165 F t0) (F165 F' t0) := by
  unfold F165
  repeat' (first | (with_reducible exact Le.refl _) | refine F165_l0_le h _ _ | refine Le.compF (fun _ _ => ?_) | refine Le.ite ?_ ?_ | refine Le.bind ?_ ?_ | refine Le.iter (fun _ => ?_) h | intro _ | split)
end Go.Proofs.Ytihmliblbhjlaaa

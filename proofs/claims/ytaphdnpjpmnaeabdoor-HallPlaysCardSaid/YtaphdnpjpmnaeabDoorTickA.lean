/- Tickets: is a list of them right? -/
import Derived.Test.YtaphdnpjpmnaeabDoorDef
import Derived.Test.YtaphdnpjpmnaeabDoorPure
import Derived.Test.YtaphdnpjpmnaeabDoorPureC
set_option linter.unusedVariables false
set_option linter.unusedSimpArgs false
namespace Go.Proofs.YtaphdnpjpmnaeabDoor
open Go.Am

/-! ### Tickets -/
def tickE (l : List Int) : Int := if 8 < l.length then 2 else if l.any (fun x => decide (x < 0) || decide (x > 100)) then 1 else 0
theorem tickE_ok {l : List Int} (h : tickE l = 0) : l.length ≤ 8 ∧ ∀ x ∈ l, 0 ≤ x ∧ x ≤ 100 := by
  unfold tickE at h
  split at h
  · cases h
  · split at h
    · cases h
    · rename_i h1 h2
      refine ⟨by omega, fun x hx => ?_⟩
      have : ¬ (x < 0 ∨ x > 100) := fun hc => h2 (List.any_eq_true.2 ⟨x, hx, by simpa using hc⟩)
      omega
theorem tickCheck_eq (F : Nat) (l : List Int) (hF : 10 ≤ F) : F35 F l = some (tickE l) := by
  unfold F35 tickE
  by_cases h : 8 < l.length
  · rw [if_pos (decide_eq_true (by omega)), if_pos h]
  · rw [if_neg (by rw [decide_eq_true_eq]; omega), if_neg h]
    rw [any_loop (step := F35_l0 F l) l (fun x => decide (x < 0) || decide (x > 100)) 1 ?_ ?_ (by omega)]
    · cases l.any (fun x => decide (x < 0) || decide (x > 100)) <;> rfl
    · intro i hi
      unfold F35_l0
      rw [if_pos (decide_eq_true (by omega)), at?_in hi, w64 (by omega) (by omega)]
      simp only [Option.bind_some]
      split <;> simp_all
    · unfold F35_l0
      rw [if_neg (by rw [decide_eq_true_eq]; omega)]
end Go.Proofs.YtaphdnpjpmnaeabDoor

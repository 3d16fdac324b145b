/- Tickets: is a list of them right? -/
import Derived.Test.YtdkmepeolmdccaaEqualLib
import Derived.Test.YtdkmepeolmdccaaPureC
set_option linter.unusedVariables false
set_option linter.unusedSimpArgs false
namespace Go.Proofs.Ytdkmepeolmdccaa
open Go.Am

/-! ### Tickets -/
def tickE (l : List Int) : Int := if 8 < l.length then 2 else if l.any (fun x => decide (x < 0) || decide (x > 100)) then 1 else 0
theorem tickE_ok {l : List Int} (h : tickE l = 0) : l.length ≤ 8 ∧ ∀ x ∈ l, 0 ≤ x ∧ x ≤ 100 := by
  unfold tickE at h
  split at h
  · cases h
  · split at h
    · cases h
    · rename_i h1 h2
      refine ⟨by omega, fun x hx => ?_⟩
      have : ¬ (x < 0 ∨ x > 100) := fun hc => h2 (List.any_eq_true.2 ⟨x, hx, by simpa using hc⟩)
      omega
theorem tickCheck_eq (F : Nat) (l : List Int) (hF : 10 ≤ F) : F28 F l = some (tickE l) := by
  unfold F28 tickE
  by_cases h : 8 < l.length
  · rw [if_pos (decide_eq_true (by omega)), if_pos h]
  · rw [if_neg (by rw [decide_eq_true_eq]; omega), if_neg h]
    rw [any_loop (step := F28_l0 F l) l (fun x => decide (x < 0) || decide (x > 100)) 1 ?_ ?_ (by omega)]
    · cases l.any (fun x => decide (x < 0) || decide (x > 100)) <;> rfl
    · intro i hi
      unfold F28_l0
      rw [if_pos (decide_eq_true (by omega)), at?_in hi, w64 (by omega) (by omega)]
      simp only [Option.bind_some]
      split <;> simp_all
    · unfold F28_l0
      rw [if_neg (by rw [decide_eq_true_eq]; omega)]
theorem refTick_eq (F : Nat) (l : List Int) (hF : 10 ≤ F) : F27 F l = some (tickE l) := by
  unfold F27 tickE
  by_cases h : 8 < l.length
  · rw [if_pos (decide_eq_true (by omega)), if_pos h]
  · rw [if_neg (by rw [decide_eq_true_eq]; omega), if_neg h]
    unfold F96_115 F155_115
    have hs : ∀ (i : Nat) (h : i < l.length), F155_115_l0 F l (i : Int) = some (if (decide (l[i] < 0) || decide (l[i] > 100)) then .stop (.inr (i : Int)) else .more ((i + 1 : Nat) : Int)) := by
      intro i hi
      unfold F155_115_l0 F115
      rw [if_pos (decide_eq_true (by omega)), at?_in hi, w64 (by omega) (by omega)]
      simp only [Option.bind_some]
      split <;> simp_all
    have he : F155_115_l0 F l (l.length : Int) = some (.stop (.inl ())) := by
      unfold F155_115_l0
      rw [if_neg (by rw [decide_eq_true_eq]; omega)]
    rcases find_loop l (fun x => decide (x < 0) || decide (x > 100)) (fun i _ => (i : Int)) hs he (by omega : l.length < F) with ⟨h1, h2⟩ | ⟨i, h, h1, _, h2⟩
    · rw [h2, any_none h1]; rfl
    · rw [h2, any_of_first h h1]
      simp only [Option.bind_some]
      rw [if_pos (by simp)]; rfl

end Go.Proofs.Ytdkmepeolmdccaa

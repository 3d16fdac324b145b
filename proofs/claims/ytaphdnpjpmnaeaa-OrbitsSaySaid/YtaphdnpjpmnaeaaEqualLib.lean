/- slices.Equal at int: what it answers. -/
import Derived.Test.YtaphdnpjpmnaeaaDef
import Derived.Test.YtaphdnpjpmnaeaaPure
set_option linter.unusedVariables false
set_option linter.unusedSimpArgs false
namespace Go.Proofs.Ytaphdnpjpmnaeaa
open Go.Am
theorem equal_eq (F : Nat) (p q : List Int) (hF : p.length < F) (hl : p.length ≤ 9223372036854775807) : F10 F p q = some (decide (p = q)) := by
  unfold F10
  by_cases hn : p.length = q.length
  · rw [if_neg (by simp [hn])]
    obtain ⟨b, hb, hQ⟩ := iter_inv (step := F10_l0 F p q) (I := fun s => ∃ i : Nat, s = i ∧ i ≤ p.length ∧ p.take i = q.take i) (μ := fun s => p.length - s.toNat)
      (Q := fun b => (b = .inl () ∧ p = q) ∨ b = .inr false ∧ p ≠ q) (by
        rintro s ⟨i, rfl, hi, hn2⟩
        unfold F10_l0
        by_cases hlt : i < p.length
        · rw [if_pos (decide_eq_true (by omega)), at?_in hlt, at?_in (by omega : i < q.length)]
          simp only [Option.bind_some]
          by_cases e : p[i] = q[i]
          · left
            rw [if_neg (by simpa using e), w64 (by omega) (by omega)]
            refine ⟨_, rfl, ⟨i + 1, by omega, by omega, ?_⟩, by omega⟩
            rw [List.take_add_one, List.take_add_one, hn2, List.getElem?_eq_getElem hlt, List.getElem?_eq_getElem (by omega : i < q.length), e]
          · right
            rw [if_pos (by simpa using e)]
            exact ⟨_, rfl, .inr ⟨rfl, fun h => e (by subst h; rfl)⟩⟩
        · right
          rw [if_neg (by rw [decide_eq_true_eq]; omega)]
          refine ⟨_, rfl, .inl ⟨rfl, ?_⟩⟩
          rwa [List.take_of_length_le (by omega), List.take_of_length_le (by omega)] at hn2) F 0 ⟨0, rfl, by omega, by simp⟩ (by simpa using hF)
    rw [hb]
    simp only [Option.bind_some]
    rcases hQ with ⟨rfl, h⟩ | ⟨rfl, h⟩
    · simp [h]
    · simp [h]
  · rw [if_pos (by simp; omega)]
    have : p ≠ q := fun h => hn (by rw [h])
    simp [this]
theorem alike_eq (F : Nat) (p q : List Int) (hF : p.length < F) (hl : p.length ≤ 9223372036854775807) : F12 F p q = some (decide (p = q)) := by
  unfold F12
  rw [equal_eq F p q hF hl]; rfl
end Go.Proofs.Ytaphdnpjpmnaeaa

/- slices.Index and slices.Contains at int: what they answer. -/
import Derived.Test.YtdfalejlhkalhaaDef
import Derived.Test.YtdfalejlhkalhaaPureC
set_option linter.unusedVariables false
set_option linter.unusedSimpArgs false
namespace Go.Proofs.Ytdfalejlhkalhaa
open Go.Am
theorem index_eq (F : Nat) (p : List Int) (x : Int) (hF : p.length < F) (hl : p.length ≤ 1000000) : ∃ r, F122 F p x = some r ∧ (x ∈ p ∧ 0 ≤ r ∧ r < p.length ∧ at? p r = some x ∨ ¬ x ∈ p ∧ r = -1) := by
  unfold F122
  obtain ⟨b, hb, hQ⟩ := iter_inv (step := F122_l0 F p x) (I := fun s => ∃ i : Nat, s = i ∧ i ≤ p.length ∧ x ∉ p.take i) (μ := fun s => p.length - s.toNat)
    (Q := fun b => (b = .inl () ∧ x ∉ p) ∨ ∃ i : Nat, i < p.length ∧ b = .inr (i : Int) ∧ at? p (i : Int) = some x) (by
      rintro s ⟨i, rfl, hi, hn⟩
      unfold F122_l0
      by_cases hlt : i < p.length
      · rw [if_pos (decide_eq_true (by omega)), at?_in hlt]
        simp only [Option.bind_some]
        by_cases e : x = p[i]
        · right
          rw [if_pos (by simpa using e)]
          exact ⟨_, rfl, .inr ⟨i, hlt, rfl, by rw [at?_in hlt, e]⟩⟩
        · left
          rw [if_neg (by simpa using e), w64 (by omega) (by omega)]
          refine ⟨_, rfl, ⟨i + 1, by omega, by omega, ?_⟩, by omega⟩
          intro hm
          rw [List.take_add_one, List.getElem?_eq_getElem hlt] at hm
          rcases List.mem_append.1 hm with h | h
          · exact hn h
          · simp at h; exact e h
      · right
        rw [if_neg (by rw [decide_eq_true_eq]; omega)]
        refine ⟨_, rfl, .inl ⟨rfl, ?_⟩⟩
        rwa [List.take_of_length_le (by omega)] at hn) F 0 ⟨0, rfl, by omega, by simp⟩ (by simpa using hF)
  rw [hb]
  simp only [Option.bind_some]
  rcases hQ with ⟨rfl, h⟩ | ⟨i, hi, rfl, h⟩
  · exact ⟨-1, rfl, .inr ⟨h, rfl⟩⟩
  · refine ⟨i, rfl, .inl ⟨?_, by omega, by omega, h⟩⟩
    exact List.mem_of_getElem? (at?_some h).2.2
theorem contains_eq (F : Nat) (p : List Int) (x : Int) (hF : p.length < F) (hl : p.length ≤ 1000000) : F81 F p x = some (decide (x ∈ p)) := by
  unfold F81
  obtain ⟨r, h1, h2⟩ := index_eq F p x hF hl
  rw [h1]
  simp only [Option.bind_some]
  rcases h2 with ⟨h3, h4, _⟩ | ⟨h3, rfl⟩
  · simp [h3, h4]
  · simp [h3]
end Go.Proofs.Ytdfalejlhkalhaa

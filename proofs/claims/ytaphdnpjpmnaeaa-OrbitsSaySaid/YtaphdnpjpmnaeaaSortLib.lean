/- slices.Sort at int, of twelve elements at most: it answers. -/
import Derived.Test.YtaphdnpjpmnaeaaDef
import Derived.Test.YtaphdnpjpmnaeaaPureC
import Derived.KernelRfl
set_option linter.unusedVariables false
set_option linter.unusedSimpArgs false
namespace Go.Proofs.Ytaphdnpjpmnaeaa
open Go.Am
theorem less_eq (F : Nat) (a b : Int) : F70 F a b = some (decide (a < b)) := by
  unfold F70 F47
  simp
theorem insertion_ok (F : Nat) (L : List Int) (hF : L.length + 2 ≤ F) (hl : L.length ≤ 1000000) : ∃ M, F64 F L 0 (L.length : Int) = some M ∧ M.length = L.length := by
  have inner : ∀ (i : Int) (M : List Int), M.length = L.length → 0 ≤ i → i < L.length → ∃ b, iter (F64_l0 F 0) F (i, M) = some b ∧ b.length = L.length := by
    intro i M hM h0 h1
    refine iter_inv (step := F64_l0 F 0) (I := fun s => s.2.length = L.length ∧ 0 ≤ s.1 ∧ s.1 < L.length) (μ := fun s => s.1.toNat) (Q := fun b => b.length = L.length) ?_ F (i, M) ⟨hM, h0, h1⟩ (by simp only; omega)
    rintro ⟨j, D⟩ ⟨hD, hj0, hj1⟩
    simp only at hD hj0 hj1
    unfold F64_l0
    simp only
    by_cases h : j > 0
    · obtain ⟨q, rfl⟩ : ∃ q : Nat, j = ((q + 1 : Nat) : Int) := ⟨j.toNat - 1, by omega⟩
      rw [if_pos (decide_eq_true h), nx_get (d := 0) (by omega), Option.bind_some, wpred (by omega) (by omega), show q + 1 - 1 = q from rfl, nx_get (d := 0) (by omega), Option.bind_some, less_eq, Option.bind_some, Option.bind_some]
      by_cases hlt : nx 0 D (q + 1) < nx 0 D q
      · left
        rw [if_pos (decide_eq_true hlt), Option.bind_some, Option.bind_some, ck_ok (by omega), Option.bind_some, ck_ok (by rw [List.length_set]; omega), Option.bind_some]
        refine ⟨_, rfl, ⟨by simp only [List.length_set]; exact hD, by simp only; omega, by simp only; omega⟩, by simp only; omega⟩
      · right
        rw [if_neg (mt of_decide_eq_true hlt)]
        exact ⟨_, rfl, hD⟩
    · right
      rw [if_neg (mt of_decide_eq_true h), Option.bind_some, if_neg (by decide)]
      exact ⟨_, rfl, hD⟩
  unfold F64
  obtain ⟨b, hb, hQ⟩ := iter_inv (step := F64_l1 F 0 (L.length : Int)) (I := fun s => s.2.length = L.length ∧ 1 ≤ s.1 ∧ s.1 ≤ L.length + 1) (μ := fun s => (L.length + 1 - s.1).toNat) (Q := fun b => b.length = L.length) (by
    rintro ⟨j, D⟩ ⟨hD, hj0, hj1⟩
    simp only at hD hj0 hj1
    unfold F64_l1
    simp only
    by_cases h : j < L.length
    · left
      obtain ⟨b, hb, hb2⟩ := inner j D hD (by omega) h
      rw [if_pos (decide_eq_true h), hb, Option.bind_some, w64 (by omega) (by omega)]
      exact ⟨_, rfl, ⟨hb2, by simp only; omega, by simp only; omega⟩, by simp only; omega⟩
    · right
      rw [if_neg (mt of_decide_eq_true h)]
      exact ⟨_, rfl, hD⟩) F (wrapA .i64 (0 + 1), L) ⟨rfl, by rw [show wrapA .i64 (0 + 1) = 1 from rfl]; simp only; omega, by rw [show wrapA .i64 (0 + 1) = 1 from rfl]; simp only; omega⟩ (by rw [show wrapA .i64 (0 + 1) = 1 from rfl]; simp only; omega)
  rw [hb]
  exact ⟨b, rfl, hQ⟩
theorem bitsLen_ok : ((List.range 13).all fun n => (F29 0 (wrapA .u64 (n : Int))).isSome) = true := by kernel_rfl
theorem bitsLen_F (F : Nat) (x : Int) : F29 F x = F29 0 x := rfl
theorem sort_ok (F : Nat) (L : List Int) (hF : 20 ≤ F) (hl : L.length ≤ 12) : ∃ M, F35 F L = some M ∧ M.length = L.length := by
  unfold F35
  have hb := bitsLen_ok
  simp only [List.all_eq_true, List.mem_range] at hb
  obtain ⟨x, hx⟩ := Option.isSome_iff_exists.1 (hb L.length (by omega))
  obtain ⟨M, hM, hM2⟩ := insertion_ok F L (by omega) (by omega)
  obtain ⟨G, rfl⟩ : ∃ q, F = q + 1 := ⟨F - 1, by omega⟩
  rw [bitsLen_F, hx, Option.bind_some]
  unfold F50
  rw [iter_stop (b := M)]
  · exact ⟨M, rfl, hM2⟩
  · unfold F50_l0
    simp only
    rw [if_pos (decide_eq_true (by rw [w64 (by omega) (by omega)]; omega)), hM, Option.bind_some]
end Go.Proofs.Ytaphdnpjpmnaeaa

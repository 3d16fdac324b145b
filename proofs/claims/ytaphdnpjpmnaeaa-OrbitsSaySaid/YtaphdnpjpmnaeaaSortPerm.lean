/- slices.Sort at int, of twelve elements at most: what it answers has the same elements. -/
import Derived.Test.YtaphdnpjpmnaeaaSortLib
set_option linter.unusedVariables false
set_option linter.unusedSimpArgs false
namespace Go.Proofs.Ytaphdnpjpmnaeaa
open Go.Am
theorem swap_perm (D : List Int) (q : Nat) (hq : q + 1 < D.length) : ((D.set (q + 1) (nx 0 D q)).set q (nx 0 D (q + 1))).Perm D := by
  obtain ⟨A, a, b, B, hD, hA⟩ : ∃ A a b B, D = A ++ a :: b :: B ∧ A.length = q := by
    refine ⟨D.take q, D[q], D[q + 1], D.drop (q + 2), ?_, by rw [List.length_take]; omega⟩
    rw [← List.drop_eq_getElem_cons (by omega), ← List.drop_eq_getElem_cons (by omega), List.take_append_drop]
  have h1 : nx 0 D q = a := by subst hD; subst hA; simp [nx]
  have h2 : nx 0 D (q + 1) = b := by subst hD; subst hA; simp [nx]
  rw [h1, h2, hD]
  subst hA
  have e1 : (A ++ a :: b :: B).set (A.length + 1) a = A ++ a :: a :: B := by simp
  have e2 : (A ++ a :: a :: B).set A.length b = A ++ b :: a :: B := by simp
  rw [e1, e2]
  exact (List.Perm.swap a b B).append_left A
theorem insertion_perm (F : Nat) (L : List Int) (hF : L.length + 2 ≤ F) (hl : L.length ≤ 1000000) : ∃ M, F64 F L 0 (L.length : Int) = some M ∧ M.Perm L := by
  have inner : ∀ (i : Int) (M : List Int), M.Perm L → 0 ≤ i → i < L.length → ∃ b, iter (F64_l0 F 0) F (i, M) = some b ∧ b.Perm L := by
    intro i M hM h0 h1
    refine iter_inv (step := F64_l0 F 0) (I := fun s => s.2.Perm L ∧ 0 ≤ s.1 ∧ s.1 < L.length) (μ := fun s => s.1.toNat) (Q := fun b => b.Perm L) ?_ F (i, M) ⟨hM, h0, h1⟩ (by simp only; omega)
    rintro ⟨j, D⟩ ⟨hP, hj0, hj1⟩
    simp only at hP hj0 hj1
    have hD := hP.length_eq
    unfold F64_l0
    simp only
    by_cases h : j > 0
    · obtain ⟨q, rfl⟩ : ∃ q : Nat, j = ((q + 1 : Nat) : Int) := ⟨j.toNat - 1, by omega⟩
      rw [if_pos (decide_eq_true h), nx_get (d := 0) (by omega), Option.bind_some, wpred (by omega) (by omega), show q + 1 - 1 = q from rfl, nx_get (d := 0) (by omega), Option.bind_some, less_eq, Option.bind_some, Option.bind_some]
      by_cases hlt : nx 0 D (q + 1) < nx 0 D q
      · left
        rw [if_pos (decide_eq_true hlt), Option.bind_some, Option.bind_some, ck_ok (by omega), Option.bind_some, ck_ok (by rw [List.length_set]; omega), Option.bind_some]
        refine ⟨_, rfl, ⟨?_, by simp only; omega, by simp only; omega⟩, by simp only; omega⟩
        exact (swap_perm D q (by omega)).trans hP
      · right
        rw [if_neg (mt of_decide_eq_true hlt)]
        exact ⟨_, rfl, hP⟩
    · right
      rw [if_neg (mt of_decide_eq_true h), Option.bind_some, if_neg (by decide)]
      exact ⟨_, rfl, hP⟩
  unfold F64
  obtain ⟨b, hb, hQ⟩ := iter_inv (step := F64_l1 F 0 (L.length : Int)) (I := fun s => s.2.Perm L ∧ 1 ≤ s.1 ∧ s.1 ≤ L.length + 1) (μ := fun s => (L.length + 1 - s.1).toNat) (Q := fun b => b.Perm L) (by
    rintro ⟨j, D⟩ ⟨hD, hj0, hj1⟩
    simp only at hD hj0 hj1
    unfold F64_l1
    simp only
    by_cases h : j < L.length
    · left
      obtain ⟨b, hb, hb2⟩ := inner j D hD (by omega) h
      rw [if_pos (decide_eq_true h), hb, Option.bind_some, w64 (by omega) (by omega)]
      exact ⟨_, rfl, ⟨hb2, by simp only; omega, by simp only; omega⟩, by simp only; omega⟩
    · right
      rw [if_neg (mt of_decide_eq_true h)]
      exact ⟨_, rfl, hD⟩) F (wrapA .i64 (0 + 1), L) ⟨List.Perm.refl _, by rw [show wrapA .i64 (0 + 1) = 1 from rfl]; simp only; omega, by rw [show wrapA .i64 (0 + 1) = 1 from rfl]; simp only; omega⟩ (by rw [show wrapA .i64 (0 + 1) = 1 from rfl]; simp only; omega)
  rw [hb]
  exact ⟨b, rfl, hQ⟩
theorem sort_perm (F : Nat) (L : List Int) (hF : 20 ≤ F) (hl : L.length ≤ 12) : ∃ M, F35 F L = some M ∧ M.Perm L := by
  unfold F35
  have hb := bitsLen_ok
  simp only [List.all_eq_true, List.mem_range] at hb
  obtain ⟨x, hx⟩ := Option.isSome_iff_exists.1 (hb L.length (by omega))
  obtain ⟨M, hM, hM2⟩ := insertion_perm F L (by omega) (by omega)
  obtain ⟨G, rfl⟩ : ∃ q, F = q + 1 := ⟨F - 1, by omega⟩
  rw [bitsLen_F, hx, Option.bind_some]
  unfold F50
  rw [iter_stop (b := M)]
  · exact ⟨M, rfl, hM2⟩
  · unfold F50_l0
    simp only
    rw [if_pos (decide_eq_true (by rw [w64 (by omega) (by omega)]; omega)), hM, Option.bind_some]
end Go.Proofs.Ytaphdnpjpmnaeaa

/- The law TopCounts: what is asked is one of eleven numbers, and each answers true. -/
import Derived.Test.YtihmliblbhjlaaaMono
set_option linter.unusedVariables false
set_option linter.unusedSimpArgs false
namespace Go.Proofs.Ytihmliblbhjlaaa
open Go.Am

theorem within_eq (F : Nat) (t : Int) (m : Nat) (hm : 0 < m) (hm2 : m ≤ 100) : ∃ x : Nat, x < m ∧ F71 F t m = some (x : Int) := by
  unfold F71 F135
  have h1 := Int.tmod_lt_of_pos t (show (0 : Int) < (m : Int) from by omega)
  have h2 := Int.lt_tmod_of_pos t (show (0 : Int) < (m : Int) from by omega)
  have hr : rem? t (m : Int) = some (t.tmod m) := by unfold rem?; rw [if_neg (by omega)]
  rw [hr, Option.bind_some]
  by_cases h : t.tmod m < 0
  · have hw : wrapA .i64 (t.tmod m + (m : Int)) = t.tmod m + m := wrapA_64 ⟨by omega, by omega⟩
    rw [if_pos (decide_eq_true h), Option.bind_some, hw]
    exact ⟨(t.tmod m + m).toNat, by omega, by rw [Int.toNat_of_nonneg (by omega)]⟩
  · rw [if_neg (mt of_decide_eq_true h), Option.bind_some]
    exact ⟨(t.tmod m).toNat, by omega, by rw [Int.toNat_of_nonneg (by omega)]⟩
theorem n0 : F9 6000 0 = some true := by kernel_rfl
theorem n1 : F9 6000 1 = some true := by kernel_rfl
theorem n2 : F9 6000 2 = some true := by kernel_rfl
theorem n3 : F9 6000 3 = some true := by kernel_rfl
theorem n4 : F9 6000 4 = some true := by kernel_rfl
theorem n5 : F9 6000 5 = some true := by kernel_rfl
theorem n6 : F9 6000 6 = some true := by kernel_rfl
theorem n7 : F9 6000 7 = some true := by kernel_rfl
theorem n8 : F9 6000 8 = some true := by kernel_rfl
theorem n9 : F9 6000 9 = some true := by kernel_rfl
theorem n10 : F9 6000 10 = some true := by kernel_rfl
theorem own_eq (F : Nat) (x : Nat) (hx : x < 11) : F71 F (x : Int) 11 = some (x : Int) := by
  have : x = 0 ∨ x = 1 ∨ x = 2 ∨ x = 3 ∨ x = 4 ∨ x = 5 ∨ x = 6 ∨ x = 7 ∨ x = 8 ∨ x = 9 ∨ x = 10 := by omega
  rcases this with rfl | rfl | rfl | rfl | rfl | rfl | rfl | rfl | rfl | rfl | rfl <;> rfl
theorem PtopCounts.holds (t0 : Int) (h0 : inR .i64 t0) : ∃ F, F9 F t0 = some true := by
  refine ⟨6000, ?_⟩
  obtain ⟨x, hx, e⟩ := within_eq 6000 t0 11 (by decide) (by decide)
  have e : F71 6000 t0 11 = some (x : Int) := e
  have key : F9 6000 t0 = F9 6000 (x : Int) := by
    unfold F9
    rw [e, own_eq 6000 x hx]
  rw [key]
  have : x = 0 ∨ x = 1 ∨ x = 2 ∨ x = 3 ∨ x = 4 ∨ x = 5 ∨ x = 6 ∨ x = 7 ∨ x = 8 ∨ x = 9 ∨ x = 10 := by omega
  rcases this with rfl | rfl | rfl | rfl | rfl | rfl | rfl | rfl | rfl | rfl | rfl
  · exact n0
  · exact n1
  · exact n2
  · exact n3
  · exact n4
  · exact n5
  · exact n6
  · exact n7
  · exact n8
  · exact n9
  · exact n10
end Go.Proofs.Ytihmliblbhjlaaa

/- castkeep.Within, and the rounds of casttop.TopFew, some at a time. -/
import Derived.Test.YtihmliblbhjlaaaDef
import Derived.Test.YtihmliblbhjlaaaPure
set_option linter.unusedVariables false
namespace Go.Proofs.Ytihmliblbhjlaaa
open Go.Am

def stepsN {σ β : Type} (f : σ → Option (Stp σ β)) : Nat → σ → Option σ
  | 0, s => some s
  | k + 1, s => match f s with
    | some (.more s') => stepsN f k s'
    | _ => none
theorem stepsN_iter {σ β : Type} {f : σ → Option (Stp σ β)} : ∀ {k : Nat} {s s' : σ} {G : Nat}, stepsN f k s = some s' → iter f (G + k) s = iter f G s'
  | 0, s, s', G, h => by cases h; rfl
  | k + 1, s, s', G, h => by
    simp only [stepsN] at h
    rw [show G + (k + 1) = (G + k) + 1 from rfl]
    simp only [iter]
    cases e : f s with
    | none => rw [e] at h; cases h
    | some r =>
      rw [e] at h
      cases r with
      | more s2 => exact stepsN_iter h
      | stop b => cases h
theorem few5_0 : stepsN (F10_l0 6000) 40 ([0, 1, 2, 3, 4], 0, 0, 0) = some ([1, 3, 4, 0, 2], 0, 26, 26) := by kernel_rfl
theorem few5_1 : stepsN (F10_l0 6000) 40 ([1, 3, 4, 0, 2], 0, 26, 26) = some ([3, 1, 2, 0, 4], 0, 40, 40) := by kernel_rfl
theorem few5_2 : stepsN (F10_l0 6000) 40 ([3, 1, 2, 0, 4], 0, 40, 40) = some ([], 4, 42, 42) := by kernel_rfl
theorem few5_e : F10_l0 6000 ([], 4, 42, 42) = some (.stop (.inl (42, 42))) := by kernel_rfl
theorem few5 : iter (F10_l0 6000) 6000 ([0, 1, 2, 3, 4], 0, 0, 0) = some (.inl (42, 42)) := by
  rw [show (6000 : Nat) = 5960 + 40 from rfl, stepsN_iter few5_0]
  rw [show (5960 : Nat) = 5920 + 40 from rfl, stepsN_iter few5_1]
  rw [show (5920 : Nat) = 5880 + 40 from rfl, stepsN_iter few5_2]
  exact iter_stop (f := 5879) few5_e
theorem fewA5 : (F10 6000 5) = some true := by
  have e1 : F71 6000 5 7 = some 5 := by kernel_rfl
  have e2 : F79 6000 5 = some (42, 0) := by kernel_rfl
  have e3 : F80 6000 5 0 = some ([0, 1, 2, 3, 4], 0) := by kernel_rfl
  have e4 : F73 6000 = some true := by kernel_rfl
  have e5 : F76 6000 [0, 0] = some true := by kernel_rfl
  unfold F10
  rw [e1, Option.bind_some, e2, Option.bind_some, e3, Option.bind_some, e4, Option.bind_some]
  simp only [Bool.not_true, Bool.false_eq_true, if_false]
  rw [e5]
  simp only [Option.bind_some, Bool.not_true, Bool.false_eq_true, if_false]
  rw [few5]
  rfl
theorem few6_0 : stepsN (F10_l0 6000) 40 ([0, 1, 2, 3, 4, 5], 0, 0, 0) = some ([0, 2, 4, 5, 1, 3], 0, 26, 26) := by kernel_rfl
theorem few6_1 : stepsN (F10_l0 6000) 40 ([0, 2, 4, 5, 1, 3], 0, 26, 26) = some ([0, 4, 2, 3, 1, 5], 0, 40, 40) := by kernel_rfl
theorem few6_2 : stepsN (F10_l0 6000) 40 ([0, 4, 2, 3, 1, 5], 0, 40, 40) = some ([1, 0, 2, 3, 4, 5], 0, 42, 42) := by kernel_rfl
theorem few6_3 : stepsN (F10_l0 6000) 40 ([1, 0, 2, 3, 4, 5], 0, 42, 42) = some ([1, 2, 4, 5, 0, 3], 0, 68, 68) := by kernel_rfl
theorem few6_4 : stepsN (F10_l0 6000) 40 ([1, 2, 4, 5, 0, 3], 0, 68, 68) = some ([1, 4, 2, 3, 0, 5], 0, 82, 82) := by kernel_rfl
theorem few6_5 : stepsN (F10_l0 6000) 40 ([1, 4, 2, 3, 0, 5], 0, 82, 82) = some ([2, 0, 1, 3, 4, 5], 0, 84, 84) := by kernel_rfl
theorem few6_6 : stepsN (F10_l0 6000) 40 ([2, 0, 1, 3, 4, 5], 0, 84, 84) = some ([2, 1, 4, 5, 0, 3], 0, 98, 98) := by kernel_rfl
theorem few6_7 : stepsN (F10_l0 6000) 40 ([2, 1, 4, 5, 0, 3], 0, 98, 98) = some ([2, 4, 1, 3, 0, 5], 0, 110, 110) := by kernel_rfl
theorem few6_8 : stepsN (F10_l0 6000) 40 ([2, 4, 1, 3, 0, 5], 0, 110, 110) = some ([3, 0, 1, 2, 4, 5], 0, 112, 112) := by kernel_rfl
theorem few6_9 : stepsN (F10_l0 6000) 40 ([3, 0, 1, 2, 4, 5], 0, 112, 112) = some ([3, 1, 4, 5, 0, 2], 0, 121, 121) := by kernel_rfl
theorem few6_10 : stepsN (F10_l0 6000) 40 ([3, 1, 4, 5, 0, 2], 0, 121, 121) = some ([3, 4, 1, 2, 0, 5], 0, 124, 124) := by kernel_rfl
theorem few6_11 : stepsN (F10_l0 6000) 40 ([3, 4, 1, 2, 0, 5], 0, 124, 124) = some ([4, 0, 1, 2, 3, 5], 0, 126, 126) := by kernel_rfl
theorem few6_12 : stepsN (F10_l0 6000) 40 ([4, 0, 1, 2, 3, 5], 0, 126, 126) = some ([4, 1, 3, 5, 0, 2], 0, 130, 130) := by kernel_rfl
theorem few6_13 : stepsN (F10_l0 6000) 40 ([4, 1, 3, 5, 0, 2], 0, 130, 130) = some ([4, 3, 1, 2, 0, 5], 0, 130, 130) := by kernel_rfl
theorem few6_14 : stepsN (F10_l0 6000) 40 ([4, 3, 1, 2, 0, 5], 0, 130, 130) = some ([5, 0, 1, 2, 3, 4], 0, 131, 131) := by kernel_rfl
theorem few6_15 : stepsN (F10_l0 6000) 40 ([5, 0, 1, 2, 3, 4], 0, 131, 131) = some ([5, 1, 3, 4, 0, 2], 0, 132, 132) := by kernel_rfl
theorem few6_16 : stepsN (F10_l0 6000) 40 ([5, 1, 3, 4, 0, 2], 0, 132, 132) = some ([5, 3, 1, 2, 0, 4], 0, 132, 132) := by kernel_rfl
theorem few6_17 : stepsN (F10_l0 6000) 40 ([5, 3, 1, 2, 0, 4], 0, 132, 132) = some ([], 4, 132, 132) := by kernel_rfl
theorem few6_e : F10_l0 6000 ([], 4, 132, 132) = some (.stop (.inl (132, 132))) := by kernel_rfl
theorem few6 : iter (F10_l0 6000) 6000 ([0, 1, 2, 3, 4, 5], 0, 0, 0) = some (.inl (132, 132)) := by
  rw [show (6000 : Nat) = 5960 + 40 from rfl, stepsN_iter few6_0]
  rw [show (5960 : Nat) = 5920 + 40 from rfl, stepsN_iter few6_1]
  rw [show (5920 : Nat) = 5880 + 40 from rfl, stepsN_iter few6_2]
  rw [show (5880 : Nat) = 5840 + 40 from rfl, stepsN_iter few6_3]
  rw [show (5840 : Nat) = 5800 + 40 from rfl, stepsN_iter few6_4]
  rw [show (5800 : Nat) = 5760 + 40 from rfl, stepsN_iter few6_5]
  rw [show (5760 : Nat) = 5720 + 40 from rfl, stepsN_iter few6_6]
  rw [show (5720 : Nat) = 5680 + 40 from rfl, stepsN_iter few6_7]
  rw [show (5680 : Nat) = 5640 + 40 from rfl, stepsN_iter few6_8]
  rw [show (5640 : Nat) = 5600 + 40 from rfl, stepsN_iter few6_9]
  rw [show (5600 : Nat) = 5560 + 40 from rfl, stepsN_iter few6_10]
  rw [show (5560 : Nat) = 5520 + 40 from rfl, stepsN_iter few6_11]
  rw [show (5520 : Nat) = 5480 + 40 from rfl, stepsN_iter few6_12]
  rw [show (5480 : Nat) = 5440 + 40 from rfl, stepsN_iter few6_13]
  rw [show (5440 : Nat) = 5400 + 40 from rfl, stepsN_iter few6_14]
  rw [show (5400 : Nat) = 5360 + 40 from rfl, stepsN_iter few6_15]
  rw [show (5360 : Nat) = 5320 + 40 from rfl, stepsN_iter few6_16]
  rw [show (5320 : Nat) = 5280 + 40 from rfl, stepsN_iter few6_17]
  exact iter_stop (f := 5279) few6_e
theorem fewA6 : (F10 6000 6) = some true := by
  have e1 : F71 6000 6 7 = some 6 := by kernel_rfl
  have e2 : F79 6000 6 = some (132, 0) := by kernel_rfl
  have e3 : F80 6000 6 0 = some ([0, 1, 2, 3, 4, 5], 0) := by kernel_rfl
  have e4 : F73 6000 = some true := by kernel_rfl
  have e5 : F76 6000 [0, 0] = some true := by kernel_rfl
  unfold F10
  rw [e1, Option.bind_some, e2, Option.bind_some, e3, Option.bind_some, e4, Option.bind_some]
  simp only [Bool.not_true, Bool.false_eq_true, if_false]
  rw [e5]
  simp only [Option.bind_some, Bool.not_true, Bool.false_eq_true, if_false]
  rw [few6]
  rfl
theorem fewA0 : F10 6000 0 = some true := by kernel_rfl
theorem fewA1 : F10 6000 1 = some true := by kernel_rfl
theorem fewA2 : F10 6000 2 = some true := by kernel_rfl
theorem fewA3 : F10 6000 3 = some true := by kernel_rfl
theorem fewA4 : F10 6000 4 = some true := by kernel_rfl
theorem within_eq (F : Nat) (t : Int) (m : Nat) (hm : 0 < m) (hm2 : m ≤ 100) : ∃ x : Nat, x < m ∧ F71 F t m = some (x : Int) := by
  unfold F71 F135
  have h1 := Int.tmod_lt_of_pos t (show (0 : Int) < (m : Int) from by omega)
  have h2 := Int.lt_tmod_of_pos t (show (0 : Int) < (m : Int) from by omega)
  have hr : rem? t (m : Int) = some (t.tmod m) := by unfold rem?; rw [if_neg (by omega)]
  rw [hr, Option.bind_some]
  by_cases h : t.tmod m < 0
  · have hw : wrapA .i64 (t.tmod m + (m : Int)) = t.tmod m + m := wrapA_64 ⟨by omega, by omega⟩
    rw [if_pos (decide_eq_true h), Option.bind_some, hw]
    exact ⟨(t.tmod m + m).toNat, by omega, by rw [Int.toNat_of_nonneg (by omega)]⟩
  · rw [if_neg (mt of_decide_eq_true h), Option.bind_some]
    exact ⟨(t.tmod m).toNat, by omega, by rw [Int.toNat_of_nonneg (by omega)]⟩
theorem own_eq (F : Nat) (x : Nat) (hx : x < 7) : F71 F (x : Int) 7 = some (x : Int) := by
  have : x = 0 ∨ x = 1 ∨ x = 2 ∨ x = 3 ∨ x = 4 ∨ x = 5 ∨ x = 6 := by omega
  rcases this with rfl | rfl | rfl | rfl | rfl | rfl | rfl <;> rfl
theorem PtopFew.holds (t0 : Int) (h0 : inR .i64 t0) : ∃ F, F10 F t0 = some true := by
  refine ⟨6000, ?_⟩
  obtain ⟨x, hx, e⟩ := within_eq 6000 t0 7 (by decide) (by decide)
  have e : F71 6000 t0 7 = some (x : Int) := e
  have key : F10 6000 t0 = F10 6000 (x : Int) := by
    unfold F10
    rw [e, own_eq 6000 x hx]
  rw [key]
  have : x = 0 ∨ x = 1 ∨ x = 2 ∨ x = 3 ∨ x = 4 ∨ x = 5 ∨ x = 6 := by omega
  rcases this with rfl | rfl | rfl | rfl | rfl | rfl | rfl
  · exact fewA0
  · exact fewA1
  · exact fewA2
  · exact fewA3
  · exact fewA4
  · exact fewA5
  · exact fewA6
end Go.Proofs.Ytihmliblbhjlaaa

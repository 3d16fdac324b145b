/- More fuel, the same answer: printed by a program of ours (gen.py). -/
import Derived.Test.YtkfmedmanhcdeaaDef
import Derived.Test.YtkfmedmanhcdeaaPure
set_option linter.unusedVariables false
namespace Go.Proofs.Ytkfmedmanhcdeaa
open Go.Am
theorem F15_l0_le {F F' : Nat} (h : F ≤ F')  (s2 : Int × Int) : Le (F15_l0 F s2) (F15_l0 F' s2) := by
  unfold F15_l0
  repeat' (first | (with_reducible exact Le.refl _) | refine Le.ite ?_ ?_ | refine Le.bind ?_ ?_ | refine Le.iter (fun _ => ?_) h | intro _ | split)
theorem F15_le {F F' : Nat} (h : F ≤ F') (t0 : Int) : Le (F15 F t0) (F15 F' t0) := by
  unfold F15
  repeat' (first | (with_reducible exact Le.refl _) | refine F15_l0_le h _ | refine Le.ite ?_ ?_ | refine Le.bind ?_ ?_ | refine Le.iter (fun _ => ?_) h | intro _ | split)
theorem F16_l0_le {F F' : Nat} (h : F ≤ F') (s7 : (List Int) × Int) (s17 : (List Int) × Int) : Le (F16_l0 F s7 s17) (F16_l0 F' s7 s17) := by
  unfold F16_l0
  repeat' (first | (with_reducible exact Le.refl _) | refine Le.ite ?_ ?_ | refine Le.bind ?_ ?_ | refine Le.iter (fun _ => ?_) h | intro _ | split)
theorem F16_l1_le {F F' : Nat} (h : F ≤ F') (t0 : Int) (s7 : (List Int) × Int) : Le (F16_l1 F t0 s7) (F16_l1 F' t0 s7) := by
  unfold F16_l1
  repeat' (first | (with_reducible exact Le.refl _) | refine F16_l0_le h _ _ | refine Le.ite ?_ ?_ | refine Le.bind ?_ ?_ | refine Le.iter (fun _ => ?_) h | intro _ | split)
theorem F16_le {F F' : Nat} (h : F ≤ F') (t0 : Int) : Le (F16 F t0) (F16 F' t0) := by
  unfold F16
  repeat' (first | (with_reducible exact Le.refl _) | refine F16_l0_le h _ _ | refine F16_l1_le h _ _ | refine Le.ite ?_ ?_ | refine Le.bind ?_ ?_ | refine Le.iter (fun _ => ?_) h | intro _ | split)
theorem F17_l0_le {F F' : Nat} (h : F ≤ F')  (s1 : Int × Int) : Le (F17_l0 F s1) (F17_l0 F' s1) := by
  unfold F17_l0
  repeat' (first | (with_reducible exact Le.refl _) | refine Le.ite ?_ ?_ | refine Le.bind ?_ ?_ | refine Le.iter (fun _ => ?_) h | intro _ | split)
theorem F17_le {F F' : Nat} (h : F ≤ F') (t0 : Int) : Le (F17 F t0) (F17 F' t0) := by
  unfold F17
  repeat' (first | (with_reducible exact Le.refl _) | refine F17_l0_le h _ | refine Le.ite ?_ ?_ | refine Le.bind ?_ ?_ | refine Le.iter (fun _ => ?_) h | intro _ | split)
theorem F18_le {F F' : Nat} (h : F ≤ F') (t0 : Int) : Le (F18 F t0) (F18 F' t0) := by
  unfold F18
  repeat' (first | (with_reducible exact Le.refl _) | refine Le.ite ?_ ?_ | refine Le.bind ?_ ?_ | refine Le.iter (fun _ => ?_) h | intro _ | split)
theorem F19_l0_le {F F' : Nat} (h : F ≤ F') (t0 : List Int) (s1 : Int × Int) : Le (F19_l0 F t0 s1) (F19_l0 F' t0 s1) := by
  unfold F19_l0
  repeat' (first | (with_reducible exact Le.refl _) | refine Le.ite ?_ ?_ | refine Le.bind ?_ ?_ | refine Le.iter (fun _ => ?_) h | intro _ | split)
theorem F19_l1_le {F F' : Nat} (h : F ≤ F') (b22 : Int) (s25 : Int × Int) : Le (F19_l1 F b22 s25) (F19_l1 F' b22 s25) := by
  unfold F19_l1
  repeat' (first | (with_reducible exact Le.refl _) | refine F19_l0_le h _ _ | refine Le.ite ?_ ?_ | refine Le.bind ?_ ?_ | refine Le.iter (fun _ => ?_) h | intro _ | split)
theorem F19_l2_le {F F' : Nat} (h : F ≤ F') (s43 : Int × Int) (L49 : List Int) (s53 : Int × Int) : Le (F19_l2 F s43 L49 s53) (F19_l2 F' s43 L49 s53) := by
  unfold F19_l2
  repeat' (first | (with_reducible exact Le.refl _) | refine F19_l0_le h _ _ | refine F19_l1_le h _ _ | refine Le.ite ?_ ?_ | refine Le.bind ?_ ?_ | refine Le.iter (fun _ => ?_) h | intro _ | split)
theorem F19_l3_le {F F' : Nat} (h : F ≤ F') (t0 : List Int) (s35 : Int × Int) (x41 : Int) (s43 : Int × Int) : Le (F19_l3 F t0 s35 x41 s43) (F19_l3 F' t0 s35 x41 s43) := by
  unfold F19_l3
  repeat' (first | (with_reducible exact Le.refl _) | refine F19_l0_le h _ _ | refine F19_l1_le h _ _ | refine F19_l2_le h _ _ _ | refine Le.ite ?_ ?_ | refine Le.bind ?_ ?_ | refine Le.iter (fun _ => ?_) h | intro _ | split)
theorem F19_l4_le {F F' : Nat} (h : F ≤ F') (t0 : List Int) (s35 : Int × Int) : Le (F19_l4 F t0 s35) (F19_l4 F' t0 s35) := by
  unfold F19_l4
  repeat' (first | (with_reducible exact Le.refl _) | refine F19_l0_le h _ _ | refine F19_l1_le h _ _ | refine F19_l2_le h _ _ _ | refine F19_l3_le h _ _ _ _ | refine Le.ite ?_ ?_ | refine Le.bind ?_ ?_ | refine Le.iter (fun _ => ?_) h | intro _ | split)
theorem F19_le {F F' : Nat} (h : F ≤ F') (t0 : List Int) : Le (F19 F t0) (F19 F' t0) := by
  unfold F19
  repeat' (first | (with_reducible exact Le.refl _) | refine F19_l0_le h _ _ | refine F19_l1_le h _ _ | refine F19_l2_le h _ _ _ | refine F19_l3_le h _ _ _ _ | refine F19_l4_le h _ _ | refine Le.ite ?_ ?_ | refine Le.bind ?_ ?_ | refine Le.iter (fun _ => ?_) h | intro _ | split)
theorem F20_l0_le {F F' : Nat} (h : F ≤ F') (t0 : List Int) (s1 : Int × Int) : Le (F20_l0 F t0 s1) (F20_l0 F' t0 s1) := by
  unfold F20_l0
  repeat' (first | (with_reducible exact Le.refl _) | refine Le.ite ?_ ?_ | refine Le.bind ?_ ?_ | refine Le.iter (fun _ => ?_) h | intro _ | split)
theorem F20_le {F F' : Nat} (h : F ≤ F') (t0 : List Int) : Le (F20 F t0) (F20 F' t0) := by
  unfold F20
  repeat' (first | (with_reducible exact Le.refl _) | refine F20_l0_le h _ _ | refine Le.ite ?_ ?_ | refine Le.bind ?_ ?_ | refine Le.iter (fun _ => ?_) h | intro _ | split)
theorem F95_le {F F' : Nat} (h : F ≤ F') (t0 : (List Int)) : Le (F95 F t0) (F95 F' t0) := by
  unfold F95
  repeat' (first | (with_reducible exact Le.refl _) | refine Le.ite ?_ ?_ | refine Le.bind ?_ ?_ | refine Le.iter (fun _ => ?_) h | intro _ | split)
theorem F21_l0_le {F F' : Nat} (h : F ≤ F') (t0 : List Int) (s1 : Int × Int) : Le (F21_l0 F t0 s1) (F21_l0 F' t0 s1) := by
  unfold F21_l0
  repeat' (first | (with_reducible exact Le.refl _) | refine F95_le h _ | refine Le.ite ?_ ?_ | refine Le.bind ?_ ?_ | refine Le.iter (fun _ => ?_) h | intro _ | split)
theorem F21_l1_le {F F' : Nat} (h : F ≤ F') (t0 : List Int) {frec frec' : (List Int) → Option Int} (hf : ∀ x0, Le (frec x0) (frec' x0)) (s14 : Int × Int) : Le (F21_l1 F t0 frec s14) (F21_l1 F' t0 frec' s14) := by
  unfold F21_l1
  repeat' (first | (with_reducible exact Le.refl _) | refine F21_l0_le h _ _ | refine F95_le h _ | refine hf _ | refine Le.ite ?_ ?_ | refine Le.bind ?_ ?_ | refine Le.iter (fun _ => ?_) h | intro _ | split)
theorem F21_le {F F' : Nat} (h : F ≤ F') (x0 : (List Int)) : Le (F21 F x0) (F21 F' x0) := by
  induction F generalizing F' x0 with
  | zero => exact ⟨fun _ h => by cases h⟩
  | succ F ih =>
    cases F' with
    | zero => omega
    | succ F' =>
      rw [F21, F21]
      try dsimp only
      repeat' (first | (with_reducible exact Le.refl _) | refine F21_l0_le (Nat.le_of_succ_le_succ h) _ _ | refine F21_l1_le (Nat.le_of_succ_le_succ h) _ ?_ _ | refine F95_le (Nat.le_of_succ_le_succ h) _ | refine ih (Nat.le_of_succ_le_succ h) _ | refine Le.ite ?_ ?_ | refine Le.bind ?_ ?_ | refine Le.iter (fun _ => ?_) (Nat.le_of_succ_le_succ h) | (dsimp only; done) | intro _ | split)
theorem F22_le {F F' : Nat} (h : F ≤ F') (t0 : Int) : Le (F22 F t0) (F22 F' t0) := by
  unfold F22
  repeat' (first | (with_reducible exact Le.refl _) | refine Le.ite ?_ ?_ | refine Le.bind ?_ ?_ | refine Le.iter (fun _ => ?_) h | intro _ | split)
theorem F96_l0_le {F F' : Nat} (h : F ≤ F') (t0 : (List Int)) (s1 : Int × Int) : Le (F96_l0 F t0 s1) (F96_l0 F' t0 s1) := by
  unfold F96_l0
  repeat' (first | (with_reducible exact Le.refl _) | refine Le.ite ?_ ?_ | refine Le.bind ?_ ?_ | refine Le.iter (fun _ => ?_) h | intro _ | split)
theorem F96_le {F F' : Nat} (h : F ≤ F') (t0 : (List Int)) (t1 : Int) : Le (F96 F t0 t1) (F96 F' t0 t1) := by
  unfold F96
  repeat' (first | (with_reducible exact Le.refl _) | refine F96_l0_le h _ _ | refine Le.ite ?_ ?_ | refine Le.bind ?_ ?_ | refine Le.iter (fun _ => ?_) h | intro _ | split)
theorem F23_l0_le {F F' : Nat} (h : F ≤ F') (t2 : Int) (s15 : Int × (List Int)) : Le (F23_l0 F t2 s15) (F23_l0 F' t2 s15) := by
  unfold F23_l0
  repeat' (first | (with_reducible exact Le.refl _) | refine F96_le h _ _ | refine Le.ite ?_ ?_ | refine Le.bind ?_ ?_ | refine Le.iter (fun _ => ?_) h | intro _ | split)
theorem F23_le {F F' : Nat} (h : F ≤ F') (t0 : (List Int)) (t1 : Int) (t2 : Int) : Le (F23 F t0 t1 t2) (F23 F' t0 t1 t2) := by
  unfold F23
  repeat' (first | (with_reducible exact Le.refl _) | refine F23_l0_le h _ _ | refine F96_le h _ _ | refine Le.ite ?_ ?_ | refine Le.bind ?_ ?_ | refine Le.iter (fun _ => ?_) h | intro _ | split)
theorem F24_le {F F' : Nat} (h : F ≤ F') (t0 : (List Int)) (t1 : Int) : Le (F24 F t0 t1) (F24 F' t0 t1) := by
  unfold F24
  repeat' (first | (with_reducible exact Le.refl _) | refine F96_le h _ _ | refine Le.ite ?_ ?_ | refine Le.bind ?_ ?_ | refine Le.iter (fun _ => ?_) h | intro _ | split)
theorem F25_l0_le {F F' : Nat} (h : F ≤ F') (t0 : (List Int)) (s2 : Int × Int × Int) : Le (F25_l0 F t0 s2) (F25_l0 F' t0 s2) := by
  unfold F25_l0
  repeat' (first | (with_reducible exact Le.refl _) | refine Le.ite ?_ ?_ | refine Le.bind ?_ ?_ | refine Le.iter (fun _ => ?_) h | intro _ | split)
theorem F25_le {F F' : Nat} (h : F ≤ F') (t0 : (List Int)) (t1 : Int) : Le (F25 F t0 t1) (F25 F' t0 t1) := by
  unfold F25
  repeat' (first | (with_reducible exact Le.refl _) | refine F25_l0_le h _ _ | refine Le.ite ?_ ?_ | refine Le.bind ?_ ?_ | refine Le.iter (fun _ => ?_) h | intro _ | split)
theorem F97_l0_le {F F' : Nat} (h : F ≤ F') (t0 : Int) (t1 : Int) (s2 : Int × Int) : Le (F97_l0 F t0 t1 s2) (F97_l0 F' t0 t1 s2) := by
  unfold F97_l0
  repeat' (first | (with_reducible exact Le.refl _) | refine Le.ite ?_ ?_ | refine Le.bind ?_ ?_ | refine Le.iter (fun _ => ?_) h | intro _ | split)
theorem F97_le {F F' : Nat} (h : F ≤ F') (t0 : Int) (t1 : Int) : Le (F97 F t0 t1) (F97 F' t0 t1) := by
  unfold F97
  repeat' (first | (with_reducible exact Le.refl _) | refine F97_l0_le h _ _ _ | refine Le.ite ?_ ?_ | refine Le.bind ?_ ?_ | refine Le.iter (fun _ => ?_) h | intro _ | split)
theorem F26_le {F F' : Nat} (h : F ≤ F') (t0 : Int) (t1 : Int) : Le (F26 F t0 t1) (F26 F' t0 t1) := by
  unfold F26
  repeat' (first | (with_reducible exact Le.refl _) | refine F97_le h _ _ | refine Le.ite ?_ ?_ | refine Le.bind ?_ ?_ | refine Le.iter (fun _ => ?_) h | intro _ | split)
theorem F27_l0_le {F F' : Nat} (h : F ≤ F')  (s13 : Int × Int × Int × Int) : Le (F27_l0 F s13) (F27_l0 F' s13) := by
  unfold F27_l0
  repeat' (first | (with_reducible exact Le.refl _) | refine F97_le h _ _ | refine Le.ite ?_ ?_ | refine Le.bind ?_ ?_ | refine Le.iter (fun _ => ?_) h | intro _ | split)
theorem F27_le {F F' : Nat} (h : F ≤ F') (t0 : Int) (t1 : Int) : Le (F27 F t0 t1) (F27 F' t0 t1) := by
  unfold F27
  repeat' (first | (with_reducible exact Le.refl _) | refine F27_l0_le h _ | refine F97_le h _ _ | refine Le.ite ?_ ?_ | refine Le.bind ?_ ?_ | refine Le.iter (fun _ => ?_) h | intro _ | split)
theorem F29_l0_le {F F' : Nat} (h : F ≤ F')  (s1 : Int × Int) : Le (F29_l0 F s1) (F29_l0 F' s1) := by
  unfold F29_l0
  repeat' (first | (with_reducible exact Le.refl _) | refine Le.ite ?_ ?_ | refine Le.bind ?_ ?_ | refine Le.iter (fun _ => ?_) h | intro _ | split)
theorem F29_le {F F' : Nat} (h : F ≤ F') (t0 : Int) : Le (F29 F t0) (F29 F' t0) := by
  unfold F29
  repeat' (first | (with_reducible exact Le.refl _) | refine F29_l0_le h _ | refine Le.ite ?_ ?_ | refine Le.bind ?_ ?_ | refine Le.iter (fun _ => ?_) h | intro _ | split)
theorem F31_l0_le {F F' : Nat} (h : F ≤ F') (t0 : Int) (s1 : Int × Int × Int) : Le (F31_l0 F t0 s1) (F31_l0 F' t0 s1) := by
  unfold F31_l0
  repeat' (first | (with_reducible exact Le.refl _) | refine F97_le h _ _ | refine Le.ite ?_ ?_ | refine Le.bind ?_ ?_ | refine Le.iter (fun _ => ?_) h | intro _ | split)
theorem F31_le {F F' : Nat} (h : F ≤ F') (t0 : Int) : Le (F31 F t0) (F31 F' t0) := by
  unfold F31
  repeat' (first | (with_reducible exact Le.refl _) | refine F31_l0_le h _ _ | refine F97_le h _ _ | refine Le.ite ?_ ?_ | refine Le.bind ?_ ?_ | refine Le.iter (fun _ => ?_) h | intro _ | split)
theorem F28_le {F F' : Nat} (h : F ≤ F') (t0 : Int) (t1 : Int) : Le (F28 F t0 t1) (F28 F' t0 t1) := by
  unfold F28
  repeat' (first | (with_reducible exact Le.refl _) | refine F27_le h _ _ | refine F29_le h _ | refine F31_le h _ | refine F97_le h _ _ | refine Le.ite ?_ ?_ | refine Le.bind ?_ ?_ | refine Le.iter (fun _ => ?_) h | intro _ | split)
theorem F30_l0_le {F F' : Nat} (h : F ≤ F') (t0 : Int) (s1 : Int × Int) : Le (F30_l0 F t0 s1) (F30_l0 F' t0 s1) := by
  unfold F30_l0
  repeat' (first | (with_reducible exact Le.refl _) | refine Le.ite ?_ ?_ | refine Le.bind ?_ ?_ | refine Le.iter (fun _ => ?_) h | intro _ | split)
theorem F30_le {F F' : Nat} (h : F ≤ F') (t0 : Int) : Le (F30 F t0) (F30 F' t0) := by
  unfold F30
  repeat' (first | (with_reducible exact Le.refl _) | refine F30_l0_le h _ _ | refine Le.ite ?_ ?_ | refine Le.bind ?_ ?_ | refine Le.iter (fun _ => ?_) h | intro _ | split)
theorem F32_l0_le {F F' : Nat} (h : F ≤ F') (t0 : Int) (s1 : Int × Int) : Le (F32_l0 F t0 s1) (F32_l0 F' t0 s1) := by
  unfold F32_l0
  repeat' (first | (with_reducible exact Le.refl _) | refine F30_le h _ | refine Le.ite ?_ ?_ | refine Le.bind ?_ ?_ | refine Le.iter (fun _ => ?_) h | intro _ | split)
theorem F32_le {F F' : Nat} (h : F ≤ F') (t0 : Int) : Le (F32 F t0) (F32 F' t0) := by
  unfold F32
  repeat' (first | (with_reducible exact Le.refl _) | refine F30_le h _ | refine F32_l0_le h _ _ | refine Le.ite ?_ ?_ | refine Le.bind ?_ ?_ | refine Le.iter (fun _ => ?_) h | intro _ | split)
theorem F33_l0_le {F F' : Nat} (h : F ≤ F')  (s21 : Int × (List Int)) : Le (F33_l0 F s21) (F33_l0 F' s21) := by
  unfold F33_l0
  repeat' (first | (with_reducible exact Le.refl _) | refine Le.ite ?_ ?_ | refine Le.bind ?_ ?_ | refine Le.iter (fun _ => ?_) h | intro _ | split)
theorem F33_l1_le {F F' : Nat} (h : F ≤ F') (t0 : Int) (t1 : Int) (s15 : Int × (List Int)) : Le (F33_l1 F t0 t1 s15) (F33_l1 F' t0 t1 s15) := by
  unfold F33_l1
  repeat' (first | (with_reducible exact Le.refl _) | refine F33_l0_le h _ | refine Le.ite ?_ ?_ | refine Le.bind ?_ ?_ | refine Le.iter (fun _ => ?_) h | intro _ | split)
theorem F33_le {F F' : Nat} (h : F ≤ F') (t0 : Int) (t1 : Int) : Le (F33 F t0 t1) (F33 F' t0 t1) := by
  unfold F33
  repeat' (first | (with_reducible exact Le.refl _) | refine F33_l0_le h _ | refine F33_l1_le h _ _ _ | refine Le.ite ?_ ?_ | refine Le.bind ?_ ?_ | refine Le.iter (fun _ => ?_) h | intro _ | split)
theorem F34_l0_le {F F' : Nat} (h : F ≤ F') (t0 : Int) (t1 : Int) (s1 : Int) : Le (F34_l0 F t0 t1 s1) (F34_l0 F' t0 t1 s1) := by
  unfold F34_l0
  repeat' (first | (with_reducible exact Le.refl _) | refine F30_le h _ | refine Le.ite ?_ ?_ | refine Le.bind ?_ ?_ | refine Le.iter (fun _ => ?_) h | intro _ | split)
theorem F34_le {F F' : Nat} (h : F ≤ F') (t0 : Int) (t1 : Int) : Le (F34 F t0 t1) (F34 F' t0 t1) := by
  unfold F34
  repeat' (first | (with_reducible exact Le.refl _) | refine F30_le h _ | refine F34_l0_le h _ _ _ | refine Le.ite ?_ ?_ | refine Le.bind ?_ ?_ | refine Le.iter (fun _ => ?_) h | intro _ | split)
theorem F35_l0_le {F F' : Nat} (h : F ≤ F') (t0 : Int) (s3 : Int × Int × Int) : Le (F35_l0 F t0 s3) (F35_l0 F' t0 s3) := by
  unfold F35_l0
  repeat' (first | (with_reducible exact Le.refl _) | refine Le.ite ?_ ?_ | refine Le.bind ?_ ?_ | refine Le.iter (fun _ => ?_) h | intro _ | split)
theorem F35_le {F F' : Nat} (h : F ≤ F') (t0 : Int) : Le (F35 F t0) (F35 F' t0) := by
  unfold F35
  repeat' (first | (with_reducible exact Le.refl _) | refine F35_l0_le h _ _ | refine Le.ite ?_ ?_ | refine Le.bind ?_ ?_ | refine Le.iter (fun _ => ?_) h | intro _ | split)
theorem F36_l0_le {F F' : Nat} (h : F ≤ F') (t0 : Int) (t1 : Int) (s10 : Int × Int) : Le (F36_l0 F t0 t1 s10) (F36_l0 F' t0 t1 s10) := by
  unfold F36_l0
  repeat' (first | (with_reducible exact Le.refl _) | refine F35_le h _ | refine Le.ite ?_ ?_ | refine Le.bind ?_ ?_ | refine Le.iter (fun _ => ?_) h | intro _ | split)
theorem F36_le {F F' : Nat} (h : F ≤ F') (t0 : Int) (t1 : Int) : Le (F36 F t0 t1) (F36 F' t0 t1) := by
  unfold F36
  repeat' (first | (with_reducible exact Le.refl _) | refine F35_le h _ | refine F36_l0_le h _ _ _ | refine Le.ite ?_ ?_ | refine Le.bind ?_ ?_ | refine Le.iter (fun _ => ?_) h | intro _ | split)
theorem F98_l0_le {F F' : Nat} (h : F ≤ F') (t0 : List Int) (s6 : Int × (List Bool)) : Le (F98_l0 F t0 s6) (F98_l0 F' t0 s6) := by
  unfold F98_l0
  repeat' (first | (with_reducible exact Le.refl _) | refine Le.ite ?_ ?_ | refine Le.bind ?_ ?_ | refine Le.iter (fun _ => ?_) h | intro _ | split)
theorem F98_le {F F' : Nat} (h : F ≤ F') (t0 : List Int) : Le (F98 F t0) (F98 F' t0) := by
  unfold F98
  repeat' (first | (with_reducible exact Le.refl _) | refine F98_l0_le h _ _ | refine Le.ite ?_ ?_ | refine Le.bind ?_ ?_ | refine Le.iter (fun _ => ?_) h | intro _ | split)
theorem F37_l0_le {F F' : Nat} (h : F ≤ F') (t0 : List Int) (s6 : Int × Int) : Le (F37_l0 F t0 s6) (F37_l0 F' t0 s6) := by
  unfold F37_l0
  repeat' (first | (with_reducible exact Le.refl _) | refine F98_le h _ | refine Le.ite ?_ ?_ | refine Le.bind ?_ ?_ | refine Le.iter (fun _ => ?_) h | intro _ | split)
theorem F37_le {F F' : Nat} (h : F ≤ F') (t0 : List Int) : Le (F37 F t0) (F37 F' t0) := by
  unfold F37
  repeat' (first | (with_reducible exact Le.refl _) | refine F37_l0_le h _ _ | refine F98_le h _ | refine Le.ite ?_ ?_ | refine Le.bind ?_ ?_ | refine Le.iter (fun _ => ?_) h | intro _ | split)
theorem F118_l0_le {F F' : Nat} (h : F ≤ F') (t0 : List Int) (t1 : Int) (s1 : Int) : Le (F118_l0 F t0 t1 s1) (F118_l0 F' t0 t1 s1) := by
  unfold F118_l0
  repeat' (first | (with_reducible exact Le.refl _) | refine Le.ite ?_ ?_ | refine Le.bind ?_ ?_ | refine Le.iter (fun _ => ?_) h | intro _ | split)
theorem F118_le {F F' : Nat} (h : F ≤ F') (t0 : List Int) (t1 : Int) : Le (F118 F t0 t1) (F118 F' t0 t1) := by
  unfold F118
  repeat' (first | (with_reducible exact Le.refl _) | refine F118_l0_le h _ _ _ | refine Le.ite ?_ ?_ | refine Le.bind ?_ ?_ | refine Le.iter (fun _ => ?_) h | intro _ | split)
theorem F99_le {F F' : Nat} (h : F ≤ F') (t0 : List Int) (t1 : Int) : Le (F99 F t0 t1) (F99 F' t0 t1) := by
  unfold F99
  repeat' (first | (with_reducible exact Le.refl _) | refine F118_le h _ _ | refine Le.ite ?_ ?_ | refine Le.bind ?_ ?_ | refine Le.iter (fun _ => ?_) h | intro _ | split)
theorem F38_l0_le {F F' : Nat} (h : F ≤ F') (t0 : List Int) (s2 : Int) : Le (F38_l0 F t0 s2) (F38_l0 F' t0 s2) := by
  unfold F38_l0
  repeat' (first | (with_reducible exact Le.refl _) | refine F99_le h _ _ | refine Le.ite ?_ ?_ | refine Le.bind ?_ ?_ | refine Le.iter (fun _ => ?_) h | intro _ | split)
theorem F38_le {F F' : Nat} (h : F ≤ F') (t0 : List Int) : Le (F38 F t0) (F38 F' t0) := by
  unfold F38
  repeat' (first | (with_reducible exact Le.refl _) | refine F38_l0_le h _ _ | refine F99_le h _ _ | refine Le.ite ?_ ?_ | refine Le.bind ?_ ?_ | refine Le.iter (fun _ => ?_) h | intro _ | split)
theorem F100_le {F F' : Nat} (h : F ≤ F') (x0 : Int) : Le (F100 F x0) (F100 F' x0) := by
  induction F generalizing F' x0 with
  | zero => exact ⟨fun _ h => by cases h⟩
  | succ F ih =>
    cases F' with
    | zero => omega
    | succ F' =>
      rw [F100, F100]
      try dsimp only
      repeat' (first | (with_reducible exact Le.refl _) | refine ih (Nat.le_of_succ_le_succ h) _ | refine Le.ite ?_ ?_ | refine Le.bind ?_ ?_ | refine Le.iter (fun _ => ?_) (Nat.le_of_succ_le_succ h) | (dsimp only; done) | intro _ | split)
theorem F39_l0_le {F F' : Nat} (h : F ≤ F') (t0 : Int) (s1 : Int × Int) : Le (F39_l0 F t0 s1) (F39_l0 F' t0 s1) := by
  unfold F39_l0
  repeat' (first | (with_reducible exact Le.refl _) | refine F100_le h _ | refine F33_le h _ _ | refine Le.ite ?_ ?_ | refine Le.bind ?_ ?_ | refine Le.iter (fun _ => ?_) h | intro _ | split)
theorem F39_le {F F' : Nat} (h : F ≤ F') (t0 : Int) : Le (F39 F t0) (F39 F' t0) := by
  unfold F39
  repeat' (first | (with_reducible exact Le.refl _) | refine F100_le h _ | refine F33_le h _ _ | refine F39_l0_le h _ _ | refine Le.ite ?_ ?_ | refine Le.bind ?_ ?_ | refine Le.iter (fun _ => ?_) h | intro _ | split)
theorem F104_l0_le {F F' : Nat} (h : F ≤ F')  (s1 : Int × Int) : Le (F104_l0 F s1) (F104_l0 F' s1) := by
  unfold F104_l0
  repeat' (first | (with_reducible exact Le.refl _) | refine Le.ite ?_ ?_ | refine Le.bind ?_ ?_ | refine Le.iter (fun _ => ?_) h | intro _ | split)
theorem F104_le {F F' : Nat} (h : F ≤ F') (t0 : Int) (t1 : Int) : Le (F104 F t0 t1) (F104 F' t0 t1) := by
  unfold F104
  repeat' (first | (with_reducible exact Le.refl _) | refine F104_l0_le h _ | refine Le.ite ?_ ?_ | refine Le.bind ?_ ?_ | refine Le.iter (fun _ => ?_) h | intro _ | split)
theorem F101_le {F F' : Nat} (h : F ≤ F') (t0 : Int) (t1 : Int) : Le (F101 F t0 t1) (F101 F' t0 t1) := by
  unfold F101
  repeat' (first | (with_reducible exact Le.refl _) | refine F104_le h _ _ | refine Le.ite ?_ ?_ | refine Le.bind ?_ ?_ | refine Le.iter (fun _ => ?_) h | intro _ | split)
theorem F40_le {F F' : Nat} (h : F ≤ F') (t0 : Int) (t1 : Int) : Le (F40 F t0 t1) (F40 F' t0 t1) := by
  unfold F40
  repeat' (first | (with_reducible exact Le.refl _) | refine F101_le h _ _ | refine Le.ite ?_ ?_ | refine Le.bind ?_ ?_ | refine Le.iter (fun _ => ?_) h | intro _ | split)
theorem F47_le {F F' : Nat} (h : F ≤ F') (t0 : Int × Int) : Le (F47 F t0) (F47 F' t0) := by
  unfold F47
  repeat' (first | (with_reducible exact Le.refl _) | refine F104_le h _ _ | refine Le.ite ?_ ?_ | refine Le.bind ?_ ?_ | refine Le.iter (fun _ => ?_) h | intro _ | split)
theorem F102_le {F F' : Nat} (h : F ≤ F') (t0 : Int × Int) (t1 : Int × Int) : Le (F102 F t0 t1) (F102 F' t0 t1) := by
  unfold F102
  repeat' (first | (with_reducible exact Le.refl _) | refine F47_le h _ | refine Le.ite ?_ ?_ | refine Le.bind ?_ ?_ | refine Le.iter (fun _ => ?_) h | intro _ | split)
theorem F41_le {F F' : Nat} (h : F ≤ F') (t0 : Int × Int) (t1 : Int × Int) : Le (F41 F t0 t1) (F41 F' t0 t1) := by
  unfold F41
  repeat' (first | (with_reducible exact Le.refl _) | refine F101_le h _ _ | refine F102_le h _ _ | refine Le.ite ?_ ?_ | refine Le.bind ?_ ?_ | refine Le.iter (fun _ => ?_) h | intro _ | split)
theorem F42_le {F F' : Nat} (h : F ≤ F') (t0 : Int × Int) (t1 : Int × Int) : Le (F42 F t0 t1) (F42 F' t0 t1) := by
  unfold F42
  repeat' (first | (with_reducible exact Le.refl _) | refine F101_le h _ _ | refine F102_le h _ _ | refine Le.ite ?_ ?_ | refine Le.bind ?_ ?_ | refine Le.iter (fun _ => ?_) h | intro _ | split)
theorem F43_le {F F' : Nat} (h : F ≤ F') (t0 : Int × Int) (t1 : Int × Int) : Le (F43 F t0 t1) (F43 F' t0 t1) := by
  unfold F43
  repeat' (first | (with_reducible exact Le.refl _) | refine F101_le h _ _ | refine F102_le h _ _ | refine Le.ite ?_ ?_ | refine Le.bind ?_ ?_ | refine Le.iter (fun _ => ?_) h | intro _ | split)
theorem F44_le {F F' : Nat} (h : F ≤ F') (t0 : Int × Int) (t1 : Int × Int) : Le (F44 F t0 t1) (F44 F' t0 t1) := by
  unfold F44
  repeat' (first | (with_reducible exact Le.refl _) | refine F102_le h _ _ | refine Le.ite ?_ ?_ | refine Le.bind ?_ ?_ | refine Le.iter (fun _ => ?_) h | intro _ | split)
theorem F103_le {F F' : Nat} (h : F ≤ F') (x0 : Int) (x1 : Int) : Le (F103 F x0 x1) (F103 F' x0 x1) := by
  induction F generalizing F' x0 x1 with
  | zero => exact ⟨fun _ h => by cases h⟩
  | succ F ih =>
    cases F' with
    | zero => omega
    | succ F' =>
      rw [F103, F103]
      try dsimp only
      repeat' (first | (with_reducible exact Le.refl _) | refine ih (Nat.le_of_succ_le_succ h) _ _ | refine Le.ite ?_ ?_ | refine Le.bind ?_ ?_ | refine Le.iter (fun _ => ?_) (Nat.le_of_succ_le_succ h) | (dsimp only; done) | intro _ | split)
theorem F50_le {F F' : Nat} (h : F ≤ F') (t0 : Int) (t1 : Int) : Le (F50 F t0 t1) (F50 F' t0 t1) := by
  unfold F50
  repeat' (first | (with_reducible exact Le.refl _) | refine F103_le h _ _ | refine Le.ite ?_ ?_ | refine Le.bind ?_ ?_ | refine Le.iter (fun _ => ?_) h | intro _ | split)
theorem F45_le {F F' : Nat} (h : F ≤ F') (t0 : Int) (t1 : Int) : Le (F45 F t0 t1) (F45 F' t0 t1) := by
  unfold F45
  repeat' (first | (with_reducible exact Le.refl _) | refine F50_le h _ _ | refine Le.ite ?_ ?_ | refine Le.bind ?_ ?_ | refine Le.iter (fun _ => ?_) h | intro _ | split)
theorem F46_le {F F' : Nat} (h : F ≤ F') (t0 : Int × Int) : Le (F46 F t0) (F46 F' t0) := by
  unfold F46
  repeat' (first | (with_reducible exact Le.refl _) | refine F103_le h _ _ | refine Le.ite ?_ ?_ | refine Le.bind ?_ ?_ | refine Le.iter (fun _ => ?_) h | intro _ | split)
theorem F48_le {F F' : Nat} (h : F ≤ F') (t0 : Int × Int) (t1 : Int × Int) : Le (F48 F t0 t1) (F48 F' t0 t1) := by
  unfold F48
  repeat' (first | (with_reducible exact Le.refl _) | refine F50_le h _ _ | refine Le.ite ?_ ?_ | refine Le.bind ?_ ?_ | refine Le.iter (fun _ => ?_) h | intro _ | split)
theorem F49_le {F F' : Nat} (h : F ≤ F') (t0 : Int × Int) (t1 : Int × Int) : Le (F49 F t0 t1) (F49 F' t0 t1) := by
  unfold F49
  repeat' (first | (with_reducible exact Le.refl _) | refine F50_le h _ _ | refine Le.ite ?_ ?_ | refine Le.bind ?_ ?_ | refine Le.iter (fun _ => ?_) h | intro _ | split)
theorem F51_l0_le {F F' : Nat} (h : F ≤ F') (s15 : Int × (List Int)) (s21 : Int × (List Int)) : Le (F51_l0 F s15 s21) (F51_l0 F' s15 s21) := by
  unfold F51_l0
  repeat' (first | (with_reducible exact Le.refl _) | refine Le.ite ?_ ?_ | refine Le.bind ?_ ?_ | refine Le.iter (fun _ => ?_) h | intro _ | split)
theorem F51_l1_le {F F' : Nat} (h : F ≤ F') (t0 : Int) (s15 : Int × (List Int)) : Le (F51_l1 F t0 s15) (F51_l1 F' t0 s15) := by
  unfold F51_l1
  repeat' (first | (with_reducible exact Le.refl _) | refine F51_l0_le h _ _ | refine Le.ite ?_ ?_ | refine Le.bind ?_ ?_ | refine Le.iter (fun _ => ?_) h | intro _ | split)
theorem F51_le {F F' : Nat} (h : F ≤ F') (t0 : Int) (t1 : Int) : Le (F51 F t0 t1) (F51 F' t0 t1) := by
  unfold F51
  repeat' (first | (with_reducible exact Le.refl _) | refine F51_l0_le h _ _ | refine F51_l1_le h _ _ | refine Le.ite ?_ ?_ | refine Le.bind ?_ ?_ | refine Le.iter (fun _ => ?_) h | intro _ | split)
theorem F52_l0_le {F F' : Nat} (h : F ≤ F') (t0 : List Int) (s6 : Int × Int) : Le (F52_l0 F t0 s6) (F52_l0 F' t0 s6) := by
  unfold F52_l0
  repeat' (first | (with_reducible exact Le.refl _) | refine F98_le h _ | refine Le.ite ?_ ?_ | refine Le.bind ?_ ?_ | refine Le.iter (fun _ => ?_) h | intro _ | split)
theorem F52_le {F F' : Nat} (h : F ≤ F') (t0 : List Int) : Le (F52 F t0) (F52 F' t0) := by
  unfold F52
  repeat' (first | (with_reducible exact Le.refl _) | refine F52_l0_le h _ _ | refine F98_le h _ | refine Le.ite ?_ ?_ | refine Le.bind ?_ ?_ | refine Le.iter (fun _ => ?_) h | intro _ | split)
theorem F53_l0_le {F F' : Nat} (h : F ≤ F') (x12 : Int) (L14 : List Int) (s18 : Int × Int) : Le (F53_l0 F x12 L14 s18) (F53_l0 F' x12 L14 s18) := by
  unfold F53_l0
  repeat' (first | (with_reducible exact Le.refl _) | refine F98_le h _ | refine Le.ite ?_ ?_ | refine Le.bind ?_ ?_ | refine Le.iter (fun _ => ?_) h | intro _ | split)
theorem F53_l1_le {F F' : Nat} (h : F ≤ F') (t0 : List Int) (s6 : Int × Int) : Le (F53_l1 F t0 s6) (F53_l1 F' t0 s6) := by
  unfold F53_l1
  repeat' (first | (with_reducible exact Le.refl _) | refine F53_l0_le h _ _ _ | refine F98_le h _ | refine Le.ite ?_ ?_ | refine Le.bind ?_ ?_ | refine Le.iter (fun _ => ?_) h | intro _ | split)
theorem F53_le {F F' : Nat} (h : F ≤ F') (t0 : List Int) : Le (F53 F t0) (F53 F' t0) := by
  unfold F53
  repeat' (first | (with_reducible exact Le.refl _) | refine F53_l0_le h _ _ _ | refine F53_l1_le h _ _ | refine F98_le h _ | refine Le.ite ?_ ?_ | refine Le.bind ?_ ?_ | refine Le.iter (fun _ => ?_) h | intro _ | split)
theorem F54_l0_le {F F' : Nat} (h : F ≤ F') (t0 : List Int) (s6 : Int × Int) : Le (F54_l0 F t0 s6) (F54_l0 F' t0 s6) := by
  unfold F54_l0
  repeat' (first | (with_reducible exact Le.refl _) | refine F98_le h _ | refine Le.ite ?_ ?_ | refine Le.bind ?_ ?_ | refine Le.iter (fun _ => ?_) h | intro _ | split)
theorem F54_le {F F' : Nat} (h : F ≤ F') (t0 : List Int) : Le (F54 F t0) (F54 F' t0) := by
  unfold F54
  repeat' (first | (with_reducible exact Le.refl _) | refine F54_l0_le h _ _ | refine F98_le h _ | refine Le.ite ?_ ?_ | refine Le.bind ?_ ?_ | refine Le.iter (fun _ => ?_) h | intro _ | split)
theorem F55_l0_le {F F' : Nat} (h : F ≤ F') (t0 : Int) (t1 : Int) (s4 : Int × Int) (s14 : Int × Int) : Le (F55_l0 F t0 t1 s4 s14) (F55_l0 F' t0 t1 s4 s14) := by
  unfold F55_l0
  repeat' (first | (with_reducible exact Le.refl _) | refine F33_le h _ _ | refine Le.ite ?_ ?_ | refine Le.bind ?_ ?_ | refine Le.iter (fun _ => ?_) h | intro _ | split)
theorem F55_l1_le {F F' : Nat} (h : F ≤ F') (t0 : Int) (t1 : Int) (s4 : Int × Int) : Le (F55_l1 F t0 t1 s4) (F55_l1 F' t0 t1 s4) := by
  unfold F55_l1
  repeat' (first | (with_reducible exact Le.refl _) | refine F33_le h _ _ | refine F55_l0_le h _ _ _ _ | refine Le.ite ?_ ?_ | refine Le.bind ?_ ?_ | refine Le.iter (fun _ => ?_) h | intro _ | split)
theorem F55_le {F F' : Nat} (h : F ≤ F') (t0 : Int) (t1 : Int) : Le (F55 F t0 t1) (F55 F' t0 t1) := by
  unfold F55
  repeat' (first | (with_reducible exact Le.refl _) | refine F33_le h _ _ | refine F55_l0_le h _ _ _ _ | refine F55_l1_le h _ _ _ | refine Le.ite ?_ ?_ | refine Le.bind ?_ ?_ | refine Le.iter (fun _ => ?_) h | intro _ | split)
theorem F56_l0_le {F F' : Nat} (h : F ≤ F') (t0 : List Int) (s1 : Int × Int) (s7 : Int × Int) : Le (F56_l0 F t0 s1 s7) (F56_l0 F' t0 s1 s7) := by
  unfold F56_l0
  repeat' (first | (with_reducible exact Le.refl _) | refine Le.ite ?_ ?_ | refine Le.bind ?_ ?_ | refine Le.iter (fun _ => ?_) h | intro _ | split)
theorem F56_l1_le {F F' : Nat} (h : F ≤ F') (t0 : List Int) (s1 : Int × Int) : Le (F56_l1 F t0 s1) (F56_l1 F' t0 s1) := by
  unfold F56_l1
  repeat' (first | (with_reducible exact Le.refl _) | refine F56_l0_le h _ _ _ | refine Le.ite ?_ ?_ | refine Le.bind ?_ ?_ | refine Le.iter (fun _ => ?_) h | intro _ | split)
theorem F56_le {F F' : Nat} (h : F ≤ F') (t0 : List Int) : Le (F56 F t0) (F56 F' t0) := by
  unfold F56
  repeat' (first | (with_reducible exact Le.refl _) | refine F56_l0_le h _ _ _ | refine F56_l1_le h _ _ | refine Le.ite ?_ ?_ | refine Le.bind ?_ ?_ | refine Le.iter (fun _ => ?_) h | intro _ | split)
theorem F60_le {F F' : Nat} (h : F ≤ F') (t0 : List Int) : Le (F60 F t0) (F60 F' t0) := by
  unfold F60
  repeat' (first | (with_reducible exact Le.refl _) | refine Le.ite ?_ ?_ | refine Le.bind ?_ ?_ | refine Le.iter (fun _ => ?_) h | intro _ | split)
theorem F106_le {F F' : Nat} (h : F ≤ F') (t0 : Int) (t1 : Int) : Le (F106 F t0 t1) (F106 F' t0 t1) := by
  unfold F106
  repeat' (first | (with_reducible exact Le.refl _) | refine Le.ite ?_ ?_ | refine Le.bind ?_ ?_ | refine Le.iter (fun _ => ?_) h | intro _ | split)
theorem F105_106_l0_le {F F' : Nat} (h : F ≤ F') (s7 : (List Int) × Int × (List (List Int))) (x17 : Int) (L19 : List Int) (s23 : Int × (List (List Int))) : Le (F105_106_l0 F s7 x17 L19 s23) (F105_106_l0 F' s7 x17 L19 s23) := by
  unfold F105_106_l0
  repeat' (first | (with_reducible exact Le.refl _) | refine F106_le h _ _ | refine F95_le h _ | refine Le.ite ?_ ?_ | refine Le.bind ?_ ?_ | refine Le.iter (fun _ => ?_) h | intro _ | split)
theorem F105_106_l1_le {F F' : Nat} (h : F ≤ F') (t0 : List Int) (s7 : (List Int) × Int × (List (List Int))) : Le (F105_106_l1 F t0 s7) (F105_106_l1 F' t0 s7) := by
  unfold F105_106_l1
  repeat' (first | (with_reducible exact Le.refl _) | refine F105_106_l0_le h _ _ _ _ | refine F106_le h _ _ | refine F95_le h _ | refine Le.ite ?_ ?_ | refine Le.bind ?_ ?_ | refine Le.iter (fun _ => ?_) h | intro _ | split)
theorem F105_106_le {F F' : Nat} (h : F ≤ F') (t0 : List Int) : Le (F105_106 F t0) (F105_106 F' t0) := by
  unfold F105_106
  repeat' (first | (with_reducible exact Le.refl _) | refine F105_106_l0_le h _ _ _ _ | refine F105_106_l1_le h _ _ | refine F106_le h _ _ | refine F95_le h _ | refine Le.ite ?_ ?_ | refine Le.bind ?_ ?_ | refine Le.iter (fun _ => ?_) h | intro _ | split)
theorem F57_le {F F' : Nat} (h : F ≤ F') (t0 : List Int) : Le (F57 F t0) (F57 F' t0) := by
  unfold F57
  repeat' (first | (with_reducible exact Le.refl _) | refine F105_106_le h _ | refine F60_le h _ | refine Le.ite ?_ ?_ | refine Le.bind ?_ ?_ | refine Le.iter (fun _ => ?_) h | intro _ | split)
theorem F107_le {F F' : Nat} (h : F ≤ F') (t0 : Int) (t1 : Int) : Le (F107 F t0 t1) (F107 F' t0 t1) := by
  unfold F107
  repeat' (first | (with_reducible exact Le.refl _) | refine Le.ite ?_ ?_ | refine Le.bind ?_ ?_ | refine Le.iter (fun _ => ?_) h | intro _ | split)
theorem F105_107_l0_le {F F' : Nat} (h : F ≤ F') (s7 : (List Int) × Int × (List (List Int))) (x17 : Int) (L19 : List Int) (s23 : Int × (List (List Int))) : Le (F105_107_l0 F s7 x17 L19 s23) (F105_107_l0 F' s7 x17 L19 s23) := by
  unfold F105_107_l0
  repeat' (first | (with_reducible exact Le.refl _) | refine F107_le h _ _ | refine F95_le h _ | refine Le.ite ?_ ?_ | refine Le.bind ?_ ?_ | refine Le.iter (fun _ => ?_) h | intro _ | split)
theorem F105_107_l1_le {F F' : Nat} (h : F ≤ F') (t0 : List Int) (s7 : (List Int) × Int × (List (List Int))) : Le (F105_107_l1 F t0 s7) (F105_107_l1 F' t0 s7) := by
  unfold F105_107_l1
  repeat' (first | (with_reducible exact Le.refl _) | refine F105_107_l0_le h _ _ _ _ | refine F107_le h _ _ | refine F95_le h _ | refine Le.ite ?_ ?_ | refine Le.bind ?_ ?_ | refine Le.iter (fun _ => ?_) h | intro _ | split)
theorem F105_107_le {F F' : Nat} (h : F ≤ F') (t0 : List Int) : Le (F105_107 F t0) (F105_107 F' t0) := by
  unfold F105_107
  repeat' (first | (with_reducible exact Le.refl _) | refine F105_107_l0_le h _ _ _ _ | refine F105_107_l1_le h _ _ | refine F107_le h _ _ | refine F95_le h _ | refine Le.ite ?_ ?_ | refine Le.bind ?_ ?_ | refine Le.iter (fun _ => ?_) h | intro _ | split)
theorem F58_le {F F' : Nat} (h : F ≤ F') (t0 : List Int) : Le (F58 F t0) (F58 F' t0) := by
  unfold F58
  repeat' (first | (with_reducible exact Le.refl _) | refine F105_107_le h _ | refine F60_le h _ | refine Le.ite ?_ ?_ | refine Le.bind ?_ ?_ | refine Le.iter (fun _ => ?_) h | intro _ | split)
theorem F109_le {F F' : Nat} (h : F ≤ F') (t0 : Int) (c0 : Int) : Le (F109 F t0 c0) (F109 F' t0 c0) := by
  unfold F109
  repeat' (first | (with_reducible exact Le.refl _) | refine Le.ite ?_ ?_ | refine Le.bind ?_ ?_ | refine Le.iter (fun _ => ?_) h | intro _ | split)
theorem F108_109_l0_le {F F' : Nat} (h : F ≤ F') (t0 : List Int) (t1c0 : Int) (s1 : Int) : Le (F108_109_l0 F t0 t1c0 s1) (F108_109_l0 F' t0 t1c0 s1) := by
  unfold F108_109_l0
  repeat' (first | (with_reducible exact Le.refl _) | refine F109_le h _ _ | refine Le.ite ?_ ?_ | refine Le.bind ?_ ?_ | refine Le.iter (fun _ => ?_) h | intro _ | split)
theorem F108_109_le {F F' : Nat} (h : F ≤ F') (t0 : List Int) (t1c0 : Int) : Le (F108_109 F t0 t1c0) (F108_109 F' t0 t1c0) := by
  unfold F108_109
  repeat' (first | (with_reducible exact Le.refl _) | refine F108_109_l0_le h _ _ _ | refine F109_le h _ _ | refine Le.ite ?_ ?_ | refine Le.bind ?_ ?_ | refine Le.iter (fun _ => ?_) h | intro _ | split)
theorem F59_l0_le {F F' : Nat} (h : F ≤ F') (t0 : List Int) (s6 : (List Int) × (List Int) × Int) : Le (F59_l0 F t0 s6) (F59_l0 F' t0 s6) := by
  unfold F59_l0
  repeat' (first | (with_reducible exact Le.refl _) | refine F108_109_le h _ _ | refine F60_le h _ | refine Le.ite ?_ ?_ | refine Le.bind ?_ ?_ | refine Le.iter (fun _ => ?_) h | intro _ | split)
theorem F59_le {F F' : Nat} (h : F ≤ F') (t0 : List Int) : Le (F59 F t0) (F59 F' t0) := by
  unfold F59
  repeat' (first | (with_reducible exact Le.refl _) | refine F108_109_le h _ _ | refine F59_l0_le h _ _ | refine F60_le h _ | refine Le.ite ?_ ?_ | refine Le.bind ?_ ?_ | refine Le.iter (fun _ => ?_) h | intro _ | split)
theorem F61_le {F F' : Nat} (h : F ≤ F') (t0 : Int) (t1 : Int) : Le (F61 F t0 t1) (F61 F' t0 t1) := by
  unfold F61
  repeat' (first | (with_reducible exact Le.refl _) | refine Le.ite ?_ ?_ | refine Le.bind ?_ ?_ | refine Le.iter (fun _ => ?_) h | intro _ | split)
theorem F110_61_l0_le {F F' : Nat} (h : F ≤ F') (t0 : List Int) (s7 : Int × Int × (List Int)) (s13 : Int × (List Int)) : Le (F110_61_l0 F t0 s7 s13) (F110_61_l0 F' t0 s7 s13) := by
  unfold F110_61_l0
  repeat' (first | (with_reducible exact Le.refl _) | refine F61_le h _ _ | refine Le.ite ?_ ?_ | refine Le.bind ?_ ?_ | refine Le.iter (fun _ => ?_) h | intro _ | split)
theorem F110_61_l1_le {F F' : Nat} (h : F ≤ F') (t0 : List Int) (s7 : Int × Int × (List Int)) : Le (F110_61_l1 F t0 s7) (F110_61_l1 F' t0 s7) := by
  unfold F110_61_l1
  repeat' (first | (with_reducible exact Le.refl _) | refine F110_61_l0_le h _ _ _ | refine F61_le h _ _ | refine Le.ite ?_ ?_ | refine Le.bind ?_ ?_ | refine Le.iter (fun _ => ?_) h | intro _ | split)
theorem F110_61_le {F F' : Nat} (h : F ≤ F') (t0 : List Int) : Le (F110_61 F t0) (F110_61 F' t0) := by
  unfold F110_61
  repeat' (first | (with_reducible exact Le.refl _) | refine F110_61_l0_le h _ _ _ | refine F110_61_l1_le h _ _ | refine F61_le h _ _ | refine Le.ite ?_ ?_ | refine Le.bind ?_ ?_ | refine Le.iter (fun _ => ?_) h | intro _ | split)
theorem F62_le {F F' : Nat} (h : F ≤ F') (t0 : Int) (t1 : Int) : Le (F62 F t0 t1) (F62 F' t0 t1) := by
  unfold F62
  repeat' (first | (with_reducible exact Le.refl _) | refine Le.ite ?_ ?_ | refine Le.bind ?_ ?_ | refine Le.iter (fun _ => ?_) h | intro _ | split)
theorem F110_62_l0_le {F F' : Nat} (h : F ≤ F') (t0 : List Int) (s7 : Int × Int × (List Int)) (s13 : Int × (List Int)) : Le (F110_62_l0 F t0 s7 s13) (F110_62_l0 F' t0 s7 s13) := by
  unfold F110_62_l0
  repeat' (first | (with_reducible exact Le.refl _) | refine F62_le h _ _ | refine Le.ite ?_ ?_ | refine Le.bind ?_ ?_ | refine Le.iter (fun _ => ?_) h | intro _ | split)
theorem F110_62_l1_le {F F' : Nat} (h : F ≤ F') (t0 : List Int) (s7 : Int × Int × (List Int)) : Le (F110_62_l1 F t0 s7) (F110_62_l1 F' t0 s7) := by
  unfold F110_62_l1
  repeat' (first | (with_reducible exact Le.refl _) | refine F110_62_l0_le h _ _ _ | refine F62_le h _ _ | refine Le.ite ?_ ?_ | refine Le.bind ?_ ?_ | refine Le.iter (fun _ => ?_) h | intro _ | split)
theorem F110_62_le {F F' : Nat} (h : F ≤ F') (t0 : List Int) : Le (F110_62 F t0) (F110_62 F' t0) := by
  unfold F110_62
  repeat' (first | (with_reducible exact Le.refl _) | refine F110_62_l0_le h _ _ _ | refine F110_62_l1_le h _ _ | refine F62_le h _ _ | refine Le.ite ?_ ?_ | refine Le.bind ?_ ?_ | refine Le.iter (fun _ => ?_) h | intro _ | split)
theorem F65_l0_le {F F' : Nat} (h : F ≤ F') (s1 : (List (List Int)) × (List Int) × Int) (x14 : Int) (s16 : Int) : Le (F65_l0 F s1 x14 s16) (F65_l0 F' s1 x14 s16) := by
  unfold F65_l0
  repeat' (first | (with_reducible exact Le.refl _) | refine Le.ite ?_ ?_ | refine Le.bind ?_ ?_ | refine Le.iter (fun _ => ?_) h | intro _ | split)
theorem F65_l1_le {F F' : Nat} (h : F ≤ F') (t0 : List Int) (s1 : (List (List Int)) × (List Int) × Int) : Le (F65_l1 F t0 s1) (F65_l1 F' t0 s1) := by
  unfold F65_l1
  repeat' (first | (with_reducible exact Le.refl _) | refine F65_l0_le h _ _ _ | refine Le.ite ?_ ?_ | refine Le.bind ?_ ?_ | refine Le.iter (fun _ => ?_) h | intro _ | split)
theorem F65_le {F F' : Nat} (h : F ≤ F') (t0 : List Int) : Le (F65 F t0) (F65 F' t0) := by
  unfold F65
  repeat' (first | (with_reducible exact Le.refl _) | refine F65_l0_le h _ _ _ | refine F65_l1_le h _ _ | refine Le.ite ?_ ?_ | refine Le.bind ?_ ?_ | refine Le.iter (fun _ => ?_) h | intro _ | split)
theorem F111_l0_le {F F' : Nat} (h : F ≤ F') (t0 : List Int) (t1 : List Int) (s2 : Int) : Le (F111_l0 F t0 t1 s2) (F111_l0 F' t0 t1 s2) := by
  unfold F111_l0
  repeat' (first | (with_reducible exact Le.refl _) | refine Le.ite ?_ ?_ | refine Le.bind ?_ ?_ | refine Le.iter (fun _ => ?_) h | intro _ | split)
theorem F111_le {F F' : Nat} (h : F ≤ F') (t0 : List Int) (t1 : List Int) : Le (F111 F t0 t1) (F111 F' t0 t1) := by
  unfold F111
  repeat' (first | (with_reducible exact Le.refl _) | refine F111_l0_le h _ _ _ | refine Le.ite ?_ ?_ | refine Le.bind ?_ ?_ | refine Le.iter (fun _ => ?_) h | intro _ | split)
theorem F64_le {F F' : Nat} (h : F ≤ F') (t0 : List Int) (t1 : List Int) : Le (F64 F t0 t1) (F64 F' t0 t1) := by
  unfold F64
  repeat' (first | (with_reducible exact Le.refl _) | refine F111_le h _ _ | refine Le.ite ?_ ?_ | refine Le.bind ?_ ?_ | refine Le.iter (fun _ => ?_) h | intro _ | split)
theorem F112_l0_le {F F' : Nat} (h : F ≤ F') (t0 : List Int) (s2 : Int) : Le (F112_l0 F t0 s2) (F112_l0 F' t0 s2) := by
  unfold F112_l0
  repeat' (first | (with_reducible exact Le.refl _) | refine Le.ite ?_ ?_ | refine Le.bind ?_ ?_ | refine Le.iter (fun _ => ?_) h | intro _ | split)
theorem F112_le {F F' : Nat} (h : F ≤ F') (t0 : List Int) : Le (F112 F t0) (F112 F' t0) := by
  unfold F112
  repeat' (first | (with_reducible exact Le.refl _) | refine F112_l0_le h _ _ | refine Le.ite ?_ ?_ | refine Le.bind ?_ ?_ | refine Le.iter (fun _ => ?_) h | intro _ | split)
theorem F113_l0_le {F F' : Nat} (h : F ≤ F') (t0 : List Int) (t1 : List Int) (s1 : Int × Int) : Le (F113_l0 F t0 t1 s1) (F113_l0 F' t0 t1 s1) := by
  unfold F113_l0
  repeat' (first | (with_reducible exact Le.refl _) | refine Le.ite ?_ ?_ | refine Le.bind ?_ ?_ | refine Le.iter (fun _ => ?_) h | intro _ | split)
theorem F113_le {F F' : Nat} (h : F ≤ F') (t0 : List Int) (t1 : List Int) : Le (F113 F t0 t1) (F113 F' t0 t1) := by
  unfold F113
  repeat' (first | (with_reducible exact Le.refl _) | refine F113_l0_le h _ _ _ | refine Le.ite ?_ ?_ | refine Le.bind ?_ ?_ | refine Le.iter (fun _ => ?_) h | intro _ | split)
theorem F66_l0_le {F F' : Nat} (h : F ≤ F') (t1 : List Int) (s7 : Int) : Le (F66_l0 F t1 s7) (F66_l0 F' t1 s7) := by
  unfold F66_l0
  repeat' (first | (with_reducible exact Le.refl _) | refine F112_le h _ | refine F113_le h _ _ | refine Le.ite ?_ ?_ | refine Le.bind ?_ ?_ | refine Le.iter (fun _ => ?_) h | intro _ | split)
theorem F66_le {F F' : Nat} (h : F ≤ F') (t0 : List Int) (t1 : List Int) : Le (F66 F t0 t1) (F66 F' t0 t1) := by
  unfold F66
  repeat' (first | (with_reducible exact Le.refl _) | refine F112_le h _ | refine F113_le h _ _ | refine F66_l0_le h _ _ | refine Le.ite ?_ ?_ | refine Le.bind ?_ ?_ | refine Le.iter (fun _ => ?_) h | intro _ | split)
theorem F67_l0_le {F F' : Nat} (h : F ≤ F') (t0 : List Int) (t1 : Int) (s14 : (List Int) × Int × (List Int)) : Le (F67_l0 F t0 t1 s14) (F67_l0 F' t0 t1 s14) := by
  unfold F67_l0
  repeat' (first | (with_reducible exact Le.refl _) | refine F112_le h _ | refine F66_le h _ _ | refine Le.ite ?_ ?_ | refine Le.bind ?_ ?_ | refine Le.iter (fun _ => ?_) h | intro _ | split)
theorem F67_le {F F' : Nat} (h : F ≤ F') (t0 : List Int) (t1 : Int) : Le (F67 F t0 t1) (F67 F' t0 t1) := by
  unfold F67
  repeat' (first | (with_reducible exact Le.refl _) | refine F112_le h _ | refine F66_le h _ _ | refine F67_l0_le h _ _ _ | refine Le.ite ?_ ?_ | refine Le.bind ?_ ?_ | refine Le.iter (fun _ => ?_) h | intro _ | split)
theorem F114_le {F F' : Nat} (h : F ≤ F') (t0 : Int) : Le (F114 F t0) (F114 F' t0) := by
  unfold F114
  repeat' (first | (with_reducible exact Le.refl _) | refine Le.ite ?_ ?_ | refine Le.bind ?_ ?_ | refine Le.iter (fun _ => ?_) h | intro _ | split)
theorem F108_114_l0_le {F F' : Nat} (h : F ≤ F') (t0 : List Int) (s1 : Int) : Le (F108_114_l0 F t0 s1) (F108_114_l0 F' t0 s1) := by
  unfold F108_114_l0
  repeat' (first | (with_reducible exact Le.refl _) | refine F114_le h _ | refine Le.ite ?_ ?_ | refine Le.bind ?_ ?_ | refine Le.iter (fun _ => ?_) h | intro _ | split)
theorem F108_114_le {F F' : Nat} (h : F ≤ F') (t0 : List Int) : Le (F108_114 F t0) (F108_114 F' t0) := by
  unfold F108_114
  repeat' (first | (with_reducible exact Le.refl _) | refine F108_114_l0_le h _ _ | refine F114_le h _ | refine Le.ite ?_ ?_ | refine Le.bind ?_ ?_ | refine Le.iter (fun _ => ?_) h | intro _ | split)
theorem F69_114_le {F F' : Nat} (h : F ≤ F') (t0 : List Int) : Le (F69_114 F t0) (F69_114 F' t0) := by
  unfold F69_114
  repeat' (first | (with_reducible exact Le.refl _) | refine F108_114_le h _ | refine Le.ite ?_ ?_ | refine Le.bind ?_ ?_ | refine Le.iter (fun _ => ?_) h | intro _ | split)
theorem F68_le {F F' : Nat} (h : F ≤ F') (t0 : List Int) : Le (F68 F t0) (F68 F' t0) := by
  unfold F68
  repeat' (first | (with_reducible exact Le.refl _) | refine F69_114_le h _ | refine Le.ite ?_ ?_ | refine Le.bind ?_ ?_ | refine Le.iter (fun _ => ?_) h | intro _ | split)
theorem F70_le {F F' : Nat} (h : F ≤ F') (t0 : Int) : Le (F70 F t0) (F70 F' t0) := by
  unfold F70
  repeat' (first | (with_reducible exact Le.refl _) | refine Le.ite ?_ ?_ | refine Le.bind ?_ ?_ | refine Le.iter (fun _ => ?_) h | intro _ | split)
theorem F108_70_l0_le {F F' : Nat} (h : F ≤ F') (t0 : List Int) (s1 : Int) : Le (F108_70_l0 F t0 s1) (F108_70_l0 F' t0 s1) := by
  unfold F108_70_l0
  repeat' (first | (with_reducible exact Le.refl _) | refine F70_le h _ | refine Le.ite ?_ ?_ | refine Le.bind ?_ ?_ | refine Le.iter (fun _ => ?_) h | intro _ | split)
theorem F108_70_le {F F' : Nat} (h : F ≤ F') (t0 : List Int) : Le (F108_70 F t0) (F108_70 F' t0) := by
  unfold F108_70
  repeat' (first | (with_reducible exact Le.refl _) | refine F108_70_l0_le h _ _ | refine F70_le h _ | refine Le.ite ?_ ?_ | refine Le.bind ?_ ?_ | refine Le.iter (fun _ => ?_) h | intro _ | split)
theorem F69_70_le {F F' : Nat} (h : F ≤ F') (t0 : List Int) : Le (F69_70 F t0) (F69_70 F' t0) := by
  unfold F69_70
  repeat' (first | (with_reducible exact Le.refl _) | refine F108_70_le h _ | refine Le.ite ?_ ?_ | refine Le.bind ?_ ?_ | refine Le.iter (fun _ => ?_) h | intro _ | split)
theorem F71_l0_le {F F' : Nat} (h : F ≤ F') (t0 : List Int) (t1 : List Int) (s1 : Int) (s12 : Bool × Int) : Le (F71_l0 F t0 t1 s1 s12) (F71_l0 F' t0 t1 s1 s12) := by
  unfold F71_l0
  repeat' (first | (with_reducible exact Le.refl _) | refine Le.ite ?_ ?_ | refine Le.bind ?_ ?_ | refine Le.iter (fun _ => ?_) h | intro _ | split)
theorem F71_l1_le {F F' : Nat} (h : F ≤ F') (t0 : List Int) (t1 : List Int) (s1 : Int) : Le (F71_l1 F t0 t1 s1) (F71_l1 F' t0 t1 s1) := by
  unfold F71_l1
  repeat' (first | (with_reducible exact Le.refl _) | refine F71_l0_le h _ _ _ _ | refine Le.ite ?_ ?_ | refine Le.bind ?_ ?_ | refine Le.iter (fun _ => ?_) h | intro _ | split)
theorem F71_le {F F' : Nat} (h : F ≤ F') (t0 : List Int) (t1 : List Int) : Le (F71 F t0 t1) (F71 F' t0 t1) := by
  unfold F71
  repeat' (first | (with_reducible exact Le.refl _) | refine F71_l0_le h _ _ _ _ | refine F71_l1_le h _ _ _ | refine Le.ite ?_ ?_ | refine Le.bind ?_ ?_ | refine Le.iter (fun _ => ?_) h | intro _ | split)
theorem F72_l0_le {F F' : Nat} (h : F ≤ F') (t0 : Int) (s3 : Int) : Le (F72_l0 F t0 s3) (F72_l0 F' t0 s3) := by
  unfold F72_l0
  repeat' (first | (with_reducible exact Le.refl _) | refine Le.ite ?_ ?_ | refine Le.bind ?_ ?_ | refine Le.iter (fun _ => ?_) h | intro _ | split)
theorem F72_le {F F' : Nat} (h : F ≤ F') (t0 : Int) : Le (F72 F t0) (F72 F' t0) := by
  unfold F72
  repeat' (first | (with_reducible exact Le.refl _) | refine F72_l0_le h _ _ | refine Le.ite ?_ ?_ | refine Le.bind ?_ ?_ | refine Le.iter (fun _ => ?_) h | intro _ | split)
theorem F77_l0_le {F F' : Nat} (h : F ≤ F') (t0 : List Int) (s2 : Int) : Le (F77_l0 F t0 s2) (F77_l0 F' t0 s2) := by
  unfold F77_l0
  repeat' (first | (with_reducible exact Le.refl _) | refine Le.ite ?_ ?_ | refine Le.bind ?_ ?_ | refine Le.iter (fun _ => ?_) h | intro _ | split)
theorem F77_le {F F' : Nat} (h : F ≤ F') (t0 : List Int) : Le (F77 F t0) (F77 F' t0) := by
  unfold F77
  repeat' (first | (with_reducible exact Le.refl _) | refine F77_l0_le h _ _ | refine Le.ite ?_ ?_ | refine Le.bind ?_ ?_ | refine Le.iter (fun _ => ?_) h | intro _ | split)
theorem F73_l0_le {F F' : Nat} (h : F ≤ F') (L19 : List Int) (s23 : Int × Int) : Le (F73_l0 F L19 s23) (F73_l0 F' L19 s23) := by
  unfold F73_l0
  repeat' (first | (with_reducible exact Le.refl _) | refine F72_le h _ | refine F77_le h _ | refine Le.ite ?_ ?_ | refine Le.bind ?_ ?_ | refine Le.iter (fun _ => ?_) h | intro _ | split)
theorem F73_l1_le {F F' : Nat} (h : F ≤ F') (t0 : List Int) (t1 : Int) (r6 : Int × Int) (s11 : Int) : Le (F73_l1 F t0 t1 r6 s11) (F73_l1 F' t0 t1 r6 s11) := by
  unfold F73_l1
  repeat' (first | (with_reducible exact Le.refl _) | refine F72_le h _ | refine F73_l0_le h _ _ | refine F77_le h _ | refine Le.ite ?_ ?_ | refine Le.bind ?_ ?_ | refine Le.iter (fun _ => ?_) h | intro _ | split)
theorem F73_le {F F' : Nat} (h : F ≤ F') (t0 : List Int) (t1 : Int) : Le (F73 F t0 t1) (F73 F' t0 t1) := by
  unfold F73
  repeat' (first | (with_reducible exact Le.refl _) | refine F72_le h _ | refine F73_l0_le h _ _ | refine F73_l1_le h _ _ _ _ | refine F77_le h _ | refine Le.ite ?_ ?_ | refine Le.bind ?_ ?_ | refine Le.iter (fun _ => ?_) h | intro _ | split)
theorem F74_l0_le {F F' : Nat} (h : F ≤ F') (t0 : List Int) (t1 : List Int) (s7 : (List Int) × Int × Int) : Le (F74_l0 F t0 t1 s7) (F74_l0 F' t0 t1 s7) := by
  unfold F74_l0
  repeat' (first | (with_reducible exact Le.refl _) | refine F73_le h _ _ | refine F77_le h _ | refine Le.ite ?_ ?_ | refine Le.bind ?_ ?_ | refine Le.iter (fun _ => ?_) h | intro _ | split)
theorem F74_le {F F' : Nat} (h : F ≤ F') (t0 : List Int) (t1 : List Int) : Le (F74 F t0 t1) (F74 F' t0 t1) := by
  unfold F74
  repeat' (first | (with_reducible exact Le.refl _) | refine F73_le h _ _ | refine F74_l0_le h _ _ _ | refine F77_le h _ | refine Le.ite ?_ ?_ | refine Le.bind ?_ ?_ | refine Le.iter (fun _ => ?_) h | intro _ | split)
theorem F75_le {F F' : Nat} (h : F ≤ F') (x0 : Int) : Le (F75 F x0) (F75 F' x0) := by
  induction F generalizing F' x0 with
  | zero => exact ⟨fun _ h => by cases h⟩
  | succ F ih =>
    cases F' with
    | zero => omega
    | succ F' =>
      rw [F75, F75]
      try dsimp only
      repeat' (first | (with_reducible exact Le.refl _) | refine ih (Nat.le_of_succ_le_succ h) _ | refine Le.ite ?_ ?_ | refine Le.bind ?_ ?_ | refine Le.iter (fun _ => ?_) (Nat.le_of_succ_le_succ h) | (dsimp only; done) | intro _ | split)
theorem F116_le {F F' : Nat} (h : F ≤ F') (t0 : Int) : Le (F116 F t0) (F116 F' t0) := by
  unfold F116
  repeat' (first | (with_reducible exact Le.refl _) | refine Le.ite ?_ ?_ | refine Le.bind ?_ ?_ | refine Le.iter (fun _ => ?_) h | intro _ | split)
theorem F119_116_l0_le {F F' : Nat} (h : F ≤ F') (t0 : List Int) (s1 : Int) : Le (F119_116_l0 F t0 s1) (F119_116_l0 F' t0 s1) := by
  unfold F119_116_l0
  repeat' (first | (with_reducible exact Le.refl _) | refine F116_le h _ | refine Le.ite ?_ ?_ | refine Le.bind ?_ ?_ | refine Le.iter (fun _ => ?_) h | intro _ | split)
theorem F119_116_le {F F' : Nat} (h : F ≤ F') (t0 : List Int) : Le (F119_116 F t0) (F119_116 F' t0) := by
  unfold F119_116
  repeat' (first | (with_reducible exact Le.refl _) | refine F116_le h _ | refine F119_116_l0_le h _ _ | refine Le.ite ?_ ?_ | refine Le.bind ?_ ?_ | refine Le.iter (fun _ => ?_) h | intro _ | split)
theorem F115_116_le {F F' : Nat} (h : F ≤ F') (t0 : List Int) : Le (F115_116 F t0) (F115_116 F' t0) := by
  unfold F115_116
  repeat' (first | (with_reducible exact Le.refl _) | refine F119_116_le h _ | refine Le.ite ?_ ?_ | refine Le.bind ?_ ?_ | refine Le.iter (fun _ => ?_) h | intro _ | split)
theorem F76_le {F F' : Nat} (h : F ≤ F') (t0 : List Int) : Le (F76 F t0) (F76 F' t0) := by
  unfold F76
  repeat' (first | (with_reducible exact Le.refl _) | refine F115_116_le h _ | refine Le.ite ?_ ?_ | refine Le.bind ?_ ?_ | refine Le.iter (fun _ => ?_) h | intro _ | split)
theorem F78_l0_le {F F' : Nat} (h : F ≤ F') (r3 : Int) (L8 : List Int) (s12 : Int × Int) : Le (F78_l0 F r3 L8 s12) (F78_l0 F' r3 L8 s12) := by
  unfold F78_l0
  repeat' (first | (with_reducible exact Le.refl _) | refine F75_le h _ | refine Le.ite ?_ ?_ | refine Le.bind ?_ ?_ | refine Le.iter (fun _ => ?_) h | intro _ | split)
theorem F78_le {F F' : Nat} (h : F ≤ F') (x0 : (List Int)) (x1 : Int) : Le (F78 F x0 x1) (F78 F' x0 x1) := by
  induction F generalizing F' x0 x1 with
  | zero => exact ⟨fun _ h => by cases h⟩
  | succ F ih =>
    cases F' with
    | zero => omega
    | succ F' =>
      rw [F78, F78]
      try dsimp only
      repeat' (first | (with_reducible exact Le.refl _) | refine F75_le (Nat.le_of_succ_le_succ h) _ | refine F78_l0_le (Nat.le_of_succ_le_succ h) _ _ _ | refine ih (Nat.le_of_succ_le_succ h) _ _ | refine Le.ite ?_ ?_ | refine Le.bind ?_ ?_ | refine Le.iter (fun _ => ?_) (Nat.le_of_succ_le_succ h) | (dsimp only; done) | intro _ | split)
theorem F79_l0_le {F F' : Nat} (h : F ≤ F') (t0 : List Int) (t1 : List Int) (s1 : (List Int) × Int × Int) : Le (F79_l0 F t0 t1 s1) (F79_l0 F' t0 t1 s1) := by
  unfold F79_l0
  repeat' (first | (with_reducible exact Le.refl _) | refine F78_le h _ _ | refine Le.ite ?_ ?_ | refine Le.bind ?_ ?_ | refine Le.iter (fun _ => ?_) h | intro _ | split)
theorem F79_le {F F' : Nat} (h : F ≤ F') (t0 : List Int) (t1 : List Int) : Le (F79 F t0 t1) (F79 F' t0 t1) := by
  unfold F79
  repeat' (first | (with_reducible exact Le.refl _) | refine F78_le h _ _ | refine F79_l0_le h _ _ _ | refine Le.ite ?_ ?_ | refine Le.bind ?_ ?_ | refine Le.iter (fun _ => ?_) h | intro _ | split)
theorem F84_l0_le {F F' : Nat} (h : F ≤ F') (t0 : List Int) (s3 : Int × Int) : Le (F84_l0 F t0 s3) (F84_l0 F' t0 s3) := by
  unfold F84_l0
  repeat' (first | (with_reducible exact Le.refl _) | refine Le.ite ?_ ?_ | refine Le.bind ?_ ?_ | refine Le.iter (fun _ => ?_) h | intro _ | split)
theorem F84_le {F F' : Nat} (h : F ≤ F') (t0 : List Int) : Le (F84 F t0) (F84 F' t0) := by
  unfold F84
  repeat' (first | (with_reducible exact Le.refl _) | refine F84_l0_le h _ _ | refine Le.ite ?_ ?_ | refine Le.bind ?_ ?_ | refine Le.iter (fun _ => ?_) h | intro _ | split)
theorem F80_l0_le {F F' : Nat} (h : F ≤ F') (t0 : List Int) (s6 : Int × Int) : Le (F80_l0 F t0 s6) (F80_l0 F' t0 s6) := by
  unfold F80_l0
  repeat' (first | (with_reducible exact Le.refl _) | refine F84_le h _ | refine Le.ite ?_ ?_ | refine Le.bind ?_ ?_ | refine Le.iter (fun _ => ?_) h | intro _ | split)
theorem F80_l1_le {F F' : Nat} (h : F ≤ F') (t0 : List Int) (s24 : Int × (List Int)) : Le (F80_l1 F t0 s24) (F80_l1 F' t0 s24) := by
  unfold F80_l1
  repeat' (first | (with_reducible exact Le.refl _) | refine F80_l0_le h _ _ | refine F84_le h _ | refine Le.ite ?_ ?_ | refine Le.bind ?_ ?_ | refine Le.iter (fun _ => ?_) h | intro _ | split)
theorem F80_l2_le {F F' : Nat} (h : F ≤ F') (s52 : Int × (List Int) × (List (Int × Int)) × (List Int)) (s58 : Int × Int × Int) : Le (F80_l2 F s52 s58) (F80_l2 F' s52 s58) := by
  unfold F80_l2
  repeat' (first | (with_reducible exact Le.refl _) | refine F80_l0_le h _ _ | refine F80_l1_le h _ _ | refine F84_le h _ | refine Le.ite ?_ ?_ | refine Le.bind ?_ ?_ | refine Le.iter (fun _ => ?_) h | intro _ | split)
theorem F80_l3_le {F F' : Nat} (h : F ≤ F') (t0 : List Int) (b14 : Int) (s52 : Int × (List Int) × (List (Int × Int)) × (List Int)) : Le (F80_l3 F t0 b14 s52) (F80_l3 F' t0 b14 s52) := by
  unfold F80_l3
  repeat' (first | (with_reducible exact Le.refl _) | refine F80_l0_le h _ _ | refine F80_l1_le h _ _ | refine F80_l2_le h _ _ | refine F84_le h _ | refine Le.ite ?_ ?_ | refine Le.bind ?_ ?_ | refine Le.iter (fun _ => ?_) h | intro _ | split)
theorem F80_le {F F' : Nat} (h : F ≤ F') (t0 : List Int) : Le (F80 F t0) (F80 F' t0) := by
  unfold F80
  repeat' (first | (with_reducible exact Le.refl _) | refine F80_l0_le h _ _ | refine F80_l1_le h _ _ | refine F80_l2_le h _ _ | refine F80_l3_le h _ _ _ | refine F84_le h _ | refine Le.ite ?_ ?_ | refine Le.bind ?_ ?_ | refine Le.iter (fun _ => ?_) h | intro _ | split)
theorem F81_l0_le {F F' : Nat} (h : F ≤ F') (t0 : List Int) (s7 : Int × Int) : Le (F81_l0 F t0 s7) (F81_l0 F' t0 s7) := by
  unfold F81_l0
  repeat' (first | (with_reducible exact Le.refl _) | refine F84_le h _ | refine Le.ite ?_ ?_ | refine Le.bind ?_ ?_ | refine Le.iter (fun _ => ?_) h | intro _ | split)
theorem F81_l1_le {F F' : Nat} (h : F ≤ F') (t0 : List Int) (t1 : List (Int × Int)) (b15 : Int) (s25 : Int × (List Int)) : Le (F81_l1 F t0 t1 b15 s25) (F81_l1 F' t0 t1 b15 s25) := by
  unfold F81_l1
  repeat' (first | (with_reducible exact Le.refl _) | refine F81_l0_le h _ _ | refine F84_le h _ | refine Le.ite ?_ ?_ | refine Le.bind ?_ ?_ | refine Le.iter (fun _ => ?_) h | intro _ | split)
theorem F81_l2_le {F F' : Nat} (h : F ≤ F') (t0 : List Int) (b59 : (List Int)) (s62 : Int) : Le (F81_l2 F t0 b59 s62) (F81_l2 F' t0 b59 s62) := by
  unfold F81_l2
  repeat' (first | (with_reducible exact Le.refl _) | refine F81_l0_le h _ _ | refine F81_l1_le h _ _ _ _ | refine F84_le h _ | refine Le.ite ?_ ?_ | refine Le.bind ?_ ?_ | refine Le.iter (fun _ => ?_) h | intro _ | split)
theorem F81_le {F F' : Nat} (h : F ≤ F') (t0 : List Int) (t1 : List (Int × Int)) : Le (F81 F t0 t1) (F81 F' t0 t1) := by
  unfold F81
  repeat' (first | (with_reducible exact Le.refl _) | refine F81_l0_le h _ _ | refine F81_l1_le h _ _ _ _ | refine F81_l2_le h _ _ _ | refine F84_le h _ | refine Le.ite ?_ ?_ | refine Le.bind ?_ ?_ | refine Le.iter (fun _ => ?_) h | intro _ | split)
theorem F82_le {F F' : Nat} (h : F ≤ F') (t0 : List (Int × Int)) (t1 : Int) (t2 : Int) : Le (F82 F t0 t1 t2) (F82 F' t0 t1 t2) := by
  unfold F82
  repeat' (first | (with_reducible exact Le.refl _) | refine Le.ite ?_ ?_ | refine Le.bind ?_ ?_ | refine Le.iter (fun _ => ?_) h | intro _ | split)
theorem F83_l0_le {F F' : Nat} (h : F ≤ F') (t0 : List Int) (s3 : Int × Int) : Le (F83_l0 F t0 s3) (F83_l0 F' t0 s3) := by
  unfold F83_l0
  repeat' (first | (with_reducible exact Le.refl _) | refine Le.ite ?_ ?_ | refine Le.bind ?_ ?_ | refine Le.iter (fun _ => ?_) h | intro _ | split)
theorem F83_le {F F' : Nat} (h : F ≤ F') (t0 : List Int) : Le (F83 F t0) (F83 F' t0) := by
  unfold F83
  repeat' (first | (with_reducible exact Le.refl _) | refine F83_l0_le h _ _ | refine Le.ite ?_ ?_ | refine Le.bind ?_ ?_ | refine Le.iter (fun _ => ?_) h | intro _ | split)
theorem F85_l0_le {F F' : Nat} (h : F ≤ F') (t0 : List Int) (t1 : Int) (t2 : List (Int × Int)) (s1 : Int) : Le (F85_l0 F t0 t1 t2 s1) (F85_l0 F' t0 t1 t2 s1) := by
  unfold F85_l0
  repeat' (first | (with_reducible exact Le.refl _) | refine Le.ite ?_ ?_ | refine Le.bind ?_ ?_ | refine Le.iter (fun _ => ?_) h | intro _ | split)
theorem F85_l1_le {F F' : Nat} (h : F ≤ F') (t1 : Int) (t2 : List (Int × Int)) (s26 : Int) (s38 : Int × Int) : Le (F85_l1 F t1 t2 s26 s38) (F85_l1 F' t1 t2 s26 s38) := by
  unfold F85_l1
  repeat' (first | (with_reducible exact Le.refl _) | refine F85_l0_le h _ _ _ _ | refine Le.ite ?_ ?_ | refine Le.bind ?_ ?_ | refine Le.iter (fun _ => ?_) h | intro _ | split)
theorem F85_l2_le {F F' : Nat} (h : F ≤ F') (t0 : List Int) (t1 : Int) (t2 : List (Int × Int)) (s26 : Int) : Le (F85_l2 F t0 t1 t2 s26) (F85_l2 F' t0 t1 t2 s26) := by
  unfold F85_l2
  repeat' (first | (with_reducible exact Le.refl _) | refine F85_l0_le h _ _ _ _ | refine F85_l1_le h _ _ _ _ | refine Le.ite ?_ ?_ | refine Le.bind ?_ ?_ | refine Le.iter (fun _ => ?_) h | intro _ | split)
theorem F85_le {F F' : Nat} (h : F ≤ F') (t0 : List Int) (t1 : Int) (t2 : List (Int × Int)) : Le (F85 F t0 t1 t2) (F85 F' t0 t1 t2) := by
  unfold F85
  repeat' (first | (with_reducible exact Le.refl _) | refine F85_l0_le h _ _ _ _ | refine F85_l1_le h _ _ _ _ | refine F85_l2_le h _ _ _ _ | refine Le.ite ?_ ?_ | refine Le.bind ?_ ?_ | refine Le.iter (fun _ => ?_) h | intro _ | split)
theorem F117_l0_le {F F' : Nat} (h : F ≤ F') (s11 : (List Int) × Int) (s27 : Int × (List Int)) : Le (F117_l0 F s11 s27) (F117_l0 F' s11 s27) := by
  unfold F117_l0
  repeat' (first | (with_reducible exact Le.refl _) | refine Le.ite ?_ ?_ | refine Le.bind ?_ ?_ | refine Le.iter (fun _ => ?_) h | intro _ | split)
theorem F117_l1_le {F F' : Nat} (h : F ≤ F') (t1 : Int) (s11 : (List Int) × Int) : Le (F117_l1 F t1 s11) (F117_l1 F' t1 s11) := by
  unfold F117_l1
  repeat' (first | (with_reducible exact Le.refl _) | refine F117_l0_le h _ _ | refine Le.ite ?_ ?_ | refine Le.bind ?_ ?_ | refine Le.iter (fun _ => ?_) h | intro _ | split)
theorem F117_le {F F' : Nat} (h : F ≤ F') (t0 : Int) (t1 : Int) : Le (F117 F t0 t1) (F117 F' t0 t1) := by
  unfold F117
  repeat' (first | (with_reducible exact Le.refl _) | refine F117_l0_le h _ _ | refine F117_l1_le h _ _ | refine Le.ite ?_ ?_ | refine Le.bind ?_ ?_ | refine Le.iter (fun _ => ?_) h | intro _ | split)
theorem F86_le {F F' : Nat} (h : F ≤ F') (t0 : Int) : Le (F86 F t0) (F86 F' t0) := by
  unfold F86
  repeat' (first | (with_reducible exact Le.refl _) | refine F117_le h _ _ | refine Le.ite ?_ ?_ | refine Le.bind ?_ ?_ | refine Le.iter (fun _ => ?_) h | intro _ | split)
theorem F92_l0_le {F F' : Nat} (h : F ≤ F') (L2 : List Int) (s8 : Int × Int) : Le (F92_l0 F L2 s8) (F92_l0 F' L2 s8) := by
  unfold F92_l0
  repeat' (first | (with_reducible exact Le.refl _) | refine Le.ite ?_ ?_ | refine Le.bind ?_ ?_ | refine Le.iter (fun _ => ?_) h | intro _ | split)
theorem F92_le {F F' : Nat} (h : F ≤ F') (t0 : List UInt8) : Le (F92 F t0) (F92 F' t0) := by
  unfold F92
  repeat' (first | (with_reducible exact Le.refl _) | refine F92_l0_le h _ _ | refine Le.ite ?_ ?_ | refine Le.bind ?_ ?_ | refine Le.iter (fun _ => ?_) h | intro _ | split)
theorem F87_l0_le {F F' : Nat} (h : F ≤ F') (t0 : List UInt8) (s6 : Int × Int × Int) : Le (F87_l0 F t0 s6) (F87_l0 F' t0 s6) := by
  unfold F87_l0
  repeat' (first | (with_reducible exact Le.refl _) | refine F117_le h _ _ | refine F92_le h _ | refine Le.ite ?_ ?_ | refine Le.bind ?_ ?_ | refine Le.iter (fun _ => ?_) h | intro _ | split)
theorem F87_le {F F' : Nat} (h : F ≤ F') (t0 : List UInt8) : Le (F87 F t0) (F87 F' t0) := by
  unfold F87
  repeat' (first | (with_reducible exact Le.refl _) | refine F117_le h _ _ | refine F87_l0_le h _ _ | refine F92_le h _ | refine Le.ite ?_ ?_ | refine Le.bind ?_ ?_ | refine Le.iter (fun _ => ?_) h | intro _ | split)
theorem F88_l0_le {F F' : Nat} (h : F ≤ F') (t0 : Int) (s8 : Int × (List UInt8) × Int) : Le (F88_l0 F t0 s8) (F88_l0 F' t0 s8) := by
  unfold F88_l0
  repeat' (first | (with_reducible exact Le.refl _) | refine F117_le h _ _ | refine F86_le h _ | refine Le.ite ?_ ?_ | refine Le.bind ?_ ?_ | refine Le.iter (fun _ => ?_) h | intro _ | split)
theorem F88_le {F F' : Nat} (h : F ≤ F') (t0 : Int) (t1 : Int) : Le (F88 F t0 t1) (F88 F' t0 t1) := by
  unfold F88
  repeat' (first | (with_reducible exact Le.refl _) | refine F117_le h _ _ | refine F86_le h _ | refine F88_l0_le h _ _ | refine Le.ite ?_ ?_ | refine Le.bind ?_ ?_ | refine Le.iter (fun _ => ?_) h | intro _ | split)
theorem F89_l0_le {F F' : Nat} (h : F ≤ F') (s11 : Int × (List Int)) (s17 : Int × (List Int)) : Le (F89_l0 F s11 s17) (F89_l0 F' s11 s17) := by
  unfold F89_l0
  repeat' (first | (with_reducible exact Le.refl _) | refine Le.ite ?_ ?_ | refine Le.bind ?_ ?_ | refine Le.iter (fun _ => ?_) h | intro _ | split)
theorem F89_l1_le {F F' : Nat} (h : F ≤ F') (t0 : Int) (s11 : Int × (List Int)) : Le (F89_l1 F t0 s11) (F89_l1 F' t0 s11) := by
  unfold F89_l1
  repeat' (first | (with_reducible exact Le.refl _) | refine F89_l0_le h _ _ | refine Le.ite ?_ ?_ | refine Le.bind ?_ ?_ | refine Le.iter (fun _ => ?_) h | intro _ | split)
theorem F89_le {F F' : Nat} (h : F ≤ F') (t0 : Int) (t1 : Int) : Le (F89 F t0 t1) (F89 F' t0 t1) := by
  unfold F89
  repeat' (first | (with_reducible exact Le.refl _) | refine F89_l0_le h _ _ | refine F89_l1_le h _ _ | refine Le.ite ?_ ?_ | refine Le.bind ?_ ?_ | refine Le.iter (fun _ => ?_) h | intro _ | split)
theorem F90_le {F F' : Nat} (h : F ≤ F') (t0 : Int) (t1 : Int) : Le (F90 F t0 t1) (F90 F' t0 t1) := by
  unfold F90
  repeat' (first | (with_reducible exact Le.refl _) | refine F33_le h _ _ | refine Le.ite ?_ ?_ | refine Le.bind ?_ ?_ | refine Le.iter (fun _ => ?_) h | intro _ | split)
theorem F91_l0_le {F F' : Nat} (h : F ≤ F') (t0 : List UInt8) (s2 : Int × Int) : Le (F91_l0 F t0 s2) (F91_l0 F' t0 s2) := by
  unfold F91_l0
  repeat' (first | (with_reducible exact Le.refl _) | refine Le.ite ?_ ?_ | refine Le.bind ?_ ?_ | refine Le.iter (fun _ => ?_) h | intro _ | split)
theorem F91_le {F F' : Nat} (h : F ≤ F') (t0 : List UInt8) : Le (F91 F t0) (F91 F' t0) := by
  unfold F91
  repeat' (first | (with_reducible exact Le.refl _) | refine F91_l0_le h _ _ | refine Le.ite ?_ ?_ | refine Le.bind ?_ ?_ | refine Le.iter (fun _ => ?_) h | intro _ | split)
theorem F94_le {F F' : Nat} (h : F ≤ F') (t0 : Int) (t1 : Int) : Le (F94 F t0 t1) (F94 F' t0 t1) := by
  unfold F94
  repeat' (first | (with_reducible exact Le.refl _) | refine F33_le h _ _ | refine Le.ite ?_ ?_ | refine Le.bind ?_ ?_ | refine Le.iter (fun _ => ?_) h | intro _ | split)
theorem F93_l0_le {F F' : Nat} (h : F ≤ F') (t0 : List UInt8) (s1 : Int × Int × Int) : Le (F93_l0 F t0 s1) (F93_l0 F' t0 s1) := by
  unfold F93_l0
  repeat' (first | (with_reducible exact Le.refl _) | refine F94_le h _ _ | refine Le.ite ?_ ?_ | refine Le.bind ?_ ?_ | refine Le.iter (fun _ => ?_) h | intro _ | split)
theorem F93_le {F F' : Nat} (h : F ≤ F') (t0 : List UInt8) : Le (F93 F t0) (F93 F' t0) := by
  unfold F93
  repeat' (first | (with_reducible exact Le.refl _) | refine F93_l0_le h _ _ | refine F94_le h _ _ | refine Le.ite ?_ ?_ | refine Le.bind ?_ ?_ | refine Le.iter (fun _ => ?_) h | intro _ | split)
end Go.Proofs.Ytkfmedmanhcdeaa

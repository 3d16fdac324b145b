/- More fuel, the same answer: printed by a program of ours (gen.py). -/
import Derived.Test.YtdkmepeolmdccaaDef
import Derived.Test.YtdkmepeolmdccaaPure
set_option linter.unusedVariables false
namespace Go.Proofs.Ytdkmepeolmdccaa
open Go.Am
theorem F19_l0_le {F F' : Nat} (h : F ≤ F') (t0 : List Int) (s3 : Int) : Le (F19_l0 F t0 s3) (F19_l0 F' t0 s3) := by
  unfold F19_l0
  repeat' (first | (with_reducible exact Le.refl _) | refine Le.ite ?_ ?_ | refine Le.bind ?_ ?_ | refine Le.iter (fun _ => ?_) h | intro _ | split)
theorem F19_l1_le {F F' : Nat} (h : F ≤ F') (t0 : List Int) (t1 : List Int) (s20 : Int) : Le (F19_l1 F t0 t1 s20) (F19_l1 F' t0 t1 s20) := by
  unfold F19_l1
  repeat' (first | (with_reducible exact Le.refl _) | refine F19_l0_le h _ _ | refine Le.ite ?_ ?_ | refine Le.bind ?_ ?_ | refine Le.iter (fun _ => ?_) h | intro _ | split)
theorem F19_le {F F' : Nat} (h : F ≤ F') (t0 : List Int) (t1 : List Int) : Le (F19 F t0 t1) (F19 F' t0 t1) := by
  unfold F19
  repeat' (first | (with_reducible exact Le.refl _) | refine F19_l0_le h _ _ | refine F19_l1_le h _ _ _ | refine Le.ite ?_ ?_ | refine Le.bind ?_ ?_ | refine Le.iter (fun _ => ?_) h | intro _ | split)
theorem F110_l0_le {F F' : Nat} (h : F ≤ F') (t0 : List Int) (t1 : Int) (s1 : Int × Int) : Le (F110_l0 F t0 t1 s1) (F110_l0 F' t0 t1 s1) := by
  unfold F110_l0
  repeat' (first | (with_reducible exact Le.refl _) | refine Le.ite ?_ ?_ | refine Le.bind ?_ ?_ | refine Le.iter (fun _ => ?_) h | intro _ | split)
theorem F110_le {F F' : Nat} (h : F ≤ F') (t0 : List Int) (t1 : Int) : Le (F110 F t0 t1) (F110 F' t0 t1) := by
  unfold F110
  repeat' (first | (with_reducible exact Le.refl _) | refine F110_l0_le h _ _ _ | refine Le.ite ?_ ?_ | refine Le.bind ?_ ?_ | refine Le.iter (fun _ => ?_) h | intro _ | split)
theorem F169_l0_le {F F' : Nat} (h : F ≤ F')  (s1 : Int × Int) : Le (F169_l0 F s1) (F169_l0 F' s1) := by
  unfold F169_l0
  repeat' (first | (with_reducible exact Le.refl _) | refine Le.ite ?_ ?_ | refine Le.bind ?_ ?_ | refine Le.iter (fun _ => ?_) h | intro _ | split)
theorem F169_le {F F' : Nat} (h : F ≤ F') (t0 : Int) (t1 : Int) : Le (F169 F t0 t1) (F169 F' t0 t1) := by
  unfold F169
  repeat' (first | (with_reducible exact Le.refl _) | refine F169_l0_le h _ | refine Le.ite ?_ ?_ | refine Le.bind ?_ ?_ | refine Le.iter (fun _ => ?_) h | intro _ | split)
theorem F160_le {F F' : Nat} (h : F ≤ F') (t0 : Int) (t1 : Int) : Le (F160 F t0 t1) (F160 F' t0 t1) := by
  unfold F160
  repeat' (first | (with_reducible exact Le.refl _) | refine F169_le h _ _ | refine Le.ite ?_ ?_ | refine Le.bind ?_ ?_ | refine Le.iter (fun _ => ?_) h | intro _ | split)
theorem F109_le {F F' : Nat} (h : F ≤ F') (t0 : Int) (t1 : Int) : Le (F109 F t0 t1) (F109 F' t0 t1) := by
  unfold F109
  repeat' (first | (with_reducible exact Le.refl _) | refine F160_le h _ _ | refine Le.ite ?_ ?_ | refine Le.bind ?_ ?_ | refine Le.iter (fun _ => ?_) h | intro _ | split)
theorem F15_le {F F' : Nat} (h : F ≤ F') (t0 : List Int) (t1 : Int) : Le (F15 F t0 t1) (F15 F' t0 t1) := by
  unfold F15
  repeat' (first | (with_reducible exact Le.refl _) | refine F109_le h _ _ | refine F110_le h _ _ | refine F19_le h _ _ | refine Le.ite ?_ ?_ | refine Le.bind ?_ ?_ | refine Le.iter (fun _ => ?_) h | intro _ | split)
theorem F16_le {F F' : Nat} (h : F ≤ F') (t0 : List Int) (t1 : Int) (t2 : Int) : Le (F16 F t0 t1 t2) (F16 F' t0 t1 t2) := by
  unfold F16
  repeat' (first | (with_reducible exact Le.refl _) | refine F109_le h _ _ | refine F110_le h _ _ | refine F19_le h _ _ | refine Le.ite ?_ ?_ | refine Le.bind ?_ ?_ | refine Le.iter (fun _ => ?_) h | intro _ | split)
theorem F17_le {F F' : Nat} (h : F ≤ F') (t0 : List Int) (t1 : Int) (t2 : Int) : Le (F17 F t0 t1 t2) (F17 F' t0 t1 t2) := by
  unfold F17
  repeat' (first | (with_reducible exact Le.refl _) | refine F110_le h _ _ | refine F19_le h _ _ | refine Le.ite ?_ ?_ | refine Le.bind ?_ ?_ | refine Le.iter (fun _ => ?_) h | intro _ | split)
theorem F18_l0_le {F F' : Nat} (h : F ≤ F') (t1 : List Int) (s15 : Int × Int) (s21 : Int × Int) : Le (F18_l0 F t1 s15 s21) (F18_l0 F' t1 s15 s21) := by
  unfold F18_l0
  repeat' (first | (with_reducible exact Le.refl _) | refine F15_le h _ _ | refine F19_le h _ _ | refine Le.ite ?_ ?_ | refine Le.bind ?_ ?_ | refine Le.iter (fun _ => ?_) h | intro _ | split)
theorem F18_l1_le {F F' : Nat} (h : F ≤ F') (t0 : List Int) (t1 : List Int) (t2 : Int) (s15 : Int × Int) : Le (F18_l1 F t0 t1 t2 s15) (F18_l1 F' t0 t1 t2 s15) := by
  unfold F18_l1
  repeat' (first | (with_reducible exact Le.refl _) | refine F15_le h _ _ | refine F18_l0_le h _ _ _ | refine F19_le h _ _ | refine Le.ite ?_ ?_ | refine Le.bind ?_ ?_ | refine Le.iter (fun _ => ?_) h | intro _ | split)
theorem F18_le {F F' : Nat} (h : F ≤ F') (t0 : List Int) (t1 : List Int) (t2 : Int) : Le (F18 F t0 t1 t2) (F18 F' t0 t1 t2) := by
  unfold F18
  repeat' (first | (with_reducible exact Le.refl _) | refine F15_le h _ _ | refine F18_l0_le h _ _ _ | refine F18_l1_le h _ _ _ _ | refine F19_le h _ _ | refine Le.ite ?_ ?_ | refine Le.bind ?_ ?_ | refine Le.iter (fun _ => ?_) h | intro _ | split)
theorem F111_le {F F' : Nat} (h : F ≤ F') (t0 : Int) : Le (F111 F t0) (F111 F' t0) := by
  unfold F111
  repeat' (first | (with_reducible exact Le.refl _) | refine Le.ite ?_ ?_ | refine Le.bind ?_ ?_ | refine Le.iter (fun _ => ?_) h | intro _ | split)
theorem F155_111_l0_le {F F' : Nat} (h : F ≤ F') (t0 : List Int) (s1 : Int) : Le (F155_111_l0 F t0 s1) (F155_111_l0 F' t0 s1) := by
  unfold F155_111_l0
  repeat' (first | (with_reducible exact Le.refl _) | refine F111_le h _ | refine Le.ite ?_ ?_ | refine Le.bind ?_ ?_ | refine Le.iter (fun _ => ?_) h | intro _ | split)
theorem F155_111_le {F F' : Nat} (h : F ≤ F') (t0 : List Int) : Le (F155_111 F t0) (F155_111 F' t0) := by
  unfold F155_111
  repeat' (first | (with_reducible exact Le.refl _) | refine F111_le h _ | refine F155_111_l0_le h _ _ | refine Le.ite ?_ ?_ | refine Le.bind ?_ ?_ | refine Le.iter (fun _ => ?_) h | intro _ | split)
theorem F96_111_le {F F' : Nat} (h : F ≤ F') (t0 : List Int) : Le (F96_111 F t0) (F96_111 F' t0) := by
  unfold F96_111
  repeat' (first | (with_reducible exact Le.refl _) | refine F155_111_le h _ | refine Le.ite ?_ ?_ | refine Le.bind ?_ ?_ | refine Le.iter (fun _ => ?_) h | intro _ | split)
theorem F113_le {F F' : Nat} (h : F ≤ F') (t0 : Int) (c0 : List Int) : Le (F113 F t0 c0) (F113 F' t0 c0) := by
  unfold F113
  repeat' (first | (with_reducible exact Le.refl _) | refine Le.ite ?_ ?_ | refine Le.bind ?_ ?_ | refine Le.iter (fun _ => ?_) h | intro _ | split)
theorem F161_113_l0_le {F F' : Nat} (h : F ≤ F') (t0 : List Int) (t1c0 : List Int) (s1 : Int) : Le (F161_113_l0 F t0 t1c0 s1) (F161_113_l0 F' t0 t1c0 s1) := by
  unfold F161_113_l0
  repeat' (first | (with_reducible exact Le.refl _) | refine F113_le h _ _ | refine Le.ite ?_ ?_ | refine Le.bind ?_ ?_ | refine Le.iter (fun _ => ?_) h | intro _ | split)
theorem F161_113_le {F F' : Nat} (h : F ≤ F') (t0 : List Int) (t1c0 : List Int) : Le (F161_113 F t0 t1c0) (F161_113 F' t0 t1c0) := by
  unfold F161_113
  repeat' (first | (with_reducible exact Le.refl _) | refine F113_le h _ _ | refine F161_113_l0_le h _ _ _ | refine Le.ite ?_ ?_ | refine Le.bind ?_ ?_ | refine Le.iter (fun _ => ?_) h | intro _ | split)
theorem F112_113_le {F F' : Nat} (h : F ≤ F') (t0 : List Int) (t1c0 : List Int) : Le (F112_113 F t0 t1c0) (F112_113 F' t0 t1c0) := by
  unfold F112_113
  repeat' (first | (with_reducible exact Le.refl _) | refine F161_113_le h _ _ | refine Le.ite ?_ ?_ | refine Le.bind ?_ ?_ | refine Le.iter (fun _ => ?_) h | intro _ | split)
theorem F20_le {F F' : Nat} (h : F ≤ F') (t0 : List Int) (t1 : List Int) : Le (F20 F t0 t1) (F20 F' t0 t1) := by
  unfold F20
  repeat' (first | (with_reducible exact Le.refl _) | refine F112_113_le h _ _ | refine F96_111_le h _ | refine Le.ite ?_ ?_ | refine Le.bind ?_ ?_ | refine Le.iter (fun _ => ?_) h | intro _ | split)
theorem F22_l0_le {F F' : Nat} (h : F ≤ F') (t0 : List Int) (t1 : Int) (s1 : Int × Int) : Le (F22_l0 F t0 t1 s1) (F22_l0 F' t0 t1 s1) := by
  unfold F22_l0
  repeat' (first | (with_reducible exact Le.refl _) | refine Le.ite ?_ ?_ | refine Le.bind ?_ ?_ | refine Le.iter (fun _ => ?_) h | intro _ | split)
theorem F22_le {F F' : Nat} (h : F ≤ F') (t0 : List Int) (t1 : Int) : Le (F22 F t0 t1) (F22 F' t0 t1) := by
  unfold F22
  repeat' (first | (with_reducible exact Le.refl _) | refine F22_l0_le h _ _ _ | refine Le.ite ?_ ?_ | refine Le.bind ?_ ?_ | refine Le.iter (fun _ => ?_) h | intro _ | split)
theorem F127_le {F F' : Nat} (h : F ≤ F') (x0 : Int) (x1 : Int) : Le (F127 F x0 x1) (F127 F' x0 x1) := by
  induction F generalizing F' x0 x1 with
  | zero => exact ⟨fun _ h => by cases h⟩
  | succ F ih =>
    cases F' with
    | zero => omega
    | succ F' =>
      rw [F127, F127]
      try dsimp only
      repeat' (first | (with_reducible exact Le.refl _) | refine ih (Nat.le_of_succ_le_succ h) _ _ | refine Le.ite ?_ ?_ | refine Le.bind ?_ ?_ | refine Le.iter (fun _ => ?_) (Nat.le_of_succ_le_succ h) | (dsimp only; done) | intro _ | split)
theorem F114_le {F F' : Nat} (h : F ≤ F') (t0 : Int) (t1 : Int) : Le (F114 F t0 t1) (F114 F' t0 t1) := by
  unfold F114
  repeat' (first | (with_reducible exact Le.refl _) | refine F127_le h _ _ | refine Le.ite ?_ ?_ | refine Le.bind ?_ ?_ | refine Le.iter (fun _ => ?_) h | intro _ | split)
theorem F21_le {F F' : Nat} (h : F ≤ F') (t0 : Int) (t1 : Int) : Le (F21 F t0 t1) (F21 F' t0 t1) := by
  unfold F21
  repeat' (first | (with_reducible exact Le.refl _) | refine F114_le h _ _ | refine Le.ite ?_ ?_ | refine Le.bind ?_ ?_ | refine Le.iter (fun _ => ?_) h | intro _ | split)
theorem F28_l0_le {F F' : Nat} (h : F ≤ F') (t0 : List Int) (s2 : Int) : Le (F28_l0 F t0 s2) (F28_l0 F' t0 s2) := by
  unfold F28_l0
  repeat' (first | (with_reducible exact Le.refl _) | refine Le.ite ?_ ?_ | refine Le.bind ?_ ?_ | refine Le.iter (fun _ => ?_) h | intro _ | split)
theorem F28_le {F F' : Nat} (h : F ≤ F') (t0 : List Int) : Le (F28 F t0) (F28 F' t0) := by
  unfold F28
  repeat' (first | (with_reducible exact Le.refl _) | refine F28_l0_le h _ _ | refine Le.ite ?_ ?_ | refine Le.bind ?_ ?_ | refine Le.iter (fun _ => ?_) h | intro _ | split)
theorem F23_l0_le {F F' : Nat} (h : F ≤ F') (t0 : List Int) (s6 : Int × Int) : Le (F23_l0 F t0 s6) (F23_l0 F' t0 s6) := by
  unfold F23_l0
  repeat' (first | (with_reducible exact Le.refl _) | refine F28_le h _ | refine Le.ite ?_ ?_ | refine Le.bind ?_ ?_ | refine Le.iter (fun _ => ?_) h | intro _ | split)
theorem F23_le {F F' : Nat} (h : F ≤ F') (t0 : List Int) : Le (F23 F t0) (F23 F' t0) := by
  unfold F23
  repeat' (first | (with_reducible exact Le.refl _) | refine F23_l0_le h _ _ | refine F28_le h _ | refine Le.ite ?_ ?_ | refine Le.bind ?_ ?_ | refine Le.iter (fun _ => ?_) h | intro _ | split)
theorem F24_l0_le {F F' : Nat} (h : F ≤ F') (t0 : List Int) (s9 : Int × Int) : Le (F24_l0 F t0 s9) (F24_l0 F' t0 s9) := by
  unfold F24_l0
  repeat' (first | (with_reducible exact Le.refl _) | refine F23_le h _ | refine Le.ite ?_ ?_ | refine Le.bind ?_ ?_ | refine Le.iter (fun _ => ?_) h | intro _ | split)
theorem F24_le {F F' : Nat} (h : F ≤ F') (t0 : List Int) (t1 : Int) : Le (F24 F t0 t1) (F24 F' t0 t1) := by
  unfold F24
  repeat' (first | (with_reducible exact Le.refl _) | refine F23_le h _ | refine F24_l0_le h _ _ | refine Le.ite ?_ ?_ | refine Le.bind ?_ ?_ | refine Le.iter (fun _ => ?_) h | intro _ | split)
theorem F25_le {F F' : Nat} (h : F ≤ F') (t0 : List Int) (t1 : Int) (t2 : Int) (t3 : Int) : Le (F25 F t0 t1 t2 t3) (F25 F' t0 t1 t2 t3) := by
  unfold F25
  repeat' (first | (with_reducible exact Le.refl _) | refine F28_le h _ | refine Le.ite ?_ ?_ | refine Le.bind ?_ ?_ | refine Le.iter (fun _ => ?_) h | intro _ | split)
theorem F26_l0_le {F F' : Nat} (h : F ≤ F') (t0 : List Int) (t1 : List Int) (s13 : Int × (List Int)) : Le (F26_l0 F t0 t1 s13) (F26_l0 F' t0 t1 s13) := by
  unfold F26_l0
  repeat' (first | (with_reducible exact Le.refl _) | refine F24_le h _ _ | refine F28_le h _ | refine Le.ite ?_ ?_ | refine Le.bind ?_ ?_ | refine Le.iter (fun _ => ?_) h | intro _ | split)
theorem F26_le {F F' : Nat} (h : F ≤ F') (t0 : List Int) (t1 : List Int) : Le (F26 F t0 t1) (F26 F' t0 t1) := by
  unfold F26
  repeat' (first | (with_reducible exact Le.refl _) | refine F24_le h _ _ | refine F26_l0_le h _ _ _ | refine F28_le h _ | refine Le.ite ?_ ?_ | refine Le.bind ?_ ?_ | refine Le.iter (fun _ => ?_) h | intro _ | split)
theorem F115_le {F F' : Nat} (h : F ≤ F') (t0 : Int) : Le (F115 F t0) (F115 F' t0) := by
  unfold F115
  repeat' (first | (with_reducible exact Le.refl _) | refine Le.ite ?_ ?_ | refine Le.bind ?_ ?_ | refine Le.iter (fun _ => ?_) h | intro _ | split)
theorem F155_115_l0_le {F F' : Nat} (h : F ≤ F') (t0 : List Int) (s1 : Int) : Le (F155_115_l0 F t0 s1) (F155_115_l0 F' t0 s1) := by
  unfold F155_115_l0
  repeat' (first | (with_reducible exact Le.refl _) | refine F115_le h _ | refine Le.ite ?_ ?_ | refine Le.bind ?_ ?_ | refine Le.iter (fun _ => ?_) h | intro _ | split)
theorem F155_115_le {F F' : Nat} (h : F ≤ F') (t0 : List Int) : Le (F155_115 F t0) (F155_115 F' t0) := by
  unfold F155_115
  repeat' (first | (with_reducible exact Le.refl _) | refine F115_le h _ | refine F155_115_l0_le h _ _ | refine Le.ite ?_ ?_ | refine Le.bind ?_ ?_ | refine Le.iter (fun _ => ?_) h | intro _ | split)
theorem F96_115_le {F F' : Nat} (h : F ≤ F') (t0 : List Int) : Le (F96_115 F t0) (F96_115 F' t0) := by
  unfold F96_115
  repeat' (first | (with_reducible exact Le.refl _) | refine F155_115_le h _ | refine Le.ite ?_ ?_ | refine Le.bind ?_ ?_ | refine Le.iter (fun _ => ?_) h | intro _ | split)
theorem F27_le {F F' : Nat} (h : F ≤ F') (t0 : List Int) : Le (F27 F t0) (F27 F' t0) := by
  unfold F27
  repeat' (first | (with_reducible exact Le.refl _) | refine F96_115_le h _ | refine Le.ite ?_ ?_ | refine Le.bind ?_ ?_ | refine Le.iter (fun _ => ?_) h | intro _ | split)
theorem F29_l0_le {F F' : Nat} (h : F ≤ F') (s1 : (List Int) × Int) (x11 : Int) (s13 : (List Int) × Int) : Le (F29_l0 F s1 x11 s13) (F29_l0 F' s1 x11 s13) := by
  unfold F29_l0
  repeat' (first | (with_reducible exact Le.refl _) | refine Le.ite ?_ ?_ | refine Le.bind ?_ ?_ | refine Le.iter (fun _ => ?_) h | intro _ | split)
theorem F29_l1_le {F F' : Nat} (h : F ≤ F') (t0 : List Int) (s1 : (List Int) × Int) : Le (F29_l1 F t0 s1) (F29_l1 F' t0 s1) := by
  unfold F29_l1
  repeat' (first | (with_reducible exact Le.refl _) | refine F29_l0_le h _ _ _ | refine Le.ite ?_ ?_ | refine Le.bind ?_ ?_ | refine Le.iter (fun _ => ?_) h | intro _ | split)
theorem F29_le {F F' : Nat} (h : F ≤ F') (t0 : List Int) (t1 : Int) : Le (F29 F t0 t1) (F29 F' t0 t1) := by
  unfold F29
  repeat' (first | (with_reducible exact Le.refl _) | refine F29_l0_le h _ _ _ | refine F29_l1_le h _ _ | refine Le.ite ?_ ?_ | refine Le.bind ?_ ?_ | refine Le.iter (fun _ => ?_) h | intro _ | split)
theorem F30_le {F F' : Nat} (h : F ≤ F') (t0 : (List Int)) : Le (F30 F t0) (F30 F' t0) := by
  unfold F30
  repeat' (first | (with_reducible exact Le.refl _) | refine Le.ite ?_ ?_ | refine Le.bind ?_ ?_ | refine Le.iter (fun _ => ?_) h | intro _ | split)
theorem F31_l0_le {F F' : Nat} (h : F ≤ F') (t0 : List Int) (t1 : List Int) (s2 : Int) : Le (F31_l0 F t0 t1 s2) (F31_l0 F' t0 t1 s2) := by
  unfold F31_l0
  repeat' (first | (with_reducible exact Le.refl _) | refine Le.ite ?_ ?_ | refine Le.bind ?_ ?_ | refine Le.iter (fun _ => ?_) h | intro _ | split)
theorem F31_le {F F' : Nat} (h : F ≤ F') (t0 : List Int) (t1 : List Int) : Le (F31 F t0 t1) (F31 F' t0 t1) := by
  unfold F31
  repeat' (first | (with_reducible exact Le.refl _) | refine F31_l0_le h _ _ _ | refine Le.ite ?_ ?_ | refine Le.bind ?_ ?_ | refine Le.iter (fun _ => ?_) h | intro _ | split)
theorem F32_le {F F' : Nat} (h : F ≤ F') (t0 : List Int) (t1 : List Int) : Le (F32 F t0 t1) (F32 F' t0 t1) := by
  unfold F32
  repeat' (first | (with_reducible exact Le.refl _) | refine F31_le h _ _ | refine Le.ite ?_ ?_ | refine Le.bind ?_ ?_ | refine Le.iter (fun _ => ?_) h | intro _ | split)
theorem F33_l0_le {F F' : Nat} (h : F ≤ F')  (s21 : Int × (List Int)) : Le (F33_l0 F s21) (F33_l0 F' s21) := by
  unfold F33_l0
  repeat' (first | (with_reducible exact Le.refl _) | refine Le.ite ?_ ?_ | refine Le.bind ?_ ?_ | refine Le.iter (fun _ => ?_) h | intro _ | split)
theorem F33_l1_le {F F' : Nat} (h : F ≤ F') (t0 : Int) (t1 : Int) (s15 : Int × (List Int)) : Le (F33_l1 F t0 t1 s15) (F33_l1 F' t0 t1 s15) := by
  unfold F33_l1
  repeat' (first | (with_reducible exact Le.refl _) | refine F33_l0_le h _ | refine Le.ite ?_ ?_ | refine Le.bind ?_ ?_ | refine Le.iter (fun _ => ?_) h | intro _ | split)
theorem F33_le {F F' : Nat} (h : F ≤ F') (t0 : Int) (t1 : Int) : Le (F33 F t0 t1) (F33 F' t0 t1) := by
  unfold F33
  repeat' (first | (with_reducible exact Le.refl _) | refine F33_l0_le h _ | refine F33_l1_le h _ _ _ | refine Le.ite ?_ ?_ | refine Le.bind ?_ ?_ | refine Le.iter (fun _ => ?_) h | intro _ | split)
theorem F34_l0_le {F F' : Nat} (h : F ≤ F') (t0 : Int) (s1 : Int × Int) : Le (F34_l0 F t0 s1) (F34_l0 F' t0 s1) := by
  unfold F34_l0
  repeat' (first | (with_reducible exact Le.refl _) | refine F33_le h _ _ | refine Le.ite ?_ ?_ | refine Le.bind ?_ ?_ | refine Le.iter (fun _ => ?_) h | intro _ | split)
theorem F34_le {F F' : Nat} (h : F ≤ F') (t0 : Int) : Le (F34 F t0) (F34 F' t0) := by
  unfold F34
  repeat' (first | (with_reducible exact Le.refl _) | refine F33_le h _ _ | refine F34_l0_le h _ _ | refine Le.ite ?_ ?_ | refine Le.bind ?_ ?_ | refine Le.iter (fun _ => ?_) h | intro _ | split)
theorem F40_l0_le {F F' : Nat} (h : F ≤ F') (t0 : List Int) (s2 : Int × Int) : Le (F40_l0 F t0 s2) (F40_l0 F' t0 s2) := by
  unfold F40_l0
  repeat' (first | (with_reducible exact Le.refl _) | refine Le.ite ?_ ?_ | refine Le.bind ?_ ?_ | refine Le.iter (fun _ => ?_) h | intro _ | split)
theorem F40_le {F F' : Nat} (h : F ≤ F') (t0 : List Int) : Le (F40 F t0) (F40 F' t0) := by
  unfold F40
  repeat' (first | (with_reducible exact Le.refl _) | refine F40_l0_le h _ _ | refine Le.ite ?_ ?_ | refine Le.bind ?_ ?_ | refine Le.iter (fun _ => ?_) h | intro _ | split)
theorem F95_l0_le {F F' : Nat} (h : F ≤ F') (t0 : List Int) (s9 : Int × Int) : Le (F95_l0 F t0 s9) (F95_l0 F' t0 s9) := by
  unfold F95_l0
  repeat' (first | (with_reducible exact Le.refl _) | refine Le.ite ?_ ?_ | refine Le.bind ?_ ?_ | refine Le.iter (fun _ => ?_) h | intro _ | split)
theorem F95_le {F F' : Nat} (h : F ≤ F') (t0 : List Int) : Le (F95 F t0) (F95 F' t0) := by
  unfold F95
  repeat' (first | (with_reducible exact Le.refl _) | refine F95_l0_le h _ _ | refine Le.ite ?_ ?_ | refine Le.bind ?_ ?_ | refine Le.iter (fun _ => ?_) h | intro _ | split)
theorem F35_l0_le {F F' : Nat} (h : F ≤ F') (t0 : List Int) (s6 : Int) : Le (F35_l0 F t0 s6) (F35_l0 F' t0 s6) := by
  unfold F35_l0
  repeat' (first | (with_reducible exact Le.refl _) | refine F40_le h _ | refine F95_le h _ | refine Le.ite ?_ ?_ | refine Le.bind ?_ ?_ | refine Le.iter (fun _ => ?_) h | intro _ | split)
theorem F35_le {F F' : Nat} (h : F ≤ F') (t0 : List Int) : Le (F35 F t0) (F35 F' t0) := by
  unfold F35
  repeat' (first | (with_reducible exact Le.refl _) | refine F35_l0_le h _ _ | refine F40_le h _ | refine F95_le h _ | refine Le.ite ?_ ?_ | refine Le.bind ?_ ?_ | refine Le.iter (fun _ => ?_) h | intro _ | split)
theorem F116_l0_le {F F' : Nat} (h : F ≤ F') (t0 : List Int) (t1 : Int) (s1 : Int) : Le (F116_l0 F t0 t1 s1) (F116_l0 F' t0 t1 s1) := by
  unfold F116_l0
  repeat' (first | (with_reducible exact Le.refl _) | refine Le.ite ?_ ?_ | refine Le.bind ?_ ?_ | refine Le.iter (fun _ => ?_) h | intro _ | split)
theorem F116_le {F F' : Nat} (h : F ≤ F') (t0 : List Int) (t1 : Int) : Le (F116 F t0 t1) (F116 F' t0 t1) := by
  unfold F116
  repeat' (first | (with_reducible exact Le.refl _) | refine F116_l0_le h _ _ _ | refine Le.ite ?_ ?_ | refine Le.bind ?_ ?_ | refine Le.iter (fun _ => ?_) h | intro _ | split)
theorem F36_l0_le {F F' : Nat} (h : F ≤ F') (t0 : List Int) (s2 : (List Int) × (List Int) × Int) : Le (F36_l0 F t0 s2) (F36_l0 F' t0 s2) := by
  unfold F36_l0
  repeat' (first | (with_reducible exact Le.refl _) | refine F116_le h _ _ | refine Le.ite ?_ ?_ | refine Le.bind ?_ ?_ | refine Le.iter (fun _ => ?_) h | intro _ | split)
theorem F36_le {F F' : Nat} (h : F ≤ F') (t0 : List Int) : Le (F36 F t0) (F36 F' t0) := by
  unfold F36
  repeat' (first | (with_reducible exact Le.refl _) | refine F116_le h _ _ | refine F36_l0_le h _ _ | refine Le.ite ?_ ?_ | refine Le.bind ?_ ?_ | refine Le.iter (fun _ => ?_) h | intro _ | split)
theorem F104_l0_le {F F' : Nat} (h : F ≤ F')  (s21 : Int × (List Int)) : Le (F104_l0 F s21) (F104_l0 F' s21) := by
  unfold F104_l0
  repeat' (first | (with_reducible exact Le.refl _) | refine Le.ite ?_ ?_ | refine Le.bind ?_ ?_ | refine Le.iter (fun _ => ?_) h | intro _ | split)
theorem F104_l1_le {F F' : Nat} (h : F ≤ F') (t0 : Int) (t1 : Int) (s15 : Int × (List Int)) : Le (F104_l1 F t0 t1 s15) (F104_l1 F' t0 t1 s15) := by
  unfold F104_l1
  repeat' (first | (with_reducible exact Le.refl _) | refine F104_l0_le h _ | refine Le.ite ?_ ?_ | refine Le.bind ?_ ?_ | refine Le.iter (fun _ => ?_) h | intro _ | split)
theorem F104_le {F F' : Nat} (h : F ≤ F') (t0 : Int) (t1 : Int) : Le (F104 F t0 t1) (F104 F' t0 t1) := by
  unfold F104
  repeat' (first | (with_reducible exact Le.refl _) | refine F104_l0_le h _ | refine F104_l1_le h _ _ _ | refine Le.ite ?_ ?_ | refine Le.bind ?_ ?_ | refine Le.iter (fun _ => ?_) h | intro _ | split)
theorem F37_l0_le {F F' : Nat} (h : F ≤ F') (t0 : Int) {frec frec' : Int → Option Int} (hf : ∀ x0, Le (frec x0) (frec' x0)) (s2 : Int × Int) : Le (F37_l0 F t0 frec s2) (F37_l0 F' t0 frec' s2) := by
  unfold F37_l0
  repeat' (first | (with_reducible exact Le.refl _) | refine F104_le h _ _ | refine hf _ | refine Le.ite ?_ ?_ | refine Le.bind ?_ ?_ | refine Le.iter (fun _ => ?_) h | intro _ | split)
theorem F37_le {F F' : Nat} (h : F ≤ F') (x0 : Int) : Le (F37 F x0) (F37 F' x0) := by
  induction F generalizing F' x0 with
  | zero => exact ⟨fun _ h => by cases h⟩
  | succ F ih =>
    cases F' with
    | zero => omega
    | succ F' =>
      rw [F37, F37]
      try dsimp only
      repeat' (first | (with_reducible exact Le.refl _) | refine F104_le (Nat.le_of_succ_le_succ h) _ _ | refine F37_l0_le (Nat.le_of_succ_le_succ h) _ ?_ _ | refine ih (Nat.le_of_succ_le_succ h) _ | refine Le.ite ?_ ?_ | refine Le.bind ?_ ?_ | refine Le.iter (fun _ => ?_) (Nat.le_of_succ_le_succ h) | (dsimp only; done) | intro _ | split)
theorem F65_le {F F' : Nat} (h : F ≤ F') (x0 : Int) : Le (F65 F x0) (F65 F' x0) := by
  induction F generalizing F' x0 with
  | zero => exact ⟨fun _ h => by cases h⟩
  | succ F ih =>
    cases F' with
    | zero => omega
    | succ F' =>
      rw [F65, F65]
      try dsimp only
      repeat' (first | (with_reducible exact Le.refl _) | refine ih (Nat.le_of_succ_le_succ h) _ | refine Le.ite ?_ ?_ | refine Le.bind ?_ ?_ | refine Le.iter (fun _ => ?_) (Nat.le_of_succ_le_succ h) | (dsimp only; done) | intro _ | split)
theorem F38_l0_le {F F' : Nat} (h : F ≤ F') (t0 : Int) (s1 : Int × Int) (s11 : Int × Int) : Le (F38_l0 F t0 s1 s11) (F38_l0 F' t0 s1 s11) := by
  unfold F38_l0
  repeat' (first | (with_reducible exact Le.refl _) | refine F104_le h _ _ | refine F65_le h _ | refine Le.ite ?_ ?_ | refine Le.bind ?_ ?_ | refine Le.iter (fun _ => ?_) h | intro _ | split)
theorem F38_l1_le {F F' : Nat} (h : F ≤ F') (t0 : Int) (t1 : Int) (s1 : Int × Int) : Le (F38_l1 F t0 t1 s1) (F38_l1 F' t0 t1 s1) := by
  unfold F38_l1
  repeat' (first | (with_reducible exact Le.refl _) | refine F104_le h _ _ | refine F38_l0_le h _ _ _ | refine F65_le h _ | refine Le.ite ?_ ?_ | refine Le.bind ?_ ?_ | refine Le.iter (fun _ => ?_) h | intro _ | split)
theorem F38_le {F F' : Nat} (h : F ≤ F') (t0 : Int) (t1 : Int) : Le (F38 F t0 t1) (F38 F' t0 t1) := by
  unfold F38
  repeat' (first | (with_reducible exact Le.refl _) | refine F104_le h _ _ | refine F38_l0_le h _ _ _ | refine F38_l1_le h _ _ _ | refine F65_le h _ | refine Le.ite ?_ ?_ | refine Le.bind ?_ ?_ | refine Le.iter (fun _ => ?_) h | intro _ | split)
theorem F117_le {F F' : Nat} (h : F ≤ F') (t0 : List Int) (t1 : Int) : Le (F117 F t0 t1) (F117 F' t0 t1) := by
  unfold F117
  repeat' (first | (with_reducible exact Le.refl _) | refine F116_le h _ _ | refine Le.ite ?_ ?_ | refine Le.bind ?_ ?_ | refine Le.iter (fun _ => ?_) h | intro _ | split)
theorem F39_l0_le {F F' : Nat} (h : F ≤ F') (t0 : List Int) (s2 : Int) : Le (F39_l0 F t0 s2) (F39_l0 F' t0 s2) := by
  unfold F39_l0
  repeat' (first | (with_reducible exact Le.refl _) | refine F117_le h _ _ | refine Le.ite ?_ ?_ | refine Le.bind ?_ ?_ | refine Le.iter (fun _ => ?_) h | intro _ | split)
theorem F39_le {F F' : Nat} (h : F ≤ F') (t0 : List Int) : Le (F39 F t0) (F39 F' t0) := by
  unfold F39
  repeat' (first | (with_reducible exact Le.refl _) | refine F117_le h _ _ | refine F39_l0_le h _ _ | refine Le.ite ?_ ?_ | refine Le.bind ?_ ?_ | refine Le.iter (fun _ => ?_) h | intro _ | split)
theorem F41_l0_le {F F' : Nat} (h : F ≤ F') (t0 : List Int) (s1 : Int) : Le (F41_l0 F t0 s1) (F41_l0 F' t0 s1) := by
  unfold F41_l0
  repeat' (first | (with_reducible exact Le.refl _) | refine F117_le h _ _ | refine F30_le h _ | refine Le.ite ?_ ?_ | refine Le.bind ?_ ?_ | refine Le.iter (fun _ => ?_) h | intro _ | split)
theorem F41_le {F F' : Nat} (h : F ≤ F') (t0 : List Int) : Le (F41 F t0) (F41 F' t0) := by
  unfold F41
  repeat' (first | (with_reducible exact Le.refl _) | refine F117_le h _ _ | refine F30_le h _ | refine F41_l0_le h _ _ | refine Le.ite ?_ ?_ | refine Le.bind ?_ ?_ | refine Le.iter (fun _ => ?_) h | intro _ | split)
theorem F44_le {F F' : Nat} (h : F ≤ F') (t0 : Int) (t1 : Int) (t2 : Int) (t3 : Int) : Le (F44 F t0 t1 t2 t3) (F44 F' t0 t1 t2 t3) := by
  unfold F44
  repeat' (first | (with_reducible exact Le.refl _) | refine Le.ite ?_ ?_ | refine Le.bind ?_ ?_ | refine Le.iter (fun _ => ?_) h | intro _ | split)
theorem F118_l0_le {F F' : Nat} (h : F ≤ F') (t0 : Int) (t1 : Int) (s1 : Int × Int) : Le (F118_l0 F t0 t1 s1) (F118_l0 F' t0 t1 s1) := by
  unfold F118_l0
  repeat' (first | (with_reducible exact Le.refl _) | refine Le.ite ?_ ?_ | refine Le.bind ?_ ?_ | refine Le.iter (fun _ => ?_) h | intro _ | split)
theorem F118_le {F F' : Nat} (h : F ≤ F') (t0 : Int) (t1 : Int) : Le (F118 F t0 t1) (F118 F' t0 t1) := by
  unfold F118
  repeat' (first | (with_reducible exact Le.refl _) | refine F118_l0_le h _ _ _ | refine Le.ite ?_ ?_ | refine Le.bind ?_ ?_ | refine Le.iter (fun _ => ?_) h | intro _ | split)
theorem F42_l0_le {F F' : Nat} (h : F ≤ F') (t0 : Int) (t1 : Int) (t2 : Int) (t3 : Int) (s12 : Int × Int × Int) : Le (F42_l0 F t0 t1 t2 t3 s12) (F42_l0 F' t0 t1 t2 t3 s12) := by
  unfold F42_l0
  repeat' (first | (with_reducible exact Le.refl _) | refine F109_le h _ _ | refine F118_le h _ _ | refine F44_le h _ _ _ _ | refine Le.ite ?_ ?_ | refine Le.bind ?_ ?_ | refine Le.iter (fun _ => ?_) h | intro _ | split)
theorem F42_l1_le {F F' : Nat} (h : F ≤ F') (b27 : Int × Int) (s31 : Int × Int × (Int × Int)) : Le (F42_l1 F b27 s31) (F42_l1 F' b27 s31) := by
  unfold F42_l1
  repeat' (first | (with_reducible exact Le.refl _) | refine F109_le h _ _ | refine F118_le h _ _ | refine F42_l0_le h _ _ _ _ _ | refine F44_le h _ _ _ _ | refine Le.ite ?_ ?_ | refine Le.bind ?_ ?_ | refine Le.iter (fun _ => ?_) h | intro _ | split)
theorem F42_le {F F' : Nat} (h : F ≤ F') (t0 : Int) (t1 : Int) (t2 : Int) (t3 : Int) : Le (F42 F t0 t1 t2 t3) (F42 F' t0 t1 t2 t3) := by
  unfold F42
  repeat' (first | (with_reducible exact Le.refl _) | refine F109_le h _ _ | refine F118_le h _ _ | refine F42_l0_le h _ _ _ _ _ | refine F42_l1_le h _ _ | refine F44_le h _ _ _ _ | refine Le.ite ?_ ?_ | refine Le.bind ?_ ?_ | refine Le.iter (fun _ => ?_) h | intro _ | split)
theorem F150_le {F F' : Nat} (h : F ≤ F') (t0 : Int × Int) : Le (F150 F t0) (F150 F' t0) := by
  unfold F150
  repeat' (first | (with_reducible exact Le.refl _) | refine F169_le h _ _ | refine Le.ite ?_ ?_ | refine Le.bind ?_ ?_ | refine Le.iter (fun _ => ?_) h | intro _ | split)
theorem F162_le {F F' : Nat} (h : F ≤ F') (t0 : Int × Int) (t1 : Int × Int) : Le (F162 F t0 t1) (F162 F' t0 t1) := by
  unfold F162
  repeat' (first | (with_reducible exact Le.refl _) | refine F150_le h _ | refine Le.ite ?_ ?_ | refine Le.bind ?_ ?_ | refine Le.iter (fun _ => ?_) h | intro _ | split)
theorem F119_le {F F' : Nat} (h : F ≤ F') (t0 : Int × Int) (t1 : Int × Int) : Le (F119 F t0 t1) (F119 F' t0 t1) := by
  unfold F119
  repeat' (first | (with_reducible exact Le.refl _) | refine F160_le h _ _ | refine F162_le h _ _ | refine Le.ite ?_ ?_ | refine Le.bind ?_ ?_ | refine Le.iter (fun _ => ?_) h | intro _ | split)
theorem F120_le {F F' : Nat} (h : F ≤ F') (t0 : Int × Int) (t1 : Int × Int) : Le (F120 F t0 t1) (F120 F' t0 t1) := by
  unfold F120
  repeat' (first | (with_reducible exact Le.refl _) | refine F160_le h _ _ | refine F162_le h _ _ | refine Le.ite ?_ ?_ | refine Le.bind ?_ ?_ | refine Le.iter (fun _ => ?_) h | intro _ | split)
theorem F43_le {F F' : Nat} (h : F ≤ F') (t0 : Int) (t1 : Int) (t2 : Int) (t3 : Int) : Le (F43 F t0 t1 t2 t3) (F43 F' t0 t1 t2 t3) := by
  unfold F43
  repeat' (first | (with_reducible exact Le.refl _) | refine F109_le h _ _ | refine F119_le h _ _ | refine F120_le h _ _ | refine F42_le h _ _ _ _ | refine F44_le h _ _ _ _ | refine Le.ite ?_ ?_ | refine Le.bind ?_ ?_ | refine Le.iter (fun _ => ?_) h | intro _ | split)
theorem F45_l0_le {F F' : Nat} (h : F ≤ F') (t1 : Int) (t2 : Int) (s11 : Int × Int) : Le (F45_l0 F t1 t2 s11) (F45_l0 F' t1 t2 s11) := by
  unfold F45_l0
  repeat' (first | (with_reducible exact Le.refl _) | refine F114_le h _ _ | refine Le.ite ?_ ?_ | refine Le.bind ?_ ?_ | refine Le.iter (fun _ => ?_) h | intro _ | split)
theorem F45_l1_le {F F' : Nat} (h : F ≤ F') (t1 : Int) (t2 : Int) (t3 : Int) (s21 : Int × Int × (List Int)) : Le (F45_l1 F t1 t2 t3 s21) (F45_l1 F' t1 t2 t3 s21) := by
  unfold F45_l1
  repeat' (first | (with_reducible exact Le.refl _) | refine F114_le h _ _ | refine F45_l0_le h _ _ _ | refine Le.ite ?_ ?_ | refine Le.bind ?_ ?_ | refine Le.iter (fun _ => ?_) h | intro _ | split)
theorem F45_le {F F' : Nat} (h : F ≤ F') (t0 : Int) (t1 : Int) (t2 : Int) (t3 : Int) : Le (F45 F t0 t1 t2 t3) (F45 F' t0 t1 t2 t3) := by
  unfold F45
  repeat' (first | (with_reducible exact Le.refl _) | refine F114_le h _ _ | refine F45_l0_le h _ _ _ | refine F45_l1_le h _ _ _ _ | refine Le.ite ?_ ?_ | refine Le.bind ?_ ?_ | refine Le.iter (fun _ => ?_) h | intro _ | split)
theorem F46_le {F F' : Nat} (h : F ≤ F') (t0 : Int × Int) (t1 : Int × Int) : Le (F46 F t0 t1) (F46 F' t0 t1) := by
  unfold F46
  repeat' (first | (with_reducible exact Le.refl _) | refine F114_le h _ _ | refine Le.ite ?_ ?_ | refine Le.bind ?_ ?_ | refine Le.iter (fun _ => ?_) h | intro _ | split)
theorem F47_le {F F' : Nat} (h : F ≤ F') (t0 : Int × Int) (t1 : Int × Int) : Le (F47 F t0 t1) (F47 F' t0 t1) := by
  unfold F47
  repeat' (first | (with_reducible exact Le.refl _) | refine F114_le h _ _ | refine Le.ite ?_ ?_ | refine Le.bind ?_ ?_ | refine Le.iter (fun _ => ?_) h | intro _ | split)
theorem F53_l0_le {F F' : Nat} (h : F ≤ F') (t0 : (List Int) × (List Int)) (s8 : Int) : Le (F53_l0 F t0 s8) (F53_l0 F' t0 s8) := by
  unfold F53_l0
  repeat' (first | (with_reducible exact Le.refl _) | refine Le.ite ?_ ?_ | refine Le.bind ?_ ?_ | refine Le.iter (fun _ => ?_) h | intro _ | split)
theorem F53_le {F F' : Nat} (h : F ≤ F') (t0 : (List Int) × (List Int)) : Le (F53 F t0) (F53 F' t0) := by
  unfold F53
  repeat' (first | (with_reducible exact Le.refl _) | refine F53_l0_le h _ _ | refine Le.ite ?_ ?_ | refine Le.bind ?_ ?_ | refine Le.iter (fun _ => ?_) h | intro _ | split)
theorem F122_le {F F' : Nat} (h : F ≤ F') (t0 : Int) : Le (F122 F t0) (F122 F' t0) := by
  unfold F122
  repeat' (first | (with_reducible exact Le.refl _) | refine Le.ite ?_ ?_ | refine Le.bind ?_ ?_ | refine Le.iter (fun _ => ?_) h | intro _ | split)
theorem F121_122_l0_le {F F' : Nat} (h : F ≤ F') (t0 : (List Int) × (List Int)) (s5 : Int × Int) : Le (F121_122_l0 F t0 s5) (F121_122_l0 F' t0 s5) := by
  unfold F121_122_l0
  repeat' (first | (with_reducible exact Le.refl _) | refine F122_le h _ | refine Le.ite ?_ ?_ | refine Le.bind ?_ ?_ | refine Le.iter (fun _ => ?_) h | intro _ | split)
theorem F121_122_le {F F' : Nat} (h : F ≤ F') (t0 : (List Int) × (List Int)) : Le (F121_122 F t0) (F121_122 F' t0) := by
  unfold F121_122
  repeat' (first | (with_reducible exact Le.refl _) | refine F121_122_l0_le h _ _ | refine F122_le h _ | refine Le.ite ?_ ?_ | refine Le.bind ?_ ?_ | refine Le.iter (fun _ => ?_) h | intro _ | split)
theorem F123_le {F F' : Nat} (h : F ≤ F') (t0 : Int) : Le (F123 F t0) (F123 F' t0) := by
  unfold F123
  repeat' (first | (with_reducible exact Le.refl _) | refine Le.ite ?_ ?_ | refine Le.bind ?_ ?_ | refine Le.iter (fun _ => ?_) h | intro _ | split)
theorem F121_123_l0_le {F F' : Nat} (h : F ≤ F') (t0 : (List Int) × (List Int)) (s5 : Int × Int) : Le (F121_123_l0 F t0 s5) (F121_123_l0 F' t0 s5) := by
  unfold F121_123_l0
  repeat' (first | (with_reducible exact Le.refl _) | refine F123_le h _ | refine Le.ite ?_ ?_ | refine Le.bind ?_ ?_ | refine Le.iter (fun _ => ?_) h | intro _ | split)
theorem F121_123_le {F F' : Nat} (h : F ≤ F') (t0 : (List Int) × (List Int)) : Le (F121_123 F t0) (F121_123 F' t0) := by
  unfold F121_123
  repeat' (first | (with_reducible exact Le.refl _) | refine F121_123_l0_le h _ _ | refine F123_le h _ | refine Le.ite ?_ ?_ | refine Le.bind ?_ ?_ | refine Le.iter (fun _ => ?_) h | intro _ | split)
theorem F48_le {F F' : Nat} (h : F ≤ F') (t0 : (List Int) × (List Int)) : Le (F48 F t0) (F48 F' t0) := by
  unfold F48
  repeat' (first | (with_reducible exact Le.refl _) | refine F109_le h _ _ | refine F121_122_le h _ | refine F121_123_le h _ | refine F53_le h _ | refine Le.ite ?_ ?_ | refine Le.bind ?_ ?_ | refine Le.iter (fun _ => ?_) h | intro _ | split)
theorem F124_le {F F' : Nat} (h : F ≤ F') (t0 : Int) : Le (F124 F t0) (F124 F' t0) := by
  unfold F124
  repeat' (first | (with_reducible exact Le.refl _) | refine Le.ite ?_ ?_ | refine Le.bind ?_ ?_ | refine Le.iter (fun _ => ?_) h | intro _ | split)
theorem F121_124_l0_le {F F' : Nat} (h : F ≤ F') (t0 : (List Int) × (List Int)) (s5 : Int × Int) : Le (F121_124_l0 F t0 s5) (F121_124_l0 F' t0 s5) := by
  unfold F121_124_l0
  repeat' (first | (with_reducible exact Le.refl _) | refine F124_le h _ | refine Le.ite ?_ ?_ | refine Le.bind ?_ ?_ | refine Le.iter (fun _ => ?_) h | intro _ | split)
theorem F121_124_le {F F' : Nat} (h : F ≤ F') (t0 : (List Int) × (List Int)) : Le (F121_124 F t0) (F121_124 F' t0) := by
  unfold F121_124
  repeat' (first | (with_reducible exact Le.refl _) | refine F121_124_l0_le h _ _ | refine F124_le h _ | refine Le.ite ?_ ?_ | refine Le.bind ?_ ?_ | refine Le.iter (fun _ => ?_) h | intro _ | split)
theorem F125_le {F F' : Nat} (h : F ≤ F') (t0 : Int) : Le (F125 F t0) (F125 F' t0) := by
  unfold F125
  repeat' (first | (with_reducible exact Le.refl _) | refine Le.ite ?_ ?_ | refine Le.bind ?_ ?_ | refine Le.iter (fun _ => ?_) h | intro _ | split)
theorem F121_125_l0_le {F F' : Nat} (h : F ≤ F') (t0 : (List Int) × (List Int)) (s5 : Int × Int) : Le (F121_125_l0 F t0 s5) (F121_125_l0 F' t0 s5) := by
  unfold F121_125_l0
  repeat' (first | (with_reducible exact Le.refl _) | refine F125_le h _ | refine Le.ite ?_ ?_ | refine Le.bind ?_ ?_ | refine Le.iter (fun _ => ?_) h | intro _ | split)
theorem F121_125_le {F F' : Nat} (h : F ≤ F') (t0 : (List Int) × (List Int)) : Le (F121_125 F t0) (F121_125 F' t0) := by
  unfold F121_125
  repeat' (first | (with_reducible exact Le.refl _) | refine F121_125_l0_le h _ _ | refine F125_le h _ | refine Le.ite ?_ ?_ | refine Le.bind ?_ ?_ | refine Le.iter (fun _ => ?_) h | intro _ | split)
theorem F49_l0_le {F F' : Nat} (h : F ≤ F') (r16 : Int) (r20 : Int) (r24 : Int) (s28 : Int × Int × (Int × Int)) : Le (F49_l0 F r16 r20 r24 s28) (F49_l0 F' r16 r20 r24 s28) := by
  unfold F49_l0
  repeat' (first | (with_reducible exact Le.refl _) | refine F109_le h _ _ | refine F121_123_le h _ | refine F121_124_le h _ | refine F121_125_le h _ | refine F53_le h _ | refine Le.ite ?_ ?_ | refine Le.bind ?_ ?_ | refine Le.iter (fun _ => ?_) h | intro _ | split)
theorem F49_le {F F' : Nat} (h : F ≤ F') (t0 : (List Int) × (List Int)) : Le (F49 F t0) (F49 F' t0) := by
  unfold F49
  repeat' (first | (with_reducible exact Le.refl _) | refine F109_le h _ _ | refine F121_123_le h _ | refine F121_124_le h _ | refine F121_125_le h _ | refine F49_l0_le h _ _ _ _ | refine F53_le h _ | refine Le.ite ?_ ?_ | refine Le.bind ?_ ?_ | refine Le.iter (fun _ => ?_) h | intro _ | split)
theorem F126_le {F F' : Nat} (h : F ≤ F') (t0 : Int) (c0 : Int) : Le (F126 F t0 c0) (F126 F' t0 c0) := by
  unfold F126
  repeat' (first | (with_reducible exact Le.refl _) | refine Le.ite ?_ ?_ | refine Le.bind ?_ ?_ | refine Le.iter (fun _ => ?_) h | intro _ | split)
theorem F121_126_l0_le {F F' : Nat} (h : F ≤ F') (t0 : (List Int) × (List Int)) (t1c0 : Int) (s5 : Int × Int) : Le (F121_126_l0 F t0 t1c0 s5) (F121_126_l0 F' t0 t1c0 s5) := by
  unfold F121_126_l0
  repeat' (first | (with_reducible exact Le.refl _) | refine F126_le h _ _ | refine Le.ite ?_ ?_ | refine Le.bind ?_ ?_ | refine Le.iter (fun _ => ?_) h | intro _ | split)
theorem F121_126_le {F F' : Nat} (h : F ≤ F') (t0 : (List Int) × (List Int)) (t1c0 : Int) : Le (F121_126 F t0 t1c0) (F121_126 F' t0 t1c0) := by
  unfold F121_126
  repeat' (first | (with_reducible exact Le.refl _) | refine F121_126_l0_le h _ _ _ | refine F126_le h _ _ | refine Le.ite ?_ ?_ | refine Le.bind ?_ ?_ | refine Le.iter (fun _ => ?_) h | intro _ | split)
theorem F50_le {F F' : Nat} (h : F ≤ F') (t0 : (List Int) × (List Int)) (t1 : Int) : Le (F50 F t0 t1) (F50 F' t0 t1) := by
  unfold F50
  repeat' (first | (with_reducible exact Le.refl _) | refine F109_le h _ _ | refine F121_123_le h _ | refine F121_126_le h _ _ | refine F53_le h _ | refine Le.ite ?_ ?_ | refine Le.bind ?_ ?_ | refine Le.iter (fun _ => ?_) h | intro _ | split)
theorem F58_l0_le {F F' : Nat} (h : F ≤ F') (t0 : List (Int × Int × Bool × Bool)) (s3 : Int) : Le (F58_l0 F t0 s3) (F58_l0 F' t0 s3) := by
  unfold F58_l0
  repeat' (first | (with_reducible exact Le.refl _) | refine Le.ite ?_ ?_ | refine Le.bind ?_ ?_ | refine Le.iter (fun _ => ?_) h | intro _ | split)
theorem F58_l1_le {F F' : Nat} (h : F ≤ F') (t0 : List (Int × Int × Bool × Bool)) (t1 : List (Int × Int × Int)) (s28 : Int) : Le (F58_l1 F t0 t1 s28) (F58_l1 F' t0 t1 s28) := by
  unfold F58_l1
  repeat' (first | (with_reducible exact Le.refl _) | refine F58_l0_le h _ _ | refine Le.ite ?_ ?_ | refine Le.bind ?_ ?_ | refine Le.iter (fun _ => ?_) h | intro _ | split)
theorem F58_le {F F' : Nat} (h : F ≤ F') (t0 : List (Int × Int × Bool × Bool)) (t1 : List (Int × Int × Int)) : Le (F58 F t0 t1) (F58 F' t0 t1) := by
  unfold F58
  repeat' (first | (with_reducible exact Le.refl _) | refine F58_l0_le h _ _ | refine F58_l1_le h _ _ _ | refine Le.ite ?_ ?_ | refine Le.bind ?_ ?_ | refine Le.iter (fun _ => ?_) h | intro _ | split)
theorem F133_l0_le {F F' : Nat} (h : F ≤ F') (t0 : List Int) (s6 : Int × (List Bool)) : Le (F133_l0 F t0 s6) (F133_l0 F' t0 s6) := by
  unfold F133_l0
  repeat' (first | (with_reducible exact Le.refl _) | refine Le.ite ?_ ?_ | refine Le.bind ?_ ?_ | refine Le.iter (fun _ => ?_) h | intro _ | split)
theorem F133_le {F F' : Nat} (h : F ≤ F') (t0 : List Int) : Le (F133 F t0) (F133 F' t0) := by
  unfold F133
  repeat' (first | (with_reducible exact Le.refl _) | refine F133_l0_le h _ _ | refine Le.ite ?_ ?_ | refine Le.bind ?_ ?_ | refine Le.iter (fun _ => ?_) h | intro _ | split)
theorem F60_l0_le {F F' : Nat} (h : F ≤ F') (s12 : Int × (List Int)) (x18 : Int) (L20 : List Int) (s24 : Int × (List Int)) : Le (F60_l0 F s12 x18 L20 s24) (F60_l0 F' s12 x18 L20 s24) := by
  unfold F60_l0
  repeat' (first | (with_reducible exact Le.refl _) | refine F133_le h _ | refine Le.ite ?_ ?_ | refine Le.bind ?_ ?_ | refine Le.iter (fun _ => ?_) h | intro _ | split)
theorem F60_l1_le {F F' : Nat} (h : F ≤ F') (t0 : List Int) (s12 : Int × (List Int)) : Le (F60_l1 F t0 s12) (F60_l1 F' t0 s12) := by
  unfold F60_l1
  repeat' (first | (with_reducible exact Le.refl _) | refine F133_le h _ | refine F60_l0_le h _ _ _ _ | refine Le.ite ?_ ?_ | refine Le.bind ?_ ?_ | refine Le.iter (fun _ => ?_) h | intro _ | split)
theorem F60_le {F F' : Nat} (h : F ≤ F') (t0 : List Int) : Le (F60 F t0) (F60 F' t0) := by
  unfold F60
  repeat' (first | (with_reducible exact Le.refl _) | refine F133_le h _ | refine F60_l0_le h _ _ _ _ | refine F60_l1_le h _ _ | refine Le.ite ?_ ?_ | refine Le.bind ?_ ?_ | refine Le.iter (fun _ => ?_) h | intro _ | split)
theorem F61_l0_le {F F' : Nat} (h : F ≤ F') (r1 : (List Int) × Int) (s8 : Int × Int) : Le (F61_l0 F r1 s8) (F61_l0 F' r1 s8) := by
  unfold F61_l0
  repeat' (first | (with_reducible exact Le.refl _) | refine F60_le h _ | refine Le.ite ?_ ?_ | refine Le.bind ?_ ?_ | refine Le.iter (fun _ => ?_) h | intro _ | split)
theorem F61_le {F F' : Nat} (h : F ≤ F') (t0 : List Int) : Le (F61 F t0) (F61 F' t0) := by
  unfold F61
  repeat' (first | (with_reducible exact Le.refl _) | refine F60_le h _ | refine F61_l0_le h _ _ | refine Le.ite ?_ ?_ | refine Le.bind ?_ ?_ | refine Le.iter (fun _ => ?_) h | intro _ | split)
theorem F134_l0_le {F F' : Nat} (h : F ≤ F')  (s1 : Int × Int × (List Int)) : Le (F134_l0 F s1) (F134_l0 F' s1) := by
  unfold F134_l0
  repeat' (first | (with_reducible exact Le.refl _) | refine Le.ite ?_ ?_ | refine Le.bind ?_ ?_ | refine Le.iter (fun _ => ?_) h | intro _ | split)
theorem F134_le {F F' : Nat} (h : F ≤ F') (t0 : List Int) : Le (F134 F t0) (F134 F' t0) := by
  unfold F134
  repeat' (first | (with_reducible exact Le.refl _) | refine F134_l0_le h _ | refine Le.ite ?_ ?_ | refine Le.bind ?_ ?_ | refine Le.iter (fun _ => ?_) h | intro _ | split)
theorem F62_l0_le {F F' : Nat} (h : F ≤ F') (t0 : List Int) (s6 : Int) : Le (F62_l0 F t0 s6) (F62_l0 F' t0 s6) := by
  unfold F62_l0
  repeat' (first | (with_reducible exact Le.refl _) | refine F133_le h _ | refine F134_le h _ | refine F30_le h _ | refine Le.ite ?_ ?_ | refine Le.bind ?_ ?_ | refine Le.iter (fun _ => ?_) h | intro _ | split)
theorem F62_l1_le {F F' : Nat} (h : F ≤ F') (b19 : Int) (r24 : List Int) (s30 : Int) : Le (F62_l1 F b19 r24 s30) (F62_l1 F' b19 r24 s30) := by
  unfold F62_l1
  repeat' (first | (with_reducible exact Le.refl _) | refine F133_le h _ | refine F134_le h _ | refine F30_le h _ | refine F62_l0_le h _ _ | refine Le.ite ?_ ?_ | refine Le.bind ?_ ?_ | refine Le.iter (fun _ => ?_) h | intro _ | split)
theorem F62_le {F F' : Nat} (h : F ≤ F') (t0 : List Int) : Le (F62 F t0) (F62 F' t0) := by
  unfold F62
  repeat' (first | (with_reducible exact Le.refl _) | refine F133_le h _ | refine F134_le h _ | refine F30_le h _ | refine F62_l0_le h _ _ | refine F62_l1_le h _ _ _ | refine Le.ite ?_ ?_ | refine Le.bind ?_ ?_ | refine Le.iter (fun _ => ?_) h | intro _ | split)
theorem F135_l0_le {F F' : Nat} (h : F ≤ F') (t0 : Int) (s1 : Int × Int) : Le (F135_l0 F t0 s1) (F135_l0 F' t0 s1) := by
  unfold F135_l0
  repeat' (first | (with_reducible exact Le.refl _) | refine Le.ite ?_ ?_ | refine Le.bind ?_ ?_ | refine Le.iter (fun _ => ?_) h | intro _ | split)
theorem F135_le {F F' : Nat} (h : F ≤ F') (t0 : Int) : Le (F135 F t0) (F135 F' t0) := by
  unfold F135
  repeat' (first | (with_reducible exact Le.refl _) | refine F135_l0_le h _ _ | refine Le.ite ?_ ?_ | refine Le.bind ?_ ?_ | refine Le.iter (fun _ => ?_) h | intro _ | split)
theorem F63_le {F F' : Nat} (h : F ≤ F') (t0 : Int) : Le (F63 F t0) (F63 F' t0) := by
  unfold F63
  repeat' (first | (with_reducible exact Le.refl _) | refine F135_le h _ | refine Le.ite ?_ ?_ | refine Le.bind ?_ ?_ | refine Le.iter (fun _ => ?_) h | intro _ | split)
theorem F136_le {F F' : Nat} (h : F ≤ F') (t0 : (List Int)) (t1 : Int) (t2 : Int) : Le (F136 F t0 t1 t2) (F136 F' t0 t1 t2) := by
  unfold F136
  repeat' (first | (with_reducible exact Le.refl _) | refine Le.ite ?_ ?_ | refine Le.bind ?_ ?_ | refine Le.iter (fun _ => ?_) h | intro _ | split)
theorem F64_l0_le {F F' : Nat} (h : F ≤ F') (L8 : List Int) (s14 : Int × (List Int)) : Le (F64_l0 F L8 s14) (F64_l0 F' L8 s14) := by
  unfold F64_l0
  repeat' (first | (with_reducible exact Le.refl _) | refine F135_le h _ | refine F136_le h _ _ _ | refine F63_le h _ | refine Le.ite ?_ ?_ | refine Le.bind ?_ ?_ | refine Le.iter (fun _ => ?_) h | intro _ | split)
theorem F64_l1_le {F F' : Nat} (h : F ≤ F')  (s34 : Int × (List Int) × (List Int) × Int) : Le (F64_l1 F s34) (F64_l1 F' s34) := by
  unfold F64_l1
  repeat' (first | (with_reducible exact Le.refl _) | refine F135_le h _ | refine F136_le h _ _ _ | refine F63_le h _ | refine F64_l0_le h _ _ | refine Le.ite ?_ ?_ | refine Le.bind ?_ ?_ | refine Le.iter (fun _ => ?_) h | intro _ | split)
theorem F64_le {F F' : Nat} (h : F ≤ F') (t0 : Int) (t1 : Int) : Le (F64 F t0 t1) (F64 F' t0 t1) := by
  unfold F64
  repeat' (first | (with_reducible exact Le.refl _) | refine F135_le h _ | refine F136_le h _ _ _ | refine F63_le h _ | refine F64_l0_le h _ _ | refine F64_l1_le h _ | refine Le.ite ?_ ?_ | refine Le.bind ?_ ?_ | refine Le.iter (fun _ => ?_) h | intro _ | split)
theorem F66_l0_le {F F' : Nat} (h : F ≤ F') (t0 : List Int) (s2 : Int) : Le (F66_l0 F t0 s2) (F66_l0 F' t0 s2) := by
  unfold F66_l0
  repeat' (first | (with_reducible exact Le.refl _) | refine F117_le h _ _ | refine Le.ite ?_ ?_ | refine Le.bind ?_ ?_ | refine Le.iter (fun _ => ?_) h | intro _ | split)
theorem F66_le {F F' : Nat} (h : F ≤ F') (t0 : List Int) : Le (F66 F t0) (F66 F' t0) := by
  unfold F66
  repeat' (first | (with_reducible exact Le.refl _) | refine F117_le h _ _ | refine F66_l0_le h _ _ | refine Le.ite ?_ ?_ | refine Le.bind ?_ ?_ | refine Le.iter (fun _ => ?_) h | intro _ | split)
theorem F67_l0_le {F F' : Nat} (h : F ≤ F') (t0 : List Int) (L2 : List Int) (s6 : (List Int) × Int) : Le (F67_l0 F t0 L2 s6) (F67_l0 F' t0 L2 s6) := by
  unfold F67_l0
  repeat' (first | (with_reducible exact Le.refl _) | refine F65_le h _ | refine Le.ite ?_ ?_ | refine Le.bind ?_ ?_ | refine Le.iter (fun _ => ?_) h | intro _ | split)
theorem F67_le {F F' : Nat} (h : F ≤ F') (x0 : (List Int)) : Le (F67 F x0) (F67 F' x0) := by
  induction F generalizing F' x0 with
  | zero => exact ⟨fun _ h => by cases h⟩
  | succ F ih =>
    cases F' with
    | zero => omega
    | succ F' =>
      rw [F67, F67]
      try dsimp only
      repeat' (first | (with_reducible exact Le.refl _) | refine F65_le (Nat.le_of_succ_le_succ h) _ | refine F67_l0_le (Nat.le_of_succ_le_succ h) _ _ _ | refine ih (Nat.le_of_succ_le_succ h) _ | refine Le.ite ?_ ?_ | refine Le.bind ?_ ?_ | refine Le.iter (fun _ => ?_) (Nat.le_of_succ_le_succ h) | (dsimp only; done) | intro _ | split)
theorem F71_l0_le {F F' : Nat} (h : F ≤ F') (t0 : List Int) (s3 : Int × Int) : Le (F71_l0 F t0 s3) (F71_l0 F' t0 s3) := by
  unfold F71_l0
  repeat' (first | (with_reducible exact Le.refl _) | refine Le.ite ?_ ?_ | refine Le.bind ?_ ?_ | refine Le.iter (fun _ => ?_) h | intro _ | split)
theorem F71_le {F F' : Nat} (h : F ≤ F') (t0 : List Int) (t1 : Int) : Le (F71 F t0 t1) (F71 F' t0 t1) := by
  unfold F71
  repeat' (first | (with_reducible exact Le.refl _) | refine F71_l0_le h _ _ | refine Le.ite ?_ ?_ | refine Le.bind ?_ ?_ | refine Le.iter (fun _ => ?_) h | intro _ | split)
theorem F68_l0_le {F F' : Nat} (h : F ≤ F') (s31 : Int × (Int × Int) × (List Int) × (Int × Int)) (s45 : Int × Int) : Le (F68_l0 F s31 s45) (F68_l0 F' s31 s45) := by
  unfold F68_l0
  repeat' (first | (with_reducible exact Le.refl _) | refine F109_le h _ _ | refine F119_le h _ _ | refine F71_le h _ _ | refine Le.ite ?_ ?_ | refine Le.bind ?_ ?_ | refine Le.iter (fun _ => ?_) h | intro _ | split)
theorem F68_l1_le {F F' : Nat} (h : F ≤ F') (t1 : Int) (t2 : List Int) (s31 : Int × (Int × Int) × (List Int) × (Int × Int)) : Le (F68_l1 F t1 t2 s31) (F68_l1 F' t1 t2 s31) := by
  unfold F68_l1
  repeat' (first | (with_reducible exact Le.refl _) | refine F109_le h _ _ | refine F119_le h _ _ | refine F68_l0_le h _ _ | refine F71_le h _ _ | refine Le.ite ?_ ?_ | refine Le.bind ?_ ?_ | refine Le.iter (fun _ => ?_) h | intro _ | split)
theorem F68_le {F F' : Nat} (h : F ≤ F') (t0 : List Int) (t1 : Int) (t2 : List Int) : Le (F68 F t0 t1 t2) (F68 F' t0 t1 t2) := by
  unfold F68
  repeat' (first | (with_reducible exact Le.refl _) | refine F109_le h _ _ | refine F119_le h _ _ | refine F68_l0_le h _ _ | refine F68_l1_le h _ _ _ | refine F71_le h _ _ | refine Le.ite ?_ ?_ | refine Le.bind ?_ ?_ | refine Le.iter (fun _ => ?_) h | intro _ | split)
theorem F69_l0_le {F F' : Nat} (h : F ≤ F') (t1 : Int) (t2 : List Int) (s17 : Int × (List Int)) : Le (F69_l0 F t1 t2 s17) (F69_l0 F' t1 t2 s17) := by
  unfold F69_l0
  repeat' (first | (with_reducible exact Le.refl _) | refine F71_le h _ _ | refine Le.ite ?_ ?_ | refine Le.bind ?_ ?_ | refine Le.iter (fun _ => ?_) h | intro _ | split)
theorem F69_le {F F' : Nat} (h : F ≤ F') (t0 : List Int) (t1 : Int) (t2 : List Int) : Le (F69 F t0 t1 t2) (F69 F' t0 t1 t2) := by
  unfold F69
  repeat' (first | (with_reducible exact Le.refl _) | refine F69_l0_le h _ _ _ | refine F71_le h _ _ | refine Le.ite ?_ ?_ | refine Le.bind ?_ ?_ | refine Le.iter (fun _ => ?_) h | intro _ | split)
theorem F137_le {F F' : Nat} (h : F ≤ F') (t0 : Int) : Le (F137 F t0) (F137 F' t0) := by
  unfold F137
  repeat' (first | (with_reducible exact Le.refl _) | refine Le.ite ?_ ?_ | refine Le.bind ?_ ?_ | refine Le.iter (fun _ => ?_) h | intro _ | split)
theorem F155_137_l0_le {F F' : Nat} (h : F ≤ F') (t0 : List Int) (s1 : Int) : Le (F155_137_l0 F t0 s1) (F155_137_l0 F' t0 s1) := by
  unfold F155_137_l0
  repeat' (first | (with_reducible exact Le.refl _) | refine F137_le h _ | refine Le.ite ?_ ?_ | refine Le.bind ?_ ?_ | refine Le.iter (fun _ => ?_) h | intro _ | split)
theorem F155_137_le {F F' : Nat} (h : F ≤ F') (t0 : List Int) : Le (F155_137 F t0) (F155_137 F' t0) := by
  unfold F155_137
  repeat' (first | (with_reducible exact Le.refl _) | refine F137_le h _ | refine F155_137_l0_le h _ _ | refine Le.ite ?_ ?_ | refine Le.bind ?_ ?_ | refine Le.iter (fun _ => ?_) h | intro _ | split)
theorem F96_137_le {F F' : Nat} (h : F ≤ F') (t0 : List Int) : Le (F96_137 F t0) (F96_137 F' t0) := by
  unfold F96_137
  repeat' (first | (with_reducible exact Le.refl _) | refine F155_137_le h _ | refine Le.ite ?_ ?_ | refine Le.bind ?_ ?_ | refine Le.iter (fun _ => ?_) h | intro _ | split)
theorem F70_le {F F' : Nat} (h : F ≤ F') (t0 : List Int) (t1 : Int) : Le (F70 F t0 t1) (F70 F' t0 t1) := by
  unfold F70
  repeat' (first | (with_reducible exact Le.refl _) | refine F95_le h _ | refine F96_137_le h _ | refine Le.ite ?_ ?_ | refine Le.bind ?_ ?_ | refine Le.iter (fun _ => ?_) h | intro _ | split)
theorem F72_l0_le {F F' : Nat} (h : F ≤ F') (t0 : List Int) (s5 : Int × Int) : Le (F72_l0 F t0 s5) (F72_l0 F' t0 s5) := by
  unfold F72_l0
  repeat' (first | (with_reducible exact Le.refl _) | refine F21_le h _ _ | refine F46_le h _ _ | refine Le.ite ?_ ?_ | refine Le.bind ?_ ?_ | refine Le.iter (fun _ => ?_) h | intro _ | split)
theorem F72_l1_le {F F' : Nat} (h : F ≤ F') (x31 : Int) (L37 : List Int) (s41 : Int × Int) : Le (F72_l1 F x31 L37 s41) (F72_l1 F' x31 L37 s41) := by
  unfold F72_l1
  repeat' (first | (with_reducible exact Le.refl _) | refine F21_le h _ _ | refine F46_le h _ _ | refine F72_l0_le h _ _ | refine Le.ite ?_ ?_ | refine Le.bind ?_ ?_ | refine Le.iter (fun _ => ?_) h | intro _ | split)
theorem F72_l2_le {F F' : Nat} (h : F ≤ F') (t0 : List Int) (t1 : Int) (t2 : List Int) (b13 : Int) (s23 : Int × (Int × Int) × (Int × Int)) : Le (F72_l2 F t0 t1 t2 b13 s23) (F72_l2 F' t0 t1 t2 b13 s23) := by
  unfold F72_l2
  repeat' (first | (with_reducible exact Le.refl _) | refine F21_le h _ _ | refine F46_le h _ _ | refine F72_l0_le h _ _ | refine F72_l1_le h _ _ _ | refine Le.ite ?_ ?_ | refine Le.bind ?_ ?_ | refine Le.iter (fun _ => ?_) h | intro _ | split)
theorem F72_le {F F' : Nat} (h : F ≤ F') (t0 : List Int) (t1 : Int) (t2 : List Int) : Le (F72 F t0 t1 t2) (F72 F' t0 t1 t2) := by
  unfold F72
  repeat' (first | (with_reducible exact Le.refl _) | refine F21_le h _ _ | refine F46_le h _ _ | refine F72_l0_le h _ _ | refine F72_l1_le h _ _ _ | refine F72_l2_le h _ _ _ _ _ | refine Le.ite ?_ ?_ | refine Le.bind ?_ ?_ | refine Le.iter (fun _ => ?_) h | intro _ | split)
theorem F77_l0_le {F F' : Nat} (h : F ≤ F') (t0 : List Int) (s2 : Int) : Le (F77_l0 F t0 s2) (F77_l0 F' t0 s2) := by
  unfold F77_l0
  repeat' (first | (with_reducible exact Le.refl _) | refine Le.ite ?_ ?_ | refine Le.bind ?_ ?_ | refine Le.iter (fun _ => ?_) h | intro _ | split)
theorem F77_le {F F' : Nat} (h : F ≤ F') (t0 : List Int) : Le (F77 F t0) (F77 F' t0) := by
  unfold F77
  repeat' (first | (with_reducible exact Le.refl _) | refine F77_l0_le h _ _ | refine Le.ite ?_ ?_ | refine Le.bind ?_ ?_ | refine Le.iter (fun _ => ?_) h | intro _ | split)
theorem F73_l0_le {F F' : Nat} (h : F ≤ F') (t0 : List Int) (s12 : Int × (List Int)) : Le (F73_l0 F t0 s12) (F73_l0 F' t0 s12) := by
  unfold F73_l0
  repeat' (first | (with_reducible exact Le.refl _) | refine F77_le h _ | refine Le.ite ?_ ?_ | refine Le.bind ?_ ?_ | refine Le.iter (fun _ => ?_) h | intro _ | split)
theorem F73_le {F F' : Nat} (h : F ≤ F') (t0 : List Int) : Le (F73 F t0) (F73 F' t0) := by
  unfold F73
  repeat' (first | (with_reducible exact Le.refl _) | refine F73_l0_le h _ _ | refine F77_le h _ | refine Le.ite ?_ ?_ | refine Le.bind ?_ ?_ | refine Le.iter (fun _ => ?_) h | intro _ | split)
theorem F74_l0_le {F F' : Nat} (h : F ≤ F') (s20 : Int × (List Int) × (List Int)) (L26 : List Int) (s30 : Int × (List Int)) : Le (F74_l0 F s20 L26 s30) (F74_l0 F' s20 L26 s30) := by
  unfold F74_l0
  repeat' (first | (with_reducible exact Le.refl _) | refine F133_le h _ | refine Le.ite ?_ ?_ | refine Le.bind ?_ ?_ | refine Le.iter (fun _ => ?_) h | intro _ | split)
theorem F74_l1_le {F F' : Nat} (h : F ≤ F')  (s20 : Int × (List Int) × (List Int)) : Le (F74_l1 F s20) (F74_l1 F' s20) := by
  unfold F74_l1
  repeat' (first | (with_reducible exact Le.refl _) | refine F133_le h _ | refine F74_l0_le h _ _ _ | refine Le.ite ?_ ?_ | refine Le.bind ?_ ?_ | refine Le.iter (fun _ => ?_) h | intro _ | split)
theorem F74_le {F F' : Nat} (h : F ≤ F') (t0 : List Int) : Le (F74 F t0) (F74 F' t0) := by
  unfold F74
  repeat' (first | (with_reducible exact Le.refl _) | refine F133_le h _ | refine F74_l0_le h _ _ _ | refine F74_l1_le h _ | refine Le.ite ?_ ?_ | refine Le.bind ?_ ?_ | refine Le.iter (fun _ => ?_) h | intro _ | split)
theorem F138_l0_le {F F' : Nat} (h : F ≤ F') (t0 : List Int) (s2 : Int) : Le (F138_l0 F t0 s2) (F138_l0 F' t0 s2) := by
  unfold F138_l0
  repeat' (first | (with_reducible exact Le.refl _) | refine Le.ite ?_ ?_ | refine Le.bind ?_ ?_ | refine Le.iter (fun _ => ?_) h | intro _ | split)
theorem F138_le {F F' : Nat} (h : F ≤ F') (t0 : List Int) : Le (F138 F t0) (F138 F' t0) := by
  unfold F138
  repeat' (first | (with_reducible exact Le.refl _) | refine F138_l0_le h _ _ | refine Le.ite ?_ ?_ | refine Le.bind ?_ ?_ | refine Le.iter (fun _ => ?_) h | intro _ | split)
theorem F181_l0_le {F F' : Nat} (h : F ≤ F') (t0 : Int) (s3 : Int) : Le (F181_l0 F t0 s3) (F181_l0 F' t0 s3) := by
  unfold F181_l0
  repeat' (first | (with_reducible exact Le.refl _) | refine Le.ite ?_ ?_ | refine Le.bind ?_ ?_ | refine Le.iter (fun _ => ?_) h | intro _ | split)
theorem F181_le {F F' : Nat} (h : F ≤ F') (t0 : Int) : Le (F181 F t0) (F181 F' t0) := by
  unfold F181
  repeat' (first | (with_reducible exact Le.refl _) | refine F181_l0_le h _ _ | refine Le.ite ?_ ?_ | refine Le.bind ?_ ?_ | refine Le.iter (fun _ => ?_) h | intro _ | split)
theorem F163_l0_le {F F' : Nat} (h : F ≤ F') (L19 : List Int) (s23 : Int × Int) : Le (F163_l0 F L19 s23) (F163_l0 F' L19 s23) := by
  unfold F163_l0
  repeat' (first | (with_reducible exact Le.refl _) | refine F138_le h _ | refine F181_le h _ | refine Le.ite ?_ ?_ | refine Le.bind ?_ ?_ | refine Le.iter (fun _ => ?_) h | intro _ | split)
theorem F163_l1_le {F F' : Nat} (h : F ≤ F') (t0 : List Int) (t1 : Int) (r6 : Int × Int) (s11 : Int) : Le (F163_l1 F t0 t1 r6 s11) (F163_l1 F' t0 t1 r6 s11) := by
  unfold F163_l1
  repeat' (first | (with_reducible exact Le.refl _) | refine F138_le h _ | refine F163_l0_le h _ _ | refine F181_le h _ | refine Le.ite ?_ ?_ | refine Le.bind ?_ ?_ | refine Le.iter (fun _ => ?_) h | intro _ | split)
theorem F163_le {F F' : Nat} (h : F ≤ F') (t0 : List Int) (t1 : Int) : Le (F163 F t0 t1) (F163 F' t0 t1) := by
  unfold F163
  repeat' (first | (with_reducible exact Le.refl _) | refine F138_le h _ | refine F163_l0_le h _ _ | refine F163_l1_le h _ _ _ _ | refine F181_le h _ | refine Le.ite ?_ ?_ | refine Le.bind ?_ ?_ | refine Le.iter (fun _ => ?_) h | intro _ | split)
theorem F139_l0_le {F F' : Nat} (h : F ≤ F') (t0 : List Int) (t1 : List Int) (s7 : (List Int) × Int × Int) : Le (F139_l0 F t0 t1 s7) (F139_l0 F' t0 t1 s7) := by
  unfold F139_l0
  repeat' (first | (with_reducible exact Le.refl _) | refine F138_le h _ | refine F163_le h _ _ | refine Le.ite ?_ ?_ | refine Le.bind ?_ ?_ | refine Le.iter (fun _ => ?_) h | intro _ | split)
theorem F139_le {F F' : Nat} (h : F ≤ F') (t0 : List Int) (t1 : List Int) : Le (F139 F t0 t1) (F139 F' t0 t1) := by
  unfold F139
  repeat' (first | (with_reducible exact Le.refl _) | refine F138_le h _ | refine F139_l0_le h _ _ _ | refine F163_le h _ _ | refine Le.ite ?_ ?_ | refine Le.bind ?_ ?_ | refine Le.iter (fun _ => ?_) h | intro _ | split)
theorem F75_l0_le {F F' : Nat} (h : F ≤ F') (t1 : Int) (s8 : (List Int) × Int) : Le (F75_l0 F t1 s8) (F75_l0 F' t1 s8) := by
  unfold F75_l0
  repeat' (first | (with_reducible exact Le.refl _) | refine F138_le h _ | refine F139_le h _ _ | refine F73_le h _ | refine Le.ite ?_ ?_ | refine Le.bind ?_ ?_ | refine Le.iter (fun _ => ?_) h | intro _ | split)
theorem F75_le {F F' : Nat} (h : F ≤ F') (t0 : List Int) (t1 : Int) : Le (F75 F t0 t1) (F75 F' t0 t1) := by
  unfold F75
  repeat' (first | (with_reducible exact Le.refl _) | refine F138_le h _ | refine F139_le h _ _ | refine F73_le h _ | refine F75_l0_le h _ _ | refine Le.ite ?_ ?_ | refine Le.bind ?_ ?_ | refine Le.iter (fun _ => ?_) h | intro _ | split)
theorem F76_l0_le {F F' : Nat} (h : F ≤ F') (t0 : List Int) (s2 : Int) : Le (F76_l0 F t0 s2) (F76_l0 F' t0 s2) := by
  unfold F76_l0
  repeat' (first | (with_reducible exact Le.refl _) | refine Le.ite ?_ ?_ | refine Le.bind ?_ ?_ | refine Le.iter (fun _ => ?_) h | intro _ | split)
theorem F76_le {F F' : Nat} (h : F ≤ F') (t0 : List Int) : Le (F76 F t0) (F76 F' t0) := by
  unfold F76
  repeat' (first | (with_reducible exact Le.refl _) | refine F76_l0_le h _ _ | refine Le.ite ?_ ?_ | refine Le.bind ?_ ?_ | refine Le.iter (fun _ => ?_) h | intro _ | split)
theorem F78_l0_le {F F' : Nat} (h : F ≤ F') (t0 : List Int) (s1 : (List Int) × Int) : Le (F78_l0 F t0 s1) (F78_l0 F' t0 s1) := by
  unfold F78_l0
  repeat' (first | (with_reducible exact Le.refl _) | refine Le.ite ?_ ?_ | refine Le.bind ?_ ?_ | refine Le.iter (fun _ => ?_) h | intro _ | split)
theorem F78_le {F F' : Nat} (h : F ≤ F') (t0 : List Int) : Le (F78 F t0) (F78 F' t0) := by
  unfold F78
  repeat' (first | (with_reducible exact Le.refl _) | refine F78_l0_le h _ _ | refine Le.ite ?_ ?_ | refine Le.bind ?_ ?_ | refine Le.iter (fun _ => ?_) h | intro _ | split)
theorem F141_le {F F' : Nat} (h : F ≤ F') (t0 : Int) : Le (F141 F t0) (F141 F' t0) := by
  unfold F141
  repeat' (first | (with_reducible exact Le.refl _) | refine Le.ite ?_ ?_ | refine Le.bind ?_ ?_ | refine Le.iter (fun _ => ?_) h | intro _ | split)
theorem F164_141_l0_le {F F' : Nat} (h : F ≤ F') (t0 : List Int) (s1 : Int) : Le (F164_141_l0 F t0 s1) (F164_141_l0 F' t0 s1) := by
  unfold F164_141_l0
  repeat' (first | (with_reducible exact Le.refl _) | refine F141_le h _ | refine Le.ite ?_ ?_ | refine Le.bind ?_ ?_ | refine Le.iter (fun _ => ?_) h | intro _ | split)
theorem F164_141_le {F F' : Nat} (h : F ≤ F') (t0 : List Int) : Le (F164_141 F t0) (F164_141 F' t0) := by
  unfold F164_141
  repeat' (first | (with_reducible exact Le.refl _) | refine F141_le h _ | refine F164_141_l0_le h _ _ | refine Le.ite ?_ ?_ | refine Le.bind ?_ ?_ | refine Le.iter (fun _ => ?_) h | intro _ | split)
theorem F140_141_le {F F' : Nat} (h : F ≤ F') (t0 : List Int) : Le (F140_141 F t0) (F140_141 F' t0) := by
  unfold F140_141
  repeat' (first | (with_reducible exact Le.refl _) | refine F164_141_le h _ | refine Le.ite ?_ ?_ | refine Le.bind ?_ ?_ | refine Le.iter (fun _ => ?_) h | intro _ | split)
theorem F79_le {F F' : Nat} (h : F ≤ F') (t0 : List Int) : Le (F79 F t0) (F79 F' t0) := by
  unfold F79
  repeat' (first | (with_reducible exact Le.refl _) | refine F140_141_le h _ | refine Le.ite ?_ ?_ | refine Le.bind ?_ ?_ | refine Le.iter (fun _ => ?_) h | intro _ | split)
theorem F165_le {F F' : Nat} (h : F ≤ F') (x0 : Int) : Le (F165 F x0) (F165 F' x0) := by
  induction F generalizing F' x0 with
  | zero => exact ⟨fun _ h => by cases h⟩
  | succ F ih =>
    cases F' with
    | zero => omega
    | succ F' =>
      rw [F165, F165]
      try dsimp only
      repeat' (first | (with_reducible exact Le.refl _) | refine ih (Nat.le_of_succ_le_succ h) _ | refine Le.ite ?_ ?_ | refine Le.bind ?_ ?_ | refine Le.iter (fun _ => ?_) (Nat.le_of_succ_le_succ h) | (dsimp only; done) | intro _ | split)
theorem F142_l0_le {F F' : Nat} (h : F ≤ F') (r3 : Int) (L8 : List Int) (s12 : Int × Int) : Le (F142_l0 F r3 L8 s12) (F142_l0 F' r3 L8 s12) := by
  unfold F142_l0
  repeat' (first | (with_reducible exact Le.refl _) | refine F165_le h _ | refine Le.ite ?_ ?_ | refine Le.bind ?_ ?_ | refine Le.iter (fun _ => ?_) h | intro _ | split)
theorem F142_le {F F' : Nat} (h : F ≤ F') (x0 : (List Int)) (x1 : Int) : Le (F142 F x0 x1) (F142 F' x0 x1) := by
  induction F generalizing F' x0 x1 with
  | zero => exact ⟨fun _ h => by cases h⟩
  | succ F ih =>
    cases F' with
    | zero => omega
    | succ F' =>
      rw [F142, F142]
      try dsimp only
      repeat' (first | (with_reducible exact Le.refl _) | refine F142_l0_le (Nat.le_of_succ_le_succ h) _ _ _ | refine F165_le (Nat.le_of_succ_le_succ h) _ | refine ih (Nat.le_of_succ_le_succ h) _ _ | refine Le.ite ?_ ?_ | refine Le.bind ?_ ?_ | refine Le.iter (fun _ => ?_) (Nat.le_of_succ_le_succ h) | (dsimp only; done) | intro _ | split)
theorem F80_l0_le {F F' : Nat} (h : F ≤ F') (t0 : List Int) (t1 : List Int) (s1 : (List Int) × Int × Int) : Le (F80_l0 F t0 t1 s1) (F80_l0 F' t0 t1 s1) := by
  unfold F80_l0
  repeat' (first | (with_reducible exact Le.refl _) | refine F142_le h _ _ | refine Le.ite ?_ ?_ | refine Le.bind ?_ ?_ | refine Le.iter (fun _ => ?_) h | intro _ | split)
theorem F80_le {F F' : Nat} (h : F ≤ F') (t0 : List Int) (t1 : List Int) : Le (F80 F t0 t1) (F80 F' t0 t1) := by
  unfold F80
  repeat' (first | (with_reducible exact Le.refl _) | refine F142_le h _ _ | refine F80_l0_le h _ _ _ | refine Le.ite ?_ ?_ | refine Le.bind ?_ ?_ | refine Le.iter (fun _ => ?_) h | intro _ | split)
theorem F93_l0_le {F F' : Nat} (h : F ≤ F') (L11 : List Int) (s16 : Int) : Le (F93_l0 F L11 s16) (F93_l0 F' L11 s16) := by
  unfold F93_l0
  repeat' (first | (with_reducible exact Le.refl _) | refine Le.ite ?_ ?_ | refine Le.bind ?_ ?_ | refine Le.iter (fun _ => ?_) h | intro _ | split)
theorem F93_l1_le {F F' : Nat} (h : F ≤ F') (t0 : List (List Int)) (s3 : Int) : Le (F93_l1 F t0 s3) (F93_l1 F' t0 s3) := by
  unfold F93_l1
  repeat' (first | (with_reducible exact Le.refl _) | refine F93_l0_le h _ _ | refine Le.ite ?_ ?_ | refine Le.bind ?_ ?_ | refine Le.iter (fun _ => ?_) h | intro _ | split)
theorem F93_le {F F' : Nat} (h : F ≤ F') (t0 : List (List Int)) : Le (F93 F t0) (F93 F' t0) := by
  unfold F93
  repeat' (first | (with_reducible exact Le.refl _) | refine F93_l0_le h _ _ | refine F93_l1_le h _ _ | refine Le.ite ?_ ?_ | refine Le.bind ?_ ?_ | refine Le.iter (fun _ => ?_) h | intro _ | split)
theorem F151_l0_le {F F' : Nat} (h : F ≤ F') (t0 : List Int) (s1 : Int × Int) : Le (F151_l0 F t0 s1) (F151_l0 F' t0 s1) := by
  unfold F151_l0
  repeat' (first | (with_reducible exact Le.refl _) | refine Le.ite ?_ ?_ | refine Le.bind ?_ ?_ | refine Le.iter (fun _ => ?_) h | intro _ | split)
theorem F151_le {F F' : Nat} (h : F ≤ F') (t0 : List Int) : Le (F151 F t0) (F151 F' t0) := by
  unfold F151
  repeat' (first | (with_reducible exact Le.refl _) | refine F151_l0_le h _ _ | refine Le.ite ?_ ?_ | refine Le.bind ?_ ?_ | refine Le.iter (fun _ => ?_) h | intro _ | split)
theorem F89_l0_le {F F' : Nat} (h : F ≤ F') (t1 : List (Int × Int)) (s7 : Int) : Le (F89_l0 F t1 s7) (F89_l0 F' t1 s7) := by
  unfold F89_l0
  repeat' (first | (with_reducible exact Le.refl _) | refine F109_le h _ _ | refine F119_le h _ _ | refine F120_le h _ _ | refine F150_le h _ | refine F151_le h _ | refine F93_le h _ | refine Le.ite ?_ ?_ | refine Le.bind ?_ ?_ | refine Le.iter (fun _ => ?_) h | intro _ | split)
theorem F89_l1_le {F F' : Nat} (h : F ≤ F') (L34 : List (Int × Int)) (s40 : Int × (List (Int × Int))) : Le (F89_l1 F L34 s40) (F89_l1 F' L34 s40) := by
  unfold F89_l1
  repeat' (first | (with_reducible exact Le.refl _) | refine F109_le h _ _ | refine F119_le h _ _ | refine F120_le h _ _ | refine F150_le h _ | refine F151_le h _ | refine F89_l0_le h _ _ | refine F93_le h _ | refine Le.ite ?_ ?_ | refine Le.bind ?_ ?_ | refine Le.iter (fun _ => ?_) h | intro _ | split)
theorem F89_l2_le {F F' : Nat} (h : F ≤ F') (t1 : List (Int × Int)) (s54 : Int × (List (Int × Int))) (L63 : List Int) (r67 : Int) (s71 : Int × (List (Int × Int))) : Le (F89_l2 F t1 s54 L63 r67 s71) (F89_l2 F' t1 s54 L63 r67 s71) := by
  unfold F89_l2
  repeat' (first | (with_reducible exact Le.refl _) | refine F109_le h _ _ | refine F119_le h _ _ | refine F120_le h _ _ | refine F150_le h _ | refine F151_le h _ | refine F89_l0_le h _ _ | refine F89_l1_le h _ _ | refine F93_le h _ | refine Le.ite ?_ ?_ | refine Le.bind ?_ ?_ | refine Le.iter (fun _ => ?_) h | intro _ | split)
theorem F89_l3_le {F F' : Nat} (h : F ≤ F') (t0 : List (List Int)) (t1 : List (Int × Int)) (s54 : Int × (List (Int × Int))) : Le (F89_l3 F t0 t1 s54) (F89_l3 F' t0 t1 s54) := by
  unfold F89_l3
  repeat' (first | (with_reducible exact Le.refl _) | refine F109_le h _ _ | refine F119_le h _ _ | refine F120_le h _ _ | refine F150_le h _ | refine F151_le h _ | refine F89_l0_le h _ _ | refine F89_l1_le h _ _ | refine F89_l2_le h _ _ _ _ _ | refine F93_le h _ | refine Le.ite ?_ ?_ | refine Le.bind ?_ ?_ | refine Le.iter (fun _ => ?_) h | intro _ | split)
theorem F89_le {F F' : Nat} (h : F ≤ F') (t0 : List (List Int)) (t1 : List (Int × Int)) : Le (F89 F t0 t1) (F89 F' t0 t1) := by
  unfold F89
  repeat' (first | (with_reducible exact Le.refl _) | refine F109_le h _ _ | refine F119_le h _ _ | refine F120_le h _ _ | refine F150_le h _ | refine F151_le h _ | refine F89_l0_le h _ _ | refine F89_l1_le h _ _ | refine F89_l2_le h _ _ _ _ _ | refine F89_l3_le h _ _ _ | refine F93_le h _ | refine Le.ite ?_ ?_ | refine Le.bind ?_ ?_ | refine Le.iter (fun _ => ?_) h | intro _ | split)
theorem F170_l0_le {F F' : Nat} (h : F ≤ F') (c0 : Int) (c1 : Int) (c2 : (List Int)) (s11 : Int × Int) : Le (F170_l0 F c0 c1 c2 s11) (F170_l0 F' c0 c1 c2 s11) := by
  unfold F170_l0
  repeat' (first | (with_reducible exact Le.refl _) | refine Le.ite ?_ ?_ | refine Le.bind ?_ ?_ | refine Le.iter (fun _ => ?_) h | intro _ | split)
theorem F170_l1_le {F F' : Nat} (h : F ≤ F') (c0 : Int) (c1 : Int) (c2 : (List Int)) (s3 : Int) : Le (F170_l1 F c0 c1 c2 s3) (F170_l1 F' c0 c1 c2 s3) := by
  unfold F170_l1
  repeat' (first | (with_reducible exact Le.refl _) | refine F170_l0_le h _ _ _ _ | refine Le.ite ?_ ?_ | refine Le.bind ?_ ?_ | refine Le.iter (fun _ => ?_) h | intro _ | split)
theorem F170_l2_le {F F' : Nat} (h : F ≤ F') (t0 : Int) (t1 : Int) (c0 : Int) (c1 : Int) (c5 : List (List Int)) {frec frec' : Int → Int → Int → Int → ((List Int)) → Int → (List (List Int)) → Option (((List Int)) × Int)} (hf : ∀ x0 x1 x2 x3 x4 x5 x6, Le (frec x0 x1 x2 x3 x4 x5 x6) (frec' x0 x1 x2 x3 x4 x5 x6)) (s44 : Int × (List Int) × Int) : Le (F170_l2 F t0 t1 c0 c1 c5 frec s44) (F170_l2 F' t0 t1 c0 c1 c5 frec' s44) := by
  unfold F170_l2
  repeat' (first | (with_reducible exact Le.refl _) | refine F170_l0_le h _ _ _ _ | refine F170_l1_le h _ _ _ _ | refine hf _ _ _ _ _ _ _ | refine Le.ite ?_ ?_ | refine Le.bind ?_ ?_ | refine Le.iter (fun _ => ?_) h | intro _ | split)
theorem F170_le {F F' : Nat} (h : F ≤ F') (x0 : Int) (x1 : Int) (x2 : Int) (x3 : Int) (x4 : ((List Int))) (x5 : Int) (x6 : (List (List Int))) : Le (F170 F x0 x1 x2 x3 x4 x5 x6) (F170 F' x0 x1 x2 x3 x4 x5 x6) := by
  induction F generalizing F' x0 x1 x2 x3 x4 x5 x6 with
  | zero => exact ⟨fun _ h => by cases h⟩
  | succ F ih =>
    cases F' with
    | zero => omega
    | succ F' =>
      rw [F170, F170]
      try dsimp only
      repeat' (first | (with_reducible exact Le.refl _) | refine F170_l0_le (Nat.le_of_succ_le_succ h) _ _ _ _ | refine F170_l1_le (Nat.le_of_succ_le_succ h) _ _ _ _ | refine F170_l2_le (Nat.le_of_succ_le_succ h) _ _ _ _ _ ?_ _ | refine ih (Nat.le_of_succ_le_succ h) _ _ _ _ _ _ _ | refine Le.ite ?_ ?_ | refine Le.bind ?_ ?_ | refine Le.iter (fun _ => ?_) (Nat.le_of_succ_le_succ h) | (dsimp only; done) | intro _ | split)
theorem F152_le {F F' : Nat} (h : F ≤ F') (t0 : List (List Int)) (t1 : Int) : Le (F152 F t0 t1) (F152 F' t0 t1) := by
  unfold F152
  repeat' (first | (with_reducible exact Le.refl _) | refine F170_le h _ _ _ _ _ _ _ | refine Le.ite ?_ ?_ | refine Le.bind ?_ ?_ | refine Le.iter (fun _ => ?_) h | intro _ | split)
theorem F90_l0_le {F F' : Nat} (h : F ≤ F') (t0 : List (List Int)) (s12 : Bool × Int × (List Int)) : Le (F90_l0 F t0 s12) (F90_l0 F' t0 s12) := by
  unfold F90_l0
  repeat' (first | (with_reducible exact Le.refl _) | refine F152_le h _ _ | refine F93_le h _ | refine Le.ite ?_ ?_ | refine Le.bind ?_ ?_ | refine Le.iter (fun _ => ?_) h | intro _ | split)
theorem F90_le {F F' : Nat} (h : F ≤ F') (t0 : List (List Int)) : Le (F90 F t0) (F90 F' t0) := by
  unfold F90
  repeat' (first | (with_reducible exact Le.refl _) | refine F152_le h _ _ | refine F90_l0_le h _ _ | refine F93_le h _ | refine Le.ite ?_ ?_ | refine Le.bind ?_ ?_ | refine Le.iter (fun _ => ?_) h | intro _ | split)
theorem F91_l0_le {F F' : Nat} (h : F ≤ F') (t1 : List Int) (s7 : Int) : Le (F91_l0 F t1 s7) (F91_l0 F' t1 s7) := by
  unfold F91_l0
  repeat' (first | (with_reducible exact Le.refl _) | refine F93_le h _ | refine Le.ite ?_ ?_ | refine Le.bind ?_ ?_ | refine Le.iter (fun _ => ?_) h | intro _ | split)
theorem F91_l1_le {F F' : Nat} (h : F ≤ F') (t0 : List (List Int)) (t1 : List Int) (s24 : Int) (L32 : List Int) (s36 : Int) : Le (F91_l1 F t0 t1 s24 L32 s36) (F91_l1 F' t0 t1 s24 L32 s36) := by
  unfold F91_l1
  repeat' (first | (with_reducible exact Le.refl _) | refine F91_l0_le h _ _ | refine F93_le h _ | refine Le.ite ?_ ?_ | refine Le.bind ?_ ?_ | refine Le.iter (fun _ => ?_) h | intro _ | split)
theorem F91_l2_le {F F' : Nat} (h : F ≤ F') (t0 : List (List Int)) (t1 : List Int) (s24 : Int) : Le (F91_l2 F t0 t1 s24) (F91_l2 F' t0 t1 s24) := by
  unfold F91_l2
  repeat' (first | (with_reducible exact Le.refl _) | refine F91_l0_le h _ _ | refine F91_l1_le h _ _ _ _ _ | refine F93_le h _ | refine Le.ite ?_ ?_ | refine Le.bind ?_ ?_ | refine Le.iter (fun _ => ?_) h | intro _ | split)
theorem F91_le {F F' : Nat} (h : F ≤ F') (t0 : List (List Int)) (t1 : List Int) : Le (F91 F t0 t1) (F91 F' t0 t1) := by
  unfold F91
  repeat' (first | (with_reducible exact Le.refl _) | refine F91_l0_le h _ _ | refine F91_l1_le h _ _ _ _ _ | refine F91_l2_le h _ _ _ | refine F93_le h _ | refine Le.ite ?_ ?_ | refine Le.bind ?_ ?_ | refine Le.iter (fun _ => ?_) h | intro _ | split)
theorem F153_le {F F' : Nat} (h : F ≤ F') (t0 : Int) : Le (F153 F t0) (F153 F' t0) := by
  unfold F153
  repeat' (first | (with_reducible exact Le.refl _) | refine Le.ite ?_ ?_ | refine Le.bind ?_ ?_ | refine Le.iter (fun _ => ?_) h | intro _ | split)
theorem F155_153_l0_le {F F' : Nat} (h : F ≤ F') (t0 : List Int) (s1 : Int) : Le (F155_153_l0 F t0 s1) (F155_153_l0 F' t0 s1) := by
  unfold F155_153_l0
  repeat' (first | (with_reducible exact Le.refl _) | refine F153_le h _ | refine Le.ite ?_ ?_ | refine Le.bind ?_ ?_ | refine Le.iter (fun _ => ?_) h | intro _ | split)
theorem F155_153_le {F F' : Nat} (h : F ≤ F') (t0 : List Int) : Le (F155_153 F t0) (F155_153 F' t0) := by
  unfold F155_153
  repeat' (first | (with_reducible exact Le.refl _) | refine F153_le h _ | refine F155_153_l0_le h _ _ | refine Le.ite ?_ ?_ | refine Le.bind ?_ ?_ | refine Le.iter (fun _ => ?_) h | intro _ | split)
theorem F96_153_le {F F' : Nat} (h : F ≤ F') (t0 : List Int) : Le (F96_153 F t0) (F96_153 F' t0) := by
  unfold F96_153
  repeat' (first | (with_reducible exact Le.refl _) | refine F155_153_le h _ | refine Le.ite ?_ ?_ | refine Le.bind ?_ ?_ | refine Le.iter (fun _ => ?_) h | intro _ | split)
theorem F92_l0_le {F F' : Nat} (h : F ≤ F') (t0 : List (List Int)) (s3 : Int) : Le (F92_l0 F t0 s3) (F92_l0 F' t0 s3) := by
  unfold F92_l0
  repeat' (first | (with_reducible exact Le.refl _) | refine F96_153_le h _ | refine Le.ite ?_ ?_ | refine Le.bind ?_ ?_ | refine Le.iter (fun _ => ?_) h | intro _ | split)
theorem F92_le {F F' : Nat} (h : F ≤ F') (t0 : List (List Int)) : Le (F92 F t0) (F92 F' t0) := by
  unfold F92
  repeat' (first | (with_reducible exact Le.refl _) | refine F92_l0_le h _ _ | refine F96_153_le h _ | refine Le.ite ?_ ?_ | refine Le.bind ?_ ?_ | refine Le.iter (fun _ => ?_) h | intro _ | split)
theorem F154_l0_le {F F' : Nat} (h : F ≤ F') (s6 : Int × Int) (L14 : List (List Int)) (s18 : (List (List Int)) × Int) : Le (F154_l0 F s6 L14 s18) (F154_l0 F' s6 L14 s18) := by
  unfold F154_l0
  repeat' (first | (with_reducible exact Le.refl _) | refine F30_le h _ | refine Le.ite ?_ ?_ | refine Le.bind ?_ ?_ | refine Le.iter (fun _ => ?_) h | intro _ | split)
theorem F154_l1_le {F F' : Nat} (h : F ≤ F') (t0 : List (List Int)) {frec frec' : (List (List Int)) → Option Int} (hf : ∀ x0, Le (frec x0) (frec' x0)) (L2 : List Int) (s6 : Int × Int) : Le (F154_l1 F t0 frec L2 s6) (F154_l1 F' t0 frec' L2 s6) := by
  unfold F154_l1
  repeat' (first | (with_reducible exact Le.refl _) | refine F154_l0_le h _ _ _ | refine F30_le h _ | refine hf _ | refine Le.ite ?_ ?_ | refine Le.bind ?_ ?_ | refine Le.iter (fun _ => ?_) h | intro _ | split)
theorem F154_le {F F' : Nat} (h : F ≤ F') (x0 : (List (List Int))) : Le (F154 F x0) (F154 F' x0) := by
  induction F generalizing F' x0 with
  | zero => exact ⟨fun _ h => by cases h⟩
  | succ F ih =>
    cases F' with
    | zero => omega
    | succ F' =>
      rw [F154, F154]
      try dsimp only
      repeat' (first | (with_reducible exact Le.refl _) | refine F154_l0_le (Nat.le_of_succ_le_succ h) _ _ _ | refine F154_l1_le (Nat.le_of_succ_le_succ h) _ ?_ _ _ | refine F30_le (Nat.le_of_succ_le_succ h) _ | refine ih (Nat.le_of_succ_le_succ h) _ | refine Le.ite ?_ ?_ | refine Le.bind ?_ ?_ | refine Le.iter (fun _ => ?_) (Nat.le_of_succ_le_succ h) | (dsimp only; done) | intro _ | split)
theorem F94_l0_le {F F' : Nat} (h : F ≤ F') (s11 : (List (List Int)) × Int) (L40 : List Int) (s44 : Int × Int) : Le (F94_l0 F s11 L40 s44) (F94_l0 F' s11 L40 s44) := by
  unfold F94_l0
  repeat' (first | (with_reducible exact Le.refl _) | refine F154_le h _ | refine Le.ite ?_ ?_ | refine Le.bind ?_ ?_ | refine Le.iter (fun _ => ?_) h | intro _ | split)
theorem F94_l1_le {F F' : Nat} (h : F ≤ F') (t0 : List (List Int)) (s1 : (List Int) × Int) (s11 : (List (List Int)) × Int) (s22 : (List Int) × Int) : Le (F94_l1 F t0 s1 s11 s22) (F94_l1 F' t0 s1 s11 s22) := by
  unfold F94_l1
  repeat' (first | (with_reducible exact Le.refl _) | refine F154_le h _ | refine F94_l0_le h _ _ _ | refine Le.ite ?_ ?_ | refine Le.bind ?_ ?_ | refine Le.iter (fun _ => ?_) h | intro _ | split)
theorem F94_l2_le {F F' : Nat} (h : F ≤ F') (t0 : List (List Int)) (s1 : (List Int) × Int) (s11 : (List (List Int)) × Int) : Le (F94_l2 F t0 s1 s11) (F94_l2 F' t0 s1 s11) := by
  unfold F94_l2
  repeat' (first | (with_reducible exact Le.refl _) | refine F154_le h _ | refine F94_l0_le h _ _ _ | refine F94_l1_le h _ _ _ _ | refine Le.ite ?_ ?_ | refine Le.bind ?_ ?_ | refine Le.iter (fun _ => ?_) h | intro _ | split)
theorem F94_l3_le {F F' : Nat} (h : F ≤ F') (t0 : List (List Int)) (s1 : (List Int) × Int) : Le (F94_l3 F t0 s1) (F94_l3 F' t0 s1) := by
  unfold F94_l3
  repeat' (first | (with_reducible exact Le.refl _) | refine F154_le h _ | refine F94_l0_le h _ _ _ | refine F94_l1_le h _ _ _ _ | refine F94_l2_le h _ _ _ | refine Le.ite ?_ ?_ | refine Le.bind ?_ ?_ | refine Le.iter (fun _ => ?_) h | intro _ | split)
theorem F94_le {F F' : Nat} (h : F ≤ F') (t0 : List (List Int)) : Le (F94 F t0) (F94 F' t0) := by
  unfold F94
  repeat' (first | (with_reducible exact Le.refl _) | refine F154_le h _ | refine F94_l0_le h _ _ _ | refine F94_l1_le h _ _ _ _ | refine F94_l2_le h _ _ _ | refine F94_l3_le h _ _ | refine Le.ite ?_ ?_ | refine Le.bind ?_ ?_ | refine Le.iter (fun _ => ?_) h | intro _ | split)
theorem F97_le {F F' : Nat} (h : F ≤ F') (t0 : Int) : Le (F97 F t0) (F97 F' t0) := by
  unfold F97
  repeat' (first | (with_reducible exact Le.refl _) | refine Le.ite ?_ ?_ | refine Le.bind ?_ ?_ | refine Le.iter (fun _ => ?_) h | intro _ | split)
theorem F155_97_l0_le {F F' : Nat} (h : F ≤ F') (t0 : List Int) (s1 : Int) : Le (F155_97_l0 F t0 s1) (F155_97_l0 F' t0 s1) := by
  unfold F155_97_l0
  repeat' (first | (with_reducible exact Le.refl _) | refine F97_le h _ | refine Le.ite ?_ ?_ | refine Le.bind ?_ ?_ | refine Le.iter (fun _ => ?_) h | intro _ | split)
theorem F155_97_le {F F' : Nat} (h : F ≤ F') (t0 : List Int) : Le (F155_97 F t0) (F155_97 F' t0) := by
  unfold F155_97
  repeat' (first | (with_reducible exact Le.refl _) | refine F155_97_l0_le h _ _ | refine F97_le h _ | refine Le.ite ?_ ?_ | refine Le.bind ?_ ?_ | refine Le.iter (fun _ => ?_) h | intro _ | split)
theorem F96_97_le {F F' : Nat} (h : F ≤ F') (t0 : List Int) : Le (F96_97 F t0) (F96_97 F' t0) := by
  unfold F96_97
  repeat' (first | (with_reducible exact Le.refl _) | refine F155_97_le h _ | refine Le.ite ?_ ?_ | refine Le.bind ?_ ?_ | refine Le.iter (fun _ => ?_) h | intro _ | split)
theorem F98_le {F F' : Nat} (h : F ≤ F') (t0 : Int × Int) : Le (F98 F t0) (F98 F' t0) := by
  unfold F98
  repeat' (first | (with_reducible exact Le.refl _) | refine F127_le h _ _ | refine Le.ite ?_ ?_ | refine Le.bind ?_ ?_ | refine Le.iter (fun _ => ?_) h | intro _ | split)
theorem F99_l0_le {F F' : Nat} (h : F ≤ F') (L1 : List (Int × Int)) (s7 : Int × (List (Int × Int))) : Le (F99_l0 F L1 s7) (F99_l0 F' L1 s7) := by
  unfold F99_l0
  repeat' (first | (with_reducible exact Le.refl _) | refine F21_le h _ _ | refine F46_le h _ _ | refine F47_le h _ _ | refine Le.ite ?_ ?_ | refine Le.bind ?_ ?_ | refine Le.iter (fun _ => ?_) h | intro _ | split)
theorem F99_l1_le {F F' : Nat} (h : F ≤ F') (L30 : List Int) (s34 : Int × Int) : Le (F99_l1 F L30 s34) (F99_l1 F' L30 s34) := by
  unfold F99_l1
  repeat' (first | (with_reducible exact Le.refl _) | refine F21_le h _ _ | refine F46_le h _ _ | refine F47_le h _ _ | refine F99_l0_le h _ _ | refine Le.ite ?_ ?_ | refine Le.bind ?_ ?_ | refine Le.iter (fun _ => ?_) h | intro _ | split)
theorem F99_l2_le {F F' : Nat} (h : F ≤ F') (t1 : List (Int × Int)) (s21 : Int × (List (Int × Int))) (L30 : List Int) (b42 : Int) (s46 : Int × (List (Int × Int))) : Le (F99_l2 F t1 s21 L30 b42 s46) (F99_l2 F' t1 s21 L30 b42 s46) := by
  unfold F99_l2
  repeat' (first | (with_reducible exact Le.refl _) | refine F21_le h _ _ | refine F46_le h _ _ | refine F47_le h _ _ | refine F99_l0_le h _ _ | refine F99_l1_le h _ _ | refine Le.ite ?_ ?_ | refine Le.bind ?_ ?_ | refine Le.iter (fun _ => ?_) h | intro _ | split)
theorem F99_l3_le {F F' : Nat} (h : F ≤ F') (t0 : List (List Int)) (t1 : List (Int × Int)) (s21 : Int × (List (Int × Int))) : Le (F99_l3 F t0 t1 s21) (F99_l3 F' t0 t1 s21) := by
  unfold F99_l3
  repeat' (first | (with_reducible exact Le.refl _) | refine F21_le h _ _ | refine F46_le h _ _ | refine F47_le h _ _ | refine F99_l0_le h _ _ | refine F99_l1_le h _ _ | refine F99_l2_le h _ _ _ _ _ | refine Le.ite ?_ ?_ | refine Le.bind ?_ ?_ | refine Le.iter (fun _ => ?_) h | intro _ | split)
theorem F99_le {F F' : Nat} (h : F ≤ F') (t0 : List (List Int)) (t1 : List (Int × Int)) : Le (F99 F t0 t1) (F99 F' t0 t1) := by
  unfold F99
  repeat' (first | (with_reducible exact Le.refl _) | refine F21_le h _ _ | refine F46_le h _ _ | refine F47_le h _ _ | refine F99_l0_le h _ _ | refine F99_l1_le h _ _ | refine F99_l2_le h _ _ _ _ _ | refine F99_l3_le h _ _ _ | refine Le.ite ?_ ?_ | refine Le.bind ?_ ?_ | refine Le.iter (fun _ => ?_) h | intro _ | split)
theorem F156_l0_le {F F' : Nat} (h : F ≤ F') (t0 : List (Int × Int)) (t1 : List (Int × Int)) (s2 : Int) : Le (F156_l0 F t0 t1 s2) (F156_l0 F' t0 t1 s2) := by
  unfold F156_l0
  repeat' (first | (with_reducible exact Le.refl _) | refine Le.ite ?_ ?_ | refine Le.bind ?_ ?_ | refine Le.iter (fun _ => ?_) h | intro _ | split)
theorem F156_le {F F' : Nat} (h : F ≤ F') (t0 : List (Int × Int)) (t1 : List (Int × Int)) : Le (F156 F t0 t1) (F156 F' t0 t1) := by
  unfold F156
  repeat' (first | (with_reducible exact Le.refl _) | refine F156_l0_le h _ _ _ | refine Le.ite ?_ ?_ | refine Le.bind ?_ ?_ | refine Le.iter (fun _ => ?_) h | intro _ | split)
theorem F100_le {F F' : Nat} (h : F ≤ F') (t0 : List (Int × Int)) (t1 : List (Int × Int)) : Le (F100 F t0 t1) (F100 F' t0 t1) := by
  unfold F100
  repeat' (first | (with_reducible exact Le.refl _) | refine F156_le h _ _ | refine Le.ite ?_ ?_ | refine Le.bind ?_ ?_ | refine Le.iter (fun _ => ?_) h | intro _ | split)
theorem F106_l0_le {F F' : Nat} (h : F ≤ F') (t1 : List Int) (s4 : Int) : Le (F106_l0 F t1 s4) (F106_l0 F' t1 s4) := by
  unfold F106_l0
  repeat' (first | (with_reducible exact Le.refl _) | refine Le.ite ?_ ?_ | refine Le.bind ?_ ?_ | refine Le.iter (fun _ => ?_) h | intro _ | split)
theorem F106_le {F F' : Nat} (h : F ≤ F') (t0 : Int) (t1 : List Int) : Le (F106 F t0 t1) (F106 F' t0 t1) := by
  unfold F106
  repeat' (first | (with_reducible exact Le.refl _) | refine F106_l0_le h _ _ | refine Le.ite ?_ ?_ | refine Le.bind ?_ ?_ | refine Le.iter (fun _ => ?_) h | intro _ | split)
theorem F101_l0_le {F F' : Nat} (h : F ≤ F') (t0 : Int) (t1 : List Int) (s6 : (List Int) × Int) : Le (F101_l0 F t0 t1 s6) (F101_l0 F' t0 t1 s6) := by
  unfold F101_l0
  repeat' (first | (with_reducible exact Le.refl _) | refine F106_le h _ _ | refine Le.ite ?_ ?_ | refine Le.bind ?_ ?_ | refine Le.iter (fun _ => ?_) h | intro _ | split)
theorem F101_le {F F' : Nat} (h : F ≤ F') (t0 : Int) (t1 : List Int) : Le (F101 F t0 t1) (F101 F' t0 t1) := by
  unfold F101
  repeat' (first | (with_reducible exact Le.refl _) | refine F101_l0_le h _ _ _ | refine F106_le h _ _ | refine Le.ite ?_ ?_ | refine Le.bind ?_ ?_ | refine Le.iter (fun _ => ?_) h | intro _ | split)
theorem F179_le {F F' : Nat} (h : F ≤ F') (t0 : Int) : Le (F179 F t0) (F179 F' t0) := by
  unfold F179
  repeat' (first | (with_reducible exact Le.refl _) | refine Le.ite ?_ ?_ | refine Le.bind ?_ ?_ | refine Le.iter (fun _ => ?_) h | intro _ | split)
theorem F180_le {F F' : Nat} (h : F ≤ F') (t0 : Int) : Le (F180 F t0) (F180 F' t0) := by
  unfold F180
  repeat' (first | (with_reducible exact Le.refl _) | refine Le.ite ?_ ?_ | refine Le.bind ?_ ?_ | refine Le.iter (fun _ => ?_) h | intro _ | split)
theorem F159_le {F F' : Nat} (h : F ≤ F') (t0 : Int) : Le (F159 F t0) (F159 F' t0) := by
  unfold F159
  repeat' (first | (with_reducible exact Le.refl _) | refine F179_le h _ | refine F180_le h _ | refine Le.ite ?_ ?_ | refine Le.bind ?_ ?_ | refine Le.iter (fun _ => ?_) h | intro _ | split)
theorem F182_le {F F' : Nat} (h : F ≤ F') (t0 : Int) : Le (F182 F t0) (F182 F' t0) := by
  unfold F182
  repeat' (first | (with_reducible exact Le.refl _) | refine Le.ite ?_ ?_ | refine Le.bind ?_ ?_ | refine Le.iter (fun _ => ?_) h | intro _ | split)
theorem F167_le {F F' : Nat} (h : F ≤ F') (t0 : Int) (t1 : Int) : Le (F167 F t0 t1) (F167 F' t0 t1) := by
  unfold F167
  repeat' (first | (with_reducible exact Le.refl _) | refine F182_le h _ | refine Le.ite ?_ ?_ | refine Le.bind ?_ ?_ | refine Le.iter (fun _ => ?_) h | intro _ | split)
theorem F171_l0_le {F F' : Nat} (h : F ≤ F') (t1 : Int) (s7 : Int × (List Int)) : Le (F171_l0 F t1 s7) (F171_l0 F' t1 s7) := by
  unfold F171_l0
  repeat' (first | (with_reducible exact Le.refl _) | refine F167_le h _ _ | refine Le.ite ?_ ?_ | refine Le.bind ?_ ?_ | refine Le.iter (fun _ => ?_) h | intro _ | split)
theorem F171_l1_le {F F' : Nat} (h : F ≤ F') (t1 : Int) (t2 : Int) (s1 : Int × (List Int)) : Le (F171_l1 F t1 t2 s1) (F171_l1 F' t1 t2 s1) := by
  unfold F171_l1
  repeat' (first | (with_reducible exact Le.refl _) | refine F167_le h _ _ | refine F171_l0_le h _ _ | refine Le.ite ?_ ?_ | refine Le.bind ?_ ?_ | refine Le.iter (fun _ => ?_) h | intro _ | split)
theorem F171_le {F F' : Nat} (h : F ≤ F') (t0 : List Int) (t1 : Int) (t2 : Int) : Le (F171 F t0 t1 t2) (F171 F' t0 t1 t2) := by
  unfold F171
  repeat' (first | (with_reducible exact Le.refl _) | refine F167_le h _ _ | refine F171_l0_le h _ _ | refine F171_l1_le h _ _ _ | refine Le.ite ?_ ?_ | refine Le.bind ?_ ?_ | refine Le.iter (fun _ => ?_) h | intro _ | split)
theorem F158_l0_le {F F' : Nat} (h : F ≤ F')  (s1 : Int × Int × Int × Bool × Bool × (List Int)) : Le (F158_l0 F s1) (F158_l0 F' s1) := by
  unfold F158_l0
  repeat' (first | (with_reducible exact Le.refl _) | refine F171_le h _ _ _ | refine Le.ite ?_ ?_ | refine Le.bind ?_ ?_ | refine Le.iter (fun _ => ?_) h | intro _ | split)
theorem F158_le {F F' : Nat} (h : F ≤ F') (t0 : List Int) (t1 : Int) (t2 : Int) (t3 : Int) : Le (F158 F t0 t1 t2 t3) (F158 F' t0 t1 t2 t3) := by
  unfold F158
  repeat' (first | (with_reducible exact Le.refl _) | refine F158_l0_le h _ | refine F171_le h _ _ _ | refine Le.ite ?_ ?_ | refine Le.bind ?_ ?_ | refine Le.iter (fun _ => ?_) h | intro _ | split)
theorem F108_le {F F' : Nat} (h : F ≤ F') (t0 : List Int) : Le (F108 F t0) (F108 F' t0) := by
  unfold F108
  repeat' (first | (with_reducible exact Le.refl _) | refine F158_le h _ _ _ _ | refine F159_le h _ | refine Le.ite ?_ ?_ | refine Le.bind ?_ ?_ | refine Le.iter (fun _ => ?_) h | intro _ | split)
theorem F102_le {F F' : Nat} (h : F ≤ F') (t0 : Int) (t1 : List Int) : Le (F102 F t0 t1) (F102 F' t0 t1) := by
  unfold F102
  repeat' (first | (with_reducible exact Le.refl _) | refine F101_le h _ _ | refine F108_le h _ | refine Le.ite ?_ ?_ | refine Le.bind ?_ ?_ | refine Le.iter (fun _ => ?_) h | intro _ | split)
theorem F157_l0_le {F F' : Nat} (h : F ≤ F') (t0 : Int) (s1 : Int × Int) : Le (F157_l0 F t0 s1) (F157_l0 F' t0 s1) := by
  unfold F157_l0
  repeat' (first | (with_reducible exact Le.refl _) | refine Le.ite ?_ ?_ | refine Le.bind ?_ ?_ | refine Le.iter (fun _ => ?_) h | intro _ | split)
theorem F157_le {F F' : Nat} (h : F ≤ F') (t0 : Int) : Le (F157 F t0) (F157 F' t0) := by
  unfold F157
  repeat' (first | (with_reducible exact Le.refl _) | refine F157_l0_le h _ _ | refine Le.ite ?_ ?_ | refine Le.bind ?_ ?_ | refine Le.iter (fun _ => ?_) h | intro _ | split)
theorem F103_le {F F' : Nat} (h : F ≤ F') (t0 : Int) (t1 : Int) : Le (F103 F t0 t1) (F103 F' t0 t1) := by
  unfold F103
  repeat' (first | (with_reducible exact Le.refl _) | refine F157_le h _ | refine Le.ite ?_ ?_ | refine Le.bind ?_ ?_ | refine Le.iter (fun _ => ?_) h | intro _ | split)
theorem F105_l0_le {F F' : Nat} (h : F ≤ F') (t1 : List Int) (s4 : Int) : Le (F105_l0 F t1 s4) (F105_l0 F' t1 s4) := by
  unfold F105_l0
  repeat' (first | (with_reducible exact Le.refl _) | refine Le.ite ?_ ?_ | refine Le.bind ?_ ?_ | refine Le.iter (fun _ => ?_) h | intro _ | split)
theorem F105_le {F F' : Nat} (h : F ≤ F') (t0 : Int) (t1 : List Int) : Le (F105 F t0 t1) (F105 F' t0 t1) := by
  unfold F105
  repeat' (first | (with_reducible exact Le.refl _) | refine F105_l0_le h _ _ | refine Le.ite ?_ ?_ | refine Le.bind ?_ ?_ | refine Le.iter (fun _ => ?_) h | intro _ | split)
theorem F107_l0_le {F F' : Nat} (h : F ≤ F') (t1 : List Int) (s1 : (List Int) × Int) (s11 : Int × Int) : Le (F107_l0 F t1 s1 s11) (F107_l0 F' t1 s1 s11) := by
  unfold F107_l0
  repeat' (first | (with_reducible exact Le.refl _) | refine Le.ite ?_ ?_ | refine Le.bind ?_ ?_ | refine Le.iter (fun _ => ?_) h | intro _ | split)
theorem F107_l1_le {F F' : Nat} (h : F ≤ F') (t0 : Int) (t1 : List Int) (s1 : (List Int) × Int) : Le (F107_l1 F t0 t1 s1) (F107_l1 F' t0 t1 s1) := by
  unfold F107_l1
  repeat' (first | (with_reducible exact Le.refl _) | refine F107_l0_le h _ _ _ | refine Le.ite ?_ ?_ | refine Le.bind ?_ ?_ | refine Le.iter (fun _ => ?_) h | intro _ | split)
theorem F107_le {F F' : Nat} (h : F ≤ F') (t0 : Int) (t1 : List Int) : Le (F107 F t0 t1) (F107 F' t0 t1) := by
  unfold F107
  repeat' (first | (with_reducible exact Le.refl _) | refine F107_l0_le h _ _ _ | refine F107_l1_le h _ _ _ | refine Le.ite ?_ ?_ | refine Le.bind ?_ ?_ | refine Le.iter (fun _ => ?_) h | intro _ | split)
theorem F52_l0_le {F F' : Nat} (h : F ≤ F') (t0 : (List Int) × (List Int)) (s8 : Int) : Le (F52_l0 F t0 s8) (F52_l0 F' t0 s8) := by
  unfold F52_l0
  repeat' (first | (with_reducible exact Le.refl _) | refine Le.ite ?_ ?_ | refine Le.bind ?_ ?_ | refine Le.iter (fun _ => ?_) h | intro _ | split)
theorem F52_le {F F' : Nat} (h : F ≤ F') (t0 : (List Int) × (List Int)) : Le (F52 F t0) (F52 F' t0) := by
  unfold F52
  repeat' (first | (with_reducible exact Le.refl _) | refine F52_l0_le h _ _ | refine Le.ite ?_ ?_ | refine Le.bind ?_ ?_ | refine Le.iter (fun _ => ?_) h | intro _ | split)
theorem F54_l0_le {F F' : Nat} (h : F ≤ F') (t0 : (List Int) × (List Int)) (s5 : Int × Int × Int) : Le (F54_l0 F t0 s5) (F54_l0 F' t0 s5) := by
  unfold F54_l0
  repeat' (first | (with_reducible exact Le.refl _) | refine Le.ite ?_ ?_ | refine Le.bind ?_ ?_ | refine Le.iter (fun _ => ?_) h | intro _ | split)
theorem F54_le {F F' : Nat} (h : F ≤ F') (t0 : (List Int) × (List Int)) : Le (F54 F t0) (F54 F' t0) := by
  unfold F54
  repeat' (first | (with_reducible exact Le.refl _) | refine F54_l0_le h _ _ | refine Le.ite ?_ ?_ | refine Le.bind ?_ ?_ | refine Le.iter (fun _ => ?_) h | intro _ | split)
theorem F55_l0_le {F F' : Nat} (h : F ≤ F') (t0 : (List Int) × (List Int)) (r9 : Int × Int) (s13 : Int × Int) : Le (F55_l0 F t0 r9 s13) (F55_l0 F' t0 r9 s13) := by
  unfold F55_l0
  repeat' (first | (with_reducible exact Le.refl _) | refine F127_le h _ _ | refine F54_le h _ | refine Le.ite ?_ ?_ | refine Le.bind ?_ ?_ | refine Le.iter (fun _ => ?_) h | intro _ | split)
theorem F55_le {F F' : Nat} (h : F ≤ F') (t0 : (List Int) × (List Int)) : Le (F55 F t0) (F55 F' t0) := by
  unfold F55
  repeat' (first | (with_reducible exact Le.refl _) | refine F127_le h _ _ | refine F54_le h _ | refine F55_l0_le h _ _ _ | refine Le.ite ?_ ?_ | refine Le.bind ?_ ?_ | refine Le.iter (fun _ => ?_) h | intro _ | split)
theorem F57_l0_le {F F' : Nat} (h : F ≤ F') (t0 : List (Int × Int × Bool × Bool)) (s3 : Int) : Le (F57_l0 F t0 s3) (F57_l0 F' t0 s3) := by
  unfold F57_l0
  repeat' (first | (with_reducible exact Le.refl _) | refine Le.ite ?_ ?_ | refine Le.bind ?_ ?_ | refine Le.iter (fun _ => ?_) h | intro _ | split)
theorem F57_l1_le {F F' : Nat} (h : F ≤ F') (t0 : List (Int × Int × Bool × Bool)) (t1 : List (Int × Int × Int)) (s28 : Int × Int) : Le (F57_l1 F t0 t1 s28) (F57_l1 F' t0 t1 s28) := by
  unfold F57_l1
  repeat' (first | (with_reducible exact Le.refl _) | refine F57_l0_le h _ _ | refine Le.ite ?_ ?_ | refine Le.bind ?_ ?_ | refine Le.iter (fun _ => ?_) h | intro _ | split)
theorem F57_le {F F' : Nat} (h : F ≤ F') (t0 : List (Int × Int × Bool × Bool)) (t1 : List (Int × Int × Int)) : Le (F57 F t0 t1) (F57 F' t0 t1) := by
  unfold F57
  repeat' (first | (with_reducible exact Le.refl _) | refine F57_l0_le h _ _ | refine F57_l1_le h _ _ _ | refine Le.ite ?_ ?_ | refine Le.bind ?_ ?_ | refine Le.iter (fun _ => ?_) h | intro _ | split)
theorem F130_le {F F' : Nat} (h : F ≤ F') (t0 : (List (Int × Int × Bool × Bool))) : Le (F130 F t0) (F130 F' t0) := by
  unfold F130
  repeat' (first | (with_reducible exact Le.refl _) | refine Le.ite ?_ ?_ | refine Le.bind ?_ ?_ | refine Le.iter (fun _ => ?_) h | intro _ | split)
theorem F83_l0_le {F F' : Nat} (h : F ≤ F') (t0 : List (List Int)) (s1 : Int × Int) : Le (F83_l0 F t0 s1) (F83_l0 F' t0 s1) := by
  unfold F83_l0
  repeat' (first | (with_reducible exact Le.refl _) | refine Le.ite ?_ ?_ | refine Le.bind ?_ ?_ | refine Le.iter (fun _ => ?_) h | intro _ | split)
theorem F83_l1_le {F F' : Nat} (h : F ≤ F') (t0 : List (List Int)) (b11 : Int) (s21 : Int × (List Bool)) (L29 : List Int) (s44 : Int × (List Bool)) : Le (F83_l1 F t0 b11 s21 L29 s44) (F83_l1 F' t0 b11 s21 L29 s44) := by
  unfold F83_l1
  repeat' (first | (with_reducible exact Le.refl _) | refine F83_l0_le h _ _ | refine Le.ite ?_ ?_ | refine Le.bind ?_ ?_ | refine Le.iter (fun _ => ?_) h | intro _ | split)
theorem F83_l2_le {F F' : Nat} (h : F ≤ F') (t0 : List (List Int)) (b11 : Int) (s21 : Int × (List Bool)) : Le (F83_l2 F t0 b11 s21) (F83_l2 F' t0 b11 s21) := by
  unfold F83_l2
  repeat' (first | (with_reducible exact Le.refl _) | refine F83_l0_le h _ _ | refine F83_l1_le h _ _ _ _ _ | refine Le.ite ?_ ?_ | refine Le.bind ?_ ?_ | refine Le.iter (fun _ => ?_) h | intro _ | split)
theorem F83_le {F F' : Nat} (h : F ≤ F') (t0 : List (List Int)) : Le (F83 F t0) (F83 F' t0) := by
  unfold F83
  repeat' (first | (with_reducible exact Le.refl _) | refine F83_l0_le h _ _ | refine F83_l1_le h _ _ _ _ _ | refine F83_l2_le h _ _ _ | refine Le.ite ?_ ?_ | refine Le.bind ?_ ?_ | refine Le.iter (fun _ => ?_) h | intro _ | split)
theorem F144_l0_le {F F' : Nat} (h : F ≤ F') (t0 : List (List Int)) (s1 : (List (List Int)) × Int) : Le (F144_l0 F t0 s1) (F144_l0 F' t0 s1) := by
  unfold F144_l0
  repeat' (first | (with_reducible exact Le.refl _) | refine F30_le h _ | refine Le.ite ?_ ?_ | refine Le.bind ?_ ?_ | refine Le.iter (fun _ => ?_) h | intro _ | split)
theorem F144_le {F F' : Nat} (h : F ≤ F') (t0 : List (List Int)) : Le (F144 F t0) (F144 F' t0) := by
  unfold F144
  repeat' (first | (with_reducible exact Le.refl _) | refine F144_l0_le h _ _ | refine F30_le h _ | refine Le.ite ?_ ?_ | refine Le.bind ?_ ?_ | refine Le.iter (fun _ => ?_) h | intro _ | split)
theorem F147_l0_le {F F' : Nat} (h : F ≤ F') (t0 : List Int) (s1 : Int) : Le (F147_l0 F t0 s1) (F147_l0 F' t0 s1) := by
  unfold F147_l0
  repeat' (first | (with_reducible exact Le.refl _) | refine F167_le h _ _ | refine Le.ite ?_ ?_ | refine Le.bind ?_ ?_ | refine Le.iter (fun _ => ?_) h | intro _ | split)
theorem F147_le {F F' : Nat} (h : F ≤ F') (t0 : List Int) : Le (F147 F t0) (F147 F' t0) := by
  unfold F147
  repeat' (first | (with_reducible exact Le.refl _) | refine F147_l0_le h _ _ | refine F167_le h _ _ | refine Le.ite ?_ ?_ | refine Le.bind ?_ ?_ | refine Le.iter (fun _ => ?_) h | intro _ | split)
theorem F84_l0_le {F F' : Nat} (h : F ≤ F') (t0 : List (List Int)) (s1 : (List Int) × Int) : Le (F84_l0 F t0 s1) (F84_l0 F' t0 s1) := by
  unfold F84_l0
  repeat' (first | (with_reducible exact Le.refl _) | refine F147_le h _ | refine F66_le h _ | refine Le.ite ?_ ?_ | refine Le.bind ?_ ?_ | refine Le.iter (fun _ => ?_) h | intro _ | split)
theorem F84_l1_le {F F' : Nat} (h : F ≤ F') (t0 : List (List Int)) (s33 : Int) (L41 : List Int) (s65 : Int) : Le (F84_l1 F t0 s33 L41 s65) (F84_l1 F' t0 s33 L41 s65) := by
  unfold F84_l1
  repeat' (first | (with_reducible exact Le.refl _) | refine F147_le h _ | refine F66_le h _ | refine F84_l0_le h _ _ | refine Le.ite ?_ ?_ | refine Le.bind ?_ ?_ | refine Le.iter (fun _ => ?_) h | intro _ | split)
theorem F84_l2_le {F F' : Nat} (h : F ≤ F') (t0 : List (List Int)) (s33 : Int) : Le (F84_l2 F t0 s33) (F84_l2 F' t0 s33) := by
  unfold F84_l2
  repeat' (first | (with_reducible exact Le.refl _) | refine F147_le h _ | refine F66_le h _ | refine F84_l0_le h _ _ | refine F84_l1_le h _ _ _ _ | refine Le.ite ?_ ?_ | refine Le.bind ?_ ?_ | refine Le.iter (fun _ => ?_) h | intro _ | split)
theorem F84_le {F F' : Nat} (h : F ≤ F') (t0 : List (List Int)) : Le (F84 F t0) (F84 F' t0) := by
  unfold F84
  repeat' (first | (with_reducible exact Le.refl _) | refine F147_le h _ | refine F66_le h _ | refine F84_l0_le h _ _ | refine F84_l1_le h _ _ _ _ | refine F84_l2_le h _ _ | refine Le.ite ?_ ?_ | refine Le.bind ?_ ?_ | refine Le.iter (fun _ => ?_) h | intro _ | split)
theorem F87_31_l0_le {F F' : Nat} (h : F ≤ F') (t0 : List (List Int)) (t1 : List (List Int)) (s2 : Int) : Le (F87_31_l0 F t0 t1 s2) (F87_31_l0 F' t0 t1 s2) := by
  unfold F87_31_l0
  repeat' (first | (with_reducible exact Le.refl _) | refine F31_le h _ _ | refine Le.ite ?_ ?_ | refine Le.bind ?_ ?_ | refine Le.iter (fun _ => ?_) h | intro _ | split)
theorem F87_31_le {F F' : Nat} (h : F ≤ F') (t0 : List (List Int)) (t1 : List (List Int)) : Le (F87_31 F t0 t1) (F87_31 F' t0 t1) := by
  unfold F87_31
  repeat' (first | (with_reducible exact Le.refl _) | refine F31_le h _ _ | refine F87_31_l0_le h _ _ _ | refine Le.ite ?_ ?_ | refine Le.bind ?_ ?_ | refine Le.iter (fun _ => ?_) h | intro _ | split)
theorem F85_le {F F' : Nat} (h : F ≤ F') (t0 : (List (List Int)) × (List (List Int))) (t1 : (List (List Int)) × (List (List Int))) : Le (F85 F t0 t1) (F85 F' t0 t1) := by
  unfold F85
  repeat' (first | (with_reducible exact Le.refl _) | refine F87_31_le h _ _ | refine Le.ite ?_ ?_ | refine Le.bind ?_ ?_ | refine Le.iter (fun _ => ?_) h | intro _ | split)
theorem F183_le {F F' : Nat} (h : F ≤ F') (t0 : Int) : Le (F183 F t0) (F183 F' t0) := by
  unfold F183
  repeat' (first | (with_reducible exact Le.refl _) | refine Le.ite ?_ ?_ | refine Le.bind ?_ ?_ | refine Le.iter (fun _ => ?_) h | intro _ | split)
theorem F168_l0_le {F F' : Nat} (h : F ≤ F') (t0 : List Int) (t1 : Int) (s1 : Int × Int) : Le (F168_l0 F t0 t1 s1) (F168_l0 F' t0 t1 s1) := by
  unfold F168_l0
  repeat' (first | (with_reducible exact Le.refl _) | refine F167_le h _ _ | refine F183_le h _ | refine Le.ite ?_ ?_ | refine Le.bind ?_ ?_ | refine Le.iter (fun _ => ?_) h | intro _ | split)
theorem F168_le {F F' : Nat} (h : F ≤ F') (t0 : List Int) (t1 : Int) : Le (F168 F t0 t1) (F168 F' t0 t1) := by
  unfold F168
  repeat' (first | (with_reducible exact Le.refl _) | refine F167_le h _ _ | refine F168_l0_le h _ _ _ | refine F183_le h _ | refine Le.ite ?_ ?_ | refine Le.bind ?_ ?_ | refine Le.iter (fun _ => ?_) h | intro _ | split)
theorem F148_le {F F' : Nat} (h : F ≤ F') (x0 : (List (List Int))) (x1 : Int) : Le (F148 F x0 x1) (F148 F' x0 x1) := by
  induction F generalizing F' x0 x1 with
  | zero => exact ⟨fun _ h => by cases h⟩
  | succ F ih =>
    cases F' with
    | zero => omega
    | succ F' =>
      rw [F148, F148]
      try dsimp only
      repeat' (first | (with_reducible exact Le.refl _) | refine F168_le (Nat.le_of_succ_le_succ h) _ _ | refine F30_le (Nat.le_of_succ_le_succ h) _ | refine ih (Nat.le_of_succ_le_succ h) _ _ | refine Le.ite ?_ ?_ | refine Le.bind ?_ ?_ | refine Le.iter (fun _ => ?_) (Nat.le_of_succ_le_succ h) | (dsimp only; done) | intro _ | split)
theorem F88_le {F F' : Nat} (h : F ≤ F') (t0 : List Int) (t1 : List Int) : Le (F88 F t0 t1) (F88 F' t0 t1) := by
  unfold F88
  repeat' (first | (with_reducible exact Le.refl _) | refine Le.ite ?_ ?_ | refine Le.bind ?_ ?_ | refine Le.iter (fun _ => ?_) h | intro _ | split)
theorem F129_l0_le {F F' : Nat} (h : F ≤ F') (t0 : List ((Int × Int × Bool × Bool) × Int)) (s1 : Int × Int × Int) : Le (F129_l0 F t0 s1) (F129_l0 F' t0 s1) := by
  unfold F129_l0
  repeat' (first | (with_reducible exact Le.refl _) | refine Le.ite ?_ ?_ | refine Le.bind ?_ ?_ | refine Le.iter (fun _ => ?_) h | intro _ | split)
theorem F129_le {F F' : Nat} (h : F ≤ F') (t0 : List ((Int × Int × Bool × Bool) × Int)) : Le (F129 F t0) (F129 F' t0) := by
  unfold F129
  repeat' (first | (with_reducible exact Le.refl _) | refine F129_l0_le h _ _ | refine Le.ite ?_ ?_ | refine Le.bind ?_ ?_ | refine Le.iter (fun _ => ?_) h | intro _ | split)
theorem F131_l0_le {F F' : Nat} (h : F ≤ F') (t0 : List Int) (s9 : Int × Int) : Le (F131_l0 F t0 s9) (F131_l0 F' t0 s9) := by
  unfold F131_l0
  repeat' (first | (with_reducible exact Le.refl _) | refine Le.ite ?_ ?_ | refine Le.bind ?_ ?_ | refine Le.iter (fun _ => ?_) h | intro _ | split)
theorem F131_le {F F' : Nat} (h : F ≤ F') (t0 : List Int) : Le (F131 F t0) (F131 F' t0) := by
  unfold F131
  repeat' (first | (with_reducible exact Le.refl _) | refine F131_l0_le h _ _ | refine Le.ite ?_ ?_ | refine Le.bind ?_ ?_ | refine Le.iter (fun _ => ?_) h | intro _ | split)
theorem F184_l0_le {F F' : Nat} (h : F ≤ F') (t2 : Int) (t3 : Int) (s1 : Int × (List Int)) : Le (F184_l0 F t2 t3 s1) (F184_l0 F' t2 t3 s1) := by
  unfold F184_l0
  repeat' (first | (with_reducible exact Le.refl _) | refine F167_le h _ _ | refine Le.ite ?_ ?_ | refine Le.bind ?_ ?_ | refine Le.iter (fun _ => ?_) h | intro _ | split)
theorem F184_le {F F' : Nat} (h : F ≤ F') (t0 : List Int) (t1 : Int) (t2 : Int) (t3 : Int) : Le (F184 F t0 t1 t2 t3) (F184 F' t0 t1 t2 t3) := by
  unfold F184
  repeat' (first | (with_reducible exact Le.refl _) | refine F167_le h _ _ | refine F184_l0_le h _ _ _ | refine Le.ite ?_ ?_ | refine Le.bind ?_ ?_ | refine Le.iter (fun _ => ?_) h | intro _ | split)
theorem F172_l0_le {F F' : Nat} (h : F ≤ F') (t1 : Int) (t2 : Int) (s1 : Int × (List Int)) : Le (F172_l0 F t1 t2 s1) (F172_l0 F' t1 t2 s1) := by
  unfold F172_l0
  repeat' (first | (with_reducible exact Le.refl _) | refine F184_le h _ _ _ _ | refine Le.ite ?_ ?_ | refine Le.bind ?_ ?_ | refine Le.iter (fun _ => ?_) h | intro _ | split)
theorem F172_l1_le {F F' : Nat} (h : F ≤ F') (t1 : Int) (s15 : Int × (List Int)) : Le (F172_l1 F t1 s15) (F172_l1 F' t1 s15) := by
  unfold F172_l1
  repeat' (first | (with_reducible exact Le.refl _) | refine F172_l0_le h _ _ _ | refine F184_le h _ _ _ _ | refine Le.ite ?_ ?_ | refine Le.bind ?_ ?_ | refine Le.iter (fun _ => ?_) h | intro _ | split)
theorem F172_le {F F' : Nat} (h : F ≤ F') (t0 : List Int) (t1 : Int) (t2 : Int) : Le (F172 F t0 t1 t2) (F172 F' t0 t1 t2) := by
  unfold F172
  repeat' (first | (with_reducible exact Le.refl _) | refine F172_l0_le h _ _ _ | refine F172_l1_le h _ _ | refine F184_le h _ _ _ _ | refine Le.ite ?_ ?_ | refine Le.bind ?_ ?_ | refine Le.iter (fun _ => ?_) h | intro _ | split)
theorem F185_le {F F' : Nat} (h : F ≤ F') (t0 : Int) : Le (F185 F t0) (F185 F' t0) := by
  unfold F185
  repeat' (first | (with_reducible exact Le.refl _) | refine F159_le h _ | refine Le.ite ?_ ?_ | refine Le.bind ?_ ?_ | refine Le.iter (fun _ => ?_) h | intro _ | split)
theorem F186_le {F F' : Nat} (h : F ≤ F') (t0 : Int) : Le (F186 F t0) (F186 F' t0) := by
  unfold F186
  repeat' (first | (with_reducible exact Le.refl _) | refine Le.ite ?_ ?_ | refine Le.bind ?_ ?_ | refine Le.iter (fun _ => ?_) h | intro _ | split)
theorem F189_le {F F' : Nat} (h : F ≤ F') (t0 : List Int) (t1 : Int) (t2 : Int) (t3 : Int) : Le (F189 F t0 t1 t2 t3) (F189 F' t0 t1 t2 t3) := by
  unfold F189
  repeat' (first | (with_reducible exact Le.refl _) | refine F167_le h _ _ | refine Le.ite ?_ ?_ | refine Le.bind ?_ ?_ | refine Le.iter (fun _ => ?_) h | intro _ | split)
theorem F188_le {F F' : Nat} (h : F ≤ F') (t0 : List Int) (t1 : Int) (t2 : Int) (t3 : Int) (t4 : Int) : Le (F188 F t0 t1 t2 t3 t4) (F188 F' t0 t1 t2 t3 t4) := by
  unfold F188
  repeat' (first | (with_reducible exact Le.refl _) | refine F189_le h _ _ _ _ | refine Le.ite ?_ ?_ | refine Le.bind ?_ ?_ | refine Le.iter (fun _ => ?_) h | intro _ | split)
theorem F187_le {F F' : Nat} (h : F ≤ F') (t0 : List Int) (t1 : Int) (t2 : Int) : Le (F187 F t0 t1 t2) (F187 F' t0 t1 t2) := by
  unfold F187
  repeat' (first | (with_reducible exact Le.refl _) | refine F188_le h _ _ _ _ _ | refine Le.ite ?_ ?_ | refine Le.bind ?_ ?_ | refine Le.iter (fun _ => ?_) h | intro _ | split)
theorem F175_l0_le {F F' : Nat} (h : F ≤ F')  (s1 : Int × Int × (List Int)) : Le (F175_l0 F s1) (F175_l0 F' s1) := by
  unfold F175_l0
  repeat' (first | (with_reducible exact Le.refl _) | refine Le.ite ?_ ?_ | refine Le.bind ?_ ?_ | refine Le.iter (fun _ => ?_) h | intro _ | split)
theorem F175_le {F F' : Nat} (h : F ≤ F') (t0 : List Int) (t1 : Int) (t2 : Int) : Le (F175 F t0 t1 t2) (F175 F' t0 t1 t2) := by
  unfold F175
  repeat' (first | (with_reducible exact Le.refl _) | refine F175_l0_le h _ | refine Le.ite ?_ ?_ | refine Le.bind ?_ ?_ | refine Le.iter (fun _ => ?_) h | intro _ | split)
theorem F176_l0_le {F F' : Nat} (h : F ≤ F') (t2 : Int) (s1 : Int × Int × (List Int)) (s9 : Int) : Le (F176_l0 F t2 s1 s9) (F176_l0 F' t2 s1 s9) := by
  unfold F176_l0
  repeat' (first | (with_reducible exact Le.refl _) | refine F167_le h _ _ | refine Le.ite ?_ ?_ | refine Le.bind ?_ ?_ | refine Le.iter (fun _ => ?_) h | intro _ | split)
theorem F176_l1_le {F F' : Nat} (h : F ≤ F')  (s47 : Int × (List Int)) : Le (F176_l1 F s47) (F176_l1 F' s47) := by
  unfold F176_l1
  repeat' (first | (with_reducible exact Le.refl _) | refine F167_le h _ _ | refine F176_l0_le h _ _ _ | refine Le.ite ?_ ?_ | refine Le.bind ?_ ?_ | refine Le.iter (fun _ => ?_) h | intro _ | split)
theorem F176_l2_le {F F' : Nat} (h : F ≤ F') (t2 : Int) (s84 : Int × (List Int)) : Le (F176_l2 F t2 s84) (F176_l2 F' t2 s84) := by
  unfold F176_l2
  repeat' (first | (with_reducible exact Le.refl _) | refine F167_le h _ _ | refine F176_l0_le h _ _ _ | refine F176_l1_le h _ | refine Le.ite ?_ ?_ | refine Le.bind ?_ ?_ | refine Le.iter (fun _ => ?_) h | intro _ | split)
theorem F176_l3_le {F F' : Nat} (h : F ≤ F') (t1 : Int) (t2 : Int) (s1 : Int × Int × (List Int)) : Le (F176_l3 F t1 t2 s1) (F176_l3 F' t1 t2 s1) := by
  unfold F176_l3
  repeat' (first | (with_reducible exact Le.refl _) | refine F167_le h _ _ | refine F176_l0_le h _ _ _ | refine F176_l1_le h _ | refine F176_l2_le h _ _ | refine Le.ite ?_ ?_ | refine Le.bind ?_ ?_ | refine Le.iter (fun _ => ?_) h | intro _ | split)
theorem F176_le {F F' : Nat} (h : F ≤ F') (t0 : List Int) (t1 : Int) (t2 : Int) : Le (F176 F t0 t1 t2) (F176 F' t0 t1 t2) := by
  unfold F176
  repeat' (first | (with_reducible exact Le.refl _) | refine F167_le h _ _ | refine F176_l0_le h _ _ _ | refine F176_l1_le h _ | refine F176_l2_le h _ _ | refine F176_l3_le h _ _ _ | refine Le.ite ?_ ?_ | refine Le.bind ?_ ?_ | refine Le.iter (fun _ => ?_) h | intro _ | split)
theorem F177_l0_le {F F' : Nat} (h : F ≤ F') (t1 : Int) (s13 : Int × Int × (List Int)) (s18 : Int) : Le (F177_l0 F t1 s13 s18) (F177_l0 F' t1 s13 s18) := by
  unfold F177_l0
  repeat' (first | (with_reducible exact Le.refl _) | refine F167_le h _ _ | refine Le.ite ?_ ?_ | refine Le.bind ?_ ?_ | refine Le.iter (fun _ => ?_) h | intro _ | split)
theorem F177_l1_le {F F' : Nat} (h : F ≤ F') (t1 : Int) (s13 : Int × Int × (List Int)) (b37 : Int) (s41 : Int) : Le (F177_l1 F t1 s13 b37 s41) (F177_l1 F' t1 s13 b37 s41) := by
  unfold F177_l1
  repeat' (first | (with_reducible exact Le.refl _) | refine F167_le h _ _ | refine F177_l0_le h _ _ _ | refine Le.ite ?_ ?_ | refine Le.bind ?_ ?_ | refine Le.iter (fun _ => ?_) h | intro _ | split)
theorem F177_l2_le {F F' : Nat} (h : F ≤ F') (t1 : Int) (s13 : Int × Int × (List Int)) : Le (F177_l2 F t1 s13) (F177_l2 F' t1 s13) := by
  unfold F177_l2
  repeat' (first | (with_reducible exact Le.refl _) | refine F167_le h _ _ | refine F177_l0_le h _ _ _ | refine F177_l1_le h _ _ _ _ | refine Le.ite ?_ ?_ | refine Le.bind ?_ ?_ | refine Le.iter (fun _ => ?_) h | intro _ | split)
theorem F177_le {F F' : Nat} (h : F ≤ F') (t0 : List Int) (t1 : Int) (t2 : Int) (t3 : Int) : Le (F177 F t0 t1 t2 t3) (F177 F' t0 t1 t2 t3) := by
  unfold F177
  repeat' (first | (with_reducible exact Le.refl _) | refine F167_le h _ _ | refine F177_l0_le h _ _ _ | refine F177_l1_le h _ _ _ _ | refine F177_l2_le h _ _ | refine Le.ite ?_ ?_ | refine Le.bind ?_ ?_ | refine Le.iter (fun _ => ?_) h | intro _ | split)
theorem F178_l0_le {F F' : Nat} (h : F ≤ F') (t0 : List Int) (t1 : Int) (t2 : Int) (t3 : Int) (x1 : Int) (x3 : Int) (s13 : Int) : Le (F178_l0 F t0 t1 t2 t3 x1 x3 s13) (F178_l0 F' t0 t1 t2 t3 x1 x3 s13) := by
  unfold F178_l0
  repeat' (first | (with_reducible exact Le.refl _) | refine F167_le h _ _ | refine Le.ite ?_ ?_ | refine Le.bind ?_ ?_ | refine Le.iter (fun _ => ?_) h | intro _ | split)
theorem F178_l1_le {F F' : Nat} (h : F ≤ F') (t0 : List Int) (t1 : Int) (t3 : Int) (x1 : Int) (x3 : Int) (b32 : Int) (s36 : Int) : Le (F178_l1 F t0 t1 t3 x1 x3 b32 s36) (F178_l1 F' t0 t1 t3 x1 x3 b32 s36) := by
  unfold F178_l1
  repeat' (first | (with_reducible exact Le.refl _) | refine F167_le h _ _ | refine F178_l0_le h _ _ _ _ _ _ _ | refine Le.ite ?_ ?_ | refine Le.bind ?_ ?_ | refine Le.iter (fun _ => ?_) h | intro _ | split)
theorem F178_l2_le {F F' : Nat} (h : F ≤ F') (t1 : Int) (s84 : Int × Int × (List Int)) (s89 : Int) : Le (F178_l2 F t1 s84 s89) (F178_l2 F' t1 s84 s89) := by
  unfold F178_l2
  repeat' (first | (with_reducible exact Le.refl _) | refine F167_le h _ _ | refine F178_l0_le h _ _ _ _ _ _ _ | refine F178_l1_le h _ _ _ _ _ _ _ | refine Le.ite ?_ ?_ | refine Le.bind ?_ ?_ | refine Le.iter (fun _ => ?_) h | intro _ | split)
theorem F178_l3_le {F F' : Nat} (h : F ≤ F') (t1 : Int) (s84 : Int × Int × (List Int)) (b108 : Int) (s112 : Int) : Le (F178_l3 F t1 s84 b108 s112) (F178_l3 F' t1 s84 b108 s112) := by
  unfold F178_l3
  repeat' (first | (with_reducible exact Le.refl _) | refine F167_le h _ _ | refine F178_l0_le h _ _ _ _ _ _ _ | refine F178_l1_le h _ _ _ _ _ _ _ | refine F178_l2_le h _ _ _ | refine Le.ite ?_ ?_ | refine Le.bind ?_ ?_ | refine Le.iter (fun _ => ?_) h | intro _ | split)
theorem F178_l4_le {F F' : Nat} (h : F ≤ F') (t1 : Int) (s84 : Int × Int × (List Int)) : Le (F178_l4 F t1 s84) (F178_l4 F' t1 s84) := by
  unfold F178_l4
  repeat' (first | (with_reducible exact Le.refl _) | refine F167_le h _ _ | refine F178_l0_le h _ _ _ _ _ _ _ | refine F178_l1_le h _ _ _ _ _ _ _ | refine F178_l2_le h _ _ _ | refine F178_l3_le h _ _ _ _ | refine Le.ite ?_ ?_ | refine Le.bind ?_ ?_ | refine Le.iter (fun _ => ?_) h | intro _ | split)
theorem F178_le {F F' : Nat} (h : F ≤ F') (t0 : List Int) (t1 : Int) (t2 : Int) (t3 : Int) : Le (F178 F t0 t1 t2 t3) (F178 F' t0 t1 t2 t3) := by
  unfold F178
  repeat' (first | (with_reducible exact Le.refl _) | refine F167_le h _ _ | refine F178_l0_le h _ _ _ _ _ _ _ | refine F178_l1_le h _ _ _ _ _ _ _ | refine F178_l2_le h _ _ _ | refine F178_l3_le h _ _ _ _ | refine F178_l4_le h _ _ | refine Le.ite ?_ ?_ | refine Le.bind ?_ ?_ | refine Le.iter (fun _ => ?_) h | intro _ | split)
end Go.Proofs.Ytdkmepeolmdccaa

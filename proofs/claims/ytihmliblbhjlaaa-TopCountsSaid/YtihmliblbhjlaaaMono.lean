/- More fuel, the same answer: printed by a program of ours (gen.py). -/
import Derived.Test.YtihmliblbhjlaaaDef
import Derived.Test.YtihmliblbhjlaaaPure
set_option linter.unusedVariables false
namespace Go.Proofs.Ytihmliblbhjlaaa
open Go.Am
theorem F17_l0_le {F F' : Nat} (h : F ≤ F') (t0 : (List Int) × (List Int)) (s8 : Int) : Le (F17_l0 F t0 s8) (F17_l0 F' t0 s8) := by
  unfold F17_l0
  repeat' (first | (with_reducible exact Le.refl _) | refine Le.ite ?_ ?_ | refine Le.bind ?_ ?_ | refine Le.iter (fun _ => ?_) h | intro _ | split)
theorem F17_le {F F' : Nat} (h : F ≤ F') (t0 : (List Int) × (List Int)) : Le (F17 F t0) (F17 F' t0) := by
  unfold F17
  repeat' (first | (with_reducible exact Le.refl _) | refine F17_l0_le h _ _ | refine Le.ite ?_ ?_ | refine Le.bind ?_ ?_ | refine Le.iter (fun _ => ?_) h | intro _ | split)
theorem F89_le {F F' : Nat} (h : F ≤ F') (t0 : Int) : Le (F89 F t0) (F89 F' t0) := by
  unfold F89
  repeat' (first | (with_reducible exact Le.refl _) | refine Le.ite ?_ ?_ | refine Le.bind ?_ ?_ | refine Le.iter (fun _ => ?_) h | intro _ | split)
theorem F88_89_l0_le {F F' : Nat} (h : F ≤ F') (t0 : (List Int) × (List Int)) (s5 : Int × Int) : Le (F88_89_l0 F t0 s5) (F88_89_l0 F' t0 s5) := by
  unfold F88_89_l0
  repeat' (first | (with_reducible exact Le.refl _) | refine F89_le h _ | refine Le.ite ?_ ?_ | refine Le.bind ?_ ?_ | refine Le.iter (fun _ => ?_) h | intro _ | split)
theorem F88_89_le {F F' : Nat} (h : F ≤ F') (t0 : (List Int) × (List Int)) : Le (F88_89 F t0) (F88_89 F' t0) := by
  unfold F88_89
  repeat' (first | (with_reducible exact Le.refl _) | refine F88_89_l0_le h _ _ | refine F89_le h _ | refine Le.ite ?_ ?_ | refine Le.bind ?_ ?_ | refine Le.iter (fun _ => ?_) h | intro _ | split)
theorem F90_le {F F' : Nat} (h : F ≤ F') (t0 : Int) : Le (F90 F t0) (F90 F' t0) := by
  unfold F90
  repeat' (first | (with_reducible exact Le.refl _) | refine Le.ite ?_ ?_ | refine Le.bind ?_ ?_ | refine Le.iter (fun _ => ?_) h | intro _ | split)
theorem F88_90_l0_le {F F' : Nat} (h : F ≤ F') (t0 : (List Int) × (List Int)) (s5 : Int × Int) : Le (F88_90_l0 F t0 s5) (F88_90_l0 F' t0 s5) := by
  unfold F88_90_l0
  repeat' (first | (with_reducible exact Le.refl _) | refine F90_le h _ | refine Le.ite ?_ ?_ | refine Le.bind ?_ ?_ | refine Le.iter (fun _ => ?_) h | intro _ | split)
theorem F88_90_le {F F' : Nat} (h : F ≤ F') (t0 : (List Int) × (List Int)) : Le (F88_90 F t0) (F88_90 F' t0) := by
  unfold F88_90
  repeat' (first | (with_reducible exact Le.refl _) | refine F88_90_l0_le h _ _ | refine F90_le h _ | refine Le.ite ?_ ?_ | refine Le.bind ?_ ?_ | refine Le.iter (fun _ => ?_) h | intro _ | split)
theorem F166_l0_le {F F' : Nat} (h : F ≤ F')  (s1 : Int × Int) : Le (F166_l0 F s1) (F166_l0 F' s1) := by
  unfold F166_l0
  repeat' (first | (with_reducible exact Le.refl _) | refine Le.ite ?_ ?_ | refine Le.bind ?_ ?_ | refine Le.iter (fun _ => ?_) h | intro _ | split)
theorem F166_le {F F' : Nat} (h : F ≤ F') (t0 : Int) (t1 : Int) : Le (F166 F t0 t1) (F166 F' t0 t1) := by
  unfold F166
  repeat' (first | (with_reducible exact Le.refl _) | refine F166_l0_le h _ | refine Le.ite ?_ ?_ | refine Le.bind ?_ ?_ | refine Le.iter (fun _ => ?_) h | intro _ | split)
theorem F149_le {F F' : Nat} (h : F ≤ F') (t0 : Int) (t1 : Int) : Le (F149 F t0 t1) (F149 F' t0 t1) := by
  unfold F149
  repeat' (first | (with_reducible exact Le.refl _) | refine F166_le h _ _ | refine Le.ite ?_ ?_ | refine Le.bind ?_ ?_ | refine Le.iter (fun _ => ?_) h | intro _ | split)
theorem F87_le {F F' : Nat} (h : F ≤ F') (t0 : Int) (t1 : Int) : Le (F87 F t0 t1) (F87 F' t0 t1) := by
  unfold F87
  repeat' (first | (with_reducible exact Le.refl _) | refine F149_le h _ _ | refine Le.ite ?_ ?_ | refine Le.bind ?_ ?_ | refine Le.iter (fun _ => ?_) h | intro _ | split)
theorem F12_le {F F' : Nat} (h : F ≤ F') (t0 : (List Int) × (List Int)) : Le (F12 F t0) (F12 F' t0) := by
  unfold F12
  repeat' (first | (with_reducible exact Le.refl _) | refine F17_le h _ | refine F87_le h _ _ | refine F88_89_le h _ | refine F88_90_le h _ | refine Le.ite ?_ ?_ | refine Le.bind ?_ ?_ | refine Le.iter (fun _ => ?_) h | intro _ | split)
theorem F91_le {F F' : Nat} (h : F ≤ F') (t0 : Int) : Le (F91 F t0) (F91 F' t0) := by
  unfold F91
  repeat' (first | (with_reducible exact Le.refl _) | refine Le.ite ?_ ?_ | refine Le.bind ?_ ?_ | refine Le.iter (fun _ => ?_) h | intro _ | split)
theorem F88_91_l0_le {F F' : Nat} (h : F ≤ F') (t0 : (List Int) × (List Int)) (s5 : Int × Int) : Le (F88_91_l0 F t0 s5) (F88_91_l0 F' t0 s5) := by
  unfold F88_91_l0
  repeat' (first | (with_reducible exact Le.refl _) | refine F91_le h _ | refine Le.ite ?_ ?_ | refine Le.bind ?_ ?_ | refine Le.iter (fun _ => ?_) h | intro _ | split)
theorem F88_91_le {F F' : Nat} (h : F ≤ F') (t0 : (List Int) × (List Int)) : Le (F88_91 F t0) (F88_91 F' t0) := by
  unfold F88_91
  repeat' (first | (with_reducible exact Le.refl _) | refine F88_91_l0_le h _ _ | refine F91_le h _ | refine Le.ite ?_ ?_ | refine Le.bind ?_ ?_ | refine Le.iter (fun _ => ?_) h | intro _ | split)
theorem F92_le {F F' : Nat} (h : F ≤ F') (t0 : Int) : Le (F92 F t0) (F92 F' t0) := by
  unfold F92
  repeat' (first | (with_reducible exact Le.refl _) | refine Le.ite ?_ ?_ | refine Le.bind ?_ ?_ | refine Le.iter (fun _ => ?_) h | intro _ | split)
theorem F88_92_l0_le {F F' : Nat} (h : F ≤ F') (t0 : (List Int) × (List Int)) (s5 : Int × Int) : Le (F88_92_l0 F t0 s5) (F88_92_l0 F' t0 s5) := by
  unfold F88_92_l0
  repeat' (first | (with_reducible exact Le.refl _) | refine F92_le h _ | refine Le.ite ?_ ?_ | refine Le.bind ?_ ?_ | refine Le.iter (fun _ => ?_) h | intro _ | split)
theorem F88_92_le {F F' : Nat} (h : F ≤ F') (t0 : (List Int) × (List Int)) : Le (F88_92 F t0) (F88_92 F' t0) := by
  unfold F88_92
  repeat' (first | (with_reducible exact Le.refl _) | refine F88_92_l0_le h _ _ | refine F92_le h _ | refine Le.ite ?_ ?_ | refine Le.bind ?_ ?_ | refine Le.iter (fun _ => ?_) h | intro _ | split)
theorem F13_l0_le {F F' : Nat} (h : F ≤ F') (r16 : Int) (r20 : Int) (r24 : Int) (s28 : Int × Int × (Int × Int)) : Le (F13_l0 F r16 r20 r24 s28) (F13_l0 F' r16 r20 r24 s28) := by
  unfold F13_l0
  repeat' (first | (with_reducible exact Le.refl _) | refine F17_le h _ | refine F87_le h _ _ | refine F88_90_le h _ | refine F88_91_le h _ | refine F88_92_le h _ | refine Le.ite ?_ ?_ | refine Le.bind ?_ ?_ | refine Le.iter (fun _ => ?_) h | intro _ | split)
theorem F13_le {F F' : Nat} (h : F ≤ F') (t0 : (List Int) × (List Int)) : Le (F13 F t0) (F13 F' t0) := by
  unfold F13
  repeat' (first | (with_reducible exact Le.refl _) | refine F13_l0_le h _ _ _ _ | refine F17_le h _ | refine F87_le h _ _ | refine F88_90_le h _ | refine F88_91_le h _ | refine F88_92_le h _ | refine Le.ite ?_ ?_ | refine Le.bind ?_ ?_ | refine Le.iter (fun _ => ?_) h | intro _ | split)
theorem F93_le {F F' : Nat} (h : F ≤ F') (t0 : Int) (c0 : Int) : Le (F93 F t0 c0) (F93 F' t0 c0) := by
  unfold F93
  repeat' (first | (with_reducible exact Le.refl _) | refine Le.ite ?_ ?_ | refine Le.bind ?_ ?_ | refine Le.iter (fun _ => ?_) h | intro _ | split)
theorem F88_93_l0_le {F F' : Nat} (h : F ≤ F') (t0 : (List Int) × (List Int)) (t1c0 : Int) (s5 : Int × Int) : Le (F88_93_l0 F t0 t1c0 s5) (F88_93_l0 F' t0 t1c0 s5) := by
  unfold F88_93_l0
  repeat' (first | (with_reducible exact Le.refl _) | refine F93_le h _ _ | refine Le.ite ?_ ?_ | refine Le.bind ?_ ?_ | refine Le.iter (fun _ => ?_) h | intro _ | split)
theorem F88_93_le {F F' : Nat} (h : F ≤ F') (t0 : (List Int) × (List Int)) (t1c0 : Int) : Le (F88_93 F t0 t1c0) (F88_93 F' t0 t1c0) := by
  unfold F88_93
  repeat' (first | (with_reducible exact Le.refl _) | refine F88_93_l0_le h _ _ _ | refine F93_le h _ _ | refine Le.ite ?_ ?_ | refine Le.bind ?_ ?_ | refine Le.iter (fun _ => ?_) h | intro _ | split)
theorem F14_le {F F' : Nat} (h : F ≤ F') (t0 : (List Int) × (List Int)) (t1 : Int) : Le (F14 F t0 t1) (F14 F' t0 t1) := by
  unfold F14
  repeat' (first | (with_reducible exact Le.refl _) | refine F17_le h _ | refine F87_le h _ _ | refine F88_90_le h _ | refine F88_93_le h _ _ | refine Le.ite ?_ ?_ | refine Le.bind ?_ ?_ | refine Le.iter (fun _ => ?_) h | intro _ | split)
theorem F15_l0_le {F F' : Nat} (h : F ≤ F') (t0 : (List Int) × (List Int)) (t1 : (List Int) × (List Int)) (s33 : Int × (List Int) × (List Int)) (x47 : Int) (s49 : Int × (List Int) × (List Int)) : Le (F15_l0 F t0 t1 s33 x47 s49) (F15_l0 F' t0 t1 s33 x47 s49) := by
  unfold F15_l0
  repeat' (first | (with_reducible exact Le.refl _) | refine F17_le h _ | refine Le.ite ?_ ?_ | refine Le.bind ?_ ?_ | refine Le.iter (fun _ => ?_) h | intro _ | split)
theorem F15_l1_le {F F' : Nat} (h : F ≤ F') (t0 : (List Int) × (List Int)) (t1 : (List Int) × (List Int)) (s33 : Int × (List Int) × (List Int)) : Le (F15_l1 F t0 t1 s33) (F15_l1 F' t0 t1 s33) := by
  unfold F15_l1
  repeat' (first | (with_reducible exact Le.refl _) | refine F15_l0_le h _ _ _ _ _ | refine F17_le h _ | refine Le.ite ?_ ?_ | refine Le.bind ?_ ?_ | refine Le.iter (fun _ => ?_) h | intro _ | split)
theorem F15_le {F F' : Nat} (h : F ≤ F') (t0 : (List Int) × (List Int)) (t1 : (List Int) × (List Int)) : Le (F15 F t0 t1) (F15 F' t0 t1) := by
  unfold F15
  repeat' (first | (with_reducible exact Le.refl _) | refine F15_l0_le h _ _ _ _ _ | refine F15_l1_le h _ _ _ | refine F17_le h _ | refine Le.ite ?_ ?_ | refine Le.bind ?_ ?_ | refine Le.iter (fun _ => ?_) h | intro _ | split)
theorem F16_l0_le {F F' : Nat} (h : F ≤ F') (t0 : (List Int) × (List Int)) (s8 : Int) : Le (F16_l0 F t0 s8) (F16_l0 F' t0 s8) := by
  unfold F16_l0
  repeat' (first | (with_reducible exact Le.refl _) | refine Le.ite ?_ ?_ | refine Le.bind ?_ ?_ | refine Le.iter (fun _ => ?_) h | intro _ | split)
theorem F16_le {F F' : Nat} (h : F ≤ F') (t0 : (List Int) × (List Int)) : Le (F16 F t0) (F16 F' t0) := by
  unfold F16
  repeat' (first | (with_reducible exact Le.refl _) | refine F16_l0_le h _ _ | refine Le.ite ?_ ?_ | refine Le.bind ?_ ?_ | refine Le.iter (fun _ => ?_) h | intro _ | split)
theorem F18_l0_le {F F' : Nat} (h : F ≤ F') (t0 : (List Int) × (List Int)) (s5 : Int × Int × Int) : Le (F18_l0 F t0 s5) (F18_l0 F' t0 s5) := by
  unfold F18_l0
  repeat' (first | (with_reducible exact Le.refl _) | refine Le.ite ?_ ?_ | refine Le.bind ?_ ?_ | refine Le.iter (fun _ => ?_) h | intro _ | split)
theorem F18_le {F F' : Nat} (h : F ≤ F') (t0 : (List Int) × (List Int)) : Le (F18 F t0) (F18 F' t0) := by
  unfold F18
  repeat' (first | (with_reducible exact Le.refl _) | refine F18_l0_le h _ _ | refine Le.ite ?_ ?_ | refine Le.bind ?_ ?_ | refine Le.iter (fun _ => ?_) h | intro _ | split)
theorem F95_le {F F' : Nat} (h : F ≤ F') (x0 : Int) (x1 : Int) : Le (F95 F x0 x1) (F95 F' x0 x1) := by
  induction F generalizing F' x0 x1 with
  | zero => exact ⟨fun _ h => by cases h⟩
  | succ F ih =>
    cases F' with
    | zero => omega
    | succ F' =>
      rw [F95, F95]
      try dsimp only
      repeat' (first | (with_reducible exact Le.refl _) | refine ih (Nat.le_of_succ_le_succ h) _ _ | refine Le.ite ?_ ?_ | refine Le.bind ?_ ?_ | refine Le.iter (fun _ => ?_) (Nat.le_of_succ_le_succ h) | (dsimp only; done) | intro _ | split)
theorem F94_le {F F' : Nat} (h : F ≤ F') (t0 : Int) (t1 : Int) : Le (F94 F t0 t1) (F94 F' t0 t1) := by
  unfold F94
  repeat' (first | (with_reducible exact Le.refl _) | refine F95_le h _ _ | refine Le.ite ?_ ?_ | refine Le.bind ?_ ?_ | refine Le.iter (fun _ => ?_) h | intro _ | split)
theorem F19_le {F F' : Nat} (h : F ≤ F') (t0 : Int) (t1 : Int) : Le (F19 F t0 t1) (F19 F' t0 t1) := by
  unfold F19
  repeat' (first | (with_reducible exact Le.refl _) | refine F94_le h _ _ | refine Le.ite ?_ ?_ | refine Le.bind ?_ ?_ | refine Le.iter (fun _ => ?_) h | intro _ | split)
theorem F20_l0_le {F F' : Nat} (h : F ≤ F') (t0 : (List Int) × (List Int)) (r9 : Int × Int) (s13 : Int × Int) : Le (F20_l0 F t0 r9 s13) (F20_l0 F' t0 r9 s13) := by
  unfold F20_l0
  repeat' (first | (with_reducible exact Le.refl _) | refine F18_le h _ | refine F95_le h _ _ | refine Le.ite ?_ ?_ | refine Le.bind ?_ ?_ | refine Le.iter (fun _ => ?_) h | intro _ | split)
theorem F20_le {F F' : Nat} (h : F ≤ F') (t0 : (List Int) × (List Int)) : Le (F20 F t0) (F20 F' t0) := by
  unfold F20
  repeat' (first | (with_reducible exact Le.refl _) | refine F18_le h _ | refine F20_l0_le h _ _ _ | refine F95_le h _ _ | refine Le.ite ?_ ?_ | refine Le.bind ?_ ?_ | refine Le.iter (fun _ => ?_) h | intro _ | split)
theorem F21_l0_le {F F' : Nat} (h : F ≤ F') (t0 : List Int) (t1 : List Int) (s2 : Int) : Le (F21_l0 F t0 t1 s2) (F21_l0 F' t0 t1 s2) := by
  unfold F21_l0
  repeat' (first | (with_reducible exact Le.refl _) | refine Le.ite ?_ ?_ | refine Le.bind ?_ ?_ | refine Le.iter (fun _ => ?_) h | intro _ | split)
theorem F21_le {F F' : Nat} (h : F ≤ F') (t0 : List Int) (t1 : List Int) : Le (F21 F t0 t1) (F21 F' t0 t1) := by
  unfold F21
  repeat' (first | (with_reducible exact Le.refl _) | refine F21_l0_le h _ _ _ | refine Le.ite ?_ ?_ | refine Le.bind ?_ ?_ | refine Le.iter (fun _ => ?_) h | intro _ | split)
theorem F24_l0_le {F F' : Nat} (h : F ≤ F') (t0 : List (Int × Int × Bool × Bool)) (s3 : Int) : Le (F24_l0 F t0 s3) (F24_l0 F' t0 s3) := by
  unfold F24_l0
  repeat' (first | (with_reducible exact Le.refl _) | refine Le.ite ?_ ?_ | refine Le.bind ?_ ?_ | refine Le.iter (fun _ => ?_) h | intro _ | split)
theorem F24_l1_le {F F' : Nat} (h : F ≤ F') (t0 : List (Int × Int × Bool × Bool)) (t1 : List (Int × Int × Int)) (s28 : Int) : Le (F24_l1 F t0 t1 s28) (F24_l1 F' t0 t1 s28) := by
  unfold F24_l1
  repeat' (first | (with_reducible exact Le.refl _) | refine F24_l0_le h _ _ | refine Le.ite ?_ ?_ | refine Le.bind ?_ ?_ | refine Le.iter (fun _ => ?_) h | intro _ | split)
theorem F24_le {F F' : Nat} (h : F ≤ F') (t0 : List (Int × Int × Bool × Bool)) (t1 : List (Int × Int × Int)) : Le (F24 F t0 t1) (F24 F' t0 t1) := by
  unfold F24
  repeat' (first | (with_reducible exact Le.refl _) | refine F24_l0_le h _ _ | refine F24_l1_le h _ _ _ | refine Le.ite ?_ ?_ | refine Le.bind ?_ ?_ | refine Le.iter (fun _ => ?_) h | intro _ | split)
theorem F101_l0_le {F F' : Nat} (h : F ≤ F') (t0 : List Int) (s6 : Int × (List Bool)) : Le (F101_l0 F t0 s6) (F101_l0 F' t0 s6) := by
  unfold F101_l0
  repeat' (first | (with_reducible exact Le.refl _) | refine Le.ite ?_ ?_ | refine Le.bind ?_ ?_ | refine Le.iter (fun _ => ?_) h | intro _ | split)
theorem F101_le {F F' : Nat} (h : F ≤ F') (t0 : List Int) : Le (F101 F t0) (F101 F' t0) := by
  unfold F101
  repeat' (first | (with_reducible exact Le.refl _) | refine F101_l0_le h _ _ | refine Le.ite ?_ ?_ | refine Le.bind ?_ ?_ | refine Le.iter (fun _ => ?_) h | intro _ | split)
theorem F150_le {F F' : Nat} (h : F ≤ F') (t0 : Int) (c0 : Int) : Le (F150 F t0 c0) (F150 F' t0 c0) := by
  unfold F150
  repeat' (first | (with_reducible exact Le.refl _) | refine Le.ite ?_ ?_ | refine Le.bind ?_ ?_ | refine Le.iter (fun _ => ?_) h | intro _ | split)
theorem F116_150_l0_le {F F' : Nat} (h : F ≤ F') (t0 : List Int) (t1c0 : Int) (s1 : Int) : Le (F116_150_l0 F t0 t1c0 s1) (F116_150_l0 F' t0 t1c0 s1) := by
  unfold F116_150_l0
  repeat' (first | (with_reducible exact Le.refl _) | refine F150_le h _ _ | refine Le.ite ?_ ?_ | refine Le.bind ?_ ?_ | refine Le.iter (fun _ => ?_) h | intro _ | split)
theorem F116_150_le {F F' : Nat} (h : F ≤ F') (t0 : List Int) (t1c0 : Int) : Le (F116_150 F t0 t1c0) (F116_150 F' t0 t1c0) := by
  unfold F116_150
  repeat' (first | (with_reducible exact Le.refl _) | refine F116_150_l0_le h _ _ _ | refine F150_le h _ _ | refine Le.ite ?_ ?_ | refine Le.bind ?_ ?_ | refine Le.iter (fun _ => ?_) h | intro _ | split)
theorem F36_l0_le {F F' : Nat} (h : F ≤ F') (t0 : Int) (s15 : Int × (List Int)) (s21 : Int × (List Int)) : Le (F36_l0 F t0 s15 s21) (F36_l0 F' t0 s15 s21) := by
  unfold F36_l0
  repeat' (first | (with_reducible exact Le.refl _) | refine Le.ite ?_ ?_ | refine Le.bind ?_ ?_ | refine Le.iter (fun _ => ?_) h | intro _ | split)
theorem F36_l1_le {F F' : Nat} (h : F ≤ F') (t0 : Int) (t1 : Int) (s15 : Int × (List Int)) : Le (F36_l1 F t0 t1 s15) (F36_l1 F' t0 t1 s15) := by
  unfold F36_l1
  repeat' (first | (with_reducible exact Le.refl _) | refine F36_l0_le h _ _ _ | refine Le.ite ?_ ?_ | refine Le.bind ?_ ?_ | refine Le.iter (fun _ => ?_) h | intro _ | split)
theorem F36_le {F F' : Nat} (h : F ≤ F') (t0 : Int) (t1 : Int) : Le (F36 F t0 t1) (F36 F' t0 t1) := by
  unfold F36
  repeat' (first | (with_reducible exact Le.refl _) | refine F36_l0_le h _ _ _ | refine F36_l1_le h _ _ _ | refine Le.ite ?_ ?_ | refine Le.bind ?_ ?_ | refine Le.iter (fun _ => ?_) h | intro _ | split)
theorem F42_l0_le {F F' : Nat} (h : F ≤ F') (t0 : List Int) (s1 : Int × Int) : Le (F42_l0 F t0 s1) (F42_l0 F' t0 s1) := by
  unfold F42_l0
  repeat' (first | (with_reducible exact Le.refl _) | refine Le.ite ?_ ?_ | refine Le.bind ?_ ?_ | refine Le.iter (fun _ => ?_) h | intro _ | split)
theorem F42_le {F F' : Nat} (h : F ≤ F') (t0 : List Int) : Le (F42 F t0) (F42 F' t0) := by
  unfold F42
  repeat' (first | (with_reducible exact Le.refl _) | refine F42_l0_le h _ _ | refine Le.ite ?_ ?_ | refine Le.bind ?_ ?_ | refine Le.iter (fun _ => ?_) h | intro _ | split)
theorem F37_l0_le {F F' : Nat} (h : F ≤ F') (x16 : Int) (s18 : (List Int)) : Le (F37_l0 F x16 s18) (F37_l0 F' x16 s18) := by
  unfold F37_l0
  repeat' (first | (with_reducible exact Le.refl _) | refine F42_le h _ | refine Le.ite ?_ ?_ | refine Le.bind ?_ ?_ | refine Le.iter (fun _ => ?_) h | intro _ | split)
theorem F37_l1_le {F F' : Nat} (h : F ≤ F') (x16 : Int) (s43 : Int × (List Int)) : Le (F37_l1 F x16 s43) (F37_l1 F' x16 s43) := by
  unfold F37_l1
  repeat' (first | (with_reducible exact Le.refl _) | refine F37_l0_le h _ _ | refine F42_le h _ | refine Le.ite ?_ ?_ | refine Le.bind ?_ ?_ | refine Le.iter (fun _ => ?_) h | intro _ | split)
theorem F37_l2_le {F F' : Nat} (h : F ≤ F') (t0 : List Int) (s6 : (List Int) × Int) : Le (F37_l2 F t0 s6) (F37_l2 F' t0 s6) := by
  unfold F37_l2
  repeat' (first | (with_reducible exact Le.refl _) | refine F37_l0_le h _ _ | refine F37_l1_le h _ _ | refine F42_le h _ | refine Le.ite ?_ ?_ | refine Le.bind ?_ ?_ | refine Le.iter (fun _ => ?_) h | intro _ | split)
theorem F37_le {F F' : Nat} (h : F ≤ F') (t0 : List Int) : Le (F37 F t0) (F37 F' t0) := by
  unfold F37
  repeat' (first | (with_reducible exact Le.refl _) | refine F37_l0_le h _ _ | refine F37_l1_le h _ _ | refine F37_l2_le h _ _ | refine F42_le h _ | refine Le.ite ?_ ?_ | refine Le.bind ?_ ?_ | refine Le.iter (fun _ => ?_) h | intro _ | split)
theorem F177_le {F F' : Nat} (h : F ≤ F') (t0 : Int) : Le (F177 F t0) (F177 F' t0) := by
  unfold F177
  repeat' (first | (with_reducible exact Le.refl _) | refine Le.ite ?_ ?_ | refine Le.bind ?_ ?_ | refine Le.iter (fun _ => ?_) h | intro _ | split)
theorem F178_le {F F' : Nat} (h : F ≤ F') (t0 : Int) : Le (F178 F t0) (F178 F' t0) := by
  unfold F178
  repeat' (first | (with_reducible exact Le.refl _) | refine Le.ite ?_ ?_ | refine Le.bind ?_ ?_ | refine Le.iter (fun _ => ?_) h | intro _ | split)
theorem F155_le {F F' : Nat} (h : F ≤ F') (t0 : Int) : Le (F155 F t0) (F155 F' t0) := by
  unfold F155
  repeat' (first | (with_reducible exact Le.refl _) | refine F177_le h _ | refine F178_le h _ | refine Le.ite ?_ ?_ | refine Le.bind ?_ ?_ | refine Le.iter (fun _ => ?_) h | intro _ | split)
theorem F111_le {F F' : Nat} (h : F ≤ F') (t0 : Int) (t1 : Int) : Le (F111 F t0 t1) (F111 F' t0 t1) := by
  unfold F111
  repeat' (first | (with_reducible exact Le.refl _) | refine Le.ite ?_ ?_ | refine Le.bind ?_ ?_ | refine Le.iter (fun _ => ?_) h | intro _ | split)
theorem F169_111_l0_le {F F' : Nat} (h : F ≤ F') (t1 : Int) (s7 : Int × (List Int)) : Le (F169_111_l0 F t1 s7) (F169_111_l0 F' t1 s7) := by
  unfold F169_111_l0
  repeat' (first | (with_reducible exact Le.refl _) | refine F111_le h _ _ | refine Le.ite ?_ ?_ | refine Le.bind ?_ ?_ | refine Le.iter (fun _ => ?_) h | intro _ | split)
theorem F169_111_l1_le {F F' : Nat} (h : F ≤ F') (t1 : Int) (t2 : Int) (s1 : Int × (List Int)) : Le (F169_111_l1 F t1 t2 s1) (F169_111_l1 F' t1 t2 s1) := by
  unfold F169_111_l1
  repeat' (first | (with_reducible exact Le.refl _) | refine F111_le h _ _ | refine F169_111_l0_le h _ _ | refine Le.ite ?_ ?_ | refine Le.bind ?_ ?_ | refine Le.iter (fun _ => ?_) h | intro _ | split)
theorem F169_111_le {F F' : Nat} (h : F ≤ F') (t0 : List Int) (t1 : Int) (t2 : Int) : Le (F169_111 F t0 t1 t2) (F169_111 F' t0 t1 t2) := by
  unfold F169_111
  repeat' (first | (with_reducible exact Le.refl _) | refine F111_le h _ _ | refine F169_111_l0_le h _ _ | refine F169_111_l1_le h _ _ _ | refine Le.ite ?_ ?_ | refine Le.bind ?_ ?_ | refine Le.iter (fun _ => ?_) h | intro _ | split)
theorem F154_111_l0_le {F F' : Nat} (h : F ≤ F')  (s1 : Int × Int × Int × Bool × Bool × (List Int)) : Le (F154_111_l0 F s1) (F154_111_l0 F' s1) := by
  unfold F154_111_l0
  repeat' (first | (with_reducible exact Le.refl _) | refine F169_111_le h _ _ _ | refine Le.ite ?_ ?_ | refine Le.bind ?_ ?_ | refine Le.iter (fun _ => ?_) h | intro _ | split)
theorem F154_111_le {F F' : Nat} (h : F ≤ F') (t0 : List Int) (t1 : Int) (t2 : Int) (t3 : Int) : Le (F154_111 F t0 t1 t2 t3) (F154_111 F' t0 t1 t2 t3) := by
  unfold F154_111
  repeat' (first | (with_reducible exact Le.refl _) | refine F154_111_l0_le h _ | refine F169_111_le h _ _ _ | refine Le.ite ?_ ?_ | refine Le.bind ?_ ?_ | refine Le.iter (fun _ => ?_) h | intro _ | split)
theorem F110_111_le {F F' : Nat} (h : F ≤ F') (t0 : List Int) : Le (F110_111 F t0) (F110_111 F' t0) := by
  unfold F110_111
  repeat' (first | (with_reducible exact Le.refl _) | refine F154_111_le h _ _ _ _ | refine F155_le h _ | refine Le.ite ?_ ?_ | refine Le.bind ?_ ?_ | refine Le.iter (fun _ => ?_) h | intro _ | split)
theorem F38_l0_le {F F' : Nat} (h : F ≤ F')  (s27 : Int × Int) : Le (F38_l0 F s27) (F38_l0 F' s27) := by
  unfold F38_l0
  repeat' (first | (with_reducible exact Le.refl _) | refine F110_111_le h _ | refine F42_le h _ | refine Le.ite ?_ ?_ | refine Le.bind ?_ ?_ | refine Le.iter (fun _ => ?_) h | intro _ | split)
theorem F38_l1_le {F F' : Nat} (h : F ≤ F') (b33 : Int × Int) (s37 : (List Int) × Int) : Le (F38_l1 F b33 s37) (F38_l1 F' b33 s37) := by
  unfold F38_l1
  repeat' (first | (with_reducible exact Le.refl _) | refine F110_111_le h _ | refine F38_l0_le h _ | refine F42_le h _ | refine Le.ite ?_ ?_ | refine Le.bind ?_ ?_ | refine Le.iter (fun _ => ?_) h | intro _ | split)
theorem F38_l2_le {F F' : Nat} (h : F ≤ F') (t0 : List Int) (s6 : (List Int) × Int) : Le (F38_l2 F t0 s6) (F38_l2 F' t0 s6) := by
  unfold F38_l2
  repeat' (first | (with_reducible exact Le.refl _) | refine F110_111_le h _ | refine F38_l0_le h _ | refine F38_l1_le h _ _ | refine F42_le h _ | refine Le.ite ?_ ?_ | refine Le.bind ?_ ?_ | refine Le.iter (fun _ => ?_) h | intro _ | split)
theorem F38_le {F F' : Nat} (h : F ≤ F') (t0 : List Int) : Le (F38 F t0) (F38 F' t0) := by
  unfold F38
  repeat' (first | (with_reducible exact Le.refl _) | refine F110_111_le h _ | refine F38_l0_le h _ | refine F38_l1_le h _ _ | refine F38_l2_le h _ _ | refine F42_le h _ | refine Le.ite ?_ ?_ | refine Le.bind ?_ ?_ | refine Le.iter (fun _ => ?_) h | intro _ | split)
theorem F160_le {F F' : Nat} (h : F ≤ F') (t0 : (List (List UInt8))) : Le (F160 F t0) (F160 F' t0) := by
  unfold F160
  repeat' (first | (with_reducible exact Le.refl _) | refine Le.ite ?_ ?_ | refine Le.bind ?_ ?_ | refine Le.iter (fun _ => ?_) h | intro _ | split)
theorem F61_l0_le {F F' : Nat} (h : F ≤ F') (L1 : List Int) (s7 : Int × Int) : Le (F61_l0 F L1 s7) (F61_l0 F' L1 s7) := by
  unfold F61_l0
  repeat' (first | (with_reducible exact Le.refl _) | refine Le.ite ?_ ?_ | refine Le.bind ?_ ?_ | refine Le.iter (fun _ => ?_) h | intro _ | split)
theorem F61_le {F F' : Nat} (h : F ≤ F') (t0 : List UInt8) : Le (F61 F t0) (F61 F' t0) := by
  unfold F61
  repeat' (first | (with_reducible exact Le.refl _) | refine F61_l0_le h _ _ | refine Le.ite ?_ ?_ | refine Le.bind ?_ ?_ | refine Le.iter (fun _ => ?_) h | intro _ | split)
theorem F132_le {F F' : Nat} (h : F ≤ F') (t0 : List UInt8) (t1 : List UInt8) : Le (F132 F t0 t1) (F132 F' t0 t1) := by
  unfold F132
  repeat' (first | (with_reducible exact Le.refl _) | refine F61_le h _ | refine Le.ite ?_ ?_ | refine Le.bind ?_ ?_ | refine Le.iter (fun _ => ?_) h | intro _ | split)
theorem F208_132_l0_le {F F' : Nat} (h : F ≤ F') (t1 : Int) (s7 : Int × (List (List UInt8))) : Le (F208_132_l0 F t1 s7) (F208_132_l0 F' t1 s7) := by
  unfold F208_132_l0
  repeat' (first | (with_reducible exact Le.refl _) | refine F132_le h _ _ | refine Le.ite ?_ ?_ | refine Le.bind ?_ ?_ | refine Le.iter (fun _ => ?_) h | intro _ | split)
theorem F208_132_l1_le {F F' : Nat} (h : F ≤ F') (t1 : Int) (t2 : Int) (s1 : Int × (List (List UInt8))) : Le (F208_132_l1 F t1 t2 s1) (F208_132_l1 F' t1 t2 s1) := by
  unfold F208_132_l1
  repeat' (first | (with_reducible exact Le.refl _) | refine F132_le h _ _ | refine F208_132_l0_le h _ _ | refine Le.ite ?_ ?_ | refine Le.bind ?_ ?_ | refine Le.iter (fun _ => ?_) h | intro _ | split)
theorem F208_132_le {F F' : Nat} (h : F ≤ F') (t0 : List (List UInt8)) (t1 : Int) (t2 : Int) : Le (F208_132 F t0 t1 t2) (F208_132 F' t0 t1 t2) := by
  unfold F208_132
  repeat' (first | (with_reducible exact Le.refl _) | refine F132_le h _ _ | refine F208_132_l0_le h _ _ | refine F208_132_l1_le h _ _ _ | refine Le.ite ?_ ?_ | refine Le.bind ?_ ?_ | refine Le.iter (fun _ => ?_) h | intro _ | split)
theorem F195_132_l0_le {F F' : Nat} (h : F ≤ F')  (s1 : Int × Int × Int × Bool × Bool × (List (List UInt8))) : Le (F195_132_l0 F s1) (F195_132_l0 F' s1) := by
  unfold F195_132_l0
  repeat' (first | (with_reducible exact Le.refl _) | refine F208_132_le h _ _ _ | refine Le.ite ?_ ?_ | refine Le.bind ?_ ?_ | refine Le.iter (fun _ => ?_) h | intro _ | split)
theorem F195_132_le {F F' : Nat} (h : F ≤ F') (t0 : List (List UInt8)) (t1 : Int) (t2 : Int) (t3 : Int) : Le (F195_132 F t0 t1 t2 t3) (F195_132 F' t0 t1 t2 t3) := by
  unfold F195_132
  repeat' (first | (with_reducible exact Le.refl _) | refine F195_132_l0_le h _ | refine F208_132_le h _ _ _ | refine Le.ite ?_ ?_ | refine Le.bind ?_ ?_ | refine Le.iter (fun _ => ?_) h | intro _ | split)
theorem F161_132_le {F F' : Nat} (h : F ≤ F') (t0 : List (List UInt8)) : Le (F161_132 F t0) (F161_132 F' t0) := by
  unfold F161_132
  repeat' (first | (with_reducible exact Le.refl _) | refine F155_le h _ | refine F195_132_le h _ _ _ _ | refine Le.ite ?_ ?_ | refine Le.bind ?_ ?_ | refine Le.iter (fun _ => ?_) h | intro _ | split)
theorem F135_le {F F' : Nat} (h : F ≤ F') (t0 : Int) (t1 : Int) : Le (F135 F t0 t1) (F135 F' t0 t1) := by
  unfold F135
  repeat' (first | (with_reducible exact Le.refl _) | refine Le.ite ?_ ?_ | refine Le.bind ?_ ?_ | refine Le.iter (fun _ => ?_) h | intro _ | split)
theorem F71_le {F F' : Nat} (h : F ≤ F') (t0 : Int) (t1 : Int) : Le (F71 F t0 t1) (F71 F' t0 t1) := by
  unfold F71
  repeat' (first | (with_reducible exact Le.refl _) | refine F135_le h _ _ | refine Le.ite ?_ ?_ | refine Le.bind ?_ ?_ | refine Le.iter (fun _ => ?_) h | intro _ | split)
theorem F136_l0_le {F F' : Nat} (h : F ≤ F') (t0 : Int) (s1 : Int × Int) : Le (F136_l0 F t0 s1) (F136_l0 F' t0 s1) := by
  unfold F136_l0
  repeat' (first | (with_reducible exact Le.refl _) | refine Le.ite ?_ ?_ | refine Le.bind ?_ ?_ | refine Le.iter (fun _ => ?_) h | intro _ | split)
theorem F136_le {F F' : Nat} (h : F ≤ F') (t0 : Int) : Le (F136 F t0) (F136 F' t0) := by
  unfold F136
  repeat' (first | (with_reducible exact Le.refl _) | refine F136_l0_le h _ _ | refine Le.ite ?_ ?_ | refine Le.bind ?_ ?_ | refine Le.iter (fun _ => ?_) h | intro _ | split)
theorem F72_le {F F' : Nat} (h : F ≤ F') (t0 : Int) : Le (F72 F t0) (F72 F' t0) := by
  unfold F72
  repeat' (first | (with_reducible exact Le.refl _) | refine F136_le h _ | refine Le.ite ?_ ?_ | refine Le.bind ?_ ?_ | refine Le.iter (fun _ => ?_) h | intro _ | split)
theorem F159_le {F F' : Nat} (h : F ≤ F') (t0 : Int) (t1 : Int) : Le (F159 F t0 t1) (F159 F' t0 t1) := by
  unfold F159
  repeat' (first | (with_reducible exact Le.refl _) | refine Le.ite ?_ ?_ | refine Le.bind ?_ ?_ | refine Le.iter (fun _ => ?_) h | intro _ | split)
theorem F169_159_l0_le {F F' : Nat} (h : F ≤ F') (t1 : Int) (s7 : Int × (List Int)) : Le (F169_159_l0 F t1 s7) (F169_159_l0 F' t1 s7) := by
  unfold F169_159_l0
  repeat' (first | (with_reducible exact Le.refl _) | refine F159_le h _ _ | refine Le.ite ?_ ?_ | refine Le.bind ?_ ?_ | refine Le.iter (fun _ => ?_) h | intro _ | split)
theorem F169_159_l1_le {F F' : Nat} (h : F ≤ F') (t1 : Int) (t2 : Int) (s1 : Int × (List Int)) : Le (F169_159_l1 F t1 t2 s1) (F169_159_l1 F' t1 t2 s1) := by
  unfold F169_159_l1
  repeat' (first | (with_reducible exact Le.refl _) | refine F159_le h _ _ | refine F169_159_l0_le h _ _ | refine Le.ite ?_ ?_ | refine Le.bind ?_ ?_ | refine Le.iter (fun _ => ?_) h | intro _ | split)
theorem F169_159_le {F F' : Nat} (h : F ≤ F') (t0 : List Int) (t1 : Int) (t2 : Int) : Le (F169_159 F t0 t1 t2) (F169_159 F' t0 t1 t2) := by
  unfold F169_159
  repeat' (first | (with_reducible exact Le.refl _) | refine F159_le h _ _ | refine F169_159_l0_le h _ _ | refine F169_159_l1_le h _ _ _ | refine Le.ite ?_ ?_ | refine Le.bind ?_ ?_ | refine Le.iter (fun _ => ?_) h | intro _ | split)
theorem F154_159_l0_le {F F' : Nat} (h : F ≤ F')  (s1 : Int × Int × Int × Bool × Bool × (List Int)) : Le (F154_159_l0 F s1) (F154_159_l0 F' s1) := by
  unfold F154_159_l0
  repeat' (first | (with_reducible exact Le.refl _) | refine F169_159_le h _ _ _ | refine Le.ite ?_ ?_ | refine Le.bind ?_ ?_ | refine Le.iter (fun _ => ?_) h | intro _ | split)
theorem F154_159_le {F F' : Nat} (h : F ≤ F') (t0 : List Int) (t1 : Int) (t2 : Int) (t3 : Int) : Le (F154_159 F t0 t1 t2 t3) (F154_159 F' t0 t1 t2 t3) := by
  unfold F154_159
  repeat' (first | (with_reducible exact Le.refl _) | refine F154_159_l0_le h _ | refine F169_159_le h _ _ _ | refine Le.ite ?_ ?_ | refine Le.bind ?_ ?_ | refine Le.iter (fun _ => ?_) h | intro _ | split)
theorem F110_159_le {F F' : Nat} (h : F ≤ F') (t0 : List Int) : Le (F110_159 F t0) (F110_159 F' t0) := by
  unfold F110_159
  repeat' (first | (with_reducible exact Le.refl _) | refine F154_159_le h _ _ _ _ | refine F155_le h _ | refine Le.ite ?_ ?_ | refine Le.bind ?_ ?_ | refine Le.iter (fun _ => ?_) h | intro _ | split)
theorem F122_l0_le {F F' : Nat} (h : F ≤ F') (t0 : List Int) (s20 : Int × Int × (List Bool)) : Le (F122_l0 F t0 s20) (F122_l0 F' t0 s20) := by
  unfold F122_l0
  repeat' (first | (with_reducible exact Le.refl _) | refine F101_le h _ | refine F110_159_le h _ | refine Le.ite ?_ ?_ | refine Le.bind ?_ ?_ | refine Le.iter (fun _ => ?_) h | intro _ | split)
theorem F122_l1_le {F F' : Nat} (h : F ≤ F') (t0 : List Int) (s10 : (List Int) × Int × (List Bool)) : Le (F122_l1 F t0 s10) (F122_l1 F' t0 s10) := by
  unfold F122_l1
  repeat' (first | (with_reducible exact Le.refl _) | refine F101_le h _ | refine F110_159_le h _ | refine F122_l0_le h _ _ | refine Le.ite ?_ ?_ | refine Le.bind ?_ ?_ | refine Le.iter (fun _ => ?_) h | intro _ | split)
theorem F122_le {F F' : Nat} (h : F ≤ F') (t0 : List Int) : Le (F122 F t0) (F122 F' t0) := by
  unfold F122
  repeat' (first | (with_reducible exact Le.refl _) | refine F101_le h _ | refine F110_159_le h _ | refine F122_l0_le h _ _ | refine F122_l1_le h _ _ | refine Le.ite ?_ ?_ | refine Le.bind ?_ ?_ | refine Le.iter (fun _ => ?_) h | intro _ | split)
theorem F137_l0_le {F F' : Nat} (h : F ≤ F')  (s16 : Int × Int) : Le (F137_l0 F s16) (F137_l0 F' s16) := by
  unfold F137_l0
  repeat' (first | (with_reducible exact Le.refl _) | refine F122_le h _ | refine Le.ite ?_ ?_ | refine Le.bind ?_ ?_ | refine Le.iter (fun _ => ?_) h | intro _ | split)
theorem F137_l1_le {F F' : Nat} (h : F ≤ F') (r1 : (List Int) × Int) (s8 : Int × Int) : Le (F137_l1 F r1 s8) (F137_l1 F' r1 s8) := by
  unfold F137_l1
  repeat' (first | (with_reducible exact Le.refl _) | refine F122_le h _ | refine F137_l0_le h _ | refine Le.ite ?_ ?_ | refine Le.bind ?_ ?_ | refine Le.iter (fun _ => ?_) h | intro _ | split)
theorem F137_le {F F' : Nat} (h : F ≤ F') (t0 : List Int) : Le (F137 F t0) (F137 F' t0) := by
  unfold F137
  repeat' (first | (with_reducible exact Le.refl _) | refine F122_le h _ | refine F137_l0_le h _ | refine F137_l1_le h _ _ | refine Le.ite ?_ ?_ | refine Le.bind ?_ ?_ | refine Le.iter (fun _ => ?_) h | intro _ | split)
theorem F196_le {F F' : Nat} (h : F ≤ F') (t0 : Int × Int) : Le (F196 F t0) (F196 F' t0) := by
  unfold F196
  repeat' (first | (with_reducible exact Le.refl _) | refine F166_le h _ _ | refine Le.ite ?_ ?_ | refine Le.bind ?_ ?_ | refine Le.iter (fun _ => ?_) h | intro _ | split)
theorem F163_le {F F' : Nat} (h : F ≤ F') (t0 : Int × Int) (t1 : Int × Int) : Le (F163 F t0 t1) (F163 F' t0 t1) := by
  unfold F163
  repeat' (first | (with_reducible exact Le.refl _) | refine F196_le h _ | refine Le.ite ?_ ?_ | refine Le.bind ?_ ?_ | refine Le.iter (fun _ => ?_) h | intro _ | split)
theorem F138_le {F F' : Nat} (h : F ≤ F') (t0 : Int × Int) (t1 : Int × Int) : Le (F138 F t0 t1) (F138 F' t0 t1) := by
  unfold F138
  repeat' (first | (with_reducible exact Le.refl _) | refine F149_le h _ _ | refine F163_le h _ _ | refine Le.ite ?_ ?_ | refine Le.bind ?_ ?_ | refine Le.iter (fun _ => ?_) h | intro _ | split)
theorem F74_l0_le {F F' : Nat} (h : F ≤ F') (s15 : Int × (List Int)) (s21 : Int × (List Int)) : Le (F74_l0 F s15 s21) (F74_l0 F' s15 s21) := by
  unfold F74_l0
  repeat' (first | (with_reducible exact Le.refl _) | refine Le.ite ?_ ?_ | refine Le.bind ?_ ?_ | refine Le.iter (fun _ => ?_) h | intro _ | split)
theorem F74_l1_le {F F' : Nat} (h : F ≤ F') (t0 : Int) (s15 : Int × (List Int)) : Le (F74_l1 F t0 s15) (F74_l1 F' t0 s15) := by
  unfold F74_l1
  repeat' (first | (with_reducible exact Le.refl _) | refine F74_l0_le h _ _ | refine Le.ite ?_ ?_ | refine Le.bind ?_ ?_ | refine Le.iter (fun _ => ?_) h | intro _ | split)
theorem F74_le {F F' : Nat} (h : F ≤ F') (t0 : Int) (t1 : Int) : Le (F74 F t0 t1) (F74 F' t0 t1) := by
  unfold F74
  repeat' (first | (with_reducible exact Le.refl _) | refine F74_l0_le h _ _ | refine F74_l1_le h _ _ | refine Le.ite ?_ ?_ | refine Le.bind ?_ ?_ | refine Le.iter (fun _ => ?_) h | intro _ | split)
theorem F139_l0_le {F F' : Nat} (h : F ≤ F') (t0 : Int) (s3 : Int × Int × Int) : Le (F139_l0 F t0 s3) (F139_l0 F' t0 s3) := by
  unfold F139_l0
  repeat' (first | (with_reducible exact Le.refl _) | refine Le.ite ?_ ?_ | refine Le.bind ?_ ?_ | refine Le.iter (fun _ => ?_) h | intro _ | split)
theorem F139_le {F F' : Nat} (h : F ≤ F') (t0 : Int) : Le (F139 F t0) (F139 F' t0) := by
  unfold F139
  repeat' (first | (with_reducible exact Le.refl _) | refine F139_l0_le h _ _ | refine Le.ite ?_ ?_ | refine Le.bind ?_ ?_ | refine Le.iter (fun _ => ?_) h | intro _ | split)
theorem F75_l0_le {F F' : Nat} (h : F ≤ F') (t0 : Int) (t1 : Int) (s10 : Int × Int) : Le (F75_l0 F t0 t1 s10) (F75_l0 F' t0 t1 s10) := by
  unfold F75_l0
  repeat' (first | (with_reducible exact Le.refl _) | refine F139_le h _ | refine Le.ite ?_ ?_ | refine Le.bind ?_ ?_ | refine Le.iter (fun _ => ?_) h | intro _ | split)
theorem F75_le {F F' : Nat} (h : F ≤ F') (t0 : Int) (t1 : Int) : Le (F75 F t0 t1) (F75 F' t0 t1) := by
  unfold F75
  repeat' (first | (with_reducible exact Le.refl _) | refine F139_le h _ | refine F75_l0_le h _ _ _ | refine Le.ite ?_ ?_ | refine Le.bind ?_ ?_ | refine Le.iter (fun _ => ?_) h | intro _ | split)
theorem F141_le {F F' : Nat} (h : F ≤ F') (t0 : Int) : Le (F141 F t0) (F141 F' t0) := by
  unfold F141
  repeat' (first | (with_reducible exact Le.refl _) | refine Le.ite ?_ ?_ | refine Le.bind ?_ ?_ | refine Le.iter (fun _ => ?_) h | intro _ | split)
theorem F164_141_l0_le {F F' : Nat} (h : F ≤ F') (t0 : List Int) (s1 : Int) : Le (F164_141_l0 F t0 s1) (F164_141_l0 F' t0 s1) := by
  unfold F164_141_l0
  repeat' (first | (with_reducible exact Le.refl _) | refine F141_le h _ | refine Le.ite ?_ ?_ | refine Le.bind ?_ ?_ | refine Le.iter (fun _ => ?_) h | intro _ | split)
theorem F164_141_le {F F' : Nat} (h : F ≤ F') (t0 : List Int) : Le (F164_141 F t0) (F164_141 F' t0) := by
  unfold F164_141
  repeat' (first | (with_reducible exact Le.refl _) | refine F141_le h _ | refine F164_141_l0_le h _ _ | refine Le.ite ?_ ?_ | refine Le.bind ?_ ?_ | refine Le.iter (fun _ => ?_) h | intro _ | split)
theorem F140_141_le {F F' : Nat} (h : F ≤ F') (t0 : List Int) : Le (F140_141 F t0) (F140_141 F' t0) := by
  unfold F140_141
  repeat' (first | (with_reducible exact Le.refl _) | refine F164_141_le h _ | refine Le.ite ?_ ?_ | refine Le.bind ?_ ?_ | refine Le.iter (fun _ => ?_) h | intro _ | split)
theorem F78_l0_le {F F' : Nat} (h : F ≤ F') (t0 : List Int) (s1 : Int × Int) : Le (F78_l0 F t0 s1) (F78_l0 F' t0 s1) := by
  unfold F78_l0
  repeat' (first | (with_reducible exact Le.refl _) | refine Le.ite ?_ ?_ | refine Le.bind ?_ ?_ | refine Le.iter (fun _ => ?_) h | intro _ | split)
theorem F78_l1_le {F F' : Nat} (h : F ≤ F') (b22 : Int) (s25 : Int × Int) : Le (F78_l1 F b22 s25) (F78_l1 F' b22 s25) := by
  unfold F78_l1
  repeat' (first | (with_reducible exact Le.refl _) | refine F78_l0_le h _ _ | refine Le.ite ?_ ?_ | refine Le.bind ?_ ?_ | refine Le.iter (fun _ => ?_) h | intro _ | split)
theorem F78_l2_le {F F' : Nat} (h : F ≤ F') (s43 : Int × Int) (L49 : List Int) (s53 : Int × Int) : Le (F78_l2 F s43 L49 s53) (F78_l2 F' s43 L49 s53) := by
  unfold F78_l2
  repeat' (first | (with_reducible exact Le.refl _) | refine F78_l0_le h _ _ | refine F78_l1_le h _ _ | refine Le.ite ?_ ?_ | refine Le.bind ?_ ?_ | refine Le.iter (fun _ => ?_) h | intro _ | split)
theorem F78_l3_le {F F' : Nat} (h : F ≤ F') (t0 : List Int) (s35 : Int × Int) (x41 : Int) (s43 : Int × Int) : Le (F78_l3 F t0 s35 x41 s43) (F78_l3 F' t0 s35 x41 s43) := by
  unfold F78_l3
  repeat' (first | (with_reducible exact Le.refl _) | refine F78_l0_le h _ _ | refine F78_l1_le h _ _ | refine F78_l2_le h _ _ _ | refine Le.ite ?_ ?_ | refine Le.bind ?_ ?_ | refine Le.iter (fun _ => ?_) h | intro _ | split)
theorem F78_l4_le {F F' : Nat} (h : F ≤ F') (t0 : List Int) (s35 : Int × Int) : Le (F78_l4 F t0 s35) (F78_l4 F' t0 s35) := by
  unfold F78_l4
  repeat' (first | (with_reducible exact Le.refl _) | refine F78_l0_le h _ _ | refine F78_l1_le h _ _ | refine F78_l2_le h _ _ _ | refine F78_l3_le h _ _ _ _ | refine Le.ite ?_ ?_ | refine Le.bind ?_ ?_ | refine Le.iter (fun _ => ?_) h | intro _ | split)
theorem F78_le {F F' : Nat} (h : F ≤ F') (t0 : List Int) : Le (F78 F t0) (F78 F' t0) := by
  unfold F78
  repeat' (first | (with_reducible exact Le.refl _) | refine F78_l0_le h _ _ | refine F78_l1_le h _ _ | refine F78_l2_le h _ _ _ | refine F78_l3_le h _ _ _ _ | refine F78_l4_le h _ _ | refine Le.ite ?_ ?_ | refine Le.bind ?_ ?_ | refine Le.iter (fun _ => ?_) h | intro _ | split)
theorem F45_le {F F' : Nat} (h : F ≤ F') (t0 : (List Int)) : Le (F45 F t0) (F45 F' t0) := by
  unfold F45
  repeat' (first | (with_reducible exact Le.refl _) | refine Le.ite ?_ ?_ | refine Le.bind ?_ ?_ | refine Le.iter (fun _ => ?_) h | intro _ | split)
theorem F77_l0_le {F F' : Nat} (h : F ≤ F') (t0 : Int) (t1 : Int) (t2 : List Int) {frec frec' : Int → Int → (List Int) → Bool → Int → Option (Bool × Int)} (hf : ∀ x0 x1 x2 x3 x4, Le (frec x0 x1 x2 x3 x4) (frec' x0 x1 x2 x3 x4)) (s16 : Int × Bool × Int) : Le (F77_l0 F t0 t1 t2 frec s16) (F77_l0 F' t0 t1 t2 frec' s16) := by
  unfold F77_l0
  repeat' (first | (with_reducible exact Le.refl _) | refine F45_le h _ | refine F78_le h _ | refine hf _ _ _ _ _ | refine Le.ite ?_ ?_ | refine Le.bind ?_ ?_ | refine Le.iter (fun _ => ?_) h | intro _ | split)
theorem F77_le {F F' : Nat} (h : F ≤ F') (x0 : Int) (x1 : Int) (x2 : (List Int)) (x3 : Bool) (x4 : Int) : Le (F77 F x0 x1 x2 x3 x4) (F77 F' x0 x1 x2 x3 x4) := by
  induction F generalizing F' x0 x1 x2 x3 x4 with
  | zero => exact ⟨fun _ h => by cases h⟩
  | succ F ih =>
    cases F' with
    | zero => omega
    | succ F' =>
      rw [F77, F77]
      try dsimp only
      repeat' (first | (with_reducible exact Le.refl _) | refine F45_le (Nat.le_of_succ_le_succ h) _ | refine F77_l0_le (Nat.le_of_succ_le_succ h) _ _ _ ?_ _ | refine F78_le (Nat.le_of_succ_le_succ h) _ | refine ih (Nat.le_of_succ_le_succ h) _ _ _ _ _ | refine Le.ite ?_ ?_ | refine Le.bind ?_ ?_ | refine Le.iter (fun _ => ?_) (Nat.le_of_succ_le_succ h) | (dsimp only; done) | intro _ | split)
theorem F142_l0_le {F F' : Nat} (h : F ≤ F') (s11 : (List Int) × Int) (s27 : Int × (List Int)) : Le (F142_l0 F s11 s27) (F142_l0 F' s11 s27) := by
  unfold F142_l0
  repeat' (first | (with_reducible exact Le.refl _) | refine Le.ite ?_ ?_ | refine Le.bind ?_ ?_ | refine Le.iter (fun _ => ?_) h | intro _ | split)
theorem F142_l1_le {F F' : Nat} (h : F ≤ F') (t1 : Int) (s11 : (List Int) × Int) : Le (F142_l1 F t1 s11) (F142_l1 F' t1 s11) := by
  unfold F142_l1
  repeat' (first | (with_reducible exact Le.refl _) | refine F142_l0_le h _ _ | refine Le.ite ?_ ?_ | refine Le.bind ?_ ?_ | refine Le.iter (fun _ => ?_) h | intro _ | split)
theorem F142_le {F F' : Nat} (h : F ≤ F') (t0 : Int) (t1 : Int) : Le (F142 F t0 t1) (F142 F' t0 t1) := by
  unfold F142
  repeat' (first | (with_reducible exact Le.refl _) | refine F142_l0_le h _ _ | refine F142_l1_le h _ _ | refine Le.ite ?_ ?_ | refine Le.bind ?_ ?_ | refine Le.iter (fun _ => ?_) h | intro _ | split)
theorem F79_le {F F' : Nat} (h : F ≤ F') (t0 : Int) : Le (F79 F t0) (F79 F' t0) := by
  unfold F79
  repeat' (first | (with_reducible exact Le.refl _) | refine F142_le h _ _ | refine Le.ite ?_ ?_ | refine Le.bind ?_ ?_ | refine Le.iter (fun _ => ?_) h | intro _ | split)
theorem F117_le {F F' : Nat} (h : F ≤ F') (t0 : (List Int)) (t1 : Int) (t2 : Int) : Le (F117 F t0 t1 t2) (F117 F' t0 t1 t2) := by
  unfold F117
  repeat' (first | (with_reducible exact Le.refl _) | refine Le.ite ?_ ?_ | refine Le.bind ?_ ?_ | refine Le.iter (fun _ => ?_) h | intro _ | split)
theorem F80_l0_le {F F' : Nat} (h : F ≤ F') (L8 : List Int) (s14 : Int × (List Int)) : Le (F80_l0 F L8 s14) (F80_l0 F' L8 s14) := by
  unfold F80_l0
  repeat' (first | (with_reducible exact Le.refl _) | refine F117_le h _ _ _ | refine F136_le h _ | refine F72_le h _ | refine Le.ite ?_ ?_ | refine Le.bind ?_ ?_ | refine Le.iter (fun _ => ?_) h | intro _ | split)
theorem F80_l1_le {F F' : Nat} (h : F ≤ F')  (s34 : Int × (List Int) × (List Int) × Int) : Le (F80_l1 F s34) (F80_l1 F' s34) := by
  unfold F80_l1
  repeat' (first | (with_reducible exact Le.refl _) | refine F117_le h _ _ _ | refine F136_le h _ | refine F72_le h _ | refine F80_l0_le h _ _ | refine Le.ite ?_ ?_ | refine Le.bind ?_ ?_ | refine Le.iter (fun _ => ?_) h | intro _ | split)
theorem F80_le {F F' : Nat} (h : F ≤ F') (t0 : Int) (t1 : Int) : Le (F80 F t0 t1) (F80 F' t0 t1) := by
  unfold F80
  repeat' (first | (with_reducible exact Le.refl _) | refine F117_le h _ _ _ | refine F136_le h _ | refine F72_le h _ | refine F80_l0_le h _ _ | refine F80_l1_le h _ | refine Le.ite ?_ ?_ | refine Le.bind ?_ ?_ | refine Le.iter (fun _ => ?_) h | intro _ | split)
theorem F143_le {F F' : Nat} (h : F ≤ F') (t0 : List Int) : Le (F143 F t0) (F143 F' t0) := by
  unfold F143
  repeat' (first | (with_reducible exact Le.refl _) | refine Le.ite ?_ ?_ | refine Le.bind ?_ ?_ | refine Le.iter (fun _ => ?_) h | intro _ | split)
theorem F145_le {F F' : Nat} (h : F ≤ F') (t0 : Int) (t1 : Int) : Le (F145 F t0 t1) (F145 F' t0 t1) := by
  unfold F145
  repeat' (first | (with_reducible exact Le.refl _) | refine Le.ite ?_ ?_ | refine Le.bind ?_ ?_ | refine Le.iter (fun _ => ?_) h | intro _ | split)
theorem F144_145_l0_le {F F' : Nat} (h : F ≤ F') (s7 : (List Int) × Int × (List (List Int))) (x17 : Int) (L19 : List Int) (s23 : Int × (List (List Int))) : Le (F144_145_l0 F s7 x17 L19 s23) (F144_145_l0 F' s7 x17 L19 s23) := by
  unfold F144_145_l0
  repeat' (first | (with_reducible exact Le.refl _) | refine F145_le h _ _ | refine F45_le h _ | refine Le.ite ?_ ?_ | refine Le.bind ?_ ?_ | refine Le.iter (fun _ => ?_) h | intro _ | split)
theorem F144_145_l1_le {F F' : Nat} (h : F ≤ F') (t0 : List Int) (s7 : (List Int) × Int × (List (List Int))) : Le (F144_145_l1 F t0 s7) (F144_145_l1 F' t0 s7) := by
  unfold F144_145_l1
  repeat' (first | (with_reducible exact Le.refl _) | refine F144_145_l0_le h _ _ _ _ | refine F145_le h _ _ | refine F45_le h _ | refine Le.ite ?_ ?_ | refine Le.bind ?_ ?_ | refine Le.iter (fun _ => ?_) h | intro _ | split)
theorem F144_145_le {F F' : Nat} (h : F ≤ F') (t0 : List Int) : Le (F144_145 F t0) (F144_145 F' t0) := by
  unfold F144_145
  repeat' (first | (with_reducible exact Le.refl _) | refine F144_145_l0_le h _ _ _ _ | refine F144_145_l1_le h _ _ | refine F145_le h _ _ | refine F45_le h _ | refine Le.ite ?_ ?_ | refine Le.bind ?_ ?_ | refine Le.iter (fun _ => ?_) h | intro _ | split)
theorem F81_le {F F' : Nat} (h : F ≤ F') (t0 : List Int) : Le (F81 F t0) (F81 F' t0) := by
  unfold F81
  repeat' (first | (with_reducible exact Le.refl _) | refine F143_le h _ | refine F144_145_le h _ | refine Le.ite ?_ ?_ | refine Le.bind ?_ ?_ | refine Le.iter (fun _ => ?_) h | intro _ | split)
theorem F146_l0_le {F F' : Nat} (h : F ≤ F') (t0 : List Int) (s3 : Int × Int) : Le (F146_l0 F t0 s3) (F146_l0 F' t0 s3) := by
  unfold F146_l0
  repeat' (first | (with_reducible exact Le.refl _) | refine Le.ite ?_ ?_ | refine Le.bind ?_ ?_ | refine Le.iter (fun _ => ?_) h | intro _ | split)
theorem F146_le {F F' : Nat} (h : F ≤ F') (t0 : List Int) : Le (F146 F t0) (F146 F' t0) := by
  unfold F146
  repeat' (first | (with_reducible exact Le.refl _) | refine F146_l0_le h _ _ | refine Le.ite ?_ ?_ | refine Le.bind ?_ ?_ | refine Le.iter (fun _ => ?_) h | intro _ | split)
theorem F83_l0_le {F F' : Nat} (h : F ≤ F') (t0 : List Int) (s6 : Int × Int) : Le (F83_l0 F t0 s6) (F83_l0 F' t0 s6) := by
  unfold F83_l0
  repeat' (first | (with_reducible exact Le.refl _) | refine F146_le h _ | refine Le.ite ?_ ?_ | refine Le.bind ?_ ?_ | refine Le.iter (fun _ => ?_) h | intro _ | split)
theorem F83_l1_le {F F' : Nat} (h : F ≤ F') (t0 : List Int) (s24 : Int × (List Int)) : Le (F83_l1 F t0 s24) (F83_l1 F' t0 s24) := by
  unfold F83_l1
  repeat' (first | (with_reducible exact Le.refl _) | refine F146_le h _ | refine F83_l0_le h _ _ | refine Le.ite ?_ ?_ | refine Le.bind ?_ ?_ | refine Le.iter (fun _ => ?_) h | intro _ | split)
theorem F83_l2_le {F F' : Nat} (h : F ≤ F') (s52 : Int × (List Int) × (List (Int × Int)) × (List Int)) (s58 : Int × Int × Int) : Le (F83_l2 F s52 s58) (F83_l2 F' s52 s58) := by
  unfold F83_l2
  repeat' (first | (with_reducible exact Le.refl _) | refine F146_le h _ | refine F83_l0_le h _ _ | refine F83_l1_le h _ _ | refine Le.ite ?_ ?_ | refine Le.bind ?_ ?_ | refine Le.iter (fun _ => ?_) h | intro _ | split)
theorem F83_l3_le {F F' : Nat} (h : F ≤ F') (t0 : List Int) (b14 : Int) (s52 : Int × (List Int) × (List (Int × Int)) × (List Int)) : Le (F83_l3 F t0 b14 s52) (F83_l3 F' t0 b14 s52) := by
  unfold F83_l3
  repeat' (first | (with_reducible exact Le.refl _) | refine F146_le h _ | refine F83_l0_le h _ _ | refine F83_l1_le h _ _ | refine F83_l2_le h _ _ | refine Le.ite ?_ ?_ | refine Le.bind ?_ ?_ | refine Le.iter (fun _ => ?_) h | intro _ | split)
theorem F83_le {F F' : Nat} (h : F ≤ F') (t0 : List Int) : Le (F83 F t0) (F83 F' t0) := by
  unfold F83
  repeat' (first | (with_reducible exact Le.refl _) | refine F146_le h _ | refine F83_l0_le h _ _ | refine F83_l1_le h _ _ | refine F83_l2_le h _ _ | refine F83_l3_le h _ _ _ | refine Le.ite ?_ ?_ | refine Le.bind ?_ ?_ | refine Le.iter (fun _ => ?_) h | intro _ | split)
theorem F147_l0_le {F F' : Nat} (h : F ≤ F') (t0 : List Int) (s2 : Int) : Le (F147_l0 F t0 s2) (F147_l0 F' t0 s2) := by
  unfold F147_l0
  repeat' (first | (with_reducible exact Le.refl _) | refine Le.ite ?_ ?_ | refine Le.bind ?_ ?_ | refine Le.iter (fun _ => ?_) h | intro _ | split)
theorem F147_le {F F' : Nat} (h : F ≤ F') (t0 : List Int) : Le (F147 F t0) (F147 F' t0) := by
  unfold F147
  repeat' (first | (with_reducible exact Le.refl _) | refine F147_l0_le h _ _ | refine Le.ite ?_ ?_ | refine Le.bind ?_ ?_ | refine Le.iter (fun _ => ?_) h | intro _ | split)
theorem F165_l0_le {F F' : Nat} (h : F ≤ F') (t0 : Int) (s3 : Int) : Le (F165_l0 F t0 s3) (F165_l0 F' t0 s3) := by
  unfold F165_l0
  repeat' (first | (with_reducible exact Le.refl _) | refine Le.ite ?_ ?_ | refine Le.bind ?_ ?_ | refine Le.iter (fun _ => ?_) h | intro _ | split)
theorem F165_le {F F' : Nat} (h : F ≤ F') (t0 : Int) : Le (F165 F t0) (F165 F' t0) := by
  unfold F165
  repeat' (first | (with_reducible exact Le.refl _) | refine F165_l0_le h _ _ | refine Le.ite ?_ ?_ | refine Le.bind ?_ ?_ | refine Le.iter (fun _ => ?_) h | intro _ | split)
theorem F148_l0_le {F F' : Nat} (h : F ≤ F') (L19 : List Int) (s23 : Int × Int) : Le (F148_l0 F L19 s23) (F148_l0 F' L19 s23) := by
  unfold F148_l0
  repeat' (first | (with_reducible exact Le.refl _) | refine F147_le h _ | refine F165_le h _ | refine Le.ite ?_ ?_ | refine Le.bind ?_ ?_ | refine Le.iter (fun _ => ?_) h | intro _ | split)
theorem F148_l1_le {F F' : Nat} (h : F ≤ F') (t0 : List Int) (t1 : Int) (r6 : Int × Int) (s11 : Int) : Le (F148_l1 F t0 t1 r6 s11) (F148_l1 F' t0 t1 r6 s11) := by
  unfold F148_l1
  repeat' (first | (with_reducible exact Le.refl _) | refine F147_le h _ | refine F148_l0_le h _ _ | refine F165_le h _ | refine Le.ite ?_ ?_ | refine Le.bind ?_ ?_ | refine Le.iter (fun _ => ?_) h | intro _ | split)
theorem F148_le {F F' : Nat} (h : F ≤ F') (t0 : List Int) (t1 : Int) : Le (F148 F t0 t1) (F148 F' t0 t1) := by
  unfold F148
  repeat' (first | (with_reducible exact Le.refl _) | refine F147_le h _ | refine F148_l0_le h _ _ | refine F148_l1_le h _ _ _ _ | refine F165_le h _ | refine Le.ite ?_ ?_ | refine Le.bind ?_ ?_ | refine Le.iter (fun _ => ?_) h | intro _ | split)
theorem F84_l0_le {F F' : Nat} (h : F ≤ F') (t0 : List Int) (t1 : List Int) (s7 : (List Int) × Int × Int) : Le (F84_l0 F t0 t1 s7) (F84_l0 F' t0 t1 s7) := by
  unfold F84_l0
  repeat' (first | (with_reducible exact Le.refl _) | refine F147_le h _ | refine F148_le h _ _ | refine Le.ite ?_ ?_ | refine Le.bind ?_ ?_ | refine Le.iter (fun _ => ?_) h | intro _ | split)
theorem F84_le {F F' : Nat} (h : F ≤ F') (t0 : List Int) (t1 : List Int) : Le (F84 F t0 t1) (F84 F' t0 t1) := by
  unfold F84
  repeat' (first | (with_reducible exact Le.refl _) | refine F147_le h _ | refine F148_le h _ _ | refine F84_l0_le h _ _ _ | refine Le.ite ?_ ?_ | refine Le.bind ?_ ?_ | refine Le.iter (fun _ => ?_) h | intro _ | split)
theorem F85_le {F F' : Nat} (h : F ≤ F') (t0 : List (Int × Int)) (t1 : Int) (t2 : Int) : Le (F85 F t0 t1 t2) (F85 F' t0 t1 t2) := by
  unfold F85
  repeat' (first | (with_reducible exact Le.refl _) | refine Le.ite ?_ ?_ | refine Le.bind ?_ ?_ | refine Le.iter (fun _ => ?_) h | intro _ | split)
theorem F23_l0_le {F F' : Nat} (h : F ≤ F') (t0 : List (Int × Int × Bool × Bool)) (s3 : Int) : Le (F23_l0 F t0 s3) (F23_l0 F' t0 s3) := by
  unfold F23_l0
  repeat' (first | (with_reducible exact Le.refl _) | refine Le.ite ?_ ?_ | refine Le.bind ?_ ?_ | refine Le.iter (fun _ => ?_) h | intro _ | split)
theorem F23_l1_le {F F' : Nat} (h : F ≤ F') (t0 : List (Int × Int × Bool × Bool)) (t1 : List (Int × Int × Int)) (s28 : Int × Int) : Le (F23_l1 F t0 t1 s28) (F23_l1 F' t0 t1 s28) := by
  unfold F23_l1
  repeat' (first | (with_reducible exact Le.refl _) | refine F23_l0_le h _ _ | refine Le.ite ?_ ?_ | refine Le.bind ?_ ?_ | refine Le.iter (fun _ => ?_) h | intro _ | split)
theorem F23_le {F F' : Nat} (h : F ≤ F') (t0 : List (Int × Int × Bool × Bool)) (t1 : List (Int × Int × Int)) : Le (F23 F t0 t1) (F23 F' t0 t1) := by
  unfold F23
  repeat' (first | (with_reducible exact Le.refl _) | refine F23_l0_le h _ _ | refine F23_l1_le h _ _ _ | refine Le.ite ?_ ?_ | refine Le.bind ?_ ?_ | refine Le.iter (fun _ => ?_) h | intro _ | split)
theorem F98_le {F F' : Nat} (h : F ≤ F') (t0 : (List (Int × Int × Bool × Bool))) : Le (F98 F t0) (F98 F' t0) := by
  unfold F98
  repeat' (first | (with_reducible exact Le.refl _) | refine Le.ite ?_ ?_ | refine Le.bind ?_ ?_ | refine Le.iter (fun _ => ?_) h | intro _ | split)
theorem F26_le {F F' : Nat} (h : F ≤ F') (t0 : List Int) (t1 : List Int) : Le (F26 F t0 t1) (F26 F' t0 t1) := by
  unfold F26
  repeat' (first | (with_reducible exact Le.refl _) | refine F21_le h _ _ | refine Le.ite ?_ ?_ | refine Le.bind ?_ ?_ | refine Le.iter (fun _ => ?_) h | intro _ | split)
theorem F29_l0_le {F F' : Nat} (h : F ≤ F') (t0 : List (List Int)) (s1 : Int × Int) : Le (F29_l0 F t0 s1) (F29_l0 F' t0 s1) := by
  unfold F29_l0
  repeat' (first | (with_reducible exact Le.refl _) | refine Le.ite ?_ ?_ | refine Le.bind ?_ ?_ | refine Le.iter (fun _ => ?_) h | intro _ | split)
theorem F29_l1_le {F F' : Nat} (h : F ≤ F') (t0 : List (List Int)) (b11 : Int) (s21 : Int × (List Bool)) (L29 : List Int) (s44 : Int × (List Bool)) : Le (F29_l1 F t0 b11 s21 L29 s44) (F29_l1 F' t0 b11 s21 L29 s44) := by
  unfold F29_l1
  repeat' (first | (with_reducible exact Le.refl _) | refine F29_l0_le h _ _ | refine Le.ite ?_ ?_ | refine Le.bind ?_ ?_ | refine Le.iter (fun _ => ?_) h | intro _ | split)
theorem F29_l2_le {F F' : Nat} (h : F ≤ F') (t0 : List (List Int)) (b11 : Int) (s21 : Int × (List Bool)) : Le (F29_l2 F t0 b11 s21) (F29_l2 F' t0 b11 s21) := by
  unfold F29_l2
  repeat' (first | (with_reducible exact Le.refl _) | refine F29_l0_le h _ _ | refine F29_l1_le h _ _ _ _ _ | refine Le.ite ?_ ?_ | refine Le.bind ?_ ?_ | refine Le.iter (fun _ => ?_) h | intro _ | split)
theorem F29_le {F F' : Nat} (h : F ≤ F') (t0 : List (List Int)) : Le (F29 F t0) (F29 F' t0) := by
  unfold F29
  repeat' (first | (with_reducible exact Le.refl _) | refine F29_l0_le h _ _ | refine F29_l1_le h _ _ _ _ _ | refine F29_l2_le h _ _ _ | refine Le.ite ?_ ?_ | refine Le.bind ?_ ?_ | refine Le.iter (fun _ => ?_) h | intro _ | split)
theorem F103_l0_le {F F' : Nat} (h : F ≤ F') (t0 : List (List Int)) (s1 : (List (List Int)) × Int) : Le (F103_l0 F t0 s1) (F103_l0 F' t0 s1) := by
  unfold F103_l0
  repeat' (first | (with_reducible exact Le.refl _) | refine F45_le h _ | refine Le.ite ?_ ?_ | refine Le.bind ?_ ?_ | refine Le.iter (fun _ => ?_) h | intro _ | split)
theorem F103_le {F F' : Nat} (h : F ≤ F') (t0 : List (List Int)) : Le (F103 F t0) (F103 F' t0) := by
  unfold F103
  repeat' (first | (with_reducible exact Le.refl _) | refine F103_l0_le h _ _ | refine F45_le h _ | refine Le.ite ?_ ?_ | refine Le.bind ?_ ?_ | refine Le.iter (fun _ => ?_) h | intro _ | split)
theorem F152_l0_le {F F' : Nat} (h : F ≤ F') (t0 : List Int) (t1 : Int) (s1 : Int) : Le (F152_l0 F t0 t1 s1) (F152_l0 F' t0 t1 s1) := by
  unfold F152_l0
  repeat' (first | (with_reducible exact Le.refl _) | refine Le.ite ?_ ?_ | refine Le.bind ?_ ?_ | refine Le.iter (fun _ => ?_) h | intro _ | split)
theorem F152_le {F F' : Nat} (h : F ≤ F') (t0 : List Int) (t1 : Int) : Le (F152 F t0 t1) (F152 F' t0 t1) := by
  unfold F152
  repeat' (first | (with_reducible exact Le.refl _) | refine F152_l0_le h _ _ _ | refine Le.ite ?_ ?_ | refine Le.bind ?_ ?_ | refine Le.iter (fun _ => ?_) h | intro _ | split)
theorem F107_le {F F' : Nat} (h : F ≤ F') (t0 : List Int) (t1 : Int) : Le (F107 F t0 t1) (F107 F' t0 t1) := by
  unfold F107
  repeat' (first | (with_reducible exact Le.refl _) | refine F152_le h _ _ | refine Le.ite ?_ ?_ | refine Le.bind ?_ ?_ | refine Le.iter (fun _ => ?_) h | intro _ | split)
theorem F31_l0_le {F F' : Nat} (h : F ≤ F') (t0 : List Int) (s2 : Int) : Le (F31_l0 F t0 s2) (F31_l0 F' t0 s2) := by
  unfold F31_l0
  repeat' (first | (with_reducible exact Le.refl _) | refine F107_le h _ _ | refine Le.ite ?_ ?_ | refine Le.bind ?_ ?_ | refine Le.iter (fun _ => ?_) h | intro _ | split)
theorem F31_le {F F' : Nat} (h : F ≤ F') (t0 : List Int) : Le (F31 F t0) (F31 F' t0) := by
  unfold F31
  repeat' (first | (with_reducible exact Le.refl _) | refine F107_le h _ _ | refine F31_l0_le h _ _ | refine Le.ite ?_ ?_ | refine Le.bind ?_ ?_ | refine Le.iter (fun _ => ?_) h | intro _ | split)
theorem F167_le {F F' : Nat} (h : F ≤ F') (t0 : Int) : Le (F167 F t0) (F167 F' t0) := by
  unfold F167
  repeat' (first | (with_reducible exact Le.refl _) | refine Le.ite ?_ ?_ | refine Le.bind ?_ ?_ | refine Le.iter (fun _ => ?_) h | intro _ | split)
theorem F151_le {F F' : Nat} (h : F ≤ F') (t0 : Int) (t1 : Int) : Le (F151 F t0 t1) (F151 F' t0 t1) := by
  unfold F151
  repeat' (first | (with_reducible exact Le.refl _) | refine F167_le h _ | refine Le.ite ?_ ?_ | refine Le.bind ?_ ?_ | refine Le.iter (fun _ => ?_) h | intro _ | split)
theorem F106_l0_le {F F' : Nat} (h : F ≤ F') (t0 : List Int) (s1 : Int) : Le (F106_l0 F t0 s1) (F106_l0 F' t0 s1) := by
  unfold F106_l0
  repeat' (first | (with_reducible exact Le.refl _) | refine F151_le h _ _ | refine Le.ite ?_ ?_ | refine Le.bind ?_ ?_ | refine Le.iter (fun _ => ?_) h | intro _ | split)
theorem F106_le {F F' : Nat} (h : F ≤ F') (t0 : List Int) : Le (F106 F t0) (F106 F' t0) := by
  unfold F106
  repeat' (first | (with_reducible exact Le.refl _) | refine F106_l0_le h _ _ | refine F151_le h _ _ | refine Le.ite ?_ ?_ | refine Le.bind ?_ ?_ | refine Le.iter (fun _ => ?_) h | intro _ | split)
theorem F30_l0_le {F F' : Nat} (h : F ≤ F') (t0 : List (List Int)) (s1 : (List Int) × Int) : Le (F30_l0 F t0 s1) (F30_l0 F' t0 s1) := by
  unfold F30_l0
  repeat' (first | (with_reducible exact Le.refl _) | refine F106_le h _ | refine F31_le h _ | refine Le.ite ?_ ?_ | refine Le.bind ?_ ?_ | refine Le.iter (fun _ => ?_) h | intro _ | split)
theorem F30_l1_le {F F' : Nat} (h : F ≤ F') (t0 : List (List Int)) (s33 : Int) (L41 : List Int) (s65 : Int) : Le (F30_l1 F t0 s33 L41 s65) (F30_l1 F' t0 s33 L41 s65) := by
  unfold F30_l1
  repeat' (first | (with_reducible exact Le.refl _) | refine F106_le h _ | refine F30_l0_le h _ _ | refine F31_le h _ | refine Le.ite ?_ ?_ | refine Le.bind ?_ ?_ | refine Le.iter (fun _ => ?_) h | intro _ | split)
theorem F30_l2_le {F F' : Nat} (h : F ≤ F') (t0 : List (List Int)) (s33 : Int) : Le (F30_l2 F t0 s33) (F30_l2 F' t0 s33) := by
  unfold F30_l2
  repeat' (first | (with_reducible exact Le.refl _) | refine F106_le h _ | refine F30_l0_le h _ _ | refine F30_l1_le h _ _ _ _ | refine F31_le h _ | refine Le.ite ?_ ?_ | refine Le.bind ?_ ?_ | refine Le.iter (fun _ => ?_) h | intro _ | split)
theorem F30_le {F F' : Nat} (h : F ≤ F') (t0 : List (List Int)) : Le (F30 F t0) (F30 F' t0) := by
  unfold F30
  repeat' (first | (with_reducible exact Le.refl _) | refine F106_le h _ | refine F30_l0_le h _ _ | refine F30_l1_le h _ _ _ _ | refine F30_l2_le h _ _ | refine F31_le h _ | refine Le.ite ?_ ?_ | refine Le.bind ?_ ?_ | refine Le.iter (fun _ => ?_) h | intro _ | split)
theorem F34_21_l0_le {F F' : Nat} (h : F ≤ F') (t0 : List (List Int)) (t1 : List (List Int)) (s2 : Int) : Le (F34_21_l0 F t0 t1 s2) (F34_21_l0 F' t0 t1 s2) := by
  unfold F34_21_l0
  repeat' (first | (with_reducible exact Le.refl _) | refine F21_le h _ _ | refine Le.ite ?_ ?_ | refine Le.bind ?_ ?_ | refine Le.iter (fun _ => ?_) h | intro _ | split)
theorem F34_21_le {F F' : Nat} (h : F ≤ F') (t0 : List (List Int)) (t1 : List (List Int)) : Le (F34_21 F t0 t1) (F34_21 F' t0 t1) := by
  unfold F34_21
  repeat' (first | (with_reducible exact Le.refl _) | refine F21_le h _ _ | refine F34_21_l0_le h _ _ _ | refine Le.ite ?_ ?_ | refine Le.bind ?_ ?_ | refine Le.iter (fun _ => ?_) h | intro _ | split)
theorem F32_le {F F' : Nat} (h : F ≤ F') (t0 : (List (List Int)) × (List (List Int))) (t1 : (List (List Int)) × (List (List Int))) : Le (F32 F t0 t1) (F32 F' t0 t1) := by
  unfold F32
  repeat' (first | (with_reducible exact Le.refl _) | refine F34_21_le h _ _ | refine Le.ite ?_ ?_ | refine Le.bind ?_ ?_ | refine Le.iter (fun _ => ?_) h | intro _ | split)
theorem F168_le {F F' : Nat} (h : F ≤ F') (t0 : Int) : Le (F168 F t0) (F168 F' t0) := by
  unfold F168
  repeat' (first | (with_reducible exact Le.refl _) | refine Le.ite ?_ ?_ | refine Le.bind ?_ ?_ | refine Le.iter (fun _ => ?_) h | intro _ | split)
theorem F153_l0_le {F F' : Nat} (h : F ≤ F') (t0 : List Int) (t1 : Int) (s1 : Int × Int) : Le (F153_l0 F t0 t1 s1) (F153_l0 F' t0 t1 s1) := by
  unfold F153_l0
  repeat' (first | (with_reducible exact Le.refl _) | refine F151_le h _ _ | refine F168_le h _ | refine Le.ite ?_ ?_ | refine Le.bind ?_ ?_ | refine Le.iter (fun _ => ?_) h | intro _ | split)
theorem F153_le {F F' : Nat} (h : F ≤ F') (t0 : List Int) (t1 : Int) : Le (F153 F t0 t1) (F153 F' t0 t1) := by
  unfold F153
  repeat' (first | (with_reducible exact Le.refl _) | refine F151_le h _ _ | refine F153_l0_le h _ _ _ | refine F168_le h _ | refine Le.ite ?_ ?_ | refine Le.bind ?_ ?_ | refine Le.iter (fun _ => ?_) h | intro _ | split)
theorem F108_le {F F' : Nat} (h : F ≤ F') (x0 : (List (List Int))) (x1 : Int) : Le (F108 F x0 x1) (F108 F' x0 x1) := by
  induction F generalizing F' x0 x1 with
  | zero => exact ⟨fun _ h => by cases h⟩
  | succ F ih =>
    cases F' with
    | zero => omega
    | succ F' =>
      rw [F108, F108]
      try dsimp only
      repeat' (first | (with_reducible exact Le.refl _) | refine F153_le (Nat.le_of_succ_le_succ h) _ _ | refine F45_le (Nat.le_of_succ_le_succ h) _ | refine ih (Nat.le_of_succ_le_succ h) _ _ | refine Le.ite ?_ ?_ | refine Le.bind ?_ ?_ | refine Le.iter (fun _ => ?_) (Nat.le_of_succ_le_succ h) | (dsimp only; done) | intro _ | split)
theorem F35_le {F F' : Nat} (h : F ≤ F') (t0 : List Int) (t1 : List Int) : Le (F35 F t0 t1) (F35 F' t0 t1) := by
  unfold F35
  repeat' (first | (with_reducible exact Le.refl _) | refine Le.ite ?_ ?_ | refine Le.bind ?_ ?_ | refine Le.iter (fun _ => ?_) h | intro _ | split)
theorem F40_le {F F' : Nat} (h : F ≤ F') (t0 : Int) (t1 : Int) : Le (F40 F t0 t1) (F40 F' t0 t1) := by
  unfold F40
  repeat' (first | (with_reducible exact Le.refl _) | refine Le.ite ?_ ?_ | refine Le.bind ?_ ?_ | refine Le.iter (fun _ => ?_) h | intro _ | split)
theorem F41_l0_le {F F' : Nat} (h : F ≤ F') (t0 : List Int) (s1 : Int × Int) : Le (F41_l0 F t0 s1) (F41_l0 F' t0 s1) := by
  unfold F41_l0
  repeat' (first | (with_reducible exact Le.refl _) | refine Le.ite ?_ ?_ | refine Le.bind ?_ ?_ | refine Le.iter (fun _ => ?_) h | intro _ | split)
theorem F41_le {F F' : Nat} (h : F ≤ F') (t0 : List Int) : Le (F41 F t0) (F41 F' t0) := by
  unfold F41
  repeat' (first | (with_reducible exact Le.refl _) | refine F41_l0_le h _ _ | refine Le.ite ?_ ?_ | refine Le.bind ?_ ?_ | refine Le.iter (fun _ => ?_) h | intro _ | split)
theorem F43_l0_le {F F' : Nat} (h : F ≤ F') (t0 : List Int) (s1 : (List Int) × Int) (s10 : Int × Int) : Le (F43_l0 F t0 s1 s10) (F43_l0 F' t0 s1 s10) := by
  unfold F43_l0
  repeat' (first | (with_reducible exact Le.refl _) | refine Le.ite ?_ ?_ | refine Le.bind ?_ ?_ | refine Le.iter (fun _ => ?_) h | intro _ | split)
theorem F43_l1_le {F F' : Nat} (h : F ≤ F') (t0 : List Int) (s1 : (List Int) × Int) : Le (F43_l1 F t0 s1) (F43_l1 F' t0 s1) := by
  unfold F43_l1
  repeat' (first | (with_reducible exact Le.refl _) | refine F43_l0_le h _ _ _ | refine Le.ite ?_ ?_ | refine Le.bind ?_ ?_ | refine Le.iter (fun _ => ?_) h | intro _ | split)
theorem F43_le {F F' : Nat} (h : F ≤ F') (t0 : List Int) : Le (F43 F t0) (F43 F' t0) := by
  unfold F43
  repeat' (first | (with_reducible exact Le.refl _) | refine F43_l0_le h _ _ _ | refine F43_l1_le h _ _ | refine Le.ite ?_ ?_ | refine Le.bind ?_ ?_ | refine Le.iter (fun _ => ?_) h | intro _ | split)
theorem F179_l0_le {F F' : Nat} (h : F ≤ F') (t1 : Int) (s7 : Int × (List Int)) : Le (F179_l0 F t1 s7) (F179_l0 F' t1 s7) := by
  unfold F179_l0
  repeat' (first | (with_reducible exact Le.refl _) | refine F151_le h _ _ | refine Le.ite ?_ ?_ | refine Le.bind ?_ ?_ | refine Le.iter (fun _ => ?_) h | intro _ | split)
theorem F179_l1_le {F F' : Nat} (h : F ≤ F') (t1 : Int) (t2 : Int) (s1 : Int × (List Int)) : Le (F179_l1 F t1 t2 s1) (F179_l1 F' t1 t2 s1) := by
  unfold F179_l1
  repeat' (first | (with_reducible exact Le.refl _) | refine F151_le h _ _ | refine F179_l0_le h _ _ | refine Le.ite ?_ ?_ | refine Le.bind ?_ ?_ | refine Le.iter (fun _ => ?_) h | intro _ | split)
theorem F179_le {F F' : Nat} (h : F ≤ F') (t0 : List Int) (t1 : Int) (t2 : Int) : Le (F179 F t0 t1 t2) (F179 F' t0 t1 t2) := by
  unfold F179
  repeat' (first | (with_reducible exact Le.refl _) | refine F151_le h _ _ | refine F179_l0_le h _ _ | refine F179_l1_le h _ _ _ | refine Le.ite ?_ ?_ | refine Le.bind ?_ ?_ | refine Le.iter (fun _ => ?_) h | intro _ | split)
theorem F156_l0_le {F F' : Nat} (h : F ≤ F')  (s1 : Int × Int × Int × Bool × Bool × (List Int)) : Le (F156_l0 F s1) (F156_l0 F' s1) := by
  unfold F156_l0
  repeat' (first | (with_reducible exact Le.refl _) | refine F179_le h _ _ _ | refine Le.ite ?_ ?_ | refine Le.bind ?_ ?_ | refine Le.iter (fun _ => ?_) h | intro _ | split)
theorem F156_le {F F' : Nat} (h : F ≤ F') (t0 : List Int) (t1 : Int) (t2 : Int) (t3 : Int) : Le (F156 F t0 t1 t2 t3) (F156 F' t0 t1 t2 t3) := by
  unfold F156
  repeat' (first | (with_reducible exact Le.refl _) | refine F156_l0_le h _ | refine F179_le h _ _ _ | refine Le.ite ?_ ?_ | refine Le.bind ?_ ?_ | refine Le.iter (fun _ => ?_) h | intro _ | split)
theorem F114_le {F F' : Nat} (h : F ≤ F') (t0 : List Int) : Le (F114 F t0) (F114 F' t0) := by
  unfold F114
  repeat' (first | (with_reducible exact Le.refl _) | refine F155_le h _ | refine F156_le h _ _ _ _ | refine Le.ite ?_ ?_ | refine Le.bind ?_ ?_ | refine Le.iter (fun _ => ?_) h | intro _ | split)
theorem F115_l0_le {F F' : Nat} (h : F ≤ F')  (s1 : Int × Int × (List Int)) : Le (F115_l0 F s1) (F115_l0 F' s1) := by
  unfold F115_l0
  repeat' (first | (with_reducible exact Le.refl _) | refine Le.ite ?_ ?_ | refine Le.bind ?_ ?_ | refine Le.iter (fun _ => ?_) h | intro _ | split)
theorem F115_le {F F' : Nat} (h : F ≤ F') (t0 : List Int) : Le (F115 F t0) (F115 F' t0) := by
  unfold F115
  repeat' (first | (with_reducible exact Le.refl _) | refine F115_l0_le h _ | refine Le.ite ?_ ?_ | refine Le.bind ?_ ?_ | refine Le.iter (fun _ => ?_) h | intro _ | split)
theorem F46_l0_le {F F' : Nat} (h : F ≤ F') (t0 : List Int) {frec frec' : (List Int) → Option ((List Int))} (hf : ∀ x0, Le (frec x0) (frec' x0)) (s1 : (List Int) × Int) : Le (F46_l0 F t0 frec s1) (F46_l0 F' t0 frec' s1) := by
  unfold F46_l0
  repeat' (first | (with_reducible exact Le.refl _) | refine F114_le h _ | refine F115_le h _ | refine hf _ | refine Le.ite ?_ ?_ | refine Le.bind ?_ ?_ | refine Le.iter (fun _ => ?_) h | intro _ | split)
theorem F46_le {F F' : Nat} (h : F ≤ F') (x0 : (List Int)) : Le (F46 F x0) (F46 F' x0) := by
  induction F generalizing F' x0 with
  | zero => exact ⟨fun _ h => by cases h⟩
  | succ F ih =>
    cases F' with
    | zero => omega
    | succ F' =>
      rw [F46, F46]
      try dsimp only
      repeat' (first | (with_reducible exact Le.refl _) | refine F114_le (Nat.le_of_succ_le_succ h) _ | refine F115_le (Nat.le_of_succ_le_succ h) _ | refine F46_l0_le (Nat.le_of_succ_le_succ h) _ ?_ _ | refine ih (Nat.le_of_succ_le_succ h) _ | refine Le.ite ?_ ?_ | refine Le.bind ?_ ?_ | refine Le.iter (fun _ => ?_) (Nat.le_of_succ_le_succ h) | (dsimp only; done) | intro _ | split)
theorem F48_le {F F' : Nat} (h : F ≤ F') (t0 : Int) : Le (F48 F t0) (F48 F' t0) := by
  unfold F48
  repeat' (first | (with_reducible exact Le.refl _) | refine Le.ite ?_ ?_ | refine Le.bind ?_ ?_ | refine Le.iter (fun _ => ?_) h | intro _ | split)
theorem F49_l0_le {F F' : Nat} (h : F ≤ F') (r16 : (List Int)) (s20 : Int × Int) : Le (F49_l0 F r16 s20) (F49_l0 F' r16 s20) := by
  unfold F49_l0
  repeat' (first | (with_reducible exact Le.refl _) | refine F114_le h _ | refine F115_le h _ | refine F117_le h _ _ _ | refine F45_le h _ | refine Le.ite ?_ ?_ | refine Le.bind ?_ ?_ | refine Le.iter (fun _ => ?_) h | intro _ | split)
theorem F49_l1_le {F F' : Nat} (h : F ≤ F')  (s7 : (List Int)) : Le (F49_l1 F s7) (F49_l1 F' s7) := by
  unfold F49_l1
  repeat' (first | (with_reducible exact Le.refl _) | refine F114_le h _ | refine F115_le h _ | refine F117_le h _ _ _ | refine F45_le h _ | refine F49_l0_le h _ _ | refine Le.ite ?_ ?_ | refine Le.bind ?_ ?_ | refine Le.iter (fun _ => ?_) h | intro _ | split)
theorem F49_le {F F' : Nat} (h : F ≤ F') (t0 : List Int) : Le (F49 F t0) (F49 F' t0) := by
  unfold F49
  repeat' (first | (with_reducible exact Le.refl _) | refine F114_le h _ | refine F115_le h _ | refine F117_le h _ _ _ | refine F45_le h _ | refine F49_l0_le h _ _ | refine F49_l1_le h _ | refine Le.ite ?_ ?_ | refine Le.bind ?_ ?_ | refine Le.iter (fun _ => ?_) h | intro _ | split)
theorem F124_le {F F' : Nat} (h : F ≤ F') (t0 : List Int) (c0 : Int) : Le (F124 F t0 c0) (F124 F' t0 c0) := by
  unfold F124
  repeat' (first | (with_reducible exact Le.refl _) | refine F31_le h _ | refine Le.ite ?_ ?_ | refine Le.bind ?_ ?_ | refine Le.iter (fun _ => ?_) h | intro _ | split)
theorem F104_124_l0_le {F F' : Nat} (h : F ≤ F') (t0 : List (List Int)) (t1c0 : Int) (s1 : Int) : Le (F104_124_l0 F t0 t1c0 s1) (F104_124_l0 F' t0 t1c0 s1) := by
  unfold F104_124_l0
  repeat' (first | (with_reducible exact Le.refl _) | refine F124_le h _ _ | refine Le.ite ?_ ?_ | refine Le.bind ?_ ?_ | refine Le.iter (fun _ => ?_) h | intro _ | split)
theorem F104_124_le {F F' : Nat} (h : F ≤ F') (t0 : List (List Int)) (t1c0 : Int) : Le (F104_124 F t0 t1c0) (F104_124 F' t0 t1c0) := by
  unfold F104_124
  repeat' (first | (with_reducible exact Le.refl _) | refine F104_124_l0_le h _ _ _ | refine F124_le h _ _ | refine Le.ite ?_ ?_ | refine Le.bind ?_ ?_ | refine Le.iter (fun _ => ?_) h | intro _ | split)
theorem F123_124_le {F F' : Nat} (h : F ≤ F') (t0 : List (List Int)) (t1c0 : Int) : Le (F123_124 F t0 t1c0) (F123_124 F' t0 t1c0) := by
  unfold F123_124
  repeat' (first | (with_reducible exact Le.refl _) | refine F104_124_le h _ _ | refine Le.ite ?_ ?_ | refine Le.bind ?_ ?_ | refine Le.iter (fun _ => ?_) h | intro _ | split)
theorem F53_le {F F' : Nat} (h : F ≤ F') (t0 : Int) (t1 : List (List Int)) : Le (F53 F t0 t1) (F53 F' t0 t1) := by
  unfold F53
  repeat' (first | (with_reducible exact Le.refl _) | refine F123_124_le h _ _ | refine Le.ite ?_ ?_ | refine Le.bind ?_ ?_ | refine Le.iter (fun _ => ?_) h | intro _ | split)
theorem F54_l0_le {F F' : Nat} (h : F ≤ F') (t0 : Int) (t1 : List (List Int)) (s4 : Int) : Le (F54_l0 F t0 t1 s4) (F54_l0 F' t0 t1 s4) := by
  unfold F54_l0
  repeat' (first | (with_reducible exact Le.refl _) | refine F101_le h _ | refine Le.ite ?_ ?_ | refine Le.bind ?_ ?_ | refine Le.iter (fun _ => ?_) h | intro _ | split)
theorem F54_le {F F' : Nat} (h : F ≤ F') (t0 : Int) (t1 : List (List Int)) : Le (F54 F t0 t1) (F54 F' t0 t1) := by
  unfold F54
  repeat' (first | (with_reducible exact Le.refl _) | refine F101_le h _ | refine F54_l0_le h _ _ _ | refine Le.ite ?_ ?_ | refine Le.bind ?_ ?_ | refine Le.iter (fun _ => ?_) h | intro _ | split)
theorem F127_l0_le {F F' : Nat} (h : F ≤ F') (t0 : List Int) (s1 : (List Int) × Int) (s13 : Int × Int × Int) : Le (F127_l0 F t0 s1 s13) (F127_l0 F' t0 s1 s13) := by
  unfold F127_l0
  repeat' (first | (with_reducible exact Le.refl _) | refine F114_le h _ | refine F115_le h _ | refine Le.ite ?_ ?_ | refine Le.bind ?_ ?_ | refine Le.iter (fun _ => ?_) h | intro _ | split)
theorem F127_l1_le {F F' : Nat} (h : F ≤ F') (t0 : List Int) (s1 : (List Int) × Int) : Le (F127_l1 F t0 s1) (F127_l1 F' t0 s1) := by
  unfold F127_l1
  repeat' (first | (with_reducible exact Le.refl _) | refine F114_le h _ | refine F115_le h _ | refine F127_l0_le h _ _ _ | refine Le.ite ?_ ?_ | refine Le.bind ?_ ?_ | refine Le.iter (fun _ => ?_) h | intro _ | split)
theorem F127_le {F F' : Nat} (h : F ≤ F') (t0 : List Int) : Le (F127 F t0) (F127 F' t0) := by
  unfold F127
  repeat' (first | (with_reducible exact Le.refl _) | refine F114_le h _ | refine F115_le h _ | refine F127_l0_le h _ _ _ | refine F127_l1_le h _ _ | refine Le.ite ?_ ?_ | refine Le.bind ?_ ?_ | refine Le.iter (fun _ => ?_) h | intro _ | split)
theorem F56_l0_le {F F' : Nat} (h : F ≤ F') (t1 : Int) (r11 : (List Int)) (s17 : Int × Int) : Le (F56_l0 F t1 r11 s17) (F56_l0 F' t1 r11 s17) := by
  unfold F56_l0
  repeat' (first | (with_reducible exact Le.refl _) | refine F127_le h _ | refine Le.ite ?_ ?_ | refine Le.bind ?_ ?_ | refine Le.iter (fun _ => ?_) h | intro _ | split)
theorem F56_l1_le {F F' : Nat} (h : F ≤ F') (t0 : List (List Int)) (t1 : Int) (s1 : Int × Int) : Le (F56_l1 F t0 t1 s1) (F56_l1 F' t0 t1 s1) := by
  unfold F56_l1
  repeat' (first | (with_reducible exact Le.refl _) | refine F127_le h _ | refine F56_l0_le h _ _ _ | refine Le.ite ?_ ?_ | refine Le.bind ?_ ?_ | refine Le.iter (fun _ => ?_) h | intro _ | split)
theorem F56_le {F F' : Nat} (h : F ≤ F') (t0 : List (List Int)) (t1 : Int) : Le (F56 F t0 t1) (F56 F' t0 t1) := by
  unfold F56
  repeat' (first | (with_reducible exact Le.refl _) | refine F127_le h _ | refine F56_l0_le h _ _ _ | refine F56_l1_le h _ _ _ | refine Le.ite ?_ ?_ | refine Le.bind ?_ ?_ | refine Le.iter (fun _ => ?_) h | intro _ | split)
theorem F128_l0_le {F F' : Nat} (h : F ≤ F') (t0 : List Int) (t1 : List Int) (s7 : Int × (List Int)) : Le (F128_l0 F t0 t1 s7) (F128_l0 F' t0 t1 s7) := by
  unfold F128_l0
  repeat' (first | (with_reducible exact Le.refl _) | refine Le.ite ?_ ?_ | refine Le.bind ?_ ?_ | refine Le.iter (fun _ => ?_) h | intro _ | split)
theorem F128_le {F F' : Nat} (h : F ≤ F') (t0 : List Int) (t1 : List Int) : Le (F128 F t0 t1) (F128 F' t0 t1) := by
  unfold F128
  repeat' (first | (with_reducible exact Le.refl _) | refine F128_l0_le h _ _ _ | refine Le.ite ?_ ?_ | refine Le.bind ?_ ?_ | refine Le.iter (fun _ => ?_) h | intro _ | split)
theorem F158_le {F F' : Nat} (h : F ≤ F') (t0 : Int) (t1 : Int) : Le (F158 F t0 t1) (F158 F' t0 t1) := by
  unfold F158
  repeat' (first | (with_reducible exact Le.refl _) | refine F167_le h _ | refine Le.ite ?_ ?_ | refine Le.bind ?_ ?_ | refine Le.iter (fun _ => ?_) h | intro _ | split)
theorem F121_l0_le {F F' : Nat} (h : F ≤ F') (t0 : List Int) (t1 : List Int) (s1 : Int) : Le (F121_l0 F t0 t1 s1) (F121_l0 F' t0 t1 s1) := by
  unfold F121_l0
  repeat' (first | (with_reducible exact Le.refl _) | refine F158_le h _ _ | refine Le.ite ?_ ?_ | refine Le.bind ?_ ?_ | refine Le.iter (fun _ => ?_) h | intro _ | split)
theorem F121_le {F F' : Nat} (h : F ≤ F') (t0 : List Int) (t1 : List Int) : Le (F121 F t0 t1) (F121 F' t0 t1) := by
  unfold F121
  repeat' (first | (with_reducible exact Le.refl _) | refine F121_l0_le h _ _ _ | refine F158_le h _ _ | refine Le.ite ?_ ?_ | refine Le.bind ?_ ?_ | refine Le.iter (fun _ => ?_) h | intro _ | split)
theorem F68_l0_le {F F' : Nat} (h : F ≤ F') (t0 : Int × (List (List UInt8))) (s8 : Int) : Le (F68_l0 F t0 s8) (F68_l0 F' t0 s8) := by
  unfold F68_l0
  repeat' (first | (with_reducible exact Le.refl _) | refine F132_le h _ _ | refine Le.ite ?_ ?_ | refine Le.bind ?_ ?_ | refine Le.iter (fun _ => ?_) h | intro _ | split)
theorem F68_le {F F' : Nat} (h : F ≤ F') (t0 : Int × (List (List UInt8))) : Le (F68 F t0) (F68 F' t0) := by
  unfold F68
  repeat' (first | (with_reducible exact Le.refl _) | refine F132_le h _ _ | refine F68_l0_le h _ _ | refine Le.ite ?_ ?_ | refine Le.bind ?_ ?_ | refine Le.iter (fun _ => ?_) h | intro _ | split)
theorem F62_l0_le {F F' : Nat} (h : F ≤ F') (t0 : List UInt8) (s1 : Int × Int) : Le (F62_l0 F t0 s1) (F62_l0 F' t0 s1) := by
  unfold F62_l0
  repeat' (first | (with_reducible exact Le.refl _) | refine Le.ite ?_ ?_ | refine Le.bind ?_ ?_ | refine Le.iter (fun _ => ?_) h | intro _ | split)
theorem F62_le {F F' : Nat} (h : F ≤ F') (t0 : List UInt8) : Le (F62 F t0) (F62 F' t0) := by
  unfold F62
  repeat' (first | (with_reducible exact Le.refl _) | refine F62_l0_le h _ _ | refine Le.ite ?_ ?_ | refine Le.bind ?_ ?_ | refine Le.iter (fun _ => ?_) h | intro _ | split)
theorem F64_le {F F' : Nat} (h : F ≤ F') (t0 : List UInt8) : Le (F64 F t0) (F64 F' t0) := by
  unfold F64
  repeat' (first | (with_reducible exact Le.refl _) | refine Le.ite ?_ ?_ | refine Le.bind ?_ ?_ | refine Le.iter (fun _ => ?_) h | intro _ | split)
theorem F86_l0_le {F F' : Nat} (h : F ≤ F') (t0 : List (List UInt8)) (t1 : List (List UInt8)) (s2 : Int) : Le (F86_l0 F t0 t1 s2) (F86_l0 F' t0 t1 s2) := by
  unfold F86_l0
  repeat' (first | (with_reducible exact Le.refl _) | refine Le.ite ?_ ?_ | refine Le.bind ?_ ?_ | refine Le.iter (fun _ => ?_) h | intro _ | split)
theorem F86_le {F F' : Nat} (h : F ≤ F') (t0 : List (List UInt8)) (t1 : List (List UInt8)) : Le (F86 F t0 t1) (F86 F' t0 t1) := by
  unfold F86
  repeat' (first | (with_reducible exact Le.refl _) | refine F86_l0_le h _ _ _ | refine Le.ite ?_ ?_ | refine Le.bind ?_ ?_ | refine Le.iter (fun _ => ?_) h | intro _ | split)
theorem F65_le {F F' : Nat} (h : F ≤ F') (t0 : List (List UInt8)) (t1 : List (List UInt8)) : Le (F65 F t0 t1) (F65 F' t0 t1) := by
  unfold F65
  repeat' (first | (with_reducible exact Le.refl _) | refine F86_le h _ _ | refine Le.ite ?_ ?_ | refine Le.bind ?_ ?_ | refine Le.iter (fun _ => ?_) h | intro _ | split)
theorem F131_le {F F' : Nat} (h : F ≤ F') (t0 : List UInt8) (t1 : List UInt8) : Le (F131 F t0 t1) (F131 F' t0 t1) := by
  unfold F131
  repeat' (first | (with_reducible exact Le.refl _) | refine F62_le h _ | refine Le.ite ?_ ?_ | refine Le.bind ?_ ?_ | refine Le.iter (fun _ => ?_) h | intro _ | split)
theorem F66_l0_le {F F' : Nat} (h : F ≤ F') (t1 : List (List UInt8)) (s1 : (List (List UInt8))) (s11 : (List UInt8) × Bool × Int) : Le (F66_l0 F t1 s1 s11) (F66_l0 F' t1 s1 s11) := by
  unfold F66_l0
  repeat' (first | (with_reducible exact Le.refl _) | refine F131_le h _ _ | refine Le.ite ?_ ?_ | refine Le.bind ?_ ?_ | refine Le.iter (fun _ => ?_) h | intro _ | split)
theorem F66_l1_le {F F' : Nat} (h : F ≤ F') (t0 : Int) (t1 : List (List UInt8)) (s1 : (List (List UInt8))) : Le (F66_l1 F t0 t1 s1) (F66_l1 F' t0 t1 s1) := by
  unfold F66_l1
  repeat' (first | (with_reducible exact Le.refl _) | refine F131_le h _ _ | refine F66_l0_le h _ _ _ | refine Le.ite ?_ ?_ | refine Le.bind ?_ ?_ | refine Le.iter (fun _ => ?_) h | intro _ | split)
theorem F66_le {F F' : Nat} (h : F ≤ F') (t0 : Int) (t1 : List (List UInt8)) : Le (F66 F t0 t1) (F66 F' t0 t1) := by
  unfold F66
  repeat' (first | (with_reducible exact Le.refl _) | refine F131_le h _ _ | refine F66_l0_le h _ _ _ | refine F66_l1_le h _ _ _ | refine Le.ite ?_ ?_ | refine Le.bind ?_ ?_ | refine Le.iter (fun _ => ?_) h | intro _ | split)
theorem F67_l0_le {F F' : Nat} (h : F ≤ F') (t0 : Int × (List (List UInt8))) (s8 : Int) : Le (F67_l0 F t0 s8) (F67_l0 F' t0 s8) := by
  unfold F67_l0
  repeat' (first | (with_reducible exact Le.refl _) | refine F131_le h _ _ | refine Le.ite ?_ ?_ | refine Le.bind ?_ ?_ | refine Le.iter (fun _ => ?_) h | intro _ | split)
theorem F67_le {F F' : Nat} (h : F ≤ F') (t0 : Int × (List (List UInt8))) : Le (F67 F t0) (F67 F' t0) := by
  unfold F67
  repeat' (first | (with_reducible exact Le.refl _) | refine F131_le h _ _ | refine F67_l0_le h _ _ | refine Le.ite ?_ ?_ | refine Le.bind ?_ ?_ | refine Le.iter (fun _ => ?_) h | intro _ | split)
theorem F134_l0_le {F F' : Nat} (h : F ≤ F') (t0 : List (List UInt8)) (t1 : List UInt8) (s1 : Int) : Le (F134_l0 F t0 t1 s1) (F134_l0 F' t0 t1 s1) := by
  unfold F134_l0
  repeat' (first | (with_reducible exact Le.refl _) | refine Le.ite ?_ ?_ | refine Le.bind ?_ ?_ | refine Le.iter (fun _ => ?_) h | intro _ | split)
theorem F134_le {F F' : Nat} (h : F ≤ F') (t0 : List (List UInt8)) (t1 : List UInt8) : Le (F134 F t0 t1) (F134 F' t0 t1) := by
  unfold F134
  repeat' (first | (with_reducible exact Le.refl _) | refine F134_l0_le h _ _ _ | refine Le.ite ?_ ?_ | refine Le.bind ?_ ?_ | refine Le.iter (fun _ => ?_) h | intro _ | split)
theorem F70_le {F F' : Nat} (h : F ≤ F') (t0 : List (List UInt8)) (t1 : List UInt8) : Le (F70 F t0 t1) (F70 F' t0 t1) := by
  unfold F70
  repeat' (first | (with_reducible exact Le.refl _) | refine F134_le h _ _ | refine Le.ite ?_ ?_ | refine Le.bind ?_ ?_ | refine Le.iter (fun _ => ?_) h | intro _ | split)
theorem F82_l0_le {F F' : Nat} (h : F ≤ F') (t0 : List Int) (s6 : Int) : Le (F82_l0 F t0 s6) (F82_l0 F' t0 s6) := by
  unfold F82_l0
  repeat' (first | (with_reducible exact Le.refl _) | refine F101_le h _ | refine F115_le h _ | refine F45_le h _ | refine Le.ite ?_ ?_ | refine Le.bind ?_ ?_ | refine Le.iter (fun _ => ?_) h | intro _ | split)
theorem F82_l1_le {F F' : Nat} (h : F ≤ F') (b19 : Int) (r24 : List Int) (s30 : Int) : Le (F82_l1 F b19 r24 s30) (F82_l1 F' b19 r24 s30) := by
  unfold F82_l1
  repeat' (first | (with_reducible exact Le.refl _) | refine F101_le h _ | refine F115_le h _ | refine F45_le h _ | refine F82_l0_le h _ _ | refine Le.ite ?_ ?_ | refine Le.bind ?_ ?_ | refine Le.iter (fun _ => ?_) h | intro _ | split)
theorem F82_le {F F' : Nat} (h : F ≤ F') (t0 : List Int) : Le (F82 F t0) (F82 F' t0) := by
  unfold F82
  repeat' (first | (with_reducible exact Le.refl _) | refine F101_le h _ | refine F115_le h _ | refine F45_le h _ | refine F82_l0_le h _ _ | refine F82_l1_le h _ _ _ | refine Le.ite ?_ ?_ | refine Le.bind ?_ ?_ | refine Le.iter (fun _ => ?_) h | intro _ | split)
theorem F97_l0_le {F F' : Nat} (h : F ≤ F') (t0 : List ((Int × Int × Bool × Bool) × Int)) (s1 : Int × Int × Int) : Le (F97_l0 F t0 s1) (F97_l0 F' t0 s1) := by
  unfold F97_l0
  repeat' (first | (with_reducible exact Le.refl _) | refine Le.ite ?_ ?_ | refine Le.bind ?_ ?_ | refine Le.iter (fun _ => ?_) h | intro _ | split)
theorem F97_le {F F' : Nat} (h : F ≤ F') (t0 : List ((Int × Int × Bool × Bool) × Int)) : Le (F97 F t0) (F97 F' t0) := by
  unfold F97
  repeat' (first | (with_reducible exact Le.refl _) | refine F97_l0_le h _ _ | refine Le.ite ?_ ?_ | refine Le.bind ?_ ?_ | refine Le.iter (fun _ => ?_) h | intro _ | split)
theorem F99_l0_le {F F' : Nat} (h : F ≤ F') (t0 : List Int) (s9 : Int × Int) : Le (F99_l0 F t0 s9) (F99_l0 F' t0 s9) := by
  unfold F99_l0
  repeat' (first | (with_reducible exact Le.refl _) | refine Le.ite ?_ ?_ | refine Le.bind ?_ ?_ | refine Le.iter (fun _ => ?_) h | intro _ | split)
theorem F99_le {F F' : Nat} (h : F ≤ F') (t0 : List Int) : Le (F99 F t0) (F99 F' t0) := by
  unfold F99
  repeat' (first | (with_reducible exact Le.refl _) | refine F99_l0_le h _ _ | refine Le.ite ?_ ?_ | refine Le.bind ?_ ?_ | refine Le.iter (fun _ => ?_) h | intro _ | split)
theorem F112_le {F F' : Nat} (h : F ≤ F') (t0 : Int) (t1 : Int) : Le (F112 F t0 t1) (F112 F' t0 t1) := by
  unfold F112
  repeat' (first | (with_reducible exact Le.refl _) | refine Le.ite ?_ ?_ | refine Le.bind ?_ ?_ | refine Le.iter (fun _ => ?_) h | intro _ | split)
theorem F119_l0_le {F F' : Nat} (h : F ≤ F') (t0 : List Int) (t1 : List Int) (s18 : Int × (List Int)) : Le (F119_l0 F t0 t1 s18) (F119_l0 F' t0 t1 s18) := by
  unfold F119_l0
  repeat' (first | (with_reducible exact Le.refl _) | refine F101_le h _ | refine Le.ite ?_ ?_ | refine Le.bind ?_ ?_ | refine Le.iter (fun _ => ?_) h | intro _ | split)
theorem F119_le {F F' : Nat} (h : F ≤ F') (t0 : List Int) (t1 : List Int) : Le (F119 F t0 t1) (F119 F' t0 t1) := by
  unfold F119
  repeat' (first | (with_reducible exact Le.refl _) | refine F101_le h _ | refine F119_l0_le h _ _ _ | refine Le.ite ?_ ?_ | refine Le.bind ?_ ?_ | refine Le.iter (fun _ => ?_) h | intro _ | split)
theorem F125_l0_le {F F' : Nat} (h : F ≤ F') (t0 : List Int) (t1 : List Int) (s1 : (List Int) × Int) : Le (F125_l0 F t0 t1 s1) (F125_l0 F' t0 t1 s1) := by
  unfold F125_l0
  repeat' (first | (with_reducible exact Le.refl _) | refine Le.ite ?_ ?_ | refine Le.bind ?_ ?_ | refine Le.iter (fun _ => ?_) h | intro _ | split)
theorem F125_le {F F' : Nat} (h : F ≤ F') (t0 : List Int) (t1 : List Int) : Le (F125 F t0 t1) (F125 F' t0 t1) := by
  unfold F125
  repeat' (first | (with_reducible exact Le.refl _) | refine F125_l0_le h _ _ _ | refine Le.ite ?_ ?_ | refine Le.bind ?_ ?_ | refine Le.iter (fun _ => ?_) h | intro _ | split)
theorem F202_l0_le {F F' : Nat} (h : F ≤ F') (t2 : Int) (t3 : Int) (s1 : Int × (List Int)) : Le (F202_l0 F t2 t3 s1) (F202_l0 F' t2 t3 s1) := by
  unfold F202_l0
  repeat' (first | (with_reducible exact Le.refl _) | refine F151_le h _ _ | refine Le.ite ?_ ?_ | refine Le.bind ?_ ?_ | refine Le.iter (fun _ => ?_) h | intro _ | split)
theorem F202_le {F F' : Nat} (h : F ≤ F') (t0 : List Int) (t1 : Int) (t2 : Int) (t3 : Int) : Le (F202 F t0 t1 t2 t3) (F202 F' t0 t1 t2 t3) := by
  unfold F202
  repeat' (first | (with_reducible exact Le.refl _) | refine F151_le h _ _ | refine F202_l0_le h _ _ _ | refine Le.ite ?_ ?_ | refine Le.bind ?_ ?_ | refine Le.iter (fun _ => ?_) h | intro _ | split)
theorem F180_l0_le {F F' : Nat} (h : F ≤ F') (t1 : Int) (t2 : Int) (s1 : Int × (List Int)) : Le (F180_l0 F t1 t2 s1) (F180_l0 F' t1 t2 s1) := by
  unfold F180_l0
  repeat' (first | (with_reducible exact Le.refl _) | refine F202_le h _ _ _ _ | refine Le.ite ?_ ?_ | refine Le.bind ?_ ?_ | refine Le.iter (fun _ => ?_) h | intro _ | split)
theorem F180_l1_le {F F' : Nat} (h : F ≤ F') (t1 : Int) (s15 : Int × (List Int)) : Le (F180_l1 F t1 s15) (F180_l1 F' t1 s15) := by
  unfold F180_l1
  repeat' (first | (with_reducible exact Le.refl _) | refine F180_l0_le h _ _ _ | refine F202_le h _ _ _ _ | refine Le.ite ?_ ?_ | refine Le.bind ?_ ?_ | refine Le.iter (fun _ => ?_) h | intro _ | split)
theorem F180_le {F F' : Nat} (h : F ≤ F') (t0 : List Int) (t1 : Int) (t2 : Int) : Le (F180 F t0 t1 t2) (F180 F' t0 t1 t2) := by
  unfold F180
  repeat' (first | (with_reducible exact Le.refl _) | refine F180_l0_le h _ _ _ | refine F180_l1_le h _ _ | refine F202_le h _ _ _ _ | refine Le.ite ?_ ?_ | refine Le.bind ?_ ?_ | refine Le.iter (fun _ => ?_) h | intro _ | split)
theorem F198_le {F F' : Nat} (h : F ≤ F') (t0 : Int) : Le (F198 F t0) (F198 F' t0) := by
  unfold F198
  repeat' (first | (with_reducible exact Le.refl _) | refine F155_le h _ | refine Le.ite ?_ ?_ | refine Le.bind ?_ ?_ | refine Le.iter (fun _ => ?_) h | intro _ | split)
theorem F199_le {F F' : Nat} (h : F ≤ F') (t0 : Int) : Le (F199 F t0) (F199 F' t0) := by
  unfold F199
  repeat' (first | (with_reducible exact Le.refl _) | refine Le.ite ?_ ?_ | refine Le.bind ?_ ?_ | refine Le.iter (fun _ => ?_) h | intro _ | split)
theorem F217_le {F F' : Nat} (h : F ≤ F') (t0 : List Int) (t1 : Int) (t2 : Int) (t3 : Int) : Le (F217 F t0 t1 t2 t3) (F217 F' t0 t1 t2 t3) := by
  unfold F217
  repeat' (first | (with_reducible exact Le.refl _) | refine F151_le h _ _ | refine Le.ite ?_ ?_ | refine Le.bind ?_ ?_ | refine Le.iter (fun _ => ?_) h | intro _ | split)
theorem F204_le {F F' : Nat} (h : F ≤ F') (t0 : List Int) (t1 : Int) (t2 : Int) (t3 : Int) (t4 : Int) : Le (F204 F t0 t1 t2 t3 t4) (F204 F' t0 t1 t2 t3 t4) := by
  unfold F204
  repeat' (first | (with_reducible exact Le.refl _) | refine F217_le h _ _ _ _ | refine Le.ite ?_ ?_ | refine Le.bind ?_ ?_ | refine Le.iter (fun _ => ?_) h | intro _ | split)
theorem F203_le {F F' : Nat} (h : F ≤ F') (t0 : List Int) (t1 : Int) (t2 : Int) : Le (F203 F t0 t1 t2) (F203 F' t0 t1 t2) := by
  unfold F203
  repeat' (first | (with_reducible exact Le.refl _) | refine F204_le h _ _ _ _ _ | refine Le.ite ?_ ?_ | refine Le.bind ?_ ?_ | refine Le.iter (fun _ => ?_) h | intro _ | split)
theorem F183_l0_le {F F' : Nat} (h : F ≤ F')  (s1 : Int × Int × (List Int)) : Le (F183_l0 F s1) (F183_l0 F' s1) := by
  unfold F183_l0
  repeat' (first | (with_reducible exact Le.refl _) | refine Le.ite ?_ ?_ | refine Le.bind ?_ ?_ | refine Le.iter (fun _ => ?_) h | intro _ | split)
theorem F183_le {F F' : Nat} (h : F ≤ F') (t0 : List Int) (t1 : Int) (t2 : Int) : Le (F183 F t0 t1 t2) (F183 F' t0 t1 t2) := by
  unfold F183
  repeat' (first | (with_reducible exact Le.refl _) | refine F183_l0_le h _ | refine Le.ite ?_ ?_ | refine Le.bind ?_ ?_ | refine Le.iter (fun _ => ?_) h | intro _ | split)
theorem F184_l0_le {F F' : Nat} (h : F ≤ F') (t2 : Int) (s1 : Int × Int × (List Int)) (s9 : Int) : Le (F184_l0 F t2 s1 s9) (F184_l0 F' t2 s1 s9) := by
  unfold F184_l0
  repeat' (first | (with_reducible exact Le.refl _) | refine F151_le h _ _ | refine Le.ite ?_ ?_ | refine Le.bind ?_ ?_ | refine Le.iter (fun _ => ?_) h | intro _ | split)
theorem F184_l1_le {F F' : Nat} (h : F ≤ F')  (s47 : Int × (List Int)) : Le (F184_l1 F s47) (F184_l1 F' s47) := by
  unfold F184_l1
  repeat' (first | (with_reducible exact Le.refl _) | refine F151_le h _ _ | refine F184_l0_le h _ _ _ | refine Le.ite ?_ ?_ | refine Le.bind ?_ ?_ | refine Le.iter (fun _ => ?_) h | intro _ | split)
theorem F184_l2_le {F F' : Nat} (h : F ≤ F') (t2 : Int) (s84 : Int × (List Int)) : Le (F184_l2 F t2 s84) (F184_l2 F' t2 s84) := by
  unfold F184_l2
  repeat' (first | (with_reducible exact Le.refl _) | refine F151_le h _ _ | refine F184_l0_le h _ _ _ | refine F184_l1_le h _ | refine Le.ite ?_ ?_ | refine Le.bind ?_ ?_ | refine Le.iter (fun _ => ?_) h | intro _ | split)
theorem F184_l3_le {F F' : Nat} (h : F ≤ F') (t1 : Int) (t2 : Int) (s1 : Int × Int × (List Int)) : Le (F184_l3 F t1 t2 s1) (F184_l3 F' t1 t2 s1) := by
  unfold F184_l3
  repeat' (first | (with_reducible exact Le.refl _) | refine F151_le h _ _ | refine F184_l0_le h _ _ _ | refine F184_l1_le h _ | refine F184_l2_le h _ _ | refine Le.ite ?_ ?_ | refine Le.bind ?_ ?_ | refine Le.iter (fun _ => ?_) h | intro _ | split)
theorem F184_le {F F' : Nat} (h : F ≤ F') (t0 : List Int) (t1 : Int) (t2 : Int) : Le (F184 F t0 t1 t2) (F184 F' t0 t1 t2) := by
  unfold F184
  repeat' (first | (with_reducible exact Le.refl _) | refine F151_le h _ _ | refine F184_l0_le h _ _ _ | refine F184_l1_le h _ | refine F184_l2_le h _ _ | refine F184_l3_le h _ _ _ | refine Le.ite ?_ ?_ | refine Le.bind ?_ ?_ | refine Le.iter (fun _ => ?_) h | intro _ | split)
theorem F185_l0_le {F F' : Nat} (h : F ≤ F') (t1 : Int) (s13 : Int × Int × (List Int)) (s18 : Int) : Le (F185_l0 F t1 s13 s18) (F185_l0 F' t1 s13 s18) := by
  unfold F185_l0
  repeat' (first | (with_reducible exact Le.refl _) | refine F151_le h _ _ | refine Le.ite ?_ ?_ | refine Le.bind ?_ ?_ | refine Le.iter (fun _ => ?_) h | intro _ | split)
theorem F185_l1_le {F F' : Nat} (h : F ≤ F') (t1 : Int) (s13 : Int × Int × (List Int)) (b37 : Int) (s41 : Int) : Le (F185_l1 F t1 s13 b37 s41) (F185_l1 F' t1 s13 b37 s41) := by
  unfold F185_l1
  repeat' (first | (with_reducible exact Le.refl _) | refine F151_le h _ _ | refine F185_l0_le h _ _ _ | refine Le.ite ?_ ?_ | refine Le.bind ?_ ?_ | refine Le.iter (fun _ => ?_) h | intro _ | split)
theorem F185_l2_le {F F' : Nat} (h : F ≤ F') (t1 : Int) (s13 : Int × Int × (List Int)) : Le (F185_l2 F t1 s13) (F185_l2 F' t1 s13) := by
  unfold F185_l2
  repeat' (first | (with_reducible exact Le.refl _) | refine F151_le h _ _ | refine F185_l0_le h _ _ _ | refine F185_l1_le h _ _ _ _ | refine Le.ite ?_ ?_ | refine Le.bind ?_ ?_ | refine Le.iter (fun _ => ?_) h | intro _ | split)
theorem F185_le {F F' : Nat} (h : F ≤ F') (t0 : List Int) (t1 : Int) (t2 : Int) (t3 : Int) : Le (F185 F t0 t1 t2 t3) (F185 F' t0 t1 t2 t3) := by
  unfold F185
  repeat' (first | (with_reducible exact Le.refl _) | refine F151_le h _ _ | refine F185_l0_le h _ _ _ | refine F185_l1_le h _ _ _ _ | refine F185_l2_le h _ _ | refine Le.ite ?_ ?_ | refine Le.bind ?_ ?_ | refine Le.iter (fun _ => ?_) h | intro _ | split)
theorem F186_l0_le {F F' : Nat} (h : F ≤ F') (t0 : List Int) (t1 : Int) (t2 : Int) (t3 : Int) (x1 : Int) (x3 : Int) (s13 : Int) : Le (F186_l0 F t0 t1 t2 t3 x1 x3 s13) (F186_l0 F' t0 t1 t2 t3 x1 x3 s13) := by
  unfold F186_l0
  repeat' (first | (with_reducible exact Le.refl _) | refine F151_le h _ _ | refine Le.ite ?_ ?_ | refine Le.bind ?_ ?_ | refine Le.iter (fun _ => ?_) h | intro _ | split)
theorem F186_l1_le {F F' : Nat} (h : F ≤ F') (t0 : List Int) (t1 : Int) (t3 : Int) (x1 : Int) (x3 : Int) (b32 : Int) (s36 : Int) : Le (F186_l1 F t0 t1 t3 x1 x3 b32 s36) (F186_l1 F' t0 t1 t3 x1 x3 b32 s36) := by
  unfold F186_l1
  repeat' (first | (with_reducible exact Le.refl _) | refine F151_le h _ _ | refine F186_l0_le h _ _ _ _ _ _ _ | refine Le.ite ?_ ?_ | refine Le.bind ?_ ?_ | refine Le.iter (fun _ => ?_) h | intro _ | split)
theorem F186_l2_le {F F' : Nat} (h : F ≤ F') (t1 : Int) (s84 : Int × Int × (List Int)) (s89 : Int) : Le (F186_l2 F t1 s84 s89) (F186_l2 F' t1 s84 s89) := by
  unfold F186_l2
  repeat' (first | (with_reducible exact Le.refl _) | refine F151_le h _ _ | refine F186_l0_le h _ _ _ _ _ _ _ | refine F186_l1_le h _ _ _ _ _ _ _ | refine Le.ite ?_ ?_ | refine Le.bind ?_ ?_ | refine Le.iter (fun _ => ?_) h | intro _ | split)
theorem F186_l3_le {F F' : Nat} (h : F ≤ F') (t1 : Int) (s84 : Int × Int × (List Int)) (b108 : Int) (s112 : Int) : Le (F186_l3 F t1 s84 b108 s112) (F186_l3 F' t1 s84 b108 s112) := by
  unfold F186_l3
  repeat' (first | (with_reducible exact Le.refl _) | refine F151_le h _ _ | refine F186_l0_le h _ _ _ _ _ _ _ | refine F186_l1_le h _ _ _ _ _ _ _ | refine F186_l2_le h _ _ _ | refine Le.ite ?_ ?_ | refine Le.bind ?_ ?_ | refine Le.iter (fun _ => ?_) h | intro _ | split)
theorem F186_l4_le {F F' : Nat} (h : F ≤ F') (t1 : Int) (s84 : Int × Int × (List Int)) : Le (F186_l4 F t1 s84) (F186_l4 F' t1 s84) := by
  unfold F186_l4
  repeat' (first | (with_reducible exact Le.refl _) | refine F151_le h _ _ | refine F186_l0_le h _ _ _ _ _ _ _ | refine F186_l1_le h _ _ _ _ _ _ _ | refine F186_l2_le h _ _ _ | refine F186_l3_le h _ _ _ _ | refine Le.ite ?_ ?_ | refine Le.bind ?_ ?_ | refine Le.iter (fun _ => ?_) h | intro _ | split)
theorem F186_le {F F' : Nat} (h : F ≤ F') (t0 : List Int) (t1 : Int) (t2 : Int) (t3 : Int) : Le (F186 F t0 t1 t2 t3) (F186 F' t0 t1 t2 t3) := by
  unfold F186
  repeat' (first | (with_reducible exact Le.refl _) | refine F151_le h _ _ | refine F186_l0_le h _ _ _ _ _ _ _ | refine F186_l1_le h _ _ _ _ _ _ _ | refine F186_l2_le h _ _ _ | refine F186_l3_le h _ _ _ _ | refine F186_l4_le h _ _ | refine Le.ite ?_ ?_ | refine Le.bind ?_ ?_ | refine Le.iter (fun _ => ?_) h | intro _ | split)
end Go.Proofs.Ytihmliblbhjlaaa

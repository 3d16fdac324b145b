/- More fuel, the same answer: printed by a program of ours (gen.py). -/
import Derived.Test.YtdfalejlhkalhaaDef
import Derived.Test.YtdfalejlhkalhaaPure
set_option linter.unusedVariables false
namespace Go.Proofs.Ytdfalejlhkalhaa
open Go.Am
theorem F18_l0_le {F F' : Nat} (h : F ≤ F') (t0 : List Int) (s6 : Int × (List Bool)) : Le (F18_l0 F t0 s6) (F18_l0 F' t0 s6) := by
  unfold F18_l0
  repeat' (first | (with_reducible exact Le.refl _) | refine Le.ite ?_ ?_ | refine Le.bind ?_ ?_ | refine Le.iter (fun _ => ?_) h | intro _ | split)
theorem F18_le {F F' : Nat} (h : F ≤ F') (t0 : List Int) : Le (F18 F t0) (F18 F' t0) := by
  unfold F18
  repeat' (first | (with_reducible exact Le.refl _) | refine F18_l0_le h _ _ | refine Le.ite ?_ ?_ | refine Le.bind ?_ ?_ | refine Le.iter (fun _ => ?_) h | intro _ | split)
theorem F12_l0_le {F F' : Nat} (h : F ≤ F') (t0 : List Int) (t1 : List Int) (s18 : Int × (List Int)) : Le (F12_l0 F t0 t1 s18) (F12_l0 F' t0 t1 s18) := by
  unfold F12_l0
  repeat' (first | (with_reducible exact Le.refl _) | refine F18_le h _ | refine Le.ite ?_ ?_ | refine Le.bind ?_ ?_ | refine Le.iter (fun _ => ?_) h | intro _ | split)
theorem F12_le {F F' : Nat} (h : F ≤ F') (t0 : List Int) (t1 : List Int) : Le (F12 F t0 t1) (F12 F' t0 t1) := by
  unfold F12
  repeat' (first | (with_reducible exact Le.refl _) | refine F12_l0_le h _ _ _ | refine F18_le h _ | refine Le.ite ?_ ?_ | refine Le.bind ?_ ?_ | refine Le.iter (fun _ => ?_) h | intro _ | split)
theorem F13_l0_le {F F' : Nat} (h : F ≤ F') (t0 : List Int) (s12 : Int × (List Int)) : Le (F13_l0 F t0 s12) (F13_l0 F' t0 s12) := by
  unfold F13_l0
  repeat' (first | (with_reducible exact Le.refl _) | refine F18_le h _ | refine Le.ite ?_ ?_ | refine Le.bind ?_ ?_ | refine Le.iter (fun _ => ?_) h | intro _ | split)
theorem F13_le {F F' : Nat} (h : F ≤ F') (t0 : List Int) : Le (F13 F t0) (F13 F' t0) := by
  unfold F13
  repeat' (first | (with_reducible exact Le.refl _) | refine F13_l0_le h _ _ | refine F18_le h _ | refine Le.ite ?_ ?_ | refine Le.bind ?_ ?_ | refine Le.iter (fun _ => ?_) h | intro _ | split)
theorem F148_le {F F' : Nat} (h : F ≤ F') (t0 : Int) : Le (F148 F t0) (F148 F' t0) := by
  unfold F148
  repeat' (first | (with_reducible exact Le.refl _) | refine Le.ite ?_ ?_ | refine Le.bind ?_ ?_ | refine Le.iter (fun _ => ?_) h | intro _ | split)
theorem F149_le {F F' : Nat} (h : F ≤ F') (t0 : Int) : Le (F149 F t0) (F149 F' t0) := by
  unfold F149
  repeat' (first | (with_reducible exact Le.refl _) | refine Le.ite ?_ ?_ | refine Le.bind ?_ ?_ | refine Le.iter (fun _ => ?_) h | intro _ | split)
theorem F124_le {F F' : Nat} (h : F ≤ F') (t0 : Int) : Le (F124 F t0) (F124 F' t0) := by
  unfold F124
  repeat' (first | (with_reducible exact Le.refl _) | refine F148_le h _ | refine F149_le h _ | refine Le.ite ?_ ?_ | refine Le.bind ?_ ?_ | refine Le.iter (fun _ => ?_) h | intro _ | split)
theorem F83_le {F F' : Nat} (h : F ≤ F') (t0 : Int) (t1 : Int) : Le (F83 F t0 t1) (F83 F' t0 t1) := by
  unfold F83
  repeat' (first | (with_reducible exact Le.refl _) | refine Le.ite ?_ ?_ | refine Le.bind ?_ ?_ | refine Le.iter (fun _ => ?_) h | intro _ | split)
theorem F140_83_l0_le {F F' : Nat} (h : F ≤ F') (t1 : Int) (s7 : Int × (List Int)) : Le (F140_83_l0 F t1 s7) (F140_83_l0 F' t1 s7) := by
  unfold F140_83_l0
  repeat' (first | (with_reducible exact Le.refl _) | refine F83_le h _ _ | refine Le.ite ?_ ?_ | refine Le.bind ?_ ?_ | refine Le.iter (fun _ => ?_) h | intro _ | split)
theorem F140_83_l1_le {F F' : Nat} (h : F ≤ F') (t1 : Int) (t2 : Int) (s1 : Int × (List Int)) : Le (F140_83_l1 F t1 t2 s1) (F140_83_l1 F' t1 t2 s1) := by
  unfold F140_83_l1
  repeat' (first | (with_reducible exact Le.refl _) | refine F140_83_l0_le h _ _ | refine F83_le h _ _ | refine Le.ite ?_ ?_ | refine Le.bind ?_ ?_ | refine Le.iter (fun _ => ?_) h | intro _ | split)
theorem F140_83_le {F F' : Nat} (h : F ≤ F') (t0 : List Int) (t1 : Int) (t2 : Int) : Le (F140_83 F t0 t1 t2) (F140_83 F' t0 t1 t2) := by
  unfold F140_83
  repeat' (first | (with_reducible exact Le.refl _) | refine F140_83_l0_le h _ _ | refine F140_83_l1_le h _ _ _ | refine F83_le h _ _ | refine Le.ite ?_ ?_ | refine Le.bind ?_ ?_ | refine Le.iter (fun _ => ?_) h | intro _ | split)
theorem F123_83_l0_le {F F' : Nat} (h : F ≤ F')  (s1 : Int × Int × Int × Bool × Bool × (List Int)) : Le (F123_83_l0 F s1) (F123_83_l0 F' s1) := by
  unfold F123_83_l0
  repeat' (first | (with_reducible exact Le.refl _) | refine F140_83_le h _ _ _ | refine Le.ite ?_ ?_ | refine Le.bind ?_ ?_ | refine Le.iter (fun _ => ?_) h | intro _ | split)
theorem F123_83_le {F F' : Nat} (h : F ≤ F') (t0 : List Int) (t1 : Int) (t2 : Int) (t3 : Int) : Le (F123_83 F t0 t1 t2 t3) (F123_83 F' t0 t1 t2 t3) := by
  unfold F123_83
  repeat' (first | (with_reducible exact Le.refl _) | refine F123_83_l0_le h _ | refine F140_83_le h _ _ _ | refine Le.ite ?_ ?_ | refine Le.bind ?_ ?_ | refine Le.iter (fun _ => ?_) h | intro _ | split)
theorem F82_83_le {F F' : Nat} (h : F ≤ F') (t0 : List Int) : Le (F82_83 F t0) (F82_83 F' t0) := by
  unfold F82_83
  repeat' (first | (with_reducible exact Le.refl _) | refine F123_83_le h _ _ _ _ | refine F124_le h _ | refine Le.ite ?_ ?_ | refine Le.bind ?_ ?_ | refine Le.iter (fun _ => ?_) h | intro _ | split)
theorem F14_l0_le {F F' : Nat} (h : F ≤ F') (t0 : List Int) (s20 : Int × Int × (List Bool)) : Le (F14_l0 F t0 s20) (F14_l0 F' t0 s20) := by
  unfold F14_l0
  repeat' (first | (with_reducible exact Le.refl _) | refine F18_le h _ | refine F82_83_le h _ | refine Le.ite ?_ ?_ | refine Le.bind ?_ ?_ | refine Le.iter (fun _ => ?_) h | intro _ | split)
theorem F14_l1_le {F F' : Nat} (h : F ≤ F') (t0 : List Int) (s10 : (List Int) × Int × (List Bool)) : Le (F14_l1 F t0 s10) (F14_l1 F' t0 s10) := by
  unfold F14_l1
  repeat' (first | (with_reducible exact Le.refl _) | refine F14_l0_le h _ _ | refine F18_le h _ | refine F82_83_le h _ | refine Le.ite ?_ ?_ | refine Le.bind ?_ ?_ | refine Le.iter (fun _ => ?_) h | intro _ | split)
theorem F14_le {F F' : Nat} (h : F ≤ F') (t0 : List Int) : Le (F14 F t0) (F14 F' t0) := by
  unfold F14
  repeat' (first | (with_reducible exact Le.refl _) | refine F14_l0_le h _ _ | refine F14_l1_le h _ _ | refine F18_le h _ | refine F82_83_le h _ | refine Le.ite ?_ ?_ | refine Le.bind ?_ ?_ | refine Le.iter (fun _ => ?_) h | intro _ | split)
theorem F15_le {F F' : Nat} (h : F ≤ F') (t0 : List Int) : Le (F15 F t0) (F15 F' t0) := by
  unfold F15
  repeat' (first | (with_reducible exact Le.refl _) | refine F14_le h _ | refine Le.ite ?_ ?_ | refine Le.bind ?_ ?_ | refine Le.iter (fun _ => ?_) h | intro _ | split)
theorem F16_l0_le {F F' : Nat} (h : F ≤ F')  (s16 : Int × Int) : Le (F16_l0 F s16) (F16_l0 F' s16) := by
  unfold F16_l0
  repeat' (first | (with_reducible exact Le.refl _) | refine F14_le h _ | refine Le.ite ?_ ?_ | refine Le.bind ?_ ?_ | refine Le.iter (fun _ => ?_) h | intro _ | split)
theorem F16_l1_le {F F' : Nat} (h : F ≤ F') (r1 : (List Int) × Int) (s8 : Int × Int) : Le (F16_l1 F r1 s8) (F16_l1 F' r1 s8) := by
  unfold F16_l1
  repeat' (first | (with_reducible exact Le.refl _) | refine F14_le h _ | refine F16_l0_le h _ | refine Le.ite ?_ ?_ | refine Le.bind ?_ ?_ | refine Le.iter (fun _ => ?_) h | intro _ | split)
theorem F16_le {F F' : Nat} (h : F ≤ F') (t0 : List Int) : Le (F16 F t0) (F16 F' t0) := by
  unfold F16
  repeat' (first | (with_reducible exact Le.refl _) | refine F14_le h _ | refine F16_l0_le h _ | refine F16_l1_le h _ _ | refine Le.ite ?_ ?_ | refine Le.bind ?_ ?_ | refine Le.iter (fun _ => ?_) h | intro _ | split)
theorem F122_l0_le {F F' : Nat} (h : F ≤ F') (t0 : List Int) (t1 : Int) (s1 : Int) : Le (F122_l0 F t0 t1 s1) (F122_l0 F' t0 t1 s1) := by
  unfold F122_l0
  repeat' (first | (with_reducible exact Le.refl _) | refine Le.ite ?_ ?_ | refine Le.bind ?_ ?_ | refine Le.iter (fun _ => ?_) h | intro _ | split)
theorem F122_le {F F' : Nat} (h : F ≤ F') (t0 : List Int) (t1 : Int) : Le (F122 F t0 t1) (F122 F' t0 t1) := by
  unfold F122
  repeat' (first | (with_reducible exact Le.refl _) | refine F122_l0_le h _ _ _ | refine Le.ite ?_ ?_ | refine Le.bind ?_ ?_ | refine Le.iter (fun _ => ?_) h | intro _ | split)
theorem F81_le {F F' : Nat} (h : F ≤ F') (t0 : List Int) (t1 : Int) : Le (F81 F t0 t1) (F81 F' t0 t1) := by
  unfold F81
  repeat' (first | (with_reducible exact Le.refl _) | refine F122_le h _ _ | refine Le.ite ?_ ?_ | refine Le.bind ?_ ?_ | refine Le.iter (fun _ => ?_) h | intro _ | split)
theorem F17_l0_le {F F' : Nat} (h : F ≤ F') (t0 : List Int) (s2 : Int) : Le (F17_l0 F t0 s2) (F17_l0 F' t0 s2) := by
  unfold F17_l0
  repeat' (first | (with_reducible exact Le.refl _) | refine F81_le h _ _ | refine Le.ite ?_ ?_ | refine Le.bind ?_ ?_ | refine Le.iter (fun _ => ?_) h | intro _ | split)
theorem F17_le {F F' : Nat} (h : F ≤ F') (t0 : List Int) : Le (F17 F t0) (F17 F' t0) := by
  unfold F17
  repeat' (first | (with_reducible exact Le.refl _) | refine F17_l0_le h _ _ | refine F81_le h _ _ | refine Le.ite ?_ ?_ | refine Le.bind ?_ ?_ | refine Le.iter (fun _ => ?_) h | intro _ | split)
theorem F19_l0_le {F F' : Nat} (h : F ≤ F') (t0 : List Int) (s1 : Int × Int) (s7 : Int × Int) : Le (F19_l0 F t0 s1 s7) (F19_l0 F' t0 s1 s7) := by
  unfold F19_l0
  repeat' (first | (with_reducible exact Le.refl _) | refine Le.ite ?_ ?_ | refine Le.bind ?_ ?_ | refine Le.iter (fun _ => ?_) h | intro _ | split)
theorem F19_l1_le {F F' : Nat} (h : F ≤ F') (t0 : List Int) (s1 : Int × Int) : Le (F19_l1 F t0 s1) (F19_l1 F' t0 s1) := by
  unfold F19_l1
  repeat' (first | (with_reducible exact Le.refl _) | refine F19_l0_le h _ _ _ | refine Le.ite ?_ ?_ | refine Le.bind ?_ ?_ | refine Le.iter (fun _ => ?_) h | intro _ | split)
theorem F19_le {F F' : Nat} (h : F ≤ F') (t0 : List Int) : Le (F19 F t0) (F19 F' t0) := by
  unfold F19
  repeat' (first | (with_reducible exact Le.refl _) | refine F19_l0_le h _ _ _ | refine F19_l1_le h _ _ | refine Le.ite ?_ ?_ | refine Le.bind ?_ ?_ | refine Le.iter (fun _ => ?_) h | intro _ | split)
theorem F21_l0_le {F F' : Nat} (h : F ≤ F') (t0 : List Int) (t1 : List Int) (s1 : (List Int) × Int) : Le (F21_l0 F t0 t1 s1) (F21_l0 F' t0 t1 s1) := by
  unfold F21_l0
  repeat' (first | (with_reducible exact Le.refl _) | refine Le.ite ?_ ?_ | refine Le.bind ?_ ?_ | refine Le.iter (fun _ => ?_) h | intro _ | split)
theorem F21_le {F F' : Nat} (h : F ≤ F') (t0 : List Int) (t1 : List Int) : Le (F21 F t0 t1) (F21 F' t0 t1) := by
  unfold F21
  repeat' (first | (with_reducible exact Le.refl _) | refine F21_l0_le h _ _ _ | refine Le.ite ?_ ?_ | refine Le.bind ?_ ?_ | refine Le.iter (fun _ => ?_) h | intro _ | split)
theorem F125_le {F F' : Nat} (h : F ≤ F') (t0 : Int) : Le (F125 F t0) (F125 F' t0) := by
  unfold F125
  repeat' (first | (with_reducible exact Le.refl _) | refine Le.ite ?_ ?_ | refine Le.bind ?_ ?_ | refine Le.iter (fun _ => ?_) h | intro _ | split)
theorem F84_le {F F' : Nat} (h : F ≤ F') (t0 : Int) (t1 : Int) : Le (F84 F t0 t1) (F84 F' t0 t1) := by
  unfold F84
  repeat' (first | (with_reducible exact Le.refl _) | refine F125_le h _ | refine Le.ite ?_ ?_ | refine Le.bind ?_ ?_ | refine Le.iter (fun _ => ?_) h | intro _ | split)
theorem F20_l0_le {F F' : Nat} (h : F ≤ F') (t0 : List Int) (s1 : Int) : Le (F20_l0 F t0 s1) (F20_l0 F' t0 s1) := by
  unfold F20_l0
  repeat' (first | (with_reducible exact Le.refl _) | refine F84_le h _ _ | refine Le.ite ?_ ?_ | refine Le.bind ?_ ?_ | refine Le.iter (fun _ => ?_) h | intro _ | split)
theorem F20_le {F F' : Nat} (h : F ≤ F') (t0 : List Int) : Le (F20 F t0) (F20 F' t0) := by
  unfold F20
  repeat' (first | (with_reducible exact Le.refl _) | refine F20_l0_le h _ _ | refine F84_le h _ _ | refine Le.ite ?_ ?_ | refine Le.bind ?_ ?_ | refine Le.iter (fun _ => ?_) h | intro _ | split)
theorem F150_l0_le {F F' : Nat} (h : F ≤ F') (t1 : Int) (s7 : Int × (List Int)) : Le (F150_l0 F t1 s7) (F150_l0 F' t1 s7) := by
  unfold F150_l0
  repeat' (first | (with_reducible exact Le.refl _) | refine F84_le h _ _ | refine Le.ite ?_ ?_ | refine Le.bind ?_ ?_ | refine Le.iter (fun _ => ?_) h | intro _ | split)
theorem F150_l1_le {F F' : Nat} (h : F ≤ F') (t1 : Int) (t2 : Int) (s1 : Int × (List Int)) : Le (F150_l1 F t1 t2 s1) (F150_l1 F' t1 t2 s1) := by
  unfold F150_l1
  repeat' (first | (with_reducible exact Le.refl _) | refine F150_l0_le h _ _ | refine F84_le h _ _ | refine Le.ite ?_ ?_ | refine Le.bind ?_ ?_ | refine Le.iter (fun _ => ?_) h | intro _ | split)
theorem F150_le {F F' : Nat} (h : F ≤ F') (t0 : List Int) (t1 : Int) (t2 : Int) : Le (F150 F t0 t1 t2) (F150 F' t0 t1 t2) := by
  unfold F150
  repeat' (first | (with_reducible exact Le.refl _) | refine F150_l0_le h _ _ | refine F150_l1_le h _ _ _ | refine F84_le h _ _ | refine Le.ite ?_ ?_ | refine Le.bind ?_ ?_ | refine Le.iter (fun _ => ?_) h | intro _ | split)
theorem F126_l0_le {F F' : Nat} (h : F ≤ F')  (s1 : Int × Int × Int × Bool × Bool × (List Int)) : Le (F126_l0 F s1) (F126_l0 F' s1) := by
  unfold F126_l0
  repeat' (first | (with_reducible exact Le.refl _) | refine F150_le h _ _ _ | refine Le.ite ?_ ?_ | refine Le.bind ?_ ?_ | refine Le.iter (fun _ => ?_) h | intro _ | split)
theorem F126_le {F F' : Nat} (h : F ≤ F') (t0 : List Int) (t1 : Int) (t2 : Int) (t3 : Int) : Le (F126 F t0 t1 t2 t3) (F126 F' t0 t1 t2 t3) := by
  unfold F126
  repeat' (first | (with_reducible exact Le.refl _) | refine F126_l0_le h _ | refine F150_le h _ _ _ | refine Le.ite ?_ ?_ | refine Le.bind ?_ ?_ | refine Le.iter (fun _ => ?_) h | intro _ | split)
theorem F85_le {F F' : Nat} (h : F ≤ F') (t0 : List Int) : Le (F85 F t0) (F85 F' t0) := by
  unfold F85
  repeat' (first | (with_reducible exact Le.refl _) | refine F124_le h _ | refine F126_le h _ _ _ _ | refine Le.ite ?_ ?_ | refine Le.bind ?_ ?_ | refine Le.iter (fun _ => ?_) h | intro _ | split)
theorem F86_l0_le {F F' : Nat} (h : F ≤ F')  (s1 : Int × Int × (List Int)) : Le (F86_l0 F s1) (F86_l0 F' s1) := by
  unfold F86_l0
  repeat' (first | (with_reducible exact Le.refl _) | refine Le.ite ?_ ?_ | refine Le.bind ?_ ?_ | refine Le.iter (fun _ => ?_) h | intro _ | split)
theorem F86_le {F F' : Nat} (h : F ≤ F') (t0 : List Int) : Le (F86 F t0) (F86 F' t0) := by
  unfold F86
  repeat' (first | (with_reducible exact Le.refl _) | refine F86_l0_le h _ | refine Le.ite ?_ ?_ | refine Le.bind ?_ ?_ | refine Le.iter (fun _ => ?_) h | intro _ | split)
theorem F23_l0_le {F F' : Nat} (h : F ≤ F') (t0 : List Int) (s1 : (List Int) × Int) (s13 : Int × Int × Int) : Le (F23_l0 F t0 s1 s13) (F23_l0 F' t0 s1 s13) := by
  unfold F23_l0
  repeat' (first | (with_reducible exact Le.refl _) | refine F85_le h _ | refine F86_le h _ | refine Le.ite ?_ ?_ | refine Le.bind ?_ ?_ | refine Le.iter (fun _ => ?_) h | intro _ | split)
theorem F23_l1_le {F F' : Nat} (h : F ≤ F') (t0 : List Int) (s1 : (List Int) × Int) : Le (F23_l1 F t0 s1) (F23_l1 F' t0 s1) := by
  unfold F23_l1
  repeat' (first | (with_reducible exact Le.refl _) | refine F23_l0_le h _ _ _ | refine F85_le h _ | refine F86_le h _ | refine Le.ite ?_ ?_ | refine Le.bind ?_ ?_ | refine Le.iter (fun _ => ?_) h | intro _ | split)
theorem F23_le {F F' : Nat} (h : F ≤ F') (t0 : List Int) : Le (F23 F t0) (F23 F' t0) := by
  unfold F23
  repeat' (first | (with_reducible exact Le.refl _) | refine F23_l0_le h _ _ _ | refine F23_l1_le h _ _ | refine F85_le h _ | refine F86_le h _ | refine Le.ite ?_ ?_ | refine Le.bind ?_ ?_ | refine Le.iter (fun _ => ?_) h | intro _ | split)
theorem F45_l0_le {F F' : Nat} (h : F ≤ F') (t0 : List Int) (t1 : List Int) (s2 : Int) : Le (F45_l0 F t0 t1 s2) (F45_l0 F' t0 t1 s2) := by
  unfold F45_l0
  repeat' (first | (with_reducible exact Le.refl _) | refine Le.ite ?_ ?_ | refine Le.bind ?_ ?_ | refine Le.iter (fun _ => ?_) h | intro _ | split)
theorem F45_le {F F' : Nat} (h : F ≤ F') (t0 : List Int) (t1 : List Int) : Le (F45 F t0 t1) (F45 F' t0 t1) := by
  unfold F45
  repeat' (first | (with_reducible exact Le.refl _) | refine F45_l0_le h _ _ _ | refine Le.ite ?_ ?_ | refine Le.bind ?_ ?_ | refine Le.iter (fun _ => ?_) h | intro _ | split)
theorem F22_le {F F' : Nat} (h : F ≤ F') (t0 : List Int) (t1 : List Int) : Le (F22 F t0 t1) (F22 F' t0 t1) := by
  unfold F22
  repeat' (first | (with_reducible exact Le.refl _) | refine F45_le h _ _ | refine Le.ite ?_ ?_ | refine Le.bind ?_ ?_ | refine Le.iter (fun _ => ?_) h | intro _ | split)
theorem F34_le {F F' : Nat} (h : F ≤ F') (t0 : (List Int)) : Le (F34 F t0) (F34 F' t0) := by
  unfold F34
  repeat' (first | (with_reducible exact Le.refl _) | refine Le.ite ?_ ?_ | refine Le.bind ?_ ?_ | refine Le.iter (fun _ => ?_) h | intro _ | split)
theorem F24_l0_le {F F' : Nat} (h : F ≤ F') (t0 : List Int) (s7 : Int × (List Int)) : Le (F24_l0 F t0 s7) (F24_l0 F' t0 s7) := by
  unfold F24_l0
  repeat' (first | (with_reducible exact Le.refl _) | refine F20_le h _ | refine F21_le h _ _ | refine F34_le h _ | refine Le.ite ?_ ?_ | refine Le.bind ?_ ?_ | refine Le.iter (fun _ => ?_) h | intro _ | split)
theorem F24_le {F F' : Nat} (h : F ≤ F') (t0 : List Int) : Le (F24 F t0) (F24 F' t0) := by
  unfold F24
  repeat' (first | (with_reducible exact Le.refl _) | refine F20_le h _ | refine F21_le h _ _ | refine F24_l0_le h _ _ | refine F34_le h _ | refine Le.ite ?_ ?_ | refine Le.bind ?_ ?_ | refine Le.iter (fun _ => ?_) h | intro _ | split)
theorem F25_l0_le {F F' : Nat} (h : F ≤ F') (t0 : Int) (s15 : Int × (List Int)) (s21 : Int × (List Int)) : Le (F25_l0 F t0 s15 s21) (F25_l0 F' t0 s15 s21) := by
  unfold F25_l0
  repeat' (first | (with_reducible exact Le.refl _) | refine Le.ite ?_ ?_ | refine Le.bind ?_ ?_ | refine Le.iter (fun _ => ?_) h | intro _ | split)
theorem F25_l1_le {F F' : Nat} (h : F ≤ F') (t0 : Int) (t1 : Int) (s15 : Int × (List Int)) : Le (F25_l1 F t0 t1 s15) (F25_l1 F' t0 t1 s15) := by
  unfold F25_l1
  repeat' (first | (with_reducible exact Le.refl _) | refine F25_l0_le h _ _ _ | refine Le.ite ?_ ?_ | refine Le.bind ?_ ?_ | refine Le.iter (fun _ => ?_) h | intro _ | split)
theorem F25_le {F F' : Nat} (h : F ≤ F') (t0 : Int) (t1 : Int) : Le (F25 F t0 t1) (F25 F' t0 t1) := by
  unfold F25
  repeat' (first | (with_reducible exact Le.refl _) | refine F25_l0_le h _ _ _ | refine F25_l1_le h _ _ _ | refine Le.ite ?_ ?_ | refine Le.bind ?_ ?_ | refine Le.iter (fun _ => ?_) h | intro _ | split)
theorem F31_l0_le {F F' : Nat} (h : F ≤ F') (t0 : List Int) (s1 : Int × Int) : Le (F31_l0 F t0 s1) (F31_l0 F' t0 s1) := by
  unfold F31_l0
  repeat' (first | (with_reducible exact Le.refl _) | refine Le.ite ?_ ?_ | refine Le.bind ?_ ?_ | refine Le.iter (fun _ => ?_) h | intro _ | split)
theorem F31_le {F F' : Nat} (h : F ≤ F') (t0 : List Int) : Le (F31 F t0) (F31 F' t0) := by
  unfold F31
  repeat' (first | (with_reducible exact Le.refl _) | refine F31_l0_le h _ _ | refine Le.ite ?_ ?_ | refine Le.bind ?_ ?_ | refine Le.iter (fun _ => ?_) h | intro _ | split)
theorem F26_l0_le {F F' : Nat} (h : F ≤ F') (x16 : Int) (s18 : (List Int)) : Le (F26_l0 F x16 s18) (F26_l0 F' x16 s18) := by
  unfold F26_l0
  repeat' (first | (with_reducible exact Le.refl _) | refine F31_le h _ | refine Le.ite ?_ ?_ | refine Le.bind ?_ ?_ | refine Le.iter (fun _ => ?_) h | intro _ | split)
theorem F26_l1_le {F F' : Nat} (h : F ≤ F') (x16 : Int) (s43 : Int × (List Int)) : Le (F26_l1 F x16 s43) (F26_l1 F' x16 s43) := by
  unfold F26_l1
  repeat' (first | (with_reducible exact Le.refl _) | refine F26_l0_le h _ _ | refine F31_le h _ | refine Le.ite ?_ ?_ | refine Le.bind ?_ ?_ | refine Le.iter (fun _ => ?_) h | intro _ | split)
theorem F26_l2_le {F F' : Nat} (h : F ≤ F') (t0 : List Int) (s6 : (List Int) × Int) : Le (F26_l2 F t0 s6) (F26_l2 F' t0 s6) := by
  unfold F26_l2
  repeat' (first | (with_reducible exact Le.refl _) | refine F26_l0_le h _ _ | refine F26_l1_le h _ _ | refine F31_le h _ | refine Le.ite ?_ ?_ | refine Le.bind ?_ ?_ | refine Le.iter (fun _ => ?_) h | intro _ | split)
theorem F26_le {F F' : Nat} (h : F ≤ F') (t0 : List Int) : Le (F26 F t0) (F26 F' t0) := by
  unfold F26
  repeat' (first | (with_reducible exact Le.refl _) | refine F26_l0_le h _ _ | refine F26_l1_le h _ _ | refine F26_l2_le h _ _ | refine F31_le h _ | refine Le.ite ?_ ?_ | refine Le.bind ?_ ?_ | refine Le.iter (fun _ => ?_) h | intro _ | split)
theorem F87_le {F F' : Nat} (h : F ≤ F') (t0 : Int) (t1 : Int) : Le (F87 F t0 t1) (F87 F' t0 t1) := by
  unfold F87
  repeat' (first | (with_reducible exact Le.refl _) | refine Le.ite ?_ ?_ | refine Le.bind ?_ ?_ | refine Le.iter (fun _ => ?_) h | intro _ | split)
theorem F140_87_l0_le {F F' : Nat} (h : F ≤ F') (t1 : Int) (s7 : Int × (List Int)) : Le (F140_87_l0 F t1 s7) (F140_87_l0 F' t1 s7) := by
  unfold F140_87_l0
  repeat' (first | (with_reducible exact Le.refl _) | refine F87_le h _ _ | refine Le.ite ?_ ?_ | refine Le.bind ?_ ?_ | refine Le.iter (fun _ => ?_) h | intro _ | split)
theorem F140_87_l1_le {F F' : Nat} (h : F ≤ F') (t1 : Int) (t2 : Int) (s1 : Int × (List Int)) : Le (F140_87_l1 F t1 t2 s1) (F140_87_l1 F' t1 t2 s1) := by
  unfold F140_87_l1
  repeat' (first | (with_reducible exact Le.refl _) | refine F140_87_l0_le h _ _ | refine F87_le h _ _ | refine Le.ite ?_ ?_ | refine Le.bind ?_ ?_ | refine Le.iter (fun _ => ?_) h | intro _ | split)
theorem F140_87_le {F F' : Nat} (h : F ≤ F') (t0 : List Int) (t1 : Int) (t2 : Int) : Le (F140_87 F t0 t1 t2) (F140_87 F' t0 t1 t2) := by
  unfold F140_87
  repeat' (first | (with_reducible exact Le.refl _) | refine F140_87_l0_le h _ _ | refine F140_87_l1_le h _ _ _ | refine F87_le h _ _ | refine Le.ite ?_ ?_ | refine Le.bind ?_ ?_ | refine Le.iter (fun _ => ?_) h | intro _ | split)
theorem F123_87_l0_le {F F' : Nat} (h : F ≤ F')  (s1 : Int × Int × Int × Bool × Bool × (List Int)) : Le (F123_87_l0 F s1) (F123_87_l0 F' s1) := by
  unfold F123_87_l0
  repeat' (first | (with_reducible exact Le.refl _) | refine F140_87_le h _ _ _ | refine Le.ite ?_ ?_ | refine Le.bind ?_ ?_ | refine Le.iter (fun _ => ?_) h | intro _ | split)
theorem F123_87_le {F F' : Nat} (h : F ≤ F') (t0 : List Int) (t1 : Int) (t2 : Int) (t3 : Int) : Le (F123_87 F t0 t1 t2 t3) (F123_87 F' t0 t1 t2 t3) := by
  unfold F123_87
  repeat' (first | (with_reducible exact Le.refl _) | refine F123_87_l0_le h _ | refine F140_87_le h _ _ _ | refine Le.ite ?_ ?_ | refine Le.bind ?_ ?_ | refine Le.iter (fun _ => ?_) h | intro _ | split)
theorem F82_87_le {F F' : Nat} (h : F ≤ F') (t0 : List Int) : Le (F82_87 F t0) (F82_87 F' t0) := by
  unfold F82_87
  repeat' (first | (with_reducible exact Le.refl _) | refine F123_87_le h _ _ _ _ | refine F124_le h _ | refine Le.ite ?_ ?_ | refine Le.bind ?_ ?_ | refine Le.iter (fun _ => ?_) h | intro _ | split)
theorem F27_l0_le {F F' : Nat} (h : F ≤ F')  (s27 : Int × Int) : Le (F27_l0 F s27) (F27_l0 F' s27) := by
  unfold F27_l0
  repeat' (first | (with_reducible exact Le.refl _) | refine F31_le h _ | refine F82_87_le h _ | refine Le.ite ?_ ?_ | refine Le.bind ?_ ?_ | refine Le.iter (fun _ => ?_) h | intro _ | split)
theorem F27_l1_le {F F' : Nat} (h : F ≤ F') (b33 : Int × Int) (s37 : (List Int) × Int) : Le (F27_l1 F b33 s37) (F27_l1 F' b33 s37) := by
  unfold F27_l1
  repeat' (first | (with_reducible exact Le.refl _) | refine F27_l0_le h _ | refine F31_le h _ | refine F82_87_le h _ | refine Le.ite ?_ ?_ | refine Le.bind ?_ ?_ | refine Le.iter (fun _ => ?_) h | intro _ | split)
theorem F27_l2_le {F F' : Nat} (h : F ≤ F') (t0 : List Int) (s6 : (List Int) × Int) : Le (F27_l2 F t0 s6) (F27_l2 F' t0 s6) := by
  unfold F27_l2
  repeat' (first | (with_reducible exact Le.refl _) | refine F27_l0_le h _ | refine F27_l1_le h _ _ | refine F31_le h _ | refine F82_87_le h _ | refine Le.ite ?_ ?_ | refine Le.bind ?_ ?_ | refine Le.iter (fun _ => ?_) h | intro _ | split)
theorem F27_le {F F' : Nat} (h : F ≤ F') (t0 : List Int) : Le (F27 F t0) (F27 F' t0) := by
  unfold F27
  repeat' (first | (with_reducible exact Le.refl _) | refine F27_l0_le h _ | refine F27_l1_le h _ _ | refine F27_l2_le h _ _ | refine F31_le h _ | refine F82_87_le h _ | refine Le.ite ?_ ?_ | refine Le.bind ?_ ?_ | refine Le.iter (fun _ => ?_) h | intro _ | split)
theorem F105_le {F F' : Nat} (h : F ≤ F') (t0 : Int) (t1 : Int) : Le (F105 F t0 t1) (F105 F' t0 t1) := by
  unfold F105
  repeat' (first | (with_reducible exact Le.refl _) | refine Le.ite ?_ ?_ | refine Le.bind ?_ ?_ | refine Le.iter (fun _ => ?_) h | intro _ | split)
theorem F61_le {F F' : Nat} (h : F ≤ F') (t0 : Int) (t1 : Int) : Le (F61 F t0 t1) (F61 F' t0 t1) := by
  unfold F61
  repeat' (first | (with_reducible exact Le.refl _) | refine F105_le h _ _ | refine Le.ite ?_ ?_ | refine Le.bind ?_ ?_ | refine Le.iter (fun _ => ?_) h | intro _ | split)
theorem F106_l0_le {F F' : Nat} (h : F ≤ F') (L11 : List Int) (s16 : Int) : Le (F106_l0 F L11 s16) (F106_l0 F' L11 s16) := by
  unfold F106_l0
  repeat' (first | (with_reducible exact Le.refl _) | refine Le.ite ?_ ?_ | refine Le.bind ?_ ?_ | refine Le.iter (fun _ => ?_) h | intro _ | split)
theorem F106_l1_le {F F' : Nat} (h : F ≤ F') (t0 : List (List Int)) (s3 : Int) : Le (F106_l1 F t0 s3) (F106_l1 F' t0 s3) := by
  unfold F106_l1
  repeat' (first | (with_reducible exact Le.refl _) | refine F106_l0_le h _ _ | refine Le.ite ?_ ?_ | refine Le.bind ?_ ?_ | refine Le.iter (fun _ => ?_) h | intro _ | split)
theorem F106_le {F F' : Nat} (h : F ≤ F') (t0 : List (List Int)) : Le (F106 F t0) (F106 F' t0) := by
  unfold F106
  repeat' (first | (with_reducible exact Le.refl _) | refine F106_l0_le h _ _ | refine F106_l1_le h _ _ | refine Le.ite ?_ ?_ | refine Le.bind ?_ ?_ | refine Le.iter (fun _ => ?_) h | intro _ | split)
theorem F133_l0_le {F F' : Nat} (h : F ≤ F') (c0 : Int) (c1 : Int) (c2 : (List Int)) (s11 : Int × Int) : Le (F133_l0 F c0 c1 c2 s11) (F133_l0 F' c0 c1 c2 s11) := by
  unfold F133_l0
  repeat' (first | (with_reducible exact Le.refl _) | refine Le.ite ?_ ?_ | refine Le.bind ?_ ?_ | refine Le.iter (fun _ => ?_) h | intro _ | split)
theorem F133_l1_le {F F' : Nat} (h : F ≤ F') (c0 : Int) (c1 : Int) (c2 : (List Int)) (s3 : Int) : Le (F133_l1 F c0 c1 c2 s3) (F133_l1 F' c0 c1 c2 s3) := by
  unfold F133_l1
  repeat' (first | (with_reducible exact Le.refl _) | refine F133_l0_le h _ _ _ _ | refine Le.ite ?_ ?_ | refine Le.bind ?_ ?_ | refine Le.iter (fun _ => ?_) h | intro _ | split)
theorem F133_l2_le {F F' : Nat} (h : F ≤ F') (t0 : Int) (t1 : Int) (c0 : Int) (c1 : Int) (c5 : List (List Int)) {frec frec' : Int → Int → Int → Int → ((List Int)) → Int → (List (List Int)) → Option (((List Int)) × Int)} (hf : ∀ x0 x1 x2 x3 x4 x5 x6, Le (frec x0 x1 x2 x3 x4 x5 x6) (frec' x0 x1 x2 x3 x4 x5 x6)) (s44 : Int × (List Int) × Int) : Le (F133_l2 F t0 t1 c0 c1 c5 frec s44) (F133_l2 F' t0 t1 c0 c1 c5 frec' s44) := by
  unfold F133_l2
  repeat' (first | (with_reducible exact Le.refl _) | refine F133_l0_le h _ _ _ _ | refine F133_l1_le h _ _ _ _ | refine hf _ _ _ _ _ _ _ | refine Le.ite ?_ ?_ | refine Le.bind ?_ ?_ | refine Le.iter (fun _ => ?_) h | intro _ | split)
theorem F133_le {F F' : Nat} (h : F ≤ F') (x0 : Int) (x1 : Int) (x2 : Int) (x3 : Int) (x4 : ((List Int))) (x5 : Int) (x6 : (List (List Int))) : Le (F133 F x0 x1 x2 x3 x4 x5 x6) (F133 F' x0 x1 x2 x3 x4 x5 x6) := by
  induction F generalizing F' x0 x1 x2 x3 x4 x5 x6 with
  | zero => exact ⟨fun _ h => by cases h⟩
  | succ F ih =>
    cases F' with
    | zero => omega
    | succ F' =>
      rw [F133, F133]
      try dsimp only
      repeat' (first | (with_reducible exact Le.refl _) | refine F133_l0_le (Nat.le_of_succ_le_succ h) _ _ _ _ | refine F133_l1_le (Nat.le_of_succ_le_succ h) _ _ _ _ | refine F133_l2_le (Nat.le_of_succ_le_succ h) _ _ _ _ _ ?_ _ | refine ih (Nat.le_of_succ_le_succ h) _ _ _ _ _ _ _ | refine Le.ite ?_ ?_ | refine Le.bind ?_ ?_ | refine Le.iter (fun _ => ?_) (Nat.le_of_succ_le_succ h) | (dsimp only; done) | intro _ | split)
theorem F107_le {F F' : Nat} (h : F ≤ F') (t0 : List (List Int)) (t1 : Int) : Le (F107 F t0 t1) (F107 F' t0 t1) := by
  unfold F107
  repeat' (first | (with_reducible exact Le.refl _) | refine F133_le h _ _ _ _ _ _ _ | refine Le.ite ?_ ?_ | refine Le.bind ?_ ?_ | refine Le.iter (fun _ => ?_) h | intro _ | split)
theorem F62_l0_le {F F' : Nat} (h : F ≤ F') (t0 : List (List Int)) (s12 : Bool × Int × (List Int)) : Le (F62_l0 F t0 s12) (F62_l0 F' t0 s12) := by
  unfold F62_l0
  repeat' (first | (with_reducible exact Le.refl _) | refine F106_le h _ | refine F107_le h _ _ | refine Le.ite ?_ ?_ | refine Le.bind ?_ ?_ | refine Le.iter (fun _ => ?_) h | intro _ | split)
theorem F62_le {F F' : Nat} (h : F ≤ F') (t0 : List (List Int)) : Le (F62 F t0) (F62 F' t0) := by
  unfold F62
  repeat' (first | (with_reducible exact Le.refl _) | refine F106_le h _ | refine F107_le h _ _ | refine F62_l0_le h _ _ | refine Le.ite ?_ ?_ | refine Le.bind ?_ ?_ | refine Le.iter (fun _ => ?_) h | intro _ | split)
theorem F168_l0_le {F F' : Nat} (h : F ≤ F')  (s1 : Int × Int) : Le (F168_l0 F s1) (F168_l0 F' s1) := by
  unfold F168_l0
  repeat' (first | (with_reducible exact Le.refl _) | refine Le.ite ?_ ?_ | refine Le.bind ?_ ?_ | refine Le.iter (fun _ => ?_) h | intro _ | split)
theorem F168_le {F F' : Nat} (h : F ≤ F') (t0 : Int) (t1 : Int) : Le (F168 F t0 t1) (F168 F' t0 t1) := by
  unfold F168
  repeat' (first | (with_reducible exact Le.refl _) | refine F168_l0_le h _ | refine Le.ite ?_ ?_ | refine Le.bind ?_ ?_ | refine Le.iter (fun _ => ?_) h | intro _ | split)
theorem F167_le {F F' : Nat} (h : F ≤ F') (t0 : Int × Int) : Le (F167 F t0) (F167 F' t0) := by
  unfold F167
  repeat' (first | (with_reducible exact Le.refl _) | refine F168_le h _ _ | refine Le.ite ?_ ?_ | refine Le.bind ?_ ?_ | refine Le.iter (fun _ => ?_) h | intro _ | split)
theorem F134_le {F F' : Nat} (h : F ≤ F') (t0 : Int × Int) (t1 : Int × Int) : Le (F134 F t0 t1) (F134 F' t0 t1) := by
  unfold F134
  repeat' (first | (with_reducible exact Le.refl _) | refine F167_le h _ | refine Le.ite ?_ ?_ | refine Le.bind ?_ ?_ | refine Le.iter (fun _ => ?_) h | intro _ | split)
theorem F135_le {F F' : Nat} (h : F ≤ F') (t0 : Int) (t1 : Int) : Le (F135 F t0 t1) (F135 F' t0 t1) := by
  unfold F135
  repeat' (first | (with_reducible exact Le.refl _) | refine F168_le h _ _ | refine Le.ite ?_ ?_ | refine Le.bind ?_ ?_ | refine Le.iter (fun _ => ?_) h | intro _ | split)
theorem F108_le {F F' : Nat} (h : F ≤ F') (t0 : Int × Int) (t1 : Int × Int) : Le (F108 F t0 t1) (F108 F' t0 t1) := by
  unfold F108
  repeat' (first | (with_reducible exact Le.refl _) | refine F134_le h _ _ | refine F135_le h _ _ | refine Le.ite ?_ ?_ | refine Le.bind ?_ ?_ | refine Le.iter (fun _ => ?_) h | intro _ | split)
theorem F64_l0_le {F F' : Nat} (h : F ≤ F') (t1 : List Int) (s7 : Int) : Le (F64_l0 F t1 s7) (F64_l0 F' t1 s7) := by
  unfold F64_l0
  repeat' (first | (with_reducible exact Le.refl _) | refine F106_le h _ | refine Le.ite ?_ ?_ | refine Le.bind ?_ ?_ | refine Le.iter (fun _ => ?_) h | intro _ | split)
theorem F64_l1_le {F F' : Nat} (h : F ≤ F') (t0 : List (List Int)) (t1 : List Int) (s24 : Int) (L32 : List Int) (s36 : Int) : Le (F64_l1 F t0 t1 s24 L32 s36) (F64_l1 F' t0 t1 s24 L32 s36) := by
  unfold F64_l1
  repeat' (first | (with_reducible exact Le.refl _) | refine F106_le h _ | refine F64_l0_le h _ _ | refine Le.ite ?_ ?_ | refine Le.bind ?_ ?_ | refine Le.iter (fun _ => ?_) h | intro _ | split)
theorem F64_l2_le {F F' : Nat} (h : F ≤ F') (t0 : List (List Int)) (t1 : List Int) (s24 : Int) : Le (F64_l2 F t0 t1 s24) (F64_l2 F' t0 t1 s24) := by
  unfold F64_l2
  repeat' (first | (with_reducible exact Le.refl _) | refine F106_le h _ | refine F64_l0_le h _ _ | refine F64_l1_le h _ _ _ _ _ | refine Le.ite ?_ ?_ | refine Le.bind ?_ ?_ | refine Le.iter (fun _ => ?_) h | intro _ | split)
theorem F64_le {F F' : Nat} (h : F ≤ F') (t0 : List (List Int)) (t1 : List Int) : Le (F64 F t0 t1) (F64 F' t0 t1) := by
  unfold F64
  repeat' (first | (with_reducible exact Le.refl _) | refine F106_le h _ | refine F64_l0_le h _ _ | refine F64_l1_le h _ _ _ _ _ | refine F64_l2_le h _ _ _ | refine Le.ite ?_ ?_ | refine Le.bind ?_ ?_ | refine Le.iter (fun _ => ?_) h | intro _ | split)
theorem F109_l0_le {F F' : Nat} (h : F ≤ F') (t0 : Int) (s1 : Int × Int) : Le (F109_l0 F t0 s1) (F109_l0 F' t0 s1) := by
  unfold F109_l0
  repeat' (first | (with_reducible exact Le.refl _) | refine Le.ite ?_ ?_ | refine Le.bind ?_ ?_ | refine Le.iter (fun _ => ?_) h | intro _ | split)
theorem F109_le {F F' : Nat} (h : F ≤ F') (t0 : Int) : Le (F109 F t0) (F109 F' t0) := by
  unfold F109
  repeat' (first | (with_reducible exact Le.refl _) | refine F109_l0_le h _ _ | refine Le.ite ?_ ?_ | refine Le.bind ?_ ?_ | refine Le.iter (fun _ => ?_) h | intro _ | split)
theorem F65_le {F F' : Nat} (h : F ≤ F') (t0 : Int) : Le (F65 F t0) (F65 F' t0) := by
  unfold F65
  repeat' (first | (with_reducible exact Le.refl _) | refine F109_le h _ | refine Le.ite ?_ ?_ | refine Le.bind ?_ ?_ | refine Le.iter (fun _ => ?_) h | intro _ | split)
theorem F66_l0_le {F F' : Nat} (h : F ≤ F') (s15 : Int × (List Int)) (s21 : Int × (List Int)) : Le (F66_l0 F s15 s21) (F66_l0 F' s15 s21) := by
  unfold F66_l0
  repeat' (first | (with_reducible exact Le.refl _) | refine Le.ite ?_ ?_ | refine Le.bind ?_ ?_ | refine Le.iter (fun _ => ?_) h | intro _ | split)
theorem F66_l1_le {F F' : Nat} (h : F ≤ F') (t0 : Int) (s15 : Int × (List Int)) : Le (F66_l1 F t0 s15) (F66_l1 F' t0 s15) := by
  unfold F66_l1
  repeat' (first | (with_reducible exact Le.refl _) | refine F66_l0_le h _ _ | refine Le.ite ?_ ?_ | refine Le.bind ?_ ?_ | refine Le.iter (fun _ => ?_) h | intro _ | split)
theorem F66_le {F F' : Nat} (h : F ≤ F') (t0 : Int) (t1 : Int) : Le (F66 F t0 t1) (F66 F' t0 t1) := by
  unfold F66
  repeat' (first | (with_reducible exact Le.refl _) | refine F66_l0_le h _ _ | refine F66_l1_le h _ _ | refine Le.ite ?_ ?_ | refine Le.bind ?_ ?_ | refine Le.iter (fun _ => ?_) h | intro _ | split)
theorem F110_l0_le {F F' : Nat} (h : F ≤ F') (t0 : Int) (s3 : Int × Int × Int) : Le (F110_l0 F t0 s3) (F110_l0 F' t0 s3) := by
  unfold F110_l0
  repeat' (first | (with_reducible exact Le.refl _) | refine Le.ite ?_ ?_ | refine Le.bind ?_ ?_ | refine Le.iter (fun _ => ?_) h | intro _ | split)
theorem F110_le {F F' : Nat} (h : F ≤ F') (t0 : Int) : Le (F110 F t0) (F110 F' t0) := by
  unfold F110
  repeat' (first | (with_reducible exact Le.refl _) | refine F110_l0_le h _ _ | refine Le.ite ?_ ?_ | refine Le.bind ?_ ?_ | refine Le.iter (fun _ => ?_) h | intro _ | split)
theorem F67_l0_le {F F' : Nat} (h : F ≤ F') (t0 : Int) (t1 : Int) (s10 : Int × Int) : Le (F67_l0 F t0 t1 s10) (F67_l0 F' t0 t1 s10) := by
  unfold F67_l0
  repeat' (first | (with_reducible exact Le.refl _) | refine F110_le h _ | refine Le.ite ?_ ?_ | refine Le.bind ?_ ?_ | refine Le.iter (fun _ => ?_) h | intro _ | split)
theorem F67_le {F F' : Nat} (h : F ≤ F') (t0 : Int) (t1 : Int) : Le (F67 F t0 t1) (F67 F' t0 t1) := by
  unfold F67
  repeat' (first | (with_reducible exact Le.refl _) | refine F110_le h _ | refine F67_l0_le h _ _ _ | refine Le.ite ?_ ?_ | refine Le.bind ?_ ?_ | refine Le.iter (fun _ => ?_) h | intro _ | split)
theorem F112_le {F F' : Nat} (h : F ≤ F') (t0 : Int) : Le (F112 F t0) (F112 F' t0) := by
  unfold F112
  repeat' (first | (with_reducible exact Le.refl _) | refine Le.ite ?_ ?_ | refine Le.bind ?_ ?_ | refine Le.iter (fun _ => ?_) h | intro _ | split)
theorem F136_112_l0_le {F F' : Nat} (h : F ≤ F') (t0 : List Int) (s1 : Int) : Le (F136_112_l0 F t0 s1) (F136_112_l0 F' t0 s1) := by
  unfold F136_112_l0
  repeat' (first | (with_reducible exact Le.refl _) | refine F112_le h _ | refine Le.ite ?_ ?_ | refine Le.bind ?_ ?_ | refine Le.iter (fun _ => ?_) h | intro _ | split)
theorem F136_112_le {F F' : Nat} (h : F ≤ F') (t0 : List Int) : Le (F136_112 F t0) (F136_112 F' t0) := by
  unfold F136_112
  repeat' (first | (with_reducible exact Le.refl _) | refine F112_le h _ | refine F136_112_l0_le h _ _ | refine Le.ite ?_ ?_ | refine Le.bind ?_ ?_ | refine Le.iter (fun _ => ?_) h | intro _ | split)
theorem F111_112_le {F F' : Nat} (h : F ≤ F') (t0 : List Int) : Le (F111_112 F t0) (F111_112 F' t0) := by
  unfold F111_112
  repeat' (first | (with_reducible exact Le.refl _) | refine F136_112_le h _ | refine Le.ite ?_ ?_ | refine Le.bind ?_ ?_ | refine Le.iter (fun _ => ?_) h | intro _ | split)
theorem F70_l0_le {F F' : Nat} (h : F ≤ F') (t0 : List Int) (s1 : Int × Int) : Le (F70_l0 F t0 s1) (F70_l0 F' t0 s1) := by
  unfold F70_l0
  repeat' (first | (with_reducible exact Le.refl _) | refine Le.ite ?_ ?_ | refine Le.bind ?_ ?_ | refine Le.iter (fun _ => ?_) h | intro _ | split)
theorem F70_l1_le {F F' : Nat} (h : F ≤ F') (b22 : Int) (s25 : Int × Int) : Le (F70_l1 F b22 s25) (F70_l1 F' b22 s25) := by
  unfold F70_l1
  repeat' (first | (with_reducible exact Le.refl _) | refine F70_l0_le h _ _ | refine Le.ite ?_ ?_ | refine Le.bind ?_ ?_ | refine Le.iter (fun _ => ?_) h | intro _ | split)
theorem F70_l2_le {F F' : Nat} (h : F ≤ F') (s43 : Int × Int) (L49 : List Int) (s53 : Int × Int) : Le (F70_l2 F s43 L49 s53) (F70_l2 F' s43 L49 s53) := by
  unfold F70_l2
  repeat' (first | (with_reducible exact Le.refl _) | refine F70_l0_le h _ _ | refine F70_l1_le h _ _ | refine Le.ite ?_ ?_ | refine Le.bind ?_ ?_ | refine Le.iter (fun _ => ?_) h | intro _ | split)
theorem F70_l3_le {F F' : Nat} (h : F ≤ F') (t0 : List Int) (s35 : Int × Int) (x41 : Int) (s43 : Int × Int) : Le (F70_l3 F t0 s35 x41 s43) (F70_l3 F' t0 s35 x41 s43) := by
  unfold F70_l3
  repeat' (first | (with_reducible exact Le.refl _) | refine F70_l0_le h _ _ | refine F70_l1_le h _ _ | refine F70_l2_le h _ _ _ | refine Le.ite ?_ ?_ | refine Le.bind ?_ ?_ | refine Le.iter (fun _ => ?_) h | intro _ | split)
theorem F70_l4_le {F F' : Nat} (h : F ≤ F') (t0 : List Int) (s35 : Int × Int) : Le (F70_l4 F t0 s35) (F70_l4 F' t0 s35) := by
  unfold F70_l4
  repeat' (first | (with_reducible exact Le.refl _) | refine F70_l0_le h _ _ | refine F70_l1_le h _ _ | refine F70_l2_le h _ _ _ | refine F70_l3_le h _ _ _ _ | refine Le.ite ?_ ?_ | refine Le.bind ?_ ?_ | refine Le.iter (fun _ => ?_) h | intro _ | split)
theorem F70_le {F F' : Nat} (h : F ≤ F') (t0 : List Int) : Le (F70 F t0) (F70 F' t0) := by
  unfold F70
  repeat' (first | (with_reducible exact Le.refl _) | refine F70_l0_le h _ _ | refine F70_l1_le h _ _ | refine F70_l2_le h _ _ _ | refine F70_l3_le h _ _ _ _ | refine F70_l4_le h _ _ | refine Le.ite ?_ ?_ | refine Le.bind ?_ ?_ | refine Le.iter (fun _ => ?_) h | intro _ | split)
theorem F69_l0_le {F F' : Nat} (h : F ≤ F') (t0 : Int) (t1 : Int) (t2 : List Int) {frec frec' : Int → Int → (List Int) → Bool → Int → Option (Bool × Int)} (hf : ∀ x0 x1 x2 x3 x4, Le (frec x0 x1 x2 x3 x4) (frec' x0 x1 x2 x3 x4)) (s16 : Int × Bool × Int) : Le (F69_l0 F t0 t1 t2 frec s16) (F69_l0 F' t0 t1 t2 frec' s16) := by
  unfold F69_l0
  repeat' (first | (with_reducible exact Le.refl _) | refine F34_le h _ | refine F70_le h _ | refine hf _ _ _ _ _ | refine Le.ite ?_ ?_ | refine Le.bind ?_ ?_ | refine Le.iter (fun _ => ?_) h | intro _ | split)
theorem F69_le {F F' : Nat} (h : F ≤ F') (x0 : Int) (x1 : Int) (x2 : (List Int)) (x3 : Bool) (x4 : Int) : Le (F69 F x0 x1 x2 x3 x4) (F69 F' x0 x1 x2 x3 x4) := by
  induction F generalizing F' x0 x1 x2 x3 x4 with
  | zero => exact ⟨fun _ h => by cases h⟩
  | succ F ih =>
    cases F' with
    | zero => omega
    | succ F' =>
      rw [F69, F69]
      try dsimp only
      repeat' (first | (with_reducible exact Le.refl _) | refine F34_le (Nat.le_of_succ_le_succ h) _ | refine F69_l0_le (Nat.le_of_succ_le_succ h) _ _ _ ?_ _ | refine F70_le (Nat.le_of_succ_le_succ h) _ | refine ih (Nat.le_of_succ_le_succ h) _ _ _ _ _ | refine Le.ite ?_ ?_ | refine Le.bind ?_ ?_ | refine Le.iter (fun _ => ?_) (Nat.le_of_succ_le_succ h) | (dsimp only; done) | intro _ | split)
theorem F113_l0_le {F F' : Nat} (h : F ≤ F') (s11 : (List Int) × Int) (s27 : Int × (List Int)) : Le (F113_l0 F s11 s27) (F113_l0 F' s11 s27) := by
  unfold F113_l0
  repeat' (first | (with_reducible exact Le.refl _) | refine Le.ite ?_ ?_ | refine Le.bind ?_ ?_ | refine Le.iter (fun _ => ?_) h | intro _ | split)
theorem F113_l1_le {F F' : Nat} (h : F ≤ F') (t1 : Int) (s11 : (List Int) × Int) : Le (F113_l1 F t1 s11) (F113_l1 F' t1 s11) := by
  unfold F113_l1
  repeat' (first | (with_reducible exact Le.refl _) | refine F113_l0_le h _ _ | refine Le.ite ?_ ?_ | refine Le.bind ?_ ?_ | refine Le.iter (fun _ => ?_) h | intro _ | split)
theorem F113_le {F F' : Nat} (h : F ≤ F') (t0 : Int) (t1 : Int) : Le (F113 F t0 t1) (F113 F' t0 t1) := by
  unfold F113
  repeat' (first | (with_reducible exact Le.refl _) | refine F113_l0_le h _ _ | refine F113_l1_le h _ _ | refine Le.ite ?_ ?_ | refine Le.bind ?_ ?_ | refine Le.iter (fun _ => ?_) h | intro _ | split)
theorem F71_le {F F' : Nat} (h : F ≤ F') (t0 : Int) : Le (F71 F t0) (F71 F' t0) := by
  unfold F71
  repeat' (first | (with_reducible exact Le.refl _) | refine F113_le h _ _ | refine Le.ite ?_ ?_ | refine Le.bind ?_ ?_ | refine Le.iter (fun _ => ?_) h | intro _ | split)
theorem F91_le {F F' : Nat} (h : F ≤ F') (t0 : (List Int)) (t1 : Int) (t2 : Int) : Le (F91 F t0 t1 t2) (F91 F' t0 t1 t2) := by
  unfold F91
  repeat' (first | (with_reducible exact Le.refl _) | refine Le.ite ?_ ?_ | refine Le.bind ?_ ?_ | refine Le.iter (fun _ => ?_) h | intro _ | split)
theorem F72_l0_le {F F' : Nat} (h : F ≤ F') (L8 : List Int) (s14 : Int × (List Int)) : Le (F72_l0 F L8 s14) (F72_l0 F' L8 s14) := by
  unfold F72_l0
  repeat' (first | (with_reducible exact Le.refl _) | refine F109_le h _ | refine F65_le h _ | refine F91_le h _ _ _ | refine Le.ite ?_ ?_ | refine Le.bind ?_ ?_ | refine Le.iter (fun _ => ?_) h | intro _ | split)
theorem F72_l1_le {F F' : Nat} (h : F ≤ F')  (s34 : Int × (List Int) × (List Int) × Int) : Le (F72_l1 F s34) (F72_l1 F' s34) := by
  unfold F72_l1
  repeat' (first | (with_reducible exact Le.refl _) | refine F109_le h _ | refine F65_le h _ | refine F72_l0_le h _ _ | refine F91_le h _ _ _ | refine Le.ite ?_ ?_ | refine Le.bind ?_ ?_ | refine Le.iter (fun _ => ?_) h | intro _ | split)
theorem F72_le {F F' : Nat} (h : F ≤ F') (t0 : Int) (t1 : Int) : Le (F72 F t0 t1) (F72 F' t0 t1) := by
  unfold F72
  repeat' (first | (with_reducible exact Le.refl _) | refine F109_le h _ | refine F65_le h _ | refine F72_l0_le h _ _ | refine F72_l1_le h _ | refine F91_le h _ _ _ | refine Le.ite ?_ ?_ | refine Le.bind ?_ ?_ | refine Le.iter (fun _ => ?_) h | intro _ | split)
theorem F114_le {F F' : Nat} (h : F ≤ F') (t0 : List Int) : Le (F114 F t0) (F114 F' t0) := by
  unfold F114
  repeat' (first | (with_reducible exact Le.refl _) | refine Le.ite ?_ ?_ | refine Le.bind ?_ ?_ | refine Le.iter (fun _ => ?_) h | intro _ | split)
theorem F116_le {F F' : Nat} (h : F ≤ F') (t0 : Int) (t1 : Int) : Le (F116 F t0 t1) (F116 F' t0 t1) := by
  unfold F116
  repeat' (first | (with_reducible exact Le.refl _) | refine Le.ite ?_ ?_ | refine Le.bind ?_ ?_ | refine Le.iter (fun _ => ?_) h | intro _ | split)
theorem F115_116_l0_le {F F' : Nat} (h : F ≤ F') (s7 : (List Int) × Int × (List (List Int))) (x17 : Int) (L19 : List Int) (s23 : Int × (List (List Int))) : Le (F115_116_l0 F s7 x17 L19 s23) (F115_116_l0 F' s7 x17 L19 s23) := by
  unfold F115_116_l0
  repeat' (first | (with_reducible exact Le.refl _) | refine F116_le h _ _ | refine F34_le h _ | refine Le.ite ?_ ?_ | refine Le.bind ?_ ?_ | refine Le.iter (fun _ => ?_) h | intro _ | split)
theorem F115_116_l1_le {F F' : Nat} (h : F ≤ F') (t0 : List Int) (s7 : (List Int) × Int × (List (List Int))) : Le (F115_116_l1 F t0 s7) (F115_116_l1 F' t0 s7) := by
  unfold F115_116_l1
  repeat' (first | (with_reducible exact Le.refl _) | refine F115_116_l0_le h _ _ _ _ | refine F116_le h _ _ | refine F34_le h _ | refine Le.ite ?_ ?_ | refine Le.bind ?_ ?_ | refine Le.iter (fun _ => ?_) h | intro _ | split)
theorem F115_116_le {F F' : Nat} (h : F ≤ F') (t0 : List Int) : Le (F115_116 F t0) (F115_116 F' t0) := by
  unfold F115_116
  repeat' (first | (with_reducible exact Le.refl _) | refine F115_116_l0_le h _ _ _ _ | refine F115_116_l1_le h _ _ | refine F116_le h _ _ | refine F34_le h _ | refine Le.ite ?_ ?_ | refine Le.bind ?_ ?_ | refine Le.iter (fun _ => ?_) h | intro _ | split)
theorem F73_le {F F' : Nat} (h : F ≤ F') (t0 : List Int) : Le (F73 F t0) (F73 F' t0) := by
  unfold F73
  repeat' (first | (with_reducible exact Le.refl _) | refine F114_le h _ | refine F115_116_le h _ | refine Le.ite ?_ ?_ | refine Le.bind ?_ ?_ | refine Le.iter (fun _ => ?_) h | intro _ | split)
theorem F118_l0_le {F F' : Nat} (h : F ≤ F') (t0 : List Int) (s3 : Int × Int) : Le (F118_l0 F t0 s3) (F118_l0 F' t0 s3) := by
  unfold F118_l0
  repeat' (first | (with_reducible exact Le.refl _) | refine Le.ite ?_ ?_ | refine Le.bind ?_ ?_ | refine Le.iter (fun _ => ?_) h | intro _ | split)
theorem F118_le {F F' : Nat} (h : F ≤ F') (t0 : List Int) : Le (F118 F t0) (F118 F' t0) := by
  unfold F118
  repeat' (first | (with_reducible exact Le.refl _) | refine F118_l0_le h _ _ | refine Le.ite ?_ ?_ | refine Le.bind ?_ ?_ | refine Le.iter (fun _ => ?_) h | intro _ | split)
theorem F76_l0_le {F F' : Nat} (h : F ≤ F') (t0 : List Int) (s6 : Int × Int) : Le (F76_l0 F t0 s6) (F76_l0 F' t0 s6) := by
  unfold F76_l0
  repeat' (first | (with_reducible exact Le.refl _) | refine F118_le h _ | refine Le.ite ?_ ?_ | refine Le.bind ?_ ?_ | refine Le.iter (fun _ => ?_) h | intro _ | split)
theorem F76_l1_le {F F' : Nat} (h : F ≤ F') (t0 : List Int) (s24 : Int × (List Int)) : Le (F76_l1 F t0 s24) (F76_l1 F' t0 s24) := by
  unfold F76_l1
  repeat' (first | (with_reducible exact Le.refl _) | refine F118_le h _ | refine F76_l0_le h _ _ | refine Le.ite ?_ ?_ | refine Le.bind ?_ ?_ | refine Le.iter (fun _ => ?_) h | intro _ | split)
theorem F76_l2_le {F F' : Nat} (h : F ≤ F') (s52 : Int × (List Int) × (List (Int × Int)) × (List Int)) (s58 : Int × Int × Int) : Le (F76_l2 F s52 s58) (F76_l2 F' s52 s58) := by
  unfold F76_l2
  repeat' (first | (with_reducible exact Le.refl _) | refine F118_le h _ | refine F76_l0_le h _ _ | refine F76_l1_le h _ _ | refine Le.ite ?_ ?_ | refine Le.bind ?_ ?_ | refine Le.iter (fun _ => ?_) h | intro _ | split)
theorem F76_l3_le {F F' : Nat} (h : F ≤ F') (t0 : List Int) (b14 : Int) (s52 : Int × (List Int) × (List (Int × Int)) × (List Int)) : Le (F76_l3 F t0 b14 s52) (F76_l3 F' t0 b14 s52) := by
  unfold F76_l3
  repeat' (first | (with_reducible exact Le.refl _) | refine F118_le h _ | refine F76_l0_le h _ _ | refine F76_l1_le h _ _ | refine F76_l2_le h _ _ | refine Le.ite ?_ ?_ | refine Le.bind ?_ ?_ | refine Le.iter (fun _ => ?_) h | intro _ | split)
theorem F76_le {F F' : Nat} (h : F ≤ F') (t0 : List Int) : Le (F76 F t0) (F76 F' t0) := by
  unfold F76
  repeat' (first | (with_reducible exact Le.refl _) | refine F118_le h _ | refine F76_l0_le h _ _ | refine F76_l1_le h _ _ | refine F76_l2_le h _ _ | refine F76_l3_le h _ _ _ | refine Le.ite ?_ ?_ | refine Le.bind ?_ ?_ | refine Le.iter (fun _ => ?_) h | intro _ | split)
theorem F119_l0_le {F F' : Nat} (h : F ≤ F') (t0 : List Int) (s2 : Int) : Le (F119_l0 F t0 s2) (F119_l0 F' t0 s2) := by
  unfold F119_l0
  repeat' (first | (with_reducible exact Le.refl _) | refine Le.ite ?_ ?_ | refine Le.bind ?_ ?_ | refine Le.iter (fun _ => ?_) h | intro _ | split)
theorem F119_le {F F' : Nat} (h : F ≤ F') (t0 : List Int) : Le (F119 F t0) (F119 F' t0) := by
  unfold F119
  repeat' (first | (with_reducible exact Le.refl _) | refine F119_l0_le h _ _ | refine Le.ite ?_ ?_ | refine Le.bind ?_ ?_ | refine Le.iter (fun _ => ?_) h | intro _ | split)
theorem F138_l0_le {F F' : Nat} (h : F ≤ F') (t0 : Int) (s3 : Int) : Le (F138_l0 F t0 s3) (F138_l0 F' t0 s3) := by
  unfold F138_l0
  repeat' (first | (with_reducible exact Le.refl _) | refine Le.ite ?_ ?_ | refine Le.bind ?_ ?_ | refine Le.iter (fun _ => ?_) h | intro _ | split)
theorem F138_le {F F' : Nat} (h : F ≤ F') (t0 : Int) : Le (F138 F t0) (F138 F' t0) := by
  unfold F138
  repeat' (first | (with_reducible exact Le.refl _) | refine F138_l0_le h _ _ | refine Le.ite ?_ ?_ | refine Le.bind ?_ ?_ | refine Le.iter (fun _ => ?_) h | intro _ | split)
theorem F120_l0_le {F F' : Nat} (h : F ≤ F') (L19 : List Int) (s23 : Int × Int) : Le (F120_l0 F L19 s23) (F120_l0 F' L19 s23) := by
  unfold F120_l0
  repeat' (first | (with_reducible exact Le.refl _) | refine F119_le h _ | refine F138_le h _ | refine Le.ite ?_ ?_ | refine Le.bind ?_ ?_ | refine Le.iter (fun _ => ?_) h | intro _ | split)
theorem F120_l1_le {F F' : Nat} (h : F ≤ F') (t0 : List Int) (t1 : Int) (r6 : Int × Int) (s11 : Int) : Le (F120_l1 F t0 t1 r6 s11) (F120_l1 F' t0 t1 r6 s11) := by
  unfold F120_l1
  repeat' (first | (with_reducible exact Le.refl _) | refine F119_le h _ | refine F120_l0_le h _ _ | refine F138_le h _ | refine Le.ite ?_ ?_ | refine Le.bind ?_ ?_ | refine Le.iter (fun _ => ?_) h | intro _ | split)
theorem F120_le {F F' : Nat} (h : F ≤ F') (t0 : List Int) (t1 : Int) : Le (F120 F t0 t1) (F120 F' t0 t1) := by
  unfold F120
  repeat' (first | (with_reducible exact Le.refl _) | refine F119_le h _ | refine F120_l0_le h _ _ | refine F120_l1_le h _ _ _ _ | refine F138_le h _ | refine Le.ite ?_ ?_ | refine Le.bind ?_ ?_ | refine Le.iter (fun _ => ?_) h | intro _ | split)
theorem F77_l0_le {F F' : Nat} (h : F ≤ F') (t0 : List Int) (t1 : List Int) (s7 : (List Int) × Int × Int) : Le (F77_l0 F t0 t1 s7) (F77_l0 F' t0 t1 s7) := by
  unfold F77_l0
  repeat' (first | (with_reducible exact Le.refl _) | refine F119_le h _ | refine F120_le h _ _ | refine Le.ite ?_ ?_ | refine Le.bind ?_ ?_ | refine Le.iter (fun _ => ?_) h | intro _ | split)
theorem F77_le {F F' : Nat} (h : F ≤ F') (t0 : List Int) (t1 : List Int) : Le (F77 F t0 t1) (F77 F' t0 t1) := by
  unfold F77
  repeat' (first | (with_reducible exact Le.refl _) | refine F119_le h _ | refine F120_le h _ _ | refine F77_l0_le h _ _ _ | refine Le.ite ?_ ?_ | refine Le.bind ?_ ?_ | refine Le.iter (fun _ => ?_) h | intro _ | split)
theorem F78_le {F F' : Nat} (h : F ≤ F') (t0 : List (Int × Int)) (t1 : Int) (t2 : Int) : Le (F78 F t0 t1 t2) (F78 F' t0 t1 t2) := by
  unfold F78
  repeat' (first | (with_reducible exact Le.refl _) | refine Le.ite ?_ ?_ | refine Le.bind ?_ ?_ | refine Le.iter (fun _ => ?_) h | intro _ | split)
theorem F139_l0_le {F F' : Nat} (h : F ≤ F') (t1 : List Int) (s4 : Int) : Le (F139_l0 F t1 s4) (F139_l0 F' t1 s4) := by
  unfold F139_l0
  repeat' (first | (with_reducible exact Le.refl _) | refine Le.ite ?_ ?_ | refine Le.bind ?_ ?_ | refine Le.iter (fun _ => ?_) h | intro _ | split)
theorem F139_le {F F' : Nat} (h : F ≤ F') (t0 : Int) (t1 : List Int) : Le (F139 F t0 t1) (F139 F' t0 t1) := by
  unfold F139
  repeat' (first | (with_reducible exact Le.refl _) | refine F139_l0_le h _ _ | refine Le.ite ?_ ?_ | refine Le.bind ?_ ?_ | refine Le.iter (fun _ => ?_) h | intro _ | split)
theorem F121_l0_le {F F' : Nat} (h : F ≤ F') (t0 : Int) (t1 : List Int) (s6 : (List Int) × Int) : Le (F121_l0 F t0 t1 s6) (F121_l0 F' t0 t1 s6) := by
  unfold F121_l0
  repeat' (first | (with_reducible exact Le.refl _) | refine F139_le h _ _ | refine Le.ite ?_ ?_ | refine Le.bind ?_ ?_ | refine Le.iter (fun _ => ?_) h | intro _ | split)
theorem F121_le {F F' : Nat} (h : F ≤ F') (t0 : Int) (t1 : List Int) : Le (F121 F t0 t1) (F121 F' t0 t1) := by
  unfold F121
  repeat' (first | (with_reducible exact Le.refl _) | refine F121_l0_le h _ _ _ | refine F139_le h _ _ | refine Le.ite ?_ ?_ | refine Le.bind ?_ ?_ | refine Le.iter (fun _ => ?_) h | intro _ | split)
theorem F80_le {F F' : Nat} (h : F ≤ F') (t0 : Int) (t1 : List Int) : Le (F80 F t0 t1) (F80 F' t0 t1) := by
  unfold F80
  repeat' (first | (with_reducible exact Le.refl _) | refine F121_le h _ _ | refine F85_le h _ | refine Le.ite ?_ ?_ | refine Le.bind ?_ ?_ | refine Le.iter (fun _ => ?_) h | intro _ | split)
theorem F29_le {F F' : Nat} (h : F ≤ F') (t0 : Int) (t1 : Int) : Le (F29 F t0 t1) (F29 F' t0 t1) := by
  unfold F29
  repeat' (first | (with_reducible exact Le.refl _) | refine Le.ite ?_ ?_ | refine Le.bind ?_ ?_ | refine Le.iter (fun _ => ?_) h | intro _ | split)
theorem F30_l0_le {F F' : Nat} (h : F ≤ F') (t0 : List Int) (s1 : Int × Int) : Le (F30_l0 F t0 s1) (F30_l0 F' t0 s1) := by
  unfold F30_l0
  repeat' (first | (with_reducible exact Le.refl _) | refine Le.ite ?_ ?_ | refine Le.bind ?_ ?_ | refine Le.iter (fun _ => ?_) h | intro _ | split)
theorem F30_le {F F' : Nat} (h : F ≤ F') (t0 : List Int) : Le (F30 F t0) (F30 F' t0) := by
  unfold F30
  repeat' (first | (with_reducible exact Le.refl _) | refine F30_l0_le h _ _ | refine Le.ite ?_ ?_ | refine Le.bind ?_ ?_ | refine Le.iter (fun _ => ?_) h | intro _ | split)
theorem F32_l0_le {F F' : Nat} (h : F ≤ F') (t0 : List Int) (s1 : (List Int) × Int) (s10 : Int × Int) : Le (F32_l0 F t0 s1 s10) (F32_l0 F' t0 s1 s10) := by
  unfold F32_l0
  repeat' (first | (with_reducible exact Le.refl _) | refine Le.ite ?_ ?_ | refine Le.bind ?_ ?_ | refine Le.iter (fun _ => ?_) h | intro _ | split)
theorem F32_l1_le {F F' : Nat} (h : F ≤ F') (t0 : List Int) (s1 : (List Int) × Int) : Le (F32_l1 F t0 s1) (F32_l1 F' t0 s1) := by
  unfold F32_l1
  repeat' (first | (with_reducible exact Le.refl _) | refine F32_l0_le h _ _ _ | refine Le.ite ?_ ?_ | refine Le.bind ?_ ?_ | refine Le.iter (fun _ => ?_) h | intro _ | split)
theorem F32_le {F F' : Nat} (h : F ≤ F') (t0 : List Int) : Le (F32 F t0) (F32 F' t0) := by
  unfold F32
  repeat' (first | (with_reducible exact Le.refl _) | refine F32_l0_le h _ _ _ | refine F32_l1_le h _ _ | refine Le.ite ?_ ?_ | refine Le.bind ?_ ?_ | refine Le.iter (fun _ => ?_) h | intro _ | split)
theorem F35_l0_le {F F' : Nat} (h : F ≤ F') (t0 : List Int) {frec frec' : (List Int) → Option ((List Int))} (hf : ∀ x0, Le (frec x0) (frec' x0)) (s1 : (List Int) × Int) : Le (F35_l0 F t0 frec s1) (F35_l0 F' t0 frec' s1) := by
  unfold F35_l0
  repeat' (first | (with_reducible exact Le.refl _) | refine F85_le h _ | refine F86_le h _ | refine hf _ | refine Le.ite ?_ ?_ | refine Le.bind ?_ ?_ | refine Le.iter (fun _ => ?_) h | intro _ | split)
theorem F35_le {F F' : Nat} (h : F ≤ F') (x0 : (List Int)) : Le (F35 F x0) (F35 F' x0) := by
  induction F generalizing F' x0 with
  | zero => exact ⟨fun _ h => by cases h⟩
  | succ F ih =>
    cases F' with
    | zero => omega
    | succ F' =>
      rw [F35, F35]
      try dsimp only
      repeat' (first | (with_reducible exact Le.refl _) | refine F35_l0_le (Nat.le_of_succ_le_succ h) _ ?_ _ | refine F85_le (Nat.le_of_succ_le_succ h) _ | refine F86_le (Nat.le_of_succ_le_succ h) _ | refine ih (Nat.le_of_succ_le_succ h) _ | refine Le.ite ?_ ?_ | refine Le.bind ?_ ?_ | refine Le.iter (fun _ => ?_) (Nat.le_of_succ_le_succ h) | (dsimp only; done) | intro _ | split)
theorem F37_le {F F' : Nat} (h : F ≤ F') (t0 : Int) : Le (F37 F t0) (F37 F' t0) := by
  unfold F37
  repeat' (first | (with_reducible exact Le.refl _) | refine Le.ite ?_ ?_ | refine Le.bind ?_ ?_ | refine Le.iter (fun _ => ?_) h | intro _ | split)
theorem F38_l0_le {F F' : Nat} (h : F ≤ F') (r16 : (List Int)) (s20 : Int × Int) : Le (F38_l0 F r16 s20) (F38_l0 F' r16 s20) := by
  unfold F38_l0
  repeat' (first | (with_reducible exact Le.refl _) | refine F34_le h _ | refine F85_le h _ | refine F86_le h _ | refine F91_le h _ _ _ | refine Le.ite ?_ ?_ | refine Le.bind ?_ ?_ | refine Le.iter (fun _ => ?_) h | intro _ | split)
theorem F38_l1_le {F F' : Nat} (h : F ≤ F')  (s7 : (List Int)) : Le (F38_l1 F s7) (F38_l1 F' s7) := by
  unfold F38_l1
  repeat' (first | (with_reducible exact Le.refl _) | refine F34_le h _ | refine F38_l0_le h _ _ | refine F85_le h _ | refine F86_le h _ | refine F91_le h _ _ _ | refine Le.ite ?_ ?_ | refine Le.bind ?_ ?_ | refine Le.iter (fun _ => ?_) h | intro _ | split)
theorem F38_le {F F' : Nat} (h : F ≤ F') (t0 : List Int) : Le (F38 F t0) (F38 F' t0) := by
  unfold F38
  repeat' (first | (with_reducible exact Le.refl _) | refine F34_le h _ | refine F38_l0_le h _ _ | refine F38_l1_le h _ | refine F85_le h _ | refine F86_le h _ | refine F91_le h _ _ _ | refine Le.ite ?_ ?_ | refine Le.bind ?_ ?_ | refine Le.iter (fun _ => ?_) h | intro _ | split)
theorem F96_le {F F' : Nat} (h : F ≤ F') (t0 : List Int) (c0 : Int) : Le (F96 F t0 c0) (F96 F' t0 c0) := by
  unfold F96
  repeat' (first | (with_reducible exact Le.refl _) | refine F17_le h _ | refine Le.ite ?_ ?_ | refine Le.bind ?_ ?_ | refine Le.iter (fun _ => ?_) h | intro _ | split)
theorem F129_96_l0_le {F F' : Nat} (h : F ≤ F') (t0 : List (List Int)) (t1c0 : Int) (s1 : Int) : Le (F129_96_l0 F t0 t1c0 s1) (F129_96_l0 F' t0 t1c0 s1) := by
  unfold F129_96_l0
  repeat' (first | (with_reducible exact Le.refl _) | refine F96_le h _ _ | refine Le.ite ?_ ?_ | refine Le.bind ?_ ?_ | refine Le.iter (fun _ => ?_) h | intro _ | split)
theorem F129_96_le {F F' : Nat} (h : F ≤ F') (t0 : List (List Int)) (t1c0 : Int) : Le (F129_96 F t0 t1c0) (F129_96 F' t0 t1c0) := by
  unfold F129_96
  repeat' (first | (with_reducible exact Le.refl _) | refine F129_96_l0_le h _ _ _ | refine F96_le h _ _ | refine Le.ite ?_ ?_ | refine Le.bind ?_ ?_ | refine Le.iter (fun _ => ?_) h | intro _ | split)
theorem F95_96_le {F F' : Nat} (h : F ≤ F') (t0 : List (List Int)) (t1c0 : Int) : Le (F95_96 F t0 t1c0) (F95_96 F' t0 t1c0) := by
  unfold F95_96
  repeat' (first | (with_reducible exact Le.refl _) | refine F129_96_le h _ _ | refine Le.ite ?_ ?_ | refine Le.bind ?_ ?_ | refine Le.iter (fun _ => ?_) h | intro _ | split)
theorem F42_le {F F' : Nat} (h : F ≤ F') (t0 : Int) (t1 : List (List Int)) : Le (F42 F t0 t1) (F42 F' t0 t1) := by
  unfold F42
  repeat' (first | (with_reducible exact Le.refl _) | refine F95_96_le h _ _ | refine Le.ite ?_ ?_ | refine Le.bind ?_ ?_ | refine Le.iter (fun _ => ?_) h | intro _ | split)
theorem F43_l0_le {F F' : Nat} (h : F ≤ F') (t0 : Int) (t1 : List (List Int)) (s4 : Int) : Le (F43_l0 F t0 t1 s4) (F43_l0 F' t0 t1 s4) := by
  unfold F43_l0
  repeat' (first | (with_reducible exact Le.refl _) | refine F18_le h _ | refine Le.ite ?_ ?_ | refine Le.bind ?_ ?_ | refine Le.iter (fun _ => ?_) h | intro _ | split)
theorem F43_le {F F' : Nat} (h : F ≤ F') (t0 : Int) (t1 : List (List Int)) : Le (F43 F t0 t1) (F43 F' t0 t1) := by
  unfold F43
  repeat' (first | (with_reducible exact Le.refl _) | refine F18_le h _ | refine F43_l0_le h _ _ _ | refine Le.ite ?_ ?_ | refine Le.bind ?_ ?_ | refine Le.iter (fun _ => ?_) h | intro _ | split)
theorem F46_l0_le {F F' : Nat} (h : F ≤ F') (t1 : Int) (r11 : (List Int)) (s17 : Int × Int) : Le (F46_l0 F t1 r11 s17) (F46_l0 F' t1 r11 s17) := by
  unfold F46_l0
  repeat' (first | (with_reducible exact Le.refl _) | refine F23_le h _ | refine Le.ite ?_ ?_ | refine Le.bind ?_ ?_ | refine Le.iter (fun _ => ?_) h | intro _ | split)
theorem F46_l1_le {F F' : Nat} (h : F ≤ F') (t0 : List (List Int)) (t1 : Int) (s1 : Int × Int) : Le (F46_l1 F t0 t1 s1) (F46_l1 F' t0 t1 s1) := by
  unfold F46_l1
  repeat' (first | (with_reducible exact Le.refl _) | refine F23_le h _ | refine F46_l0_le h _ _ _ | refine Le.ite ?_ ?_ | refine Le.bind ?_ ?_ | refine Le.iter (fun _ => ?_) h | intro _ | split)
theorem F46_le {F F' : Nat} (h : F ≤ F') (t0 : List (List Int)) (t1 : Int) : Le (F46 F t0 t1) (F46 F' t0 t1) := by
  unfold F46
  repeat' (first | (with_reducible exact Le.refl _) | refine F23_le h _ | refine F46_l0_le h _ _ _ | refine F46_l1_le h _ _ _ | refine Le.ite ?_ ?_ | refine Le.bind ?_ ?_ | refine Le.iter (fun _ => ?_) h | intro _ | split)
theorem F98_l0_le {F F' : Nat} (h : F ≤ F') (t0 : List Int) (t1 : List Int) (s7 : Int × (List Int)) : Le (F98_l0 F t0 t1 s7) (F98_l0 F' t0 t1 s7) := by
  unfold F98_l0
  repeat' (first | (with_reducible exact Le.refl _) | refine Le.ite ?_ ?_ | refine Le.bind ?_ ?_ | refine Le.iter (fun _ => ?_) h | intro _ | split)
theorem F98_le {F F' : Nat} (h : F ≤ F') (t0 : List Int) (t1 : List Int) : Le (F98 F t0 t1) (F98 F' t0 t1) := by
  unfold F98
  repeat' (first | (with_reducible exact Le.refl _) | refine F98_l0_le h _ _ _ | refine Le.ite ?_ ?_ | refine Le.bind ?_ ?_ | refine Le.iter (fun _ => ?_) h | intro _ | split)
theorem F128_le {F F' : Nat} (h : F ≤ F') (t0 : Int) (t1 : Int) : Le (F128 F t0 t1) (F128 F' t0 t1) := by
  unfold F128
  repeat' (first | (with_reducible exact Le.refl _) | refine F125_le h _ | refine Le.ite ?_ ?_ | refine Le.bind ?_ ?_ | refine Le.iter (fun _ => ?_) h | intro _ | split)
theorem F94_l0_le {F F' : Nat} (h : F ≤ F') (t0 : List Int) (t1 : List Int) (s1 : Int) : Le (F94_l0 F t0 t1 s1) (F94_l0 F' t0 t1 s1) := by
  unfold F94_l0
  repeat' (first | (with_reducible exact Le.refl _) | refine F128_le h _ _ | refine Le.ite ?_ ?_ | refine Le.bind ?_ ?_ | refine Le.iter (fun _ => ?_) h | intro _ | split)
theorem F94_le {F F' : Nat} (h : F ≤ F') (t0 : List Int) (t1 : List Int) : Le (F94 F t0 t1) (F94 F' t0 t1) := by
  unfold F94
  repeat' (first | (with_reducible exact Le.refl _) | refine F128_le h _ _ | refine F94_l0_le h _ _ _ | refine Le.ite ?_ ?_ | refine Le.bind ?_ ?_ | refine Le.iter (fun _ => ?_) h | intro _ | split)
theorem F51_l0_le {F F' : Nat} (h : F ≤ F') (L1 : List Int) (s7 : Int × Int) : Le (F51_l0 F L1 s7) (F51_l0 F' L1 s7) := by
  unfold F51_l0
  repeat' (first | (with_reducible exact Le.refl _) | refine Le.ite ?_ ?_ | refine Le.bind ?_ ?_ | refine Le.iter (fun _ => ?_) h | intro _ | split)
theorem F51_le {F F' : Nat} (h : F ≤ F') (t0 : List UInt8) : Le (F51 F t0) (F51 F' t0) := by
  unfold F51
  repeat' (first | (with_reducible exact Le.refl _) | refine F51_l0_le h _ _ | refine Le.ite ?_ ?_ | refine Le.bind ?_ ?_ | refine Le.iter (fun _ => ?_) h | intro _ | split)
theorem F102_le {F F' : Nat} (h : F ≤ F') (t0 : List UInt8) (t1 : List UInt8) : Le (F102 F t0 t1) (F102 F' t0 t1) := by
  unfold F102
  repeat' (first | (with_reducible exact Le.refl _) | refine F51_le h _ | refine Le.ite ?_ ?_ | refine Le.bind ?_ ?_ | refine Le.iter (fun _ => ?_) h | intro _ | split)
theorem F58_l0_le {F F' : Nat} (h : F ≤ F') (t0 : Int × (List (List UInt8))) (s8 : Int) : Le (F58_l0 F t0 s8) (F58_l0 F' t0 s8) := by
  unfold F58_l0
  repeat' (first | (with_reducible exact Le.refl _) | refine F102_le h _ _ | refine Le.ite ?_ ?_ | refine Le.bind ?_ ?_ | refine Le.iter (fun _ => ?_) h | intro _ | split)
theorem F58_le {F F' : Nat} (h : F ≤ F') (t0 : Int × (List (List UInt8))) : Le (F58 F t0) (F58 F' t0) := by
  unfold F58
  repeat' (first | (with_reducible exact Le.refl _) | refine F102_le h _ _ | refine F58_l0_le h _ _ | refine Le.ite ?_ ?_ | refine Le.bind ?_ ?_ | refine Le.iter (fun _ => ?_) h | intro _ | split)
theorem F52_l0_le {F F' : Nat} (h : F ≤ F') (t0 : List UInt8) (s1 : Int × Int) : Le (F52_l0 F t0 s1) (F52_l0 F' t0 s1) := by
  unfold F52_l0
  repeat' (first | (with_reducible exact Le.refl _) | refine Le.ite ?_ ?_ | refine Le.bind ?_ ?_ | refine Le.iter (fun _ => ?_) h | intro _ | split)
theorem F52_le {F F' : Nat} (h : F ≤ F') (t0 : List UInt8) : Le (F52 F t0) (F52 F' t0) := by
  unfold F52
  repeat' (first | (with_reducible exact Le.refl _) | refine F52_l0_le h _ _ | refine Le.ite ?_ ?_ | refine Le.bind ?_ ?_ | refine Le.iter (fun _ => ?_) h | intro _ | split)
theorem F54_le {F F' : Nat} (h : F ≤ F') (t0 : List UInt8) : Le (F54 F t0) (F54 F' t0) := by
  unfold F54
  repeat' (first | (with_reducible exact Le.refl _) | refine Le.ite ?_ ?_ | refine Le.bind ?_ ?_ | refine Le.iter (fun _ => ?_) h | intro _ | split)
theorem F79_l0_le {F F' : Nat} (h : F ≤ F') (t0 : List (List UInt8)) (t1 : List (List UInt8)) (s2 : Int) : Le (F79_l0 F t0 t1 s2) (F79_l0 F' t0 t1 s2) := by
  unfold F79_l0
  repeat' (first | (with_reducible exact Le.refl _) | refine Le.ite ?_ ?_ | refine Le.bind ?_ ?_ | refine Le.iter (fun _ => ?_) h | intro _ | split)
theorem F79_le {F F' : Nat} (h : F ≤ F') (t0 : List (List UInt8)) (t1 : List (List UInt8)) : Le (F79 F t0 t1) (F79 F' t0 t1) := by
  unfold F79
  repeat' (first | (with_reducible exact Le.refl _) | refine F79_l0_le h _ _ _ | refine Le.ite ?_ ?_ | refine Le.bind ?_ ?_ | refine Le.iter (fun _ => ?_) h | intro _ | split)
theorem F55_le {F F' : Nat} (h : F ≤ F') (t0 : List (List UInt8)) (t1 : List (List UInt8)) : Le (F55 F t0 t1) (F55 F' t0 t1) := by
  unfold F55
  repeat' (first | (with_reducible exact Le.refl _) | refine F79_le h _ _ | refine Le.ite ?_ ?_ | refine Le.bind ?_ ?_ | refine Le.iter (fun _ => ?_) h | intro _ | split)
theorem F101_le {F F' : Nat} (h : F ≤ F') (t0 : List UInt8) (t1 : List UInt8) : Le (F101 F t0 t1) (F101 F' t0 t1) := by
  unfold F101
  repeat' (first | (with_reducible exact Le.refl _) | refine F52_le h _ | refine Le.ite ?_ ?_ | refine Le.bind ?_ ?_ | refine Le.iter (fun _ => ?_) h | intro _ | split)
theorem F56_l0_le {F F' : Nat} (h : F ≤ F') (t1 : List (List UInt8)) (s1 : (List (List UInt8))) (s11 : (List UInt8) × Bool × Int) : Le (F56_l0 F t1 s1 s11) (F56_l0 F' t1 s1 s11) := by
  unfold F56_l0
  repeat' (first | (with_reducible exact Le.refl _) | refine F101_le h _ _ | refine Le.ite ?_ ?_ | refine Le.bind ?_ ?_ | refine Le.iter (fun _ => ?_) h | intro _ | split)
theorem F56_l1_le {F F' : Nat} (h : F ≤ F') (t0 : Int) (t1 : List (List UInt8)) (s1 : (List (List UInt8))) : Le (F56_l1 F t0 t1 s1) (F56_l1 F' t0 t1 s1) := by
  unfold F56_l1
  repeat' (first | (with_reducible exact Le.refl _) | refine F101_le h _ _ | refine F56_l0_le h _ _ _ | refine Le.ite ?_ ?_ | refine Le.bind ?_ ?_ | refine Le.iter (fun _ => ?_) h | intro _ | split)
theorem F56_le {F F' : Nat} (h : F ≤ F') (t0 : Int) (t1 : List (List UInt8)) : Le (F56 F t0 t1) (F56 F' t0 t1) := by
  unfold F56
  repeat' (first | (with_reducible exact Le.refl _) | refine F101_le h _ _ | refine F56_l0_le h _ _ _ | refine F56_l1_le h _ _ _ | refine Le.ite ?_ ?_ | refine Le.bind ?_ ?_ | refine Le.iter (fun _ => ?_) h | intro _ | split)
theorem F57_l0_le {F F' : Nat} (h : F ≤ F') (t0 : Int × (List (List UInt8))) (s8 : Int) : Le (F57_l0 F t0 s8) (F57_l0 F' t0 s8) := by
  unfold F57_l0
  repeat' (first | (with_reducible exact Le.refl _) | refine F101_le h _ _ | refine Le.ite ?_ ?_ | refine Le.bind ?_ ?_ | refine Le.iter (fun _ => ?_) h | intro _ | split)
theorem F57_le {F F' : Nat} (h : F ≤ F') (t0 : Int × (List (List UInt8))) : Le (F57 F t0) (F57 F' t0) := by
  unfold F57
  repeat' (first | (with_reducible exact Le.refl _) | refine F101_le h _ _ | refine F57_l0_le h _ _ | refine Le.ite ?_ ?_ | refine Le.bind ?_ ?_ | refine Le.iter (fun _ => ?_) h | intro _ | split)
theorem F104_l0_le {F F' : Nat} (h : F ≤ F') (t0 : List (List UInt8)) (t1 : List UInt8) (s1 : Int) : Le (F104_l0 F t0 t1 s1) (F104_l0 F' t0 t1 s1) := by
  unfold F104_l0
  repeat' (first | (with_reducible exact Le.refl _) | refine Le.ite ?_ ?_ | refine Le.bind ?_ ?_ | refine Le.iter (fun _ => ?_) h | intro _ | split)
theorem F104_le {F F' : Nat} (h : F ≤ F') (t0 : List (List UInt8)) (t1 : List UInt8) : Le (F104 F t0 t1) (F104 F' t0 t1) := by
  unfold F104
  repeat' (first | (with_reducible exact Le.refl _) | refine F104_l0_le h _ _ _ | refine Le.ite ?_ ?_ | refine Le.bind ?_ ?_ | refine Le.iter (fun _ => ?_) h | intro _ | split)
theorem F60_le {F F' : Nat} (h : F ≤ F') (t0 : List (List UInt8)) (t1 : List UInt8) : Le (F60 F t0 t1) (F60 F' t0 t1) := by
  unfold F60
  repeat' (first | (with_reducible exact Le.refl _) | refine F104_le h _ _ | refine Le.ite ?_ ?_ | refine Le.bind ?_ ?_ | refine Le.iter (fun _ => ?_) h | intro _ | split)
theorem F75_l0_le {F F' : Nat} (h : F ≤ F') (t0 : List Int) (s6 : Int) : Le (F75_l0 F t0 s6) (F75_l0 F' t0 s6) := by
  unfold F75_l0
  repeat' (first | (with_reducible exact Le.refl _) | refine F18_le h _ | refine F34_le h _ | refine F86_le h _ | refine Le.ite ?_ ?_ | refine Le.bind ?_ ?_ | refine Le.iter (fun _ => ?_) h | intro _ | split)
theorem F75_l1_le {F F' : Nat} (h : F ≤ F') (b19 : Int) (r24 : List Int) (s30 : Int) : Le (F75_l1 F b19 r24 s30) (F75_l1 F' b19 r24 s30) := by
  unfold F75_l1
  repeat' (first | (with_reducible exact Le.refl _) | refine F18_le h _ | refine F34_le h _ | refine F75_l0_le h _ _ | refine F86_le h _ | refine Le.ite ?_ ?_ | refine Le.bind ?_ ?_ | refine Le.iter (fun _ => ?_) h | intro _ | split)
theorem F75_le {F F' : Nat} (h : F ≤ F') (t0 : List Int) : Le (F75 F t0) (F75 F' t0) := by
  unfold F75
  repeat' (first | (with_reducible exact Le.refl _) | refine F18_le h _ | refine F34_le h _ | refine F75_l0_le h _ _ | refine F75_l1_le h _ _ _ | refine F86_le h _ | refine Le.ite ?_ ?_ | refine Le.bind ?_ ?_ | refine Le.iter (fun _ => ?_) h | intro _ | split)
theorem F88_le {F F' : Nat} (h : F ≤ F') (t0 : Int) (t1 : Int) : Le (F88 F t0 t1) (F88 F' t0 t1) := by
  unfold F88
  repeat' (first | (with_reducible exact Le.refl _) | refine Le.ite ?_ ?_ | refine Le.bind ?_ ?_ | refine Le.iter (fun _ => ?_) h | intro _ | split)
theorem F130_le {F F' : Nat} (h : F ≤ F') (t0 : (List (List UInt8))) : Le (F130 F t0) (F130 F' t0) := by
  unfold F130
  repeat' (first | (with_reducible exact Le.refl _) | refine Le.ite ?_ ?_ | refine Le.bind ?_ ?_ | refine Le.iter (fun _ => ?_) h | intro _ | split)
theorem F180_102_l0_le {F F' : Nat} (h : F ≤ F') (t1 : Int) (s7 : Int × (List (List UInt8))) : Le (F180_102_l0 F t1 s7) (F180_102_l0 F' t1 s7) := by
  unfold F180_102_l0
  repeat' (first | (with_reducible exact Le.refl _) | refine F102_le h _ _ | refine Le.ite ?_ ?_ | refine Le.bind ?_ ?_ | refine Le.iter (fun _ => ?_) h | intro _ | split)
theorem F180_102_l1_le {F F' : Nat} (h : F ≤ F') (t1 : Int) (t2 : Int) (s1 : Int × (List (List UInt8))) : Le (F180_102_l1 F t1 t2 s1) (F180_102_l1 F' t1 t2 s1) := by
  unfold F180_102_l1
  repeat' (first | (with_reducible exact Le.refl _) | refine F102_le h _ _ | refine F180_102_l0_le h _ _ | refine Le.ite ?_ ?_ | refine Le.bind ?_ ?_ | refine Le.iter (fun _ => ?_) h | intro _ | split)
theorem F180_102_le {F F' : Nat} (h : F ≤ F') (t0 : List (List UInt8)) (t1 : Int) (t2 : Int) : Le (F180_102 F t0 t1 t2) (F180_102 F' t0 t1 t2) := by
  unfold F180_102
  repeat' (first | (with_reducible exact Le.refl _) | refine F102_le h _ _ | refine F180_102_l0_le h _ _ | refine F180_102_l1_le h _ _ _ | refine Le.ite ?_ ?_ | refine Le.bind ?_ ?_ | refine Le.iter (fun _ => ?_) h | intro _ | split)
theorem F166_102_l0_le {F F' : Nat} (h : F ≤ F')  (s1 : Int × Int × Int × Bool × Bool × (List (List UInt8))) : Le (F166_102_l0 F s1) (F166_102_l0 F' s1) := by
  unfold F166_102_l0
  repeat' (first | (with_reducible exact Le.refl _) | refine F180_102_le h _ _ _ | refine Le.ite ?_ ?_ | refine Le.bind ?_ ?_ | refine Le.iter (fun _ => ?_) h | intro _ | split)
theorem F166_102_le {F F' : Nat} (h : F ≤ F') (t0 : List (List UInt8)) (t1 : Int) (t2 : Int) (t3 : Int) : Le (F166_102 F t0 t1 t2 t3) (F166_102 F' t0 t1 t2 t3) := by
  unfold F166_102
  repeat' (first | (with_reducible exact Le.refl _) | refine F166_102_l0_le h _ | refine F180_102_le h _ _ _ | refine Le.ite ?_ ?_ | refine Le.bind ?_ ?_ | refine Le.iter (fun _ => ?_) h | intro _ | split)
theorem F131_102_le {F F' : Nat} (h : F ≤ F') (t0 : List (List UInt8)) : Le (F131_102 F t0) (F131_102 F' t0) := by
  unfold F131_102
  repeat' (first | (with_reducible exact Le.refl _) | refine F124_le h _ | refine F166_102_le h _ _ _ _ | refine Le.ite ?_ ?_ | refine Le.bind ?_ ?_ | refine Le.iter (fun _ => ?_) h | intro _ | split)
theorem F174_l0_le {F F' : Nat} (h : F ≤ F') (t2 : Int) (t3 : Int) (s1 : Int × (List Int)) : Le (F174_l0 F t2 t3 s1) (F174_l0 F' t2 t3 s1) := by
  unfold F174_l0
  repeat' (first | (with_reducible exact Le.refl _) | refine F84_le h _ _ | refine Le.ite ?_ ?_ | refine Le.bind ?_ ?_ | refine Le.iter (fun _ => ?_) h | intro _ | split)
theorem F174_le {F F' : Nat} (h : F ≤ F') (t0 : List Int) (t1 : Int) (t2 : Int) (t3 : Int) : Le (F174 F t0 t1 t2 t3) (F174 F' t0 t1 t2 t3) := by
  unfold F174
  repeat' (first | (with_reducible exact Le.refl _) | refine F174_l0_le h _ _ _ | refine F84_le h _ _ | refine Le.ite ?_ ?_ | refine Le.bind ?_ ?_ | refine Le.iter (fun _ => ?_) h | intro _ | split)
theorem F151_l0_le {F F' : Nat} (h : F ≤ F') (t1 : Int) (t2 : Int) (s1 : Int × (List Int)) : Le (F151_l0 F t1 t2 s1) (F151_l0 F' t1 t2 s1) := by
  unfold F151_l0
  repeat' (first | (with_reducible exact Le.refl _) | refine F174_le h _ _ _ _ | refine Le.ite ?_ ?_ | refine Le.bind ?_ ?_ | refine Le.iter (fun _ => ?_) h | intro _ | split)
theorem F151_l1_le {F F' : Nat} (h : F ≤ F') (t1 : Int) (s15 : Int × (List Int)) : Le (F151_l1 F t1 s15) (F151_l1 F' t1 s15) := by
  unfold F151_l1
  repeat' (first | (with_reducible exact Le.refl _) | refine F151_l0_le h _ _ _ | refine F174_le h _ _ _ _ | refine Le.ite ?_ ?_ | refine Le.bind ?_ ?_ | refine Le.iter (fun _ => ?_) h | intro _ | split)
theorem F151_le {F F' : Nat} (h : F ≤ F') (t0 : List Int) (t1 : Int) (t2 : Int) : Le (F151 F t0 t1 t2) (F151 F' t0 t1 t2) := by
  unfold F151
  repeat' (first | (with_reducible exact Le.refl _) | refine F151_l0_le h _ _ _ | refine F151_l1_le h _ _ | refine F174_le h _ _ _ _ | refine Le.ite ?_ ?_ | refine Le.bind ?_ ?_ | refine Le.iter (fun _ => ?_) h | intro _ | split)
theorem F170_le {F F' : Nat} (h : F ≤ F') (t0 : Int) : Le (F170 F t0) (F170 F' t0) := by
  unfold F170
  repeat' (first | (with_reducible exact Le.refl _) | refine F124_le h _ | refine Le.ite ?_ ?_ | refine Le.bind ?_ ?_ | refine Le.iter (fun _ => ?_) h | intro _ | split)
theorem F171_le {F F' : Nat} (h : F ≤ F') (t0 : Int) : Le (F171 F t0) (F171 F' t0) := by
  unfold F171
  repeat' (first | (with_reducible exact Le.refl _) | refine Le.ite ?_ ?_ | refine Le.bind ?_ ?_ | refine Le.iter (fun _ => ?_) h | intro _ | split)
theorem F189_le {F F' : Nat} (h : F ≤ F') (t0 : List Int) (t1 : Int) (t2 : Int) (t3 : Int) : Le (F189 F t0 t1 t2 t3) (F189 F' t0 t1 t2 t3) := by
  unfold F189
  repeat' (first | (with_reducible exact Le.refl _) | refine F84_le h _ _ | refine Le.ite ?_ ?_ | refine Le.bind ?_ ?_ | refine Le.iter (fun _ => ?_) h | intro _ | split)
theorem F176_le {F F' : Nat} (h : F ≤ F') (t0 : List Int) (t1 : Int) (t2 : Int) (t3 : Int) (t4 : Int) : Le (F176 F t0 t1 t2 t3 t4) (F176 F' t0 t1 t2 t3 t4) := by
  unfold F176
  repeat' (first | (with_reducible exact Le.refl _) | refine F189_le h _ _ _ _ | refine Le.ite ?_ ?_ | refine Le.bind ?_ ?_ | refine Le.iter (fun _ => ?_) h | intro _ | split)
theorem F175_le {F F' : Nat} (h : F ≤ F') (t0 : List Int) (t1 : Int) (t2 : Int) : Le (F175 F t0 t1 t2) (F175 F' t0 t1 t2) := by
  unfold F175
  repeat' (first | (with_reducible exact Le.refl _) | refine F176_le h _ _ _ _ _ | refine Le.ite ?_ ?_ | refine Le.bind ?_ ?_ | refine Le.iter (fun _ => ?_) h | intro _ | split)
theorem F154_l0_le {F F' : Nat} (h : F ≤ F')  (s1 : Int × Int × (List Int)) : Le (F154_l0 F s1) (F154_l0 F' s1) := by
  unfold F154_l0
  repeat' (first | (with_reducible exact Le.refl _) | refine Le.ite ?_ ?_ | refine Le.bind ?_ ?_ | refine Le.iter (fun _ => ?_) h | intro _ | split)
theorem F154_le {F F' : Nat} (h : F ≤ F') (t0 : List Int) (t1 : Int) (t2 : Int) : Le (F154 F t0 t1 t2) (F154 F' t0 t1 t2) := by
  unfold F154
  repeat' (first | (with_reducible exact Le.refl _) | refine F154_l0_le h _ | refine Le.ite ?_ ?_ | refine Le.bind ?_ ?_ | refine Le.iter (fun _ => ?_) h | intro _ | split)
theorem F155_l0_le {F F' : Nat} (h : F ≤ F') (t2 : Int) (s1 : Int × Int × (List Int)) (s9 : Int) : Le (F155_l0 F t2 s1 s9) (F155_l0 F' t2 s1 s9) := by
  unfold F155_l0
  repeat' (first | (with_reducible exact Le.refl _) | refine F84_le h _ _ | refine Le.ite ?_ ?_ | refine Le.bind ?_ ?_ | refine Le.iter (fun _ => ?_) h | intro _ | split)
theorem F155_l1_le {F F' : Nat} (h : F ≤ F')  (s47 : Int × (List Int)) : Le (F155_l1 F s47) (F155_l1 F' s47) := by
  unfold F155_l1
  repeat' (first | (with_reducible exact Le.refl _) | refine F155_l0_le h _ _ _ | refine F84_le h _ _ | refine Le.ite ?_ ?_ | refine Le.bind ?_ ?_ | refine Le.iter (fun _ => ?_) h | intro _ | split)
theorem F155_l2_le {F F' : Nat} (h : F ≤ F') (t2 : Int) (s84 : Int × (List Int)) : Le (F155_l2 F t2 s84) (F155_l2 F' t2 s84) := by
  unfold F155_l2
  repeat' (first | (with_reducible exact Le.refl _) | refine F155_l0_le h _ _ _ | refine F155_l1_le h _ | refine F84_le h _ _ | refine Le.ite ?_ ?_ | refine Le.bind ?_ ?_ | refine Le.iter (fun _ => ?_) h | intro _ | split)
theorem F155_l3_le {F F' : Nat} (h : F ≤ F') (t1 : Int) (t2 : Int) (s1 : Int × Int × (List Int)) : Le (F155_l3 F t1 t2 s1) (F155_l3 F' t1 t2 s1) := by
  unfold F155_l3
  repeat' (first | (with_reducible exact Le.refl _) | refine F155_l0_le h _ _ _ | refine F155_l1_le h _ | refine F155_l2_le h _ _ | refine F84_le h _ _ | refine Le.ite ?_ ?_ | refine Le.bind ?_ ?_ | refine Le.iter (fun _ => ?_) h | intro _ | split)
theorem F155_le {F F' : Nat} (h : F ≤ F') (t0 : List Int) (t1 : Int) (t2 : Int) : Le (F155 F t0 t1 t2) (F155 F' t0 t1 t2) := by
  unfold F155
  repeat' (first | (with_reducible exact Le.refl _) | refine F155_l0_le h _ _ _ | refine F155_l1_le h _ | refine F155_l2_le h _ _ | refine F155_l3_le h _ _ _ | refine F84_le h _ _ | refine Le.ite ?_ ?_ | refine Le.bind ?_ ?_ | refine Le.iter (fun _ => ?_) h | intro _ | split)
theorem F156_l0_le {F F' : Nat} (h : F ≤ F') (t1 : Int) (s13 : Int × Int × (List Int)) (s18 : Int) : Le (F156_l0 F t1 s13 s18) (F156_l0 F' t1 s13 s18) := by
  unfold F156_l0
  repeat' (first | (with_reducible exact Le.refl _) | refine F84_le h _ _ | refine Le.ite ?_ ?_ | refine Le.bind ?_ ?_ | refine Le.iter (fun _ => ?_) h | intro _ | split)
theorem F156_l1_le {F F' : Nat} (h : F ≤ F') (t1 : Int) (s13 : Int × Int × (List Int)) (b37 : Int) (s41 : Int) : Le (F156_l1 F t1 s13 b37 s41) (F156_l1 F' t1 s13 b37 s41) := by
  unfold F156_l1
  repeat' (first | (with_reducible exact Le.refl _) | refine F156_l0_le h _ _ _ | refine F84_le h _ _ | refine Le.ite ?_ ?_ | refine Le.bind ?_ ?_ | refine Le.iter (fun _ => ?_) h | intro _ | split)
theorem F156_l2_le {F F' : Nat} (h : F ≤ F') (t1 : Int) (s13 : Int × Int × (List Int)) : Le (F156_l2 F t1 s13) (F156_l2 F' t1 s13) := by
  unfold F156_l2
  repeat' (first | (with_reducible exact Le.refl _) | refine F156_l0_le h _ _ _ | refine F156_l1_le h _ _ _ _ | refine F84_le h _ _ | refine Le.ite ?_ ?_ | refine Le.bind ?_ ?_ | refine Le.iter (fun _ => ?_) h | intro _ | split)
theorem F156_le {F F' : Nat} (h : F ≤ F') (t0 : List Int) (t1 : Int) (t2 : Int) (t3 : Int) : Le (F156 F t0 t1 t2 t3) (F156 F' t0 t1 t2 t3) := by
  unfold F156
  repeat' (first | (with_reducible exact Le.refl _) | refine F156_l0_le h _ _ _ | refine F156_l1_le h _ _ _ _ | refine F156_l2_le h _ _ | refine F84_le h _ _ | refine Le.ite ?_ ?_ | refine Le.bind ?_ ?_ | refine Le.iter (fun _ => ?_) h | intro _ | split)
theorem F157_l0_le {F F' : Nat} (h : F ≤ F') (t0 : List Int) (t1 : Int) (t2 : Int) (t3 : Int) (x1 : Int) (x3 : Int) (s13 : Int) : Le (F157_l0 F t0 t1 t2 t3 x1 x3 s13) (F157_l0 F' t0 t1 t2 t3 x1 x3 s13) := by
  unfold F157_l0
  repeat' (first | (with_reducible exact Le.refl _) | refine F84_le h _ _ | refine Le.ite ?_ ?_ | refine Le.bind ?_ ?_ | refine Le.iter (fun _ => ?_) h | intro _ | split)
theorem F157_l1_le {F F' : Nat} (h : F ≤ F') (t0 : List Int) (t1 : Int) (t3 : Int) (x1 : Int) (x3 : Int) (b32 : Int) (s36 : Int) : Le (F157_l1 F t0 t1 t3 x1 x3 b32 s36) (F157_l1 F' t0 t1 t3 x1 x3 b32 s36) := by
  unfold F157_l1
  repeat' (first | (with_reducible exact Le.refl _) | refine F157_l0_le h _ _ _ _ _ _ _ | refine F84_le h _ _ | refine Le.ite ?_ ?_ | refine Le.bind ?_ ?_ | refine Le.iter (fun _ => ?_) h | intro _ | split)
theorem F157_l2_le {F F' : Nat} (h : F ≤ F') (t1 : Int) (s84 : Int × Int × (List Int)) (s89 : Int) : Le (F157_l2 F t1 s84 s89) (F157_l2 F' t1 s84 s89) := by
  unfold F157_l2
  repeat' (first | (with_reducible exact Le.refl _) | refine F157_l0_le h _ _ _ _ _ _ _ | refine F157_l1_le h _ _ _ _ _ _ _ | refine F84_le h _ _ | refine Le.ite ?_ ?_ | refine Le.bind ?_ ?_ | refine Le.iter (fun _ => ?_) h | intro _ | split)
theorem F157_l3_le {F F' : Nat} (h : F ≤ F') (t1 : Int) (s84 : Int × Int × (List Int)) (b108 : Int) (s112 : Int) : Le (F157_l3 F t1 s84 b108 s112) (F157_l3 F' t1 s84 b108 s112) := by
  unfold F157_l3
  repeat' (first | (with_reducible exact Le.refl _) | refine F157_l0_le h _ _ _ _ _ _ _ | refine F157_l1_le h _ _ _ _ _ _ _ | refine F157_l2_le h _ _ _ | refine F84_le h _ _ | refine Le.ite ?_ ?_ | refine Le.bind ?_ ?_ | refine Le.iter (fun _ => ?_) h | intro _ | split)
theorem F157_l4_le {F F' : Nat} (h : F ≤ F') (t1 : Int) (s84 : Int × Int × (List Int)) : Le (F157_l4 F t1 s84) (F157_l4 F' t1 s84) := by
  unfold F157_l4
  repeat' (first | (with_reducible exact Le.refl _) | refine F157_l0_le h _ _ _ _ _ _ _ | refine F157_l1_le h _ _ _ _ _ _ _ | refine F157_l2_le h _ _ _ | refine F157_l3_le h _ _ _ _ | refine F84_le h _ _ | refine Le.ite ?_ ?_ | refine Le.bind ?_ ?_ | refine Le.iter (fun _ => ?_) h | intro _ | split)
theorem F157_le {F F' : Nat} (h : F ≤ F') (t0 : List Int) (t1 : Int) (t2 : Int) (t3 : Int) : Le (F157 F t0 t1 t2 t3) (F157 F' t0 t1 t2 t3) := by
  unfold F157
  repeat' (first | (with_reducible exact Le.refl _) | refine F157_l0_le h _ _ _ _ _ _ _ | refine F157_l1_le h _ _ _ _ _ _ _ | refine F157_l2_le h _ _ _ | refine F157_l3_le h _ _ _ _ | refine F157_l4_le h _ _ | refine F84_le h _ _ | refine Le.ite ?_ ?_ | refine Le.bind ?_ ?_ | refine Le.iter (fun _ => ?_) h | intro _ | split)
end Go.Proofs.Ytdfalejlhkalhaa

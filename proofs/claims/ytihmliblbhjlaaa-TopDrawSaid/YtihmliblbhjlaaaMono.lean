/- More fuel, the same answer: printed by a program of ours (gen.py). -/
import Derived.Test.YtihmliblbhjlaaaDef
import Derived.Test.YtihmliblbhjlaaaPure
set_option linter.unusedVariables false
namespace Go.Proofs.Ytihmliblbhjlaaa
open Go.Am
theorem Le.compF {α : Type} {e e' : α → α → Option Bool} {L : List α} (h : ∀ x y, Le (e x y) (e' x y)) : Le (compF? e L) (compF? e' L) := ⟨fun _ hr => compF?_mono (fun x y _ hq => (h x y).up _ hq) hr⟩
theorem F166_l0_le {F F' : Nat} (h : F ≤ F')  (s1 : Int × Int) : Le (F166_l0 F s1) (F166_l0 F' s1) := by
  unfold F166_l0
  repeat' (first | (with_reducible exact Le.refl _) | refine Le.compF (fun _ _ => ?_) | refine Le.ite ?_ ?_ | refine Le.bind ?_ ?_ | refine Le.iter (fun _ => ?_) h | intro _ | split)
theorem F166_le {F F' : Nat} (h : F ≤ F') (t0 : Int) (t1 : Int) : Le (F166 F t0 t1) (F166 F' t0 t1) := by
  unfold F166
  repeat' (first | (with_reducible exact Le.refl _) | refine F166_l0_le h _ | refine Le.compF (fun _ _ => ?_) | refine Le.ite ?_ ?_ | refine Le.bind ?_ ?_ | refine Le.iter (fun _ => ?_) h | intro _ | split)
theorem F149_le {F F' : Nat} (h : F ≤ F') (t0 : Int) (t1 : Int) : Le (F149 F t0 t1) (F149 F' t0 t1) := by
  unfold F149
  repeat' (first | (with_reducible exact Le.refl _) | refine F166_le h _ _ | refine Le.compF (fun _ _ => ?_) | refine Le.ite ?_ ?_ | refine Le.bind ?_ ?_ | refine Le.iter (fun _ => ?_) h | intro _ | split)
theorem F101_l0_le {F F' : Nat} (h : F ≤ F') (t0 : List Int) (s6 : Int × (List Bool)) : Le (F101_l0 F t0 s6) (F101_l0 F' t0 s6) := by
  unfold F101_l0
  repeat' (first | (with_reducible exact Le.refl _) | refine Le.compF (fun _ _ => ?_) | refine Le.ite ?_ ?_ | refine Le.bind ?_ ?_ | refine Le.iter (fun _ => ?_) h | intro _ | split)
theorem F101_le {F F' : Nat} (h : F ≤ F') (t0 : List Int) : Le (F101 F t0) (F101 F' t0) := by
  unfold F101
  repeat' (first | (with_reducible exact Le.refl _) | refine F101_l0_le h _ _ | refine Le.compF (fun _ _ => ?_) | refine Le.ite ?_ ?_ | refine Le.bind ?_ ?_ | refine Le.iter (fun _ => ?_) h | intro _ | split)
theorem F177_le {F F' : Nat} (h : F ≤ F') (t0 : Int) : Le (F177 F t0) (F177 F' t0) := by
  unfold F177
  repeat' (first | (with_reducible exact Le.refl _) | refine Le.compF (fun _ _ => ?_) | refine Le.ite ?_ ?_ | refine Le.bind ?_ ?_ | refine Le.iter (fun _ => ?_) h | intro _ | split)
theorem F178_le {F F' : Nat} (h : F ≤ F') (t0 : Int) : Le (F178 F t0) (F178 F' t0) := by
  unfold F178
  repeat' (first | (with_reducible exact Le.refl _) | refine Le.compF (fun _ _ => ?_) | refine Le.ite ?_ ?_ | refine Le.bind ?_ ?_ | refine Le.iter (fun _ => ?_) h | intro _ | split)
theorem F155_le {F F' : Nat} (h : F ≤ F') (t0 : Int) : Le (F155 F t0) (F155 F' t0) := by
  unfold F155
  repeat' (first | (with_reducible exact Le.refl _) | refine F177_le h _ | refine F178_le h _ | refine Le.compF (fun _ _ => ?_) | refine Le.ite ?_ ?_ | refine Le.bind ?_ ?_ | refine Le.iter (fun _ => ?_) h | intro _ | split)
theorem F198_le {F F' : Nat} (h : F ≤ F') (t0 : Int) : Le (F198 F t0) (F198 F' t0) := by
  unfold F198
  repeat' (first | (with_reducible exact Le.refl _) | refine F155_le h _ | refine Le.compF (fun _ _ => ?_) | refine Le.ite ?_ ?_ | refine Le.bind ?_ ?_ | refine Le.iter (fun _ => ?_) h | intro _ | split)
theorem F199_le {F F' : Nat} (h : F ≤ F') (t0 : Int) : Le (F199 F t0) (F199 F' t0) := by
  unfold F199
  repeat' (first | (with_reducible exact Le.refl _) | refine Le.compF (fun _ _ => ?_) | refine Le.ite ?_ ?_ | refine Le.bind ?_ ?_ | refine Le.iter (fun _ => ?_) h | intro _ | split)
theorem F159_le {F F' : Nat} (h : F ≤ F') (t0 : Int) (t1 : Int) : Le (F159 F t0 t1) (F159 F' t0 t1) := by
  unfold F159
  repeat' (first | (with_reducible exact Le.refl _) | refine Le.compF (fun _ _ => ?_) | refine Le.ite ?_ ?_ | refine Le.bind ?_ ?_ | refine Le.iter (fun _ => ?_) h | intro _ | split)
theorem F169_159_l0_le {F F' : Nat} (h : F ≤ F') (t1 : Int) (s7 : Int × (List Int)) : Le (F169_159_l0 F t1 s7) (F169_159_l0 F' t1 s7) := by
  unfold F169_159_l0
  repeat' (first | (with_reducible exact Le.refl _) | refine F159_le h _ _ | refine Le.compF (fun _ _ => ?_) | refine Le.ite ?_ ?_ | refine Le.bind ?_ ?_ | refine Le.iter (fun _ => ?_) h | intro _ | split)
theorem F169_159_l1_le {F F' : Nat} (h : F ≤ F') (t1 : Int) (t2 : Int) (s1 : Int × (List Int)) : Le (F169_159_l1 F t1 t2 s1) (F169_159_l1 F' t1 t2 s1) := by
  unfold F169_159_l1
  repeat' (first | (with_reducible exact Le.refl _) | refine F159_le h _ _ | refine F169_159_l0_le h _ _ | refine Le.compF (fun _ _ => ?_) | refine Le.ite ?_ ?_ | refine Le.bind ?_ ?_ | refine Le.iter (fun _ => ?_) h | intro _ | split)
theorem F169_159_le {F F' : Nat} (h : F ≤ F') (t0 : List Int) (t1 : Int) (t2 : Int) : Le (F169_159 F t0 t1 t2) (F169_159 F' t0 t1 t2) := by
  unfold F169_159
  repeat' (first | (with_reducible exact Le.refl _) | refine F159_le h _ _ | refine F169_159_l0_le h _ _ | refine F169_159_l1_le h _ _ _ | refine Le.compF (fun _ _ => ?_) | refine Le.ite ?_ ?_ | refine Le.bind ?_ ?_ | refine Le.iter (fun _ => ?_) h | intro _ | split)
theorem F197_159_l0_le {F F' : Nat} (h : F ≤ F') (t2 : Int) (t3 : Int) (s1 : Int × (List Int)) : Le (F197_159_l0 F t2 t3 s1) (F197_159_l0 F' t2 t3 s1) := by
  unfold F197_159_l0
  repeat' (first | (with_reducible exact Le.refl _) | refine F159_le h _ _ | refine Le.compF (fun _ _ => ?_) | refine Le.ite ?_ ?_ | refine Le.bind ?_ ?_ | refine Le.iter (fun _ => ?_) h | intro _ | split)
theorem F197_159_le {F F' : Nat} (h : F ≤ F') (t0 : List Int) (t1 : Int) (t2 : Int) (t3 : Int) : Le (F197_159 F t0 t1 t2 t3) (F197_159 F' t0 t1 t2 t3) := by
  unfold F197_159
  repeat' (first | (with_reducible exact Le.refl _) | refine F159_le h _ _ | refine F197_159_l0_le h _ _ _ | refine Le.compF (fun _ _ => ?_) | refine Le.ite ?_ ?_ | refine Le.bind ?_ ?_ | refine Le.iter (fun _ => ?_) h | intro _ | split)
theorem F170_159_l0_le {F F' : Nat} (h : F ≤ F') (t1 : Int) (t2 : Int) (s1 : Int × (List Int)) : Le (F170_159_l0 F t1 t2 s1) (F170_159_l0 F' t1 t2 s1) := by
  unfold F170_159_l0
  repeat' (first | (with_reducible exact Le.refl _) | refine F197_159_le h _ _ _ _ | refine Le.compF (fun _ _ => ?_) | refine Le.ite ?_ ?_ | refine Le.bind ?_ ?_ | refine Le.iter (fun _ => ?_) h | intro _ | split)
theorem F170_159_l1_le {F F' : Nat} (h : F ≤ F') (t1 : Int) (s15 : Int × (List Int)) : Le (F170_159_l1 F t1 s15) (F170_159_l1 F' t1 s15) := by
  unfold F170_159_l1
  repeat' (first | (with_reducible exact Le.refl _) | refine F170_159_l0_le h _ _ _ | refine F197_159_le h _ _ _ _ | refine Le.compF (fun _ _ => ?_) | refine Le.ite ?_ ?_ | refine Le.bind ?_ ?_ | refine Le.iter (fun _ => ?_) h | intro _ | split)
theorem F170_159_le {F F' : Nat} (h : F ≤ F') (t0 : List Int) (t1 : Int) (t2 : Int) : Le (F170_159 F t0 t1 t2) (F170_159 F' t0 t1 t2) := by
  unfold F170_159
  repeat' (first | (with_reducible exact Le.refl _) | refine F170_159_l0_le h _ _ _ | refine F170_159_l1_le h _ _ | refine F197_159_le h _ _ _ _ | refine Le.compF (fun _ _ => ?_) | refine Le.ite ?_ ?_ | refine Le.bind ?_ ?_ | refine Le.iter (fun _ => ?_) h | intro _ | split)
theorem F171_159_l0_le {F F' : Nat} (h : F ≤ F') (t1 : Int) (t2 : Int) (r8 : Int) (s12 : Int × (List Int) × Int) : Le (F171_159_l0 F t1 t2 r8 s12) (F171_159_l0 F' t1 t2 r8 s12) := by
  unfold F171_159_l0
  repeat' (first | (with_reducible exact Le.refl _) | refine F198_le h _ | refine F199_le h _ | refine Le.compF (fun _ _ => ?_) | refine Le.ite ?_ ?_ | refine Le.bind ?_ ?_ | refine Le.iter (fun _ => ?_) h | intro _ | split)
theorem F171_159_le {F F' : Nat} (h : F ≤ F') (t0 : List Int) (t1 : Int) (t2 : Int) : Le (F171_159 F t0 t1 t2) (F171_159 F' t0 t1 t2) := by
  unfold F171_159
  repeat' (first | (with_reducible exact Le.refl _) | refine F171_159_l0_le h _ _ _ _ | refine F198_le h _ | refine F199_le h _ | refine Le.compF (fun _ _ => ?_) | refine Le.ite ?_ ?_ | refine Le.bind ?_ ?_ | refine Le.iter (fun _ => ?_) h | intro _ | split)
theorem F216_159_le {F F' : Nat} (h : F ≤ F') (t0 : List Int) (t1 : Int) (t2 : Int) (t3 : Int) : Le (F216_159 F t0 t1 t2 t3) (F216_159 F' t0 t1 t2 t3) := by
  unfold F216_159
  repeat' (first | (with_reducible exact Le.refl _) | refine F159_le h _ _ | refine Le.compF (fun _ _ => ?_) | refine Le.ite ?_ ?_ | refine Le.bind ?_ ?_ | refine Le.iter (fun _ => ?_) h | intro _ | split)
theorem F201_159_le {F F' : Nat} (h : F ≤ F') (t0 : List Int) (t1 : Int) (t2 : Int) (t3 : Int) (t4 : Int) : Le (F201_159 F t0 t1 t2 t3 t4) (F201_159 F' t0 t1 t2 t3 t4) := by
  unfold F201_159
  repeat' (first | (with_reducible exact Le.refl _) | refine F216_159_le h _ _ _ _ | refine Le.compF (fun _ _ => ?_) | refine Le.ite ?_ ?_ | refine Le.bind ?_ ?_ | refine Le.iter (fun _ => ?_) h | intro _ | split)
theorem F200_159_le {F F' : Nat} (h : F ≤ F') (t0 : List Int) (t1 : Int) (t2 : Int) : Le (F200_159 F t0 t1 t2) (F200_159 F' t0 t1 t2) := by
  unfold F200_159
  repeat' (first | (with_reducible exact Le.refl _) | refine F201_159_le h _ _ _ _ _ | refine Le.compF (fun _ _ => ?_) | refine Le.ite ?_ ?_ | refine Le.bind ?_ ?_ | refine Le.iter (fun _ => ?_) h | intro _ | split)
theorem F172_159_le {F F' : Nat} (h : F ≤ F') (t0 : List Int) (t1 : Int) (t2 : Int) : Le (F172_159 F t0 t1 t2) (F172_159 F' t0 t1 t2) := by
  unfold F172_159
  repeat' (first | (with_reducible exact Le.refl _) | refine F200_159_le h _ _ _ | refine F201_159_le h _ _ _ _ _ | refine Le.compF (fun _ _ => ?_) | refine Le.ite ?_ ?_ | refine Le.bind ?_ ?_ | refine Le.iter (fun _ => ?_) h | intro _ | split)
theorem F173_159_l0_le {F F' : Nat} (h : F ≤ F')  (s1 : Int × Int × (List Int)) : Le (F173_159_l0 F s1) (F173_159_l0 F' s1) := by
  unfold F173_159_l0
  repeat' (first | (with_reducible exact Le.refl _) | refine Le.compF (fun _ _ => ?_) | refine Le.ite ?_ ?_ | refine Le.bind ?_ ?_ | refine Le.iter (fun _ => ?_) h | intro _ | split)
theorem F173_159_le {F F' : Nat} (h : F ≤ F') (t0 : List Int) (t1 : Int) (t2 : Int) : Le (F173_159 F t0 t1 t2) (F173_159 F' t0 t1 t2) := by
  unfold F173_159
  repeat' (first | (with_reducible exact Le.refl _) | refine F173_159_l0_le h _ | refine Le.compF (fun _ _ => ?_) | refine Le.ite ?_ ?_ | refine Le.bind ?_ ?_ | refine Le.iter (fun _ => ?_) h | intro _ | split)
theorem F174_159_l0_le {F F' : Nat} (h : F ≤ F') (t2 : Int) (s1 : Int × Int × (List Int)) (s9 : Int) : Le (F174_159_l0 F t2 s1 s9) (F174_159_l0 F' t2 s1 s9) := by
  unfold F174_159_l0
  repeat' (first | (with_reducible exact Le.refl _) | refine F159_le h _ _ | refine Le.compF (fun _ _ => ?_) | refine Le.ite ?_ ?_ | refine Le.bind ?_ ?_ | refine Le.iter (fun _ => ?_) h | intro _ | split)
theorem F174_159_l1_le {F F' : Nat} (h : F ≤ F')  (s47 : Int × (List Int)) : Le (F174_159_l1 F s47) (F174_159_l1 F' s47) := by
  unfold F174_159_l1
  repeat' (first | (with_reducible exact Le.refl _) | refine F159_le h _ _ | refine F174_159_l0_le h _ _ _ | refine Le.compF (fun _ _ => ?_) | refine Le.ite ?_ ?_ | refine Le.bind ?_ ?_ | refine Le.iter (fun _ => ?_) h | intro _ | split)
theorem F174_159_l2_le {F F' : Nat} (h : F ≤ F') (t2 : Int) (s84 : Int × (List Int)) : Le (F174_159_l2 F t2 s84) (F174_159_l2 F' t2 s84) := by
  unfold F174_159_l2
  repeat' (first | (with_reducible exact Le.refl _) | refine F159_le h _ _ | refine F174_159_l0_le h _ _ _ | refine F174_159_l1_le h _ | refine Le.compF (fun _ _ => ?_) | refine Le.ite ?_ ?_ | refine Le.bind ?_ ?_ | refine Le.iter (fun _ => ?_) h | intro _ | split)
theorem F174_159_l3_le {F F' : Nat} (h : F ≤ F') (t1 : Int) (t2 : Int) (s1 : Int × Int × (List Int)) : Le (F174_159_l3 F t1 t2 s1) (F174_159_l3 F' t1 t2 s1) := by
  unfold F174_159_l3
  repeat' (first | (with_reducible exact Le.refl _) | refine F159_le h _ _ | refine F174_159_l0_le h _ _ _ | refine F174_159_l1_le h _ | refine F174_159_l2_le h _ _ | refine Le.compF (fun _ _ => ?_) | refine Le.ite ?_ ?_ | refine Le.bind ?_ ?_ | refine Le.iter (fun _ => ?_) h | intro _ | split)
theorem F174_159_le {F F' : Nat} (h : F ≤ F') (t0 : List Int) (t1 : Int) (t2 : Int) : Le (F174_159 F t0 t1 t2) (F174_159 F' t0 t1 t2) := by
  unfold F174_159
  repeat' (first | (with_reducible exact Le.refl _) | refine F159_le h _ _ | refine F174_159_l0_le h _ _ _ | refine F174_159_l1_le h _ | refine F174_159_l2_le h _ _ | refine F174_159_l3_le h _ _ _ | refine Le.compF (fun _ _ => ?_) | refine Le.ite ?_ ?_ | refine Le.bind ?_ ?_ | refine Le.iter (fun _ => ?_) h | intro _ | split)
theorem F175_159_l0_le {F F' : Nat} (h : F ≤ F') (t1 : Int) (s13 : Int × Int × (List Int)) (s18 : Int) : Le (F175_159_l0 F t1 s13 s18) (F175_159_l0 F' t1 s13 s18) := by
  unfold F175_159_l0
  repeat' (first | (with_reducible exact Le.refl _) | refine F159_le h _ _ | refine Le.compF (fun _ _ => ?_) | refine Le.ite ?_ ?_ | refine Le.bind ?_ ?_ | refine Le.iter (fun _ => ?_) h | intro _ | split)
theorem F175_159_l1_le {F F' : Nat} (h : F ≤ F') (t1 : Int) (s13 : Int × Int × (List Int)) (b37 : Int) (s41 : Int) : Le (F175_159_l1 F t1 s13 b37 s41) (F175_159_l1 F' t1 s13 b37 s41) := by
  unfold F175_159_l1
  repeat' (first | (with_reducible exact Le.refl _) | refine F159_le h _ _ | refine F175_159_l0_le h _ _ _ | refine Le.compF (fun _ _ => ?_) | refine Le.ite ?_ ?_ | refine Le.bind ?_ ?_ | refine Le.iter (fun _ => ?_) h | intro _ | split)
theorem F175_159_l2_le {F F' : Nat} (h : F ≤ F') (t1 : Int) (s13 : Int × Int × (List Int)) : Le (F175_159_l2 F t1 s13) (F175_159_l2 F' t1 s13) := by
  unfold F175_159_l2
  repeat' (first | (with_reducible exact Le.refl _) | refine F159_le h _ _ | refine F175_159_l0_le h _ _ _ | refine F175_159_l1_le h _ _ _ _ | refine Le.compF (fun _ _ => ?_) | refine Le.ite ?_ ?_ | refine Le.bind ?_ ?_ | refine Le.iter (fun _ => ?_) h | intro _ | split)
theorem F175_159_le {F F' : Nat} (h : F ≤ F') (t0 : List Int) (t1 : Int) (t2 : Int) (t3 : Int) : Le (F175_159 F t0 t1 t2 t3) (F175_159 F' t0 t1 t2 t3) := by
  unfold F175_159
  repeat' (first | (with_reducible exact Le.refl _) | refine F159_le h _ _ | refine F175_159_l0_le h _ _ _ | refine F175_159_l1_le h _ _ _ _ | refine F175_159_l2_le h _ _ | refine Le.compF (fun _ _ => ?_) | refine Le.ite ?_ ?_ | refine Le.bind ?_ ?_ | refine Le.iter (fun _ => ?_) h | intro _ | split)
theorem F176_159_l0_le {F F' : Nat} (h : F ≤ F') (t0 : List Int) (t1 : Int) (t2 : Int) (t3 : Int) (x1 : Int) (x3 : Int) (s13 : Int) : Le (F176_159_l0 F t0 t1 t2 t3 x1 x3 s13) (F176_159_l0 F' t0 t1 t2 t3 x1 x3 s13) := by
  unfold F176_159_l0
  repeat' (first | (with_reducible exact Le.refl _) | refine F159_le h _ _ | refine Le.compF (fun _ _ => ?_) | refine Le.ite ?_ ?_ | refine Le.bind ?_ ?_ | refine Le.iter (fun _ => ?_) h | intro _ | split)
theorem F176_159_l1_le {F F' : Nat} (h : F ≤ F') (t0 : List Int) (t1 : Int) (t3 : Int) (x1 : Int) (x3 : Int) (b32 : Int) (s36 : Int) : Le (F176_159_l1 F t0 t1 t3 x1 x3 b32 s36) (F176_159_l1 F' t0 t1 t3 x1 x3 b32 s36) := by
  unfold F176_159_l1
  repeat' (first | (with_reducible exact Le.refl _) | refine F159_le h _ _ | refine F176_159_l0_le h _ _ _ _ _ _ _ | refine Le.compF (fun _ _ => ?_) | refine Le.ite ?_ ?_ | refine Le.bind ?_ ?_ | refine Le.iter (fun _ => ?_) h | intro _ | split)
theorem F176_159_l2_le {F F' : Nat} (h : F ≤ F') (t1 : Int) (s84 : Int × Int × (List Int)) (s89 : Int) : Le (F176_159_l2 F t1 s84 s89) (F176_159_l2 F' t1 s84 s89) := by
  unfold F176_159_l2
  repeat' (first | (with_reducible exact Le.refl _) | refine F159_le h _ _ | refine F176_159_l0_le h _ _ _ _ _ _ _ | refine F176_159_l1_le h _ _ _ _ _ _ _ | refine Le.compF (fun _ _ => ?_) | refine Le.ite ?_ ?_ | refine Le.bind ?_ ?_ | refine Le.iter (fun _ => ?_) h | intro _ | split)
theorem F176_159_l3_le {F F' : Nat} (h : F ≤ F') (t1 : Int) (s84 : Int × Int × (List Int)) (b108 : Int) (s112 : Int) : Le (F176_159_l3 F t1 s84 b108 s112) (F176_159_l3 F' t1 s84 b108 s112) := by
  unfold F176_159_l3
  repeat' (first | (with_reducible exact Le.refl _) | refine F159_le h _ _ | refine F176_159_l0_le h _ _ _ _ _ _ _ | refine F176_159_l1_le h _ _ _ _ _ _ _ | refine F176_159_l2_le h _ _ _ | refine Le.compF (fun _ _ => ?_) | refine Le.ite ?_ ?_ | refine Le.bind ?_ ?_ | refine Le.iter (fun _ => ?_) h | intro _ | split)
theorem F176_159_l4_le {F F' : Nat} (h : F ≤ F') (t1 : Int) (s84 : Int × Int × (List Int)) : Le (F176_159_l4 F t1 s84) (F176_159_l4 F' t1 s84) := by
  unfold F176_159_l4
  repeat' (first | (with_reducible exact Le.refl _) | refine F159_le h _ _ | refine F176_159_l0_le h _ _ _ _ _ _ _ | refine F176_159_l1_le h _ _ _ _ _ _ _ | refine F176_159_l2_le h _ _ _ | refine F176_159_l3_le h _ _ _ _ | refine Le.compF (fun _ _ => ?_) | refine Le.ite ?_ ?_ | refine Le.bind ?_ ?_ | refine Le.iter (fun _ => ?_) h | intro _ | split)
theorem F176_159_le {F F' : Nat} (h : F ≤ F') (t0 : List Int) (t1 : Int) (t2 : Int) (t3 : Int) : Le (F176_159 F t0 t1 t2 t3) (F176_159 F' t0 t1 t2 t3) := by
  unfold F176_159
  repeat' (first | (with_reducible exact Le.refl _) | refine F159_le h _ _ | refine F176_159_l0_le h _ _ _ _ _ _ _ | refine F176_159_l1_le h _ _ _ _ _ _ _ | refine F176_159_l2_le h _ _ _ | refine F176_159_l3_le h _ _ _ _ | refine F176_159_l4_le h _ _ | refine Le.compF (fun _ _ => ?_) | refine Le.ite ?_ ?_ | refine Le.bind ?_ ?_ | refine Le.iter (fun _ => ?_) h | intro _ | split)
theorem F154_159_l0_le {F F' : Nat} (h : F ≤ F') {frec frec' : (List Int) → Int → Int → Int → Option ((List Int))} (hf : ∀ x0 x1 x2 x3, Le (frec x0 x1 x2 x3) (frec' x0 x1 x2 x3)) (s1 : Int × Int × Int × Bool × Bool × (List Int)) : Le (F154_159_l0 F frec s1) (F154_159_l0 F' frec' s1) := by
  unfold F154_159_l0
  repeat' (first | (with_reducible exact Le.refl _) | refine F159_le h _ _ | refine F169_159_le h _ _ _ | refine F170_159_le h _ _ _ | refine F171_159_le h _ _ _ | refine F172_159_le h _ _ _ | refine F173_159_le h _ _ _ | refine F174_159_le h _ _ _ | refine F175_159_le h _ _ _ _ | refine F176_159_le h _ _ _ _ | refine Le.compF (fun _ _ => ?_) | refine hf _ _ _ _ | refine Le.ite ?_ ?_ | refine Le.bind ?_ ?_ | refine Le.iter (fun _ => ?_) h | intro _ | split)
theorem F154_159_le {F F' : Nat} (h : F ≤ F') (x0 : (List Int)) (x1 : Int) (x2 : Int) (x3 : Int) : Le (F154_159 F x0 x1 x2 x3) (F154_159 F' x0 x1 x2 x3) := by
  induction F generalizing F' x0 x1 x2 x3 with
  | zero => exact ⟨fun _ h => by cases h⟩
  | succ F ih =>
    cases F' with
    | zero => omega
    | succ F' =>
      rw [F154_159, F154_159]
      try dsimp only
      repeat' (first | (with_reducible exact Le.refl _) | refine F154_159_l0_le (Nat.le_of_succ_le_succ h) ?_ _ | refine F159_le (Nat.le_of_succ_le_succ h) _ _ | refine F169_159_le (Nat.le_of_succ_le_succ h) _ _ _ | refine F170_159_le (Nat.le_of_succ_le_succ h) _ _ _ | refine F171_159_le (Nat.le_of_succ_le_succ h) _ _ _ | refine F172_159_le (Nat.le_of_succ_le_succ h) _ _ _ | refine F173_159_le (Nat.le_of_succ_le_succ h) _ _ _ | refine F174_159_le (Nat.le_of_succ_le_succ h) _ _ _ | refine F175_159_le (Nat.le_of_succ_le_succ h) _ _ _ _ | refine F176_159_le (Nat.le_of_succ_le_succ h) _ _ _ _ | refine Le.compF (fun _ _ => ?_) | refine ih (Nat.le_of_succ_le_succ h) _ _ _ _ | refine Le.ite ?_ ?_ | refine Le.bind ?_ ?_ | refine Le.iter (fun _ => ?_) (Nat.le_of_succ_le_succ h) | (dsimp only; done) | intro _ | split)
theorem F110_159_le {F F' : Nat} (h : F ≤ F') (t0 : List Int) : Le (F110_159 F t0) (F110_159 F' t0) := by
  unfold F110_159
  repeat' (first | (with_reducible exact Le.refl _) | refine F154_159_le h _ _ _ _ | refine F155_le h _ | refine Le.compF (fun _ _ => ?_) | refine Le.ite ?_ ?_ | refine Le.bind ?_ ?_ | refine Le.iter (fun _ => ?_) h | intro _ | split)
theorem F122_l0_le {F F' : Nat} (h : F ≤ F') (t0 : List Int) (s20 : Int × Int × (List Bool)) : Le (F122_l0 F t0 s20) (F122_l0 F' t0 s20) := by
  unfold F122_l0
  repeat' (first | (with_reducible exact Le.refl _) | refine F101_le h _ | refine F110_159_le h _ | refine Le.compF (fun _ _ => ?_) | refine Le.ite ?_ ?_ | refine Le.bind ?_ ?_ | refine Le.iter (fun _ => ?_) h | intro _ | split)
theorem F122_l1_le {F F' : Nat} (h : F ≤ F') (t0 : List Int) (s10 : (List Int) × Int × (List Bool)) : Le (F122_l1 F t0 s10) (F122_l1 F' t0 s10) := by
  unfold F122_l1
  repeat' (first | (with_reducible exact Le.refl _) | refine F101_le h _ | refine F110_159_le h _ | refine F122_l0_le h _ _ | refine Le.compF (fun _ _ => ?_) | refine Le.ite ?_ ?_ | refine Le.bind ?_ ?_ | refine Le.iter (fun _ => ?_) h | intro _ | split)
theorem F122_le {F F' : Nat} (h : F ≤ F') (t0 : List Int) : Le (F122 F t0) (F122 F' t0) := by
  unfold F122
  repeat' (first | (with_reducible exact Le.refl _) | refine F101_le h _ | refine F110_159_le h _ | refine F122_l0_le h _ _ | refine F122_l1_le h _ _ | refine Le.compF (fun _ _ => ?_) | refine Le.ite ?_ ?_ | refine Le.bind ?_ ?_ | refine Le.iter (fun _ => ?_) h | intro _ | split)
theorem F137_l0_le {F F' : Nat} (h : F ≤ F')  (s16 : Int × Int) : Le (F137_l0 F s16) (F137_l0 F' s16) := by
  unfold F137_l0
  repeat' (first | (with_reducible exact Le.refl _) | refine F122_le h _ | refine Le.compF (fun _ _ => ?_) | refine Le.ite ?_ ?_ | refine Le.bind ?_ ?_ | refine Le.iter (fun _ => ?_) h | intro _ | split)
theorem F137_l1_le {F F' : Nat} (h : F ≤ F') (r1 : (List Int) × Int) (s8 : Int × Int) : Le (F137_l1 F r1 s8) (F137_l1 F' r1 s8) := by
  unfold F137_l1
  repeat' (first | (with_reducible exact Le.refl _) | refine F122_le h _ | refine F137_l0_le h _ | refine Le.compF (fun _ _ => ?_) | refine Le.ite ?_ ?_ | refine Le.bind ?_ ?_ | refine Le.iter (fun _ => ?_) h | intro _ | split)
theorem F137_le {F F' : Nat} (h : F ≤ F') (t0 : List Int) : Le (F137 F t0) (F137 F' t0) := by
  unfold F137
  repeat' (first | (with_reducible exact Le.refl _) | refine F122_le h _ | refine F137_l0_le h _ | refine F137_l1_le h _ _ | refine Le.compF (fun _ _ => ?_) | refine Le.ite ?_ ?_ | refine Le.bind ?_ ?_ | refine Le.iter (fun _ => ?_) h | intro _ | split)
theorem F196_le {F F' : Nat} (h : F ≤ F') (t0 : Int × Int) : Le (F196 F t0) (F196 F' t0) := by
  unfold F196
  repeat' (first | (with_reducible exact Le.refl _) | refine F166_le h _ _ | refine Le.compF (fun _ _ => ?_) | refine Le.ite ?_ ?_ | refine Le.bind ?_ ?_ | refine Le.iter (fun _ => ?_) h | intro _ | split)
theorem F163_le {F F' : Nat} (h : F ≤ F') (t0 : Int × Int) (t1 : Int × Int) : Le (F163 F t0 t1) (F163 F' t0 t1) := by
  unfold F163
  repeat' (first | (with_reducible exact Le.refl _) | refine F196_le h _ | refine Le.compF (fun _ _ => ?_) | refine Le.ite ?_ ?_ | refine Le.bind ?_ ?_ | refine Le.iter (fun _ => ?_) h | intro _ | split)
theorem F138_le {F F' : Nat} (h : F ≤ F') (t0 : Int × Int) (t1 : Int × Int) : Le (F138 F t0 t1) (F138 F' t0 t1) := by
  unfold F138
  repeat' (first | (with_reducible exact Le.refl _) | refine F149_le h _ _ | refine F163_le h _ _ | refine Le.compF (fun _ _ => ?_) | refine Le.ite ?_ ?_ | refine Le.bind ?_ ?_ | refine Le.iter (fun _ => ?_) h | intro _ | split)
theorem F73_le {F F' : Nat} (h : F ≤ F')  : Le (F73 F) (F73 F') := by
  unfold F73
  repeat' (first | (with_reducible exact Le.refl _) | refine F137_le h _ | refine F138_le h _ _ | refine Le.compF (fun _ _ => ?_) | refine Le.ite ?_ ?_ | refine Le.bind ?_ ?_ | refine Le.iter (fun _ => ?_) h | intro _ | split)
theorem F141_le {F F' : Nat} (h : F ≤ F') (t0 : Int) : Le (F141 F t0) (F141 F' t0) := by
  unfold F141
  repeat' (first | (with_reducible exact Le.refl _) | refine Le.compF (fun _ _ => ?_) | refine Le.ite ?_ ?_ | refine Le.bind ?_ ?_ | refine Le.iter (fun _ => ?_) h | intro _ | split)
theorem F164_141_l0_le {F F' : Nat} (h : F ≤ F') (t0 : List Int) (s1 : Int) : Le (F164_141_l0 F t0 s1) (F164_141_l0 F' t0 s1) := by
  unfold F164_141_l0
  repeat' (first | (with_reducible exact Le.refl _) | refine F141_le h _ | refine Le.compF (fun _ _ => ?_) | refine Le.ite ?_ ?_ | refine Le.bind ?_ ?_ | refine Le.iter (fun _ => ?_) h | intro _ | split)
theorem F164_141_le {F F' : Nat} (h : F ≤ F') (t0 : List Int) : Le (F164_141 F t0) (F164_141 F' t0) := by
  unfold F164_141
  repeat' (first | (with_reducible exact Le.refl _) | refine F141_le h _ | refine F164_141_l0_le h _ _ | refine Le.compF (fun _ _ => ?_) | refine Le.ite ?_ ?_ | refine Le.bind ?_ ?_ | refine Le.iter (fun _ => ?_) h | intro _ | split)
theorem F140_141_le {F F' : Nat} (h : F ≤ F') (t0 : List Int) : Le (F140_141 F t0) (F140_141 F' t0) := by
  unfold F140_141
  repeat' (first | (with_reducible exact Le.refl _) | refine F164_141_le h _ | refine Le.compF (fun _ _ => ?_) | refine Le.ite ?_ ?_ | refine Le.bind ?_ ?_ | refine Le.iter (fun _ => ?_) h | intro _ | split)
theorem F76_le {F F' : Nat} (h : F ≤ F') (t0 : List Int) : Le (F76 F t0) (F76 F' t0) := by
  unfold F76
  repeat' (first | (with_reducible exact Le.refl _) | refine F140_141_le h _ | refine Le.compF (fun _ _ => ?_) | refine Le.ite ?_ ?_ | refine Le.bind ?_ ?_ | refine Le.iter (fun _ => ?_) h | intro _ | split)
theorem F165_l0_le {F F' : Nat} (h : F ≤ F') (t0 : Int) (s3 : Int) : Le (F165_l0 F t0 s3) (F165_l0 F' t0 s3) := by
  unfold F165_l0
  repeat' (first | (with_reducible exact Le.refl _) | refine Le.compF (fun _ _ => ?_) | refine Le.ite ?_ ?_ | refine Le.bind ?_ ?_ | refine Le.iter (fun _ => ?_) h | intro _ | split)
theorem F165_le {F F' : Nat} (h : F ≤ F') (t0 : Int) : Le (F165 F t0) (F165 F' t0) := by
  unfold F165
  repeat' (first | (with_reducible exact Le.refl _) | refine F165_l0_le h _ _ | refine Le.compF (fun _ _ => ?_) | refine Le.ite ?_ ?_ | refine Le.bind ?_ ?_ | refine Le.iter (fun _ => ?_) h | intro _ | split)
end Go.Proofs.Ytihmliblbhjlaaa

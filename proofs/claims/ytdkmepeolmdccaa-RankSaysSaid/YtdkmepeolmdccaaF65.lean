/- The machine answers F65: printed by a program of ours (gen.py). -/
import Derived.Test.YtdkmepeolmdccaaDef
import Derived.Test.YtdkmepeolmdccaaEnv
set_option linter.unusedVariables false
namespace Go.Proofs.Ytdkmepeolmdccaa
open Go.Am
theorem F65.fn : E.fn 65 = some ⟨10, (Try.f65.body.getD .skip), Try.f65.results.toList, []⟩ := rfl
theorem F65_ok {F : Nat} : ∀ {m : Mem} {n : Nat} {r : Int} {t0 : Int} (h : F65 F t0 = some r) , Ret E n 65 [.sc (.int .i64 t0)] m n (fun v m' n' => v = .sc (.int .i64 r)) := by
  induction F with
  | zero => intro m n r t0 h; cases h
  | succ F ih =>
    intro m n r t0 h 
    rw [F65] at h
    try dsimp only at h
    refine Ret.walk F65.fn ?_
    refine WC.start fun S0 em en hz => ?_
    refine WC.seq ?_
    refine WC.region ?_
    refine WO.asg rfl ?_
    refine WO.nil ?_
    refine thenL_n ?_
    refine WC.seq ?_
    refine WC.seq ?_
    refine WC.region ?_
    refine WO.mv rfl ?_
    refine WO.bin rfl rfl (by decide) (by decide) rfl ?_
    refine WO.nil ?_
    refine thenL_n ?_
    refine WC.cond rfl (fun q1 => ?_) (fun q1 => ?_)
    · have h := iteT q1 h
      refine WC.seq ?_
      refine WC.region ?_
      refine WO.asg rfl ?_
      refine WO.nil ?_
      refine thenL_n ?_
      refine WC.ret ?_
      refine thenL_r ?_
      obtain rfl := someI h
      exact ⟨.inr rfl, _, _, rfl, rfl, rfl⟩
    · have h := iteF q1 h
      refine WC.skip ?_
      refine thenL_n ?_
      refine WC.seq ?_
      refine WC.region ?_
      refine WO.mv rfl ?_
      refine WO.mv rfl ?_
      refine WO.bin rfl rfl (by decide) (by decide) rfl ?_
      obtain ⟨r2, e3, h⟩ := bindS h
      refine WO.callE (S := S0) rfl rfl (ih e3) (fun S4 c5 => ?_)
      refine WO.bin rfl rfl (by decide) (by decide) rfl ?_
      refine WO.asg rfl ?_
      refine WO.nil ?_
      refine thenL_n ?_
      refine WC.ret ?_
      obtain rfl := someI h
      exact ⟨.inr rfl, _, _, rfl, rfl, rfl⟩
end Go.Proofs.Ytdkmepeolmdccaa

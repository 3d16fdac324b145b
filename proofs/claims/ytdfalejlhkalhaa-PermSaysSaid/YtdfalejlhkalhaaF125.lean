/- The machine answers F125: printed by a program of ours (gen.py). -/
import Derived.Test.YtdfalejlhkalhaaDef
import Derived.Test.YtdfalejlhkalhaaEnv
set_option linter.unusedVariables false
namespace Go.Proofs.Ytdfalejlhkalhaa
open Go.Am
theorem F125.fn : E.fn 125 = some ⟨6, (Try.f125.body.getD .skip), Try.f125.results.toList, []⟩ := rfl
theorem F125_ok {F : Nat} {m : Mem} {n : Nat} {r : Bool} {t0 : Int} (h : F125 F t0 = some r)  : Ret E n 125 [.sc (.int .i64 t0)] m n (fun v m' n' => v = .sc (.bool r)) := by
  unfold F125 at h
  refine Ret.walk F125.fn ?_
  refine WC.start fun S0 em en hz => ?_
  refine WC.seq ?_
  refine WC.region ?_
  refine WO.asg rfl ?_
  refine WO.nil ?_
  refine thenL_n ?_
  refine WC.seq ?_
  refine WC.region ?_
  refine WO.mv rfl ?_
  refine WO.mv rfl ?_
  refine WO.bin rfl rfl (by decide) (by decide) rfl ?_
  refine WO.asg rfl ?_
  refine WO.nil ?_
  refine thenL_n ?_
  refine WC.ret ?_
  obtain rfl := someI h
  exact ⟨.inr rfl, _, _, rfl, rfl, rfl⟩
end Go.Proofs.Ytdfalejlhkalhaa

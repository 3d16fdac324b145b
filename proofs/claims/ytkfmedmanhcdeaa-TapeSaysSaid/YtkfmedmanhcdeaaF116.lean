/- The machine answers F116: printed by a program of ours (gen.py). -/
import Derived.Test.YtkfmedmanhcdeaaDef
import Derived.Test.YtkfmedmanhcdeaaEnv
set_option linter.unusedVariables false
namespace Go.Proofs.Ytkfmedmanhcdeaa
open Go.Am
theorem F116.fn : E.fn 116 = some ⟨5, (Try.f116.body.getD .skip), Try.f116.results.toList, []⟩ := rfl
theorem F116_ok {F : Nat} {m : Mem} {n : Nat} {r : Bool} {t0 : Int} (h : F116 F t0 = some r)  : Ret E n 116 [.sc (.int .u8 t0)] m n (fun v m' n' => v = .sc (.bool r)) := by
  unfold F116 at h
  refine Ret.walk F116.fn ?_
  refine WC.start fun S0 em en hz => ?_
  refine WC.seq ?_
  refine WC.region ?_
  refine WO.asg rfl ?_
  refine WO.nil ?_
  refine thenL_n ?_
  refine WC.seq ?_
  refine WC.region ?_
  refine WO.mv rfl ?_
  refine WO.bin rfl rfl (by decide) (by decide) rfl ?_
  refine WO.asg rfl ?_
  refine WO.nil ?_
  refine thenL_n ?_
  refine WC.ret ?_
  obtain rfl := someI h
  exact ⟨.inr rfl, _, _, rfl, rfl, rfl⟩
end Go.Proofs.Ytkfmedmanhcdeaa

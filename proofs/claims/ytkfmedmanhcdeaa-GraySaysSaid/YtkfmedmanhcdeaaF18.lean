/- The machine answers F18: printed by a program of ours (gen.py). -/
import Derived.Test.YtkfmedmanhcdeaaDef
import Derived.Test.YtkfmedmanhcdeaaEnv
set_option linter.unusedVariables false
namespace Go.Proofs.Ytkfmedmanhcdeaa
open Go.Am
theorem F18.fn : E.fn 18 = some ⟨7, (Try.f18.body.getD .skip), Try.f18.results.toList, []⟩ := rfl
theorem F18_ok {F : Nat} {m : Mem} {n : Nat} {r : Int} {t0 : Int} (h : F18 F t0 = some r)  : Ret E n 18 [.sc (.int .u16 t0)] m n (fun v m' n' => v = .sc (.int .u16 r)) := by
  unfold F18 at h
  refine Ret.walk F18.fn ?_
  refine WC.start fun S0 em en hz => ?_
  refine WC.seq ?_
  refine WC.region ?_
  refine WO.asg rfl ?_
  refine WO.nil ?_
  refine thenL_n ?_
  refine WC.seq ?_
  refine WC.region ?_
  refine WO.mv rfl ?_
  refine WO.mv rfl ?_
  obtain ⟨x1, e2, h⟩ := bindS h
  refine WO.shrD rfl rfl e2 ?_
  refine WO.bits rfl rfl rfl (by decide) (by decide) rfl ?_
  refine WO.asg rfl ?_
  refine WO.nil ?_
  refine thenL_n ?_
  refine WC.ret ?_
  obtain rfl := someI h
  exact ⟨.inr rfl, _, _, rfl, rfl, rfl⟩
end Go.Proofs.Ytkfmedmanhcdeaa

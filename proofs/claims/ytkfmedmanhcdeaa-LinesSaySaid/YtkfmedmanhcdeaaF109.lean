/- The machine answers F109: printed by a program of ours (gen.py). -/
import Derived.Test.YtkfmedmanhcdeaaDef
import Derived.Test.YtkfmedmanhcdeaaEnv
set_option linter.unusedVariables false
namespace Go.Proofs.Ytkfmedmanhcdeaa
open Go.Am
theorem F109.fn : E.fn 109 = some ⟨7, (Try.f109.body.getD .skip), Try.f109.results.toList, []⟩ := rfl
theorem F109_ok {F : Nat} {m : Mem} {n : Nat} {r : Bool} {t0 : Int} {c0 : Int} {bc0 : Nat} (h : F109 F t0 c0 = some r) (kc0 : Pv Y3 n m bc0 c0) : Ret E n 109 [.sc (.int .i64 t0), .sc (.ptr bc0 0)] m n (fun v m' n' => v = .sc (.bool r)) := by
  unfold F109 at h
  refine Ret.walk F109.fn ?_
  refine WC.start fun S0 em en hz => ?_
  have hoc0 := kc0.rpS em hz
  refine WC.seq ?_
  refine WC.region ?_
  refine WO.asg rfl ?_
  refine WO.nil ?_
  refine thenL_n ?_
  refine WC.seq ?_
  refine WC.region ?_
  refine WO.mv rfl ?_
  refine WO.ldP rfl hoc0 rfl rfl rfl ?_
  refine WO.bin rfl rfl (by decide) (by decide) rfl ?_
  refine WO.asg rfl ?_
  refine WO.nil ?_
  refine thenL_n ?_
  refine WC.ret ?_
  obtain rfl := someI h
  exact ⟨.inr rfl, _, _, rfl, rfl, rfl⟩
end Go.Proofs.Ytkfmedmanhcdeaa

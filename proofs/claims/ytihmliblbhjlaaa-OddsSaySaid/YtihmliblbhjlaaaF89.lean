/- The machine answers F89: printed by a program of ours (gen.py). -/
import Derived.Test.YtihmliblbhjlaaaDef
import Derived.Test.YtihmliblbhjlaaaEnv
set_option linter.unusedVariables false
namespace Go.Proofs.Ytihmliblbhjlaaa
open Go.Am
theorem F89.fn : E.fn 89 = some ⟨4, (Try.f89.body.getD .skip), Try.f89.results.toList, []⟩ := rfl
theorem F89_ok {F : Nat} {m : Mem} {n : Nat} {r : Int} {t0 : Int} (h : F89 F t0 = some r)  : Ret E n 89 [.sc (.int .i64 t0)] m n (fun v m' n' => v = .sc (.int .i64 r)) := by
  unfold F89 at h
  refine Ret.walk F89.fn ?_
  refine WC.start fun S0 em en hz => ?_
  refine WC.seq ?_
  refine WC.region ?_
  refine WO.asg rfl ?_
  refine WO.nil ?_
  refine thenL_n ?_
  refine WC.seq ?_
  refine WC.region ?_
  refine WO.mv rfl ?_
  refine WO.asg rfl ?_
  refine WO.nil ?_
  refine thenL_n ?_
  refine WC.ret ?_
  obtain rfl := someI h
  exact ⟨.inr rfl, _, _, rfl, rfl, rfl⟩
end Go.Proofs.Ytihmliblbhjlaaa

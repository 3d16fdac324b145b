/- The machine answers F168: printed by a program of ours (gen.py). -/
import Derived.Test.YtihmliblbhjlaaaDef
import Derived.Test.YtihmliblbhjlaaaEnv
set_option linter.unusedVariables false
namespace Go.Proofs.Ytihmliblbhjlaaa
open Go.Am
theorem F168.fn : E.fn 168 = some ⟨6, (Try.f168.body.getD .skip), Try.f168.results.toList, []⟩ := rfl
theorem F168_ok {F : Nat} {m : Mem} {n : Nat} {r : Bool} {t0 : Int} (h : F168 F t0 = some r)  : Ret E n 168 [.sc (.int .i64 t0)] m n (fun v m' n' => v = .sc (.bool r)) := by
  unfold F168 at h
  refine Ret.walk F168.fn ?_
  refine WC.start fun S0 em en hz => ?_
  refine WC.seq ?_
  refine WC.region ?_
  refine WO.asg rfl ?_
  refine WO.nil ?_
  refine thenL_n ?_
  refine WC.seq ?_
  refine WC.region ?_
  refine WO.mv rfl ?_
  refine WO.mv rfl ?_
  refine WO.bin rfl rfl (by decide) (by decide) rfl ?_
  refine WO.asg rfl ?_
  refine WO.nil ?_
  refine thenL_n ?_
  refine WC.ret ?_
  obtain rfl := someI h
  exact ⟨.inr rfl, _, _, rfl, rfl, rfl⟩
end Go.Proofs.Ytihmliblbhjlaaa

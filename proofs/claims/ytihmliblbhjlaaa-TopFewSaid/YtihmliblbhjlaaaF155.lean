/- The machine answers F155: printed by a program of ours (gen.py). -/
import Derived.Test.YtihmliblbhjlaaaDef
import Derived.Test.YtihmliblbhjlaaaEnv
import Derived.Test.YtihmliblbhjlaaaF177
import Derived.Test.YtihmliblbhjlaaaF178
set_option linter.unusedVariables false
namespace Go.Proofs.Ytihmliblbhjlaaa
open Go.Am
theorem F155.fn : E.fn 155 = some ⟨8, (Try.f155.body.getD .skip), Try.f155.results.toList, []⟩ := rfl
theorem F155_ok {F : Nat} {m : Mem} {n : Nat} {r : Int} {t0 : Int} (h : F155 F t0 = some r)  : Ret E n 155 [.sc (.int .u64 t0)] m n (fun v m' n' => v = .sc (.int .i64 r)) := by
  unfold F155 at h
  refine Ret.walk F155.fn ?_
  refine WC.start fun S0 em en hz => ?_
  refine WC.seq ?_
  refine WC.region ?_
  refine WO.asg rfl ?_
  refine WO.nil ?_
  refine thenL_n ?_
  refine WC.seq ?_
  refine WC.cond rfl (fun q1 => ?_) (fun q1 => ?_)
  · have h := iteT q1 h
    refine WC.seq ?_
    refine WC.region ?_
    refine WO.mv rfl ?_
    refine WO.conv rfl rfl rfl rfl ?_
    obtain ⟨r2, e3, h⟩ := bindS h
    refine WO.callE (S := S0) rfl rfl (F177_ok e3) (fun S4 c5 => ?_)
    refine WO.asg rfl ?_
    refine WO.nil ?_
    refine thenL_n ?_
    refine WC.ret ?_
    refine thenL_r ?_
    obtain rfl := someI h
    exact ⟨.inr rfl, _, _, rfl, rfl, rfl⟩
  · have h := iteF q1 h
    refine WC.skip ?_
    refine thenL_n ?_
    refine WC.seq ?_
    refine WC.region ?_
    refine WO.mv rfl ?_
    obtain ⟨r6, e7, h⟩ := bindS h
    refine WO.callE (S := S0) rfl rfl (F178_ok e7) (fun S8 c9 => ?_)
    refine WO.asg rfl ?_
    refine WO.nil ?_
    refine thenL_n ?_
    refine WC.ret ?_
    obtain rfl := someI h
    exact ⟨.inr rfl, _, _, rfl, rfl, rfl⟩
end Go.Proofs.Ytihmliblbhjlaaa

/- The machine answers F151: printed by a program of ours (gen.py). -/
import Derived.Test.YtihmliblbhjlaaaDef
import Derived.Test.YtihmliblbhjlaaaEnv
import Derived.Test.YtihmliblbhjlaaaF167
set_option linter.unusedVariables false
namespace Go.Proofs.Ytihmliblbhjlaaa
open Go.Am
theorem F151.fn : E.fn 151 = some ⟨17, (Try.f151.body.getD .skip), Try.f151.results.toList, []⟩ := rfl
theorem F151_ok {F : Nat} {m : Mem} {n : Nat} {r : Bool} {t0 : Int} {t1 : Int} (h : F151 F t0 t1 = some r)  : Ret E n 151 [.sc (.int .i64 t0), .sc (.int .i64 t1)] m n (fun v m' n' => v = .sc (.bool r)) := by
  unfold F151 at h
  refine Ret.walk F151.fn ?_
  refine WC.start fun S0 em en hz => ?_
  refine WC.seq ?_
  refine WC.region ?_
  refine WO.asg rfl ?_
  refine WO.nil ?_
  refine thenL_n ?_
  refine WC.seq ?_
  refine WC.region ?_
  refine WO.mv rfl ?_
  obtain ⟨r1, e2, h⟩ := bindS h
  refine WO.callE (S := S0) rfl rfl (F167_ok e2) (fun S3 c4 => ?_)
  refine WO.mv rfl ?_
  obtain ⟨y10, e11, h⟩ := bindS h
  refine WO.cutS (d := 11) (S := S3) 4 y10 (fun q9 => ?_) (fun q9 => ?_) (fun S12 c13 => ?_)
  · have h := e11
    have h := iteT q9 h
    refine WO.gyes rfl rfl ?_
    refine WO.mv rfl ?_
    refine WO.gyes rfl rfl ?_
    obtain ⟨r5, e6, h⟩ := bindS h
    refine WO.callE (S := S3) rfl rfl (F167_ok e6) (fun S7 c8 => ?_)
    refine WO.gyes rfl rfl ?_
    refine WO.do rfl rfl ?_
    obtain rfl := someI h
    refine WO.pickT rfl rfl ?_
    refine WO.nil ?_
    exact ⟨S7, rfl, rfl, c8, (Cov.cons rfl (Cov.skip rfl (Cov.skip rfl (Cov.skip rfl (Cov.skip rfl (Cov.skip rfl (Cov.refl _)))))))⟩
  · have h := e11
    have h := iteF q9 h
    obtain rfl := someI h
    refine WO.gno rfl rfl ?_
    refine WO.gno rfl rfl ?_
    refine WO.gno rfl rfl ?_
    refine WO.pickF rfl rfl ?_
    refine WO.nil ?_
    exact ⟨S3, rfl, rfl, Ch.refl _ _, (Cov.cons rfl (Cov.skip rfl (Cov.skip rfl (Cov.skip rfl (Cov.skip rfl (Cov.skip rfl (Cov.refl _)))))))⟩
  refine WO.mv rfl ?_
  refine WO.cutB (d := 16) 4 (y10 || (decide (t0 < t1))) (fun q14 => ?_) (fun q14 => ?_) ?_
  · refine WO.gno rfl rfl ?_
    refine WO.gno rfl rfl ?_
    refine WO.gno rfl rfl ?_
    refine WO.pickT rfl rfl ?_
    refine WO.nil ?_
    exact ⟨rfl, rfl, (Cov.any rfl (orT q14) (Cov.skip rfl (Cov.skip rfl (Cov.skip rfl (Cov.skip rfl (Cov.skip rfl (Cov.refl _)))))))⟩
  · skip
    refine WO.gyes rfl rfl ?_
    refine WO.mv rfl ?_
    refine WO.gyes rfl rfl ?_
    refine WO.mv rfl ?_
    refine WO.gyes rfl rfl ?_
    refine WO.bin rfl rfl (by decide) (by decide) rfl ?_
    refine WO.pickF rfl rfl ?_
    refine WO.nil ?_
    exact ⟨rfl, rfl, (Cov.any rfl (orF q14) (Cov.skip rfl (Cov.skip rfl (Cov.skip rfl (Cov.skip rfl (Cov.skip rfl (Cov.refl _)))))))⟩
  refine WO.asg rfl ?_
  refine WO.nil ?_
  refine thenL_n ?_
  refine WC.ret ?_
  obtain rfl := someI h
  exact ⟨.inr rfl, _, _, rfl, rfl, rfl⟩
end Go.Proofs.Ytihmliblbhjlaaa

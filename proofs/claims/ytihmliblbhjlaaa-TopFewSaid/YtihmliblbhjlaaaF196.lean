/- The machine answers F196: printed by a program of ours (gen.py). -/
import Derived.Test.YtihmliblbhjlaaaDef
import Derived.Test.YtihmliblbhjlaaaEnv
import Derived.Test.YtihmliblbhjlaaaF166
set_option linter.unusedVariables false
namespace Go.Proofs.Ytihmliblbhjlaaa
open Go.Am
theorem F196.fn : E.fn 196 = some ⟨27, (Try.f196.body.getD .skip), Try.f196.results.toList, []⟩ := rfl
theorem F196_ok {F : Nat} {m : Mem} {n : Nat} {r : Int} {t0 : Int × Int} (h : F196 F t0 = some r)  : Ret E n 196 [.agg [.int .i64 t0.1, .int .i64 t0.2]] m n (fun v m' n' => v = .sc (.int .i64 r)) := by
  unfold F196 at h
  refine Ret.walk F196.fn ?_
  refine WC.start fun S0 em en hz => ?_
  refine WC.seq ?_
  refine WC.region ?_
  refine WO.bxS (A := Y26) (S := S0) (u := (t0.1, t0.2)) 2 rfl rfl rfl rfl (fun v1 S2 c3 ho4 => ?_)
  refine WO.asg rfl ?_
  refine WO.nil ?_
  refine thenL_n ?_
  refine WC.seq ?_
  refine WC.seq ?_
  refine WC.region ?_
  refine WO.fldS (j := 0) (q := 0) rfl ho4.at0 ho4.ptr rfl rfl rfl (by decide) ?_
  refine WO.ldB (j := 0) (q := 1) rfl rfl ho4 rfl rfl rfl ?_
  refine WO.bin rfl rfl (by decide) (by decide) rfl ?_
  refine WO.mv rfl ?_
  refine WO.cutB (d := 10) 4 ((decide (((t0.1, t0.2)).2 < 1)) || (decide (((t0.1, t0.2)).2 > 1000000000))) (fun q5 => ?_) (fun q5 => ?_) ?_
  · refine WO.gno rfl rfl ?_
    refine WO.gno rfl rfl ?_
    refine WO.gno rfl rfl ?_
    refine WO.pickT rfl rfl ?_
    refine WO.nil ?_
    exact ⟨rfl, rfl, (Cov.any rfl (orT q5) (Cov.skip rfl (Cov.skip rfl (Cov.skip rfl (Cov.skip rfl (Cov.skip rfl (Cov.refl _)))))))⟩
  · skip
    refine WO.gyes rfl rfl ?_
    refine WO.fldS (j := 0) (q := 0) rfl ho4.at0 ho4.ptr rfl rfl rfl (by decide) ?_
    refine WO.gyes rfl rfl ?_
    refine WO.ldB (j := 0) (q := 1) rfl rfl ho4 rfl rfl rfl ?_
    refine WO.gyes rfl rfl ?_
    refine WO.bin rfl rfl (by decide) (by decide) rfl ?_
    refine WO.pickF rfl rfl ?_
    refine WO.nil ?_
    exact ⟨rfl, rfl, (Cov.any rfl (orF q5) (Cov.skip rfl (Cov.skip rfl (Cov.skip rfl (Cov.skip rfl (Cov.skip rfl (Cov.refl _)))))))⟩
  refine WO.mv rfl ?_
  refine WO.cutB (d := 15) 4 (((decide (((t0.1, t0.2)).2 < 1)) || (decide (((t0.1, t0.2)).2 > 1000000000))) || (decide (((t0.1, t0.2)).1 < (-1000000000)))) (fun q6 => ?_) (fun q6 => ?_) ?_
  · refine WO.gno rfl rfl ?_
    refine WO.gno rfl rfl ?_
    refine WO.gno rfl rfl ?_
    refine WO.pickT rfl rfl ?_
    refine WO.nil ?_
    exact ⟨rfl, rfl, (Cov.any rfl (orT q6) (Cov.skip rfl (Cov.skip rfl (Cov.skip rfl (Cov.skip rfl (Cov.skip rfl (Cov.refl _)))))))⟩
  · skip
    refine WO.gyes rfl rfl ?_
    refine WO.fldS (j := 0) (q := 0) rfl ho4.at0 ho4.ptr rfl rfl rfl (by decide) ?_
    refine WO.gyes rfl rfl ?_
    refine WO.ldB (j := 0) (q := 0) rfl rfl ho4 rfl rfl rfl ?_
    refine WO.gyes rfl rfl ?_
    refine WO.bin rfl rfl (by decide) (by decide) rfl ?_
    refine WO.pickF rfl rfl ?_
    refine WO.nil ?_
    exact ⟨rfl, rfl, (Cov.any rfl (orF q6) (Cov.skip rfl (Cov.skip rfl (Cov.skip rfl (Cov.skip rfl (Cov.skip rfl (Cov.refl _)))))))⟩
  refine WO.mv rfl ?_
  refine WO.cutB (d := 20) 4 ((((decide (((t0.1, t0.2)).2 < 1)) || (decide (((t0.1, t0.2)).2 > 1000000000))) || (decide (((t0.1, t0.2)).1 < (-1000000000)))) || (decide (((t0.1, t0.2)).1 > 1000000000))) (fun q7 => ?_) (fun q7 => ?_) ?_
  · refine WO.gno rfl rfl ?_
    refine WO.gno rfl rfl ?_
    refine WO.gno rfl rfl ?_
    refine WO.pickT rfl rfl ?_
    refine WO.nil ?_
    exact ⟨rfl, rfl, (Cov.any rfl (orT q7) (Cov.skip rfl (Cov.skip rfl (Cov.skip rfl (Cov.skip rfl (Cov.skip rfl (Cov.refl _)))))))⟩
  · skip
    refine WO.gyes rfl rfl ?_
    refine WO.fldS (j := 0) (q := 0) rfl ho4.at0 ho4.ptr rfl rfl rfl (by decide) ?_
    refine WO.gyes rfl rfl ?_
    refine WO.ldB (j := 0) (q := 0) rfl rfl ho4 rfl rfl rfl ?_
    refine WO.gyes rfl rfl ?_
    refine WO.bin rfl rfl (by decide) (by decide) rfl ?_
    refine WO.pickF rfl rfl ?_
    refine WO.nil ?_
    exact ⟨rfl, rfl, (Cov.any rfl (orF q7) (Cov.skip rfl (Cov.skip rfl (Cov.skip rfl (Cov.skip rfl (Cov.skip rfl (Cov.refl _)))))))⟩
  refine WO.nil ?_
  refine thenL_n ?_
  refine WC.cond rfl (fun q8 => ?_) (fun q8 => ?_)
  · have h := iteT q8 h
    refine WC.seq ?_
    refine WC.region ?_
    refine WO.asg rfl ?_
    refine WO.nil ?_
    refine thenL_n ?_
    refine WC.ret ?_
    refine thenL_r ?_
    obtain rfl := someI h
    exact ⟨.inr rfl, _, _, rfl, rfl, rfl⟩
  · have h := iteF q8 h
    refine WC.skip ?_
    refine thenL_n ?_
    refine WC.seq ?_
    refine WC.seq ?_
    refine WC.region ?_
    refine WO.fldS (j := 0) (q := 0) rfl ho4.at0 ho4.ptr rfl rfl rfl (by decide) ?_
    refine WO.ldB (j := 0) (q := 0) rfl rfl ho4 rfl rfl rfl ?_
    refine WO.fldS (j := 0) (q := 0) rfl ho4.at0 ho4.ptr rfl rfl rfl (by decide) ?_
    refine WO.ldB (j := 0) (q := 1) rfl rfl ho4 rfl rfl rfl ?_
    obtain ⟨r9, e10, h⟩ := bindS h
    refine WO.callE (S := S2) rfl rfl (F166_ok e10) (fun S11 c12 => ?_)
    have ho4 := ho4.to c12
    refine WO.bin rfl rfl (by decide) (by decide) rfl ?_
    refine WO.nil ?_
    refine thenL_n ?_
    refine WC.cond rfl (fun q13 => ?_) (fun q13 => ?_)
    · have h := iteT q13 h
      refine WC.seq ?_
      refine WC.region ?_
      refine WO.asg rfl ?_
      refine WO.nil ?_
      refine thenL_n ?_
      refine WC.ret ?_
      refine thenL_r ?_
      obtain rfl := someI h
      exact ⟨.inr rfl, _, _, rfl, rfl, rfl⟩
    · have h := iteF q13 h
      refine WC.skip ?_
      refine thenL_n ?_
      refine WC.seq ?_
      refine WC.region ?_
      refine WO.asg rfl ?_
      refine WO.nil ?_
      refine thenL_n ?_
      refine WC.ret ?_
      obtain rfl := someI h
      exact ⟨.inr rfl, _, _, rfl, rfl, rfl⟩
end Go.Proofs.Ytihmliblbhjlaaa

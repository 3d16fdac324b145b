/- The machine answers F149: printed by a program of ours (gen.py). -/
import Derived.Test.YtihmliblbhjlaaaDef
import Derived.Test.YtihmliblbhjlaaaEnv
import Derived.Test.YtihmliblbhjlaaaF166
set_option linter.unusedVariables false
namespace Go.Proofs.Ytihmliblbhjlaaa
open Go.Am
theorem F149.fn : E.fn 149 = some ⟨33, (Try.f149.body.getD .skip), Try.f149.results.toList, []⟩ := rfl
theorem F149_ok {F : Nat} {m : Mem} {n : Nat} {r : (Int × Int) × Int} {t0 : Int} {t1 : Int} (h : F149 F t0 t1 = some r)  : Ret E n 149 [.sc (.int .i64 t0), .sc (.int .i64 t1)] m n (fun v m' n' => v = .tup [.agg [.int .i64 r.1.1, .int .i64 r.1.2], .sc (.int .i64 r.2)]) := by
  unfold F149 at h
  refine Ret.walk F149.fn ?_
  refine WC.start fun S0 em en hz => ?_
  refine WC.seq ?_
  refine WC.region ?_
  refine WO.alS (A := Y26) (S := S0) (z0 := (0, 0)) 2 rfl rfl rfl (fun v1 S2 c3 ho4 => ?_)
  refine WO.asg rfl ?_
  refine WO.nil ?_
  refine thenL_n ?_
  refine WC.seq ?_
  refine WC.region ?_
  refine WO.mv rfl ?_
  refine WO.mv rfl ?_
  obtain ⟨r5, e6, h⟩ := bindS h
  refine WO.callE (S := S2) rfl rfl (F166_ok e6) (fun S7 c8 => ?_)
  have ho4 := ho4.to c8
  refine WO.asg rfl ?_
  refine WO.nil ?_
  refine thenL_n ?_
  refine WC.seq ?_
  refine WC.drawN rfl rfl ?_
  have ho4z := ho4.lt
  refine WO.mv rfl ?_
  refine WO.mv rfl ?_
  obtain ⟨x9, e10, h⟩ := bindS h
  refine WO.quoD rfl rfl e10 ?_
  refine WO.mv rfl ?_
  refine WO.mv rfl ?_
  obtain ⟨x11, e12, h⟩ := bindS h
  refine WO.quoD rfl rfl e12 ?_
  refine WO.do rfl rfl ?_
  refine WO.alS (A := Y26) (S := S7) (z0 := (0, 0)) 3 rfl rfl rfl (fun v13 S14 c15 ho16 => ?_)
  have ho4 := ho4.to c15
  refine WO.stBA (u' := (x9, x11)) rfl ho16.at0 rfl ho16 rfl rfl (fun S17 c18 ho16 => ?_)
  have ho4 := ho4.to c18
  refine WO.nil ?_
  refine thenL_n ?_
  refine WC.seq ?_
  refine WC.seq ?_
  refine WC.region ?_
  refine WO.fldS (j := 0) (q := 0) rfl ho16.at0 ho16.ptr rfl rfl rfl (by decide) ?_
  refine WO.ldB (j := 0) (q := 1) rfl rfl ho16 rfl rfl rfl ?_
  refine WO.bin rfl rfl (by decide) (by decide) rfl ?_
  refine WO.mv rfl ?_
  refine WO.cutB (d := 25) 4 ((decide (((x9, x11)).2 > 1000000000)) || (decide (((x9, x11)).1 < (-1000000000)))) (fun q19 => ?_) (fun q19 => ?_) ?_
  · refine WO.gno rfl rfl ?_
    refine WO.gno rfl rfl ?_
    refine WO.gno rfl rfl ?_
    refine WO.pickT rfl rfl ?_
    refine WO.nil ?_
    exact ⟨rfl, rfl, (Cov.any rfl (orT q19) (Cov.skip rfl (Cov.skip rfl (Cov.skip rfl (Cov.skip rfl (Cov.skip rfl (Cov.refl _)))))))⟩
  · skip
    refine WO.gyes rfl rfl ?_
    refine WO.fldS (j := 0) (q := 0) rfl ho16.at0 ho16.ptr rfl rfl rfl (by decide) ?_
    refine WO.gyes rfl rfl ?_
    refine WO.ldB (j := 0) (q := 0) rfl rfl ho16 rfl rfl rfl ?_
    refine WO.gyes rfl rfl ?_
    refine WO.bin rfl rfl (by decide) (by decide) rfl ?_
    refine WO.pickF rfl rfl ?_
    refine WO.nil ?_
    exact ⟨rfl, rfl, (Cov.any rfl (orF q19) (Cov.skip rfl (Cov.skip rfl (Cov.skip rfl (Cov.skip rfl (Cov.skip rfl (Cov.refl _)))))))⟩
  refine WO.mv rfl ?_
  refine WO.cutB (d := 30) 4 (((decide (((x9, x11)).2 > 1000000000)) || (decide (((x9, x11)).1 < (-1000000000)))) || (decide (((x9, x11)).1 > 1000000000))) (fun q20 => ?_) (fun q20 => ?_) ?_
  · refine WO.gno rfl rfl ?_
    refine WO.gno rfl rfl ?_
    refine WO.gno rfl rfl ?_
    refine WO.pickT rfl rfl ?_
    refine WO.nil ?_
    exact ⟨rfl, rfl, (Cov.any rfl (orT q20) (Cov.skip rfl (Cov.skip rfl (Cov.skip rfl (Cov.skip rfl (Cov.skip rfl (Cov.refl _)))))))⟩
  · skip
    refine WO.gyes rfl rfl ?_
    refine WO.fldS (j := 0) (q := 0) rfl ho16.at0 ho16.ptr rfl rfl rfl (by decide) ?_
    refine WO.gyes rfl rfl ?_
    refine WO.ldB (j := 0) (q := 0) rfl rfl ho16 rfl rfl rfl ?_
    refine WO.gyes rfl rfl ?_
    refine WO.bin rfl rfl (by decide) (by decide) rfl ?_
    refine WO.pickF rfl rfl ?_
    refine WO.nil ?_
    exact ⟨rfl, rfl, (Cov.any rfl (orF q20) (Cov.skip rfl (Cov.skip rfl (Cov.skip rfl (Cov.skip rfl (Cov.skip rfl (Cov.refl _)))))))⟩
  refine WO.nil ?_
  refine thenL_n ?_
  refine WC.cond rfl (fun q21 => ?_) (fun q21 => ?_)
  · have h := iteT q21 h
    refine WC.seq ?_
    refine WC.region ?_
    refine WO.do rfl rfl ?_
    refine WO.stBA (u' := (0, 0)) rfl ho4.at0 rfl ho4 rfl rfl (fun S22 c23 ho4 => ?_)
    have ho16 := ho16.to c23
    refine WO.asg rfl ?_
    refine WO.nil ?_
    refine thenL_n ?_
    refine WC.ret ?_
    refine thenL_r ?_
    have hcell := ho4
    obtain rfl := someI h
    exact ⟨.inr rfl, _, _, (resK_c2 hcell (Cov.refl _) rfl rfl rfl), rfl, rfl⟩
  · have h := iteF q21 h
    refine WC.skip ?_
    refine thenL_n ?_
    refine WC.seq ?_
    refine WC.region ?_
    refine WO.ldBA (j := 0) rfl ho16.at0 ho16 rfl rfl ?_
    refine WO.stBA (u' := (((x9, x11)).1, ((x9, x11)).2)) rfl ho4.at0 rfl ho4 rfl rfl (fun S24 c25 ho4 => ?_)
    have ho16 := ho16.to c25
    refine WO.asg rfl ?_
    refine WO.nil ?_
    refine thenL_n ?_
    refine WC.ret ?_
    have hcell := ho4
    obtain rfl := someI h
    exact ⟨.inr rfl, _, _, (resK_c2 hcell (Cov.refl _) rfl rfl rfl), rfl, rfl⟩
end Go.Proofs.Ytihmliblbhjlaaa

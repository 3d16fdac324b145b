/- The machine answers F32: printed by a program of ours (gen.py). -/
import Derived.Test.YtihmliblbhjlaaaDef
import Derived.Test.YtihmliblbhjlaaaEnv
import Derived.Test.YtihmliblbhjlaaaF34_21
set_option linter.unusedVariables false
namespace Go.Proofs.Ytihmliblbhjlaaa
open Go.Am
theorem F32.fn : E.fn 32 = some ⟨17, (Try.f32.body.getD .skip), Try.f32.results.toList, []⟩ := rfl
theorem F32_ok {F : Nat} {m : Mem} {n : Nat} {r : Bool} {t0 : (List (List Int)) × (List (List Int))} {t1 : (List (List Int)) × (List (List Int))} {vt0_0 : SV} {vt0_1 : SV} {vt1_0 : SV} {vt1_1 : SV} (h : F32 F t0 t1 = some r) (kt0_0 : Vw Y22 n m vt0_0 t0.1) (kt0_1 : Vw Y22 n m vt0_1 t0.2) (kt1_0 : Vw Y22 n m vt1_0 t1.1) (kt1_1 : Vw Y22 n m vt1_1 t1.2) : Ret E n 32 [.agg [vt0_0, vt0_1], .agg [vt1_0, vt1_1]] m n (fun v m' n' => v = .sc (.bool r)) := by
  unfold F32 at h
  refine Ret.walk F32.fn ?_
  refine WC.start fun S0 em en hz => ?_
  have hot0_0 := kt0_0.rdS em hz
  have hot0_1 := kt0_1.rdS em hz
  have hot1_0 := kt1_0.rdS em hz
  have hot1_1 := kt1_1.rdS em hz
  refine WC.seq ?_
  refine WC.region ?_
  refine WO.bxW (S := S0) (cs := [vt0_0, vt0_1]) 2 rfl rfl rfl (fun b1 S2 c3 ho4 => ?_)
  have hot0_0 := hot0_0.to c3
  have hot0_1 := hot0_1.to c3
  have hot1_0 := hot1_0.to c3
  have hot1_1 := hot1_1.to c3
  refine WO.bxW (S := S2) (cs := [vt1_0, vt1_1]) 3 rfl rfl rfl (fun b5 S6 c7 ho8 => ?_)
  have hot0_0 := hot0_0.to c7
  have hot0_1 := hot0_1.to c7
  have hot1_0 := hot1_0.to c7
  have hot1_1 := hot1_1.to c7
  have ho4 := ho4.to c7
  refine WO.asg rfl ?_
  refine WO.nil ?_
  refine thenL_n ?_
  refine WC.seq ?_
  refine WC.region ?_
  refine WO.fldS (j := 0) (q := 0) rfl ho4.at0 ho4.ptr rfl rfl rfl (by decide) ?_
  refine WO.ldW rfl rfl ho4 rfl rfl ho4.lt rfl ?_
  refine WO.fldS (j := 0) (q := 0) rfl ho8.at0 ho8.ptr rfl rfl rfl (by decide) ?_
  refine WO.ldW rfl rfl ho8 rfl rfl ho8.lt rfl ?_
  obtain ⟨r9, e10, h⟩ := bindS h
  refine WO.callE (S := S6) rfl rfl (F34_21_ok e10 hot0_0.vw hot1_0.vw) (fun S11 c12 => ?_)
  have hot0_0 := hot0_0.to c12
  have hot0_1 := hot0_1.to c12
  have hot1_0 := hot1_0.to c12
  have hot1_1 := hot1_1.to c12
  have ho4 := ho4.to c12
  have ho8 := ho8.to c12
  refine WO.mv rfl ?_
  obtain ⟨y18, e19, h⟩ := bindS h
  refine WO.cutS (d := 16) (S := S11) 6 y18 (fun q17 => ?_) (fun q17 => ?_) (fun S20 c21 => ?_)
  · have h := e19
    have h := iteT q17 h
    refine WO.gyes rfl rfl ?_
    refine WO.fldS (j := 0) (q := 0) rfl ho4.at0 ho4.ptr rfl rfl rfl (by decide) ?_
    refine WO.gyes rfl rfl ?_
    refine WO.ldW rfl rfl ho4 rfl rfl ho4.lt rfl ?_
    refine WO.gyes rfl rfl ?_
    refine WO.fldS (j := 0) (q := 0) rfl ho8.at0 ho8.ptr rfl rfl rfl (by decide) ?_
    refine WO.gyes rfl rfl ?_
    refine WO.ldW rfl rfl ho8 rfl rfl ho8.lt rfl ?_
    refine WO.gyes rfl rfl ?_
    obtain ⟨r13, e14, h⟩ := bindS h
    refine WO.callE (S := S11) rfl rfl (F34_21_ok e14 hot0_1.vw hot1_1.vw) (fun S15 c16 => ?_)
    have hot0_0 := hot0_0.to c16
    have hot0_1 := hot0_1.to c16
    have hot1_0 := hot1_0.to c16
    have hot1_1 := hot1_1.to c16
    have ho4 := ho4.to c16
    have ho8 := ho8.to c16
    obtain rfl := someI h
    refine WO.pickT rfl rfl ?_
    refine WO.nil ?_
    exact ⟨S15, rfl, rfl, c16, (Cov.cons rfl (Cov.skip rfl (Cov.skip rfl (Cov.skip rfl (Cov.skip rfl (Cov.skip rfl (Cov.skip rfl (Cov.skip rfl (Cov.refl _)))))))))⟩
  · have h := e19
    have h := iteF q17 h
    obtain rfl := someI h
    refine WO.gno rfl rfl ?_
    refine WO.gno rfl rfl ?_
    refine WO.gno rfl rfl ?_
    refine WO.gno rfl rfl ?_
    refine WO.gno rfl rfl ?_
    refine WO.pickF rfl rfl ?_
    refine WO.nil ?_
    exact ⟨S11, rfl, rfl, Ch.refl _ _, (Cov.cons rfl (Cov.skip rfl (Cov.skip rfl (Cov.skip rfl (Cov.skip rfl (Cov.skip rfl (Cov.skip rfl (Cov.skip rfl (Cov.refl _)))))))))⟩
  have hot0_0 := hot0_0.to c21
  have hot0_1 := hot0_1.to c21
  have hot1_0 := hot1_0.to c21
  have hot1_1 := hot1_1.to c21
  have ho4 := ho4.to c21
  have ho8 := ho8.to c21
  refine WO.asg rfl ?_
  refine WO.nil ?_
  refine thenL_n ?_
  refine WC.ret ?_
  obtain rfl := someI h
  exact ⟨.inr rfl, _, _, rfl, rfl, rfl⟩
end Go.Proofs.Ytihmliblbhjlaaa

/- The machine answers F20: printed by a program of ours (gen.py). -/
import Derived.Test.YtdkmepeolmdccaaDef
import Derived.Test.YtdkmepeolmdccaaEnv
import Derived.Test.YtdkmepeolmdccaaF112_113
import Derived.Test.YtdkmepeolmdccaaF96_111
set_option linter.unusedVariables false
namespace Go.Proofs.Ytdkmepeolmdccaa
open Go.Am
theorem F20.fn : E.fn 20 = some ⟨18, (Try.f20.body.getD .skip), Try.f20.results.toList, []⟩ := rfl
theorem F20_ok {F : Nat} {m : Mem} {n : Nat} {r : Int} {t0 : List Int} {t1 : List Int} {vt0 : SV} {vt1 : SV} (h : F20 F t0 t1 = some r) (kt0 : Vw Y3 n m vt0 t0) (kt1 : Vw Y23 n m vt1 t1) : Ret E n 20 [.sc vt0, .sc vt1] m n (fun v m' n' => v = .sc (.int .i64 r)) := by
  unfold F20 at h
  refine Ret.walk F20.fn ?_
  refine WC.start fun S0 em en hz => ?_
  have hot0 := kt0.rdS em hz
  have hot1 := kt1.rdS em hz
  refine WC.seq ?_
  refine WC.region ?_
  refine WO.bxS (A := Y22) (S := S0) (u := t0) 2 rfl rfl ⟨vt0, rfl, hot0⟩ rfl (fun v1 S2 c3 ho4 => ?_)
  have hot0 := hot0.to c3
  have hot1 := hot1.to c3
  refine WO.asg rfl ?_
  refine WO.nil ?_
  refine thenL_n ?_
  refine WC.seq ?_
  refine WC.seq ?_
  refine WC.region ?_
  refine WO.ldBS rfl ho4.at0 ho4 rfl rfl (fun v5 ho6 => ?_)
  refine WO.lenS rfl ho6.slv rfl ?_
  refine WO.bin rfl rfl (by decide) (by decide) rfl ?_
  refine WO.mv rfl ?_
  refine WO.cutB (d := 12) 4 (((t0.length : Int) == 0) || (decide ((t0.length : Int) > 12))) (fun q9 => ?_) (fun q9 => ?_) ?_
  · refine WO.gno rfl rfl ?_
    refine WO.gno rfl rfl ?_
    refine WO.gno rfl rfl ?_
    refine WO.pickT rfl rfl ?_
    refine WO.nil ?_
    exact ⟨rfl, rfl, (Cov.any rfl (orT q9) (Cov.skip rfl (Cov.skip rfl (Cov.skip rfl (Cov.skip rfl (Cov.skip rfl (Cov.refl _)))))))⟩
  · skip
    refine WO.gyes rfl rfl ?_
    refine WO.ldBS rfl ho4.at0 ho4 rfl rfl (fun v7 ho8 => ?_)
    refine WO.gyes rfl rfl ?_
    refine WO.lenS rfl ho8.slv rfl ?_
    refine WO.gyes rfl rfl ?_
    refine WO.bin rfl rfl (by decide) (by decide) rfl ?_
    refine WO.pickF rfl rfl ?_
    refine WO.nil ?_
    exact ⟨rfl, rfl, (Cov.any rfl (orF q9) (Cov.skip rfl (Cov.skip rfl (Cov.skip rfl (Cov.skip rfl (Cov.skip rfl (Cov.refl _)))))))⟩
  refine WO.nil ?_
  refine thenL_n ?_
  refine WC.cond rfl (fun q10 => ?_) (fun q10 => ?_)
  · have h := iteT q10 h
    refine WC.seq ?_
    refine WC.region ?_
    refine WO.asg rfl ?_
    refine WO.nil ?_
    refine thenL_n ?_
    refine WC.ret ?_
    refine thenL_r ?_
    obtain rfl := someI h
    exact ⟨.inr rfl, _, _, rfl, rfl, rfl⟩
  · have h := iteF q10 h
    refine WC.skip ?_
    refine thenL_n ?_
    refine WC.seq ?_
    refine WC.seq ?_
    refine WC.region ?_
    refine WO.ldBS rfl ho4.at0 ho4 rfl rfl (fun v11 ho12 => ?_)
    obtain ⟨r13, e14, h⟩ := bindS h
    refine WO.callE (S := S2) rfl rfl (F96_111_ok e14 ho12.vw) (fun S15 c16 => ?_)
    have hot0 := hot0.to c16
    have hot1 := hot1.to c16
    have ho4 := ho4.to c16
    have ho6 := ho6.to c16
    have ho12 := ho12.to c16
    refine WO.nil ?_
    refine thenL_n ?_
    refine WC.cond rfl (fun q17 => ?_) (fun q17 => ?_)
    · have h := iteT q17 h
      refine WC.seq ?_
      refine WC.region ?_
      refine WO.asg rfl ?_
      refine WO.nil ?_
      refine thenL_n ?_
      refine WC.ret ?_
      refine thenL_r ?_
      obtain rfl := someI h
      exact ⟨.inr rfl, _, _, rfl, rfl, rfl⟩
    · have h := iteF q17 h
      refine WC.skip ?_
      refine thenL_n ?_
      refine WC.seq ?_
      refine WC.seq ?_
      refine WC.region ?_
      refine WO.mv rfl ?_
      obtain ⟨b18, rfl⟩ := ho4.isp
      refine WO.do rfl rfl ?_
      obtain ⟨r19, e20, h⟩ := bindS h
      refine WO.callE (S := S15) rfl rfl (F112_113_ok e20 hot1.vw ho4.pv) (fun S21 c22 => ?_)
      have hot0 := hot0.to c22
      have hot1 := hot1.to c22
      have ho4 := ho4.to c22
      have ho6 := ho6.to c22
      have ho12 := ho12.to c22
      refine WO.nil ?_
      refine thenL_n ?_
      refine WC.cond rfl (fun q23 => ?_) (fun q23 => ?_)
      · have h := iteT q23 h
        refine WC.seq ?_
        refine WC.region ?_
        refine WO.asg rfl ?_
        refine WO.nil ?_
        refine thenL_n ?_
        refine WC.ret ?_
        refine thenL_r ?_
        obtain rfl := someI h
        exact ⟨.inr rfl, _, _, rfl, rfl, rfl⟩
      · have h := iteF q23 h
        refine WC.skip ?_
        refine thenL_n ?_
        refine WC.seq ?_
        refine WC.region ?_
        refine WO.asg rfl ?_
        refine WO.nil ?_
        refine thenL_n ?_
        refine WC.ret ?_
        obtain rfl := someI h
        exact ⟨.inr rfl, _, _, rfl, rfl, rfl⟩
end Go.Proofs.Ytdkmepeolmdccaa

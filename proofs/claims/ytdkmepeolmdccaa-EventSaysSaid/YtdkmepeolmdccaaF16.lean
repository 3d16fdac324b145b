/- The machine answers F16: printed by a program of ours (gen.py). -/
import Derived.Test.YtdkmepeolmdccaaDef
import Derived.Test.YtdkmepeolmdccaaEnv
import Derived.Test.YtdkmepeolmdccaaF109
import Derived.Test.YtdkmepeolmdccaaF110
import Derived.Test.YtdkmepeolmdccaaF19
set_option linter.unusedVariables false
namespace Go.Proofs.Ytdkmepeolmdccaa
open Go.Am
theorem F16.fn : E.fn 16 = some ⟨32, (Try.f16.body.getD .skip), Try.f16.results.toList, []⟩ := rfl
theorem F16_ok {F : Nat} {m : Mem} {n : Nat} {r : (Int × Int) × Int} {t0 : List Int} {t1 : Int} {t2 : Int} {vt0 : SV} (h : F16 F t0 t1 t2 = some r) (kt0 : Vw Y3 n m vt0 t0) : Ret E n 16 [.sc vt0, .sc (.int .u16 t1), .sc (.int .u16 t2)] m n (fun v m' n' => v = .tup [.agg [.int .i64 r.1.1, .int .i64 r.1.2], .sc (.int .i64 r.2)]) := by
  unfold F16 at h
  refine Ret.walk F16.fn ?_
  refine WC.start fun S0 em en hz => ?_
  have hot0 := kt0.rdS em hz
  refine WC.seq ?_
  refine WC.region ?_
  refine WO.alS (A := Y26) (S := S0) (z0 := (0, 0)) 2 rfl rfl rfl (fun v1 S2 c3 ho4 => ?_)
  have hot0 := hot0.to c3
  refine WO.asg rfl ?_
  refine WO.nil ?_
  refine thenL_n ?_
  refine WC.seq ?_
  refine WC.seq ?_
  refine WC.region ?_
  refine WO.mv rfl ?_
  refine WO.mv rfl ?_
  refine WO.mv rfl ?_
  refine WO.bsS (A := Y23) (S := S2) (M := [t1, t2]) (cs := [.int .u16 t1, .int .u16 t2]) 3 rfl rfl rfl ⟨[.int .u16 t1], _, rfl, rfl, ⟨[.int .u16 t2], _, rfl, rfl, rfl⟩⟩ rfl (fun v5 S6 c7 ho8 => ?_)
  have hot0 := hot0.to c7
  have ho4 := ho4.to c7
  obtain ⟨r9, e10, h⟩ := bindS h
  refine WO.callE (S := S6) rfl rfl (F19_ok e10 hot0.vw ho8.vw) (fun S11 c12 => ?_)
  have hot0 := hot0.to c12
  have ho4 := ho4.to c12
  have ho8 := ho8.to c12
  refine WO.asg rfl ?_
  refine WO.nil ?_
  refine thenL_n ?_
  refine WC.seq ?_
  refine WC.region ?_
  refine WO.mv rfl ?_
  refine WO.bin rfl rfl (by decide) (by decide) rfl ?_
  refine WO.nil ?_
  refine thenL_n ?_
  refine WC.cond rfl (fun q13 => ?_) (fun q13 => ?_)
  · have h := iteT q13 h
    refine WC.seq ?_
    refine WC.region ?_
    refine WO.do rfl rfl ?_
    refine WO.mv rfl ?_
    refine WO.stBA (u' := (0, 0)) rfl ho4.at0 rfl ho4 rfl rfl (fun S14 c15 ho4 => ?_)
    have hot0 := hot0.to c15
    have ho8 := ho8.to c15
    refine WO.asg rfl ?_
    refine WO.nil ?_
    refine thenL_n ?_
    refine WC.ret ?_
    refine thenL_r ?_
    have hcell := ho4
    obtain rfl := someI h
    exact ⟨.inr rfl, _, _, (resK_c2 hcell (Cov.refl _) rfl rfl rfl), rfl, rfl⟩
  · have h := iteF q13 h
    refine WC.skip ?_
    refine thenL_n ?_
    refine WC.seq ?_
    refine WC.seq ?_
    refine WC.region ?_
    refine WO.mv rfl ?_
    refine WO.bin rfl rfl (by decide) (by decide) rfl ?_
    refine WO.nil ?_
    refine thenL_n ?_
    refine WC.cond rfl (fun q16 => ?_) (fun q16 => ?_)
    · have h := iteT q16 h
      refine WC.seq ?_
      refine WC.region ?_
      refine WO.do rfl rfl ?_
      refine WO.stBA (u' := (0, 0)) rfl ho4.at0 rfl ho4 rfl rfl (fun S17 c18 ho4 => ?_)
      have hot0 := hot0.to c18
      have ho8 := ho8.to c18
      refine WO.asg rfl ?_
      refine WO.nil ?_
      refine thenL_n ?_
      refine WC.ret ?_
      refine thenL_r ?_
      have hcell := ho4
      obtain rfl := someI h
      exact ⟨.inr rfl, _, _, (resK_c2 hcell (Cov.refl _) rfl rfl rfl), rfl, rfl⟩
    · have h := iteF q16 h
      refine WC.skip ?_
      refine thenL_n ?_
      refine WC.seq ?_
      refine WC.region ?_
      refine WO.mv rfl ?_
      refine WO.mv rfl ?_
      refine WO.mv rfl ?_
      refine WO.bits rfl rfl rfl (by decide) (by decide) rfl ?_
      obtain ⟨r19, e20, h⟩ := bindS h
      refine WO.callE (S := S11) rfl rfl (F110_ok e20 hot0.vw) (fun S21 c22 => ?_)
      have hot0 := hot0.to c22
      have ho4 := ho4.to c22
      have ho8 := ho8.to c22
      refine WO.mv rfl ?_
      refine WO.mv rfl ?_
      obtain ⟨r23, e24, h⟩ := bindS h
      refine WO.callE (S := S21) rfl rfl (F110_ok e24 hot0.vw) (fun S25 c26 => ?_)
      have hot0 := hot0.to c26
      have ho4 := ho4.to c26
      have ho8 := ho8.to c26
      obtain ⟨r27, e28, h⟩ := bindS h
      refine WO.callE (S := S25) rfl rfl (F109_ok e28) (fun S29 c30 => ?_)
      have hot0 := hot0.to c30
      have ho4 := ho4.to c30
      have ho8 := ho8.to c30
      refine WO.do rfl rfl ?_
      refine WO.do rfl rfl ?_
      refine WO.stBA (u' := (r27.1.1, r27.1.2)) rfl ho4.at0 rfl ho4 rfl rfl (fun S31 c32 ho4 => ?_)
      have hot0 := hot0.to c32
      have ho8 := ho8.to c32
      refine WO.asg rfl ?_
      refine WO.nil ?_
      refine thenL_n ?_
      refine WC.ret ?_
      have hcell := ho4
      obtain rfl := someI h
      exact ⟨.inr rfl, _, _, (resK_c2 hcell (Cov.refl _) rfl rfl rfl), rfl, rfl⟩
end Go.Proofs.Ytdkmepeolmdccaa

/- The machine answers F15: printed by a program of ours (gen.py). -/
import Derived.Test.YtdkmepeolmdccaaDef
import Derived.Test.YtdkmepeolmdccaaEnv
import Derived.Test.YtdkmepeolmdccaaF109
import Derived.Test.YtdkmepeolmdccaaF110
import Derived.Test.YtdkmepeolmdccaaF19
set_option linter.unusedVariables false
namespace Go.Proofs.Ytdkmepeolmdccaa
open Go.Am
theorem F15.fn : E.fn 15 = some ⟨27, (Try.f15.body.getD .skip), Try.f15.results.toList, []⟩ := rfl
theorem F15_ok {F : Nat} {m : Mem} {n : Nat} {r : (Int × Int) × Int} {t0 : List Int} {t1 : Int} {vt0 : SV} (h : F15 F t0 t1 = some r) (kt0 : Vw Y3 n m vt0 t0) : Ret E n 15 [.sc vt0, .sc (.int .u16 t1)] m n (fun v m' n' => v = .tup [.agg [.int .i64 r.1.1, .int .i64 r.1.2], .sc (.int .i64 r.2)]) := by
  unfold F15 at h
  refine Ret.walk F15.fn ?_
  refine WC.start fun S0 em en hz => ?_
  have hot0 := kt0.rdS em hz
  refine WC.seq ?_
  refine WC.region ?_
  refine WO.alS (A := Y26) (S := S0) (z0 := (0, 0)) 2 rfl rfl rfl (fun v1 S2 c3 ho4 => ?_)
  have hot0 := hot0.to c3
  refine WO.asg rfl ?_
  refine WO.nil ?_
  refine thenL_n ?_
  refine WC.seq ?_
  refine WC.seq ?_
  refine WC.region ?_
  refine WO.mv rfl ?_
  refine WO.mv rfl ?_
  refine WO.bsS (A := Y23) (S := S2) (M := [t1]) (cs := [.int .u16 t1]) 3 rfl rfl rfl ⟨[.int .u16 t1], _, rfl, rfl, rfl⟩ rfl (fun v5 S6 c7 ho8 => ?_)
  have hot0 := hot0.to c7
  have ho4 := ho4.to c7
  obtain ⟨r9, e10, h⟩ := bindS h
  refine WO.callE (S := S6) rfl rfl (F19_ok e10 hot0.vw ho8.vw) (fun S11 c12 => ?_)
  have hot0 := hot0.to c12
  have ho4 := ho4.to c12
  have ho8 := ho8.to c12
  refine WO.asg rfl ?_
  refine WO.nil ?_
  refine thenL_n ?_
  refine WC.seq ?_
  refine WC.region ?_
  refine WO.mv rfl ?_
  refine WO.bin rfl rfl (by decide) (by decide) rfl ?_
  refine WO.nil ?_
  refine thenL_n ?_
  refine WC.cond rfl (fun q13 => ?_) (fun q13 => ?_)
  · have h := iteT q13 h
    refine WC.seq ?_
    refine WC.region ?_
    refine WO.do rfl rfl ?_
    refine WO.mv rfl ?_
    refine WO.stBA (u' := (0, 0)) rfl ho4.at0 rfl ho4 rfl rfl (fun S14 c15 ho4 => ?_)
    have hot0 := hot0.to c15
    have ho8 := ho8.to c15
    refine WO.asg rfl ?_
    refine WO.nil ?_
    refine thenL_n ?_
    refine WC.ret ?_
    refine thenL_r ?_
    have hcell := ho4
    obtain rfl := someI h
    exact ⟨.inr rfl, _, _, (resK_c2 hcell (Cov.refl _) rfl rfl rfl), rfl, rfl⟩
  · have h := iteF q13 h
    refine WC.skip ?_
    refine thenL_n ?_
    refine WC.seq ?_
    refine WC.drawN rfl ?_
    have hot0z := hot0.oz
    have ho8z := ho8.oz
    refine WO.mv rfl ?_
    refine WO.mv rfl ?_
    obtain ⟨r16, e17, h⟩ := bindS h
    refine WO.callE (S := S11) rfl rfl (F110_ok e17 hot0.vw) (fun S18 c19 => ?_)
    have hot0z := hot0z.toz c19
    have ho8z := ho8z.tow c19
    have hot0 := hot0.to c19
    have ho4 := ho4.to c19
    have ho8 := ho8.to c19
    refine WO.mv rfl ?_
    refine WO.mv rfl ?_
    refine WO.lenS rfl hot0.slv rfl ?_
    obtain ⟨x20, e21, h⟩ := bindS h
    refine WO.shlD rfl rfl e21 ?_
    refine WO.bin rfl rfl (by decide) (by decide) rfl ?_
    obtain ⟨r22, e23, h⟩ := bindS h
    refine WO.callE (S := S18) rfl rfl (F110_ok e23 hot0.vw) (fun S24 c25 => ?_)
    have hot0z := hot0z.toz c25
    have ho8z := ho8z.tow c25
    have hot0 := hot0.to c25
    have ho4 := ho4.to c25
    have ho8 := ho8.to c25
    obtain ⟨r26, e27, h⟩ := bindS h
    refine WO.callE (S := S24) rfl rfl (F109_ok e27) (fun S28 c29 => ?_)
    have hot0z := hot0z.toz c29
    have ho8z := ho8z.tow c29
    have hot0 := hot0.to c29
    have ho4 := ho4.to c29
    have ho8 := ho8.to c29
    refine WO.do rfl rfl ?_
    refine WO.do rfl rfl ?_
    refine WO.stBA (u' := (r26.1.1, r26.1.2)) rfl ho4.at0 rfl ho4 rfl rfl (fun S30 c31 ho4 => ?_)
    have hot0z := hot0z.toz c31
    have ho8z := ho8z.tow c31
    have hot0 := hot0.to c31
    have ho8 := ho8.to c31
    refine WO.asg rfl ?_
    refine WO.nil ?_
    refine thenL_n ?_
    refine WC.ret ?_
    have hcell := ho4
    obtain rfl := someI h
    exact ⟨.inr rfl, _, _, (resK_c2 hcell (Cov.refl _) rfl rfl rfl), rfl, rfl⟩
end Go.Proofs.Ytdkmepeolmdccaa

/- The machine answers F14: printed by a program of ours (gen.py). -/
import Derived.Test.YtihmliblbhjlaaaDef
import Derived.Test.YtihmliblbhjlaaaEnv
import Derived.Test.YtihmliblbhjlaaaF17
import Derived.Test.YtihmliblbhjlaaaF87
import Derived.Test.YtihmliblbhjlaaaF88_90
import Derived.Test.YtihmliblbhjlaaaF88_93
set_option linter.unusedVariables false
namespace Go.Proofs.Ytihmliblbhjlaaa
open Go.Am
theorem F14.fn : E.fn 14 = some ⟨21, (Try.f14.body.getD .skip), Try.f14.results.toList, [4]⟩ := rfl
theorem F14_ok {F : Nat} {m : Mem} {n : Nat} {r : (Int × Int) × Int} {t0 : (List Int) × (List Int)} {t1 : Int} {vt0_0 : SV} {vt0_1 : SV} (h : F14 F t0 t1 = some r) (kt0_0 : Vw Y3 n m vt0_0 t0.1) (kt0_1 : Vw Y3 n m vt0_1 t0.2) : Ret E n 14 [.agg [vt0_0, vt0_1], .sc (.int .i64 t1)] m n (fun v m' n' => v = .tup [.agg [.int .i64 r.1.1, .int .i64 r.1.2], .sc (.int .i64 r.2)]) := by
  unfold F14 at h
  refine Ret.walk F14.fn ?_
  refine WC.start fun S0 em en hz => ?_
  have hot0_0 := kt0_0.rdS em hz
  have hot0_1 := kt0_1.rdS em hz
  refine WC.seq ?_
  refine WC.region ?_
  refine WO.bxW (S := S0) (cs := [vt0_0, vt0_1]) 2 rfl rfl rfl (fun b1 S2 c3 ho4 => ?_)
  have hot0_0 := hot0_0.to c3
  have hot0_1 := hot0_1.to c3
  refine WO.bxS (A := Y3) (S := S2) (u := t1) 3 rfl rfl rfl rfl (fun v5 S6 c7 ho8 => ?_)
  have hot0_0 := hot0_0.to c7
  have hot0_1 := hot0_1.to c7
  have ho4 := ho4.to c7
  refine WO.alS (A := Y26) (S := S6) (z0 := (0, 0)) 4 rfl rfl rfl (fun v9 S10 c11 ho12 => ?_)
  have hot0_0 := hot0_0.to c11
  have hot0_1 := hot0_1.to c11
  have ho4 := ho4.to c11
  have ho8 := ho8.to c11
  refine WO.asg rfl ?_
  refine WO.nil ?_
  refine thenL_n ?_
  refine WC.seq ?_
  refine WC.seq ?_
  refine WC.region ?_
  refine WO.ldWA (sz := 2) (r := [vt0_0, vt0_1]) rfl ho4.at0 ho4 rfl rfl rfl ho4.lt rfl ?_
  obtain ⟨r13, e14, h⟩ := bindS h
  refine WO.callE (S := S10) rfl rfl (F17_ok e14 hot0_0.vw hot0_1.vw) (fun S15 c16 => ?_)
  have hot0_0 := hot0_0.to c16
  have hot0_1 := hot0_1.to c16
  have ho4 := ho4.to c16
  have ho8 := ho8.to c16
  have ho12 := ho12.to c16
  refine WO.asg rfl ?_
  refine WO.nil ?_
  refine thenL_n ?_
  refine WC.seq ?_
  refine WC.region ?_
  refine WO.mv rfl ?_
  refine WO.bin rfl rfl (by decide) (by decide) rfl ?_
  refine WO.nil ?_
  refine thenL_n ?_
  refine WC.cond rfl (fun q17 => ?_) (fun q17 => ?_)
  · have h := iteT q17 h
    refine WC.seq ?_
    refine WC.region ?_
    refine WO.do rfl rfl ?_
    refine WO.mv rfl ?_
    refine WO.stBA (u' := (0, 0)) rfl ho12.at0 rfl ho12 rfl rfl (fun S18 c19 ho12 => ?_)
    have hot0_0 := hot0_0.to c19
    have hot0_1 := hot0_1.to c19
    have ho4 := ho4.to c19
    have ho8 := ho8.to c19
    refine WO.asg rfl ?_
    refine WO.nil ?_
    refine thenL_n ?_
    refine WC.ret ?_
    refine thenL_r ?_
    have hcell := ho12
    obtain rfl := someI h
    exact ⟨.inr rfl, _, _, (resK_c2 hcell (Cov.refl _) rfl rfl rfl), rfl, rfl⟩
  · have h := iteF q17 h
    refine WC.skip ?_
    refine thenL_n ?_
    refine WC.seq ?_
    refine WC.drawN rfl rfl ?_
    have hot0_0z := hot0_0.oz
    have hot0_1z := hot0_1.oz
    have ho4z := ho4.lt
    have ho8z := ho8.lt
    have ho12z := ho12.lt
    refine WO.ldWA (sz := 2) (r := [vt0_0, vt0_1]) rfl ho4.at0 ho4 rfl rfl rfl ho4z (limLe_self _) ?_
    obtain ⟨b20, rfl⟩ := ho8.isp
    refine WO.do rfl rfl ?_
    obtain ⟨r21, e22, h⟩ := bindS h
    refine WO.callE (S := S15) rfl rfl (F88_93_ok e22 hot0_0.vw hot0_1.vw ho8.pv) (fun S23 c24 => ?_)
    have hot0_0z := hot0_0z.toz c24
    have hot0_1z := hot0_1z.toz c24
    have hot0_0 := hot0_0.to c24
    have hot0_1 := hot0_1.to c24
    have ho4 := ho4.to c24
    have ho8 := ho8.to c24
    have ho12 := ho12.to c24
    refine WO.ldWA (sz := 2) (r := [vt0_0, vt0_1]) rfl ho4.at0 ho4 rfl rfl rfl ho4z (limLe_self _) ?_
    obtain ⟨r25, e26, h⟩ := bindS h
    refine WO.callE (S := S23) rfl rfl (F88_90_ok e26 hot0_0.vw hot0_1.vw) (fun S27 c28 => ?_)
    have hot0_0z := hot0_0z.toz c28
    have hot0_1z := hot0_1z.toz c28
    have hot0_0 := hot0_0.to c28
    have hot0_1 := hot0_1.to c28
    have ho4 := ho4.to c28
    have ho8 := ho8.to c28
    have ho12 := ho12.to c28
    obtain ⟨r29, e30, h⟩ := bindS h
    refine WO.callE (S := S27) rfl rfl (F87_ok e30) (fun S31 c32 => ?_)
    have hot0_0z := hot0_0z.toz c32
    have hot0_1z := hot0_1z.toz c32
    have hot0_0 := hot0_0.to c32
    have hot0_1 := hot0_1.to c32
    have ho4 := ho4.to c32
    have ho8 := ho8.to c32
    have ho12 := ho12.to c32
    refine WO.do rfl rfl ?_
    refine WO.do rfl rfl ?_
    refine WO.stBA (u' := (r29.1.1, r29.1.2)) rfl ho12.at0 rfl ho12 rfl rfl (fun S33 c34 ho12 => ?_)
    have hot0_0z := hot0_0z.toz c34
    have hot0_1z := hot0_1z.toz c34
    have hot0_0 := hot0_0.to c34
    have hot0_1 := hot0_1.to c34
    have ho4 := ho4.to c34
    have ho8 := ho8.to c34
    refine WO.asg rfl ?_
    refine WO.nil ?_
    refine thenL_n ?_
    refine WC.ret ?_
    have hcell := ho12
    obtain rfl := someI h
    exact ⟨.inr rfl, _, _, (resK_c2 hcell (Cov.refl _) rfl rfl rfl), rfl, rfl⟩
end Go.Proofs.Ytihmliblbhjlaaa

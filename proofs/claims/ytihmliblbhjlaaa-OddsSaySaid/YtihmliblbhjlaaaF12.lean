/- The machine answers F12: printed by a program of ours (gen.py). -/
import Derived.Test.YtihmliblbhjlaaaDef
import Derived.Test.YtihmliblbhjlaaaEnv
import Derived.Test.YtihmliblbhjlaaaF17
import Derived.Test.YtihmliblbhjlaaaF87
import Derived.Test.YtihmliblbhjlaaaF88_89
import Derived.Test.YtihmliblbhjlaaaF88_90
set_option linter.unusedVariables false
namespace Go.Proofs.Ytihmliblbhjlaaa
open Go.Am
theorem F12.fn : E.fn 12 = some ⟨18, (Try.f12.body.getD .skip), Try.f12.results.toList, [4]⟩ := rfl
theorem F12_ok {F : Nat} {m : Mem} {n : Nat} {r : (Int × Int) × Int} {t0 : (List Int) × (List Int)} {vt0_0 : SV} {vt0_1 : SV} (h : F12 F t0 = some r) (kt0_0 : Vw Y3 n m vt0_0 t0.1) (kt0_1 : Vw Y3 n m vt0_1 t0.2) : Ret E n 12 [.agg [vt0_0, vt0_1]] m n (fun v m' n' => v = .tup [.agg [.int .i64 r.1.1, .int .i64 r.1.2], .sc (.int .i64 r.2)]) := by
  unfold F12 at h
  refine Ret.walk F12.fn ?_
  refine WC.start fun S0 em en hz => ?_
  have hot0_0 := kt0_0.rdS em hz
  have hot0_1 := kt0_1.rdS em hz
  refine WC.seq ?_
  refine WC.region ?_
  refine WO.bxW (S := S0) (cs := [vt0_0, vt0_1]) 2 rfl rfl rfl (fun b1 S2 c3 ho4 => ?_)
  have hot0_0 := hot0_0.to c3
  have hot0_1 := hot0_1.to c3
  refine WO.alS (A := Y26) (S := S2) (z0 := (0, 0)) 3 rfl rfl rfl (fun v5 S6 c7 ho8 => ?_)
  have hot0_0 := hot0_0.to c7
  have hot0_1 := hot0_1.to c7
  have ho4 := ho4.to c7
  refine WO.asg rfl ?_
  refine WO.nil ?_
  refine thenL_n ?_
  refine WC.seq ?_
  refine WC.seq ?_
  refine WC.region ?_
  refine WO.ldWA (sz := 2) (r := [vt0_0, vt0_1]) rfl ho4.at0 ho4 rfl rfl rfl ho4.lt rfl ?_
  obtain ⟨r9, e10, h⟩ := bindS h
  refine WO.callE (S := S6) rfl rfl (F17_ok e10 hot0_0.vw hot0_1.vw) (fun S11 c12 => ?_)
  have hot0_0 := hot0_0.to c12
  have hot0_1 := hot0_1.to c12
  have ho4 := ho4.to c12
  have ho8 := ho8.to c12
  refine WO.asg rfl ?_
  refine WO.nil ?_
  refine thenL_n ?_
  refine WC.seq ?_
  refine WC.region ?_
  refine WO.mv rfl ?_
  refine WO.bin rfl rfl (by decide) (by decide) rfl ?_
  refine WO.nil ?_
  refine thenL_n ?_
  refine WC.cond rfl (fun q13 => ?_) (fun q13 => ?_)
  · have h := iteT q13 h
    refine WC.seq ?_
    refine WC.region ?_
    refine WO.do rfl rfl ?_
    refine WO.mv rfl ?_
    refine WO.stBA (u' := (0, 0)) rfl ho8.at0 rfl ho8 rfl rfl (fun S14 c15 ho8 => ?_)
    have hot0_0 := hot0_0.to c15
    have hot0_1 := hot0_1.to c15
    have ho4 := ho4.to c15
    refine WO.asg rfl ?_
    refine WO.nil ?_
    refine thenL_n ?_
    refine WC.ret ?_
    refine thenL_r ?_
    have hcell := ho8
    obtain rfl := someI h
    exact ⟨.inr rfl, _, _, (resK_c2 hcell (Cov.refl _) rfl rfl rfl), rfl, rfl⟩
  · have h := iteF q13 h
    refine WC.skip ?_
    refine thenL_n ?_
    refine WC.seq ?_
    refine WC.drawN rfl rfl ?_
    have hot0_0z := hot0_0.oz
    have hot0_1z := hot0_1.oz
    have ho4z := ho4.lt
    have ho8z := ho8.lt
    refine WO.ldWA (sz := 2) (r := [vt0_0, vt0_1]) rfl ho4.at0 ho4 rfl rfl rfl ho4z (limLe_self _) ?_
    obtain ⟨r16, e17, h⟩ := bindS h
    refine WO.callE (S := S11) rfl rfl (F88_89_ok e17 hot0_0.vw hot0_1.vw) (fun S18 c19 => ?_)
    have hot0_0z := hot0_0z.toz c19
    have hot0_1z := hot0_1z.toz c19
    have hot0_0 := hot0_0.to c19
    have hot0_1 := hot0_1.to c19
    have ho4 := ho4.to c19
    have ho8 := ho8.to c19
    refine WO.ldWA (sz := 2) (r := [vt0_0, vt0_1]) rfl ho4.at0 ho4 rfl rfl rfl ho4z (limLe_self _) ?_
    obtain ⟨r20, e21, h⟩ := bindS h
    refine WO.callE (S := S18) rfl rfl (F88_90_ok e21 hot0_0.vw hot0_1.vw) (fun S22 c23 => ?_)
    have hot0_0z := hot0_0z.toz c23
    have hot0_1z := hot0_1z.toz c23
    have hot0_0 := hot0_0.to c23
    have hot0_1 := hot0_1.to c23
    have ho4 := ho4.to c23
    have ho8 := ho8.to c23
    obtain ⟨r24, e25, h⟩ := bindS h
    refine WO.callE (S := S22) rfl rfl (F87_ok e25) (fun S26 c27 => ?_)
    have hot0_0z := hot0_0z.toz c27
    have hot0_1z := hot0_1z.toz c27
    have hot0_0 := hot0_0.to c27
    have hot0_1 := hot0_1.to c27
    have ho4 := ho4.to c27
    have ho8 := ho8.to c27
    refine WO.do rfl rfl ?_
    refine WO.do rfl rfl ?_
    refine WO.stBA (u' := (r24.1.1, r24.1.2)) rfl ho8.at0 rfl ho8 rfl rfl (fun S28 c29 ho8 => ?_)
    have hot0_0z := hot0_0z.toz c29
    have hot0_1z := hot0_1z.toz c29
    have hot0_0 := hot0_0.to c29
    have hot0_1 := hot0_1.to c29
    have ho4 := ho4.to c29
    refine WO.asg rfl ?_
    refine WO.nil ?_
    refine thenL_n ?_
    refine WC.ret ?_
    have hcell := ho8
    obtain rfl := someI h
    exact ⟨.inr rfl, _, _, (resK_c2 hcell (Cov.refl _) rfl rfl rfl), rfl, rfl⟩
end Go.Proofs.Ytihmliblbhjlaaa

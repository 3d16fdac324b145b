/- The machine answers F3: printed by a program of ours (gen.py). -/
import Derived.Test.YtihmliblbhjlaaaDef
import Derived.Test.YtihmliblbhjlaaaEnv
import Derived.Test.YtihmliblbhjlaaaF12
import Derived.Test.YtihmliblbhjlaaaF13
import Derived.Test.YtihmliblbhjlaaaF14
import Derived.Test.YtihmliblbhjlaaaF15
import Derived.Test.YtihmliblbhjlaaaF16
import Derived.Test.YtihmliblbhjlaaaF17
import Derived.Test.YtihmliblbhjlaaaF18
import Derived.Test.YtihmliblbhjlaaaF19
import Derived.Test.YtihmliblbhjlaaaF20
import Derived.Test.YtihmliblbhjlaaaF21
set_option linter.unusedVariables false
namespace Go.Proofs.Ytihmliblbhjlaaa
open Go.Am
theorem F3.fn : E.fn 3 = some ⟨245, (Try.f3.body.getD .skip), Try.f3.results.toList, [18]⟩ := rfl
theorem F3_ok {F : Nat} {m : Mem} {n : Nat} {r : Bool} {t0 : (List Int) × (List Int)} {t1 : (List Int) × (List Int)} {t2 : Int} {vt0_0 : SV} {vt0_1 : SV} {vt1_0 : SV} {vt1_1 : SV} (h : F3 F t0 t1 t2 = some r) (kt0_0 : Vw Y3 n m vt0_0 t0.1) (kt0_1 : Vw Y3 n m vt0_1 t0.2) (kt1_0 : Vw Y3 n m vt1_0 t1.1) (kt1_1 : Vw Y3 n m vt1_1 t1.2) : Ret E n 3 [.agg [vt0_0, vt0_1], .agg [vt1_0, vt1_1], .sc (.int .i64 t2)] m n (fun v m' n' => v = .sc (.bool r)) := by
  unfold F3 at h
  refine Ret.walk F3.fn ?_
  refine WC.start fun S0 em en hz => ?_
  have hot0_0 := kt0_0.rdS em hz
  have hot0_1 := kt0_1.rdS em hz
  have hot1_0 := kt1_0.rdS em hz
  have hot1_1 := kt1_1.rdS em hz
  refine WC.seq ?_
  refine WC.region ?_
  refine WO.bxW (S := S0) (cs := [vt0_0, vt0_1]) 2 rfl rfl rfl (fun b1 S2 c3 ho4 => ?_)
  have hot0_0 := hot0_0.to c3
  have hot0_1 := hot0_1.to c3
  have hot1_0 := hot1_0.to c3
  have hot1_1 := hot1_1.to c3
  refine WO.bxW (S := S2) (cs := [vt1_0, vt1_1]) 3 rfl rfl rfl (fun b5 S6 c7 ho8 => ?_)
  have hot0_0 := hot0_0.to c7
  have hot0_1 := hot0_1.to c7
  have hot1_0 := hot1_0.to c7
  have hot1_1 := hot1_1.to c7
  have ho4 := ho4.to c7
  refine WO.asg rfl ?_
  refine WO.nil ?_
  refine thenL_n ?_
  refine WC.seq ?_
  refine WC.region ?_
  refine WO.ldWA (sz := 2) (r := [vt0_0, vt0_1]) rfl ho4.at0 ho4 rfl rfl rfl ho4.lt rfl ?_
  obtain ⟨r9, e10, h⟩ := bindS h
  refine WO.callE (S := S6) rfl rfl (F12_ok e10 hot0_0.vw hot0_1.vw) (fun S11 c12 => ?_)
  have hot0_0 := hot0_0.to c12
  have hot0_1 := hot0_1.to c12
  have hot1_0 := hot1_0.to c12
  have hot1_1 := hot1_1.to c12
  have ho4 := ho4.to c12
  have ho8 := ho8.to c12
  refine WO.mv rfl ?_
  refine WO.do rfl rfl ?_
  refine WO.do rfl rfl ?_
  refine WO.alS (A := Y26) (S := S11) (z0 := (0, 0)) 4 rfl rfl rfl (fun v13 S14 c15 ho16 => ?_)
  have hot0_0 := hot0_0.to c15
  have hot0_1 := hot0_1.to c15
  have hot1_0 := hot1_0.to c15
  have hot1_1 := hot1_1.to c15
  have ho4 := ho4.to c15
  have ho8 := ho8.to c15
  refine WO.stBA (u' := (r9.1.1, r9.1.2)) rfl ho16.at0 rfl ho16 rfl rfl (fun S17 c18 ho16 => ?_)
  have hot0_0 := hot0_0.to c18
  have hot0_1 := hot0_1.to c18
  have hot1_0 := hot1_0.to c18
  have hot1_1 := hot1_1.to c18
  have ho4 := ho4.to c18
  have ho8 := ho8.to c18
  refine WO.asg rfl ?_
  refine WO.nil ?_
  refine thenL_n ?_
  refine WC.seq ?_
  refine WC.region ?_
  refine WO.ldWA (sz := 2) (r := [vt0_0, vt0_1]) rfl ho4.at0 ho4 rfl rfl rfl ho4.lt rfl ?_
  obtain ⟨r19, e20, h⟩ := bindS h
  refine WO.callE (S := S17) rfl rfl (F13_ok e20 hot0_0.vw hot0_1.vw) (fun S21 c22 => ?_)
  have hot0_0 := hot0_0.to c22
  have hot0_1 := hot0_1.to c22
  have hot1_0 := hot1_0.to c22
  have hot1_1 := hot1_1.to c22
  have ho4 := ho4.to c22
  have ho8 := ho8.to c22
  have ho16 := ho16.to c22
  refine WO.mv rfl ?_
  refine WO.do rfl rfl ?_
  refine WO.do rfl rfl ?_
  refine WO.alS (A := Y26) (S := S21) (z0 := (0, 0)) 5 rfl rfl rfl (fun v23 S24 c25 ho26 => ?_)
  have hot0_0 := hot0_0.to c25
  have hot0_1 := hot0_1.to c25
  have hot1_0 := hot1_0.to c25
  have hot1_1 := hot1_1.to c25
  have ho4 := ho4.to c25
  have ho8 := ho8.to c25
  have ho16 := ho16.to c25
  refine WO.stBA (u' := (r19.1.1, r19.1.2)) rfl ho26.at0 rfl ho26 rfl rfl (fun S27 c28 ho26 => ?_)
  have hot0_0 := hot0_0.to c28
  have hot0_1 := hot0_1.to c28
  have hot1_0 := hot1_0.to c28
  have hot1_1 := hot1_1.to c28
  have ho4 := ho4.to c28
  have ho8 := ho8.to c28
  have ho16 := ho16.to c28
  refine WO.asg rfl ?_
  refine WO.nil ?_
  refine thenL_n ?_
  refine WC.seq ?_
  refine WC.region ?_
  refine WO.ldWA (sz := 2) (r := [vt0_0, vt0_1]) rfl ho4.at0 ho4 rfl rfl rfl ho4.lt rfl ?_
  refine WO.mv rfl ?_
  obtain ⟨r29, e30, h⟩ := bindS h
  refine WO.callE (S := S27) rfl rfl (F14_ok e30 hot0_0.vw hot0_1.vw) (fun S31 c32 => ?_)
  have hot0_0 := hot0_0.to c32
  have hot0_1 := hot0_1.to c32
  have hot1_0 := hot1_0.to c32
  have hot1_1 := hot1_1.to c32
  have ho4 := ho4.to c32
  have ho8 := ho8.to c32
  have ho16 := ho16.to c32
  have ho26 := ho26.to c32
  refine WO.mv rfl ?_
  refine WO.do rfl rfl ?_
  refine WO.do rfl rfl ?_
  refine WO.alS (A := Y26) (S := S31) (z0 := (0, 0)) 6 rfl rfl rfl (fun v33 S34 c35 ho36 => ?_)
  have hot0_0 := hot0_0.to c35
  have hot0_1 := hot0_1.to c35
  have hot1_0 := hot1_0.to c35
  have hot1_1 := hot1_1.to c35
  have ho4 := ho4.to c35
  have ho8 := ho8.to c35
  have ho16 := ho16.to c35
  have ho26 := ho26.to c35
  refine WO.stBA (u' := (r29.1.1, r29.1.2)) rfl ho36.at0 rfl ho36 rfl rfl (fun S37 c38 ho36 => ?_)
  have hot0_0 := hot0_0.to c38
  have hot0_1 := hot0_1.to c38
  have hot1_0 := hot1_0.to c38
  have hot1_1 := hot1_1.to c38
  have ho4 := ho4.to c38
  have ho8 := ho8.to c38
  have ho16 := ho16.to c38
  have ho26 := ho26.to c38
  refine WO.asg rfl ?_
  refine WO.nil ?_
  refine thenL_n ?_
  refine WC.seq ?_
  refine WC.region ?_
  refine WO.ldWA (sz := 2) (r := [vt0_0, vt0_1]) rfl ho4.at0 ho4 rfl rfl rfl ho4.lt rfl ?_
  refine WO.ldWA (sz := 2) (r := [vt1_0, vt1_1]) rfl ho8.at0 ho8 rfl rfl rfl ho8.lt rfl ?_
  obtain ⟨r39, e40, h⟩ := bindS h
  refine WO.callG (S := S37) [] [(902, 7), (904, 8)] rfl rfl (F15_ok (S0 := S37.mp []) e40 hot0_0.mp hot0_1.mp hot1_0.mp hot1_1.mp) (fun _ S45 S46 hb hR => ?_)
  obtain ⟨v41, v43, rfl, hR0, hR1⟩ := hR
  have c47 : Ch 1 S37 S46 := hb.ch [] 1
  have hot0_0 := hot0_0.to c47
  have hot0_1 := hot0_1.to c47
  have hot1_0 := hot1_0.to c47
  have hot1_1 := hot1_1.to c47
  have ho4 := ho4.to c47
  have ho8 := ho8.to c47
  have ho16 := ho16.to c47
  have ho26 := ho26.to c47
  have ho36 := ho36.to c47
  have ho42 := hR0.bkF hb rfl Lay.flat_fl
  have ho44 := hR1.bkF hb rfl Lay.flat_fl
  refine WO.mv rfl ?_
  refine WO.do rfl rfl ?_
  refine WO.do rfl rfl ?_
  refine WO.alW (S := S46) (cs := [.nils, .nils]) 9 rfl rfl rfl (fun b48 S49 c50 ho51 => ?_)
  have hot0_0 := hot0_0.to c50
  have hot0_1 := hot0_1.to c50
  have hot1_0 := hot1_0.to c50
  have hot1_1 := hot1_1.to c50
  have ho4 := ho4.to c50
  have ho8 := ho8.to c50
  have ho16 := ho16.to c50
  have ho26 := ho26.to c50
  have ho36 := ho36.to c50
  have ho42 := ho42.to c50
  have ho44 := ho44.to c50
  refine WO.stW (S := S49) (r := [v41, v43]) rfl ho51.at0 rfl rfl ho51 rfl rfl rfl rfl rfl (fun S52 c53 ho51 => ?_)
  have hot0_0 := hot0_0.to c53
  have hot0_1 := hot0_1.to c53
  have hot1_0 := hot1_0.to c53
  have hot1_1 := hot1_1.to c53
  have ho4 := ho4.to c53
  have ho8 := ho8.to c53
  have ho16 := ho16.to c53
  have ho26 := ho26.to c53
  have ho36 := ho36.to c53
  have ho42 := ho42.to c53
  have ho44 := ho44.to c53
  refine WO.asg rfl ?_
  refine WO.nil ?_
  refine thenL_n ?_
  refine WC.seq ?_
  refine WC.region ?_
  refine WO.ldWA (sz := 2) (r := [vt0_0, vt0_1]) rfl ho4.at0 ho4 rfl rfl rfl ho4.lt rfl ?_
  obtain ⟨r54, e55, h⟩ := bindS h
  refine WO.callE (S := S52) rfl rfl (F16_ok e55 hot0_0.vw hot0_1.vw) (fun S56 c57 => ?_)
  have hot0_0 := hot0_0.to c57
  have hot0_1 := hot0_1.to c57
  have hot1_0 := hot1_0.to c57
  have hot1_1 := hot1_1.to c57
  have ho4 := ho4.to c57
  have ho8 := ho8.to c57
  have ho16 := ho16.to c57
  have ho26 := ho26.to c57
  have ho36 := ho36.to c57
  have ho42 := ho42.to c57
  have ho44 := ho44.to c57
  have ho51 := ho51.to c57
  refine WO.asg rfl ?_
  refine WO.nil ?_
  refine thenL_n ?_
  refine WC.seq ?_
  refine WC.seq ?_
  refine WC.region ?_
  refine WO.ldWA (sz := 2) (r := [vt0_0, vt0_1]) rfl ho4.at0 ho4 rfl rfl rfl ho4.lt rfl ?_
  obtain ⟨r58, e59, h⟩ := bindS h
  refine WO.callE (S := S56) rfl rfl (F17_ok e59 hot0_0.vw hot0_1.vw) (fun S60 c61 => ?_)
  have hot0_0 := hot0_0.to c61
  have hot0_1 := hot0_1.to c61
  have hot1_0 := hot1_0.to c61
  have hot1_1 := hot1_1.to c61
  have ho4 := ho4.to c61
  have ho8 := ho8.to c61
  have ho16 := ho16.to c61
  have ho26 := ho26.to c61
  have ho36 := ho36.to c61
  have ho42 := ho42.to c61
  have ho44 := ho44.to c61
  have ho51 := ho51.to c61
  refine WO.mv rfl ?_
  refine WO.bin rfl rfl (by decide) (by decide) rfl ?_
  refine WO.nil ?_
  refine thenL_n ?_
  refine WC.cond rfl (fun q62 => ?_) (fun q62 => ?_)
  · have h := iteT q62 h
    refine WC.seq ?_
    refine WC.region ?_
    refine WO.asg rfl ?_
    refine WO.nil ?_
    refine thenL_n ?_
    refine WC.ret ?_
    refine thenL_r ?_
    obtain rfl := someI h
    exact ⟨.inr rfl, _, _, rfl, rfl, rfl⟩
  · have h := iteF q62 h
    refine WC.skip ?_
    refine thenL_n ?_
    refine WC.seq ?_
    refine WC.seq ?_
    refine WC.region ?_
    refine WO.mv rfl ?_
    refine WO.bin rfl rfl (by decide) (by decide) rfl ?_
    refine WO.nil ?_
    refine thenL_n ?_
    refine WC.cond rfl (fun q63 => ?_) (fun q63 => ?_)
    · have h := iteT q63 h
      refine WC.seq ?_
      refine WC.region ?_
      refine WO.mv rfl ?_
      refine WO.mv rfl ?_
      refine WO.bin rfl rfl (by decide) (by decide) rfl ?_
      refine WO.mv rfl ?_
      refine WO.cutB (d := 61) 4 ((r9.2 == r54) && (r19.2 == r54)) (fun q64 => ?_) (fun q64 => ?_) ?_
      · skip
        refine WO.gyes rfl rfl ?_
        refine WO.mv rfl ?_
        refine WO.gyes rfl rfl ?_
        refine WO.mv rfl ?_
        refine WO.gyes rfl rfl ?_
        refine WO.bin rfl rfl (by decide) (by decide) rfl ?_
        refine WO.pickT rfl rfl ?_
        refine WO.nil ?_
        exact ⟨rfl, rfl, (Cov.any rfl (andT q64) (Cov.skip rfl (Cov.skip rfl (Cov.skip rfl (Cov.skip rfl (Cov.skip rfl (Cov.refl _)))))))⟩
      · refine WO.gno rfl rfl ?_
        refine WO.gno rfl rfl ?_
        refine WO.gno rfl rfl ?_
        refine WO.pickF rfl rfl ?_
        refine WO.nil ?_
        exact ⟨rfl, rfl, (Cov.any rfl (andF q64) (Cov.skip rfl (Cov.skip rfl (Cov.skip rfl (Cov.skip rfl (Cov.skip rfl (Cov.refl _)))))))⟩
      refine WO.mv rfl ?_
      refine WO.cutB (d := 66) 4 (((r9.2 == r54) && (r19.2 == r54)) && (r29.2 == r54)) (fun q65 => ?_) (fun q65 => ?_) ?_
      · skip
        refine WO.gyes rfl rfl ?_
        refine WO.mv rfl ?_
        refine WO.gyes rfl rfl ?_
        refine WO.mv rfl ?_
        refine WO.gyes rfl rfl ?_
        refine WO.bin rfl rfl (by decide) (by decide) rfl ?_
        refine WO.pickT rfl rfl ?_
        refine WO.nil ?_
        exact ⟨rfl, rfl, (Cov.any rfl (andT q65) (Cov.skip rfl (Cov.skip rfl (Cov.skip rfl (Cov.skip rfl (Cov.skip rfl (Cov.refl _)))))))⟩
      · refine WO.gno rfl rfl ?_
        refine WO.gno rfl rfl ?_
        refine WO.gno rfl rfl ?_
        refine WO.pickF rfl rfl ?_
        refine WO.nil ?_
        exact ⟨rfl, rfl, (Cov.any rfl (andF q65) (Cov.skip rfl (Cov.skip rfl (Cov.skip rfl (Cov.skip rfl (Cov.skip rfl (Cov.refl _)))))))⟩
      refine WO.mv rfl ?_
      refine WO.cutB (d := 71) 4 ((((r9.2 == r54) && (r19.2 == r54)) && (r29.2 == r54)) && (r39.2 == r54)) (fun q66 => ?_) (fun q66 => ?_) ?_
      · skip
        refine WO.gyes rfl rfl ?_
        refine WO.mv rfl ?_
        refine WO.gyes rfl rfl ?_
        refine WO.mv rfl ?_
        refine WO.gyes rfl rfl ?_
        refine WO.bin rfl rfl (by decide) (by decide) rfl ?_
        refine WO.pickT rfl rfl ?_
        refine WO.nil ?_
        exact ⟨rfl, rfl, (Cov.any rfl (andT q66) (Cov.skip rfl (Cov.skip rfl (Cov.skip rfl (Cov.skip rfl (Cov.skip rfl (Cov.refl _)))))))⟩
      · refine WO.gno rfl rfl ?_
        refine WO.gno rfl rfl ?_
        refine WO.gno rfl rfl ?_
        refine WO.pickF rfl rfl ?_
        refine WO.nil ?_
        exact ⟨rfl, rfl, (Cov.any rfl (andF q66) (Cov.skip rfl (Cov.skip rfl (Cov.skip rfl (Cov.skip rfl (Cov.skip rfl (Cov.refl _)))))))⟩
      refine WO.mv rfl ?_
      refine WO.cutB (d := 76) 4 (((((r9.2 == r54) && (r19.2 == r54)) && (r29.2 == r54)) && (r39.2 == r54)) && (((r9.1.1, r9.1.2)).1 == 0 && (((r9.1.1, r9.1.2)).2 == 0 && true))) (fun q67 => ?_) (fun q67 => ?_) ?_
      · skip
        refine WO.gyes rfl rfl ?_
        refine WO.ldBA (j := 0) rfl ho16.at0 ho16 rfl rfl ?_
        refine WO.gyes rfl rfl ?_
        refine WO.do rfl rfl ?_
        refine WO.gyes rfl rfl ?_
        refine WO.eqA rfl rfl rfl rfl (eqFields_cons rfl rfl rfl eqC_int (eqFields_cons rfl rfl rfl eqC_int rfl)) ?_
        refine WO.pickT rfl rfl ?_
        refine WO.nil ?_
        exact ⟨rfl, rfl, (Cov.any rfl (andT q67) (Cov.skip rfl (Cov.skip rfl (Cov.skip rfl (Cov.skip rfl (Cov.skip rfl (Cov.refl _)))))))⟩
      · refine WO.gno rfl rfl ?_
        refine WO.gno rfl rfl ?_
        refine WO.gno rfl rfl ?_
        refine WO.pickF rfl rfl ?_
        refine WO.nil ?_
        exact ⟨rfl, rfl, (Cov.any rfl (andF q67) (Cov.skip rfl (Cov.skip rfl (Cov.skip rfl (Cov.skip rfl (Cov.skip rfl (Cov.refl _)))))))⟩
      refine WO.mv rfl ?_
      refine WO.cutB (d := 81) 4 ((((((r9.2 == r54) && (r19.2 == r54)) && (r29.2 == r54)) && (r39.2 == r54)) && (((r9.1.1, r9.1.2)).1 == 0 && (((r9.1.1, r9.1.2)).2 == 0 && true))) && (((r19.1.1, r19.1.2)).1 == 0 && (((r19.1.1, r19.1.2)).2 == 0 && true))) (fun q68 => ?_) (fun q68 => ?_) ?_
      · skip
        refine WO.gyes rfl rfl ?_
        refine WO.ldBA (j := 0) rfl ho26.at0 ho26 rfl rfl ?_
        refine WO.gyes rfl rfl ?_
        refine WO.do rfl rfl ?_
        refine WO.gyes rfl rfl ?_
        refine WO.eqA rfl rfl rfl rfl (eqFields_cons rfl rfl rfl eqC_int (eqFields_cons rfl rfl rfl eqC_int rfl)) ?_
        refine WO.pickT rfl rfl ?_
        refine WO.nil ?_
        exact ⟨rfl, rfl, (Cov.any rfl (andT q68) (Cov.skip rfl (Cov.skip rfl (Cov.skip rfl (Cov.skip rfl (Cov.skip rfl (Cov.refl _)))))))⟩
      · refine WO.gno rfl rfl ?_
        refine WO.gno rfl rfl ?_
        refine WO.gno rfl rfl ?_
        refine WO.pickF rfl rfl ?_
        refine WO.nil ?_
        exact ⟨rfl, rfl, (Cov.any rfl (andF q68) (Cov.skip rfl (Cov.skip rfl (Cov.skip rfl (Cov.skip rfl (Cov.skip rfl (Cov.refl _)))))))⟩
      refine WO.mv rfl ?_
      refine WO.cutB (d := 86) 4 (((((((r9.2 == r54) && (r19.2 == r54)) && (r29.2 == r54)) && (r39.2 == r54)) && (((r9.1.1, r9.1.2)).1 == 0 && (((r9.1.1, r9.1.2)).2 == 0 && true))) && (((r19.1.1, r19.1.2)).1 == 0 && (((r19.1.1, r19.1.2)).2 == 0 && true))) && (((r29.1.1, r29.1.2)).1 == 0 && (((r29.1.1, r29.1.2)).2 == 0 && true))) (fun q69 => ?_) (fun q69 => ?_) ?_
      · skip
        refine WO.gyes rfl rfl ?_
        refine WO.ldBA (j := 0) rfl ho36.at0 ho36 rfl rfl ?_
        refine WO.gyes rfl rfl ?_
        refine WO.do rfl rfl ?_
        refine WO.gyes rfl rfl ?_
        refine WO.eqA rfl rfl rfl rfl (eqFields_cons rfl rfl rfl eqC_int (eqFields_cons rfl rfl rfl eqC_int rfl)) ?_
        refine WO.pickT rfl rfl ?_
        refine WO.nil ?_
        exact ⟨rfl, rfl, (Cov.any rfl (andT q69) (Cov.skip rfl (Cov.skip rfl (Cov.skip rfl (Cov.skip rfl (Cov.skip rfl (Cov.refl _)))))))⟩
      · refine WO.gno rfl rfl ?_
        refine WO.gno rfl rfl ?_
        refine WO.gno rfl rfl ?_
        refine WO.pickF rfl rfl ?_
        refine WO.nil ?_
        exact ⟨rfl, rfl, (Cov.any rfl (andF q69) (Cov.skip rfl (Cov.skip rfl (Cov.skip rfl (Cov.skip rfl (Cov.skip rfl (Cov.refl _)))))))⟩
      refine WO.mv rfl ?_
      refine WO.cutB (d := 96) 9 ((((((((r9.2 == r54) && (r19.2 == r54)) && (r29.2 == r54)) && (r39.2 == r54)) && (((r9.1.1, r9.1.2)).1 == 0 && (((r9.1.1, r9.1.2)).2 == 0 && true))) && (((r19.1.1, r19.1.2)).1 == 0 && (((r19.1.1, r19.1.2)).2 == 0 && true))) && (((r29.1.1, r29.1.2)).1 == 0 && (((r29.1.1, r29.1.2)).2 == 0 && true))) && ((wrapA .i64 ((r39.1.1.length : Int) + (r39.1.2.length : Int))) == 0)) (fun q70 => ?_) (fun q70 => ?_) ?_
      · skip
        refine WO.gyes rfl rfl ?_
        refine WO.fldS (j := 0) (q := 0) rfl ho51.at0 ho51.ptr rfl rfl rfl (by decide) ?_
        refine WO.gyes rfl rfl ?_
        refine WO.ldW rfl rfl ho51 rfl rfl ho51.lt rfl ?_
        refine WO.gyes rfl rfl ?_
        refine WO.lenS rfl ho42.slv rfl ?_
        refine WO.gyes rfl rfl ?_
        refine WO.fldS (j := 0) (q := 0) rfl ho51.at0 ho51.ptr rfl rfl rfl (by decide) ?_
        refine WO.gyes rfl rfl ?_
        refine WO.ldW rfl rfl ho51 rfl rfl ho51.lt rfl ?_
        refine WO.gyes rfl rfl ?_
        refine WO.lenS rfl ho44.slv rfl ?_
        refine WO.gyes rfl rfl ?_
        refine WO.bin rfl rfl (by decide) (by decide) rfl ?_
        refine WO.gyes rfl rfl ?_
        refine WO.bin rfl rfl (by decide) (by decide) rfl ?_
        refine WO.pickT rfl rfl ?_
        refine WO.nil ?_
        exact ⟨rfl, rfl, (Cov.any rfl (andT q70) (Cov.skip rfl (Cov.skip rfl (Cov.skip rfl (Cov.skip rfl (Cov.skip rfl (Cov.skip rfl (Cov.skip rfl (Cov.skip rfl (Cov.skip rfl (Cov.skip rfl (Cov.refl _))))))))))))⟩
      · refine WO.gno rfl rfl ?_
        refine WO.gno rfl rfl ?_
        refine WO.gno rfl rfl ?_
        refine WO.gno rfl rfl ?_
        refine WO.gno rfl rfl ?_
        refine WO.gno rfl rfl ?_
        refine WO.gno rfl rfl ?_
        refine WO.gno rfl rfl ?_
        refine WO.pickF rfl rfl ?_
        refine WO.nil ?_
        exact ⟨rfl, rfl, (Cov.any rfl (andF q70) (Cov.skip rfl (Cov.skip rfl (Cov.skip rfl (Cov.skip rfl (Cov.skip rfl (Cov.skip rfl (Cov.skip rfl (Cov.skip rfl (Cov.skip rfl (Cov.skip rfl (Cov.refl _))))))))))))⟩
      refine WO.asg rfl ?_
      refine WO.nil ?_
      refine thenL_n ?_
      refine WC.ret ?_
      refine thenL_r ?_
      obtain rfl := someI h
      exact ⟨.inr rfl, _, _, rfl, rfl, rfl⟩
    · have h := iteF q63 h
      refine WC.skip ?_
      refine thenL_n ?_
      refine WC.seq ?_
      refine WC.region ?_
      refine WO.ldWA (sz := 2) (r := [vt0_0, vt0_1]) rfl ho4.at0 ho4 rfl rfl rfl ho4.lt rfl ?_
      obtain ⟨r71, e72, h⟩ := bindS h
      refine WO.callE (S := S60) rfl rfl (F18_ok e72 hot0_0.vw hot0_1.vw) (fun S73 c74 => ?_)
      have hot0_0 := hot0_0.to c74
      have hot0_1 := hot0_1.to c74
      have hot1_0 := hot1_0.to c74
      have hot1_1 := hot1_1.to c74
      have ho4 := ho4.to c74
      have ho8 := ho8.to c74
      have ho16 := ho16.to c74
      have ho26 := ho26.to c74
      have ho36 := ho36.to c74
      have ho42 := ho42.to c74
      have ho44 := ho44.to c74
      have ho51 := ho51.to c74
      refine WO.mv rfl ?_
      refine WO.do rfl rfl ?_
      refine WO.do rfl rfl ?_
      refine WO.asg rfl ?_
      refine WO.asg rfl ?_
      refine WO.nil ?_
      refine thenL_n ?_
      refine WC.seq ?_
      refine WC.region ?_
      refine WO.asg rfl ?_
      refine WO.nil ?_
      refine thenL_n ?_
      refine WC.seq ?_
      refine WC.seq ?_
      refine WC.region ?_
      refine WO.fldS (j := 0) (q := 0) rfl ho4.at0 ho4.ptr rfl rfl rfl (by decide) ?_
      refine WO.ldW rfl rfl ho4 rfl rfl ho4.lt rfl ?_
      refine WO.lenS rfl hot0_1.slv rfl ?_
      refine WO.mv rfl ?_
      refine WO.nil ?_
      refine thenL_n ?_
      refine WC.block ?_
      obtain ⟨b86, e87, h⟩ := bindS h
      refine WC.loopD e87 (fun s75 l' m' n' => ∃ S76 : Cx n, S76.m = m' ∧ S76.n = n' ∧ Cov l' [(2, .sc (.int .i64 t2)), (3, .sc ((.ptr b1 0))), (4, .sc ((.ptr b5 0))), (7, .sc v13), (8, .sc (.int .i64 r9.2)), (9, .sc v23), (10, .sc (.int .i64 r19.2)), (11, .sc v33), (12, .sc (.int .i64 r29.2)), (13, .sc ((.ptr b48 0))), (14, .sc (.int .i64 r39.2)), (16, .sc (.int .i64 r71.1)), (17, .sc (.int .i64 r71.2)), (18, .sc (.int .i64 s75.1)), (103, .sc vt0_1), (104, .sc (.int .i64 ((t0.2.length : Int)))), (105, .sc (.int .i64 s75.2))] ∧ Bw S76 2 (.ptr b1 0) [vt0_0, vt0_1] ∧ Rd Y3 S76 vt0_0 t0.1 ∧ Rd Y3 S76 vt0_1 t0.2 ∧ Bw S76 3 (.ptr b5 0) [vt1_0, vt1_1] ∧ Rd Y3 S76 vt1_0 t1.1 ∧ Rd Y3 S76 vt1_1 t1.2 ∧ Bk Y26 S76 4 v13 ((r9.1.1, r9.1.2)) ∧ Bk Y26 S76 5 v23 ((r19.1.1, r19.1.2)) ∧ Bk Y26 S76 6 v33 ((r29.1.1, r29.1.2)) ∧ Bw S76 9 (.ptr b48 0) [v41, v43] ∧ Ow Y3 S76 7 v41 r39.1.1 ∧ Ow Y3 S76 8 v43 r39.1.2) (fun b e l' m' n' => e = .exit 0 ∧ ∃ S77 : Cx n, S77.m = m' ∧ S77.n = n' ∧ Cov l' [(3, .sc ((.ptr b1 0))), (4, .sc ((.ptr b5 0))), (7, .sc v13), (8, .sc (.int .i64 r9.2)), (9, .sc v23), (10, .sc (.int .i64 r19.2)), (11, .sc v33), (12, .sc (.int .i64 r29.2)), (13, .sc ((.ptr b48 0))), (14, .sc (.int .i64 r39.2)), (16, .sc (.int .i64 r71.1)), (17, .sc (.int .i64 r71.2)), (18, .sc (.int .i64 b))] ∧ Bw S77 2 (.ptr b1 0) [vt0_0, vt0_1] ∧ Rd Y3 S77 vt0_0 t0.1 ∧ Rd Y3 S77 vt0_1 t0.2 ∧ Bw S77 3 (.ptr b5 0) [vt1_0, vt1_1] ∧ Rd Y3 S77 vt1_0 t1.1 ∧ Rd Y3 S77 vt1_1 t1.2 ∧ Bk Y26 S77 4 v13 ((r9.1.1, r9.1.2)) ∧ Bk Y26 S77 5 v23 ((r19.1.1, r19.1.2)) ∧ Bk Y26 S77 6 v33 ((r29.1.1, r29.1.2)) ∧ Bw S77 9 (.ptr b48 0) [v41, v43] ∧ Ow Y3 S77 7 v41 r39.1.1 ∧ Ow Y3 S77 8 v43 r39.1.2) (by exact ⟨S73, rfl, rfl, (Cov.cons rfl (Cov.cons rfl (Cov.cons rfl (Cov.cons rfl (Cov.cons rfl (Cov.cons rfl (Cov.cons rfl (Cov.cons rfl (Cov.cons rfl (Cov.cons rfl (Cov.cons rfl (Cov.cons rfl (Cov.cons rfl (Cov.cons rfl (Cov.cons rfl (Cov.cons rfl (Cov.cons rfl (Cov.nil _)))))))))))))))))), ho4, hot0_0, hot0_1, ho8, hot1_0, hot1_1, ho16, ho26, ho36, ho51, ho42, ho44⟩) ?_ ?_
      · clear h
        rintro s75 q _ _ _ ⟨S78, rfl, rfl, hc79, ho4, hot0_0, hot0_1, ho8, hot1_0, hot1_1, ho16, ho26, ho36, ho51, ho42, ho44⟩ h
        unfold F3_l0 at h
        refine WC.cov hc79 ?_
        refine WC.seq ?_
        refine WC.region ?_
        refine WO.bin rfl rfl (by decide) (by decide) rfl ?_
        refine WO.nil ?_
        refine thenL_n ?_
        refine WC.seq ?_
        refine WC.cond rfl (fun q80 => ?_) (fun q80 => ?_)
        · have h := iteT q80 h
          refine WC.skip ?_
          refine thenL_n ?_
          refine WC.seq ?_
          refine WC.block ?_
          refine WC.seq ?_
          refine WC.region ?_
          refine WO.mv rfl ?_
          obtain ⟨x81, e82, h⟩ := bindS h
          refine WO.ixS rfl rfl hot0_1.slv (at?_lt e82) rfl ?_
          refine WO.ldF rfl hot0_1.ro (fun _ hi => hi) (at?_get e82) rfl rfl rfl ?_
          refine WO.asg rfl ?_
          refine WO.asg rfl ?_
          refine WO.nil ?_
          refine thenL_n ?_
          refine WC.seq ?_
          refine WC.region ?_
          refine WO.fldS (j := 0) (q := 0) rfl ho4.at0 ho4.ptr rfl rfl rfl (by decide) ?_
          refine WO.ldW rfl rfl ho4 rfl rfl ho4.lt rfl ?_
          refine WO.mv rfl ?_
          obtain ⟨x83, e84, h⟩ := bindS h
          refine WO.ixS rfl rfl hot0_0.slv (at?_lt e84) rfl ?_
          refine WO.ldF rfl hot0_0.ro (fun _ hi => hi) (at?_get e84) rfl rfl rfl ?_
          refine WO.mv rfl ?_
          refine WO.bin rfl rfl (by decide) (by decide) rfl ?_
          refine WO.nil ?_
          refine thenL_n ?_
          refine WC.cond rfl (fun q85 => ?_) (fun q85 => ?_)
          · have h := iteT q85 h
            refine WC.region ?_
            refine WO.mv rfl ?_
            refine WO.mv rfl ?_
            refine WO.bin rfl rfl (by decide) (by decide) rfl ?_
            refine WO.asg rfl ?_
            refine WO.nil ?_
            refine blockL_n ?_
            refine thenL_n ?_
            refine WC.region ?_
            refine WO.bin rfl rfl (by decide) (by decide) rfl ?_
            refine WO.mv rfl ?_
            refine WO.nil ?_
            refine thenL_n ?_
            obtain rfl := someI h
            exact ⟨_, rfl, ⟨S78, rfl, rfl, (Cov.cons rfl (Cov.cons rfl (Cov.cons rfl (Cov.cons rfl (Cov.cons rfl (Cov.cons rfl (Cov.cons rfl (Cov.cons rfl (Cov.cons rfl (Cov.cons rfl (Cov.cons rfl (Cov.cons rfl (Cov.cons rfl (Cov.cons rfl (Cov.cons rfl (Cov.cons rfl (Cov.cons rfl (Cov.nil _)))))))))))))))))), ho4, hot0_0, hot0_1, ho8, hot1_0, hot1_1, ho16, ho26, ho36, ho51, ho42, ho44⟩⟩
          · have h := iteF q85 h
            refine WC.skip ?_
            refine blockL_n ?_
            refine thenL_n ?_
            refine WC.region ?_
            refine WO.bin rfl rfl (by decide) (by decide) rfl ?_
            refine WO.mv rfl ?_
            refine WO.nil ?_
            refine thenL_n ?_
            obtain rfl := someI h
            exact ⟨_, rfl, ⟨S78, rfl, rfl, (Cov.cons rfl (Cov.cons rfl (Cov.cons rfl (Cov.cons rfl (Cov.cons rfl (Cov.cons rfl (Cov.cons rfl (Cov.cons rfl (Cov.cons rfl (Cov.cons rfl (Cov.cons rfl (Cov.cons rfl (Cov.cons rfl (Cov.cons rfl (Cov.cons rfl (Cov.cons rfl (Cov.cons rfl (Cov.nil _)))))))))))))))))), ho4, hot0_0, hot0_1, ho8, hot1_0, hot1_1, ho16, ho26, ho36, ho51, ho42, ho44⟩⟩
        · have h := iteF q80 h
          refine WC.exit ?_
          refine thenL_e ?_
          refine thenL_e ?_
          obtain rfl := someI h
          exact ⟨_, rfl, rfl, ⟨S78, rfl, rfl, (Cov.cons rfl (Cov.cons rfl (Cov.cons rfl (Cov.cons rfl (Cov.cons rfl (Cov.cons rfl (Cov.cons rfl (Cov.cons rfl (Cov.cons rfl (Cov.cons rfl (Cov.cons rfl (Cov.cons rfl (Cov.cons rfl (Cov.nil _)))))))))))))), ho4, hot0_0, hot0_1, ho8, hot1_0, hot1_1, ho16, ho26, ho36, ho51, ho42, ho44⟩⟩
      rintro _ _ _ _ ⟨rfl, ⟨S88, rfl, rfl, hc89, ho4, hot0_0, hot0_1, ho8, hot1_0, hot1_1, ho16, ho26, ho36, ho51, ho42, ho44⟩⟩
      refine blockL_s ?_
      refine thenL_n ?_
      refine WC.cov hc89 ?_
      refine WC.seq ?_
      refine WC.seq ?_
      refine WC.drawN rfl rfl ?_
      have ho4z := ho4.lt
      have hot0_0z := hot0_0.oz
      have hot0_1z := hot0_1.oz
      have ho8z := ho8.lt
      have hot1_0z := hot1_0.oz
      have hot1_1z := hot1_1.oz
      have ho16z := ho16.lt
      have ho26z := ho26.lt
      have ho36z := ho36.lt
      have ho51z := ho51.lt
      have ho42z := ho42.oz
      have ho44z := ho44.oz
      refine WO.mv rfl ?_
      refine WO.bin rfl rfl (by decide) (by decide) rfl ?_
      refine WO.mv rfl ?_
      obtain ⟨y95, e96, h⟩ := bindS h
      refine WO.cutS (d := 129) (S := S88) 6 y95 (fun q94 => ?_) (fun q94 => ?_) (fun S97 c98 => ?_)
      · have h := e96
        have h := iteT q94 h
        obtain rfl := someI h
        refine WO.gno rfl rfl ?_
        refine WO.gno rfl rfl ?_
        refine WO.gno rfl rfl ?_
        refine WO.gno rfl rfl ?_
        refine WO.gno rfl rfl ?_
        refine WO.pickT rfl rfl ?_
        refine WO.nil ?_
        exact ⟨S88, rfl, rfl, Ch.refl _ _, (Cov.cons rfl (Cov.skip rfl (Cov.skip rfl (Cov.skip rfl (Cov.skip rfl (Cov.skip rfl (Cov.skip rfl (Cov.skip rfl (Cov.refl _)))))))))⟩
      · have h := e96
        have h := iteF q94 h
        refine WO.gyes rfl rfl ?_
        refine WO.ldBAz (j := 0) rfl ho16.at0 ho16 rfl ho16z (limLe_self _) ?_
        refine WO.gyes rfl rfl ?_
        refine WO.mv rfl ?_
        refine WO.gyes rfl rfl ?_
        refine WO.mv rfl ?_
        refine WO.gyes rfl rfl ?_
        obtain ⟨r90, e91, h⟩ := bindS h
        refine WO.callE (S := S88) rfl rfl (F19_ok e91) (fun S92 c93 => ?_)
        have hot0_0z := hot0_0z.toz c93
        have hot0_1z := hot0_1z.toz c93
        have hot1_0z := hot1_0z.toz c93
        have hot1_1z := hot1_1z.toz c93
        have ho42z := ho42z.tow c93
        have ho44z := ho44z.tow c93
        have ho4 := ho4.to c93
        have hot0_0 := hot0_0.to c93
        have hot0_1 := hot0_1.to c93
        have ho8 := ho8.to c93
        have hot1_0 := hot1_0.to c93
        have hot1_1 := hot1_1.to c93
        have ho16 := ho16.to c93
        have ho26 := ho26.to c93
        have ho36 := ho36.to c93
        have ho51 := ho51.to c93
        have ho42 := ho42.to c93
        have ho44 := ho44.to c93
        refine WO.gyes rfl rfl ?_
        refine WO.neA rfl rfl rfl rfl (eqFields_cons rfl rfl rfl eqC_int (eqFields_cons rfl rfl rfl eqC_int rfl)) ?_
        obtain rfl := someI h
        refine WO.pickF rfl rfl ?_
        refine WO.nil ?_
        exact ⟨S92, rfl, rfl, c93, (Cov.cons rfl (Cov.skip rfl (Cov.skip rfl (Cov.skip rfl (Cov.skip rfl (Cov.skip rfl (Cov.skip rfl (Cov.skip rfl (Cov.refl _)))))))))⟩
      have hot0_0z := hot0_0z.toz c98
      have hot0_1z := hot0_1z.toz c98
      have hot1_0z := hot1_0z.toz c98
      have hot1_1z := hot1_1z.toz c98
      have ho42z := ho42z.tow c98
      have ho44z := ho44z.tow c98
      have ho4 := ho4.to c98
      have hot0_0 := hot0_0.to c98
      have hot0_1 := hot0_1.to c98
      have ho8 := ho8.to c98
      have hot1_0 := hot1_0.to c98
      have hot1_1 := hot1_1.to c98
      have ho16 := ho16.to c98
      have ho26 := ho26.to c98
      have ho36 := ho36.to c98
      have ho51 := ho51.to c98
      have ho42 := ho42.to c98
      have ho44 := ho44.to c98
      refine WO.mv rfl ?_
      refine WO.cutB (d := 133) 3 (y95 || (r19.2 != 0)) (fun q99 => ?_) (fun q99 => ?_) ?_
      · refine WO.gno rfl rfl ?_
        refine WO.gno rfl rfl ?_
        refine WO.pickT rfl rfl ?_
        refine WO.nil ?_
        exact ⟨rfl, rfl, (Cov.any rfl (orT q99) (Cov.skip rfl (Cov.skip rfl (Cov.skip rfl (Cov.skip rfl (Cov.refl _))))))⟩
      · skip
        refine WO.gyes rfl rfl ?_
        refine WO.mv rfl ?_
        refine WO.gyes rfl rfl ?_
        refine WO.bin rfl rfl (by decide) (by decide) rfl ?_
        refine WO.pickF rfl rfl ?_
        refine WO.nil ?_
        exact ⟨rfl, rfl, (Cov.any rfl (orF q99) (Cov.skip rfl (Cov.skip rfl (Cov.skip rfl (Cov.skip rfl (Cov.refl _))))))⟩
      refine WO.mv rfl ?_
      obtain ⟨y105, e106, h⟩ := bindS h
      refine WO.cutS (d := 139) (S := S97) 5 y105 (fun q104 => ?_) (fun q104 => ?_) (fun S107 c108 => ?_)
      · have h := e106
        have h := iteT q104 h
        obtain rfl := someI h
        refine WO.gno rfl rfl ?_
        refine WO.gno rfl rfl ?_
        refine WO.gno rfl rfl ?_
        refine WO.gno rfl rfl ?_
        refine WO.pickT rfl rfl ?_
        refine WO.nil ?_
        exact ⟨S97, rfl, rfl, Ch.refl _ _, (Cov.cons rfl (Cov.skip rfl (Cov.skip rfl (Cov.skip rfl (Cov.skip rfl (Cov.skip rfl (Cov.skip rfl (Cov.refl _))))))))⟩
      · have h := e106
        have h := iteF q104 h
        refine WO.gyes rfl rfl ?_
        refine WO.ldBAz (j := 0) rfl ho26.at0 ho26 rfl ho26z (limLe_self _) ?_
        refine WO.gyes rfl rfl ?_
        refine WO.ldWA (sz := 2) (r := [vt0_0, vt0_1]) rfl ho4.at0 ho4 rfl rfl rfl ho4z (limLe_self _) ?_
        refine WO.gyes rfl rfl ?_
        obtain ⟨r100, e101, h⟩ := bindS h
        refine WO.callE (S := S97) rfl rfl (F20_ok e101 hot0_0.vw hot0_1.vw) (fun S102 c103 => ?_)
        have hot0_0z := hot0_0z.toz c103
        have hot0_1z := hot0_1z.toz c103
        have hot1_0z := hot1_0z.toz c103
        have hot1_1z := hot1_1z.toz c103
        have ho42z := ho42z.tow c103
        have ho44z := ho44z.tow c103
        have ho4 := ho4.to c103
        have hot0_0 := hot0_0.to c103
        have hot0_1 := hot0_1.to c103
        have ho8 := ho8.to c103
        have hot1_0 := hot1_0.to c103
        have hot1_1 := hot1_1.to c103
        have ho16 := ho16.to c103
        have ho26 := ho26.to c103
        have ho36 := ho36.to c103
        have ho51 := ho51.to c103
        have ho42 := ho42.to c103
        have ho44 := ho44.to c103
        refine WO.gyes rfl rfl ?_
        refine WO.neA rfl rfl rfl rfl (eqFields_cons rfl rfl rfl eqC_int (eqFields_cons rfl rfl rfl eqC_int rfl)) ?_
        obtain rfl := someI h
        refine WO.pickF rfl rfl ?_
        refine WO.nil ?_
        exact ⟨S102, rfl, rfl, c103, (Cov.cons rfl (Cov.skip rfl (Cov.skip rfl (Cov.skip rfl (Cov.skip rfl (Cov.skip rfl (Cov.skip rfl (Cov.refl _))))))))⟩
      have hot0_0z := hot0_0z.toz c108
      have hot0_1z := hot0_1z.toz c108
      have hot1_0z := hot1_0z.toz c108
      have hot1_1z := hot1_1z.toz c108
      have ho42z := ho42z.tow c108
      have ho44z := ho44z.tow c108
      have ho4 := ho4.to c108
      have hot0_0 := hot0_0.to c108
      have hot0_1 := hot0_1.to c108
      have ho8 := ho8.to c108
      have hot1_0 := hot1_0.to c108
      have hot1_1 := hot1_1.to c108
      have ho16 := ho16.to c108
      have ho26 := ho26.to c108
      have ho36 := ho36.to c108
      have ho51 := ho51.to c108
      have ho42 := ho42.to c108
      have ho44 := ho44.to c108
      refine WO.mv rfl ?_
      refine WO.cutB (d := 143) 3 (y105 || (r29.2 != 0)) (fun q109 => ?_) (fun q109 => ?_) ?_
      · refine WO.gno rfl rfl ?_
        refine WO.gno rfl rfl ?_
        refine WO.pickT rfl rfl ?_
        refine WO.nil ?_
        exact ⟨rfl, rfl, (Cov.any rfl (orT q109) (Cov.skip rfl (Cov.skip rfl (Cov.skip rfl (Cov.skip rfl (Cov.refl _))))))⟩
      · skip
        refine WO.gyes rfl rfl ?_
        refine WO.mv rfl ?_
        refine WO.gyes rfl rfl ?_
        refine WO.bin rfl rfl (by decide) (by decide) rfl ?_
        refine WO.pickF rfl rfl ?_
        refine WO.nil ?_
        exact ⟨rfl, rfl, (Cov.any rfl (orF q109) (Cov.skip rfl (Cov.skip rfl (Cov.skip rfl (Cov.skip rfl (Cov.refl _))))))⟩
      refine WO.mv rfl ?_
      obtain ⟨y115, e116, h⟩ := bindS h
      refine WO.cutS (d := 150) (S := S107) 6 y115 (fun q114 => ?_) (fun q114 => ?_) (fun S117 c118 => ?_)
      · have h := e116
        have h := iteT q114 h
        obtain rfl := someI h
        refine WO.gno rfl rfl ?_
        refine WO.gno rfl rfl ?_
        refine WO.gno rfl rfl ?_
        refine WO.gno rfl rfl ?_
        refine WO.gno rfl rfl ?_
        refine WO.pickT rfl rfl ?_
        refine WO.nil ?_
        exact ⟨S107, rfl, rfl, Ch.refl _ _, (Cov.cons rfl (Cov.skip rfl (Cov.skip rfl (Cov.skip rfl (Cov.skip rfl (Cov.skip rfl (Cov.skip rfl (Cov.skip rfl (Cov.refl _)))))))))⟩
      · have h := e116
        have h := iteF q114 h
        refine WO.gyes rfl rfl ?_
        refine WO.ldBAz (j := 0) rfl ho36.at0 ho36 rfl ho36z (limLe_self _) ?_
        refine WO.gyes rfl rfl ?_
        refine WO.mv rfl ?_
        refine WO.gyes rfl rfl ?_
        refine WO.mv rfl ?_
        refine WO.gyes rfl rfl ?_
        obtain ⟨r110, e111, h⟩ := bindS h
        refine WO.callE (S := S107) rfl rfl (F19_ok e111) (fun S112 c113 => ?_)
        have hot0_0z := hot0_0z.toz c113
        have hot0_1z := hot0_1z.toz c113
        have hot1_0z := hot1_0z.toz c113
        have hot1_1z := hot1_1z.toz c113
        have ho42z := ho42z.tow c113
        have ho44z := ho44z.tow c113
        have ho4 := ho4.to c113
        have hot0_0 := hot0_0.to c113
        have hot0_1 := hot0_1.to c113
        have ho8 := ho8.to c113
        have hot1_0 := hot1_0.to c113
        have hot1_1 := hot1_1.to c113
        have ho16 := ho16.to c113
        have ho26 := ho26.to c113
        have ho36 := ho36.to c113
        have ho51 := ho51.to c113
        have ho42 := ho42.to c113
        have ho44 := ho44.to c113
        refine WO.gyes rfl rfl ?_
        refine WO.neA rfl rfl rfl rfl (eqFields_cons rfl rfl rfl eqC_int (eqFields_cons rfl rfl rfl eqC_int rfl)) ?_
        obtain rfl := someI h
        refine WO.pickF rfl rfl ?_
        refine WO.nil ?_
        exact ⟨S112, rfl, rfl, c113, (Cov.cons rfl (Cov.skip rfl (Cov.skip rfl (Cov.skip rfl (Cov.skip rfl (Cov.skip rfl (Cov.skip rfl (Cov.skip rfl (Cov.refl _)))))))))⟩
      have hot0_0z := hot0_0z.toz c118
      have hot0_1z := hot0_1z.toz c118
      have hot1_0z := hot1_0z.toz c118
      have hot1_1z := hot1_1z.toz c118
      have ho42z := ho42z.tow c118
      have ho44z := ho44z.tow c118
      have ho4 := ho4.to c118
      have hot0_0 := hot0_0.to c118
      have hot0_1 := hot0_1.to c118
      have ho8 := ho8.to c118
      have hot1_0 := hot1_0.to c118
      have hot1_1 := hot1_1.to c118
      have ho16 := ho16.to c118
      have ho26 := ho26.to c118
      have ho36 := ho36.to c118
      have ho51 := ho51.to c118
      have ho42 := ho42.to c118
      have ho44 := ho44.to c118
      refine WO.nil ?_
      refine thenL_n ?_
      refine WC.cond rfl (fun q119 => ?_) (fun q119 => ?_)
      · have h := iteT q119 h
        refine WC.seq ?_
        refine WC.region ?_
        refine WO.asg rfl ?_
        refine WO.nil ?_
        refine thenL_n ?_
        refine WC.ret ?_
        refine thenL_r ?_
        obtain rfl := someI h
        exact ⟨.inr rfl, _, _, rfl, rfl, rfl⟩
      · have h := iteF q119 h
        refine WC.skip ?_
        refine thenL_n ?_
        refine WC.seq ?_
        refine WC.seq ?_
        refine WC.region ?_
        refine WO.ldWA (sz := 2) (r := [vt1_0, vt1_1]) rfl ho8.at0 ho8 rfl rfl rfl ho8.lt rfl ?_
        obtain ⟨r120, e121, h⟩ := bindS h
        refine WO.callE (S := S117) rfl rfl (F16_ok e121 hot1_0.vw hot1_1.vw) (fun S122 c123 => ?_)
        have ho4 := ho4.to c123
        have hot0_0 := hot0_0.to c123
        have hot0_1 := hot0_1.to c123
        have ho8 := ho8.to c123
        have hot1_0 := hot1_0.to c123
        have hot1_1 := hot1_1.to c123
        have ho16 := ho16.to c123
        have ho26 := ho26.to c123
        have ho36 := ho36.to c123
        have ho51 := ho51.to c123
        have ho42 := ho42.to c123
        have ho44 := ho44.to c123
        refine WO.asg rfl ?_
        refine WO.nil ?_
        refine thenL_n ?_
        refine WC.seq ?_
        refine WC.region ?_
        refine WO.mv rfl ?_
        refine WO.bin rfl rfl (by decide) (by decide) rfl ?_
        refine WO.nil ?_
        refine thenL_n ?_
        refine WC.cond rfl (fun q124 => ?_) (fun q124 => ?_)
        · have h := iteT q124 h
          refine WC.seq ?_
          refine WC.region ?_
          refine WO.mv rfl ?_
          refine WO.mv rfl ?_
          refine WO.bin rfl rfl (by decide) (by decide) rfl ?_
          refine WO.mv rfl ?_
          refine WO.cutB (d := 167) 9 ((r39.2 == r120) && ((wrapA .i64 ((r39.1.1.length : Int) + (r39.1.2.length : Int))) == 0)) (fun q125 => ?_) (fun q125 => ?_) ?_
          · skip
            refine WO.gyes rfl rfl ?_
            refine WO.fldS (j := 0) (q := 0) rfl ho51.at0 ho51.ptr rfl rfl rfl (by decide) ?_
            refine WO.gyes rfl rfl ?_
            refine WO.ldW rfl rfl ho51 rfl rfl ho51.lt rfl ?_
            refine WO.gyes rfl rfl ?_
            refine WO.lenS rfl ho42.slv rfl ?_
            refine WO.gyes rfl rfl ?_
            refine WO.fldS (j := 0) (q := 0) rfl ho51.at0 ho51.ptr rfl rfl rfl (by decide) ?_
            refine WO.gyes rfl rfl ?_
            refine WO.ldW rfl rfl ho51 rfl rfl ho51.lt rfl ?_
            refine WO.gyes rfl rfl ?_
            refine WO.lenS rfl ho44.slv rfl ?_
            refine WO.gyes rfl rfl ?_
            refine WO.bin rfl rfl (by decide) (by decide) rfl ?_
            refine WO.gyes rfl rfl ?_
            refine WO.bin rfl rfl (by decide) (by decide) rfl ?_
            refine WO.pickT rfl rfl ?_
            refine WO.nil ?_
            exact ⟨rfl, rfl, (Cov.any rfl (andT q125) (Cov.skip rfl (Cov.skip rfl (Cov.skip rfl (Cov.skip rfl (Cov.skip rfl (Cov.skip rfl (Cov.skip rfl (Cov.skip rfl (Cov.skip rfl (Cov.skip rfl (Cov.refl _))))))))))))⟩
          · refine WO.gno rfl rfl ?_
            refine WO.gno rfl rfl ?_
            refine WO.gno rfl rfl ?_
            refine WO.gno rfl rfl ?_
            refine WO.gno rfl rfl ?_
            refine WO.gno rfl rfl ?_
            refine WO.gno rfl rfl ?_
            refine WO.gno rfl rfl ?_
            refine WO.pickF rfl rfl ?_
            refine WO.nil ?_
            exact ⟨rfl, rfl, (Cov.any rfl (andF q125) (Cov.skip rfl (Cov.skip rfl (Cov.skip rfl (Cov.skip rfl (Cov.skip rfl (Cov.skip rfl (Cov.skip rfl (Cov.skip rfl (Cov.skip rfl (Cov.skip rfl (Cov.refl _))))))))))))⟩
          refine WO.asg rfl ?_
          refine WO.nil ?_
          refine thenL_n ?_
          refine WC.ret ?_
          refine thenL_r ?_
          obtain rfl := someI h
          exact ⟨.inr rfl, _, _, rfl, rfl, rfl⟩
        · have h := iteF q124 h
          refine WC.skip ?_
          refine thenL_n ?_
          refine WC.seq ?_
          refine WC.region ?_
          refine WO.alW (S := S122) (cs := [.nils, .nils]) 10 rfl rfl rfl (fun b126 S127 c128 ho129 => ?_)
          have ho4 := ho4.to c128
          have hot0_0 := hot0_0.to c128
          have hot0_1 := hot0_1.to c128
          have ho8 := ho8.to c128
          have hot1_0 := hot1_0.to c128
          have hot1_1 := hot1_1.to c128
          have ho16 := ho16.to c128
          have ho26 := ho26.to c128
          have ho36 := ho36.to c128
          have ho51 := ho51.to c128
          have ho42 := ho42.to c128
          have ho44 := ho44.to c128
          refine WO.nil ?_
          refine thenL_n ?_
          refine WC.seq ?_
          refine WC.seq ?_
          refine WC.region ?_
          refine WO.fldS (j := 0) (q := 0) rfl ho4.at0 ho4.ptr rfl rfl rfl (by decide) ?_
          refine WO.ldW rfl rfl ho4 rfl rfl ho4.lt rfl ?_
          refine WO.lenS rfl hot0_0.slv rfl ?_
          refine WO.mv rfl ?_
          refine WO.nil ?_
          refine thenL_n ?_
          refine WC.block ?_
          obtain ⟨b196, e197, h⟩ := bindS h
          refine WC.loopD e197 (fun s130 l' m' n' => ∃ S133 : Cx n, ∃ v134 v135 : SV, S133.m = m' ∧ S133.n = n' ∧ Cov l' [(3, .sc ((.ptr b1 0))), (4, .sc ((.ptr b5 0))), (13, .sc ((.ptr b48 0))), (14, .sc (.int .i64 r39.2)), (21, .sc ((.ptr b126 0))), (170, .sc (.int .i64 ((t0.1.length : Int)))), (171, .sc (.int .i64 s130.1))] ∧ Bw S133 2 (.ptr b1 0) [vt0_0, vt0_1] ∧ Rd Y3 S133 vt0_0 t0.1 ∧ Rd Y3 S133 vt0_1 t0.2 ∧ Bw S133 3 (.ptr b5 0) [vt1_0, vt1_1] ∧ Rd Y3 S133 vt1_0 t1.1 ∧ Rd Y3 S133 vt1_1 t1.2 ∧ Bw S133 9 (.ptr b48 0) [v41, v43] ∧ Ow Y3 S133 7 v41 r39.1.1 ∧ Ow Y3 S133 8 v43 r39.1.2 ∧ Bw S133 10 (.ptr b126 0) [v134, v135] ∧ Ow Y3 S133 11 v134 s130.2.1 ∧ Ow Y3 S133 12 v135 s130.2.2) (fun b e l' m' n' => e = .exit 2 ∧ ∃ S136 : Cx n, ∃ v137 v138 : SV, S136.m = m' ∧ S136.n = n' ∧ Cov l' [(13, .sc ((.ptr b48 0))), (14, .sc (.int .i64 r39.2)), (21, .sc ((.ptr b126 0)))] ∧ Bw S136 9 (.ptr b48 0) [v41, v43] ∧ Ow Y3 S136 7 v41 r39.1.1 ∧ Ow Y3 S136 8 v43 r39.1.2 ∧ Bw S136 10 (.ptr b126 0) [v137, v138] ∧ Ow Y3 S136 11 v137 b.1 ∧ Ow Y3 S136 12 v138 b.2) (by exact ⟨S127, .nils, .nils, rfl, rfl, (Cov.cons rfl (Cov.cons rfl (Cov.cons rfl (Cov.cons rfl (Cov.cons rfl (Cov.cons rfl (Cov.cons rfl (Cov.nil _)))))))), ho4, hot0_0, hot0_1, ho8, hot1_0, hot1_1, ho51, ho42, ho44, ho129, Ow.nil, Ow.nil⟩) ?_ ?_
          · clear h
            rintro s130 q _ _ _ ⟨S139, v140, v141, rfl, rfl, hc142, ho4, hot0_0, hot0_1, ho8, hot1_0, hot1_1, ho51, ho42, ho44, ho129, ho129c0, ho129c1⟩ h
            unfold F3_l2 at h
            refine WC.cov hc142 ?_
            refine WC.seq ?_
            refine WC.region ?_
            refine WO.bin rfl rfl (by decide) (by decide) rfl ?_
            refine WO.nil ?_
            refine thenL_n ?_
            refine WC.seq ?_
            refine WC.cond rfl (fun q143 => ?_) (fun q143 => ?_)
            · have h := iteT q143 h
              refine WC.skip ?_
              refine thenL_n ?_
              refine WC.seq ?_
              refine WC.block ?_
              refine WC.seq ?_
              refine WC.region ?_
              refine WO.mv rfl ?_
              refine WO.asg rfl ?_
              refine WO.nil ?_
              refine thenL_n ?_
              refine WC.seq ?_
              refine WC.region ?_
              refine WO.fldS (j := 0) (q := 0) rfl ho8.at0 ho8.ptr rfl rfl rfl (by decide) ?_
              refine WO.ldW rfl rfl ho8 rfl rfl ho8.lt rfl ?_
              refine WO.lenS rfl hot1_0.slv rfl ?_
              refine WO.mv rfl ?_
              refine WO.nil ?_
              refine thenL_n ?_
              refine WC.block ?_
              obtain ⟨b190, e191, h⟩ := bindS h
              refine WC.loopD e191 (fun s144 l' m' n' => ∃ S147 : Cx n, ∃ v148 v149 : SV, S147.m = m' ∧ S147.n = n' ∧ Cov l' [(3, .sc ((.ptr b1 0))), (4, .sc ((.ptr b5 0))), (13, .sc ((.ptr b48 0))), (14, .sc (.int .i64 r39.2)), (21, .sc ((.ptr b126 0))), (22, .sc (.int .i64 s130.1)), (170, .sc (.int .i64 ((t0.1.length : Int)))), (171, .sc (.int .i64 s130.1)), (176, .sc (.int .i64 ((t1.1.length : Int)))), (177, .sc (.int .i64 s144.1))] ∧ Bw S147 2 (.ptr b1 0) [vt0_0, vt0_1] ∧ Rd Y3 S147 vt0_0 t0.1 ∧ Rd Y3 S147 vt0_1 t0.2 ∧ Bw S147 3 (.ptr b5 0) [vt1_0, vt1_1] ∧ Rd Y3 S147 vt1_0 t1.1 ∧ Rd Y3 S147 vt1_1 t1.2 ∧ Bw S147 9 (.ptr b48 0) [v41, v43] ∧ Ow Y3 S147 7 v41 r39.1.1 ∧ Ow Y3 S147 8 v43 r39.1.2 ∧ Bw S147 10 (.ptr b126 0) [v148, v149] ∧ Ow Y3 S147 11 v148 s144.2.1 ∧ Ow Y3 S147 12 v149 s144.2.2) (fun b e l' m' n' => e = .exit 4 ∧ ∃ S150 : Cx n, ∃ v151 v152 : SV, S150.m = m' ∧ S150.n = n' ∧ Cov l' [(3, .sc ((.ptr b1 0))), (4, .sc ((.ptr b5 0))), (13, .sc ((.ptr b48 0))), (14, .sc (.int .i64 r39.2)), (21, .sc ((.ptr b126 0))), (170, .sc (.int .i64 ((t0.1.length : Int)))), (171, .sc (.int .i64 s130.1))] ∧ Bw S150 2 (.ptr b1 0) [vt0_0, vt0_1] ∧ Rd Y3 S150 vt0_0 t0.1 ∧ Rd Y3 S150 vt0_1 t0.2 ∧ Bw S150 3 (.ptr b5 0) [vt1_0, vt1_1] ∧ Rd Y3 S150 vt1_0 t1.1 ∧ Rd Y3 S150 vt1_1 t1.2 ∧ Bw S150 9 (.ptr b48 0) [v41, v43] ∧ Ow Y3 S150 7 v41 r39.1.1 ∧ Ow Y3 S150 8 v43 r39.1.2 ∧ Bw S150 10 (.ptr b126 0) [v151, v152] ∧ Ow Y3 S150 11 v151 b.1 ∧ Ow Y3 S150 12 v152 b.2) (by exact ⟨S139, v140, v141, rfl, rfl, (Cov.cons rfl (Cov.cons rfl (Cov.cons rfl (Cov.cons rfl (Cov.cons rfl (Cov.cons rfl (Cov.cons rfl (Cov.cons rfl (Cov.cons rfl (Cov.cons rfl (Cov.nil _))))))))))), ho4, hot0_0, hot0_1, ho8, hot1_0, hot1_1, ho51, ho42, ho44, ho129, ho129c0, ho129c1⟩) ?_ ?_
              · clear h
                rintro s144 q _ _ _ ⟨S153, v154, v155, rfl, rfl, hc156, ho4, hot0_0, hot0_1, ho8, hot1_0, hot1_1, ho51, ho42, ho44, ho129, ho129c0, ho129c1⟩ h
                unfold F3_l1 at h
                refine WC.cov hc156 ?_
                refine WC.seq ?_
                refine WC.region ?_
                refine WO.bin rfl rfl (by decide) (by decide) rfl ?_
                refine WO.nil ?_
                refine thenL_n ?_
                refine WC.seq ?_
                refine WC.cond rfl (fun q157 => ?_) (fun q157 => ?_)
                · have h := iteT q157 h
                  refine WC.skip ?_
                  refine thenL_n ?_
                  refine WC.seq ?_
                  refine WC.block ?_
                  refine WC.seq ?_
                  refine WC.region ?_
                  refine WO.mv rfl ?_
                  refine WO.asg rfl ?_
                  refine WO.nil ?_
                  refine thenL_n ?_
                  refine WC.seq ?_
                  refine WC.drawN rfl rfl ?_
                  have ho4z := ho4.lt
                  have hot0_0z := hot0_0.oz
                  have hot0_1z := hot0_1.oz
                  have ho8z := ho8.lt
                  have hot1_0z := hot1_0.oz
                  have hot1_1z := hot1_1.oz
                  have ho51z := ho51.lt
                  have ho42z := ho42.oz
                  have ho44z := ho44.oz
                  have ho129z := ho129.lt
                  have ho129c0z := ho129c0.oz
                  have ho129c1z := ho129c1.oz
                  refine WO.fldS (j := 0) (q := 0) rfl ho129.at0 ho129.ptr rfl rfl rfl (by decide) ?_
                  refine WO.ldW rfl rfl ho129 rfl rfl ho129z (limLe_self _) ?_
                  refine WO.fldS (j := 0) (q := 0) rfl ho4.at0 ho4.ptr rfl rfl rfl (by decide) ?_
                  refine WO.ldW rfl rfl ho4 rfl rfl ho4z (limLe_self _) ?_
                  refine WO.mv rfl ?_
                  obtain ⟨x158, e159, h⟩ := bindS h
                  refine WO.ixS rfl rfl hot0_0.slv (at?_lt e159) rfl ?_
                  refine WO.ldF rfl hot0_0z (fun _ hi => hi.1) (at?_get e159) rfl rfl (limLe_self _) ?_
                  refine WO.fldS (j := 0) (q := 0) rfl ho8.at0 ho8.ptr rfl rfl rfl (by decide) ?_
                  refine WO.ldW rfl rfl ho8 rfl rfl ho8z (limLe_self _) ?_
                  refine WO.mv rfl ?_
                  obtain ⟨x160, e161, h⟩ := bindS h
                  refine WO.ixS rfl rfl hot1_0.slv (at?_lt e161) rfl ?_
                  refine WO.ldF rfl hot1_0z (fun _ hi => hi.1) (at?_get e161) rfl rfl (limLe_self _) ?_
                  refine WO.bin rfl rfl (by decide) (by decide) rfl ?_
                  refine WO.bsS (A := Y3) (S := S153) (M := [(wrapA .i64 (x158 + x160))]) (cs := [.int .i64 ((wrapA .i64 (x158 + x160)))]) 13 rfl rfl rfl ⟨[.int .i64 ((wrapA .i64 (x158 + x160)))], _, rfl, rfl, rfl⟩ rfl (fun v162 S163 c164 ho165 => ?_)
                  have hot0_0z := hot0_0z.toz c164
                  have hot0_1z := hot0_1z.toz c164
                  have hot1_0z := hot1_0z.toz c164
                  have hot1_1z := hot1_1z.toz c164
                  have ho42z := ho42z.tow c164
                  have ho44z := ho44z.tow c164
                  have ho129c0z := ho129c0z.tow c164
                  have ho129c1z := ho129c1z.tow c164
                  have ho4 := ho4.to c164
                  have hot0_0 := hot0_0.to c164
                  have hot0_1 := hot0_1.to c164
                  have ho8 := ho8.to c164
                  have hot1_0 := hot1_0.to c164
                  have hot1_1 := hot1_1.to c164
                  have ho51 := ho51.to c164
                  have ho42 := ho42.to c164
                  have ho44 := ho44.to c164
                  have ho129 := ho129.to c164
                  have ho129c0 := ho129c0.to c164
                  have ho129c1 := ho129c1.to c164
                  obtain ⟨L166, e167, h⟩ := bindS h
                  refine WO.appS rfl rfl ho129c0 ho165.ro e167 rfl rfl (fun v168 S169 c170 ho171 => ?_)
                  have hot0_0z := hot0_0z.toz c170
                  have hot0_1z := hot0_1z.toz c170
                  have hot1_0z := hot1_0z.toz c170
                  have hot1_1z := hot1_1z.toz c170
                  have ho42z := ho42z.tow c170
                  have ho44z := ho44z.tow c170
                  have ho129c1z := ho129c1z.tow c170
                  have ho4 := ho4.to c170
                  have hot0_0 := hot0_0.to c170
                  have hot0_1 := hot0_1.to c170
                  have ho8 := ho8.to c170
                  have hot1_0 := hot1_0.to c170
                  have hot1_1 := hot1_1.to c170
                  have ho51 := ho51.to c170
                  have ho42 := ho42.to c170
                  have ho44 := ho44.to c170
                  have ho129 := ho129.to c170
                  have ho129c1 := ho129c1.to c170
                  have ho165 := ho165.to c170
                  refine WO.fldS (j := 0) (q := 0) rfl ho129.at0 ho129.ptr rfl rfl rfl (by decide) ?_
                  refine WO.stW (S := S169) (r := [v168, v155]) rfl rfl rfl rfl ho129 rfl rfl rfl rfl rfl (fun S172 c173 ho129 => ?_)
                  have hot0_0z := hot0_0z.toz c173
                  have hot0_1z := hot0_1z.toz c173
                  have hot1_0z := hot1_0z.toz c173
                  have hot1_1z := hot1_1z.toz c173
                  have ho42z := ho42z.tow c173
                  have ho44z := ho44z.tow c173
                  have ho129c1z := ho129c1z.tow c173
                  have ho4 := ho4.to c173
                  have hot0_0 := hot0_0.to c173
                  have hot0_1 := hot0_1.to c173
                  have ho8 := ho8.to c173
                  have hot1_0 := hot1_0.to c173
                  have hot1_1 := hot1_1.to c173
                  have ho51 := ho51.to c173
                  have ho42 := ho42.to c173
                  have ho44 := ho44.to c173
                  have ho129c1 := ho129c1.to c173
                  have ho165 := ho165.to c173
                  have ho171 := ho171.to c173
                  refine WO.nil ?_
                  refine thenL_n ?_
                  refine WC.drawN rfl rfl ?_
                  have ho4z := ho4.lt
                  have hot0_0z := hot0_0.oz
                  have hot0_1z := hot0_1.oz
                  have ho8z := ho8.lt
                  have hot1_0z := hot1_0.oz
                  have hot1_1z := hot1_1.oz
                  have ho51z := ho51.lt
                  have ho42z := ho42.oz
                  have ho44z := ho44.oz
                  have ho129z := ho129.lt
                  have ho129c1z := ho129c1.oz
                  have ho165z := ho165.oz
                  have ho171z := ho171.oz
                  refine WO.fldS (j := 0) (q := 0) rfl ho129.at0 ho129.ptr rfl rfl rfl (by decide) ?_
                  refine WO.ldW rfl rfl ho129 rfl rfl ho129z (limLe_self _) ?_
                  refine WO.fldS (j := 0) (q := 0) rfl ho4.at0 ho4.ptr rfl rfl rfl (by decide) ?_
                  refine WO.ldW rfl rfl ho4 rfl rfl ho4z (limLe_self _) ?_
                  refine WO.mv rfl ?_
                  obtain ⟨x174, e175, h⟩ := bindS h
                  refine WO.ixS rfl rfl hot0_1.slv (at?_lt e175) rfl ?_
                  refine WO.ldF rfl hot0_1z (fun _ hi => hi.1) (at?_get e175) rfl rfl (limLe_self _) ?_
                  refine WO.fldS (j := 0) (q := 0) rfl ho8.at0 ho8.ptr rfl rfl rfl (by decide) ?_
                  refine WO.ldW rfl rfl ho8 rfl rfl ho8z (limLe_self _) ?_
                  refine WO.mv rfl ?_
                  obtain ⟨x176, e177, h⟩ := bindS h
                  refine WO.ixS rfl rfl hot1_1.slv (at?_lt e177) rfl ?_
                  refine WO.ldF rfl hot1_1z (fun _ hi => hi.1) (at?_get e177) rfl rfl (limLe_self _) ?_
                  refine WO.bin rfl rfl (by decide) (by decide) rfl ?_
                  refine WO.bsS (A := Y3) (S := S172) (M := [(wrapA .i64 (x174 * x176))]) (cs := [.int .i64 ((wrapA .i64 (x174 * x176)))]) 14 rfl rfl rfl ⟨[.int .i64 ((wrapA .i64 (x174 * x176)))], _, rfl, rfl, rfl⟩ rfl (fun v178 S179 c180 ho181 => ?_)
                  have hot0_0z := hot0_0z.toz c180
                  have hot0_1z := hot0_1z.toz c180
                  have hot1_0z := hot1_0z.toz c180
                  have hot1_1z := hot1_1z.toz c180
                  have ho42z := ho42z.tow c180
                  have ho44z := ho44z.tow c180
                  have ho129c1z := ho129c1z.tow c180
                  have ho165z := ho165z.tow c180
                  have ho171z := ho171z.tow c180
                  have ho4 := ho4.to c180
                  have hot0_0 := hot0_0.to c180
                  have hot0_1 := hot0_1.to c180
                  have ho8 := ho8.to c180
                  have hot1_0 := hot1_0.to c180
                  have hot1_1 := hot1_1.to c180
                  have ho51 := ho51.to c180
                  have ho42 := ho42.to c180
                  have ho44 := ho44.to c180
                  have ho129 := ho129.to c180
                  have ho129c1 := ho129c1.to c180
                  have ho165 := ho165.to c180
                  have ho171 := ho171.to c180
                  obtain ⟨L182, e183, h⟩ := bindS h
                  refine WO.appS rfl rfl ho129c1 ho181.ro e183 rfl rfl (fun v184 S185 c186 ho187 => ?_)
                  have hot0_0z := hot0_0z.toz c186
                  have hot0_1z := hot0_1z.toz c186
                  have hot1_0z := hot1_0z.toz c186
                  have hot1_1z := hot1_1z.toz c186
                  have ho42z := ho42z.tow c186
                  have ho44z := ho44z.tow c186
                  have ho165z := ho165z.tow c186
                  have ho171z := ho171z.tow c186
                  have ho4 := ho4.to c186
                  have hot0_0 := hot0_0.to c186
                  have hot0_1 := hot0_1.to c186
                  have ho8 := ho8.to c186
                  have hot1_0 := hot1_0.to c186
                  have hot1_1 := hot1_1.to c186
                  have ho51 := ho51.to c186
                  have ho42 := ho42.to c186
                  have ho44 := ho44.to c186
                  have ho129 := ho129.to c186
                  have ho165 := ho165.to c186
                  have ho171 := ho171.to c186
                  have ho181 := ho181.to c186
                  refine WO.fldS (j := 0) (q := 0) rfl ho129.at0 ho129.ptr rfl rfl rfl (by decide) ?_
                  refine WO.stW (S := S185) (r := [v168, v184]) rfl rfl rfl rfl ho129 rfl rfl rfl rfl rfl (fun S188 c189 ho129 => ?_)
                  have hot0_0z := hot0_0z.toz c189
                  have hot0_1z := hot0_1z.toz c189
                  have hot1_0z := hot1_0z.toz c189
                  have hot1_1z := hot1_1z.toz c189
                  have ho42z := ho42z.tow c189
                  have ho44z := ho44z.tow c189
                  have ho165z := ho165z.tow c189
                  have ho171z := ho171z.tow c189
                  have ho4 := ho4.to c189
                  have hot0_0 := hot0_0.to c189
                  have hot0_1 := hot0_1.to c189
                  have ho8 := ho8.to c189
                  have hot1_0 := hot1_0.to c189
                  have hot1_1 := hot1_1.to c189
                  have ho51 := ho51.to c189
                  have ho42 := ho42.to c189
                  have ho44 := ho44.to c189
                  have ho165 := ho165.to c189
                  have ho171 := ho171.to c189
                  have ho181 := ho181.to c189
                  have ho187 := ho187.to c189
                  refine WO.nil ?_
                  refine blockL_n ?_
                  refine thenL_n ?_
                  refine WC.region ?_
                  refine WO.bin rfl rfl (by decide) (by decide) rfl ?_
                  refine WO.mv rfl ?_
                  refine WO.nil ?_
                  refine thenL_n ?_
                  obtain rfl := someI h
                  exact ⟨_, rfl, ⟨S188, v168, v184, rfl, rfl, (Cov.cons rfl (Cov.cons rfl (Cov.cons rfl (Cov.cons rfl (Cov.cons rfl (Cov.cons rfl (Cov.cons rfl (Cov.cons rfl (Cov.cons rfl (Cov.cons rfl (Cov.nil _))))))))))), ho4, hot0_0, hot0_1, ho8, hot1_0, hot1_1, ho51, ho42, ho44, ho129, ho171, ho187⟩⟩
                · have h := iteF q157 h
                  refine WC.exit ?_
                  refine thenL_e ?_
                  refine thenL_e ?_
                  obtain rfl := someI h
                  exact ⟨_, rfl, rfl, ⟨S153, v154, v155, rfl, rfl, (Cov.cons rfl (Cov.cons rfl (Cov.cons rfl (Cov.cons rfl (Cov.cons rfl (Cov.cons rfl (Cov.cons rfl (Cov.nil _)))))))), ho4, hot0_0, hot0_1, ho8, hot1_0, hot1_1, ho51, ho42, ho44, ho129, ho129c0, ho129c1⟩⟩
              rintro _ _ _ _ ⟨rfl, ⟨S192, v193, v194, rfl, rfl, hc195, ho4, hot0_0, hot0_1, ho8, hot1_0, hot1_1, ho51, ho42, ho44, ho129, ho129c0, ho129c1⟩⟩
              refine blockL_s ?_
              refine blockL_n ?_
              refine thenL_n ?_
              refine WC.cov hc195 ?_
              refine WC.region ?_
              refine WO.bin rfl rfl (by decide) (by decide) rfl ?_
              refine WO.mv rfl ?_
              refine WO.nil ?_
              refine thenL_n ?_
              obtain rfl := someI h
              exact ⟨_, rfl, ⟨S192, v193, v194, rfl, rfl, (Cov.cons rfl (Cov.cons rfl (Cov.cons rfl (Cov.cons rfl (Cov.cons rfl (Cov.cons rfl (Cov.cons rfl (Cov.nil _)))))))), ho4, hot0_0, hot0_1, ho8, hot1_0, hot1_1, ho51, ho42, ho44, ho129, ho129c0, ho129c1⟩⟩
            · have h := iteF q143 h
              refine WC.exit ?_
              refine thenL_e ?_
              refine thenL_e ?_
              obtain rfl := someI h
              exact ⟨_, rfl, rfl, ⟨S139, v140, v141, rfl, rfl, (Cov.cons rfl (Cov.cons rfl (Cov.cons rfl (Cov.nil _)))), ho51, ho42, ho44, ho129, ho129c0, ho129c1⟩⟩
          rintro _ _ _ _ ⟨rfl, ⟨S198, v199, v200, rfl, rfl, hc201, ho51, ho42, ho44, ho129, ho129c0, ho129c1⟩⟩
          refine blockL_s ?_
          refine thenL_n ?_
          refine WC.cov hc201 ?_
          refine WC.seq ?_
          refine WC.seq ?_
          refine WC.region ?_
          refine WO.ldWA (sz := 2) (r := [v199, v200]) rfl ho129.at0 ho129 rfl rfl rfl ho129.lt rfl ?_
          obtain ⟨r202, e203, h⟩ := bindS h
          refine WO.callE (S := S198) rfl rfl (F16_ok e203 ho129c0.vw ho129c1.vw) (fun S204 c205 => ?_)
          have ho51 := ho51.to c205
          have ho42 := ho42.to c205
          have ho44 := ho44.to c205
          have ho129 := ho129.to c205
          have ho129c0 := ho129c0.to c205
          have ho129c1 := ho129c1.to c205
          refine WO.bin rfl rfl (by decide) (by decide) rfl ?_
          refine WO.nil ?_
          refine thenL_n ?_
          refine WC.cond rfl (fun q206 => ?_) (fun q206 => ?_)
          · have h := iteT q206 h
            refine WC.seq ?_
            refine WC.region ?_
            refine WO.mv rfl ?_
            refine WO.bin rfl rfl (by decide) (by decide) rfl ?_
            refine WO.mv rfl ?_
            refine WO.cutB (d := 228) 9 ((r39.2 == 9) && ((wrapA .i64 ((r39.1.1.length : Int) + (r39.1.2.length : Int))) == 0)) (fun q207 => ?_) (fun q207 => ?_) ?_
            · skip
              refine WO.gyes rfl rfl ?_
              refine WO.fldS (j := 0) (q := 0) rfl ho51.at0 ho51.ptr rfl rfl rfl (by decide) ?_
              refine WO.gyes rfl rfl ?_
              refine WO.ldW rfl rfl ho51 rfl rfl ho51.lt rfl ?_
              refine WO.gyes rfl rfl ?_
              refine WO.lenS rfl ho42.slv rfl ?_
              refine WO.gyes rfl rfl ?_
              refine WO.fldS (j := 0) (q := 0) rfl ho51.at0 ho51.ptr rfl rfl rfl (by decide) ?_
              refine WO.gyes rfl rfl ?_
              refine WO.ldW rfl rfl ho51 rfl rfl ho51.lt rfl ?_
              refine WO.gyes rfl rfl ?_
              refine WO.lenS rfl ho44.slv rfl ?_
              refine WO.gyes rfl rfl ?_
              refine WO.bin rfl rfl (by decide) (by decide) rfl ?_
              refine WO.gyes rfl rfl ?_
              refine WO.bin rfl rfl (by decide) (by decide) rfl ?_
              refine WO.pickT rfl rfl ?_
              refine WO.nil ?_
              exact ⟨rfl, rfl, (Cov.any rfl (andT q207) (Cov.skip rfl (Cov.skip rfl (Cov.skip rfl (Cov.skip rfl (Cov.skip rfl (Cov.skip rfl (Cov.skip rfl (Cov.skip rfl (Cov.skip rfl (Cov.skip rfl (Cov.refl _))))))))))))⟩
            · refine WO.gno rfl rfl ?_
              refine WO.gno rfl rfl ?_
              refine WO.gno rfl rfl ?_
              refine WO.gno rfl rfl ?_
              refine WO.gno rfl rfl ?_
              refine WO.gno rfl rfl ?_
              refine WO.gno rfl rfl ?_
              refine WO.gno rfl rfl ?_
              refine WO.pickF rfl rfl ?_
              refine WO.nil ?_
              exact ⟨rfl, rfl, (Cov.any rfl (andF q207) (Cov.skip rfl (Cov.skip rfl (Cov.skip rfl (Cov.skip rfl (Cov.skip rfl (Cov.skip rfl (Cov.skip rfl (Cov.skip rfl (Cov.skip rfl (Cov.skip rfl (Cov.refl _))))))))))))⟩
            refine WO.asg rfl ?_
            refine WO.nil ?_
            refine thenL_n ?_
            refine WC.ret ?_
            refine thenL_r ?_
            obtain rfl := someI h
            exact ⟨.inr rfl, _, _, rfl, rfl, rfl⟩
          · have h := iteF q206 h
            refine WC.skip ?_
            refine thenL_n ?_
            refine WC.seq ?_
            refine WC.region ?_
            refine WO.mv rfl ?_
            refine WO.bin rfl rfl (by decide) (by decide) rfl ?_
            refine WO.mv rfl ?_
            obtain ⟨y213, e214, h⟩ := bindS h
            refine WO.cutS (d := 237) (S := S204) 6 y213 (fun q212 => ?_) (fun q212 => ?_) (fun S215 c216 => ?_)
            · have h := e214
              have h := iteT q212 h
              refine WO.gyes rfl rfl ?_
              refine WO.fldS (j := 0) (q := 0) rfl ho51.at0 ho51.ptr rfl rfl rfl (by decide) ?_
              refine WO.gyes rfl rfl ?_
              refine WO.ldW rfl rfl ho51 rfl rfl ho51.lt rfl ?_
              refine WO.gyes rfl rfl ?_
              refine WO.fldS (j := 0) (q := 0) rfl ho129.at0 ho129.ptr rfl rfl rfl (by decide) ?_
              refine WO.gyes rfl rfl ?_
              refine WO.ldW rfl rfl ho129 rfl rfl ho129.lt rfl ?_
              refine WO.gyes rfl rfl ?_
              obtain ⟨r208, e209, h⟩ := bindS h
              refine WO.callE (S := S204) rfl rfl (F21_ok e209 ho42.vw ho129c0.vw) (fun S210 c211 => ?_)
              have ho51 := ho51.to c211
              have ho42 := ho42.to c211
              have ho44 := ho44.to c211
              have ho129 := ho129.to c211
              have ho129c0 := ho129c0.to c211
              have ho129c1 := ho129c1.to c211
              obtain rfl := someI h
              refine WO.pickT rfl rfl ?_
              refine WO.nil ?_
              exact ⟨S210, rfl, rfl, c211, (Cov.cons rfl (Cov.skip rfl (Cov.skip rfl (Cov.skip rfl (Cov.skip rfl (Cov.skip rfl (Cov.skip rfl (Cov.skip rfl (Cov.refl _)))))))))⟩
            · have h := e214
              have h := iteF q212 h
              obtain rfl := someI h
              refine WO.gno rfl rfl ?_
              refine WO.gno rfl rfl ?_
              refine WO.gno rfl rfl ?_
              refine WO.gno rfl rfl ?_
              refine WO.gno rfl rfl ?_
              refine WO.pickF rfl rfl ?_
              refine WO.nil ?_
              exact ⟨S204, rfl, rfl, Ch.refl _ _, (Cov.cons rfl (Cov.skip rfl (Cov.skip rfl (Cov.skip rfl (Cov.skip rfl (Cov.skip rfl (Cov.skip rfl (Cov.skip rfl (Cov.refl _)))))))))⟩
            have ho51 := ho51.to c216
            have ho42 := ho42.to c216
            have ho44 := ho44.to c216
            have ho129 := ho129.to c216
            have ho129c0 := ho129c0.to c216
            have ho129c1 := ho129c1.to c216
            refine WO.mv rfl ?_
            obtain ⟨y222, e223, h⟩ := bindS h
            refine WO.cutS (d := 244) (S := S215) 6 y222 (fun q221 => ?_) (fun q221 => ?_) (fun S224 c225 => ?_)
            · have h := e223
              have h := iteT q221 h
              refine WO.gyes rfl rfl ?_
              refine WO.fldS (j := 0) (q := 0) rfl ho51.at0 ho51.ptr rfl rfl rfl (by decide) ?_
              refine WO.gyes rfl rfl ?_
              refine WO.ldW rfl rfl ho51 rfl rfl ho51.lt rfl ?_
              refine WO.gyes rfl rfl ?_
              refine WO.fldS (j := 0) (q := 0) rfl ho129.at0 ho129.ptr rfl rfl rfl (by decide) ?_
              refine WO.gyes rfl rfl ?_
              refine WO.ldW rfl rfl ho129 rfl rfl ho129.lt rfl ?_
              refine WO.gyes rfl rfl ?_
              obtain ⟨r217, e218, h⟩ := bindS h
              refine WO.callE (S := S215) rfl rfl (F21_ok e218 ho44.vw ho129c1.vw) (fun S219 c220 => ?_)
              have ho51 := ho51.to c220
              have ho42 := ho42.to c220
              have ho44 := ho44.to c220
              have ho129 := ho129.to c220
              have ho129c0 := ho129c0.to c220
              have ho129c1 := ho129c1.to c220
              obtain rfl := someI h
              refine WO.pickT rfl rfl ?_
              refine WO.nil ?_
              exact ⟨S219, rfl, rfl, c220, (Cov.cons rfl (Cov.skip rfl (Cov.skip rfl (Cov.skip rfl (Cov.skip rfl (Cov.skip rfl (Cov.skip rfl (Cov.skip rfl (Cov.refl _)))))))))⟩
            · have h := e223
              have h := iteF q221 h
              obtain rfl := someI h
              refine WO.gno rfl rfl ?_
              refine WO.gno rfl rfl ?_
              refine WO.gno rfl rfl ?_
              refine WO.gno rfl rfl ?_
              refine WO.gno rfl rfl ?_
              refine WO.pickF rfl rfl ?_
              refine WO.nil ?_
              exact ⟨S215, rfl, rfl, Ch.refl _ _, (Cov.cons rfl (Cov.skip rfl (Cov.skip rfl (Cov.skip rfl (Cov.skip rfl (Cov.skip rfl (Cov.skip rfl (Cov.skip rfl (Cov.refl _)))))))))⟩
            have ho51 := ho51.to c225
            have ho42 := ho42.to c225
            have ho44 := ho44.to c225
            have ho129 := ho129.to c225
            have ho129c0 := ho129c0.to c225
            have ho129c1 := ho129c1.to c225
            refine WO.asg rfl ?_
            refine WO.nil ?_
            refine thenL_n ?_
            refine WC.ret ?_
            obtain rfl := someI h
            exact ⟨.inr rfl, _, _, rfl, rfl, rfl⟩
end Go.Proofs.Ytihmliblbhjlaaa

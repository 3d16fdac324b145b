/- The machine answers F5: printed by a program of ours (gen.py). -/
import Derived.Test.YtihmliblbhjlaaaDef
import Derived.Test.YtihmliblbhjlaaaEnv
import Derived.Test.YtihmliblbhjlaaaF27
import Derived.Test.YtihmliblbhjlaaaF28
import Derived.Test.YtihmliblbhjlaaaF29
import Derived.Test.YtihmliblbhjlaaaF30
import Derived.Test.YtihmliblbhjlaaaF31
import Derived.Test.YtihmliblbhjlaaaF32
import Derived.Test.YtihmliblbhjlaaaF33
import Derived.Test.YtihmliblbhjlaaaF34_35
set_option linter.unusedVariables false
namespace Go.Proofs.Ytihmliblbhjlaaa
open Go.Am
theorem F5.fn : E.fn 5 = some ⟨108, (Try.f5.body.getD .skip), Try.f5.results.toList, [3, 6, 15]⟩ := rfl
theorem F5_ok {F : Nat} {m : Mem} {n : Nat} {r : Bool} {t0 : List Int} {t1 : (List (List Int)) × (List (List Int))} {vt0 : SV} {vt1_0 : SV} {vt1_1 : SV} (h : F5 F t0 t1 = some r) (kt0 : Vw Y3 n m vt0 t0) (kt1_0 : Vw Y22 n m vt1_0 t1.1) (kt1_1 : Vw Y22 n m vt1_1 t1.2) : Ret E n 5 [.sc vt0, .agg [vt1_0, vt1_1]] m n (fun v m' n' => v = .sc (.bool r)) := by
  unfold F5 at h
  refine Ret.walk F5.fn ?_
  refine WC.start fun S0 em en hz => ?_
  have hot0 := kt0.rdS em hz
  have hot1_0 := kt1_0.rdS em hz
  have hot1_1 := kt1_1.rdS em hz
  refine WC.seq ?_
  refine WC.region ?_
  refine WO.bxW (S := S0) (cs := [vt1_0, vt1_1]) 2 rfl rfl rfl (fun b1 S2 c3 ho4 => ?_)
  have hot0 := hot0.to c3
  have hot1_0 := hot1_0.to c3
  have hot1_1 := hot1_1.to c3
  refine WO.asg rfl ?_
  refine WO.nil ?_
  refine thenL_n ?_
  refine WC.seq ?_
  refine WC.region ?_
  refine WO.mv rfl ?_
  obtain ⟨r5, e6, h⟩ := bindS h
  refine WO.callG (S := S2) [] [] rfl rfl (F27_ok (S0 := S2.mp []) e6 hot0.mp) (fun _ S11 S12 hb hR => ?_)
  obtain ⟨v7, v9, rfl, hR0, hR1⟩ := hR
  have c13 : Ch 1 S2 S12 := hb.ch [] 1
  have hot0 := hot0.to c13
  have hot1_0 := hot1_0.to c13
  have hot1_1 := hot1_1.to c13
  have ho4 := ho4.to c13
  have ho8 := hR0.bkS hb rfl
  have ho10 := hR1.bkS hb rfl
  refine WO.mv rfl ?_
  refine WO.do rfl rfl ?_
  refine WO.do rfl rfl ?_
  refine WO.alW (S := S12) (cs := [.nils, .nils]) 3 rfl rfl rfl (fun b14 S15 c16 ho17 => ?_)
  have hot0 := hot0.to c16
  have hot1_0 := hot1_0.to c16
  have hot1_1 := hot1_1.to c16
  have ho4 := ho4.to c16
  have ho8 := ho8.to c16
  have ho10 := ho10.to c16
  refine WO.stW (S := S15) (r := [v7, v9]) rfl ho17.at0 rfl rfl ho17 rfl rfl rfl rfl rfl (fun S18 c19 ho17 => ?_)
  have hot0 := hot0.to c19
  have hot1_0 := hot1_0.to c19
  have hot1_1 := hot1_1.to c19
  have ho4 := ho4.to c19
  have ho8 := ho8.to c19
  have ho10 := ho10.to c19
  refine WO.asg rfl ?_
  refine WO.nil ?_
  refine thenL_n ?_
  refine WC.seq ?_
  refine WC.region ?_
  refine WO.ldWA (sz := 2) (r := [vt1_0, vt1_1]) rfl ho4.at0 ho4 rfl rfl rfl ho4.lt rfl ?_
  obtain ⟨r20, e21, h⟩ := bindS h
  refine WO.callF (S := S18) 4 rfl rfl (F28_ok e21 hot1_0.vw hot1_1.vw) Lay.flat_fl (fun v22 S24 c25 ho23 => ?_)
  have hot0 := hot0.to c25
  have hot1_0 := hot1_0.to c25
  have hot1_1 := hot1_1.to c25
  have ho4 := ho4.to c25
  have ho8 := ho8.to c25
  have ho10 := ho10.to c25
  have ho17 := ho17.to c25
  refine WO.mv rfl ?_
  refine WO.do rfl rfl ?_
  refine WO.do rfl rfl ?_
  refine WO.asg rfl ?_
  have hot0 := hot0.drop 4
  have hot1_0 := hot1_0.drop 4
  have hot1_1 := hot1_1.drop 4
  have ho4 := ho4.drop 4
  have ho8 := ho8.drop 4
  have ho10 := ho10.drop 4
  have ho17 := ho17.drop 4
  have ho23 := ho23.freeze
  change WO _ _ _ _ _ _ _ (S24.drop 4).m (S24.drop 4).n _
  refine WO.asg rfl ?_
  refine WO.nil ?_
  refine thenL_n ?_
  refine WC.seq ?_
  refine WC.seq ?_
  refine WC.drawN rfl rfl ?_
  have hot0z := hot0.oz
  have hot1_0z := hot1_0.oz
  have hot1_1z := hot1_1.oz
  have ho4z := ho4.lt
  have ho8z := ho8.oz
  have ho10z := ho10.oz
  have ho17z := ho17.lt
  have ho23z := ho23.oz
  refine WO.fldS (j := 0) (q := 0) rfl ho4.at0 ho4.ptr rfl rfl rfl (by decide) ?_
  refine WO.ldW rfl rfl ho4 rfl rfl ho4z (limLe_self _) ?_
  obtain ⟨r26, e27, h⟩ := bindS h
  refine WO.callE (S := (S24.drop 4)) rfl rfl (F29_ok e27 hot1_0.vw) (fun S28 c29 => ?_)
  have hot0z := hot0z.toz c29
  have hot1_0z := hot1_0z.toz c29
  have hot1_1z := hot1_1z.toz c29
  have ho8z := ho8z.toz c29
  have ho10z := ho10z.toz c29
  have ho23z := ho23z.toz c29
  have hot0 := hot0.to c29
  have hot1_0 := hot1_0.to c29
  have hot1_1 := hot1_1.to c29
  have ho4 := ho4.to c29
  have ho8 := ho8.to c29
  have ho10 := ho10.to c29
  have ho17 := ho17.to c29
  have ho23 := ho23.to c29
  refine WO.fldS (j := 0) (q := 0) rfl ho4.at0 ho4.ptr rfl rfl rfl (by decide) ?_
  refine WO.ldW rfl rfl ho4 rfl rfl ho4z (limLe_self _) ?_
  obtain ⟨r30, e31, h⟩ := bindS h
  refine WO.callE (S := S28) rfl rfl (F30_ok e31 hot1_0.vw) (fun S32 c33 => ?_)
  have hot0z := hot0z.toz c33
  have hot1_0z := hot1_0z.toz c33
  have hot1_1z := hot1_1z.toz c33
  have ho8z := ho8z.toz c33
  have ho10z := ho10z.toz c33
  have ho23z := ho23z.toz c33
  have hot0 := hot0.to c33
  have hot1_0 := hot1_0.to c33
  have hot1_1 := hot1_1.to c33
  have ho4 := ho4.to c33
  have ho8 := ho8.to c33
  have ho10 := ho10.to c33
  have ho17 := ho17.to c33
  have ho23 := ho23.to c33
  refine WO.bin rfl rfl (by decide) (by decide) rfl ?_
  refine WO.mv rfl ?_
  obtain ⟨y43, e44, h⟩ := bindS h
  refine WO.cutS (d := 36) (S := S32) 8 y43 (fun q42 => ?_) (fun q42 => ?_) (fun S45 c46 => ?_)
  · have h := e44
    have h := iteT q42 h
    obtain rfl := someI h
    refine WO.gno rfl rfl ?_
    refine WO.gno rfl rfl ?_
    refine WO.gno rfl rfl ?_
    refine WO.gno rfl rfl ?_
    refine WO.gno rfl rfl ?_
    refine WO.gno rfl rfl ?_
    refine WO.gno rfl rfl ?_
    refine WO.pickT rfl rfl ?_
    refine WO.nil ?_
    exact ⟨S32, rfl, rfl, Ch.refl _ _, (Cov.cons rfl (Cov.skip rfl (Cov.skip rfl (Cov.skip rfl (Cov.skip rfl (Cov.skip rfl (Cov.skip rfl (Cov.skip rfl (Cov.skip rfl (Cov.skip rfl (Cov.refl _)))))))))))⟩
  · have h := e44
    have h := iteF q42 h
    refine WO.gyes rfl rfl ?_
    refine WO.fldS (j := 0) (q := 0) rfl ho4.at0 ho4.ptr rfl rfl rfl (by decide) ?_
    refine WO.gyes rfl rfl ?_
    refine WO.ldW rfl rfl ho4 rfl rfl ho4z (limLe_self _) ?_
    refine WO.gyes rfl rfl ?_
    obtain ⟨r34, e35, h⟩ := bindS h
    refine WO.callE (S := S32) rfl rfl (F29_ok e35 hot1_1.vw) (fun S36 c37 => ?_)
    have hot0z := hot0z.toz c37
    have hot1_0z := hot1_0z.toz c37
    have hot1_1z := hot1_1z.toz c37
    have ho8z := ho8z.toz c37
    have ho10z := ho10z.toz c37
    have ho23z := ho23z.toz c37
    have hot0 := hot0.to c37
    have hot1_0 := hot1_0.to c37
    have hot1_1 := hot1_1.to c37
    have ho4 := ho4.to c37
    have ho8 := ho8.to c37
    have ho10 := ho10.to c37
    have ho17 := ho17.to c37
    have ho23 := ho23.to c37
    refine WO.gyes rfl rfl ?_
    refine WO.fldS (j := 0) (q := 0) rfl ho4.at0 ho4.ptr rfl rfl rfl (by decide) ?_
    refine WO.gyes rfl rfl ?_
    refine WO.ldW rfl rfl ho4 rfl rfl ho4z (limLe_self _) ?_
    refine WO.gyes rfl rfl ?_
    obtain ⟨r38, e39, h⟩ := bindS h
    refine WO.callE (S := S36) rfl rfl (F30_ok e39 hot1_1.vw) (fun S40 c41 => ?_)
    have hot0z := hot0z.toz c41
    have hot1_0z := hot1_0z.toz c41
    have hot1_1z := hot1_1z.toz c41
    have ho8z := ho8z.toz c41
    have ho10z := ho10z.toz c41
    have ho23z := ho23z.toz c41
    have hot0 := hot0.to c41
    have hot1_0 := hot1_0.to c41
    have hot1_1 := hot1_1.to c41
    have ho4 := ho4.to c41
    have ho8 := ho8.to c41
    have ho10 := ho10.to c41
    have ho17 := ho17.to c41
    have ho23 := ho23.to c41
    refine WO.gyes rfl rfl ?_
    refine WO.bin rfl rfl (by decide) (by decide) rfl ?_
    obtain rfl := someI h
    refine WO.pickF rfl rfl ?_
    refine WO.nil ?_
    exact ⟨S40, rfl, rfl, (c37.trans c41), (Cov.cons rfl (Cov.skip rfl (Cov.skip rfl (Cov.skip rfl (Cov.skip rfl (Cov.skip rfl (Cov.skip rfl (Cov.skip rfl (Cov.skip rfl (Cov.skip rfl (Cov.refl _)))))))))))⟩
  have hot0z := hot0z.toz c46
  have hot1_0z := hot1_0z.toz c46
  have hot1_1z := hot1_1z.toz c46
  have ho8z := ho8z.toz c46
  have ho10z := ho10z.toz c46
  have ho23z := ho23z.toz c46
  have hot0 := hot0.to c46
  have hot1_0 := hot1_0.to c46
  have hot1_1 := hot1_1.to c46
  have ho4 := ho4.to c46
  have ho8 := ho8.to c46
  have ho10 := ho10.to c46
  have ho17 := ho17.to c46
  have ho23 := ho23.to c46
  refine WO.nil ?_
  refine thenL_n ?_
  refine WC.cond rfl (fun q47 => ?_) (fun q47 => ?_)
  · have h := iteT q47 h
    refine WC.seq ?_
    refine WC.region ?_
    refine WO.asg rfl ?_
    refine WO.nil ?_
    refine thenL_n ?_
    refine WC.ret ?_
    refine thenL_r ?_
    obtain rfl := someI h
    exact ⟨.inr rfl, _, _, rfl, rfl, rfl⟩
  · have h := iteF q47 h
    refine WC.skip ?_
    refine thenL_n ?_
    refine WC.seq ?_
    refine WC.seq ?_
    refine WC.region ?_
    refine WO.mv rfl ?_
    obtain ⟨r48, e49, h⟩ := bindS h
    refine WO.callE (S := S45) rfl rfl (F31_ok e49 hot0.vw) (fun S50 c51 => ?_)
    have hot0 := hot0.to c51
    have hot1_0 := hot1_0.to c51
    have hot1_1 := hot1_1.to c51
    have ho4 := ho4.to c51
    have ho8 := ho8.to c51
    have ho10 := ho10.to c51
    have ho17 := ho17.to c51
    have ho23 := ho23.to c51
    refine WO.asg rfl ?_
    refine WO.nil ?_
    refine thenL_n ?_
    refine WC.seq ?_
    refine WC.drawN rfl rfl ?_
    have hot0z := hot0.oz
    have hot1_0z := hot1_0.oz
    have hot1_1z := hot1_1.oz
    have ho4z := ho4.lt
    have ho8z := ho8.oz
    have ho10z := ho10.oz
    have ho17z := ho17.lt
    have ho23z := ho23.oz
    refine WO.mv rfl ?_
    refine WO.mv rfl ?_
    refine WO.bin rfl rfl (by decide) (by decide) rfl ?_
    refine WO.mv rfl ?_
    refine WO.cutB (d := 55) 13 ((r5.2 != r48) || ((r48 != 0) && (decide ((wrapA .i64 ((r5.1.1.length : Int) + (r5.1.2.length : Int))) > 0)))) (fun q53 => ?_) (fun q53 => ?_) ?_
    · refine WO.gno rfl rfl ?_
      refine WO.gno rfl rfl ?_
      refine WO.gno rfl rfl ?_
      refine WO.gskip rfl rfl ?_
      refine WO.gskip rfl rfl ?_
      refine WO.gskip rfl rfl ?_
      refine WO.gskip rfl rfl ?_
      refine WO.gskip rfl rfl ?_
      refine WO.gskip rfl rfl ?_
      refine WO.gskip rfl rfl ?_
      refine WO.gskip rfl rfl ?_
      refine WO.gno rfl rfl ?_
      refine WO.pickT rfl rfl ?_
      refine WO.nil ?_
      exact ⟨rfl, rfl, (Cov.any rfl (orT q53) (Cov.skip rfl (Cov.skip rfl (Cov.skip rfl (Cov.skip rfl (Cov.skip rfl (Cov.skip rfl (Cov.skip rfl (Cov.skip rfl (Cov.skip rfl (Cov.skip rfl (Cov.skip rfl (Cov.skip rfl (Cov.skip rfl (Cov.skip rfl (Cov.refl _))))))))))))))))⟩
    · skip
      refine WO.gyes rfl rfl ?_
      refine WO.mv rfl ?_
      refine WO.gyes rfl rfl ?_
      refine WO.bin rfl rfl (by decide) (by decide) rfl ?_
      refine WO.gyes rfl rfl ?_
      refine WO.mv rfl ?_
      refine WO.cutB (d := 54) 9 ((r48 != 0) && (decide ((wrapA .i64 ((r5.1.1.length : Int) + (r5.1.2.length : Int))) > 0))) (fun q52 => ?_) (fun q52 => ?_) ?_
      · skip
        refine WO.gyes rfl rfl ?_
        refine WO.fldS (j := 0) (q := 0) rfl ho17.at0 ho17.ptr rfl rfl rfl (by decide) ?_
        refine WO.gyes rfl rfl ?_
        refine WO.ldW rfl rfl ho17 rfl rfl ho17z (limLe_self _) ?_
        refine WO.gyes rfl rfl ?_
        refine WO.lenS rfl ho8.slv rfl ?_
        refine WO.gyes rfl rfl ?_
        refine WO.fldS (j := 0) (q := 0) rfl ho17.at0 ho17.ptr rfl rfl rfl (by decide) ?_
        refine WO.gyes rfl rfl ?_
        refine WO.ldW rfl rfl ho17 rfl rfl ho17z (limLe_self _) ?_
        refine WO.gyes rfl rfl ?_
        refine WO.lenS rfl ho10.slv rfl ?_
        refine WO.gyes rfl rfl ?_
        refine WO.bin rfl rfl (by decide) (by decide) rfl ?_
        refine WO.gyes rfl rfl ?_
        refine WO.bin rfl rfl (by decide) (by decide) rfl ?_
        refine WO.gyes rfl rfl ?_
        refine WO.pickT rfl rfl ?_
        refine WO.nil ?_
        exact ⟨rfl, rfl, (Cov.any rfl (andT q52) (Cov.skip rfl (Cov.skip rfl (Cov.skip rfl (Cov.skip rfl (Cov.skip rfl (Cov.skip rfl (Cov.skip rfl (Cov.skip rfl (Cov.skip rfl (Cov.skip rfl (Cov.refl _))))))))))))⟩
      · refine WO.gno rfl rfl ?_
        refine WO.gno rfl rfl ?_
        refine WO.gno rfl rfl ?_
        refine WO.gno rfl rfl ?_
        refine WO.gno rfl rfl ?_
        refine WO.gno rfl rfl ?_
        refine WO.gno rfl rfl ?_
        refine WO.gno rfl rfl ?_
        refine WO.gyes rfl rfl ?_
        refine WO.pickF rfl rfl ?_
        refine WO.nil ?_
        exact ⟨rfl, rfl, (Cov.any rfl (andF q52) (Cov.skip rfl (Cov.skip rfl (Cov.skip rfl (Cov.skip rfl (Cov.skip rfl (Cov.skip rfl (Cov.skip rfl (Cov.skip rfl (Cov.skip rfl (Cov.skip rfl (Cov.refl _))))))))))))⟩
      refine WO.pickF rfl rfl ?_
      refine WO.nil ?_
      exact ⟨rfl, rfl, (Cov.any rfl (orF q53) (Cov.skip rfl (Cov.skip rfl (Cov.skip rfl (Cov.skip rfl (Cov.skip rfl (Cov.refl _)))))))⟩
    refine WO.mv rfl ?_
    obtain ⟨y73, e74, h⟩ := bindS h
    refine WO.cutS (d := 66) (S := S50) 10 y73 (fun q72 => ?_) (fun q72 => ?_) (fun S75 c76 => ?_)
    · have h := e74
      have h := iteT q72 h
      obtain rfl := someI h
      refine WO.gno rfl rfl ?_
      refine WO.gno rfl rfl ?_
      refine WO.gno rfl rfl ?_
      refine WO.gskip rfl rfl ?_
      refine WO.gskip rfl rfl ?_
      refine WO.gskip rfl rfl ?_
      refine WO.gskip rfl rfl ?_
      refine WO.gskip rfl rfl ?_
      refine WO.gno rfl rfl ?_
      refine WO.pickT rfl rfl ?_
      refine WO.nil ?_
      exact ⟨S50, rfl, rfl, Ch.refl _ _, (Cov.cons rfl (Cov.skip rfl (Cov.skip rfl (Cov.skip rfl (Cov.skip rfl (Cov.skip rfl (Cov.skip rfl (Cov.skip rfl (Cov.skip rfl (Cov.skip rfl (Cov.skip rfl (Cov.skip rfl (Cov.refl _)))))))))))))⟩
    · have h := e74
      have h := iteF q72 h
      refine WO.gyes rfl rfl ?_
      refine WO.mv rfl ?_
      refine WO.gyes rfl rfl ?_
      refine WO.bin rfl rfl (by decide) (by decide) rfl ?_
      refine WO.gyes rfl rfl ?_
      refine WO.mv rfl ?_
      obtain ⟨y68, e69, h⟩ := bindS h
      refine WO.cutS (d := 65) (S := S50) 6 y68 (fun q67 => ?_) (fun q67 => ?_) (fun S70 c71 => ?_)
      · have h := e69
        have h := iteT q67 h
        refine WO.gyes rfl rfl ?_
        refine WO.ldWA (sz := 2) (r := [v7, v9]) rfl ho17.at0 ho17 rfl rfl rfl ho17z (limLe_self _) ?_
        refine WO.gyes rfl rfl ?_
        refine WO.mv rfl ?_
        refine WO.gyes rfl rfl ?_
        obtain ⟨r54, e55, h⟩ := bindS h
        refine WO.callG0 (S := S50) [] [] rfl rfl (F33_ok (S0 := S50.up []) e55 hot0.up) (fun _ S60 S61 hb hR => ?_)
        obtain ⟨v56, v58, rfl, hR0, hR1⟩ := hR
        have c62 : Ch 1 S50 S61 := hb.ch [] 1
        have hot0z := hot0z.toz c62
        have hot1_0z := hot1_0z.toz c62
        have hot1_1z := hot1_1z.toz c62
        have ho8z := ho8z.toz c62
        have ho10z := ho10z.toz c62
        have ho23z := ho23z.toz c62
        have hot0 := hot0.to c62
        have hot1_0 := hot1_0.to c62
        have hot1_1 := hot1_1.to c62
        have ho4 := ho4.to c62
        have ho8 := ho8.to c62
        have ho10 := ho10.to c62
        have ho17 := ho17.to c62
        have ho23 := ho23.to c62
        have ho57 := hR0.low.bkS hb rfl
        have ho59 := hR1.low.bkS hb rfl
        refine WO.gyes rfl rfl ?_
        obtain ⟨r63, e64, h⟩ := bindS h
        refine WO.callE (S := S61) rfl rfl (F32_ok e64 ho8.vw ho10.vw ho57.vw ho59.vw) (fun S65 c66 => ?_)
        have hot0z := hot0z.toz c66
        have hot1_0z := hot1_0z.toz c66
        have hot1_1z := hot1_1z.toz c66
        have ho8z := ho8z.toz c66
        have ho10z := ho10z.toz c66
        have ho23z := ho23z.toz c66
        have hot0 := hot0.to c66
        have hot1_0 := hot1_0.to c66
        have hot1_1 := hot1_1.to c66
        have ho4 := ho4.to c66
        have ho8 := ho8.to c66
        have ho10 := ho10.to c66
        have ho17 := ho17.to c66
        have ho23 := ho23.to c66
        have ho57 := ho57.to c66
        have ho59 := ho59.to c66
        refine WO.gyes rfl rfl ?_
        refine WO.do rfl rfl ?_
        obtain rfl := someI h
        refine WO.gyes rfl rfl ?_
        refine WO.pickT rfl rfl ?_
        refine WO.nil ?_
        exact ⟨S65, rfl, rfl, (c62.trans c66), (Cov.cons rfl (Cov.skip rfl (Cov.skip rfl (Cov.skip rfl (Cov.skip rfl (Cov.skip rfl (Cov.skip rfl (Cov.skip rfl (Cov.refl _)))))))))⟩
      · have h := e69
        have h := iteF q67 h
        obtain rfl := someI h
        refine WO.gno rfl rfl ?_
        refine WO.gno rfl rfl ?_
        refine WO.gno rfl rfl ?_
        refine WO.gno rfl rfl ?_
        refine WO.gno rfl rfl ?_
        refine WO.gyes rfl rfl ?_
        refine WO.pickF rfl rfl ?_
        refine WO.nil ?_
        exact ⟨S50, rfl, rfl, Ch.refl _ _, (Cov.cons rfl (Cov.skip rfl (Cov.skip rfl (Cov.skip rfl (Cov.skip rfl (Cov.skip rfl (Cov.skip rfl (Cov.skip rfl (Cov.refl _)))))))))⟩
      have hot0z := hot0z.toz c71
      have hot1_0z := hot1_0z.toz c71
      have hot1_1z := hot1_1z.toz c71
      have ho8z := ho8z.toz c71
      have ho10z := ho10z.toz c71
      have ho23z := ho23z.toz c71
      have hot0 := hot0.to c71
      have hot1_0 := hot1_0.to c71
      have hot1_1 := hot1_1.to c71
      have ho4 := ho4.to c71
      have ho8 := ho8.to c71
      have ho10 := ho10.to c71
      have ho17 := ho17.to c71
      have ho23 := ho23.to c71
      obtain rfl := someI h
      refine WO.pickF rfl rfl ?_
      refine WO.nil ?_
      exact ⟨S70, rfl, rfl, c71, (Cov.cons rfl (Cov.skip rfl (Cov.skip rfl (Cov.skip rfl (Cov.skip rfl (Cov.skip rfl (Cov.refl _)))))))⟩
    have hot0z := hot0z.toz c76
    have hot1_0z := hot1_0z.toz c76
    have hot1_1z := hot1_1z.toz c76
    have ho8z := ho8z.toz c76
    have ho10z := ho10z.toz c76
    have ho23z := ho23z.toz c76
    have hot0 := hot0.to c76
    have hot1_0 := hot1_0.to c76
    have hot1_1 := hot1_1.to c76
    have ho4 := ho4.to c76
    have ho8 := ho8.to c76
    have ho10 := ho10.to c76
    have ho17 := ho17.to c76
    have ho23 := ho23.to c76
    refine WO.nil ?_
    refine thenL_n ?_
    refine WC.cond rfl (fun q77 => ?_) (fun q77 => ?_)
    · have h := iteT q77 h
      refine WC.seq ?_
      refine WC.region ?_
      refine WO.asg rfl ?_
      refine WO.nil ?_
      refine thenL_n ?_
      refine WC.ret ?_
      refine thenL_r ?_
      obtain rfl := someI h
      exact ⟨.inr rfl, _, _, rfl, rfl, rfl⟩
    · have h := iteF q77 h
      refine WC.skip ?_
      refine thenL_n ?_
      refine WC.seq ?_
      refine WC.region ?_
      refine WO.fldS (j := 0) (q := 0) rfl ho4.at0 ho4.ptr rfl rfl rfl (by decide) ?_
      refine WO.ldW rfl rfl ho4 rfl rfl ho4.lt rfl ?_
      obtain ⟨r78, e79, h⟩ := bindS h
      refine WO.callE (S := S75) rfl rfl (F30_ok e79 hot1_0.vw) (fun S80 c81 => ?_)
      have hot0 := hot0.to c81
      have hot1_0 := hot1_0.to c81
      have hot1_1 := hot1_1.to c81
      have ho4 := ho4.to c81
      have ho8 := ho8.to c81
      have ho10 := ho10.to c81
      have ho17 := ho17.to c81
      have ho23 := ho23.to c81
      refine WO.asg rfl ?_
      refine WO.nil ?_
      refine thenL_n ?_
      refine WC.seq ?_
      refine WC.seq ?_
      refine WC.region ?_
      refine WO.mv rfl ?_
      refine WO.bin rfl rfl (by decide) (by decide) rfl ?_
      refine WO.nil ?_
      refine thenL_n ?_
      obtain ⟨b87, e88, h⟩ := bindS h
      refine WC.mono (Q' := (fun b e l' m' n' => e = .normal ∧ ∃ S89 : Cx n, S89.m = m' ∧ S89.n = n' ∧ Cov l' [(3, .sc ((.ptr b1 0))), (7, .sc v22), (8, .sc (.int .i64 r20.2)), (10, .sc (.int .i64 b))] ∧ Bw S89 2 (.ptr b1 0) [vt1_0, vt1_1] ∧ Rd Y22 S89 vt1_0 t1.1 ∧ Rd Y22 S89 vt1_1 t1.2 ∧ Rd Y3 S89 v22 r20.1) b87) ?_ ?_
      · have h := e88
        dsimp only at h ⊢
        refine WC.cond rfl (fun q82 => ?_) (fun q82 => ?_)
        · have h := iteT q82 h
          refine WC.region ?_
          refine WO.fldS (j := 0) (q := 0) rfl ho4.at0 ho4.ptr rfl rfl rfl (by decide) ?_
          refine WO.ldW rfl rfl ho4 rfl rfl ho4.lt rfl ?_
          obtain ⟨r83, e84, h⟩ := bindS h
          refine WO.callE (S := S80) rfl rfl (F30_ok e84 hot1_1.vw) (fun S85 c86 => ?_)
          have hot0 := hot0.to c86
          have hot1_0 := hot1_0.to c86
          have hot1_1 := hot1_1.to c86
          have ho4 := ho4.to c86
          have ho8 := ho8.to c86
          have ho10 := ho10.to c86
          have ho17 := ho17.to c86
          have ho23 := ho23.to c86
          refine WO.asg rfl ?_
          refine WO.nil ?_
          obtain rfl := someI h
          exact ⟨rfl, ⟨S85, rfl, rfl, (Cov.cons rfl (Cov.cons rfl (Cov.cons rfl (Cov.cons rfl (Cov.nil _))))), ho4, hot1_0, hot1_1, ho23⟩⟩
        · have h := iteF q82 h
          refine WC.skip ?_
          obtain rfl := someI h
          exact ⟨rfl, ⟨S80, rfl, rfl, (Cov.cons rfl (Cov.cons rfl (Cov.cons rfl (Cov.cons rfl (Cov.nil _))))), ho4, hot1_0, hot1_1, ho23⟩⟩
      dsimp only
      rintro _ _ _ _ ⟨rfl, ⟨S90, rfl, rfl, hc91, ho4, hot1_0, hot1_1, ho23⟩⟩
      refine thenL_n ?_
      refine WC.cov hc91 ?_
      refine WC.seq ?_
      refine WC.seq ?_
      refine WC.region ?_
      refine WO.mv rfl ?_
      refine WO.bin rfl rfl (by decide) (by decide) rfl ?_
      refine WO.mv rfl ?_
      obtain ⟨y97, e98, h⟩ := bindS h
      refine WO.cutS (d := 84) (S := S90) 7 y97 (fun q96 => ?_) (fun q96 => ?_) (fun S99 c100 => ?_)
      · have h := e98
        have h := iteT q96 h
        refine WO.gyes rfl rfl ?_
        refine WO.fldS (j := 0) (q := 0) rfl ho4.at0 ho4.ptr rfl rfl rfl (by decide) ?_
        refine WO.gyes rfl rfl ?_
        refine WO.ldW rfl rfl ho4 rfl rfl ho4.lt rfl ?_
        refine WO.gyes rfl rfl ?_
        refine WO.fldS (j := 0) (q := 0) rfl ho4.at0 ho4.ptr rfl rfl rfl (by decide) ?_
        refine WO.gyes rfl rfl ?_
        refine WO.ldW rfl rfl ho4 rfl rfl ho4.lt rfl ?_
        refine WO.gyes rfl rfl ?_
        obtain ⟨r92, e93, h⟩ := bindS h
        refine WO.callE (S := S90) rfl rfl (F34_35_ok e93 hot1_0.vw hot1_1.vw) (fun S94 c95 => ?_)
        have ho4 := ho4.to c95
        have hot1_0 := hot1_0.to c95
        have hot1_1 := hot1_1.to c95
        have ho23 := ho23.to c95
        refine WO.gyes rfl rfl ?_
        refine WO.do rfl rfl ?_
        obtain rfl := someI h
        refine WO.pickT rfl rfl ?_
        refine WO.nil ?_
        exact ⟨S94, rfl, rfl, c95, (Cov.cons rfl (Cov.skip rfl (Cov.skip rfl (Cov.skip rfl (Cov.skip rfl (Cov.skip rfl (Cov.skip rfl (Cov.skip rfl (Cov.skip rfl (Cov.refl _))))))))))⟩
      · have h := e98
        have h := iteF q96 h
        obtain rfl := someI h
        refine WO.gno rfl rfl ?_
        refine WO.gno rfl rfl ?_
        refine WO.gno rfl rfl ?_
        refine WO.gno rfl rfl ?_
        refine WO.gno rfl rfl ?_
        refine WO.gno rfl rfl ?_
        refine WO.pickF rfl rfl ?_
        refine WO.nil ?_
        exact ⟨S90, rfl, rfl, Ch.refl _ _, (Cov.cons rfl (Cov.skip rfl (Cov.skip rfl (Cov.skip rfl (Cov.skip rfl (Cov.skip rfl (Cov.skip rfl (Cov.skip rfl (Cov.skip rfl (Cov.refl _))))))))))⟩
      have ho4 := ho4.to c100
      have hot1_0 := hot1_0.to c100
      have hot1_1 := hot1_1.to c100
      have ho23 := ho23.to c100
      refine WO.nil ?_
      refine thenL_n ?_
      obtain ⟨b102, e103, h⟩ := bindS h
      refine WC.mono (Q' := (fun b e l' m' n' => e = .normal ∧ ∃ S104 : Cx n, S104.m = m' ∧ S104.n = n' ∧ Cov l' [(3, .sc ((.ptr b1 0))), (7, .sc v22), (8, .sc (.int .i64 r20.2)), (10, .sc (.int .i64 b))] ∧ Bw S104 2 (.ptr b1 0) [vt1_0, vt1_1] ∧ Rd Y22 S104 vt1_0 t1.1 ∧ Rd Y22 S104 vt1_1 t1.2 ∧ Rd Y3 S104 v22 r20.1) b102) ?_ ?_
      · have h := e103
        dsimp only at h ⊢
        refine WC.cond rfl (fun q101 => ?_) (fun q101 => ?_)
        · have h := iteT q101 h
          refine WC.region ?_
          refine WO.asg rfl ?_
          refine WO.nil ?_
          obtain rfl := someI h
          exact ⟨rfl, ⟨S99, rfl, rfl, (Cov.cons rfl (Cov.cons rfl (Cov.cons rfl (Cov.cons rfl (Cov.nil _))))), ho4, hot1_0, hot1_1, ho23⟩⟩
        · have h := iteF q101 h
          refine WC.skip ?_
          obtain rfl := someI h
          exact ⟨rfl, ⟨S99, rfl, rfl, (Cov.cons rfl (Cov.cons rfl (Cov.cons rfl (Cov.cons rfl (Cov.nil _))))), ho4, hot1_0, hot1_1, ho23⟩⟩
      dsimp only
      rintro _ _ _ _ ⟨rfl, ⟨S105, rfl, rfl, hc106, ho4, hot1_0, hot1_1, ho23⟩⟩
      refine thenL_n ?_
      refine WC.cov hc106 ?_
      refine WC.seq ?_
      refine WC.seq ?_
      refine WC.region ?_
      refine WO.mv rfl ?_
      refine WO.bin rfl rfl (by decide) (by decide) rfl ?_
      refine WO.nil ?_
      refine thenL_n ?_
      refine WC.cond rfl (fun q107 => ?_) (fun q107 => ?_)
      · have h := iteT q107 h
        refine WC.seq ?_
        refine WC.region ?_
        refine WO.mv rfl ?_
        refine WO.mv rfl ?_
        refine WO.bin rfl rfl (by decide) (by decide) rfl ?_
        refine WO.mv rfl ?_
        refine WO.cutB (d := 94) 4 ((r20.2 == b102) && ((r20.1.length : Int) == 0)) (fun q108 => ?_) (fun q108 => ?_) ?_
        · skip
          refine WO.gyes rfl rfl ?_
          refine WO.mv rfl ?_
          refine WO.gyes rfl rfl ?_
          refine WO.lenS rfl ho23.slv rfl ?_
          refine WO.gyes rfl rfl ?_
          refine WO.bin rfl rfl (by decide) (by decide) rfl ?_
          refine WO.pickT rfl rfl ?_
          refine WO.nil ?_
          exact ⟨rfl, rfl, (Cov.any rfl (andT q108) (Cov.skip rfl (Cov.skip rfl (Cov.skip rfl (Cov.skip rfl (Cov.skip rfl (Cov.refl _)))))))⟩
        · refine WO.gno rfl rfl ?_
          refine WO.gno rfl rfl ?_
          refine WO.gno rfl rfl ?_
          refine WO.pickF rfl rfl ?_
          refine WO.nil ?_
          exact ⟨rfl, rfl, (Cov.any rfl (andF q108) (Cov.skip rfl (Cov.skip rfl (Cov.skip rfl (Cov.skip rfl (Cov.skip rfl (Cov.refl _)))))))⟩
        refine WO.asg rfl ?_
        refine WO.nil ?_
        refine thenL_n ?_
        refine WC.ret ?_
        refine thenL_r ?_
        obtain rfl := someI h
        exact ⟨.inr rfl, _, _, rfl, rfl, rfl⟩
      · have h := iteF q107 h
        refine WC.skip ?_
        refine thenL_n ?_
        refine WC.seq ?_
        refine WC.drawN rfl rfl ?_
        have ho4z := ho4.lt
        have hot1_0z := hot1_0.oz
        have hot1_1z := hot1_1.oz
        have ho23z := ho23.oz
        refine WO.mv rfl ?_
        refine WO.bin rfl rfl (by decide) (by decide) rfl ?_
        refine WO.mv rfl ?_
        obtain ⟨y114, e115, h⟩ := bindS h
        refine WO.cutS (d := 101) (S := S105) 4 y114 (fun q113 => ?_) (fun q113 => ?_) (fun S116 c117 => ?_)
        · have h := e115
          have h := iteT q113 h
          refine WO.gyes rfl rfl ?_
          refine WO.mv rfl ?_
          refine WO.gyes rfl rfl ?_
          obtain ⟨r109, e110, h⟩ := bindS h
          refine WO.callE (S := S105) rfl rfl (F31_ok e110 ho23.vw) (fun S111 c112 => ?_)
          have hot1_0z := hot1_0z.toz c112
          have hot1_1z := hot1_1z.toz c112
          have ho23z := ho23z.toz c112
          have ho4 := ho4.to c112
          have hot1_0 := hot1_0.to c112
          have hot1_1 := hot1_1.to c112
          have ho23 := ho23.to c112
          refine WO.gyes rfl rfl ?_
          refine WO.bin rfl rfl (by decide) (by decide) rfl ?_
          obtain rfl := someI h
          refine WO.pickT rfl rfl ?_
          refine WO.nil ?_
          exact ⟨S111, rfl, rfl, c112, (Cov.cons rfl (Cov.skip rfl (Cov.skip rfl (Cov.skip rfl (Cov.skip rfl (Cov.skip rfl (Cov.refl _)))))))⟩
        · have h := e115
          have h := iteF q113 h
          obtain rfl := someI h
          refine WO.gno rfl rfl ?_
          refine WO.gno rfl rfl ?_
          refine WO.gno rfl rfl ?_
          refine WO.pickF rfl rfl ?_
          refine WO.nil ?_
          exact ⟨S105, rfl, rfl, Ch.refl _ _, (Cov.cons rfl (Cov.skip rfl (Cov.skip rfl (Cov.skip rfl (Cov.skip rfl (Cov.skip rfl (Cov.refl _)))))))⟩
        have hot1_0z := hot1_0z.toz c117
        have hot1_1z := hot1_1z.toz c117
        have ho23z := ho23z.toz c117
        have ho4 := ho4.to c117
        have hot1_0 := hot1_0.to c117
        have hot1_1 := hot1_1.to c117
        have ho23 := ho23.to c117
        refine WO.mv rfl ?_
        obtain ⟨y132, e133, h⟩ := bindS h
        refine WO.cutS (d := 107) (S := S116) 5 y132 (fun q131 => ?_) (fun q131 => ?_) (fun S134 c135 => ?_)
        · have h := e133
          have h := iteT q131 h
          refine WO.gyes rfl rfl ?_
          refine WO.mv rfl ?_
          refine WO.gyes rfl rfl ?_
          obtain ⟨r118, e119, h⟩ := bindS h
          refine WO.callG0 (S := S116) [] [] rfl rfl (F33_ok (S0 := S116.up []) e119 ho23.up) (fun _ S124 S125 hb hR => ?_)
          obtain ⟨v120, v122, rfl, hR0, hR1⟩ := hR
          have c126 : Ch 1 S116 S125 := hb.ch [] 1
          have hot1_0z := hot1_0z.toz c126
          have hot1_1z := hot1_1z.toz c126
          have ho23z := ho23z.toz c126
          have ho4 := ho4.to c126
          have hot1_0 := hot1_0.to c126
          have hot1_1 := hot1_1.to c126
          have ho23 := ho23.to c126
          have ho121 := hR0.low.bkS hb rfl
          have ho123 := hR1.low.bkS hb rfl
          refine WO.gyes rfl rfl ?_
          refine WO.ldWA (sz := 2) (r := [vt1_0, vt1_1]) rfl ho4.at0 ho4 rfl rfl rfl ho4z (limLe_self _) ?_
          refine WO.gyes rfl rfl ?_
          obtain ⟨r127, e128, h⟩ := bindS h
          refine WO.callE (S := S125) rfl rfl (F32_ok e128 ho121.vw ho123.vw hot1_0.vw hot1_1.vw) (fun S129 c130 => ?_)
          have hot1_0z := hot1_0z.toz c130
          have hot1_1z := hot1_1z.toz c130
          have ho23z := ho23z.toz c130
          have ho4 := ho4.to c130
          have hot1_0 := hot1_0.to c130
          have hot1_1 := hot1_1.to c130
          have ho23 := ho23.to c130
          have ho121 := ho121.to c130
          have ho123 := ho123.to c130
          obtain rfl := someI h
          refine WO.pickT rfl rfl ?_
          refine WO.nil ?_
          exact ⟨S129, rfl, rfl, (c126.trans c130), (Cov.cons rfl (Cov.skip rfl (Cov.skip rfl (Cov.skip rfl (Cov.skip rfl (Cov.skip rfl (Cov.skip rfl (Cov.refl _))))))))⟩
        · have h := e133
          have h := iteF q131 h
          obtain rfl := someI h
          refine WO.gno rfl rfl ?_
          refine WO.gno rfl rfl ?_
          refine WO.gno rfl rfl ?_
          refine WO.gno rfl rfl ?_
          refine WO.pickF rfl rfl ?_
          refine WO.nil ?_
          exact ⟨S116, rfl, rfl, Ch.refl _ _, (Cov.cons rfl (Cov.skip rfl (Cov.skip rfl (Cov.skip rfl (Cov.skip rfl (Cov.skip rfl (Cov.skip rfl (Cov.refl _))))))))⟩
        have hot1_0z := hot1_0z.toz c135
        have hot1_1z := hot1_1z.toz c135
        have ho23z := ho23z.toz c135
        have ho4 := ho4.to c135
        have hot1_0 := hot1_0.to c135
        have hot1_1 := hot1_1.to c135
        have ho23 := ho23.to c135
        refine WO.asg rfl ?_
        refine WO.nil ?_
        refine thenL_n ?_
        refine WC.ret ?_
        obtain rfl := someI h
        exact ⟨.inr rfl, _, _, rfl, rfl, rfl⟩
end Go.Proofs.Ytihmliblbhjlaaa

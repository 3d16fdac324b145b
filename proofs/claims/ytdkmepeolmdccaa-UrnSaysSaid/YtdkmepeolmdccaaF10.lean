/- The machine answers F10: printed by a program of ours (gen.py). -/
import Derived.Test.YtdkmepeolmdccaaDef
import Derived.Test.YtdkmepeolmdccaaEnv
import Derived.Test.YtdkmepeolmdccaaF30
import Derived.Test.YtdkmepeolmdccaaF31
import Derived.Test.YtdkmepeolmdccaaF68
import Derived.Test.YtdkmepeolmdccaaF69
import Derived.Test.YtdkmepeolmdccaaF70
import Derived.Test.YtdkmepeolmdccaaF71
import Derived.Test.YtdkmepeolmdccaaF72
set_option linter.unusedVariables false
namespace Go.Proofs.Ytdkmepeolmdccaa
open Go.Am
theorem F10.fn : E.fn 10 = some ⟨144, (Try.f10.body.getD .skip), Try.f10.results.toList, []⟩ := rfl
theorem F10_ok {F : Nat} {m : Mem} {n : Nat} {r : Bool} {t0 : List Int} {t1 : Int} {t2 : List Int} {vt0 : SV} {vt2 : SV} (h : F10 F t0 t1 t2 = some r) (kt0 : Vw Y3 n m vt0 t0) (kt2 : Vw Y3 n m vt2 t2) : Ret E n 10 [.sc vt0, .sc (.int .i64 t1), .sc vt2] m n (fun v m' n' => v = .sc (.bool r)) := by
  unfold F10 at h
  refine Ret.walk F10.fn ?_
  refine WC.start fun S0 em en hz => ?_
  have hot0 := kt0.rdS em hz
  have hot2 := kt2.rdS em hz
  refine WC.seq ?_
  refine WC.region ?_
  refine WO.asg rfl ?_
  refine WO.nil ?_
  refine thenL_n ?_
  refine WC.seq ?_
  refine WC.region ?_
  refine WO.mv rfl ?_
  refine WO.mv rfl ?_
  refine WO.mv rfl ?_
  obtain ⟨r1, e2, h⟩ := bindS h
  refine WO.callE (S := S0) rfl rfl (F68_ok e2 hot0.vw hot2.vw) (fun S3 c4 => ?_)
  have hot0 := hot0.to c4
  have hot2 := hot2.to c4
  refine WO.mv rfl ?_
  refine WO.do rfl rfl ?_
  refine WO.do rfl rfl ?_
  refine WO.alS (A := Y26) (S := S3) (z0 := (0, 0)) 2 rfl rfl rfl (fun v5 S6 c7 ho8 => ?_)
  have hot0 := hot0.to c7
  have hot2 := hot2.to c7
  refine WO.stBA (u' := (r1.1.1, r1.1.2)) rfl ho8.at0 rfl ho8 rfl rfl (fun S9 c10 ho8 => ?_)
  have hot0 := hot0.to c10
  have hot2 := hot2.to c10
  refine WO.asg rfl ?_
  refine WO.nil ?_
  refine thenL_n ?_
  refine WC.seq ?_
  refine WC.region ?_
  refine WO.mv rfl ?_
  refine WO.mv rfl ?_
  refine WO.mv rfl ?_
  obtain ⟨r11, e12, h⟩ := bindS h
  refine WO.callF (S := S9) 3 rfl rfl (F69_ok e12 hot0.vw hot2.vw) Lay.flat_fl (fun v13 S15 c16 ho14 => ?_)
  have hot0 := hot0.to c16
  have hot2 := hot2.to c16
  have ho8 := ho8.to c16
  refine WO.mv rfl ?_
  refine WO.do rfl rfl ?_
  refine WO.do rfl rfl ?_
  refine WO.asg rfl ?_
  refine WO.asg rfl ?_
  refine WO.nil ?_
  refine thenL_n ?_
  refine WC.seq ?_
  refine WC.region ?_
  refine WO.mv rfl ?_
  refine WO.mv rfl ?_
  obtain ⟨r17, e18, h⟩ := bindS h
  refine WO.callE (S := S15) rfl rfl (F70_ok e18 hot0.vw) (fun S19 c20 => ?_)
  have hot0 := hot0.to c20
  have hot2 := hot2.to c20
  have ho8 := ho8.to c20
  have ho14 := ho14.to c20
  refine WO.asg rfl ?_
  refine WO.nil ?_
  refine thenL_n ?_
  refine WC.seq ?_
  refine WC.seq ?_
  refine WC.region ?_
  refine WO.mv rfl ?_
  refine WO.mv rfl ?_
  obtain ⟨r21, e22, h⟩ := bindS h
  refine WO.callE (S := S19) rfl rfl (F71_ok e22 hot0.vw) (fun S23 c24 => ?_)
  have hot0 := hot0.to c24
  have hot2 := hot2.to c24
  have ho8 := ho8.to c24
  have ho14 := ho14.to c24
  refine WO.mv rfl ?_
  refine WO.bin rfl rfl (by decide) (by decide) rfl ?_
  refine WO.nil ?_
  refine thenL_n ?_
  refine WC.cond rfl (fun q25 => ?_) (fun q25 => ?_)
  · have h := iteT q25 h
    refine WC.seq ?_
    refine WC.region ?_
    refine WO.asg rfl ?_
    refine WO.nil ?_
    refine thenL_n ?_
    refine WC.ret ?_
    refine thenL_r ?_
    obtain rfl := someI h
    exact ⟨.inr rfl, _, _, rfl, rfl, rfl⟩
  · have h := iteF q25 h
    refine WC.skip ?_
    refine thenL_n ?_
    refine WC.seq ?_
    refine WC.seq ?_
    refine WC.region ?_
    refine WO.mv rfl ?_
    refine WO.bin rfl rfl (by decide) (by decide) rfl ?_
    refine WO.mv rfl ?_
    refine WO.cutB (d := 45) 4 ((r17 == 0) && (decide ((t2.length : Int) > 12))) (fun q26 => ?_) (fun q26 => ?_) ?_
    · skip
      refine WO.gyes rfl rfl ?_
      refine WO.mv rfl ?_
      refine WO.gyes rfl rfl ?_
      refine WO.lenS rfl hot2.slv rfl ?_
      refine WO.gyes rfl rfl ?_
      refine WO.bin rfl rfl (by decide) (by decide) rfl ?_
      refine WO.pickT rfl rfl ?_
      refine WO.nil ?_
      exact ⟨rfl, rfl, (Cov.any rfl (andT q26) (Cov.skip rfl (Cov.skip rfl (Cov.skip rfl (Cov.skip rfl (Cov.skip rfl (Cov.refl _)))))))⟩
    · refine WO.gno rfl rfl ?_
      refine WO.gno rfl rfl ?_
      refine WO.gno rfl rfl ?_
      refine WO.pickF rfl rfl ?_
      refine WO.nil ?_
      exact ⟨rfl, rfl, (Cov.any rfl (andF q26) (Cov.skip rfl (Cov.skip rfl (Cov.skip rfl (Cov.skip rfl (Cov.skip rfl (Cov.refl _)))))))⟩
    refine WO.nil ?_
    refine thenL_n ?_
    obtain ⟨b28, e29, h⟩ := bindS h
    refine WC.mono (Q' := (fun b e l' m' n' => e = .normal ∧ ∃ S30 : Cx n, S30.m = m' ∧ S30.n = n' ∧ Cov l' [(0, .sc vt0), (1, .sc (.int .i64 t1)), (2, .sc vt2), (7, .sc v5), (8, .sc (.int .i64 r1.2)), (9, .sc v13), (10, .sc (.int .i64 r11.2)), (11, .sc (.int .i64 b))] ∧ Rd Y3 S30 vt0 t0 ∧ Rd Y3 S30 vt2 t2 ∧ Bk Y26 S30 2 v5 ((r1.1.1, r1.1.2)) ∧ Ow Y3 S30 3 v13 r11.1) b28) ?_ ?_
    · have h := e29
      dsimp only at h ⊢
      refine WC.cond rfl (fun q27 => ?_) (fun q27 => ?_)
      · have h := iteT q27 h
        refine WC.region ?_
        refine WO.asg rfl ?_
        refine WO.nil ?_
        obtain rfl := someI h
        exact ⟨rfl, ⟨S23, rfl, rfl, (Cov.cons rfl (Cov.cons rfl (Cov.cons rfl (Cov.cons rfl (Cov.cons rfl (Cov.cons rfl (Cov.cons rfl (Cov.cons rfl (Cov.nil _))))))))), hot0, hot2, ho8, ho14⟩⟩
      · have h := iteF q27 h
        refine WC.skip ?_
        obtain rfl := someI h
        exact ⟨rfl, ⟨S23, rfl, rfl, (Cov.cons rfl (Cov.cons rfl (Cov.cons rfl (Cov.cons rfl (Cov.cons rfl (Cov.cons rfl (Cov.cons rfl (Cov.cons rfl (Cov.nil _))))))))), hot0, hot2, ho8, ho14⟩⟩
    dsimp only
    rintro _ _ _ _ ⟨rfl, ⟨S31, rfl, rfl, hc32, hot0, hot2, ho8, ho14⟩⟩
    refine thenL_n ?_
    refine WC.cov hc32 ?_
    refine WC.seq ?_
    refine WC.seq ?_
    refine WC.region ?_
    refine WO.mv rfl ?_
    refine WO.bin rfl rfl (by decide) (by decide) rfl ?_
    refine WO.nil ?_
    refine thenL_n ?_
    refine WC.cond rfl (fun q33 => ?_) (fun q33 => ?_)
    · have h := iteT q33 h
      refine WC.seq ?_
      refine WC.region ?_
      refine WO.mv rfl ?_
      refine WO.mv rfl ?_
      refine WO.bin rfl rfl (by decide) (by decide) rfl ?_
      refine WO.mv rfl ?_
      refine WO.cutB (d := 55) 4 ((r1.2 == b28) && (r11.2 == b28)) (fun q34 => ?_) (fun q34 => ?_) ?_
      · skip
        refine WO.gyes rfl rfl ?_
        refine WO.mv rfl ?_
        refine WO.gyes rfl rfl ?_
        refine WO.mv rfl ?_
        refine WO.gyes rfl rfl ?_
        refine WO.bin rfl rfl (by decide) (by decide) rfl ?_
        refine WO.pickT rfl rfl ?_
        refine WO.nil ?_
        exact ⟨rfl, rfl, (Cov.any rfl (andT q34) (Cov.skip rfl (Cov.skip rfl (Cov.skip rfl (Cov.skip rfl (Cov.skip rfl (Cov.refl _)))))))⟩
      · refine WO.gno rfl rfl ?_
        refine WO.gno rfl rfl ?_
        refine WO.gno rfl rfl ?_
        refine WO.pickF rfl rfl ?_
        refine WO.nil ?_
        exact ⟨rfl, rfl, (Cov.any rfl (andF q34) (Cov.skip rfl (Cov.skip rfl (Cov.skip rfl (Cov.skip rfl (Cov.skip rfl (Cov.refl _)))))))⟩
      refine WO.mv rfl ?_
      refine WO.cutB (d := 60) 4 (((r1.2 == b28) && (r11.2 == b28)) && (((r1.1.1, r1.1.2)).1 == 0 && (((r1.1.1, r1.1.2)).2 == 0 && true))) (fun q35 => ?_) (fun q35 => ?_) ?_
      · skip
        refine WO.gyes rfl rfl ?_
        refine WO.ldBA (j := 0) rfl ho8.at0 ho8 rfl rfl ?_
        refine WO.gyes rfl rfl ?_
        refine WO.do rfl rfl ?_
        refine WO.gyes rfl rfl ?_
        refine WO.eqA rfl rfl rfl rfl (eqFields_cons rfl rfl rfl eqC_int (eqFields_cons rfl rfl rfl eqC_int rfl)) ?_
        refine WO.pickT rfl rfl ?_
        refine WO.nil ?_
        exact ⟨rfl, rfl, (Cov.any rfl (andT q35) (Cov.skip rfl (Cov.skip rfl (Cov.skip rfl (Cov.skip rfl (Cov.skip rfl (Cov.refl _)))))))⟩
      · refine WO.gno rfl rfl ?_
        refine WO.gno rfl rfl ?_
        refine WO.gno rfl rfl ?_
        refine WO.pickF rfl rfl ?_
        refine WO.nil ?_
        exact ⟨rfl, rfl, (Cov.any rfl (andF q35) (Cov.skip rfl (Cov.skip rfl (Cov.skip rfl (Cov.skip rfl (Cov.skip rfl (Cov.refl _)))))))⟩
      refine WO.mv rfl ?_
      refine WO.cutB (d := 65) 4 ((((r1.2 == b28) && (r11.2 == b28)) && (((r1.1.1, r1.1.2)).1 == 0 && (((r1.1.1, r1.1.2)).2 == 0 && true))) && ((r11.1.length : Int) == 0)) (fun q36 => ?_) (fun q36 => ?_) ?_
      · skip
        refine WO.gyes rfl rfl ?_
        refine WO.mv rfl ?_
        refine WO.gyes rfl rfl ?_
        refine WO.lenS rfl ho14.slv rfl ?_
        refine WO.gyes rfl rfl ?_
        refine WO.bin rfl rfl (by decide) (by decide) rfl ?_
        refine WO.pickT rfl rfl ?_
        refine WO.nil ?_
        exact ⟨rfl, rfl, (Cov.any rfl (andT q36) (Cov.skip rfl (Cov.skip rfl (Cov.skip rfl (Cov.skip rfl (Cov.skip rfl (Cov.refl _)))))))⟩
      · refine WO.gno rfl rfl ?_
        refine WO.gno rfl rfl ?_
        refine WO.gno rfl rfl ?_
        refine WO.pickF rfl rfl ?_
        refine WO.nil ?_
        exact ⟨rfl, rfl, (Cov.any rfl (andF q36) (Cov.skip rfl (Cov.skip rfl (Cov.skip rfl (Cov.skip rfl (Cov.skip rfl (Cov.refl _)))))))⟩
      refine WO.asg rfl ?_
      refine WO.nil ?_
      refine thenL_n ?_
      refine WC.ret ?_
      refine thenL_r ?_
      obtain rfl := someI h
      exact ⟨.inr rfl, _, _, rfl, rfl, rfl⟩
    · have h := iteF q33 h
      refine WC.skip ?_
      refine thenL_n ?_
      refine WC.seq ?_
      refine WC.region ?_
      refine WO.mv rfl ?_
      refine WO.mv rfl ?_
      refine WO.mv rfl ?_
      obtain ⟨r37, e38, h⟩ := bindS h
      refine WO.callE (S := S31) rfl rfl (F72_ok e38 hot0.vw hot2.vw) (fun S39 c40 => ?_)
      have hot0 := hot0.to c40
      have hot2 := hot2.to c40
      have ho8 := ho8.to c40
      have ho14 := ho14.to c40
      refine WO.mv rfl ?_
      refine WO.do rfl rfl ?_
      refine WO.do rfl rfl ?_
      refine WO.alS (A := Y26) (S := S39) (z0 := (0, 0)) 4 rfl rfl rfl (fun v41 S42 c43 ho44 => ?_)
      have hot0 := hot0.to c43
      have hot2 := hot2.to c43
      have ho8 := ho8.to c43
      have ho14 := ho14.to c43
      refine WO.stBA (u' := (r37.1.1, r37.1.2)) rfl ho44.at0 rfl ho44 rfl rfl (fun S45 c46 ho44 => ?_)
      have hot0 := hot0.to c46
      have hot2 := hot2.to c46
      have ho8 := ho8.to c46
      have ho14 := ho14.to c46
      refine WO.asg rfl ?_
      refine WO.nil ?_
      refine thenL_n ?_
      refine WC.seq ?_
      refine WC.seq ?_
      refine WC.region ?_
      refine WO.mv rfl ?_
      refine WO.mv rfl ?_
      refine WO.bin rfl rfl (by decide) (by decide) rfl ?_
      refine WO.mv rfl ?_
      refine WO.cutB (d := 84) 8 ((r1.2 != r37.2) || ((r37.2 != 0) && (!(((r1.1.1, r1.1.2)).1 == 0 && (((r1.1.1, r1.1.2)).2 == 0 && true))))) (fun q48 => ?_) (fun q48 => ?_) ?_
      · refine WO.gno rfl rfl ?_
        refine WO.gno rfl rfl ?_
        refine WO.gno rfl rfl ?_
        refine WO.gskip rfl rfl ?_
        refine WO.gskip rfl rfl ?_
        refine WO.gskip rfl rfl ?_
        refine WO.gno rfl rfl ?_
        refine WO.pickT rfl rfl ?_
        refine WO.nil ?_
        exact ⟨rfl, rfl, (Cov.any rfl (orT q48) (Cov.skip rfl (Cov.skip rfl (Cov.skip rfl (Cov.skip rfl (Cov.skip rfl (Cov.skip rfl (Cov.skip rfl (Cov.skip rfl (Cov.skip rfl (Cov.refl _)))))))))))⟩
      · skip
        refine WO.gyes rfl rfl ?_
        refine WO.mv rfl ?_
        refine WO.gyes rfl rfl ?_
        refine WO.bin rfl rfl (by decide) (by decide) rfl ?_
        refine WO.gyes rfl rfl ?_
        refine WO.mv rfl ?_
        refine WO.cutB (d := 83) 4 ((r37.2 != 0) && (!(((r1.1.1, r1.1.2)).1 == 0 && (((r1.1.1, r1.1.2)).2 == 0 && true)))) (fun q47 => ?_) (fun q47 => ?_) ?_
        · skip
          refine WO.gyes rfl rfl ?_
          refine WO.ldBA (j := 0) rfl ho8.at0 ho8 rfl rfl ?_
          refine WO.gyes rfl rfl ?_
          refine WO.do rfl rfl ?_
          refine WO.gyes rfl rfl ?_
          refine WO.neA rfl rfl rfl rfl (eqFields_cons rfl rfl rfl eqC_int (eqFields_cons rfl rfl rfl eqC_int rfl)) ?_
          refine WO.gyes rfl rfl ?_
          refine WO.pickT rfl rfl ?_
          refine WO.nil ?_
          exact ⟨rfl, rfl, (Cov.any rfl (andT q47) (Cov.skip rfl (Cov.skip rfl (Cov.skip rfl (Cov.skip rfl (Cov.skip rfl (Cov.refl _)))))))⟩
        · refine WO.gno rfl rfl ?_
          refine WO.gno rfl rfl ?_
          refine WO.gno rfl rfl ?_
          refine WO.gyes rfl rfl ?_
          refine WO.pickF rfl rfl ?_
          refine WO.nil ?_
          exact ⟨rfl, rfl, (Cov.any rfl (andF q47) (Cov.skip rfl (Cov.skip rfl (Cov.skip rfl (Cov.skip rfl (Cov.skip rfl (Cov.refl _)))))))⟩
        refine WO.pickF rfl rfl ?_
        refine WO.nil ?_
        exact ⟨rfl, rfl, (Cov.any rfl (orF q48) (Cov.skip rfl (Cov.skip rfl (Cov.skip rfl (Cov.skip rfl (Cov.skip rfl (Cov.refl _)))))))⟩
      refine WO.mv rfl ?_
      refine WO.cutB (d := 93) 8 (((r1.2 != r37.2) || ((r37.2 != 0) && (!(((r1.1.1, r1.1.2)).1 == 0 && (((r1.1.1, r1.1.2)).2 == 0 && true))))) || ((r37.2 == 0) && (!(((r1.1.1, r1.1.2)).1 == ((r37.1.1, r37.1.2)).1 && (((r1.1.1, r1.1.2)).2 == ((r37.1.1, r37.1.2)).2 && true))))) (fun q50 => ?_) (fun q50 => ?_) ?_
      · refine WO.gno rfl rfl ?_
        refine WO.gno rfl rfl ?_
        refine WO.gno rfl rfl ?_
        refine WO.gskip rfl rfl ?_
        refine WO.gskip rfl rfl ?_
        refine WO.gskip rfl rfl ?_
        refine WO.gno rfl rfl ?_
        refine WO.pickT rfl rfl ?_
        refine WO.nil ?_
        exact ⟨rfl, rfl, (Cov.any rfl (orT q50) (Cov.skip rfl (Cov.skip rfl (Cov.skip rfl (Cov.skip rfl (Cov.skip rfl (Cov.skip rfl (Cov.skip rfl (Cov.skip rfl (Cov.skip rfl (Cov.refl _)))))))))))⟩
      · skip
        refine WO.gyes rfl rfl ?_
        refine WO.mv rfl ?_
        refine WO.gyes rfl rfl ?_
        refine WO.bin rfl rfl (by decide) (by decide) rfl ?_
        refine WO.gyes rfl rfl ?_
        refine WO.mv rfl ?_
        refine WO.cutB (d := 92) 4 ((r37.2 == 0) && (!(((r1.1.1, r1.1.2)).1 == ((r37.1.1, r37.1.2)).1 && (((r1.1.1, r1.1.2)).2 == ((r37.1.1, r37.1.2)).2 && true)))) (fun q49 => ?_) (fun q49 => ?_) ?_
        · skip
          refine WO.gyes rfl rfl ?_
          refine WO.ldBA (j := 0) rfl ho8.at0 ho8 rfl rfl ?_
          refine WO.gyes rfl rfl ?_
          refine WO.ldBA (j := 0) rfl ho44.at0 ho44 rfl rfl ?_
          refine WO.gyes rfl rfl ?_
          refine WO.neA rfl rfl rfl rfl (eqFields_cons rfl rfl rfl eqC_int (eqFields_cons rfl rfl rfl eqC_int rfl)) ?_
          refine WO.gyes rfl rfl ?_
          refine WO.pickT rfl rfl ?_
          refine WO.nil ?_
          exact ⟨rfl, rfl, (Cov.any rfl (andT q49) (Cov.skip rfl (Cov.skip rfl (Cov.skip rfl (Cov.skip rfl (Cov.skip rfl (Cov.refl _)))))))⟩
        · refine WO.gno rfl rfl ?_
          refine WO.gno rfl rfl ?_
          refine WO.gno rfl rfl ?_
          refine WO.gyes rfl rfl ?_
          refine WO.pickF rfl rfl ?_
          refine WO.nil ?_
          exact ⟨rfl, rfl, (Cov.any rfl (andF q49) (Cov.skip rfl (Cov.skip rfl (Cov.skip rfl (Cov.skip rfl (Cov.skip rfl (Cov.refl _)))))))⟩
        refine WO.pickF rfl rfl ?_
        refine WO.nil ?_
        exact ⟨rfl, rfl, (Cov.any rfl (orF q50) (Cov.skip rfl (Cov.skip rfl (Cov.skip rfl (Cov.skip rfl (Cov.skip rfl (Cov.refl _)))))))⟩
      refine WO.nil ?_
      refine thenL_n ?_
      refine WC.cond rfl (fun q51 => ?_) (fun q51 => ?_)
      · have h := iteT q51 h
        refine WC.seq ?_
        refine WC.region ?_
        refine WO.asg rfl ?_
        refine WO.nil ?_
        refine thenL_n ?_
        refine WC.ret ?_
        refine thenL_r ?_
        obtain rfl := someI h
        exact ⟨.inr rfl, _, _, rfl, rfl, rfl⟩
      · have h := iteF q51 h
        refine WC.skip ?_
        refine thenL_n ?_
        refine WC.seq ?_
        refine WC.region ?_
        refine WO.mv rfl ?_
        obtain ⟨r52, e53, h⟩ := bindS h
        refine WO.callF (S := S45) 5 rfl rfl (F30_ok e53 hot0.vw) Lay.flat_fl (fun v54 S56 c57 ho55 => ?_)
        have hot0 := hot0.to c57
        have hot2 := hot2.to c57
        have ho8 := ho8.to c57
        have ho14 := ho14.to c57
        have ho44 := ho44.to c57
        refine WO.asg rfl ?_
        refine WO.nil ?_
        refine thenL_n ?_
        refine WC.seq ?_
        refine WC.seq ?_
        refine WC.region ?_
        refine WO.mv rfl ?_
        refine WO.lenS rfl hot2.slv rfl ?_
        refine WO.mv rfl ?_
        refine WO.nil ?_
        refine thenL_n ?_
        refine WC.block ?_
        obtain ⟨b81, e82, h⟩ := bindS h
        refine WC.loopD e82 (fun s58 l' m' n' => ∃ S59 : Cx n, S59.m = m' ∧ S59.n = n' ∧ Cov l' [(1, .sc (.int .i64 t1)), (9, .sc v13), (10, .sc (.int .i64 r11.2)), (14, .sc v54), (96, .sc vt2), (97, .sc (.int .i64 ((t2.length : Int)))), (98, .sc (.int .i64 s58.1))] ∧ Ow Y3 S59 3 v13 r11.1 ∧ Ow Y3 S59 5 v54 s58.2 ∧ Rd Y3 S59 vt2 t2) (fun b e l' m' n' => (match b with | .inl b60 => e = .exit 0 ∧ ∃ S61 : Cx n, S61.m = m' ∧ S61.n = n' ∧ Cov l' [(9, .sc v13), (10, .sc (.int .i64 r11.2)), (14, .sc v54)] ∧ Ow Y3 S61 3 v13 r11.1 ∧ Ow Y3 S61 5 v54 b60 | .inr b60 => e = .ret ∧ ∃ S62 : Cx n, S62.m = m' ∧ S62.n = n' ∧ Cov l' [(6, .sc (.bool b60))])) (by exact ⟨S56, rfl, rfl, (Cov.cons rfl (Cov.cons rfl (Cov.cons rfl (Cov.cons rfl (Cov.cons rfl (Cov.cons rfl (Cov.cons rfl (Cov.nil _)))))))), ho14, ho55, hot2⟩) ?_ ?_
        · clear h
          rintro s58 q _ _ _ ⟨S63, rfl, rfl, hc64, ho14, ho55, hot2⟩ h
          unfold F10_l0 at h
          refine WC.cov hc64 ?_
          refine WC.seq ?_
          refine WC.region ?_
          refine WO.bin rfl rfl (by decide) (by decide) rfl ?_
          refine WO.nil ?_
          refine thenL_n ?_
          refine WC.seq ?_
          refine WC.cond rfl (fun q65 => ?_) (fun q65 => ?_)
          · have h := iteT q65 h
            refine WC.skip ?_
            refine thenL_n ?_
            refine WC.seq ?_
            refine WC.block ?_
            refine WC.seq ?_
            refine WC.region ?_
            obtain ⟨x66, e67, h⟩ := bindS h
            refine WO.ixS rfl rfl hot2.slv (at?_lt e67) rfl ?_
            refine WO.ldF rfl hot2.ro (fun _ hi => hi) (at?_get e67) rfl rfl rfl ?_
            refine WO.asg rfl ?_
            refine WO.nil ?_
            refine thenL_n ?_
            refine WC.seq ?_
            refine WC.seq ?_
            refine WC.region ?_
            refine WO.mv rfl ?_
            refine WO.bin rfl rfl (by decide) (by decide) rfl ?_
            refine WO.mv rfl ?_
            refine WO.cutB (d := 109) 5 ((decide (x66 < 0)) || (decide (x66 ≥ (s58.2.length : Int)))) (fun q68 => ?_) (fun q68 => ?_) ?_
            · refine WO.gno rfl rfl ?_
              refine WO.gno rfl rfl ?_
              refine WO.gno rfl rfl ?_
              refine WO.gno rfl rfl ?_
              refine WO.pickT rfl rfl ?_
              refine WO.nil ?_
              exact ⟨rfl, rfl, (Cov.any rfl (orT q68) (Cov.skip rfl (Cov.skip rfl (Cov.skip rfl (Cov.skip rfl (Cov.skip rfl (Cov.skip rfl (Cov.refl _))))))))⟩
            · skip
              refine WO.gyes rfl rfl ?_
              refine WO.mv rfl ?_
              refine WO.gyes rfl rfl ?_
              refine WO.mv rfl ?_
              refine WO.gyes rfl rfl ?_
              refine WO.lenS rfl ho55.slv rfl ?_
              refine WO.gyes rfl rfl ?_
              refine WO.bin rfl rfl (by decide) (by decide) rfl ?_
              refine WO.pickF rfl rfl ?_
              refine WO.nil ?_
              exact ⟨rfl, rfl, (Cov.any rfl (orF q68) (Cov.skip rfl (Cov.skip rfl (Cov.skip rfl (Cov.skip rfl (Cov.skip rfl (Cov.skip rfl (Cov.refl _))))))))⟩
            refine WO.nil ?_
            refine thenL_n ?_
            refine WC.cond rfl (fun q69 => ?_) (fun q69 => ?_)
            · have h := iteT q69 h
              refine WC.seq ?_
              refine WC.region ?_
              refine WO.mv rfl ?_
              refine WO.bin rfl rfl (by decide) (by decide) rfl ?_
              refine WO.mv rfl ?_
              refine WO.cutB (d := 116) 4 ((r11.2 == 1) && ((r11.1.length : Int) == 0)) (fun q70 => ?_) (fun q70 => ?_) ?_
              · skip
                refine WO.gyes rfl rfl ?_
                refine WO.mv rfl ?_
                refine WO.gyes rfl rfl ?_
                refine WO.lenS rfl ho14.slv rfl ?_
                refine WO.gyes rfl rfl ?_
                refine WO.bin rfl rfl (by decide) (by decide) rfl ?_
                refine WO.pickT rfl rfl ?_
                refine WO.nil ?_
                exact ⟨rfl, rfl, (Cov.any rfl (andT q70) (Cov.skip rfl (Cov.skip rfl (Cov.skip rfl (Cov.skip rfl (Cov.skip rfl (Cov.refl _)))))))⟩
              · refine WO.gno rfl rfl ?_
                refine WO.gno rfl rfl ?_
                refine WO.gno rfl rfl ?_
                refine WO.pickF rfl rfl ?_
                refine WO.nil ?_
                exact ⟨rfl, rfl, (Cov.any rfl (andF q70) (Cov.skip rfl (Cov.skip rfl (Cov.skip rfl (Cov.skip rfl (Cov.skip rfl (Cov.refl _)))))))⟩
              refine WO.asg rfl ?_
              refine WO.nil ?_
              refine thenL_n ?_
              refine WC.ret ?_
              refine thenL_r ?_
              refine blockL_r ?_
              refine thenL_r ?_
              refine thenL_r ?_
              obtain rfl := someI h
              exact ⟨_, rfl, rfl, ⟨S63, rfl, rfl, (Cov.cons rfl (Cov.nil _))⟩⟩
            · have h := iteF q69 h
              refine WC.skip ?_
              refine thenL_n ?_
              refine WC.seq ?_
              refine WC.seq ?_
              refine WC.region ?_
              refine WO.mv rfl ?_
              refine WO.mv rfl ?_
              obtain ⟨x71, e72, h⟩ := bindS h
              refine WO.ixS rfl rfl ho55.slv (at?_lt e72) rfl ?_
              refine WO.ldF rfl ho55.ro (fun _ hi => hi) (at?_get e72) rfl rfl rfl ?_
              refine WO.bin rfl rfl (by decide) (by decide) rfl ?_
              refine WO.nil ?_
              refine thenL_n ?_
              refine WC.cond rfl (fun q73 => ?_) (fun q73 => ?_)
              · have h := iteT q73 h
                refine WC.seq ?_
                refine WC.region ?_
                refine WO.mv rfl ?_
                refine WO.bin rfl rfl (by decide) (by decide) rfl ?_
                refine WO.mv rfl ?_
                refine WO.cutB (d := 128) 4 ((r11.2 == 4) && ((r11.1.length : Int) == 0)) (fun q74 => ?_) (fun q74 => ?_) ?_
                · skip
                  refine WO.gyes rfl rfl ?_
                  refine WO.mv rfl ?_
                  refine WO.gyes rfl rfl ?_
                  refine WO.lenS rfl ho14.slv rfl ?_
                  refine WO.gyes rfl rfl ?_
                  refine WO.bin rfl rfl (by decide) (by decide) rfl ?_
                  refine WO.pickT rfl rfl ?_
                  refine WO.nil ?_
                  exact ⟨rfl, rfl, (Cov.any rfl (andT q74) (Cov.skip rfl (Cov.skip rfl (Cov.skip rfl (Cov.skip rfl (Cov.skip rfl (Cov.refl _)))))))⟩
                · refine WO.gno rfl rfl ?_
                  refine WO.gno rfl rfl ?_
                  refine WO.gno rfl rfl ?_
                  refine WO.pickF rfl rfl ?_
                  refine WO.nil ?_
                  exact ⟨rfl, rfl, (Cov.any rfl (andF q74) (Cov.skip rfl (Cov.skip rfl (Cov.skip rfl (Cov.skip rfl (Cov.skip rfl (Cov.refl _)))))))⟩
                refine WO.asg rfl ?_
                refine WO.nil ?_
                refine thenL_n ?_
                refine WC.ret ?_
                refine thenL_r ?_
                refine blockL_r ?_
                refine thenL_r ?_
                refine thenL_r ?_
                obtain rfl := someI h
                exact ⟨_, rfl, rfl, ⟨S63, rfl, rfl, (Cov.cons rfl (Cov.nil _))⟩⟩
              · have h := iteF q73 h
                refine WC.skip ?_
                refine thenL_n ?_
                refine WC.region ?_
                refine WO.mv rfl ?_
                refine WO.mv rfl ?_
                obtain ⟨x75, e76, h⟩ := bindS h
                refine WO.ixS rfl rfl ho55.slv (at?_lt e76) rfl ?_
                refine WO.ldF rfl ho55.ro (fun _ hi => hi) (at?_get e76) rfl rfl rfl ?_
                refine WO.mv rfl ?_
                refine WO.bin rfl rfl (by decide) (by decide) rfl ?_
                obtain ⟨u77, e78, h⟩ := bindS h
                refine WO.ixS rfl rfl ho55.slv (ck_some e78) rfl ?_
                refine WO.st1 (u' := (wrapA .i64 (x75 + t1))) rfl rfl ho55 (ck_nat e78) rfl rfl (fun S79 c80 ho55 => ?_)
                have ho14 := ho14.to c80
                have hot2 := hot2.to c80
                refine WO.nil ?_
                refine blockL_n ?_
                refine thenL_n ?_
                refine WC.region ?_
                refine WO.bin rfl rfl (by decide) (by decide) rfl ?_
                refine WO.mv rfl ?_
                refine WO.nil ?_
                refine thenL_n ?_
                obtain rfl := someI h
                exact ⟨_, rfl, ⟨S79, rfl, rfl, (Cov.cons rfl (Cov.cons rfl (Cov.cons rfl (Cov.cons rfl (Cov.cons rfl (Cov.cons rfl (Cov.cons rfl (Cov.nil _)))))))), ho14, ho55, hot2⟩⟩
          · have h := iteF q65 h
            refine WC.exit ?_
            refine thenL_e ?_
            refine thenL_e ?_
            obtain rfl := someI h
            exact ⟨_, rfl, rfl, ⟨S63, rfl, rfl, (Cov.cons rfl (Cov.cons rfl (Cov.cons rfl (Cov.nil _)))), ho14, ho55⟩⟩
        cases b81 with
        | inl b83 =>
          simp only at h
          rintro _ _ _ _ ⟨rfl, ⟨S84, rfl, rfl, hc85, ho14, ho55⟩⟩
          refine blockL_s ?_
          refine thenL_n ?_
          refine WC.cov hc85 ?_
          refine WC.seq ?_
          refine WC.region ?_
          refine WO.mv rfl ?_
          refine WO.bin rfl rfl (by decide) (by decide) rfl ?_
          refine WO.mv rfl ?_
          obtain ⟨y91, e92, h⟩ := bindS h
          refine WO.cutS (d := 143) (S := S84) 4 y91 (fun q90 => ?_) (fun q90 => ?_) (fun S93 c94 => ?_)
          · have h := e92
            have h := iteT q90 h
            refine WO.gyes rfl rfl ?_
            refine WO.mv rfl ?_
            refine WO.gyes rfl rfl ?_
            refine WO.mv rfl ?_
            refine WO.gyes rfl rfl ?_
            obtain ⟨r86, e87, h⟩ := bindS h
            refine WO.callE (S := S84) rfl rfl (F31_ok e87 ho14.vw ho55.vw) (fun S88 c89 => ?_)
            have ho14 := ho14.to c89
            have ho55 := ho55.to c89
            obtain rfl := someI h
            refine WO.pickT rfl rfl ?_
            refine WO.nil ?_
            exact ⟨S88, rfl, rfl, c89, (Cov.cons rfl (Cov.skip rfl (Cov.skip rfl (Cov.skip rfl (Cov.skip rfl (Cov.skip rfl (Cov.refl _)))))))⟩
          · have h := e92
            have h := iteF q90 h
            obtain rfl := someI h
            refine WO.gno rfl rfl ?_
            refine WO.gno rfl rfl ?_
            refine WO.gno rfl rfl ?_
            refine WO.pickF rfl rfl ?_
            refine WO.nil ?_
            exact ⟨S84, rfl, rfl, Ch.refl _ _, (Cov.cons rfl (Cov.skip rfl (Cov.skip rfl (Cov.skip rfl (Cov.skip rfl (Cov.skip rfl (Cov.refl _)))))))⟩
          have ho14 := ho14.to c94
          have ho55 := ho55.to c94
          refine WO.asg rfl ?_
          refine WO.nil ?_
          refine thenL_n ?_
          refine WC.ret ?_
          obtain rfl := someI h
          exact ⟨.inr rfl, _, _, rfl, rfl, rfl⟩
        | inr b83 =>
          simp only at h
          rintro _ _ _ _ ⟨rfl, ⟨S95, rfl, rfl, hc96⟩⟩
          refine blockL_r ?_
          refine thenL_r ?_
          obtain rfl := someI h
          exact ⟨.inr rfl, _, _, (resK_cov hc96 rfl), rfl, rfl⟩
end Go.Proofs.Ytdkmepeolmdccaa

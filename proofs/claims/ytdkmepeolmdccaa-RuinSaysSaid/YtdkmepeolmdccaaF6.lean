/- The machine answers F6: printed by a program of ours (gen.py). -/
import Derived.Test.YtdkmepeolmdccaaDef
import Derived.Test.YtdkmepeolmdccaaEnv
import Derived.Test.YtdkmepeolmdccaaF21
import Derived.Test.YtdkmepeolmdccaaF42
import Derived.Test.YtdkmepeolmdccaaF43
import Derived.Test.YtdkmepeolmdccaaF44
import Derived.Test.YtdkmepeolmdccaaF45
import Derived.Test.YtdkmepeolmdccaaF46
import Derived.Test.YtdkmepeolmdccaaF47
set_option linter.unusedVariables false
namespace Go.Proofs.Ytdkmepeolmdccaa
open Go.Am
theorem F6.fn : E.fn 6 = some ⟨173, (Try.f6.body.getD .skip), Try.f6.results.toList, [21]⟩ := rfl
theorem F6_ok {F : Nat} {m : Mem} {n : Nat} {r : Bool} {t0 : Int} {t1 : Int} {t2 : Int} {t3 : Int} (h : F6 F t0 t1 t2 t3 = some r)  : Ret E n 6 [.sc (.int .i64 t0), .sc (.int .i64 t1), .sc (.int .i64 t2), .sc (.int .i64 t3)] m n (fun v m' n' => v = .sc (.bool r)) := by
  unfold F6 at h
  refine Ret.walk F6.fn ?_
  refine WC.start fun S0 em en hz => ?_
  refine WC.seq ?_
  refine WC.region ?_
  refine WO.asg rfl ?_
  refine WO.nil ?_
  refine thenL_n ?_
  refine WC.seq ?_
  refine WC.region ?_
  refine WO.mv rfl ?_
  refine WO.mv rfl ?_
  refine WO.mv rfl ?_
  refine WO.mv rfl ?_
  obtain ⟨r1, e2, h⟩ := bindS h
  refine WO.callE (S := S0) rfl rfl (F42_ok e2) (fun S3 c4 => ?_)
  refine WO.mv rfl ?_
  refine WO.do rfl rfl ?_
  refine WO.do rfl rfl ?_
  refine WO.alS (A := Y26) (S := S3) (z0 := (0, 0)) 2 rfl rfl rfl (fun v5 S6 c7 ho8 => ?_)
  refine WO.stBA (u' := (r1.1.1, r1.1.2)) rfl ho8.at0 rfl ho8 rfl rfl (fun S9 c10 ho8 => ?_)
  refine WO.asg rfl ?_
  refine WO.nil ?_
  refine thenL_n ?_
  refine WC.seq ?_
  refine WC.region ?_
  refine WO.mv rfl ?_
  refine WO.mv rfl ?_
  refine WO.mv rfl ?_
  refine WO.mv rfl ?_
  obtain ⟨r11, e12, h⟩ := bindS h
  refine WO.callE (S := S9) rfl rfl (F43_ok e12) (fun S13 c14 => ?_)
  have ho8 := ho8.to c14
  refine WO.mv rfl ?_
  refine WO.do rfl rfl ?_
  refine WO.do rfl rfl ?_
  refine WO.alS (A := Y26) (S := S13) (z0 := (0, 0)) 3 rfl rfl rfl (fun v15 S16 c17 ho18 => ?_)
  have ho8 := ho8.to c17
  refine WO.stBA (u' := (r11.1.1, r11.1.2)) rfl ho18.at0 rfl ho18 rfl rfl (fun S19 c20 ho18 => ?_)
  have ho8 := ho8.to c20
  refine WO.asg rfl ?_
  refine WO.nil ?_
  refine thenL_n ?_
  refine WC.seq ?_
  refine WC.region ?_
  refine WO.asg rfl ?_
  refine WO.nil ?_
  refine thenL_n ?_
  refine WC.seq ?_
  refine WC.seq ?_
  refine WC.region ?_
  refine WO.mv rfl ?_
  refine WO.bin rfl rfl (by decide) (by decide) rfl ?_
  refine WO.mv rfl ?_
  refine WO.cutB (d := 38) 3 ((decide (t1 < 1)) || (decide (t1 > 12))) (fun q21 => ?_) (fun q21 => ?_) ?_
  · refine WO.gno rfl rfl ?_
    refine WO.gno rfl rfl ?_
    refine WO.pickT rfl rfl ?_
    refine WO.nil ?_
    exact ⟨rfl, rfl, (Cov.any rfl (orT q21) (Cov.skip rfl (Cov.skip rfl (Cov.skip rfl (Cov.skip rfl (Cov.refl _))))))⟩
  · skip
    refine WO.gyes rfl rfl ?_
    refine WO.mv rfl ?_
    refine WO.gyes rfl rfl ?_
    refine WO.bin rfl rfl (by decide) (by decide) rfl ?_
    refine WO.pickF rfl rfl ?_
    refine WO.nil ?_
    exact ⟨rfl, rfl, (Cov.any rfl (orF q21) (Cov.skip rfl (Cov.skip rfl (Cov.skip rfl (Cov.skip rfl (Cov.refl _))))))⟩
  refine WO.mv rfl ?_
  refine WO.cutB (d := 42) 3 (((decide (t1 < 1)) || (decide (t1 > 12))) || (decide (t0 < 0))) (fun q22 => ?_) (fun q22 => ?_) ?_
  · refine WO.gno rfl rfl ?_
    refine WO.gno rfl rfl ?_
    refine WO.pickT rfl rfl ?_
    refine WO.nil ?_
    exact ⟨rfl, rfl, (Cov.any rfl (orT q22) (Cov.skip rfl (Cov.skip rfl (Cov.skip rfl (Cov.skip rfl (Cov.refl _))))))⟩
  · skip
    refine WO.gyes rfl rfl ?_
    refine WO.mv rfl ?_
    refine WO.gyes rfl rfl ?_
    refine WO.bin rfl rfl (by decide) (by decide) rfl ?_
    refine WO.pickF rfl rfl ?_
    refine WO.nil ?_
    exact ⟨rfl, rfl, (Cov.any rfl (orF q22) (Cov.skip rfl (Cov.skip rfl (Cov.skip rfl (Cov.skip rfl (Cov.refl _))))))⟩
  refine WO.mv rfl ?_
  refine WO.cutB (d := 47) 4 ((((decide (t1 < 1)) || (decide (t1 > 12))) || (decide (t0 < 0))) || (decide (t0 > t1))) (fun q23 => ?_) (fun q23 => ?_) ?_
  · refine WO.gno rfl rfl ?_
    refine WO.gno rfl rfl ?_
    refine WO.gno rfl rfl ?_
    refine WO.pickT rfl rfl ?_
    refine WO.nil ?_
    exact ⟨rfl, rfl, (Cov.any rfl (orT q23) (Cov.skip rfl (Cov.skip rfl (Cov.skip rfl (Cov.skip rfl (Cov.skip rfl (Cov.refl _)))))))⟩
  · skip
    refine WO.gyes rfl rfl ?_
    refine WO.mv rfl ?_
    refine WO.gyes rfl rfl ?_
    refine WO.mv rfl ?_
    refine WO.gyes rfl rfl ?_
    refine WO.bin rfl rfl (by decide) (by decide) rfl ?_
    refine WO.pickF rfl rfl ?_
    refine WO.nil ?_
    exact ⟨rfl, rfl, (Cov.any rfl (orF q23) (Cov.skip rfl (Cov.skip rfl (Cov.skip rfl (Cov.skip rfl (Cov.skip rfl (Cov.refl _)))))))⟩
  refine WO.mv rfl ?_
  refine WO.cutB (d := 53) 5 (((((decide (t1 < 1)) || (decide (t1 > 12))) || (decide (t0 < 0))) || (decide (t0 > t1))) || (decide ((minI t2 t3) < 1))) (fun q24 => ?_) (fun q24 => ?_) ?_
  · refine WO.gno rfl rfl ?_
    refine WO.gno rfl rfl ?_
    refine WO.gno rfl rfl ?_
    refine WO.gno rfl rfl ?_
    refine WO.pickT rfl rfl ?_
    refine WO.nil ?_
    exact ⟨rfl, rfl, (Cov.any rfl (orT q24) (Cov.skip rfl (Cov.skip rfl (Cov.skip rfl (Cov.skip rfl (Cov.skip rfl (Cov.skip rfl (Cov.refl _))))))))⟩
  · skip
    refine WO.gyes rfl rfl ?_
    refine WO.mv rfl ?_
    refine WO.gyes rfl rfl ?_
    refine WO.mv rfl ?_
    refine WO.gyes rfl rfl ?_
    refine WO.minD rfl rfl ?_
    refine WO.gyes rfl rfl ?_
    refine WO.bin rfl rfl (by decide) (by decide) rfl ?_
    refine WO.pickF rfl rfl ?_
    refine WO.nil ?_
    exact ⟨rfl, rfl, (Cov.any rfl (orF q24) (Cov.skip rfl (Cov.skip rfl (Cov.skip rfl (Cov.skip rfl (Cov.skip rfl (Cov.skip rfl (Cov.refl _))))))))⟩
  refine WO.mv rfl ?_
  refine WO.cutB (d := 59) 5 ((((((decide (t1 < 1)) || (decide (t1 > 12))) || (decide (t0 < 0))) || (decide (t0 > t1))) || (decide ((minI t2 t3) < 1))) || (decide ((maxI t2 t3) > 20))) (fun q25 => ?_) (fun q25 => ?_) ?_
  · refine WO.gno rfl rfl ?_
    refine WO.gno rfl rfl ?_
    refine WO.gno rfl rfl ?_
    refine WO.gno rfl rfl ?_
    refine WO.pickT rfl rfl ?_
    refine WO.nil ?_
    exact ⟨rfl, rfl, (Cov.any rfl (orT q25) (Cov.skip rfl (Cov.skip rfl (Cov.skip rfl (Cov.skip rfl (Cov.skip rfl (Cov.skip rfl (Cov.refl _))))))))⟩
  · skip
    refine WO.gyes rfl rfl ?_
    refine WO.mv rfl ?_
    refine WO.gyes rfl rfl ?_
    refine WO.mv rfl ?_
    refine WO.gyes rfl rfl ?_
    refine WO.maxD rfl rfl ?_
    refine WO.gyes rfl rfl ?_
    refine WO.bin rfl rfl (by decide) (by decide) rfl ?_
    refine WO.pickF rfl rfl ?_
    refine WO.nil ?_
    exact ⟨rfl, rfl, (Cov.any rfl (orF q25) (Cov.skip rfl (Cov.skip rfl (Cov.skip rfl (Cov.skip rfl (Cov.skip rfl (Cov.skip rfl (Cov.refl _))))))))⟩
  refine WO.nil ?_
  refine thenL_n ?_
  obtain ⟨b27, e28, h⟩ := bindS h
  refine WC.mono (Q' := (fun b e l' m' n' => e = .normal ∧ ∃ S29 : Cx n, S29.m = m' ∧ S29.n = n' ∧ Cov l' [(0, .sc (.int .i64 t0)), (1, .sc (.int .i64 t1)), (2, .sc (.int .i64 t2)), (3, .sc (.int .i64 t3)), (9, .sc v5), (10, .sc (.int .i64 r1.2)), (11, .sc v15), (12, .sc (.int .i64 r11.2)), (13, .sc (.int .i64 b))] ∧ Bk Y26 S29 2 v5 ((r1.1.1, r1.1.2)) ∧ Bk Y26 S29 3 v15 ((r11.1.1, r11.1.2))) b27) ?_ ?_
  · have h := e28
    dsimp only at h ⊢
    refine WC.cond rfl (fun q26 => ?_) (fun q26 => ?_)
    · have h := iteT q26 h
      refine WC.region ?_
      refine WO.asg rfl ?_
      refine WO.nil ?_
      obtain rfl := someI h
      exact ⟨rfl, ⟨S19, rfl, rfl, (Cov.cons rfl (Cov.cons rfl (Cov.cons rfl (Cov.cons rfl (Cov.cons rfl (Cov.cons rfl (Cov.cons rfl (Cov.cons rfl (Cov.cons rfl (Cov.nil _)))))))))), ho8, ho18⟩⟩
    · have h := iteF q26 h
      refine WC.skip ?_
      obtain rfl := someI h
      exact ⟨rfl, ⟨S19, rfl, rfl, (Cov.cons rfl (Cov.cons rfl (Cov.cons rfl (Cov.cons rfl (Cov.cons rfl (Cov.cons rfl (Cov.cons rfl (Cov.cons rfl (Cov.cons rfl (Cov.nil _)))))))))), ho8, ho18⟩⟩
  dsimp only
  rintro _ _ _ _ ⟨rfl, ⟨S30, rfl, rfl, hc31, ho8, ho18⟩⟩
  refine thenL_n ?_
  refine WC.cov hc31 ?_
  refine WC.seq ?_
  refine WC.seq ?_
  refine WC.region ?_
  refine WO.mv rfl ?_
  refine WO.mv rfl ?_
  refine WO.mv rfl ?_
  refine WO.mv rfl ?_
  obtain ⟨r32, e33, h⟩ := bindS h
  refine WO.callE (S := S30) rfl rfl (F44_ok e33) (fun S34 c35 => ?_)
  have ho8 := ho8.to c35
  have ho18 := ho18.to c35
  refine WO.mv rfl ?_
  refine WO.bin rfl rfl (by decide) (by decide) rfl ?_
  refine WO.nil ?_
  refine thenL_n ?_
  refine WC.cond rfl (fun q36 => ?_) (fun q36 => ?_)
  · have h := iteT q36 h
    refine WC.seq ?_
    refine WC.region ?_
    refine WO.asg rfl ?_
    refine WO.nil ?_
    refine thenL_n ?_
    refine WC.ret ?_
    refine thenL_r ?_
    obtain rfl := someI h
    exact ⟨.inr rfl, _, _, rfl, rfl, rfl⟩
  · have h := iteF q36 h
    refine WC.skip ?_
    refine thenL_n ?_
    refine WC.seq ?_
    refine WC.seq ?_
    refine WC.region ?_
    refine WO.mv rfl ?_
    refine WO.bin rfl rfl (by decide) (by decide) rfl ?_
    refine WO.nil ?_
    refine thenL_n ?_
    refine WC.cond rfl (fun q37 => ?_) (fun q37 => ?_)
    · have h := iteT q37 h
      refine WC.seq ?_
      refine WC.region ?_
      refine WO.mv rfl ?_
      refine WO.mv rfl ?_
      refine WO.bin rfl rfl (by decide) (by decide) rfl ?_
      refine WO.mv rfl ?_
      refine WO.cutB (d := 76) 4 ((r1.2 == b27) && (r11.2 == b27)) (fun q38 => ?_) (fun q38 => ?_) ?_
      · skip
        refine WO.gyes rfl rfl ?_
        refine WO.mv rfl ?_
        refine WO.gyes rfl rfl ?_
        refine WO.mv rfl ?_
        refine WO.gyes rfl rfl ?_
        refine WO.bin rfl rfl (by decide) (by decide) rfl ?_
        refine WO.pickT rfl rfl ?_
        refine WO.nil ?_
        exact ⟨rfl, rfl, (Cov.any rfl (andT q38) (Cov.skip rfl (Cov.skip rfl (Cov.skip rfl (Cov.skip rfl (Cov.skip rfl (Cov.refl _)))))))⟩
      · refine WO.gno rfl rfl ?_
        refine WO.gno rfl rfl ?_
        refine WO.gno rfl rfl ?_
        refine WO.pickF rfl rfl ?_
        refine WO.nil ?_
        exact ⟨rfl, rfl, (Cov.any rfl (andF q38) (Cov.skip rfl (Cov.skip rfl (Cov.skip rfl (Cov.skip rfl (Cov.skip rfl (Cov.refl _)))))))⟩
      refine WO.mv rfl ?_
      refine WO.cutB (d := 81) 4 (((r1.2 == b27) && (r11.2 == b27)) && (((r1.1.1, r1.1.2)).1 == 0 && (((r1.1.1, r1.1.2)).2 == 0 && true))) (fun q39 => ?_) (fun q39 => ?_) ?_
      · skip
        refine WO.gyes rfl rfl ?_
        refine WO.ldBA (j := 0) rfl ho8.at0 ho8 rfl rfl ?_
        refine WO.gyes rfl rfl ?_
        refine WO.do rfl rfl ?_
        refine WO.gyes rfl rfl ?_
        refine WO.eqA rfl rfl rfl rfl (eqFields_cons rfl rfl rfl eqC_int (eqFields_cons rfl rfl rfl eqC_int rfl)) ?_
        refine WO.pickT rfl rfl ?_
        refine WO.nil ?_
        exact ⟨rfl, rfl, (Cov.any rfl (andT q39) (Cov.skip rfl (Cov.skip rfl (Cov.skip rfl (Cov.skip rfl (Cov.skip rfl (Cov.refl _)))))))⟩
      · refine WO.gno rfl rfl ?_
        refine WO.gno rfl rfl ?_
        refine WO.gno rfl rfl ?_
        refine WO.pickF rfl rfl ?_
        refine WO.nil ?_
        exact ⟨rfl, rfl, (Cov.any rfl (andF q39) (Cov.skip rfl (Cov.skip rfl (Cov.skip rfl (Cov.skip rfl (Cov.skip rfl (Cov.refl _)))))))⟩
      refine WO.mv rfl ?_
      refine WO.cutB (d := 86) 4 ((((r1.2 == b27) && (r11.2 == b27)) && (((r1.1.1, r1.1.2)).1 == 0 && (((r1.1.1, r1.1.2)).2 == 0 && true))) && (((r11.1.1, r11.1.2)).1 == 0 && (((r11.1.1, r11.1.2)).2 == 0 && true))) (fun q40 => ?_) (fun q40 => ?_) ?_
      · skip
        refine WO.gyes rfl rfl ?_
        refine WO.ldBA (j := 0) rfl ho18.at0 ho18 rfl rfl ?_
        refine WO.gyes rfl rfl ?_
        refine WO.do rfl rfl ?_
        refine WO.gyes rfl rfl ?_
        refine WO.eqA rfl rfl rfl rfl (eqFields_cons rfl rfl rfl eqC_int (eqFields_cons rfl rfl rfl eqC_int rfl)) ?_
        refine WO.pickT rfl rfl ?_
        refine WO.nil ?_
        exact ⟨rfl, rfl, (Cov.any rfl (andT q40) (Cov.skip rfl (Cov.skip rfl (Cov.skip rfl (Cov.skip rfl (Cov.skip rfl (Cov.refl _)))))))⟩
      · refine WO.gno rfl rfl ?_
        refine WO.gno rfl rfl ?_
        refine WO.gno rfl rfl ?_
        refine WO.pickF rfl rfl ?_
        refine WO.nil ?_
        exact ⟨rfl, rfl, (Cov.any rfl (andF q40) (Cov.skip rfl (Cov.skip rfl (Cov.skip rfl (Cov.skip rfl (Cov.skip rfl (Cov.refl _)))))))⟩
      refine WO.asg rfl ?_
      refine WO.nil ?_
      refine thenL_n ?_
      refine WC.ret ?_
      refine thenL_r ?_
      obtain rfl := someI h
      exact ⟨.inr rfl, _, _, rfl, rfl, rfl⟩
    · have h := iteF q37 h
      refine WC.skip ?_
      refine thenL_n ?_
      refine WC.seq ?_
      refine WC.region ?_
      refine WO.mv rfl ?_
      refine WO.mv rfl ?_
      refine WO.mv rfl ?_
      refine WO.mv rfl ?_
      obtain ⟨r41, e42, h⟩ := bindS h
      refine WO.callE (S := S34) rfl rfl (F45_ok e42) (fun S43 c44 => ?_)
      have ho8 := ho8.to c44
      have ho18 := ho18.to c44
      refine WO.mv rfl ?_
      refine WO.do rfl rfl ?_
      refine WO.do rfl rfl ?_
      refine WO.alS (A := Y26) (S := S43) (z0 := (0, 0)) 4 rfl rfl rfl (fun v45 S46 c47 ho48 => ?_)
      have ho8 := ho8.to c47
      have ho18 := ho18.to c47
      refine WO.stBA (u' := (r41.1.1, r41.1.2)) rfl ho48.at0 rfl ho48 rfl rfl (fun S49 c50 ho48 => ?_)
      have ho8 := ho8.to c50
      have ho18 := ho18.to c50
      refine WO.asg rfl ?_
      refine WO.nil ?_
      refine thenL_n ?_
      refine WC.seq ?_
      refine WC.seq ?_
      refine WC.region ?_
      refine WO.mv rfl ?_
      refine WO.mv rfl ?_
      refine WO.bin rfl rfl (by decide) (by decide) rfl ?_
      refine WO.mv rfl ?_
      refine WO.cutB (d := 102) 4 ((r1.2 != r41.2) || (!(((r1.1.1, r1.1.2)).1 == ((r41.1.1, r41.1.2)).1 && (((r1.1.1, r1.1.2)).2 == ((r41.1.1, r41.1.2)).2 && true)))) (fun q51 => ?_) (fun q51 => ?_) ?_
      · refine WO.gno rfl rfl ?_
        refine WO.gno rfl rfl ?_
        refine WO.gno rfl rfl ?_
        refine WO.pickT rfl rfl ?_
        refine WO.nil ?_
        exact ⟨rfl, rfl, (Cov.any rfl (orT q51) (Cov.skip rfl (Cov.skip rfl (Cov.skip rfl (Cov.skip rfl (Cov.skip rfl (Cov.refl _)))))))⟩
      · skip
        refine WO.gyes rfl rfl ?_
        refine WO.ldBA (j := 0) rfl ho8.at0 ho8 rfl rfl ?_
        refine WO.gyes rfl rfl ?_
        refine WO.ldBA (j := 0) rfl ho48.at0 ho48 rfl rfl ?_
        refine WO.gyes rfl rfl ?_
        refine WO.neA rfl rfl rfl rfl (eqFields_cons rfl rfl rfl eqC_int (eqFields_cons rfl rfl rfl eqC_int rfl)) ?_
        refine WO.pickF rfl rfl ?_
        refine WO.nil ?_
        exact ⟨rfl, rfl, (Cov.any rfl (orF q51) (Cov.skip rfl (Cov.skip rfl (Cov.skip rfl (Cov.skip rfl (Cov.skip rfl (Cov.refl _)))))))⟩
      refine WO.nil ?_
      refine thenL_n ?_
      refine WC.cond rfl (fun q52 => ?_) (fun q52 => ?_)
      · have h := iteT q52 h
        refine WC.seq ?_
        refine WC.region ?_
        refine WO.asg rfl ?_
        refine WO.nil ?_
        refine thenL_n ?_
        refine WC.ret ?_
        refine thenL_r ?_
        obtain rfl := someI h
        exact ⟨.inr rfl, _, _, rfl, rfl, rfl⟩
      · have h := iteF q52 h
        refine WC.skip ?_
        refine thenL_n ?_
        refine WC.seq ?_
        refine WC.seq ?_
        refine WC.region ?_
        refine WO.mv rfl ?_
        refine WO.mv rfl ?_
        refine WO.bin rfl rfl (by decide) (by decide) rfl ?_
        refine WO.nil ?_
        refine thenL_n ?_
        refine WC.cond rfl (fun q53 => ?_) (fun q53 => ?_)
        · have h := iteT q53 h
          refine WC.seq ?_
          refine WC.region ?_
          refine WO.mv rfl ?_
          refine WO.bin rfl rfl (by decide) (by decide) rfl ?_
          refine WO.mv rfl ?_
          refine WO.cutB (d := 117) 9 ((r11.2 == 0) && (((r11.1.1, r11.1.2)).1 == (wrapA .i64 (t0 * (wrapA .i64 (t1 - t0)))) && (((r11.1.1, r11.1.2)).2 == 1 && true))) (fun q54 => ?_) (fun q54 => ?_) ?_
          · skip
            refine WO.gyes rfl rfl ?_
            refine WO.ldBA (j := 0) rfl ho18.at0 ho18 rfl rfl ?_
            refine WO.gyes rfl rfl ?_
            refine WO.mv rfl ?_
            refine WO.gyes rfl rfl ?_
            refine WO.mv rfl ?_
            refine WO.gyes rfl rfl ?_
            refine WO.mv rfl ?_
            refine WO.gyes rfl rfl ?_
            refine WO.bin rfl rfl (by decide) (by decide) rfl ?_
            refine WO.gyes rfl rfl ?_
            refine WO.bin rfl rfl (by decide) (by decide) rfl ?_
            refine WO.gyes rfl rfl ?_
            refine WO.do rfl rfl ?_
            refine WO.gyes rfl rfl ?_
            refine WO.eqA rfl rfl rfl rfl (eqFields_cons rfl rfl rfl eqC_int (eqFields_cons rfl rfl rfl eqC_int rfl)) ?_
            refine WO.pickT rfl rfl ?_
            refine WO.nil ?_
            exact ⟨rfl, rfl, (Cov.any rfl (andT q54) (Cov.skip rfl (Cov.skip rfl (Cov.skip rfl (Cov.skip rfl (Cov.skip rfl (Cov.skip rfl (Cov.skip rfl (Cov.skip rfl (Cov.skip rfl (Cov.skip rfl (Cov.refl _))))))))))))⟩
          · refine WO.gno rfl rfl ?_
            refine WO.gno rfl rfl ?_
            refine WO.gno rfl rfl ?_
            refine WO.gno rfl rfl ?_
            refine WO.gno rfl rfl ?_
            refine WO.gno rfl rfl ?_
            refine WO.gno rfl rfl ?_
            refine WO.gno rfl rfl ?_
            refine WO.pickF rfl rfl ?_
            refine WO.nil ?_
            exact ⟨rfl, rfl, (Cov.any rfl (andF q54) (Cov.skip rfl (Cov.skip rfl (Cov.skip rfl (Cov.skip rfl (Cov.skip rfl (Cov.skip rfl (Cov.skip rfl (Cov.skip rfl (Cov.skip rfl (Cov.skip rfl (Cov.refl _))))))))))))⟩
          refine WO.asg rfl ?_
          refine WO.nil ?_
          refine thenL_n ?_
          refine WC.ret ?_
          refine thenL_r ?_
          obtain rfl := someI h
          exact ⟨.inr rfl, _, _, rfl, rfl, rfl⟩
        · have h := iteF q53 h
          refine WC.skip ?_
          refine thenL_n ?_
          refine WC.seq ?_
          refine WC.region ?_
          refine WO.ldBA (j := 0) rfl ho48.at0 ho48 rfl rfl ?_
          refine WO.alS (A := Y26) (S := S49) (z0 := (0, 0)) 5 rfl rfl rfl (fun v55 S56 c57 ho58 => ?_)
          have ho8 := ho8.to c57
          have ho18 := ho18.to c57
          have ho48 := ho48.to c57
          refine WO.stBA (u' := (((r41.1.1, r41.1.2)).1, ((r41.1.1, r41.1.2)).2)) rfl ho58.at0 rfl ho58 rfl rfl (fun S59 c60 ho58 => ?_)
          have ho8 := ho8.to c60
          have ho18 := ho18.to c60
          have ho48 := ho48.to c60
          refine WO.nil ?_
          refine thenL_n ?_
          refine WC.seq ?_
          refine WC.seq ?_
          refine WC.region ?_
          refine WO.mv rfl ?_
          refine WO.bin rfl rfl (by decide) (by decide) rfl ?_
          refine WO.nil ?_
          refine thenL_n ?_
          obtain ⟨b68, e69, h⟩ := bindS h
          refine WC.mono (Q' := (fun b e l' m' n' => e = .normal ∧ ∃ S70 : Cx n, S70.m = m' ∧ S70.n = n' ∧ Cov l' [(0, .sc (.int .i64 t0)), (2, .sc (.int .i64 t2)), (3, .sc (.int .i64 t3)), (11, .sc v15), (12, .sc (.int .i64 r11.2)), (15, .sc (.int .i64 b.1)), (16, .sc v55)] ∧ Bk Y26 S70 3 v15 ((r11.1.1, r11.1.2)) ∧ Bk Y26 S70 5 v55 b.2) b68) ?_ ?_
          · have h := e69
            dsimp only at h ⊢
            refine WC.cond rfl (fun q61 => ?_) (fun q61 => ?_)
            · have h := iteT q61 h
              refine WC.region ?_
              refine WO.ldBA (j := 0) rfl ho48.at0 ho48 rfl rfl ?_
              refine WO.mv rfl ?_
              refine WO.do rfl rfl ?_
              obtain ⟨r62, e63, h⟩ := bindS h
              refine WO.callE (S := S59) rfl rfl (F46_ok e63) (fun S64 c65 => ?_)
              have ho8 := ho8.to c65
              have ho18 := ho18.to c65
              have ho48 := ho48.to c65
              have ho58 := ho58.to c65
              refine WO.mv rfl ?_
              refine WO.do rfl rfl ?_
              refine WO.do rfl rfl ?_
              refine WO.stBA (u' := (r62.1.1, r62.1.2)) rfl ho58.at0 rfl ho58 rfl rfl (fun S66 c67 ho58 => ?_)
              have ho8 := ho8.to c67
              have ho18 := ho18.to c67
              have ho48 := ho48.to c67
              refine WO.asg rfl ?_
              refine WO.nil ?_
              obtain rfl := someI h
              exact ⟨rfl, ⟨S66, rfl, rfl, (Cov.cons rfl (Cov.cons rfl (Cov.cons rfl (Cov.cons rfl (Cov.cons rfl (Cov.cons rfl (Cov.cons rfl (Cov.nil _)))))))), ho18, ho58⟩⟩
            · have h := iteF q61 h
              refine WC.skip ?_
              obtain rfl := someI h
              exact ⟨rfl, ⟨S59, rfl, rfl, (Cov.cons rfl (Cov.cons rfl (Cov.cons rfl (Cov.cons rfl (Cov.cons rfl (Cov.cons rfl (Cov.cons rfl (Cov.nil _)))))))), ho18, ho58⟩⟩
          dsimp only
          rintro _ _ _ _ ⟨rfl, ⟨S71, rfl, rfl, hc72, ho18, ho58⟩⟩
          refine thenL_n ?_
          refine WC.cov hc72 ?_
          refine WC.seq ?_
          refine WC.seq ?_
          refine WC.region ?_
          refine WO.mv rfl ?_
          refine WO.bin rfl rfl (by decide) (by decide) rfl ?_
          refine WO.nil ?_
          refine thenL_n ?_
          obtain ⟨b80, e81, h⟩ := bindS h
          refine WC.mono (Q' := (fun b e l' m' n' => e = .normal ∧ ∃ S82 : Cx n, S82.m = m' ∧ S82.n = n' ∧ Cov l' [(2, .sc (.int .i64 t2)), (3, .sc (.int .i64 t3)), (11, .sc v15), (12, .sc (.int .i64 r11.2)), (15, .sc (.int .i64 b.1)), (16, .sc v55)] ∧ Bk Y26 S82 3 v15 ((r11.1.1, r11.1.2)) ∧ Bk Y26 S82 5 v55 b.2) b80) ?_ ?_
          · have h := e81
            dsimp only at h ⊢
            refine WC.cond rfl (fun q73 => ?_) (fun q73 => ?_)
            · have h := iteT q73 h
              refine WC.region ?_
              refine WO.ldBA (j := 0) rfl ho58.at0 ho58 rfl rfl ?_
              refine WO.mv rfl ?_
              refine WO.do rfl rfl ?_
              refine WO.do rfl rfl ?_
              obtain ⟨r74, e75, h⟩ := bindS h
              refine WO.callE (S := S71) rfl rfl (F47_ok e75) (fun S76 c77 => ?_)
              have ho18 := ho18.to c77
              have ho58 := ho58.to c77
              refine WO.mv rfl ?_
              refine WO.do rfl rfl ?_
              refine WO.do rfl rfl ?_
              refine WO.stBA (u' := (r74.1.1, r74.1.2)) rfl ho58.at0 rfl ho58 rfl rfl (fun S78 c79 ho58 => ?_)
              have ho18 := ho18.to c79
              refine WO.asg rfl ?_
              refine WO.nil ?_
              obtain rfl := someI h
              exact ⟨rfl, ⟨S78, rfl, rfl, (Cov.cons rfl (Cov.cons rfl (Cov.cons rfl (Cov.cons rfl (Cov.cons rfl (Cov.cons rfl (Cov.nil _))))))), ho18, ho58⟩⟩
            · have h := iteF q73 h
              refine WC.skip ?_
              obtain rfl := someI h
              exact ⟨rfl, ⟨S71, rfl, rfl, (Cov.cons rfl (Cov.cons rfl (Cov.cons rfl (Cov.cons rfl (Cov.cons rfl (Cov.cons rfl (Cov.nil _))))))), ho18, ho58⟩⟩
          dsimp only
          rintro _ _ _ _ ⟨rfl, ⟨S83, rfl, rfl, hc84, ho18, ho58⟩⟩
          refine thenL_n ?_
          refine WC.cov hc84 ?_
          refine WC.seq ?_
          refine WC.seq ?_
          refine WC.region ?_
          refine WO.mv rfl ?_
          refine WO.bin rfl rfl (by decide) (by decide) rfl ?_
          refine WO.nil ?_
          refine thenL_n ?_
          obtain ⟨b96, e97, h⟩ := bindS h
          refine WC.mono (Q' := (fun b e l' m' n' => e = .normal ∧ ∃ S98 : Cx n, S98.m = m' ∧ S98.n = n' ∧ Cov l' [(11, .sc v15), (12, .sc (.int .i64 r11.2)), (15, .sc (.int .i64 b.1)), (16, .sc v55)] ∧ Bk Y26 S98 3 v15 ((r11.1.1, r11.1.2)) ∧ Bk Y26 S98 5 v55 b.2) b96) ?_ ?_
          · have h := e97
            dsimp only at h ⊢
            refine WC.cond rfl (fun q85 => ?_) (fun q85 => ?_)
            · have h := iteT q85 h
              refine WC.drawN rfl ?_
              refine WO.ldBA (j := 0) rfl ho58.at0 ho58 rfl (limLe_self _) ?_
              refine WO.mv rfl ?_
              refine WO.mv rfl ?_
              refine WO.bin rfl rfl (by decide) (by decide) rfl ?_
              refine WO.mv rfl ?_
              refine WO.mv rfl ?_
              refine WO.bin rfl rfl (by decide) (by decide) rfl ?_
              obtain ⟨r86, e87, h⟩ := bindS h
              refine WO.callE (S := S83) rfl rfl (F21_ok e87) (fun S88 c89 => ?_)
              have ho18 := ho18.to c89
              have ho58 := ho58.to c89
              obtain ⟨r90, e91, h⟩ := bindS h
              refine WO.callE (S := S88) rfl rfl (F46_ok e91) (fun S92 c93 => ?_)
              have ho18 := ho18.to c93
              have ho58 := ho58.to c93
              refine WO.mv rfl ?_
              refine WO.do rfl rfl ?_
              refine WO.do rfl rfl ?_
              refine WO.stBA (u' := (r90.1.1, r90.1.2)) rfl ho58.at0 rfl ho58 rfl rfl (fun S94 c95 ho58 => ?_)
              have ho18 := ho18.to c95
              refine WO.asg rfl ?_
              refine WO.nil ?_
              obtain rfl := someI h
              exact ⟨rfl, ⟨S94, rfl, rfl, (Cov.cons rfl (Cov.cons rfl (Cov.cons rfl (Cov.cons rfl (Cov.nil _))))), ho18, ho58⟩⟩
            · have h := iteF q85 h
              refine WC.skip ?_
              obtain rfl := someI h
              exact ⟨rfl, ⟨S83, rfl, rfl, (Cov.cons rfl (Cov.cons rfl (Cov.cons rfl (Cov.cons rfl (Cov.nil _))))), ho18, ho58⟩⟩
          dsimp only
          rintro _ _ _ _ ⟨rfl, ⟨S99, rfl, rfl, hc100, ho18, ho58⟩⟩
          refine thenL_n ?_
          refine WC.cov hc100 ?_
          refine WC.seq ?_
          refine WC.region ?_
          refine WO.mv rfl ?_
          refine WO.mv rfl ?_
          refine WO.bin rfl rfl (by decide) (by decide) rfl ?_
          refine WO.mv rfl ?_
          refine WO.cutB (d := 172) 17 ((r11.2 == b96.1) && (((b96.1 != 0) && (((r11.1.1, r11.1.2)).1 == 0 && (((r11.1.1, r11.1.2)).2 == 0 && true))) || ((b96.1 == 0) && (((r11.1.1, r11.1.2)).1 == b96.2.1 && (((r11.1.1, r11.1.2)).2 == b96.2.2 && true))))) (fun q104 => ?_) (fun q104 => ?_) ?_
          · skip
            refine WO.gyes rfl rfl ?_
            refine WO.mv rfl ?_
            refine WO.gyes rfl rfl ?_
            refine WO.bin rfl rfl (by decide) (by decide) rfl ?_
            refine WO.gyes rfl rfl ?_
            refine WO.mv rfl ?_
            refine WO.cutB (d := 162) 4 ((b96.1 != 0) && (((r11.1.1, r11.1.2)).1 == 0 && (((r11.1.1, r11.1.2)).2 == 0 && true))) (fun q101 => ?_) (fun q101 => ?_) ?_
            · skip
              refine WO.gyes rfl rfl ?_
              refine WO.ldBA (j := 0) rfl ho18.at0 ho18 rfl rfl ?_
              refine WO.gyes rfl rfl ?_
              refine WO.do rfl rfl ?_
              refine WO.gyes rfl rfl ?_
              refine WO.eqA rfl rfl rfl rfl (eqFields_cons rfl rfl rfl eqC_int (eqFields_cons rfl rfl rfl eqC_int rfl)) ?_
              refine WO.gyes rfl rfl ?_
              refine WO.pickT rfl rfl ?_
              refine WO.nil ?_
              exact ⟨rfl, rfl, (Cov.any rfl (andT q101) (Cov.skip rfl (Cov.skip rfl (Cov.skip rfl (Cov.skip rfl (Cov.skip rfl (Cov.refl _)))))))⟩
            · refine WO.gno rfl rfl ?_
              refine WO.gno rfl rfl ?_
              refine WO.gno rfl rfl ?_
              refine WO.gyes rfl rfl ?_
              refine WO.pickF rfl rfl ?_
              refine WO.nil ?_
              exact ⟨rfl, rfl, (Cov.any rfl (andF q101) (Cov.skip rfl (Cov.skip rfl (Cov.skip rfl (Cov.skip rfl (Cov.skip rfl (Cov.refl _)))))))⟩
            refine WO.gyes rfl rfl ?_
            refine WO.mv rfl ?_
            refine WO.cutB (d := 171) 8 (((b96.1 != 0) && (((r11.1.1, r11.1.2)).1 == 0 && (((r11.1.1, r11.1.2)).2 == 0 && true))) || ((b96.1 == 0) && (((r11.1.1, r11.1.2)).1 == b96.2.1 && (((r11.1.1, r11.1.2)).2 == b96.2.2 && true)))) (fun q103 => ?_) (fun q103 => ?_) ?_
            · refine WO.gno rfl rfl ?_
              refine WO.gno rfl rfl ?_
              refine WO.gno rfl rfl ?_
              refine WO.gskip rfl rfl ?_
              refine WO.gskip rfl rfl ?_
              refine WO.gskip rfl rfl ?_
              refine WO.gno rfl rfl ?_
              refine WO.gyes rfl rfl ?_
              refine WO.pickT rfl rfl ?_
              refine WO.nil ?_
              exact ⟨rfl, rfl, (Cov.any rfl (orT q103) (Cov.skip rfl (Cov.skip rfl (Cov.skip rfl (Cov.skip rfl (Cov.skip rfl (Cov.skip rfl (Cov.skip rfl (Cov.skip rfl (Cov.skip rfl (Cov.refl _)))))))))))⟩
            · skip
              refine WO.gyes rfl rfl ?_
              refine WO.mv rfl ?_
              refine WO.gyes rfl rfl ?_
              refine WO.bin rfl rfl (by decide) (by decide) rfl ?_
              refine WO.gyes rfl rfl ?_
              refine WO.mv rfl ?_
              refine WO.cutB (d := 170) 4 ((b96.1 == 0) && (((r11.1.1, r11.1.2)).1 == b96.2.1 && (((r11.1.1, r11.1.2)).2 == b96.2.2 && true))) (fun q102 => ?_) (fun q102 => ?_) ?_
              · skip
                refine WO.gyes rfl rfl ?_
                refine WO.ldBA (j := 0) rfl ho18.at0 ho18 rfl rfl ?_
                refine WO.gyes rfl rfl ?_
                refine WO.ldBA (j := 0) rfl ho58.at0 ho58 rfl rfl ?_
                refine WO.gyes rfl rfl ?_
                refine WO.eqA rfl rfl rfl rfl (eqFields_cons rfl rfl rfl eqC_int (eqFields_cons rfl rfl rfl eqC_int rfl)) ?_
                refine WO.gyes rfl rfl ?_
                refine WO.pickT rfl rfl ?_
                refine WO.nil ?_
                exact ⟨rfl, rfl, (Cov.any rfl (andT q102) (Cov.skip rfl (Cov.skip rfl (Cov.skip rfl (Cov.skip rfl (Cov.skip rfl (Cov.refl _)))))))⟩
              · refine WO.gno rfl rfl ?_
                refine WO.gno rfl rfl ?_
                refine WO.gno rfl rfl ?_
                refine WO.gyes rfl rfl ?_
                refine WO.pickF rfl rfl ?_
                refine WO.nil ?_
                exact ⟨rfl, rfl, (Cov.any rfl (andF q102) (Cov.skip rfl (Cov.skip rfl (Cov.skip rfl (Cov.skip rfl (Cov.skip rfl (Cov.refl _)))))))⟩
              refine WO.gyes rfl rfl ?_
              refine WO.pickF rfl rfl ?_
              refine WO.nil ?_
              exact ⟨rfl, rfl, (Cov.any rfl (orF q103) (Cov.skip rfl (Cov.skip rfl (Cov.skip rfl (Cov.skip rfl (Cov.skip rfl (Cov.refl _)))))))⟩
            refine WO.pickT rfl rfl ?_
            refine WO.nil ?_
            exact ⟨rfl, rfl, (Cov.any rfl (andT q104) (Cov.skip rfl (Cov.skip rfl (Cov.skip rfl (Cov.skip rfl (Cov.skip rfl (Cov.skip rfl (Cov.refl _))))))))⟩
          · refine WO.gno rfl rfl ?_
            refine WO.gno rfl rfl ?_
            refine WO.gno rfl rfl ?_
            refine WO.gskip rfl rfl ?_
            refine WO.gskip rfl rfl ?_
            refine WO.gskip rfl rfl ?_
            refine WO.gno rfl rfl ?_
            refine WO.gno rfl rfl ?_
            refine WO.gskip rfl rfl ?_
            refine WO.gskip rfl rfl ?_
            refine WO.gskip rfl rfl ?_
            refine WO.gskip rfl rfl ?_
            refine WO.gskip rfl rfl ?_
            refine WO.gskip rfl rfl ?_
            refine WO.gskip rfl rfl ?_
            refine WO.gno rfl rfl ?_
            refine WO.pickF rfl rfl ?_
            refine WO.nil ?_
            exact ⟨rfl, rfl, (Cov.any rfl (andF q104) (Cov.skip rfl (Cov.skip rfl (Cov.skip rfl (Cov.skip rfl (Cov.skip rfl (Cov.skip rfl (Cov.skip rfl (Cov.skip rfl (Cov.skip rfl (Cov.skip rfl (Cov.skip rfl (Cov.skip rfl (Cov.skip rfl (Cov.skip rfl (Cov.skip rfl (Cov.skip rfl (Cov.skip rfl (Cov.skip rfl (Cov.refl _))))))))))))))))))))⟩
          refine WO.asg rfl ?_
          refine WO.nil ?_
          refine thenL_n ?_
          refine WC.ret ?_
          obtain rfl := someI h
          exact ⟨.inr rfl, _, _, rfl, rfl, rfl⟩
end Go.Proofs.Ytdkmepeolmdccaa

/- The machine answers F14: printed by a program of ours (gen.py). -/
import Derived.Test.YtdkmepeolmdccaaDef
import Derived.Test.YtdkmepeolmdccaaEnv
import Derived.Test.YtdkmepeolmdccaaF101
import Derived.Test.YtdkmepeolmdccaaF102
import Derived.Test.YtdkmepeolmdccaaF103
import Derived.Test.YtdkmepeolmdccaaF104
import Derived.Test.YtdkmepeolmdccaaF105
import Derived.Test.YtdkmepeolmdccaaF106
import Derived.Test.YtdkmepeolmdccaaF107
import Derived.Test.YtdkmepeolmdccaaF108
import Derived.Test.YtdkmepeolmdccaaF32
import Derived.Test.YtdkmepeolmdccaaF65
set_option linter.unusedVariables false
namespace Go.Proofs.Ytdkmepeolmdccaa
open Go.Am
theorem F14.fn : E.fn 14 = some ⟨129, (Try.f14.body.getD .skip), Try.f14.results.toList, []⟩ := rfl
theorem F14_ok {F : Nat} {m : Mem} {n : Nat} {r : Bool} {t0 : Int} {t1 : List Int} {t2 : Int} {vt1 : SV} (h : F14 F t0 t1 t2 = some r) (kt1 : Vw Y3 n m vt1 t1) : Ret E n 14 [.sc (.int .i64 t0), .sc vt1, .sc (.int .i64 t2)] m n (fun v m' n' => v = .sc (.bool r)) := by
  unfold F14 at h
  refine Ret.walk F14.fn ?_
  refine WC.start fun S0 em en hz => ?_
  have hot1 := kt1.rdS em hz
  refine WC.seq ?_
  refine WC.region ?_
  refine WO.asg rfl ?_
  refine WO.nil ?_
  refine thenL_n ?_
  refine WC.seq ?_
  refine WC.region ?_
  refine WO.mv rfl ?_
  refine WO.mv rfl ?_
  obtain ⟨r1, e2, h⟩ := bindS h
  refine WO.callF (S := S0) 2 rfl rfl (F101_ok e2 hot1.vw) Lay.flat_fl (fun v3 S5 c6 ho4 => ?_)
  have hot1 := hot1.to c6
  refine WO.mv rfl ?_
  refine WO.do rfl rfl ?_
  refine WO.do rfl rfl ?_
  refine WO.asg rfl ?_
  refine WO.asg rfl ?_
  refine WO.nil ?_
  refine thenL_n ?_
  refine WC.seq ?_
  refine WC.region ?_
  refine WO.mv rfl ?_
  refine WO.mv rfl ?_
  obtain ⟨r7, e8, h⟩ := bindS h
  refine WO.callF (S := S5) 3 rfl rfl (F102_ok e8 hot1.vw) Lay.flat_fl (fun v9 S11 c12 ho10 => ?_)
  have hot1 := hot1.to c12
  have ho4 := ho4.to c12
  refine WO.mv rfl ?_
  refine WO.do rfl rfl ?_
  refine WO.do rfl rfl ?_
  refine WO.asg rfl ?_
  refine WO.asg rfl ?_
  refine WO.nil ?_
  refine thenL_n ?_
  refine WC.seq ?_
  refine WC.region ?_
  refine WO.mv rfl ?_
  refine WO.mv rfl ?_
  obtain ⟨r13, e14, h⟩ := bindS h
  refine WO.callE (S := S11) rfl rfl (F103_ok e14) (fun S15 c16 => ?_)
  have hot1 := hot1.to c16
  have ho4 := ho4.to c16
  have ho10 := ho10.to c16
  refine WO.mv rfl ?_
  refine WO.do rfl rfl ?_
  refine WO.do rfl rfl ?_
  refine WO.asg rfl ?_
  refine WO.asg rfl ?_
  refine WO.nil ?_
  refine thenL_n ?_
  refine WC.seq ?_
  refine WC.seq ?_
  refine WC.region ?_
  refine WO.mv rfl ?_
  refine WO.bin rfl rfl (by decide) (by decide) rfl ?_
  refine WO.mv rfl ?_
  refine WO.cutB (d := 38) 3 ((decide (t2 < 0)) || (decide (t2 > 10))) (fun q17 => ?_) (fun q17 => ?_) ?_
  · refine WO.gno rfl rfl ?_
    refine WO.gno rfl rfl ?_
    refine WO.pickT rfl rfl ?_
    refine WO.nil ?_
    exact ⟨rfl, rfl, (Cov.any rfl (orT q17) (Cov.skip rfl (Cov.skip rfl (Cov.skip rfl (Cov.skip rfl (Cov.refl _))))))⟩
  · skip
    refine WO.gyes rfl rfl ?_
    refine WO.mv rfl ?_
    refine WO.gyes rfl rfl ?_
    refine WO.bin rfl rfl (by decide) (by decide) rfl ?_
    refine WO.pickF rfl rfl ?_
    refine WO.nil ?_
    exact ⟨rfl, rfl, (Cov.any rfl (orF q17) (Cov.skip rfl (Cov.skip rfl (Cov.skip rfl (Cov.skip rfl (Cov.refl _))))))⟩
  refine WO.mv rfl ?_
  refine WO.cutB (d := 42) 3 (((decide (t2 < 0)) || (decide (t2 > 10))) || (decide (t0 < 1))) (fun q18 => ?_) (fun q18 => ?_) ?_
  · refine WO.gno rfl rfl ?_
    refine WO.gno rfl rfl ?_
    refine WO.pickT rfl rfl ?_
    refine WO.nil ?_
    exact ⟨rfl, rfl, (Cov.any rfl (orT q18) (Cov.skip rfl (Cov.skip rfl (Cov.skip rfl (Cov.skip rfl (Cov.refl _))))))⟩
  · skip
    refine WO.gyes rfl rfl ?_
    refine WO.mv rfl ?_
    refine WO.gyes rfl rfl ?_
    refine WO.bin rfl rfl (by decide) (by decide) rfl ?_
    refine WO.pickF rfl rfl ?_
    refine WO.nil ?_
    exact ⟨rfl, rfl, (Cov.any rfl (orF q18) (Cov.skip rfl (Cov.skip rfl (Cov.skip rfl (Cov.skip rfl (Cov.refl _))))))⟩
  refine WO.mv rfl ?_
  refine WO.cutB (d := 46) 3 ((((decide (t2 < 0)) || (decide (t2 > 10))) || (decide (t0 < 1))) || (decide (t0 > 12))) (fun q19 => ?_) (fun q19 => ?_) ?_
  · refine WO.gno rfl rfl ?_
    refine WO.gno rfl rfl ?_
    refine WO.pickT rfl rfl ?_
    refine WO.nil ?_
    exact ⟨rfl, rfl, (Cov.any rfl (orT q19) (Cov.skip rfl (Cov.skip rfl (Cov.skip rfl (Cov.skip rfl (Cov.refl _))))))⟩
  · skip
    refine WO.gyes rfl rfl ?_
    refine WO.mv rfl ?_
    refine WO.gyes rfl rfl ?_
    refine WO.bin rfl rfl (by decide) (by decide) rfl ?_
    refine WO.pickF rfl rfl ?_
    refine WO.nil ?_
    exact ⟨rfl, rfl, (Cov.any rfl (orF q19) (Cov.skip rfl (Cov.skip rfl (Cov.skip rfl (Cov.skip rfl (Cov.refl _))))))⟩
  refine WO.nil ?_
  refine thenL_n ?_
  obtain ⟨b52, e53, h⟩ := bindS h
  refine WC.mono (Q' := (fun b e l' m' n' => (match b with | .inl b54 => e = .normal ∧ ∃ S55 : Cx n, S55.m = m' ∧ S55.n = n' ∧ Cov l' [(0, .sc (.int .i64 t0)), (1, .sc vt1), (7, .sc v3), (8, .sc (.int .i64 r1.2)), (9, .sc v9), (10, .sc (.int .i64 r7.2))] ∧ Rd Y3 S55 vt1 t1 ∧ Ow Y3 S55 2 v3 r1.1 ∧ Ow Y3 S55 3 v9 r7.1 | .inr b54 => e = .ret ∧ ∃ S56 : Cx n, S56.m = m' ∧ S56.n = n' ∧ Cov l' [(6, .sc (.bool b54))])) b52) ?_ ?_
  · have h := e53
    dsimp only at h ⊢
    refine WC.cond rfl (fun q20 => ?_) (fun q20 => ?_)
    · have h := iteT q20 h
      refine WC.seq ?_
      refine WC.region ?_
      refine WO.mv rfl ?_
      refine WO.bin rfl rfl (by decide) (by decide) rfl ?_
      refine WO.mv rfl ?_
      refine WO.cutB (d := 52) 3 ((r13.2 != 1) || (r13.1 != 0)) (fun q21 => ?_) (fun q21 => ?_) ?_
      · refine WO.gno rfl rfl ?_
        refine WO.gno rfl rfl ?_
        refine WO.pickT rfl rfl ?_
        refine WO.nil ?_
        exact ⟨rfl, rfl, (Cov.any rfl (orT q21) (Cov.skip rfl (Cov.skip rfl (Cov.skip rfl (Cov.skip rfl (Cov.refl _))))))⟩
      · skip
        refine WO.gyes rfl rfl ?_
        refine WO.mv rfl ?_
        refine WO.gyes rfl rfl ?_
        refine WO.bin rfl rfl (by decide) (by decide) rfl ?_
        refine WO.pickF rfl rfl ?_
        refine WO.nil ?_
        exact ⟨rfl, rfl, (Cov.any rfl (orF q21) (Cov.skip rfl (Cov.skip rfl (Cov.skip rfl (Cov.skip rfl (Cov.refl _))))))⟩
      refine WO.nil ?_
      refine thenL_n ?_
      refine WC.cond rfl (fun q22 => ?_) (fun q22 => ?_)
      · have h := iteT q22 h
        refine WC.seq ?_
        refine WC.region ?_
        refine WO.asg rfl ?_
        refine WO.nil ?_
        refine thenL_n ?_
        refine WC.ret ?_
        obtain rfl := someI h
        exact ⟨rfl, ⟨S15, rfl, rfl, (Cov.cons rfl (Cov.nil _))⟩⟩
      · have h := iteF q22 h
        refine WC.skip ?_
        obtain rfl := someI h
        exact ⟨rfl, ⟨S15, rfl, rfl, (Cov.cons rfl (Cov.cons rfl (Cov.cons rfl (Cov.cons rfl (Cov.cons rfl (Cov.cons rfl (Cov.nil _))))))), hot1, ho4, ho10⟩⟩
    · have h := iteF q20 h
      refine WC.seq ?_
      refine WC.region ?_
      refine WO.mv rfl ?_
      refine WO.bin rfl rfl (by decide) (by decide) rfl ?_
      refine WO.mv rfl ?_
      obtain ⟨y33, e34, h⟩ := bindS h
      refine WO.cutS (d := 71) (S := S15) 16 y33 (fun q32 => ?_) (fun q32 => ?_) (fun S35 c36 => ?_)
      · have h := e34
        have h := iteT q32 h
        obtain rfl := someI h
        refine WO.gno rfl rfl ?_
        refine WO.gno rfl rfl ?_
        refine WO.gno rfl rfl ?_
        refine WO.gno rfl rfl ?_
        refine WO.gno rfl rfl ?_
        refine WO.gno rfl rfl ?_
        refine WO.gno rfl rfl ?_
        refine WO.gno rfl rfl ?_
        refine WO.gno rfl rfl ?_
        refine WO.gno rfl rfl ?_
        refine WO.gno rfl rfl ?_
        refine WO.gskip rfl rfl ?_
        refine WO.gskip rfl rfl ?_
        refine WO.gskip rfl rfl ?_
        refine WO.gno rfl rfl ?_
        refine WO.pickT rfl rfl ?_
        refine WO.nil ?_
        exact ⟨S15, rfl, rfl, Ch.refl _ _, (Cov.cons rfl (Cov.skip rfl (Cov.skip rfl (Cov.skip rfl (Cov.skip rfl (Cov.skip rfl (Cov.skip rfl (Cov.skip rfl (Cov.skip rfl (Cov.skip rfl (Cov.skip rfl (Cov.skip rfl (Cov.skip rfl (Cov.skip rfl (Cov.skip rfl (Cov.skip rfl (Cov.skip rfl (Cov.skip rfl (Cov.refl _)))))))))))))))))))⟩
      · have h := e34
        have h := iteF q32 h
        refine WO.gyes rfl rfl ?_
        refine WO.mv rfl ?_
        refine WO.gyes rfl rfl ?_
        refine WO.mv rfl ?_
        refine WO.gyes rfl rfl ?_
        refine WO.mv rfl ?_
        refine WO.gyes rfl rfl ?_
        refine WO.maxD rfl rfl ?_
        refine WO.gyes rfl rfl ?_
        refine WO.mv rfl ?_
        refine WO.gyes rfl rfl ?_
        obtain ⟨r23, e24, h⟩ := bindS h
        refine WO.callE (S := S15) rfl rfl (F104_ok e24) (fun S25 c26 => ?_)
        have hot1 := hot1.to c26
        have ho4 := ho4.to c26
        have ho10 := ho10.to c26
        refine WO.gyes rfl rfl ?_
        refine WO.bin rfl rfl (by decide) (by decide) rfl ?_
        refine WO.gyes rfl rfl ?_
        refine WO.mv rfl ?_
        refine WO.gyes rfl rfl ?_
        obtain ⟨r27, e28, h⟩ := bindS h
        refine WO.callE (S := S25) rfl rfl (F65_ok e28) (fun S29 c30 => ?_)
        have hot1 := hot1.to c30
        have ho4 := ho4.to c30
        have ho10 := ho10.to c30
        refine WO.gyes rfl rfl ?_
        refine WO.bin rfl rfl (by decide) (by decide) rfl ?_
        refine WO.gyes rfl rfl ?_
        refine WO.mv rfl ?_
        refine WO.cutB (d := 70) 4 (((wrapA .i64 (r13.1 * r23)) != r27) && (decide (t2 ≥ t0))) (fun q31 => ?_) (fun q31 => ?_) ?_
        · skip
          refine WO.gyes rfl rfl ?_
          refine WO.mv rfl ?_
          refine WO.gyes rfl rfl ?_
          refine WO.mv rfl ?_
          refine WO.gyes rfl rfl ?_
          refine WO.bin rfl rfl (by decide) (by decide) rfl ?_
          refine WO.gyes rfl rfl ?_
          refine WO.pickT rfl rfl ?_
          refine WO.nil ?_
          exact ⟨rfl, rfl, (Cov.any rfl (andT q31) (Cov.skip rfl (Cov.skip rfl (Cov.skip rfl (Cov.skip rfl (Cov.skip rfl (Cov.refl _)))))))⟩
        · refine WO.gno rfl rfl ?_
          refine WO.gno rfl rfl ?_
          refine WO.gno rfl rfl ?_
          refine WO.gyes rfl rfl ?_
          refine WO.pickF rfl rfl ?_
          refine WO.nil ?_
          exact ⟨rfl, rfl, (Cov.any rfl (andF q31) (Cov.skip rfl (Cov.skip rfl (Cov.skip rfl (Cov.skip rfl (Cov.skip rfl (Cov.refl _)))))))⟩
        obtain rfl := someI h
        refine WO.pickF rfl rfl ?_
        refine WO.nil ?_
        exact ⟨S29, rfl, rfl, (c26.trans c30), (Cov.cons rfl (Cov.skip rfl (Cov.skip rfl (Cov.skip rfl (Cov.skip rfl (Cov.skip rfl (Cov.skip rfl (Cov.skip rfl (Cov.skip rfl (Cov.skip rfl (Cov.skip rfl (Cov.skip rfl (Cov.skip rfl (Cov.skip rfl (Cov.refl _)))))))))))))))⟩
      have hot1 := hot1.to c36
      have ho4 := ho4.to c36
      have ho10 := ho10.to c36
      refine WO.mv rfl ?_
      obtain ⟨y47, e48, h⟩ := bindS h
      refine WO.cutS (d := 82) (S := S35) 10 y47 (fun q46 => ?_) (fun q46 => ?_) (fun S49 c50 => ?_)
      · have h := e48
        have h := iteT q46 h
        obtain rfl := someI h
        refine WO.gno rfl rfl ?_
        refine WO.gno rfl rfl ?_
        refine WO.gno rfl rfl ?_
        refine WO.gno rfl rfl ?_
        refine WO.gskip rfl rfl ?_
        refine WO.gskip rfl rfl ?_
        refine WO.gskip rfl rfl ?_
        refine WO.gskip rfl rfl ?_
        refine WO.gno rfl rfl ?_
        refine WO.pickT rfl rfl ?_
        refine WO.nil ?_
        exact ⟨S35, rfl, rfl, Ch.refl _ _, (Cov.cons rfl (Cov.skip rfl (Cov.skip rfl (Cov.skip rfl (Cov.skip rfl (Cov.skip rfl (Cov.skip rfl (Cov.skip rfl (Cov.skip rfl (Cov.skip rfl (Cov.skip rfl (Cov.skip rfl (Cov.refl _)))))))))))))⟩
      · have h := e48
        have h := iteF q46 h
        refine WO.gyes rfl rfl ?_
        refine WO.mv rfl ?_
        refine WO.gyes rfl rfl ?_
        refine WO.mv rfl ?_
        refine WO.gyes rfl rfl ?_
        refine WO.bin rfl rfl (by decide) (by decide) rfl ?_
        refine WO.gyes rfl rfl ?_
        refine WO.mv rfl ?_
        obtain ⟨y42, e43, h⟩ := bindS h
        refine WO.cutS (d := 81) (S := S35) 5 y42 (fun q41 => ?_) (fun q41 => ?_) (fun S44 c45 => ?_)
        · have h := e43
          have h := iteT q41 h
          refine WO.gyes rfl rfl ?_
          refine WO.mv rfl ?_
          refine WO.gyes rfl rfl ?_
          refine WO.mv rfl ?_
          refine WO.gyes rfl rfl ?_
          obtain ⟨r37, e38, h⟩ := bindS h
          refine WO.callE (S := S35) rfl rfl (F65_ok e38) (fun S39 c40 => ?_)
          have hot1 := hot1.to c40
          have ho4 := ho4.to c40
          have ho10 := ho10.to c40
          refine WO.gyes rfl rfl ?_
          refine WO.bin rfl rfl (by decide) (by decide) rfl ?_
          obtain rfl := someI h
          refine WO.gyes rfl rfl ?_
          refine WO.pickT rfl rfl ?_
          refine WO.nil ?_
          exact ⟨S39, rfl, rfl, c40, (Cov.cons rfl (Cov.skip rfl (Cov.skip rfl (Cov.skip rfl (Cov.skip rfl (Cov.skip rfl (Cov.skip rfl (Cov.refl _))))))))⟩
        · have h := e43
          have h := iteF q41 h
          obtain rfl := someI h
          refine WO.gno rfl rfl ?_
          refine WO.gno rfl rfl ?_
          refine WO.gno rfl rfl ?_
          refine WO.gno rfl rfl ?_
          refine WO.gyes rfl rfl ?_
          refine WO.pickF rfl rfl ?_
          refine WO.nil ?_
          exact ⟨S35, rfl, rfl, Ch.refl _ _, (Cov.cons rfl (Cov.skip rfl (Cov.skip rfl (Cov.skip rfl (Cov.skip rfl (Cov.skip rfl (Cov.skip rfl (Cov.refl _))))))))⟩
        have hot1 := hot1.to c45
        have ho4 := ho4.to c45
        have ho10 := ho10.to c45
        obtain rfl := someI h
        refine WO.pickF rfl rfl ?_
        refine WO.nil ?_
        exact ⟨S44, rfl, rfl, c45, (Cov.cons rfl (Cov.skip rfl (Cov.skip rfl (Cov.skip rfl (Cov.skip rfl (Cov.skip rfl (Cov.skip rfl (Cov.refl _))))))))⟩
      have hot1 := hot1.to c50
      have ho4 := ho4.to c50
      have ho10 := ho10.to c50
      refine WO.nil ?_
      refine thenL_n ?_
      refine WC.cond rfl (fun q51 => ?_) (fun q51 => ?_)
      · have h := iteT q51 h
        refine WC.seq ?_
        refine WC.region ?_
        refine WO.asg rfl ?_
        refine WO.nil ?_
        refine thenL_n ?_
        refine WC.ret ?_
        obtain rfl := someI h
        exact ⟨rfl, ⟨S49, rfl, rfl, (Cov.cons rfl (Cov.nil _))⟩⟩
      · have h := iteF q51 h
        refine WC.skip ?_
        obtain rfl := someI h
        exact ⟨rfl, ⟨S49, rfl, rfl, (Cov.cons rfl (Cov.cons rfl (Cov.cons rfl (Cov.cons rfl (Cov.cons rfl (Cov.cons rfl (Cov.nil _))))))), hot1, ho4, ho10⟩⟩
  dsimp only
  cases b52 with
  | inl b57 =>
    simp only at h
    rintro _ _ _ _ ⟨rfl, ⟨S58, rfl, rfl, hc59, hot1, ho4, ho10⟩⟩
    refine thenL_n ?_
    refine WC.cov hc59 ?_
    refine WC.seq ?_
    refine WC.region ?_
    refine WO.mv rfl ?_
    refine WO.mv rfl ?_
    obtain ⟨r60, e61, h⟩ := bindS h
    refine WO.callE (S := S58) rfl rfl (F105_ok e61 hot1.vw) (fun S62 c63 => ?_)
    have hot1 := hot1.to c63
    have ho4 := ho4.to c63
    have ho10 := ho10.to c63
    refine WO.asg rfl ?_
    refine WO.nil ?_
    refine thenL_n ?_
    refine WC.seq ?_
    refine WC.seq ?_
    refine WC.region ?_
    refine WO.mv rfl ?_
    refine WO.mv rfl ?_
    obtain ⟨r64, e65, h⟩ := bindS h
    refine WO.callE (S := S62) rfl rfl (F106_ok e65 hot1.vw) (fun S66 c67 => ?_)
    have hot1 := hot1.to c67
    have ho4 := ho4.to c67
    have ho10 := ho10.to c67
    refine WO.mv rfl ?_
    refine WO.bin rfl rfl (by decide) (by decide) rfl ?_
    refine WO.nil ?_
    refine thenL_n ?_
    refine WC.cond rfl (fun q68 => ?_) (fun q68 => ?_)
    · have h := iteT q68 h
      refine WC.seq ?_
      refine WC.region ?_
      refine WO.asg rfl ?_
      refine WO.nil ?_
      refine thenL_n ?_
      refine WC.ret ?_
      refine thenL_r ?_
      obtain rfl := someI h
      exact ⟨.inr rfl, _, _, rfl, rfl, rfl⟩
    · have h := iteF q68 h
      refine WC.skip ?_
      refine thenL_n ?_
      refine WC.seq ?_
      refine WC.seq ?_
      refine WC.region ?_
      refine WO.mv rfl ?_
      refine WO.bin rfl rfl (by decide) (by decide) rfl ?_
      refine WO.nil ?_
      refine thenL_n ?_
      refine WC.cond rfl (fun q69 => ?_) (fun q69 => ?_)
      · have h := iteT q69 h
        refine WC.seq ?_
        refine WC.region ?_
        refine WO.mv rfl ?_
        refine WO.mv rfl ?_
        refine WO.bin rfl rfl (by decide) (by decide) rfl ?_
        refine WO.mv rfl ?_
        refine WO.cutB (d := 100) 4 ((r1.2 == r60) && (r7.2 == r60)) (fun q70 => ?_) (fun q70 => ?_) ?_
        · skip
          refine WO.gyes rfl rfl ?_
          refine WO.mv rfl ?_
          refine WO.gyes rfl rfl ?_
          refine WO.mv rfl ?_
          refine WO.gyes rfl rfl ?_
          refine WO.bin rfl rfl (by decide) (by decide) rfl ?_
          refine WO.pickT rfl rfl ?_
          refine WO.nil ?_
          exact ⟨rfl, rfl, (Cov.any rfl (andT q70) (Cov.skip rfl (Cov.skip rfl (Cov.skip rfl (Cov.skip rfl (Cov.skip rfl (Cov.refl _)))))))⟩
        · refine WO.gno rfl rfl ?_
          refine WO.gno rfl rfl ?_
          refine WO.gno rfl rfl ?_
          refine WO.pickF rfl rfl ?_
          refine WO.nil ?_
          exact ⟨rfl, rfl, (Cov.any rfl (andF q70) (Cov.skip rfl (Cov.skip rfl (Cov.skip rfl (Cov.skip rfl (Cov.skip rfl (Cov.refl _)))))))⟩
        refine WO.mv rfl ?_
        refine WO.cutB (d := 108) 7 (((r1.2 == r60) && (r7.2 == r60)) && ((wrapA .i64 ((r1.1.length : Int) + (r7.1.length : Int))) == 0)) (fun q71 => ?_) (fun q71 => ?_) ?_
        · skip
          refine WO.gyes rfl rfl ?_
          refine WO.mv rfl ?_
          refine WO.gyes rfl rfl ?_
          refine WO.lenS rfl ho4.slv rfl ?_
          refine WO.gyes rfl rfl ?_
          refine WO.mv rfl ?_
          refine WO.gyes rfl rfl ?_
          refine WO.lenS rfl ho10.slv rfl ?_
          refine WO.gyes rfl rfl ?_
          refine WO.bin rfl rfl (by decide) (by decide) rfl ?_
          refine WO.gyes rfl rfl ?_
          refine WO.bin rfl rfl (by decide) (by decide) rfl ?_
          refine WO.pickT rfl rfl ?_
          refine WO.nil ?_
          exact ⟨rfl, rfl, (Cov.any rfl (andT q71) (Cov.skip rfl (Cov.skip rfl (Cov.skip rfl (Cov.skip rfl (Cov.skip rfl (Cov.skip rfl (Cov.skip rfl (Cov.skip rfl (Cov.refl _))))))))))⟩
        · refine WO.gno rfl rfl ?_
          refine WO.gno rfl rfl ?_
          refine WO.gno rfl rfl ?_
          refine WO.gno rfl rfl ?_
          refine WO.gno rfl rfl ?_
          refine WO.gno rfl rfl ?_
          refine WO.pickF rfl rfl ?_
          refine WO.nil ?_
          exact ⟨rfl, rfl, (Cov.any rfl (andF q71) (Cov.skip rfl (Cov.skip rfl (Cov.skip rfl (Cov.skip rfl (Cov.skip rfl (Cov.skip rfl (Cov.skip rfl (Cov.skip rfl (Cov.refl _))))))))))⟩
        refine WO.asg rfl ?_
        refine WO.nil ?_
        refine thenL_n ?_
        refine WC.ret ?_
        refine thenL_r ?_
        obtain rfl := someI h
        exact ⟨.inr rfl, _, _, rfl, rfl, rfl⟩
      · have h := iteF q69 h
        refine WC.skip ?_
        refine thenL_n ?_
        refine WC.seq ?_
        refine WC.region ?_
        refine WO.mv rfl ?_
        refine WO.mv rfl ?_
        obtain ⟨r72, e73, h⟩ := bindS h
        refine WO.callF (S := S66) 4 rfl rfl (F107_ok e73 hot1.vw) Lay.flat_fl (fun v74 S76 c77 ho75 => ?_)
        have hot1 := hot1.to c77
        have ho4 := ho4.to c77
        have ho10 := ho10.to c77
        refine WO.asg rfl ?_
        refine WO.nil ?_
        refine thenL_n ?_
        refine WC.seq ?_
        refine WC.seq ?_
        refine WC.region ?_
        refine WO.mv rfl ?_
        refine WO.bin rfl rfl (by decide) (by decide) rfl ?_
        refine WO.mv rfl ?_
        obtain ⟨y83, e84, h⟩ := bindS h
        refine WO.cutS (d := 119) (S := S76) 5 y83 (fun q82 => ?_) (fun q82 => ?_) (fun S85 c86 => ?_)
        · have h := e84
          have h := iteT q82 h
          obtain rfl := someI h
          refine WO.gno rfl rfl ?_
          refine WO.gno rfl rfl ?_
          refine WO.gno rfl rfl ?_
          refine WO.gno rfl rfl ?_
          refine WO.pickT rfl rfl ?_
          refine WO.nil ?_
          exact ⟨S76, rfl, rfl, Ch.refl _ _, (Cov.cons rfl (Cov.skip rfl (Cov.skip rfl (Cov.skip rfl (Cov.skip rfl (Cov.skip rfl (Cov.skip rfl (Cov.refl _))))))))⟩
        · have h := e84
          have h := iteF q82 h
          refine WO.gyes rfl rfl ?_
          refine WO.mv rfl ?_
          refine WO.gyes rfl rfl ?_
          refine WO.mv rfl ?_
          refine WO.gyes rfl rfl ?_
          obtain ⟨r78, e79, h⟩ := bindS h
          refine WO.callE (S := S76) rfl rfl (F32_ok e79 ho4.vw ho75.vw) (fun S80 c81 => ?_)
          have hot1 := hot1.to c81
          have ho4 := ho4.to c81
          have ho10 := ho10.to c81
          have ho75 := ho75.to c81
          refine WO.gyes rfl rfl ?_
          refine WO.do rfl rfl ?_
          obtain rfl := someI h
          refine WO.pickF rfl rfl ?_
          refine WO.nil ?_
          exact ⟨S80, rfl, rfl, c81, (Cov.cons rfl (Cov.skip rfl (Cov.skip rfl (Cov.skip rfl (Cov.skip rfl (Cov.skip rfl (Cov.skip rfl (Cov.refl _))))))))⟩
        have hot1 := hot1.to c86
        have ho4 := ho4.to c86
        have ho10 := ho10.to c86
        have ho75 := ho75.to c86
        refine WO.nil ?_
        refine thenL_n ?_
        refine WC.cond rfl (fun q87 => ?_) (fun q87 => ?_)
        · have h := iteT q87 h
          refine WC.seq ?_
          refine WC.region ?_
          refine WO.asg rfl ?_
          refine WO.nil ?_
          refine thenL_n ?_
          refine WC.ret ?_
          refine thenL_r ?_
          obtain rfl := someI h
          exact ⟨.inr rfl, _, _, rfl, rfl, rfl⟩
        · have h := iteF q87 h
          refine WC.skip ?_
          refine thenL_n ?_
          refine WC.seq ?_
          refine WC.region ?_
          refine WO.mv rfl ?_
          obtain ⟨r88, e89, h⟩ := bindS h
          refine WO.callI (S := S85) ho75 rfl rfl (fun bq hI hB => F108_ok e89 S85.le hI) Lay.flat_fl (fun S90 c91 ho75 => ?_)
          have hot1 := hot1.to c91
          have ho4 := ho4.to c91
          have ho10 := ho10.to c91
          refine WO.nil ?_
          refine thenL_n ?_
          refine WC.seq ?_
          refine WC.region ?_
          refine WO.mv rfl ?_
          refine WO.bin rfl rfl (by decide) (by decide) rfl ?_
          refine WO.mv rfl ?_
          obtain ⟨y97, e98, h⟩ := bindS h
          refine WO.cutS (d := 128) (S := S90) 4 y97 (fun q96 => ?_) (fun q96 => ?_) (fun S99 c100 => ?_)
          · have h := e98
            have h := iteT q96 h
            refine WO.gyes rfl rfl ?_
            refine WO.mv rfl ?_
            refine WO.gyes rfl rfl ?_
            refine WO.mv rfl ?_
            refine WO.gyes rfl rfl ?_
            obtain ⟨r92, e93, h⟩ := bindS h
            refine WO.callE (S := S90) rfl rfl (F32_ok e93 ho10.vw ho75.vw) (fun S94 c95 => ?_)
            have hot1 := hot1.to c95
            have ho4 := ho4.to c95
            have ho10 := ho10.to c95
            have ho75 := ho75.to c95
            obtain rfl := someI h
            refine WO.pickT rfl rfl ?_
            refine WO.nil ?_
            exact ⟨S94, rfl, rfl, c95, (Cov.cons rfl (Cov.skip rfl (Cov.skip rfl (Cov.skip rfl (Cov.skip rfl (Cov.skip rfl (Cov.refl _)))))))⟩
          · have h := e98
            have h := iteF q96 h
            obtain rfl := someI h
            refine WO.gno rfl rfl ?_
            refine WO.gno rfl rfl ?_
            refine WO.gno rfl rfl ?_
            refine WO.pickF rfl rfl ?_
            refine WO.nil ?_
            exact ⟨S90, rfl, rfl, Ch.refl _ _, (Cov.cons rfl (Cov.skip rfl (Cov.skip rfl (Cov.skip rfl (Cov.skip rfl (Cov.skip rfl (Cov.refl _)))))))⟩
          have hot1 := hot1.to c100
          have ho4 := ho4.to c100
          have ho10 := ho10.to c100
          have ho75 := ho75.to c100
          refine WO.asg rfl ?_
          refine WO.nil ?_
          refine thenL_n ?_
          refine WC.ret ?_
          obtain rfl := someI h
          exact ⟨.inr rfl, _, _, rfl, rfl, rfl⟩
  | inr b57 =>
    simp only at h
    rintro _ _ _ _ ⟨rfl, ⟨S101, rfl, rfl, hc102⟩⟩
    refine thenL_r ?_
    obtain rfl := someI h
    exact ⟨.inr rfl, _, _, (resK_cov hc102 rfl), rfl, rfl⟩
end Go.Proofs.Ytdkmepeolmdccaa

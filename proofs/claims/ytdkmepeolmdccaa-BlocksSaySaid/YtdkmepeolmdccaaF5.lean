/- The machine answers F5: printed by a program of ours (gen.py). -/
import Derived.Test.YtdkmepeolmdccaaDef
import Derived.Test.YtdkmepeolmdccaaEnv
import Derived.Test.YtdkmepeolmdccaaF32
import Derived.Test.YtdkmepeolmdccaaF33
import Derived.Test.YtdkmepeolmdccaaF34
import Derived.Test.YtdkmepeolmdccaaF35
import Derived.Test.YtdkmepeolmdccaaF36
import Derived.Test.YtdkmepeolmdccaaF37
import Derived.Test.YtdkmepeolmdccaaF38
import Derived.Test.YtdkmepeolmdccaaF39
import Derived.Test.YtdkmepeolmdccaaF40
import Derived.Test.YtdkmepeolmdccaaF41
set_option linter.unusedVariables false
namespace Go.Proofs.Ytdkmepeolmdccaa
open Go.Am
theorem F5.fn : E.fn 5 = some ⟨184, (Try.f5.body.getD .skip), Try.f5.results.toList, []⟩ := rfl
theorem F5_ok {F : Nat} {m : Mem} {n : Nat} {r : Bool} {t0 : List Int} {t1 : Int} {t2 : Int} {t3 : List Int} {vt0 : SV} {vt3 : SV} (h : F5 F t0 t1 t2 t3 = some r) (kt0 : Vw Y3 n m vt0 t0) (kt3 : Vw Y3 n m vt3 t3) : Ret E n 5 [.sc vt0, .sc (.int .i64 t1), .sc (.int .i64 t2), .sc vt3] m n (fun v m' n' => v = .sc (.bool r)) := by
  unfold F5 at h
  refine Ret.walk F5.fn ?_
  refine WC.start fun S0 em en hz => ?_
  have hot0 := kt0.rdS em hz
  have hot3 := kt3.rdS em hz
  refine WC.seq ?_
  refine WC.region ?_
  refine WO.asg rfl ?_
  refine WO.nil ?_
  refine thenL_n ?_
  refine WC.seq ?_
  refine WC.region ?_
  refine WO.mv rfl ?_
  refine WO.mv rfl ?_
  obtain ⟨r1, e2, h⟩ := bindS h
  refine WO.callE (S := S0) rfl rfl (F33_ok e2) (fun S3 c4 => ?_)
  have hot0 := hot0.to c4
  have hot3 := hot3.to c4
  refine WO.mv rfl ?_
  refine WO.do rfl rfl ?_
  refine WO.do rfl rfl ?_
  refine WO.asg rfl ?_
  refine WO.asg rfl ?_
  refine WO.nil ?_
  refine thenL_n ?_
  refine WC.seq ?_
  refine WC.region ?_
  refine WO.mv rfl ?_
  obtain ⟨r5, e6, h⟩ := bindS h
  refine WO.callE (S := S3) rfl rfl (F34_ok e6) (fun S7 c8 => ?_)
  have hot0 := hot0.to c8
  have hot3 := hot3.to c8
  refine WO.mv rfl ?_
  refine WO.do rfl rfl ?_
  refine WO.do rfl rfl ?_
  refine WO.asg rfl ?_
  refine WO.asg rfl ?_
  refine WO.nil ?_
  refine thenL_n ?_
  refine WC.seq ?_
  refine WC.region ?_
  refine WO.mv rfl ?_
  obtain ⟨r9, e10, h⟩ := bindS h
  refine WO.callF (S := S7) 2 rfl rfl (F35_ok e10 hot0.vw) Lay.flat_fl (fun v11 S13 c14 ho12 => ?_)
  have hot0 := hot0.to c14
  have hot3 := hot3.to c14
  refine WO.mv rfl ?_
  refine WO.do rfl rfl ?_
  refine WO.do rfl rfl ?_
  refine WO.asg rfl ?_
  refine WO.asg rfl ?_
  refine WO.nil ?_
  refine thenL_n ?_
  refine WC.seq ?_
  refine WC.region ?_
  refine WO.mv rfl ?_
  obtain ⟨r15, e16, h⟩ := bindS h
  refine WO.callF (S := S13) 3 rfl rfl (F36_ok e16 hot3.vw) Lay.flat_fl (fun v17 S19 c20 ho18 => ?_)
  have hot0 := hot0.to c20
  have hot3 := hot3.to c20
  have ho12 := ho12.to c20
  refine WO.mv rfl ?_
  refine WO.do rfl rfl ?_
  refine WO.do rfl rfl ?_
  refine WO.asg rfl ?_
  refine WO.asg rfl ?_
  refine WO.nil ?_
  refine thenL_n ?_
  refine WC.seq ?_
  refine WC.seq ?_
  refine WC.region ?_
  refine WO.mv rfl ?_
  refine WO.bin rfl rfl (by decide) (by decide) rfl ?_
  refine WO.mv rfl ?_
  refine WO.cutB (d := 48) 3 ((decide (t1 < 0)) || (decide (t1 > 10))) (fun q21 => ?_) (fun q21 => ?_) ?_
  · refine WO.gno rfl rfl ?_
    refine WO.gno rfl rfl ?_
    refine WO.pickT rfl rfl ?_
    refine WO.nil ?_
    exact ⟨rfl, rfl, (Cov.any rfl (orT q21) (Cov.skip rfl (Cov.skip rfl (Cov.skip rfl (Cov.skip rfl (Cov.refl _))))))⟩
  · skip
    refine WO.gyes rfl rfl ?_
    refine WO.mv rfl ?_
    refine WO.gyes rfl rfl ?_
    refine WO.bin rfl rfl (by decide) (by decide) rfl ?_
    refine WO.pickF rfl rfl ?_
    refine WO.nil ?_
    exact ⟨rfl, rfl, (Cov.any rfl (orF q21) (Cov.skip rfl (Cov.skip rfl (Cov.skip rfl (Cov.skip rfl (Cov.refl _))))))⟩
  refine WO.nil ?_
  refine thenL_n ?_
  obtain ⟨b51, e52, h⟩ := bindS h
  refine WC.mono (Q' := (fun b e l' m' n' => (match b with | .inl b53 => e = .normal ∧ ∃ S54 : Cx n, S54.m = m' ∧ S54.n = n' ∧ Cov l' [(0, .sc vt0), (3, .sc vt3), (13, .sc v11), (14, .sc (.int .i64 r9.2)), (15, .sc v17), (16, .sc (.int .i64 r15.2))] ∧ Rd Y3 S54 vt0 t0 ∧ Rd Y3 S54 vt3 t3 ∧ Ow Y3 S54 2 v11 r9.1 ∧ Ow Y3 S54 3 v17 r15.1 | .inr b53 => e = .ret ∧ ∃ S55 : Cx n, S55.m = m' ∧ S55.n = n' ∧ Cov l' [(8, .sc (.bool b53))])) b51) ?_ ?_
  · have h := e52
    dsimp only at h ⊢
    refine WC.cond rfl (fun q22 => ?_) (fun q22 => ?_)
    · have h := iteT q22 h
      refine WC.seq ?_
      refine WC.region ?_
      refine WO.mv rfl ?_
      refine WO.bin rfl rfl (by decide) (by decide) rfl ?_
      refine WO.mv rfl ?_
      refine WO.cutB (d := 55) 4 ((r1.2 != 1) || (r5.2 != r1.2)) (fun q23 => ?_) (fun q23 => ?_) ?_
      · refine WO.gno rfl rfl ?_
        refine WO.gno rfl rfl ?_
        refine WO.gno rfl rfl ?_
        refine WO.pickT rfl rfl ?_
        refine WO.nil ?_
        exact ⟨rfl, rfl, (Cov.any rfl (orT q23) (Cov.skip rfl (Cov.skip rfl (Cov.skip rfl (Cov.skip rfl (Cov.skip rfl (Cov.refl _)))))))⟩
      · skip
        refine WO.gyes rfl rfl ?_
        refine WO.mv rfl ?_
        refine WO.gyes rfl rfl ?_
        refine WO.mv rfl ?_
        refine WO.gyes rfl rfl ?_
        refine WO.bin rfl rfl (by decide) (by decide) rfl ?_
        refine WO.pickF rfl rfl ?_
        refine WO.nil ?_
        exact ⟨rfl, rfl, (Cov.any rfl (orF q23) (Cov.skip rfl (Cov.skip rfl (Cov.skip rfl (Cov.skip rfl (Cov.skip rfl (Cov.refl _)))))))⟩
      refine WO.mv rfl ?_
      refine WO.cutB (d := 59) 3 (((r1.2 != 1) || (r5.2 != r1.2)) || (r1.1 != 0)) (fun q24 => ?_) (fun q24 => ?_) ?_
      · refine WO.gno rfl rfl ?_
        refine WO.gno rfl rfl ?_
        refine WO.pickT rfl rfl ?_
        refine WO.nil ?_
        exact ⟨rfl, rfl, (Cov.any rfl (orT q24) (Cov.skip rfl (Cov.skip rfl (Cov.skip rfl (Cov.skip rfl (Cov.refl _))))))⟩
      · skip
        refine WO.gyes rfl rfl ?_
        refine WO.mv rfl ?_
        refine WO.gyes rfl rfl ?_
        refine WO.bin rfl rfl (by decide) (by decide) rfl ?_
        refine WO.pickF rfl rfl ?_
        refine WO.nil ?_
        exact ⟨rfl, rfl, (Cov.any rfl (orF q24) (Cov.skip rfl (Cov.skip rfl (Cov.skip rfl (Cov.skip rfl (Cov.refl _))))))⟩
      refine WO.mv rfl ?_
      refine WO.cutB (d := 63) 3 ((((r1.2 != 1) || (r5.2 != r1.2)) || (r1.1 != 0)) || (r5.1 != 0)) (fun q25 => ?_) (fun q25 => ?_) ?_
      · refine WO.gno rfl rfl ?_
        refine WO.gno rfl rfl ?_
        refine WO.pickT rfl rfl ?_
        refine WO.nil ?_
        exact ⟨rfl, rfl, (Cov.any rfl (orT q25) (Cov.skip rfl (Cov.skip rfl (Cov.skip rfl (Cov.skip rfl (Cov.refl _))))))⟩
      · skip
        refine WO.gyes rfl rfl ?_
        refine WO.mv rfl ?_
        refine WO.gyes rfl rfl ?_
        refine WO.bin rfl rfl (by decide) (by decide) rfl ?_
        refine WO.pickF rfl rfl ?_
        refine WO.nil ?_
        exact ⟨rfl, rfl, (Cov.any rfl (orF q25) (Cov.skip rfl (Cov.skip rfl (Cov.skip rfl (Cov.skip rfl (Cov.refl _))))))⟩
      refine WO.nil ?_
      refine thenL_n ?_
      refine WC.cond rfl (fun q26 => ?_) (fun q26 => ?_)
      · have h := iteT q26 h
        refine WC.seq ?_
        refine WC.region ?_
        refine WO.asg rfl ?_
        refine WO.nil ?_
        refine thenL_n ?_
        refine WC.ret ?_
        obtain rfl := someI h
        exact ⟨rfl, ⟨S19, rfl, rfl, (Cov.cons rfl (Cov.nil _))⟩⟩
      · have h := iteF q26 h
        refine WC.skip ?_
        obtain rfl := someI h
        exact ⟨rfl, ⟨S19, rfl, rfl, (Cov.cons rfl (Cov.cons rfl (Cov.cons rfl (Cov.cons rfl (Cov.cons rfl (Cov.cons rfl (Cov.nil _))))))), hot0, hot3, ho12, ho18⟩⟩
    · have h := iteF q22 h
      refine WC.seq ?_
      refine WC.region ?_
      refine WO.mv rfl ?_
      refine WO.bin rfl rfl (by decide) (by decide) rfl ?_
      refine WO.mv rfl ?_
      obtain ⟨y32, e33, h⟩ := bindS h
      refine WO.cutS (d := 71) (S := S19) 5 y32 (fun q31 => ?_) (fun q31 => ?_) (fun S34 c35 => ?_)
      · have h := e33
        have h := iteT q31 h
        obtain rfl := someI h
        refine WO.gno rfl rfl ?_
        refine WO.gno rfl rfl ?_
        refine WO.gno rfl rfl ?_
        refine WO.gno rfl rfl ?_
        refine WO.pickT rfl rfl ?_
        refine WO.nil ?_
        exact ⟨S19, rfl, rfl, Ch.refl _ _, (Cov.cons rfl (Cov.skip rfl (Cov.skip rfl (Cov.skip rfl (Cov.skip rfl (Cov.skip rfl (Cov.skip rfl (Cov.refl _))))))))⟩
      · have h := e33
        have h := iteF q31 h
        refine WO.gyes rfl rfl ?_
        refine WO.mv rfl ?_
        refine WO.gyes rfl rfl ?_
        refine WO.mv rfl ?_
        refine WO.gyes rfl rfl ?_
        obtain ⟨r27, e28, h⟩ := bindS h
        refine WO.callE (S := S19) rfl rfl (F37_ok e28) (fun S29 c30 => ?_)
        have hot0 := hot0.to c30
        have hot3 := hot3.to c30
        have ho12 := ho12.to c30
        have ho18 := ho18.to c30
        refine WO.gyes rfl rfl ?_
        refine WO.bin rfl rfl (by decide) (by decide) rfl ?_
        obtain rfl := someI h
        refine WO.pickF rfl rfl ?_
        refine WO.nil ?_
        exact ⟨S29, rfl, rfl, c30, (Cov.cons rfl (Cov.skip rfl (Cov.skip rfl (Cov.skip rfl (Cov.skip rfl (Cov.skip rfl (Cov.skip rfl (Cov.refl _))))))))⟩
      have hot0 := hot0.to c35
      have hot3 := hot3.to c35
      have ho12 := ho12.to c35
      have ho18 := ho18.to c35
      refine WO.nil ?_
      refine thenL_n ?_
      refine WC.cond rfl (fun q36 => ?_) (fun q36 => ?_)
      · have h := iteT q36 h
        refine WC.seq ?_
        refine WC.region ?_
        refine WO.asg rfl ?_
        refine WO.nil ?_
        refine thenL_n ?_
        refine WC.ret ?_
        obtain rfl := someI h
        exact ⟨rfl, ⟨S34, rfl, rfl, (Cov.cons rfl (Cov.nil _))⟩⟩
      · have h := iteF q36 h
        refine WC.seq ?_
        refine WC.region ?_
        refine WO.mv rfl ?_
        refine WO.bin rfl rfl (by decide) (by decide) rfl ?_
        refine WO.mv rfl ?_
        refine WO.cutB (d := 77) 3 ((decide (t2 < 0)) || (decide (t2 > 10))) (fun q37 => ?_) (fun q37 => ?_) ?_
        · refine WO.gno rfl rfl ?_
          refine WO.gno rfl rfl ?_
          refine WO.pickT rfl rfl ?_
          refine WO.nil ?_
          exact ⟨rfl, rfl, (Cov.any rfl (orT q37) (Cov.skip rfl (Cov.skip rfl (Cov.skip rfl (Cov.skip rfl (Cov.refl _))))))⟩
        · skip
          refine WO.gyes rfl rfl ?_
          refine WO.mv rfl ?_
          refine WO.gyes rfl rfl ?_
          refine WO.bin rfl rfl (by decide) (by decide) rfl ?_
          refine WO.pickF rfl rfl ?_
          refine WO.nil ?_
          exact ⟨rfl, rfl, (Cov.any rfl (orF q37) (Cov.skip rfl (Cov.skip rfl (Cov.skip rfl (Cov.skip rfl (Cov.refl _))))))⟩
        refine WO.nil ?_
        refine thenL_n ?_
        refine WC.cond rfl (fun q38 => ?_) (fun q38 => ?_)
        · have h := iteT q38 h
          refine WC.seq ?_
          refine WC.region ?_
          refine WO.mv rfl ?_
          refine WO.bin rfl rfl (by decide) (by decide) rfl ?_
          refine WO.mv rfl ?_
          refine WO.cutB (d := 83) 3 ((r1.2 != 1) || (r1.1 != 0)) (fun q39 => ?_) (fun q39 => ?_) ?_
          · refine WO.gno rfl rfl ?_
            refine WO.gno rfl rfl ?_
            refine WO.pickT rfl rfl ?_
            refine WO.nil ?_
            exact ⟨rfl, rfl, (Cov.any rfl (orT q39) (Cov.skip rfl (Cov.skip rfl (Cov.skip rfl (Cov.skip rfl (Cov.refl _))))))⟩
          · skip
            refine WO.gyes rfl rfl ?_
            refine WO.mv rfl ?_
            refine WO.gyes rfl rfl ?_
            refine WO.bin rfl rfl (by decide) (by decide) rfl ?_
            refine WO.pickF rfl rfl ?_
            refine WO.nil ?_
            exact ⟨rfl, rfl, (Cov.any rfl (orF q39) (Cov.skip rfl (Cov.skip rfl (Cov.skip rfl (Cov.skip rfl (Cov.refl _))))))⟩
          refine WO.nil ?_
          refine thenL_n ?_
          refine WC.cond rfl (fun q40 => ?_) (fun q40 => ?_)
          · have h := iteT q40 h
            refine WC.seq ?_
            refine WC.region ?_
            refine WO.asg rfl ?_
            refine WO.nil ?_
            refine thenL_n ?_
            refine WC.ret ?_
            obtain rfl := someI h
            exact ⟨rfl, ⟨S34, rfl, rfl, (Cov.cons rfl (Cov.nil _))⟩⟩
          · have h := iteF q40 h
            refine WC.skip ?_
            obtain rfl := someI h
            exact ⟨rfl, ⟨S34, rfl, rfl, (Cov.cons rfl (Cov.cons rfl (Cov.cons rfl (Cov.cons rfl (Cov.cons rfl (Cov.cons rfl (Cov.nil _))))))), hot0, hot3, ho12, ho18⟩⟩
        · have h := iteF q38 h
          refine WC.seq ?_
          refine WC.region ?_
          refine WO.mv rfl ?_
          refine WO.bin rfl rfl (by decide) (by decide) rfl ?_
          refine WO.mv rfl ?_
          obtain ⟨y46, e47, h⟩ := bindS h
          refine WO.cutS (d := 92) (S := S34) 6 y46 (fun q45 => ?_) (fun q45 => ?_) (fun S48 c49 => ?_)
          · have h := e47
            have h := iteT q45 h
            obtain rfl := someI h
            refine WO.gno rfl rfl ?_
            refine WO.gno rfl rfl ?_
            refine WO.gno rfl rfl ?_
            refine WO.gno rfl rfl ?_
            refine WO.gno rfl rfl ?_
            refine WO.pickT rfl rfl ?_
            refine WO.nil ?_
            exact ⟨S34, rfl, rfl, Ch.refl _ _, (Cov.cons rfl (Cov.skip rfl (Cov.skip rfl (Cov.skip rfl (Cov.skip rfl (Cov.skip rfl (Cov.skip rfl (Cov.skip rfl (Cov.refl _)))))))))⟩
          · have h := e47
            have h := iteF q45 h
            refine WO.gyes rfl rfl ?_
            refine WO.mv rfl ?_
            refine WO.gyes rfl rfl ?_
            refine WO.mv rfl ?_
            refine WO.gyes rfl rfl ?_
            refine WO.mv rfl ?_
            refine WO.gyes rfl rfl ?_
            obtain ⟨r41, e42, h⟩ := bindS h
            refine WO.callE (S := S34) rfl rfl (F38_ok e42) (fun S43 c44 => ?_)
            have hot0 := hot0.to c44
            have hot3 := hot3.to c44
            have ho12 := ho12.to c44
            have ho18 := ho18.to c44
            refine WO.gyes rfl rfl ?_
            refine WO.bin rfl rfl (by decide) (by decide) rfl ?_
            obtain rfl := someI h
            refine WO.pickF rfl rfl ?_
            refine WO.nil ?_
            exact ⟨S43, rfl, rfl, c44, (Cov.cons rfl (Cov.skip rfl (Cov.skip rfl (Cov.skip rfl (Cov.skip rfl (Cov.skip rfl (Cov.skip rfl (Cov.skip rfl (Cov.refl _)))))))))⟩
          have hot0 := hot0.to c49
          have hot3 := hot3.to c49
          have ho12 := ho12.to c49
          have ho18 := ho18.to c49
          refine WO.nil ?_
          refine thenL_n ?_
          refine WC.cond rfl (fun q50 => ?_) (fun q50 => ?_)
          · have h := iteT q50 h
            refine WC.seq ?_
            refine WC.region ?_
            refine WO.asg rfl ?_
            refine WO.nil ?_
            refine thenL_n ?_
            refine WC.ret ?_
            obtain rfl := someI h
            exact ⟨rfl, ⟨S48, rfl, rfl, (Cov.cons rfl (Cov.nil _))⟩⟩
          · have h := iteF q50 h
            refine WC.skip ?_
            obtain rfl := someI h
            exact ⟨rfl, ⟨S48, rfl, rfl, (Cov.cons rfl (Cov.cons rfl (Cov.cons rfl (Cov.cons rfl (Cov.cons rfl (Cov.cons rfl (Cov.nil _))))))), hot0, hot3, ho12, ho18⟩⟩
  dsimp only
  cases b51 with
  | inl b56 =>
    simp only at h
    rintro _ _ _ _ ⟨rfl, ⟨S57, rfl, rfl, hc58, hot0, hot3, ho12, ho18⟩⟩
    refine thenL_n ?_
    refine WC.cov hc58 ?_
    refine WC.seq ?_
    refine WC.seq ?_
    refine WC.region ?_
    refine WO.mv rfl ?_
    refine WO.lenS rfl hot3.slv rfl ?_
    refine WO.bin rfl rfl (by decide) (by decide) rfl ?_
    refine WO.nil ?_
    refine thenL_n ?_
    obtain ⟨b112, e113, h⟩ := bindS h
    refine WC.mono (Q' := (fun b e l' m' n' => (match b with | .inl b114 => e = .normal ∧ ∃ S115 : Cx n, S115.m = m' ∧ S115.n = n' ∧ Cov l' [(0, .sc vt0), (13, .sc v11), (14, .sc (.int .i64 r9.2))] ∧ Rd Y3 S115 vt0 t0 ∧ Ow Y3 S115 2 v11 r9.1 | .inr b114 => e = .ret ∧ ∃ S116 : Cx n, S116.m = m' ∧ S116.n = n' ∧ Cov l' [(8, .sc (.bool b114))])) b112) ?_ ?_
    · have h := e113
      dsimp only at h ⊢
      refine WC.cond rfl (fun q59 => ?_) (fun q59 => ?_)
      · have h := iteT q59 h
        refine WC.seq ?_
        refine WC.region ?_
        refine WO.mv rfl ?_
        refine WO.bin rfl rfl (by decide) (by decide) rfl ?_
        refine WO.mv rfl ?_
        refine WO.cutB (d := 102) 4 ((r15.2 != 2) || (decide ((r15.1.length : Int) > 0))) (fun q60 => ?_) (fun q60 => ?_) ?_
        · refine WO.gno rfl rfl ?_
          refine WO.gno rfl rfl ?_
          refine WO.gno rfl rfl ?_
          refine WO.pickT rfl rfl ?_
          refine WO.nil ?_
          exact ⟨rfl, rfl, (Cov.any rfl (orT q60) (Cov.skip rfl (Cov.skip rfl (Cov.skip rfl (Cov.skip rfl (Cov.skip rfl (Cov.refl _)))))))⟩
        · skip
          refine WO.gyes rfl rfl ?_
          refine WO.mv rfl ?_
          refine WO.gyes rfl rfl ?_
          refine WO.lenS rfl ho18.slv rfl ?_
          refine WO.gyes rfl rfl ?_
          refine WO.bin rfl rfl (by decide) (by decide) rfl ?_
          refine WO.pickF rfl rfl ?_
          refine WO.nil ?_
          exact ⟨rfl, rfl, (Cov.any rfl (orF q60) (Cov.skip rfl (Cov.skip rfl (Cov.skip rfl (Cov.skip rfl (Cov.skip rfl (Cov.refl _)))))))⟩
        refine WO.nil ?_
        refine thenL_n ?_
        refine WC.cond rfl (fun q61 => ?_) (fun q61 => ?_)
        · have h := iteT q61 h
          refine WC.seq ?_
          refine WC.region ?_
          refine WO.asg rfl ?_
          refine WO.nil ?_
          refine thenL_n ?_
          refine WC.ret ?_
          obtain rfl := someI h
          exact ⟨rfl, ⟨S57, rfl, rfl, (Cov.cons rfl (Cov.nil _))⟩⟩
        · have h := iteF q61 h
          refine WC.skip ?_
          obtain rfl := someI h
          exact ⟨rfl, ⟨S57, rfl, rfl, (Cov.cons rfl (Cov.cons rfl (Cov.cons rfl (Cov.nil _)))), hot0, ho12⟩⟩
      · have h := iteF q59 h
        refine WC.seq ?_
        refine WC.seq ?_
        refine WC.region ?_
        refine WO.mv rfl ?_
        refine WO.bin rfl rfl (by decide) (by decide) rfl ?_
        refine WO.mv rfl ?_
        refine WO.cutB (d := 111) 6 ((r15.2 != 0) || ((r15.1.length : Int) != (t3.length : Int))) (fun q62 => ?_) (fun q62 => ?_) ?_
        · refine WO.gno rfl rfl ?_
          refine WO.gno rfl rfl ?_
          refine WO.gno rfl rfl ?_
          refine WO.gno rfl rfl ?_
          refine WO.gno rfl rfl ?_
          refine WO.pickT rfl rfl ?_
          refine WO.nil ?_
          exact ⟨rfl, rfl, (Cov.any rfl (orT q62) (Cov.skip rfl (Cov.skip rfl (Cov.skip rfl (Cov.skip rfl (Cov.skip rfl (Cov.skip rfl (Cov.skip rfl (Cov.refl _)))))))))⟩
        · skip
          refine WO.gyes rfl rfl ?_
          refine WO.mv rfl ?_
          refine WO.gyes rfl rfl ?_
          refine WO.lenS rfl ho18.slv rfl ?_
          refine WO.gyes rfl rfl ?_
          refine WO.mv rfl ?_
          refine WO.gyes rfl rfl ?_
          refine WO.lenS rfl hot3.slv rfl ?_
          refine WO.gyes rfl rfl ?_
          refine WO.bin rfl rfl (by decide) (by decide) rfl ?_
          refine WO.pickF rfl rfl ?_
          refine WO.nil ?_
          exact ⟨rfl, rfl, (Cov.any rfl (orF q62) (Cov.skip rfl (Cov.skip rfl (Cov.skip rfl (Cov.skip rfl (Cov.skip rfl (Cov.skip rfl (Cov.skip rfl (Cov.refl _)))))))))⟩
        refine WO.mv rfl ?_
        obtain ⟨y68, e69, h⟩ := bindS h
        refine WO.cutS (d := 116) (S := S57) 4 y68 (fun q67 => ?_) (fun q67 => ?_) (fun S70 c71 => ?_)
        · have h := e69
          have h := iteT q67 h
          obtain rfl := someI h
          refine WO.gno rfl rfl ?_
          refine WO.gno rfl rfl ?_
          refine WO.gno rfl rfl ?_
          refine WO.pickT rfl rfl ?_
          refine WO.nil ?_
          exact ⟨S57, rfl, rfl, Ch.refl _ _, (Cov.cons rfl (Cov.skip rfl (Cov.skip rfl (Cov.skip rfl (Cov.skip rfl (Cov.skip rfl (Cov.refl _)))))))⟩
        · have h := e69
          have h := iteF q67 h
          refine WO.gyes rfl rfl ?_
          refine WO.mv rfl ?_
          refine WO.gyes rfl rfl ?_
          obtain ⟨r63, e64, h⟩ := bindS h
          refine WO.callE (S := S57) rfl rfl (F39_ok e64 ho18.vw) (fun S65 c66 => ?_)
          have hot0 := hot0.to c66
          have hot3 := hot3.to c66
          have ho12 := ho12.to c66
          have ho18 := ho18.to c66
          refine WO.gyes rfl rfl ?_
          refine WO.bin rfl rfl (by decide) (by decide) rfl ?_
          obtain rfl := someI h
          refine WO.pickF rfl rfl ?_
          refine WO.nil ?_
          exact ⟨S65, rfl, rfl, c66, (Cov.cons rfl (Cov.skip rfl (Cov.skip rfl (Cov.skip rfl (Cov.skip rfl (Cov.skip rfl (Cov.refl _)))))))⟩
        have hot0 := hot0.to c71
        have hot3 := hot3.to c71
        have ho12 := ho12.to c71
        have ho18 := ho18.to c71
        refine WO.nil ?_
        refine thenL_n ?_
        refine WC.cond rfl (fun q72 => ?_) (fun q72 => ?_)
        · have h := iteT q72 h
          refine WC.seq ?_
          refine WC.region ?_
          refine WO.asg rfl ?_
          refine WO.nil ?_
          refine thenL_n ?_
          refine WC.ret ?_
          refine thenL_r ?_
          obtain rfl := someI h
          exact ⟨rfl, ⟨S70, rfl, rfl, (Cov.cons rfl (Cov.nil _))⟩⟩
        · have h := iteF q72 h
          refine WC.skip ?_
          refine thenL_n ?_
          refine WC.seq ?_
          refine WC.region ?_
          refine WO.mv rfl ?_
          refine WO.lenS rfl hot3.slv rfl ?_
          refine WO.mv rfl ?_
          refine WO.nil ?_
          refine thenL_n ?_
          refine WC.block ?_
          obtain ⟨b105, e106, h⟩ := bindS h
          refine WC.loopD e106 (fun s73 l' m' n' => ∃ S74 : Cx n, S74.m = m' ∧ S74.n = n' ∧ Cov l' [(0, .sc vt0), (3, .sc vt3), (13, .sc v11), (14, .sc (.int .i64 r9.2)), (15, .sc v17), (118, .sc (.int .i64 ((t3.length : Int)))), (119, .sc (.int .i64 s73))] ∧ Rd Y3 S74 vt0 t0 ∧ Rd Y3 S74 vt3 t3 ∧ Ow Y3 S74 2 v11 r9.1 ∧ Ow Y3 S74 3 v17 r15.1) (fun b e l' m' n' => (match b with | .inl b75 => e = .exit 0 ∧ ∃ S76 : Cx n, S76.m = m' ∧ S76.n = n' ∧ Cov l' [(0, .sc vt0), (13, .sc v11), (14, .sc (.int .i64 r9.2))] ∧ Rd Y3 S76 vt0 t0 ∧ Ow Y3 S76 2 v11 r9.1 | .inr b75 => e = .ret ∧ ∃ S77 : Cx n, S77.m = m' ∧ S77.n = n' ∧ Cov l' [(8, .sc (.bool b75))])) (by exact ⟨S70, rfl, rfl, (Cov.cons rfl (Cov.cons rfl (Cov.cons rfl (Cov.cons rfl (Cov.cons rfl (Cov.cons rfl (Cov.cons rfl (Cov.nil _)))))))), hot0, hot3, ho12, ho18⟩) ?_ ?_
          · clear h
            rintro s73 q _ _ _ ⟨S78, rfl, rfl, hc79, hot0, hot3, ho12, ho18⟩ h
            unfold F5_l1 at h
            refine WC.cov hc79 ?_
            refine WC.seq ?_
            refine WC.region ?_
            refine WO.bin rfl rfl (by decide) (by decide) rfl ?_
            refine WO.nil ?_
            refine thenL_n ?_
            refine WC.seq ?_
            refine WC.cond rfl (fun q80 => ?_) (fun q80 => ?_)
            · have h := iteT q80 h
              refine WC.skip ?_
              refine thenL_n ?_
              refine WC.seq ?_
              refine WC.block ?_
              refine WC.seq ?_
              refine WC.region ?_
              refine WO.mv rfl ?_
              refine WO.asg rfl ?_
              refine WO.nil ?_
              refine thenL_n ?_
              refine WC.seq ?_
              refine WC.region ?_
              refine WO.mv rfl ?_
              refine WO.mv rfl ?_
              refine WO.nil ?_
              refine thenL_n ?_
              refine WC.block ?_
              obtain ⟨b98, e99, h⟩ := bindS h
              refine WC.loopD e99 (fun s81 l' m' n' => ∃ S82 : Cx n, S82.m = m' ∧ S82.n = n' ∧ Cov l' [(0, .sc vt0), (3, .sc vt3), (13, .sc v11), (14, .sc (.int .i64 r9.2)), (15, .sc v17), (17, .sc (.int .i64 s73)), (118, .sc (.int .i64 ((t3.length : Int)))), (119, .sc (.int .i64 s73)), (122, .sc (.int .i64 s73)), (123, .sc (.int .i64 s81))] ∧ Rd Y3 S82 vt0 t0 ∧ Rd Y3 S82 vt3 t3 ∧ Ow Y3 S82 2 v11 r9.1 ∧ Ow Y3 S82 3 v17 r15.1) (fun b e l' m' n' => (match b with | .inl b83 => e = .exit 2 ∧ ∃ S84 : Cx n, S84.m = m' ∧ S84.n = n' ∧ Cov l' [(0, .sc vt0), (3, .sc vt3), (13, .sc v11), (14, .sc (.int .i64 r9.2)), (15, .sc v17), (118, .sc (.int .i64 ((t3.length : Int)))), (119, .sc (.int .i64 s73))] ∧ Rd Y3 S84 vt0 t0 ∧ Rd Y3 S84 vt3 t3 ∧ Ow Y3 S84 2 v11 r9.1 ∧ Ow Y3 S84 3 v17 r15.1 | .inr b83 => e = .ret ∧ ∃ S85 : Cx n, S85.m = m' ∧ S85.n = n' ∧ Cov l' [(8, .sc (.bool b83))])) (by exact ⟨S78, rfl, rfl, (Cov.cons rfl (Cov.cons rfl (Cov.cons rfl (Cov.cons rfl (Cov.cons rfl (Cov.cons rfl (Cov.cons rfl (Cov.cons rfl (Cov.cons rfl (Cov.cons rfl (Cov.nil _))))))))))), hot0, hot3, ho12, ho18⟩) ?_ ?_
              · clear h
                rintro s81 q _ _ _ ⟨S86, rfl, rfl, hc87, hot0, hot3, ho12, ho18⟩ h
                unfold F5_l0 at h
                refine WC.cov hc87 ?_
                refine WC.seq ?_
                refine WC.region ?_
                refine WO.bin rfl rfl (by decide) (by decide) rfl ?_
                refine WO.nil ?_
                refine thenL_n ?_
                refine WC.seq ?_
                refine WC.cond rfl (fun q88 => ?_) (fun q88 => ?_)
                · have h := iteT q88 h
                  refine WC.skip ?_
                  refine thenL_n ?_
                  refine WC.seq ?_
                  refine WC.block ?_
                  refine WC.seq ?_
                  refine WC.region ?_
                  refine WO.mv rfl ?_
                  refine WO.asg rfl ?_
                  refine WO.nil ?_
                  refine thenL_n ?_
                  refine WC.seq ?_
                  refine WC.drawP rfl ?_
                  refine WO.mv rfl ?_
                  refine WO.mv rfl ?_
                  obtain ⟨x89, e90, h⟩ := bindS h
                  refine WO.ixS rfl rfl hot3.slv (at?_lt e90) rfl ?_
                  refine WO.ldF rfl hot3.ro (fun _ hi => hi) (at?_get e90) rfl rfl rfl ?_
                  refine WO.mv rfl ?_
                  refine WO.mv rfl ?_
                  obtain ⟨x91, e92, h⟩ := bindS h
                  refine WO.ixS rfl rfl hot3.slv (at?_lt e92) rfl ?_
                  refine WO.ldF rfl hot3.ro (fun _ hi => hi) (at?_get e92) rfl rfl rfl ?_
                  refine WO.bin rfl rfl (by decide) (by decide) rfl ?_
                  refine WO.mv rfl ?_
                  refine WO.mv rfl ?_
                  obtain ⟨x93, e94, h⟩ := bindS h
                  refine WO.ixS rfl rfl ho18.slv (at?_lt e94) rfl ?_
                  refine WO.ldF rfl ho18.ro (fun _ hi => hi) (at?_get e94) rfl rfl rfl ?_
                  refine WO.mv rfl ?_
                  refine WO.mv rfl ?_
                  obtain ⟨x95, e96, h⟩ := bindS h
                  refine WO.ixS rfl rfl ho18.slv (at?_lt e96) rfl ?_
                  refine WO.ldF rfl ho18.ro (fun _ hi => hi) (at?_get e96) rfl rfl rfl ?_
                  refine WO.bin rfl rfl (by decide) (by decide) rfl ?_
                  refine WO.do rfl rfl ?_
                  refine WO.nil ?_
                  refine thenL_n ?_
                  refine WC.cond rfl (fun q97 => ?_) (fun q97 => ?_)
                  · have h := iteT q97 h
                    refine WC.seq ?_
                    refine WC.region ?_
                    refine WO.asg rfl ?_
                    refine WO.nil ?_
                    refine thenL_n ?_
                    refine WC.ret ?_
                    refine blockL_r ?_
                    refine thenL_r ?_
                    refine thenL_r ?_
                    obtain rfl := someI h
                    exact ⟨_, rfl, rfl, ⟨S86, rfl, rfl, (Cov.cons rfl (Cov.nil _))⟩⟩
                  · have h := iteF q97 h
                    refine WC.skip ?_
                    refine blockL_n ?_
                    refine thenL_n ?_
                    refine WC.region ?_
                    refine WO.bin rfl rfl (by decide) (by decide) rfl ?_
                    refine WO.mv rfl ?_
                    refine WO.nil ?_
                    refine thenL_n ?_
                    obtain rfl := someI h
                    exact ⟨_, rfl, ⟨S86, rfl, rfl, (Cov.cons rfl (Cov.cons rfl (Cov.cons rfl (Cov.cons rfl (Cov.cons rfl (Cov.cons rfl (Cov.cons rfl (Cov.cons rfl (Cov.cons rfl (Cov.cons rfl (Cov.nil _))))))))))), hot0, hot3, ho12, ho18⟩⟩
                · have h := iteF q88 h
                  refine WC.exit ?_
                  refine thenL_e ?_
                  refine thenL_e ?_
                  obtain rfl := someI h
                  exact ⟨_, rfl, rfl, ⟨S86, rfl, rfl, (Cov.cons rfl (Cov.cons rfl (Cov.cons rfl (Cov.cons rfl (Cov.cons rfl (Cov.cons rfl (Cov.cons rfl (Cov.nil _)))))))), hot0, hot3, ho12, ho18⟩⟩
              cases b98 with
              | inl b100 =>
                simp only at h
                rintro _ _ _ _ ⟨rfl, ⟨S101, rfl, rfl, hc102, hot0, hot3, ho12, ho18⟩⟩
                refine blockL_s ?_
                refine blockL_n ?_
                refine thenL_n ?_
                refine WC.cov hc102 ?_
                refine WC.region ?_
                refine WO.bin rfl rfl (by decide) (by decide) rfl ?_
                refine WO.mv rfl ?_
                refine WO.nil ?_
                refine thenL_n ?_
                obtain rfl := someI h
                exact ⟨_, rfl, ⟨S101, rfl, rfl, (Cov.cons rfl (Cov.cons rfl (Cov.cons rfl (Cov.cons rfl (Cov.cons rfl (Cov.cons rfl (Cov.cons rfl (Cov.nil _)))))))), hot0, hot3, ho12, ho18⟩⟩
              | inr b100 =>
                simp only at h
                rintro _ _ _ _ ⟨rfl, ⟨S103, rfl, rfl, hc104⟩⟩
                refine blockL_r ?_
                refine blockL_r ?_
                refine thenL_r ?_
                refine thenL_r ?_
                obtain rfl := someI h
                exact ⟨_, rfl, rfl, ⟨S103, rfl, rfl, (Cov.trans hc104 (Cov.cons rfl (Cov.nil _)))⟩⟩
            · have h := iteF q80 h
              refine WC.exit ?_
              refine thenL_e ?_
              refine thenL_e ?_
              obtain rfl := someI h
              exact ⟨_, rfl, rfl, ⟨S78, rfl, rfl, (Cov.cons rfl (Cov.cons rfl (Cov.cons rfl (Cov.nil _)))), hot0, ho12⟩⟩
          cases b105 with
          | inl b107 =>
            simp only at h
            rintro _ _ _ _ ⟨rfl, ⟨S108, rfl, rfl, hc109, hot0, ho12⟩⟩
            refine blockL_s ?_
            obtain rfl := someI h
            exact ⟨rfl, ⟨S108, rfl, rfl, (Cov.trans hc109 (Cov.cons rfl (Cov.cons rfl (Cov.cons rfl (Cov.nil _))))), hot0, ho12⟩⟩
          | inr b107 =>
            simp only at h
            rintro _ _ _ _ ⟨rfl, ⟨S110, rfl, rfl, hc111⟩⟩
            refine blockL_r ?_
            obtain rfl := someI h
            exact ⟨rfl, ⟨S110, rfl, rfl, (Cov.trans hc111 (Cov.cons rfl (Cov.nil _)))⟩⟩
    dsimp only
    cases b112 with
    | inl b117 =>
      simp only at h
      rintro _ _ _ _ ⟨rfl, ⟨S118, rfl, rfl, hc119, hot0, ho12⟩⟩
      refine thenL_n ?_
      refine WC.cov hc119 ?_
      refine WC.seq ?_
      refine WC.region ?_
      refine WO.mv rfl ?_
      obtain ⟨r120, e121, h⟩ := bindS h
      refine WO.callE (S := S118) rfl rfl (F39_ok e121 hot0.vw) (fun S122 c123 => ?_)
      have hot0 := hot0.to c123
      have ho12 := ho12.to c123
      refine WO.asg rfl ?_
      refine WO.nil ?_
      refine thenL_n ?_
      refine WC.seq ?_
      refine WC.seq ?_
      refine WC.region ?_
      refine WO.mv rfl ?_
      obtain ⟨r124, e125, h⟩ := bindS h
      refine WO.callE (S := S122) rfl rfl (F40_ok e125 hot0.vw) (fun S126 c127 => ?_)
      have hot0 := hot0.to c127
      have ho12 := ho12.to c127
      refine WO.mv rfl ?_
      refine WO.bin rfl rfl (by decide) (by decide) rfl ?_
      refine WO.nil ?_
      refine thenL_n ?_
      refine WC.cond rfl (fun q128 => ?_) (fun q128 => ?_)
      · have h := iteT q128 h
        refine WC.seq ?_
        refine WC.region ?_
        refine WO.asg rfl ?_
        refine WO.nil ?_
        refine thenL_n ?_
        refine WC.ret ?_
        refine thenL_r ?_
        obtain rfl := someI h
        exact ⟨.inr rfl, _, _, rfl, rfl, rfl⟩
      · have h := iteF q128 h
        refine WC.skip ?_
        refine thenL_n ?_
        refine WC.seq ?_
        refine WC.seq ?_
        refine WC.region ?_
        refine WO.mv rfl ?_
        refine WO.bin rfl rfl (by decide) (by decide) rfl ?_
        refine WO.nil ?_
        refine thenL_n ?_
        refine WC.cond rfl (fun q129 => ?_) (fun q129 => ?_)
        · have h := iteT q129 h
          refine WC.seq ?_
          refine WC.region ?_
          refine WO.mv rfl ?_
          refine WO.mv rfl ?_
          refine WO.bin rfl rfl (by decide) (by decide) rfl ?_
          refine WO.mv rfl ?_
          refine WO.cutB (d := 162) 4 ((r9.2 == r120) && ((r9.1.length : Int) == 0)) (fun q130 => ?_) (fun q130 => ?_) ?_
          · skip
            refine WO.gyes rfl rfl ?_
            refine WO.mv rfl ?_
            refine WO.gyes rfl rfl ?_
            refine WO.lenS rfl ho12.slv rfl ?_
            refine WO.gyes rfl rfl ?_
            refine WO.bin rfl rfl (by decide) (by decide) rfl ?_
            refine WO.pickT rfl rfl ?_
            refine WO.nil ?_
            exact ⟨rfl, rfl, (Cov.any rfl (andT q130) (Cov.skip rfl (Cov.skip rfl (Cov.skip rfl (Cov.skip rfl (Cov.skip rfl (Cov.refl _)))))))⟩
          · refine WO.gno rfl rfl ?_
            refine WO.gno rfl rfl ?_
            refine WO.gno rfl rfl ?_
            refine WO.pickF rfl rfl ?_
            refine WO.nil ?_
            exact ⟨rfl, rfl, (Cov.any rfl (andF q130) (Cov.skip rfl (Cov.skip rfl (Cov.skip rfl (Cov.skip rfl (Cov.skip rfl (Cov.refl _)))))))⟩
          refine WO.asg rfl ?_
          refine WO.nil ?_
          refine thenL_n ?_
          refine WC.ret ?_
          refine thenL_r ?_
          obtain rfl := someI h
          exact ⟨.inr rfl, _, _, rfl, rfl, rfl⟩
        · have h := iteF q129 h
          refine WC.skip ?_
          refine thenL_n ?_
          refine WC.seq ?_
          refine WC.region ?_
          refine WO.mv rfl ?_
          obtain ⟨r131, e132, h⟩ := bindS h
          refine WO.callF (S := S126) 4 rfl rfl (F41_ok e132 hot0.vw) Lay.flat_fl (fun v133 S135 c136 ho134 => ?_)
          have hot0 := hot0.to c136
          have ho12 := ho12.to c136
          refine WO.mv rfl ?_
          refine WO.do rfl rfl ?_
          refine WO.do rfl rfl ?_
          refine WO.asg rfl ?_
          refine WO.asg rfl ?_
          refine WO.nil ?_
          refine thenL_n ?_
          refine WC.seq ?_
          refine WC.seq ?_
          refine WC.region ?_
          refine WO.mv rfl ?_
          refine WO.do rfl rfl ?_
          refine WO.nil ?_
          refine thenL_n ?_
          refine WC.cond rfl (fun q137 => ?_) (fun q137 => ?_)
          · have h := iteT q137 h
            refine WC.seq ?_
            refine WC.region ?_
            refine WO.mv rfl ?_
            refine WO.bin rfl rfl (by decide) (by decide) rfl ?_
            refine WO.mv rfl ?_
            refine WO.cutB (d := 176) 4 ((r9.2 == 4) && ((r9.1.length : Int) == 0)) (fun q138 => ?_) (fun q138 => ?_) ?_
            · skip
              refine WO.gyes rfl rfl ?_
              refine WO.mv rfl ?_
              refine WO.gyes rfl rfl ?_
              refine WO.lenS rfl ho12.slv rfl ?_
              refine WO.gyes rfl rfl ?_
              refine WO.bin rfl rfl (by decide) (by decide) rfl ?_
              refine WO.pickT rfl rfl ?_
              refine WO.nil ?_
              exact ⟨rfl, rfl, (Cov.any rfl (andT q138) (Cov.skip rfl (Cov.skip rfl (Cov.skip rfl (Cov.skip rfl (Cov.skip rfl (Cov.refl _)))))))⟩
            · refine WO.gno rfl rfl ?_
              refine WO.gno rfl rfl ?_
              refine WO.gno rfl rfl ?_
              refine WO.pickF rfl rfl ?_
              refine WO.nil ?_
              exact ⟨rfl, rfl, (Cov.any rfl (andF q138) (Cov.skip rfl (Cov.skip rfl (Cov.skip rfl (Cov.skip rfl (Cov.skip rfl (Cov.refl _)))))))⟩
            refine WO.asg rfl ?_
            refine WO.nil ?_
            refine thenL_n ?_
            refine WC.ret ?_
            refine thenL_r ?_
            obtain rfl := someI h
            exact ⟨.inr rfl, _, _, rfl, rfl, rfl⟩
          · have h := iteF q137 h
            refine WC.skip ?_
            refine thenL_n ?_
            refine WC.seq ?_
            refine WC.region ?_
            refine WO.mv rfl ?_
            refine WO.bin rfl rfl (by decide) (by decide) rfl ?_
            refine WO.mv rfl ?_
            obtain ⟨y144, e145, h⟩ := bindS h
            refine WO.cutS (d := 183) (S := S135) 4 y144 (fun q143 => ?_) (fun q143 => ?_) (fun S146 c147 => ?_)
            · have h := e145
              have h := iteT q143 h
              refine WO.gyes rfl rfl ?_
              refine WO.mv rfl ?_
              refine WO.gyes rfl rfl ?_
              refine WO.mv rfl ?_
              refine WO.gyes rfl rfl ?_
              obtain ⟨r139, e140, h⟩ := bindS h
              refine WO.callE (S := S135) rfl rfl (F32_ok e140 ho12.vw ho134.vw) (fun S141 c142 => ?_)
              have hot0 := hot0.to c142
              have ho12 := ho12.to c142
              have ho134 := ho134.to c142
              obtain rfl := someI h
              refine WO.pickT rfl rfl ?_
              refine WO.nil ?_
              exact ⟨S141, rfl, rfl, c142, (Cov.cons rfl (Cov.skip rfl (Cov.skip rfl (Cov.skip rfl (Cov.skip rfl (Cov.skip rfl (Cov.refl _)))))))⟩
            · have h := e145
              have h := iteF q143 h
              obtain rfl := someI h
              refine WO.gno rfl rfl ?_
              refine WO.gno rfl rfl ?_
              refine WO.gno rfl rfl ?_
              refine WO.pickF rfl rfl ?_
              refine WO.nil ?_
              exact ⟨S135, rfl, rfl, Ch.refl _ _, (Cov.cons rfl (Cov.skip rfl (Cov.skip rfl (Cov.skip rfl (Cov.skip rfl (Cov.skip rfl (Cov.refl _)))))))⟩
            have hot0 := hot0.to c147
            have ho12 := ho12.to c147
            have ho134 := ho134.to c147
            refine WO.asg rfl ?_
            refine WO.nil ?_
            refine thenL_n ?_
            refine WC.ret ?_
            obtain rfl := someI h
            exact ⟨.inr rfl, _, _, rfl, rfl, rfl⟩
    | inr b117 =>
      simp only at h
      rintro _ _ _ _ ⟨rfl, ⟨S148, rfl, rfl, hc149⟩⟩
      refine thenL_r ?_
      obtain rfl := someI h
      exact ⟨.inr rfl, _, _, (resK_cov hc149 rfl), rfl, rfl⟩
  | inr b56 =>
    simp only at h
    rintro _ _ _ _ ⟨rfl, ⟨S150, rfl, rfl, hc151⟩⟩
    refine thenL_r ?_
    obtain rfl := someI h
    exact ⟨.inr rfl, _, _, (resK_cov hc151 rfl), rfl, rfl⟩
end Go.Proofs.Ytdkmepeolmdccaa

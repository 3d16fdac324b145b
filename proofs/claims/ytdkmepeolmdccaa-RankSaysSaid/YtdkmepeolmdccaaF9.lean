/- The machine answers F9: printed by a program of ours (gen.py). -/
import Derived.Test.YtdkmepeolmdccaaDef
import Derived.Test.YtdkmepeolmdccaaEnv
import Derived.Test.YtdkmepeolmdccaaF60
import Derived.Test.YtdkmepeolmdccaaF61
import Derived.Test.YtdkmepeolmdccaaF62
import Derived.Test.YtdkmepeolmdccaaF63
import Derived.Test.YtdkmepeolmdccaaF64
import Derived.Test.YtdkmepeolmdccaaF65
import Derived.Test.YtdkmepeolmdccaaF66
import Derived.Test.YtdkmepeolmdccaaF67
set_option linter.unusedVariables false
namespace Go.Proofs.Ytdkmepeolmdccaa
open Go.Am
theorem F9.fn : E.fn 9 = some ⟨223, (Try.f9.body.getD .skip), Try.f9.results.toList, []⟩ := rfl
theorem F9_ok {F : Nat} {m : Mem} {n : Nat} {r : Bool} {t0 : List Int} {t1 : Int} {t2 : Int} {vt0 : SV} (h : F9 F t0 t1 t2 = some r) (kt0 : Vw Y3 n m vt0 t0) : Ret E n 9 [.sc vt0, .sc (.int .i64 t1), .sc (.int .i64 t2)] m n (fun v m' n' => v = .sc (.bool r)) := by
  unfold F9 at h
  refine Ret.walk F9.fn ?_
  refine WC.start fun S0 em en hz => ?_
  have hot0 := kt0.rdS em hz
  refine WC.seq ?_
  refine WC.region ?_
  refine WO.asg rfl ?_
  refine WO.nil ?_
  refine thenL_n ?_
  refine WC.seq ?_
  refine WC.region ?_
  refine WO.mv rfl ?_
  obtain ⟨r1, e2, h⟩ := bindS h
  refine WO.callF (S := S0) 2 rfl rfl (F60_ok e2 hot0.vw) Lay.flat_fl (fun v3 S5 c6 ho4 => ?_)
  have hot0 := hot0.to c6
  refine WO.mv rfl ?_
  refine WO.do rfl rfl ?_
  refine WO.do rfl rfl ?_
  refine WO.asg rfl ?_
  refine WO.asg rfl ?_
  refine WO.nil ?_
  refine thenL_n ?_
  refine WC.seq ?_
  refine WC.region ?_
  refine WO.mv rfl ?_
  obtain ⟨r7, e8, h⟩ := bindS h
  refine WO.callE (S := S5) rfl rfl (F61_ok e8 hot0.vw) (fun S9 c10 => ?_)
  have hot0 := hot0.to c10
  have ho4 := ho4.to c10
  refine WO.mv rfl ?_
  refine WO.do rfl rfl ?_
  refine WO.do rfl rfl ?_
  refine WO.asg rfl ?_
  refine WO.asg rfl ?_
  refine WO.nil ?_
  refine thenL_n ?_
  refine WC.seq ?_
  refine WC.region ?_
  refine WO.mv rfl ?_
  obtain ⟨r11, e12, h⟩ := bindS h
  refine WO.callF (S := S9) 3 rfl rfl (F62_ok e12 hot0.vw) Lay.flat_fl (fun v13 S15 c16 ho14 => ?_)
  have hot0 := hot0.to c16
  have ho4 := ho4.to c16
  refine WO.mv rfl ?_
  refine WO.do rfl rfl ?_
  refine WO.do rfl rfl ?_
  refine WO.asg rfl ?_
  refine WO.asg rfl ?_
  refine WO.nil ?_
  refine thenL_n ?_
  refine WC.seq ?_
  refine WC.region ?_
  refine WO.mv rfl ?_
  obtain ⟨r17, e18, h⟩ := bindS h
  refine WO.callE (S := S15) rfl rfl (F63_ok e18) (fun S19 c20 => ?_)
  have hot0 := hot0.to c20
  have ho4 := ho4.to c20
  have ho14 := ho14.to c20
  refine WO.mv rfl ?_
  refine WO.do rfl rfl ?_
  refine WO.do rfl rfl ?_
  refine WO.asg rfl ?_
  refine WO.asg rfl ?_
  refine WO.nil ?_
  refine thenL_n ?_
  refine WC.seq ?_
  refine WC.region ?_
  refine WO.mv rfl ?_
  refine WO.mv rfl ?_
  obtain ⟨r21, e22, h⟩ := bindS h
  refine WO.callF (S := S19) 4 rfl rfl (F64_ok e22) Lay.flat_fl (fun v23 S25 c26 ho24 => ?_)
  have hot0 := hot0.to c26
  have ho4 := ho4.to c26
  have ho14 := ho14.to c26
  refine WO.mv rfl ?_
  refine WO.do rfl rfl ?_
  refine WO.do rfl rfl ?_
  refine WO.asg rfl ?_
  refine WO.asg rfl ?_
  refine WO.nil ?_
  refine thenL_n ?_
  refine WC.seq ?_
  refine WC.seq ?_
  refine WC.region ?_
  refine WO.mv rfl ?_
  refine WO.bin rfl rfl (by decide) (by decide) rfl ?_
  refine WO.mv rfl ?_
  refine WO.cutB (d := 52) 3 ((decide (t1 < 0)) || (decide (t1 > 10))) (fun q27 => ?_) (fun q27 => ?_) ?_
  · refine WO.gno rfl rfl ?_
    refine WO.gno rfl rfl ?_
    refine WO.pickT rfl rfl ?_
    refine WO.nil ?_
    exact ⟨rfl, rfl, (Cov.any rfl (orT q27) (Cov.skip rfl (Cov.skip rfl (Cov.skip rfl (Cov.skip rfl (Cov.refl _))))))⟩
  · skip
    refine WO.gyes rfl rfl ?_
    refine WO.mv rfl ?_
    refine WO.gyes rfl rfl ?_
    refine WO.bin rfl rfl (by decide) (by decide) rfl ?_
    refine WO.pickF rfl rfl ?_
    refine WO.nil ?_
    exact ⟨rfl, rfl, (Cov.any rfl (orF q27) (Cov.skip rfl (Cov.skip rfl (Cov.skip rfl (Cov.skip rfl (Cov.refl _))))))⟩
  refine WO.nil ?_
  refine thenL_n ?_
  obtain ⟨b67, e68, h⟩ := bindS h
  refine WC.mono (Q' := (fun b e l' m' n' => (match b with | .inl b69 => e = .normal ∧ ∃ S70 : Cx n, S70.m = m' ∧ S70.n = n' ∧ Cov l' [(0, .sc vt0), (7, .sc v3), (8, .sc (.int .i64 r1.2)), (9, .sc (.int .i64 r7.1)), (10, .sc (.int .i64 r7.2)), (11, .sc v13), (12, .sc (.int .i64 r11.2))] ∧ Rd Y3 S70 vt0 t0 ∧ Ow Y3 S70 2 v3 r1.1 ∧ Ow Y3 S70 3 v13 r11.1 | .inr b69 => e = .ret ∧ ∃ S71 : Cx n, S71.m = m' ∧ S71.n = n' ∧ Cov l' [(6, .sc (.bool b69))])) b67) ?_ ?_
  · have h := e68
    dsimp only at h ⊢
    refine WC.cond rfl (fun q28 => ?_) (fun q28 => ?_)
    · have h := iteT q28 h
      refine WC.seq ?_
      refine WC.region ?_
      refine WO.mv rfl ?_
      refine WO.bin rfl rfl (by decide) (by decide) rfl ?_
      refine WO.mv rfl ?_
      refine WO.cutB (d := 58) 3 ((r17.2 != 1) || (r17.1 != 0)) (fun q29 => ?_) (fun q29 => ?_) ?_
      · refine WO.gno rfl rfl ?_
        refine WO.gno rfl rfl ?_
        refine WO.pickT rfl rfl ?_
        refine WO.nil ?_
        exact ⟨rfl, rfl, (Cov.any rfl (orT q29) (Cov.skip rfl (Cov.skip rfl (Cov.skip rfl (Cov.skip rfl (Cov.refl _))))))⟩
      · skip
        refine WO.gyes rfl rfl ?_
        refine WO.mv rfl ?_
        refine WO.gyes rfl rfl ?_
        refine WO.bin rfl rfl (by decide) (by decide) rfl ?_
        refine WO.pickF rfl rfl ?_
        refine WO.nil ?_
        exact ⟨rfl, rfl, (Cov.any rfl (orF q29) (Cov.skip rfl (Cov.skip rfl (Cov.skip rfl (Cov.skip rfl (Cov.refl _))))))⟩
      refine WO.mv rfl ?_
      refine WO.cutB (d := 63) 4 (((r17.2 != 1) || (r17.1 != 0)) || (r21.2 != r17.2)) (fun q30 => ?_) (fun q30 => ?_) ?_
      · refine WO.gno rfl rfl ?_
        refine WO.gno rfl rfl ?_
        refine WO.gno rfl rfl ?_
        refine WO.pickT rfl rfl ?_
        refine WO.nil ?_
        exact ⟨rfl, rfl, (Cov.any rfl (orT q30) (Cov.skip rfl (Cov.skip rfl (Cov.skip rfl (Cov.skip rfl (Cov.skip rfl (Cov.refl _)))))))⟩
      · skip
        refine WO.gyes rfl rfl ?_
        refine WO.mv rfl ?_
        refine WO.gyes rfl rfl ?_
        refine WO.mv rfl ?_
        refine WO.gyes rfl rfl ?_
        refine WO.bin rfl rfl (by decide) (by decide) rfl ?_
        refine WO.pickF rfl rfl ?_
        refine WO.nil ?_
        exact ⟨rfl, rfl, (Cov.any rfl (orF q30) (Cov.skip rfl (Cov.skip rfl (Cov.skip rfl (Cov.skip rfl (Cov.skip rfl (Cov.refl _)))))))⟩
      refine WO.mv rfl ?_
      refine WO.cutB (d := 68) 4 ((((r17.2 != 1) || (r17.1 != 0)) || (r21.2 != r17.2)) || (decide ((r21.1.length : Int) > 0))) (fun q31 => ?_) (fun q31 => ?_) ?_
      · refine WO.gno rfl rfl ?_
        refine WO.gno rfl rfl ?_
        refine WO.gno rfl rfl ?_
        refine WO.pickT rfl rfl ?_
        refine WO.nil ?_
        exact ⟨rfl, rfl, (Cov.any rfl (orT q31) (Cov.skip rfl (Cov.skip rfl (Cov.skip rfl (Cov.skip rfl (Cov.skip rfl (Cov.refl _)))))))⟩
      · skip
        refine WO.gyes rfl rfl ?_
        refine WO.mv rfl ?_
        refine WO.gyes rfl rfl ?_
        refine WO.lenS rfl ho24.slv rfl ?_
        refine WO.gyes rfl rfl ?_
        refine WO.bin rfl rfl (by decide) (by decide) rfl ?_
        refine WO.pickF rfl rfl ?_
        refine WO.nil ?_
        exact ⟨rfl, rfl, (Cov.any rfl (orF q31) (Cov.skip rfl (Cov.skip rfl (Cov.skip rfl (Cov.skip rfl (Cov.skip rfl (Cov.refl _)))))))⟩
      refine WO.nil ?_
      refine thenL_n ?_
      refine WC.cond rfl (fun q32 => ?_) (fun q32 => ?_)
      · have h := iteT q32 h
        refine WC.seq ?_
        refine WC.region ?_
        refine WO.asg rfl ?_
        refine WO.nil ?_
        refine thenL_n ?_
        refine WC.ret ?_
        obtain rfl := someI h
        exact ⟨rfl, ⟨S25, rfl, rfl, (Cov.cons rfl (Cov.nil _))⟩⟩
      · have h := iteF q32 h
        refine WC.skip ?_
        obtain rfl := someI h
        exact ⟨rfl, ⟨S25, rfl, rfl, (Cov.cons rfl (Cov.cons rfl (Cov.cons rfl (Cov.cons rfl (Cov.cons rfl (Cov.cons rfl (Cov.cons rfl (Cov.nil _)))))))), hot0, ho4, ho14⟩⟩
    · have h := iteF q28 h
      refine WC.seq ?_
      refine WC.region ?_
      refine WO.mv rfl ?_
      refine WO.bin rfl rfl (by decide) (by decide) rfl ?_
      refine WO.mv rfl ?_
      obtain ⟨y38, e39, h⟩ := bindS h
      refine WO.cutS (d := 76) (S := S25) 5 y38 (fun q37 => ?_) (fun q37 => ?_) (fun S40 c41 => ?_)
      · have h := e39
        have h := iteT q37 h
        obtain rfl := someI h
        refine WO.gno rfl rfl ?_
        refine WO.gno rfl rfl ?_
        refine WO.gno rfl rfl ?_
        refine WO.gno rfl rfl ?_
        refine WO.pickT rfl rfl ?_
        refine WO.nil ?_
        exact ⟨S25, rfl, rfl, Ch.refl _ _, (Cov.cons rfl (Cov.skip rfl (Cov.skip rfl (Cov.skip rfl (Cov.skip rfl (Cov.skip rfl (Cov.skip rfl (Cov.refl _))))))))⟩
      · have h := e39
        have h := iteF q37 h
        refine WO.gyes rfl rfl ?_
        refine WO.mv rfl ?_
        refine WO.gyes rfl rfl ?_
        refine WO.mv rfl ?_
        refine WO.gyes rfl rfl ?_
        obtain ⟨r33, e34, h⟩ := bindS h
        refine WO.callE (S := S25) rfl rfl (F65_ok e34) (fun S35 c36 => ?_)
        have hot0 := hot0.to c36
        have ho4 := ho4.to c36
        have ho14 := ho14.to c36
        have ho24 := ho24.to c36
        refine WO.gyes rfl rfl ?_
        refine WO.bin rfl rfl (by decide) (by decide) rfl ?_
        obtain rfl := someI h
        refine WO.pickF rfl rfl ?_
        refine WO.nil ?_
        exact ⟨S35, rfl, rfl, c36, (Cov.cons rfl (Cov.skip rfl (Cov.skip rfl (Cov.skip rfl (Cov.skip rfl (Cov.skip rfl (Cov.skip rfl (Cov.refl _))))))))⟩
      have hot0 := hot0.to c41
      have ho4 := ho4.to c41
      have ho14 := ho14.to c41
      have ho24 := ho24.to c41
      refine WO.nil ?_
      refine thenL_n ?_
      refine WC.cond rfl (fun q42 => ?_) (fun q42 => ?_)
      · have h := iteT q42 h
        refine WC.seq ?_
        refine WC.region ?_
        refine WO.asg rfl ?_
        refine WO.nil ?_
        refine thenL_n ?_
        refine WC.ret ?_
        obtain rfl := someI h
        exact ⟨rfl, ⟨S40, rfl, rfl, (Cov.cons rfl (Cov.nil _))⟩⟩
      · have h := iteF q42 h
        refine WC.seq ?_
        refine WC.region ?_
        refine WO.mv rfl ?_
        refine WO.bin rfl rfl (by decide) (by decide) rfl ?_
        refine WO.mv rfl ?_
        refine WO.cutB (d := 83) 4 ((decide (t2 < 0)) || (decide (t2 ≥ r17.1))) (fun q43 => ?_) (fun q43 => ?_) ?_
        · refine WO.gno rfl rfl ?_
          refine WO.gno rfl rfl ?_
          refine WO.gno rfl rfl ?_
          refine WO.pickT rfl rfl ?_
          refine WO.nil ?_
          exact ⟨rfl, rfl, (Cov.any rfl (orT q43) (Cov.skip rfl (Cov.skip rfl (Cov.skip rfl (Cov.skip rfl (Cov.skip rfl (Cov.refl _)))))))⟩
        · skip
          refine WO.gyes rfl rfl ?_
          refine WO.mv rfl ?_
          refine WO.gyes rfl rfl ?_
          refine WO.mv rfl ?_
          refine WO.gyes rfl rfl ?_
          refine WO.bin rfl rfl (by decide) (by decide) rfl ?_
          refine WO.pickF rfl rfl ?_
          refine WO.nil ?_
          exact ⟨rfl, rfl, (Cov.any rfl (orF q43) (Cov.skip rfl (Cov.skip rfl (Cov.skip rfl (Cov.skip rfl (Cov.skip rfl (Cov.refl _)))))))⟩
        refine WO.nil ?_
        refine thenL_n ?_
        refine WC.cond rfl (fun q44 => ?_) (fun q44 => ?_)
        · have h := iteT q44 h
          refine WC.seq ?_
          refine WC.region ?_
          refine WO.mv rfl ?_
          refine WO.bin rfl rfl (by decide) (by decide) rfl ?_
          refine WO.mv rfl ?_
          refine WO.cutB (d := 90) 4 ((r21.2 != 1) || (decide ((r21.1.length : Int) > 0))) (fun q45 => ?_) (fun q45 => ?_) ?_
          · refine WO.gno rfl rfl ?_
            refine WO.gno rfl rfl ?_
            refine WO.gno rfl rfl ?_
            refine WO.pickT rfl rfl ?_
            refine WO.nil ?_
            exact ⟨rfl, rfl, (Cov.any rfl (orT q45) (Cov.skip rfl (Cov.skip rfl (Cov.skip rfl (Cov.skip rfl (Cov.skip rfl (Cov.refl _)))))))⟩
          · skip
            refine WO.gyes rfl rfl ?_
            refine WO.mv rfl ?_
            refine WO.gyes rfl rfl ?_
            refine WO.lenS rfl ho24.slv rfl ?_
            refine WO.gyes rfl rfl ?_
            refine WO.bin rfl rfl (by decide) (by decide) rfl ?_
            refine WO.pickF rfl rfl ?_
            refine WO.nil ?_
            exact ⟨rfl, rfl, (Cov.any rfl (orF q45) (Cov.skip rfl (Cov.skip rfl (Cov.skip rfl (Cov.skip rfl (Cov.skip rfl (Cov.refl _)))))))⟩
          refine WO.nil ?_
          refine thenL_n ?_
          refine WC.cond rfl (fun q46 => ?_) (fun q46 => ?_)
          · have h := iteT q46 h
            refine WC.seq ?_
            refine WC.region ?_
            refine WO.asg rfl ?_
            refine WO.nil ?_
            refine thenL_n ?_
            refine WC.ret ?_
            obtain rfl := someI h
            exact ⟨rfl, ⟨S40, rfl, rfl, (Cov.cons rfl (Cov.nil _))⟩⟩
          · have h := iteF q46 h
            refine WC.skip ?_
            obtain rfl := someI h
            exact ⟨rfl, ⟨S40, rfl, rfl, (Cov.cons rfl (Cov.cons rfl (Cov.cons rfl (Cov.cons rfl (Cov.cons rfl (Cov.cons rfl (Cov.cons rfl (Cov.nil _)))))))), hot0, ho4, ho14⟩⟩
        · have h := iteF q44 h
          refine WC.seq ?_
          refine WC.region ?_
          refine WO.mv rfl ?_
          refine WO.bin rfl rfl (by decide) (by decide) rfl ?_
          refine WO.mv rfl ?_
          refine WO.cutB (d := 98) 5 ((r21.2 != 0) || ((r21.1.length : Int) != t1)) (fun q47 => ?_) (fun q47 => ?_) ?_
          · refine WO.gno rfl rfl ?_
            refine WO.gno rfl rfl ?_
            refine WO.gno rfl rfl ?_
            refine WO.gno rfl rfl ?_
            refine WO.pickT rfl rfl ?_
            refine WO.nil ?_
            exact ⟨rfl, rfl, (Cov.any rfl (orT q47) (Cov.skip rfl (Cov.skip rfl (Cov.skip rfl (Cov.skip rfl (Cov.skip rfl (Cov.skip rfl (Cov.refl _))))))))⟩
          · skip
            refine WO.gyes rfl rfl ?_
            refine WO.mv rfl ?_
            refine WO.gyes rfl rfl ?_
            refine WO.lenS rfl ho24.slv rfl ?_
            refine WO.gyes rfl rfl ?_
            refine WO.mv rfl ?_
            refine WO.gyes rfl rfl ?_
            refine WO.bin rfl rfl (by decide) (by decide) rfl ?_
            refine WO.pickF rfl rfl ?_
            refine WO.nil ?_
            exact ⟨rfl, rfl, (Cov.any rfl (orF q47) (Cov.skip rfl (Cov.skip rfl (Cov.skip rfl (Cov.skip rfl (Cov.skip rfl (Cov.skip rfl (Cov.refl _))))))))⟩
          refine WO.mv rfl ?_
          obtain ⟨y53, e54, h⟩ := bindS h
          refine WO.cutS (d := 103) (S := S40) 4 y53 (fun q52 => ?_) (fun q52 => ?_) (fun S55 c56 => ?_)
          · have h := e54
            have h := iteT q52 h
            obtain rfl := someI h
            refine WO.gno rfl rfl ?_
            refine WO.gno rfl rfl ?_
            refine WO.gno rfl rfl ?_
            refine WO.pickT rfl rfl ?_
            refine WO.nil ?_
            exact ⟨S40, rfl, rfl, Ch.refl _ _, (Cov.cons rfl (Cov.skip rfl (Cov.skip rfl (Cov.skip rfl (Cov.skip rfl (Cov.skip rfl (Cov.refl _)))))))⟩
          · have h := e54
            have h := iteF q52 h
            refine WO.gyes rfl rfl ?_
            refine WO.mv rfl ?_
            refine WO.gyes rfl rfl ?_
            obtain ⟨r48, e49, h⟩ := bindS h
            refine WO.callE (S := S40) rfl rfl (F66_ok e49 ho24.vw) (fun S50 c51 => ?_)
            have hot0 := hot0.to c51
            have ho4 := ho4.to c51
            have ho14 := ho14.to c51
            have ho24 := ho24.to c51
            refine WO.gyes rfl rfl ?_
            refine WO.bin rfl rfl (by decide) (by decide) rfl ?_
            obtain rfl := someI h
            refine WO.pickF rfl rfl ?_
            refine WO.nil ?_
            exact ⟨S50, rfl, rfl, c51, (Cov.cons rfl (Cov.skip rfl (Cov.skip rfl (Cov.skip rfl (Cov.skip rfl (Cov.skip rfl (Cov.refl _)))))))⟩
          have hot0 := hot0.to c56
          have ho4 := ho4.to c56
          have ho14 := ho14.to c56
          have ho24 := ho24.to c56
          refine WO.mv rfl ?_
          obtain ⟨y62, e63, h⟩ := bindS h
          refine WO.cutS (d := 109) (S := S55) 5 y62 (fun q61 => ?_) (fun q61 => ?_) (fun S64 c65 => ?_)
          · have h := e63
            have h := iteT q61 h
            obtain rfl := someI h
            refine WO.gno rfl rfl ?_
            refine WO.gno rfl rfl ?_
            refine WO.gno rfl rfl ?_
            refine WO.gno rfl rfl ?_
            refine WO.pickT rfl rfl ?_
            refine WO.nil ?_
            exact ⟨S55, rfl, rfl, Ch.refl _ _, (Cov.cons rfl (Cov.skip rfl (Cov.skip rfl (Cov.skip rfl (Cov.skip rfl (Cov.skip rfl (Cov.skip rfl (Cov.refl _))))))))⟩
          · have h := e63
            have h := iteF q61 h
            refine WO.gyes rfl rfl ?_
            refine WO.mv rfl ?_
            refine WO.gyes rfl rfl ?_
            obtain ⟨r57, e58, h⟩ := bindS h
            refine WO.callE (S := S55) rfl rfl (F67_ok e58 ho24.vw) (fun S59 c60 => ?_)
            have hot0 := hot0.to c60
            have ho4 := ho4.to c60
            have ho14 := ho14.to c60
            have ho24 := ho24.to c60
            refine WO.gyes rfl rfl ?_
            refine WO.mv rfl ?_
            refine WO.gyes rfl rfl ?_
            refine WO.bin rfl rfl (by decide) (by decide) rfl ?_
            obtain rfl := someI h
            refine WO.pickF rfl rfl ?_
            refine WO.nil ?_
            exact ⟨S59, rfl, rfl, c60, (Cov.cons rfl (Cov.skip rfl (Cov.skip rfl (Cov.skip rfl (Cov.skip rfl (Cov.skip rfl (Cov.skip rfl (Cov.refl _))))))))⟩
          have hot0 := hot0.to c65
          have ho4 := ho4.to c65
          have ho14 := ho14.to c65
          have ho24 := ho24.to c65
          refine WO.nil ?_
          refine thenL_n ?_
          refine WC.cond rfl (fun q66 => ?_) (fun q66 => ?_)
          · have h := iteT q66 h
            refine WC.seq ?_
            refine WC.region ?_
            refine WO.asg rfl ?_
            refine WO.nil ?_
            refine thenL_n ?_
            refine WC.ret ?_
            obtain rfl := someI h
            exact ⟨rfl, ⟨S64, rfl, rfl, (Cov.cons rfl (Cov.nil _))⟩⟩
          · have h := iteF q66 h
            refine WC.skip ?_
            obtain rfl := someI h
            exact ⟨rfl, ⟨S64, rfl, rfl, (Cov.cons rfl (Cov.cons rfl (Cov.cons rfl (Cov.cons rfl (Cov.cons rfl (Cov.cons rfl (Cov.cons rfl (Cov.nil _)))))))), hot0, ho4, ho14⟩⟩
  dsimp only
  cases b67 with
  | inl b72 =>
    simp only at h
    rintro _ _ _ _ ⟨rfl, ⟨S73, rfl, rfl, hc74, hot0, ho4, ho14⟩⟩
    refine thenL_n ?_
    refine WC.cov hc74 ?_
    refine WC.seq ?_
    refine WC.seq ?_
    refine WC.region ?_
    refine WO.mv rfl ?_
    obtain ⟨r75, e76, h⟩ := bindS h
    refine WO.callE (S := S73) rfl rfl (F66_ok e76 hot0.vw) (fun S77 c78 => ?_)
    have hot0 := hot0.to c78
    have ho4 := ho4.to c78
    have ho14 := ho14.to c78
    refine WO.asg rfl ?_
    refine WO.nil ?_
    refine thenL_n ?_
    refine WC.seq ?_
    refine WC.region ?_
    refine WO.mv rfl ?_
    refine WO.bin rfl rfl (by decide) (by decide) rfl ?_
    refine WO.nil ?_
    refine thenL_n ?_
    refine WC.cond rfl (fun q79 => ?_) (fun q79 => ?_)
    · have h := iteT q79 h
      refine WC.seq ?_
      refine WC.region ?_
      refine WO.mv rfl ?_
      refine WO.mv rfl ?_
      refine WO.bin rfl rfl (by decide) (by decide) rfl ?_
      refine WO.mv rfl ?_
      refine WO.cutB (d := 121) 4 ((r1.2 == r75) && (r7.2 == r75)) (fun q80 => ?_) (fun q80 => ?_) ?_
      · skip
        refine WO.gyes rfl rfl ?_
        refine WO.mv rfl ?_
        refine WO.gyes rfl rfl ?_
        refine WO.mv rfl ?_
        refine WO.gyes rfl rfl ?_
        refine WO.bin rfl rfl (by decide) (by decide) rfl ?_
        refine WO.pickT rfl rfl ?_
        refine WO.nil ?_
        exact ⟨rfl, rfl, (Cov.any rfl (andT q80) (Cov.skip rfl (Cov.skip rfl (Cov.skip rfl (Cov.skip rfl (Cov.skip rfl (Cov.refl _)))))))⟩
      · refine WO.gno rfl rfl ?_
        refine WO.gno rfl rfl ?_
        refine WO.gno rfl rfl ?_
        refine WO.pickF rfl rfl ?_
        refine WO.nil ?_
        exact ⟨rfl, rfl, (Cov.any rfl (andF q80) (Cov.skip rfl (Cov.skip rfl (Cov.skip rfl (Cov.skip rfl (Cov.skip rfl (Cov.refl _)))))))⟩
      refine WO.mv rfl ?_
      refine WO.cutB (d := 126) 4 (((r1.2 == r75) && (r7.2 == r75)) && (r11.2 == r75)) (fun q81 => ?_) (fun q81 => ?_) ?_
      · skip
        refine WO.gyes rfl rfl ?_
        refine WO.mv rfl ?_
        refine WO.gyes rfl rfl ?_
        refine WO.mv rfl ?_
        refine WO.gyes rfl rfl ?_
        refine WO.bin rfl rfl (by decide) (by decide) rfl ?_
        refine WO.pickT rfl rfl ?_
        refine WO.nil ?_
        exact ⟨rfl, rfl, (Cov.any rfl (andT q81) (Cov.skip rfl (Cov.skip rfl (Cov.skip rfl (Cov.skip rfl (Cov.skip rfl (Cov.refl _)))))))⟩
      · refine WO.gno rfl rfl ?_
        refine WO.gno rfl rfl ?_
        refine WO.gno rfl rfl ?_
        refine WO.pickF rfl rfl ?_
        refine WO.nil ?_
        exact ⟨rfl, rfl, (Cov.any rfl (andF q81) (Cov.skip rfl (Cov.skip rfl (Cov.skip rfl (Cov.skip rfl (Cov.skip rfl (Cov.refl _)))))))⟩
      refine WO.mv rfl ?_
      refine WO.cutB (d := 134) 7 ((((r1.2 == r75) && (r7.2 == r75)) && (r11.2 == r75)) && ((wrapA .i64 ((r1.1.length : Int) + (r11.1.length : Int))) == 0)) (fun q82 => ?_) (fun q82 => ?_) ?_
      · skip
        refine WO.gyes rfl rfl ?_
        refine WO.mv rfl ?_
        refine WO.gyes rfl rfl ?_
        refine WO.lenS rfl ho4.slv rfl ?_
        refine WO.gyes rfl rfl ?_
        refine WO.mv rfl ?_
        refine WO.gyes rfl rfl ?_
        refine WO.lenS rfl ho14.slv rfl ?_
        refine WO.gyes rfl rfl ?_
        refine WO.bin rfl rfl (by decide) (by decide) rfl ?_
        refine WO.gyes rfl rfl ?_
        refine WO.bin rfl rfl (by decide) (by decide) rfl ?_
        refine WO.pickT rfl rfl ?_
        refine WO.nil ?_
        exact ⟨rfl, rfl, (Cov.any rfl (andT q82) (Cov.skip rfl (Cov.skip rfl (Cov.skip rfl (Cov.skip rfl (Cov.skip rfl (Cov.skip rfl (Cov.skip rfl (Cov.skip rfl (Cov.refl _))))))))))⟩
      · refine WO.gno rfl rfl ?_
        refine WO.gno rfl rfl ?_
        refine WO.gno rfl rfl ?_
        refine WO.gno rfl rfl ?_
        refine WO.gno rfl rfl ?_
        refine WO.gno rfl rfl ?_
        refine WO.pickF rfl rfl ?_
        refine WO.nil ?_
        exact ⟨rfl, rfl, (Cov.any rfl (andF q82) (Cov.skip rfl (Cov.skip rfl (Cov.skip rfl (Cov.skip rfl (Cov.skip rfl (Cov.skip rfl (Cov.skip rfl (Cov.skip rfl (Cov.refl _))))))))))⟩
      refine WO.mv rfl ?_
      refine WO.cutB (d := 138) 3 (((((r1.2 == r75) && (r7.2 == r75)) && (r11.2 == r75)) && ((wrapA .i64 ((r1.1.length : Int) + (r11.1.length : Int))) == 0)) && (r7.1 == 0)) (fun q83 => ?_) (fun q83 => ?_) ?_
      · skip
        refine WO.gyes rfl rfl ?_
        refine WO.mv rfl ?_
        refine WO.gyes rfl rfl ?_
        refine WO.bin rfl rfl (by decide) (by decide) rfl ?_
        refine WO.pickT rfl rfl ?_
        refine WO.nil ?_
        exact ⟨rfl, rfl, (Cov.any rfl (andT q83) (Cov.skip rfl (Cov.skip rfl (Cov.skip rfl (Cov.skip rfl (Cov.refl _))))))⟩
      · refine WO.gno rfl rfl ?_
        refine WO.gno rfl rfl ?_
        refine WO.pickF rfl rfl ?_
        refine WO.nil ?_
        exact ⟨rfl, rfl, (Cov.any rfl (andF q83) (Cov.skip rfl (Cov.skip rfl (Cov.skip rfl (Cov.skip rfl (Cov.refl _))))))⟩
      refine WO.asg rfl ?_
      refine WO.nil ?_
      refine thenL_n ?_
      refine WC.ret ?_
      refine thenL_r ?_
      obtain rfl := someI h
      exact ⟨.inr rfl, _, _, rfl, rfl, rfl⟩
    · have h := iteF q79 h
      refine WC.skip ?_
      refine thenL_n ?_
      refine WC.seq ?_
      refine WC.seq ?_
      refine WC.region ?_
      refine WO.mv rfl ?_
      refine WO.bin rfl rfl (by decide) (by decide) rfl ?_
      refine WO.mv rfl ?_
      refine WO.cutB (d := 147) 6 ((r1.2 != 0) || ((r1.1.length : Int) != (t0.length : Int))) (fun q84 => ?_) (fun q84 => ?_) ?_
      · refine WO.gno rfl rfl ?_
        refine WO.gno rfl rfl ?_
        refine WO.gno rfl rfl ?_
        refine WO.gno rfl rfl ?_
        refine WO.gno rfl rfl ?_
        refine WO.pickT rfl rfl ?_
        refine WO.nil ?_
        exact ⟨rfl, rfl, (Cov.any rfl (orT q84) (Cov.skip rfl (Cov.skip rfl (Cov.skip rfl (Cov.skip rfl (Cov.skip rfl (Cov.skip rfl (Cov.skip rfl (Cov.refl _)))))))))⟩
      · skip
        refine WO.gyes rfl rfl ?_
        refine WO.mv rfl ?_
        refine WO.gyes rfl rfl ?_
        refine WO.lenS rfl ho4.slv rfl ?_
        refine WO.gyes rfl rfl ?_
        refine WO.mv rfl ?_
        refine WO.gyes rfl rfl ?_
        refine WO.lenS rfl hot0.slv rfl ?_
        refine WO.gyes rfl rfl ?_
        refine WO.bin rfl rfl (by decide) (by decide) rfl ?_
        refine WO.pickF rfl rfl ?_
        refine WO.nil ?_
        exact ⟨rfl, rfl, (Cov.any rfl (orF q84) (Cov.skip rfl (Cov.skip rfl (Cov.skip rfl (Cov.skip rfl (Cov.skip rfl (Cov.skip rfl (Cov.skip rfl (Cov.refl _)))))))))⟩
      refine WO.mv rfl ?_
      refine WO.cutB (d := 151) 3 (((r1.2 != 0) || ((r1.1.length : Int) != (t0.length : Int))) || (r7.2 != 0)) (fun q85 => ?_) (fun q85 => ?_) ?_
      · refine WO.gno rfl rfl ?_
        refine WO.gno rfl rfl ?_
        refine WO.pickT rfl rfl ?_
        refine WO.nil ?_
        exact ⟨rfl, rfl, (Cov.any rfl (orT q85) (Cov.skip rfl (Cov.skip rfl (Cov.skip rfl (Cov.skip rfl (Cov.refl _))))))⟩
      · skip
        refine WO.gyes rfl rfl ?_
        refine WO.mv rfl ?_
        refine WO.gyes rfl rfl ?_
        refine WO.bin rfl rfl (by decide) (by decide) rfl ?_
        refine WO.pickF rfl rfl ?_
        refine WO.nil ?_
        exact ⟨rfl, rfl, (Cov.any rfl (orF q85) (Cov.skip rfl (Cov.skip rfl (Cov.skip rfl (Cov.skip rfl (Cov.refl _))))))⟩
      refine WO.mv rfl ?_
      obtain ⟨y91, e92, h⟩ := bindS h
      refine WO.cutS (d := 157) (S := S77) 5 y91 (fun q90 => ?_) (fun q90 => ?_) (fun S93 c94 => ?_)
      · have h := e92
        have h := iteT q90 h
        obtain rfl := someI h
        refine WO.gno rfl rfl ?_
        refine WO.gno rfl rfl ?_
        refine WO.gno rfl rfl ?_
        refine WO.gno rfl rfl ?_
        refine WO.pickT rfl rfl ?_
        refine WO.nil ?_
        exact ⟨S77, rfl, rfl, Ch.refl _ _, (Cov.cons rfl (Cov.skip rfl (Cov.skip rfl (Cov.skip rfl (Cov.skip rfl (Cov.skip rfl (Cov.skip rfl (Cov.refl _))))))))⟩
      · have h := e92
        have h := iteF q90 h
        refine WO.gyes rfl rfl ?_
        refine WO.mv rfl ?_
        refine WO.gyes rfl rfl ?_
        refine WO.mv rfl ?_
        refine WO.gyes rfl rfl ?_
        obtain ⟨r86, e87, h⟩ := bindS h
        refine WO.callE (S := S77) rfl rfl (F67_ok e87 hot0.vw) (fun S88 c89 => ?_)
        have hot0 := hot0.to c89
        have ho4 := ho4.to c89
        have ho14 := ho14.to c89
        refine WO.gyes rfl rfl ?_
        refine WO.bin rfl rfl (by decide) (by decide) rfl ?_
        obtain rfl := someI h
        refine WO.pickF rfl rfl ?_
        refine WO.nil ?_
        exact ⟨S88, rfl, rfl, c89, (Cov.cons rfl (Cov.skip rfl (Cov.skip rfl (Cov.skip rfl (Cov.skip rfl (Cov.skip rfl (Cov.skip rfl (Cov.refl _))))))))⟩
      have hot0 := hot0.to c94
      have ho4 := ho4.to c94
      have ho14 := ho14.to c94
      refine WO.nil ?_
      refine thenL_n ?_
      refine WC.cond rfl (fun q95 => ?_) (fun q95 => ?_)
      · have h := iteT q95 h
        refine WC.seq ?_
        refine WC.region ?_
        refine WO.asg rfl ?_
        refine WO.nil ?_
        refine thenL_n ?_
        refine WC.ret ?_
        refine thenL_r ?_
        obtain rfl := someI h
        exact ⟨.inr rfl, _, _, rfl, rfl, rfl⟩
      · have h := iteF q95 h
        refine WC.skip ?_
        refine thenL_n ?_
        refine WC.seq ?_
        refine WC.seq ?_
        refine WC.region ?_
        refine WO.mv rfl ?_
        refine WO.lenS rfl hot0.slv rfl ?_
        refine WO.mv rfl ?_
        refine WO.nil ?_
        refine thenL_n ?_
        refine WC.block ?_
        obtain ⟨b122, e123, h⟩ := bindS h
        refine WC.loopD e123 (fun s96 l' m' n' => ∃ S97 : Cx n, S97.m = m' ∧ S97.n = n' ∧ Cov l' [(0, .sc vt0), (7, .sc v3), (9, .sc (.int .i64 r7.1)), (11, .sc v13), (12, .sc (.int .i64 r11.2)), (159, .sc (.int .i64 ((t0.length : Int)))), (160, .sc (.int .i64 s96))] ∧ Rd Y3 S97 vt0 t0 ∧ Ow Y3 S97 2 v3 r1.1 ∧ Ow Y3 S97 3 v13 r11.1) (fun b e l' m' n' => (match b with | .inl b98 => e = .exit 0 ∧ ∃ S99 : Cx n, S99.m = m' ∧ S99.n = n' ∧ Cov l' [(0, .sc vt0), (9, .sc (.int .i64 r7.1)), (11, .sc v13), (12, .sc (.int .i64 r11.2))] ∧ Rd Y3 S99 vt0 t0 ∧ Ow Y3 S99 3 v13 r11.1 | .inr b98 => e = .ret ∧ ∃ S100 : Cx n, S100.m = m' ∧ S100.n = n' ∧ Cov l' [(6, .sc (.bool b98))])) (by exact ⟨S93, rfl, rfl, (Cov.cons rfl (Cov.cons rfl (Cov.cons rfl (Cov.cons rfl (Cov.cons rfl (Cov.cons rfl (Cov.cons rfl (Cov.nil _)))))))), hot0, ho4, ho14⟩) ?_ ?_
        · clear h
          rintro s96 q _ _ _ ⟨S101, rfl, rfl, hc102, hot0, ho4, ho14⟩ h
          unfold F9_l1 at h
          refine WC.cov hc102 ?_
          refine WC.seq ?_
          refine WC.region ?_
          refine WO.bin rfl rfl (by decide) (by decide) rfl ?_
          refine WO.nil ?_
          refine thenL_n ?_
          refine WC.seq ?_
          refine WC.cond rfl (fun q103 => ?_) (fun q103 => ?_)
          · have h := iteT q103 h
            refine WC.skip ?_
            refine thenL_n ?_
            refine WC.seq ?_
            refine WC.block ?_
            refine WC.seq ?_
            refine WC.region ?_
            refine WO.mv rfl ?_
            refine WO.asg rfl ?_
            refine WO.nil ?_
            refine thenL_n ?_
            refine WC.seq ?_
            refine WC.region ?_
            refine WO.asg rfl ?_
            refine WO.nil ?_
            refine thenL_n ?_
            refine WC.seq ?_
            refine WC.seq ?_
            refine WC.region ?_
            refine WO.mv rfl ?_
            refine WO.bin rfl rfl (by decide) (by decide) rfl ?_
            refine WO.asg rfl ?_
            refine WO.nil ?_
            refine thenL_n ?_
            refine WC.block ?_
            obtain ⟨b115, e116, h⟩ := bindS h
            refine WC.loopD e116 (fun s104 l' m' n' => ∃ S105 : Cx n, S105.m = m' ∧ S105.n = n' ∧ Cov l' [(0, .sc vt0), (7, .sc v3), (9, .sc (.int .i64 r7.1)), (11, .sc v13), (12, .sc (.int .i64 r11.2)), (18, .sc (.int .i64 s96)), (19, .sc (.int .i64 s104.1)), (20, .sc (.int .i64 s104.2)), (159, .sc (.int .i64 ((t0.length : Int)))), (160, .sc (.int .i64 s96))] ∧ Rd Y3 S105 vt0 t0 ∧ Ow Y3 S105 2 v3 r1.1 ∧ Ow Y3 S105 3 v13 r11.1) (fun b e l' m' n' => e = .exit 2 ∧ ∃ S106 : Cx n, S106.m = m' ∧ S106.n = n' ∧ Cov l' [(0, .sc vt0), (7, .sc v3), (9, .sc (.int .i64 r7.1)), (11, .sc v13), (12, .sc (.int .i64 r11.2)), (18, .sc (.int .i64 s96)), (19, .sc (.int .i64 b)), (159, .sc (.int .i64 ((t0.length : Int)))), (160, .sc (.int .i64 s96))] ∧ Rd Y3 S106 vt0 t0 ∧ Ow Y3 S106 2 v3 r1.1 ∧ Ow Y3 S106 3 v13 r11.1) (by exact ⟨S101, rfl, rfl, (Cov.cons rfl (Cov.cons rfl (Cov.cons rfl (Cov.cons rfl (Cov.cons rfl (Cov.cons rfl (Cov.cons rfl (Cov.cons rfl (Cov.cons rfl (Cov.cons rfl (Cov.nil _))))))))))), hot0, ho4, ho14⟩) ?_ ?_
            · clear h
              rintro s104 q _ _ _ ⟨S107, rfl, rfl, hc108, hot0, ho4, ho14⟩ h
              unfold F9_l0 at h
              refine WC.cov hc108 ?_
              refine WC.seq ?_
              refine WC.seq ?_
              refine WC.region ?_
              refine WO.mv rfl ?_
              refine WO.mv rfl ?_
              refine WO.lenS rfl hot0.slv rfl ?_
              refine WO.bin rfl rfl (by decide) (by decide) rfl ?_
              refine WO.nil ?_
              refine thenL_n ?_
              refine WC.cond rfl (fun q109 => ?_) (fun q109 => ?_)
              · have h := iteT q109 h
                refine WC.skip ?_
                refine thenL_n ?_
                refine WC.seq ?_
                refine WC.block ?_
                refine WC.seq ?_
                refine WC.drawP rfl ?_
                refine WO.mv rfl ?_
                refine WO.mv rfl ?_
                obtain ⟨x110, e111, h⟩ := bindS h
                refine WO.ixS rfl rfl hot0.slv (at?_lt e111) rfl ?_
                refine WO.ldF rfl hot0.ro (fun _ hi => hi) (at?_get e111) rfl rfl rfl ?_
                refine WO.mv rfl ?_
                refine WO.mv rfl ?_
                obtain ⟨x112, e113, h⟩ := bindS h
                refine WO.ixS rfl rfl hot0.slv (at?_lt e113) rfl ?_
                refine WO.ldF rfl hot0.ro (fun _ hi => hi) (at?_get e113) rfl rfl rfl ?_
                refine WO.bin rfl rfl (by decide) (by decide) rfl ?_
                refine WO.nil ?_
                refine thenL_n ?_
                refine WC.cond rfl (fun q114 => ?_) (fun q114 => ?_)
                · have h := iteT q114 h
                  refine WC.region ?_
                  refine WO.mv rfl ?_
                  refine WO.bin rfl rfl (by decide) (by decide) rfl ?_
                  refine WO.asg rfl ?_
                  refine WO.nil ?_
                  refine blockL_n ?_
                  refine thenL_n ?_
                  refine WC.region ?_
                  refine WO.mv rfl ?_
                  refine WO.bin rfl rfl (by decide) (by decide) rfl ?_
                  refine WO.asg rfl ?_
                  refine WO.nil ?_
                  refine thenL_n ?_
                  obtain rfl := someI h
                  exact ⟨_, rfl, ⟨S107, rfl, rfl, (Cov.cons rfl (Cov.cons rfl (Cov.cons rfl (Cov.cons rfl (Cov.cons rfl (Cov.cons rfl (Cov.cons rfl (Cov.cons rfl (Cov.cons rfl (Cov.cons rfl (Cov.nil _))))))))))), hot0, ho4, ho14⟩⟩
                · have h := iteF q114 h
                  refine WC.skip ?_
                  refine blockL_n ?_
                  refine thenL_n ?_
                  refine WC.region ?_
                  refine WO.mv rfl ?_
                  refine WO.bin rfl rfl (by decide) (by decide) rfl ?_
                  refine WO.asg rfl ?_
                  refine WO.nil ?_
                  refine thenL_n ?_
                  obtain rfl := someI h
                  exact ⟨_, rfl, ⟨S107, rfl, rfl, (Cov.cons rfl (Cov.cons rfl (Cov.cons rfl (Cov.cons rfl (Cov.cons rfl (Cov.cons rfl (Cov.cons rfl (Cov.cons rfl (Cov.cons rfl (Cov.cons rfl (Cov.nil _))))))))))), hot0, ho4, ho14⟩⟩
              · have h := iteF q109 h
                refine WC.exit ?_
                refine thenL_e ?_
                refine thenL_e ?_
                obtain rfl := someI h
                exact ⟨_, rfl, rfl, ⟨S107, rfl, rfl, (Cov.cons rfl (Cov.cons rfl (Cov.cons rfl (Cov.cons rfl (Cov.cons rfl (Cov.cons rfl (Cov.cons rfl (Cov.cons rfl (Cov.cons rfl (Cov.nil _)))))))))), hot0, ho4, ho14⟩⟩
            rintro _ _ _ _ ⟨rfl, ⟨S117, rfl, rfl, hc118, hot0, ho4, ho14⟩⟩
            refine blockL_s ?_
            refine thenL_n ?_
            refine WC.cov hc118 ?_
            refine WC.seq ?_
            refine WC.region ?_
            refine WO.mv rfl ?_
            refine WO.mv rfl ?_
            obtain ⟨x119, e120, h⟩ := bindS h
            refine WO.ixS rfl rfl ho4.slv (at?_lt e120) rfl ?_
            refine WO.ldF rfl ho4.ro (fun _ hi => hi) (at?_get e120) rfl rfl rfl ?_
            refine WO.mv rfl ?_
            refine WO.bin rfl rfl (by decide) (by decide) rfl ?_
            refine WO.nil ?_
            refine thenL_n ?_
            refine WC.cond rfl (fun q121 => ?_) (fun q121 => ?_)
            · have h := iteT q121 h
              refine WC.seq ?_
              refine WC.region ?_
              refine WO.asg rfl ?_
              refine WO.nil ?_
              refine thenL_n ?_
              refine WC.ret ?_
              refine blockL_r ?_
              refine thenL_r ?_
              refine thenL_r ?_
              obtain rfl := someI h
              exact ⟨_, rfl, rfl, ⟨S117, rfl, rfl, (Cov.cons rfl (Cov.nil _))⟩⟩
            · have h := iteF q121 h
              refine WC.skip ?_
              refine blockL_n ?_
              refine thenL_n ?_
              refine WC.region ?_
              refine WO.bin rfl rfl (by decide) (by decide) rfl ?_
              refine WO.mv rfl ?_
              refine WO.nil ?_
              refine thenL_n ?_
              obtain rfl := someI h
              exact ⟨_, rfl, ⟨S117, rfl, rfl, (Cov.cons rfl (Cov.cons rfl (Cov.cons rfl (Cov.cons rfl (Cov.cons rfl (Cov.cons rfl (Cov.cons rfl (Cov.nil _)))))))), hot0, ho4, ho14⟩⟩
          · have h := iteF q103 h
            refine WC.exit ?_
            refine thenL_e ?_
            refine thenL_e ?_
            obtain rfl := someI h
            exact ⟨_, rfl, rfl, ⟨S101, rfl, rfl, (Cov.cons rfl (Cov.cons rfl (Cov.cons rfl (Cov.cons rfl (Cov.nil _))))), hot0, ho14⟩⟩
        cases b122 with
        | inl b124 =>
          simp only at h
          rintro _ _ _ _ ⟨rfl, ⟨S125, rfl, rfl, hc126, hot0, ho14⟩⟩
          refine blockL_s ?_
          refine thenL_n ?_
          refine WC.cov hc126 ?_
          refine WC.seq ?_
          refine WC.seq ?_
          refine WC.region ?_
          refine WO.mv rfl ?_
          refine WO.mv rfl ?_
          refine WO.lenS rfl hot0.slv rfl ?_
          obtain ⟨r127, e128, h⟩ := bindS h
          refine WO.callE (S := S125) rfl rfl (F65_ok e128) (fun S129 c130 => ?_)
          have hot0 := hot0.to c130
          have ho14 := ho14.to c130
          refine WO.bin rfl rfl (by decide) (by decide) rfl ?_
          refine WO.bin rfl rfl (by decide) (by decide) rfl ?_
          refine WO.nil ?_
          refine thenL_n ?_
          refine WC.cond rfl (fun q131 => ?_) (fun q131 => ?_)
          · have h := iteT q131 h
            refine WC.seq ?_
            refine WC.region ?_
            refine WO.mv rfl ?_
            refine WO.bin rfl rfl (by decide) (by decide) rfl ?_
            refine WO.mv rfl ?_
            refine WO.cutB (d := 201) 4 ((r11.2 == 4) && ((r11.1.length : Int) == 0)) (fun q132 => ?_) (fun q132 => ?_) ?_
            · skip
              refine WO.gyes rfl rfl ?_
              refine WO.mv rfl ?_
              refine WO.gyes rfl rfl ?_
              refine WO.lenS rfl ho14.slv rfl ?_
              refine WO.gyes rfl rfl ?_
              refine WO.bin rfl rfl (by decide) (by decide) rfl ?_
              refine WO.pickT rfl rfl ?_
              refine WO.nil ?_
              exact ⟨rfl, rfl, (Cov.any rfl (andT q132) (Cov.skip rfl (Cov.skip rfl (Cov.skip rfl (Cov.skip rfl (Cov.skip rfl (Cov.refl _)))))))⟩
            · refine WO.gno rfl rfl ?_
              refine WO.gno rfl rfl ?_
              refine WO.gno rfl rfl ?_
              refine WO.pickF rfl rfl ?_
              refine WO.nil ?_
              exact ⟨rfl, rfl, (Cov.any rfl (andF q132) (Cov.skip rfl (Cov.skip rfl (Cov.skip rfl (Cov.skip rfl (Cov.skip rfl (Cov.refl _)))))))⟩
            refine WO.asg rfl ?_
            refine WO.nil ?_
            refine thenL_n ?_
            refine WC.ret ?_
            refine thenL_r ?_
            obtain rfl := someI h
            exact ⟨.inr rfl, _, _, rfl, rfl, rfl⟩
          · have h := iteF q131 h
            refine WC.skip ?_
            refine thenL_n ?_
            refine WC.seq ?_
            refine WC.region ?_
            refine WO.mv rfl ?_
            refine WO.bin rfl rfl (by decide) (by decide) rfl ?_
            refine WO.mv rfl ?_
            refine WO.cutB (d := 210) 6 ((r11.2 == 0) && ((r11.1.length : Int) == (t0.length : Int))) (fun q133 => ?_) (fun q133 => ?_) ?_
            · skip
              refine WO.gyes rfl rfl ?_
              refine WO.mv rfl ?_
              refine WO.gyes rfl rfl ?_
              refine WO.lenS rfl ho14.slv rfl ?_
              refine WO.gyes rfl rfl ?_
              refine WO.mv rfl ?_
              refine WO.gyes rfl rfl ?_
              refine WO.lenS rfl hot0.slv rfl ?_
              refine WO.gyes rfl rfl ?_
              refine WO.bin rfl rfl (by decide) (by decide) rfl ?_
              refine WO.pickT rfl rfl ?_
              refine WO.nil ?_
              exact ⟨rfl, rfl, (Cov.any rfl (andT q133) (Cov.skip rfl (Cov.skip rfl (Cov.skip rfl (Cov.skip rfl (Cov.skip rfl (Cov.skip rfl (Cov.skip rfl (Cov.refl _)))))))))⟩
            · refine WO.gno rfl rfl ?_
              refine WO.gno rfl rfl ?_
              refine WO.gno rfl rfl ?_
              refine WO.gno rfl rfl ?_
              refine WO.gno rfl rfl ?_
              refine WO.pickF rfl rfl ?_
              refine WO.nil ?_
              exact ⟨rfl, rfl, (Cov.any rfl (andF q133) (Cov.skip rfl (Cov.skip rfl (Cov.skip rfl (Cov.skip rfl (Cov.skip rfl (Cov.skip rfl (Cov.skip rfl (Cov.refl _)))))))))⟩
            refine WO.mv rfl ?_
            obtain ⟨y139, e140, h⟩ := bindS h
            refine WO.cutS (d := 215) (S := S129) 4 y139 (fun q138 => ?_) (fun q138 => ?_) (fun S141 c142 => ?_)
            · have h := e140
              have h := iteT q138 h
              refine WO.gyes rfl rfl ?_
              refine WO.mv rfl ?_
              refine WO.gyes rfl rfl ?_
              obtain ⟨r134, e135, h⟩ := bindS h
              refine WO.callE (S := S129) rfl rfl (F66_ok e135 ho14.vw) (fun S136 c137 => ?_)
              have hot0 := hot0.to c137
              have ho14 := ho14.to c137
              refine WO.gyes rfl rfl ?_
              refine WO.bin rfl rfl (by decide) (by decide) rfl ?_
              obtain rfl := someI h
              refine WO.pickT rfl rfl ?_
              refine WO.nil ?_
              exact ⟨S136, rfl, rfl, c137, (Cov.cons rfl (Cov.skip rfl (Cov.skip rfl (Cov.skip rfl (Cov.skip rfl (Cov.skip rfl (Cov.refl _)))))))⟩
            · have h := e140
              have h := iteF q138 h
              obtain rfl := someI h
              refine WO.gno rfl rfl ?_
              refine WO.gno rfl rfl ?_
              refine WO.gno rfl rfl ?_
              refine WO.pickF rfl rfl ?_
              refine WO.nil ?_
              exact ⟨S129, rfl, rfl, Ch.refl _ _, (Cov.cons rfl (Cov.skip rfl (Cov.skip rfl (Cov.skip rfl (Cov.skip rfl (Cov.skip rfl (Cov.refl _)))))))⟩
            have hot0 := hot0.to c142
            have ho14 := ho14.to c142
            refine WO.mv rfl ?_
            obtain ⟨y148, e149, h⟩ := bindS h
            refine WO.cutS (d := 222) (S := S141) 6 y148 (fun q147 => ?_) (fun q147 => ?_) (fun S150 c151 => ?_)
            · have h := e149
              have h := iteT q147 h
              refine WO.gyes rfl rfl ?_
              refine WO.mv rfl ?_
              refine WO.gyes rfl rfl ?_
              obtain ⟨r143, e144, h⟩ := bindS h
              refine WO.callE (S := S141) rfl rfl (F67_ok e144 ho14.vw) (fun S145 c146 => ?_)
              have hot0 := hot0.to c146
              have ho14 := ho14.to c146
              refine WO.gyes rfl rfl ?_
              refine WO.mv rfl ?_
              refine WO.gyes rfl rfl ?_
              refine WO.bin rfl rfl (by decide) (by decide) rfl ?_
              refine WO.gyes rfl rfl ?_
              refine WO.bin rfl rfl (by decide) (by decide) rfl ?_
              obtain rfl := someI h
              refine WO.pickT rfl rfl ?_
              refine WO.nil ?_
              exact ⟨S145, rfl, rfl, c146, (Cov.cons rfl (Cov.skip rfl (Cov.skip rfl (Cov.skip rfl (Cov.skip rfl (Cov.skip rfl (Cov.skip rfl (Cov.skip rfl (Cov.refl _)))))))))⟩
            · have h := e149
              have h := iteF q147 h
              obtain rfl := someI h
              refine WO.gno rfl rfl ?_
              refine WO.gno rfl rfl ?_
              refine WO.gno rfl rfl ?_
              refine WO.gno rfl rfl ?_
              refine WO.gno rfl rfl ?_
              refine WO.pickF rfl rfl ?_
              refine WO.nil ?_
              exact ⟨S141, rfl, rfl, Ch.refl _ _, (Cov.cons rfl (Cov.skip rfl (Cov.skip rfl (Cov.skip rfl (Cov.skip rfl (Cov.skip rfl (Cov.skip rfl (Cov.skip rfl (Cov.refl _)))))))))⟩
            have hot0 := hot0.to c151
            have ho14 := ho14.to c151
            refine WO.asg rfl ?_
            refine WO.nil ?_
            refine thenL_n ?_
            refine WC.ret ?_
            obtain rfl := someI h
            exact ⟨.inr rfl, _, _, rfl, rfl, rfl⟩
        | inr b124 =>
          simp only at h
          rintro _ _ _ _ ⟨rfl, ⟨S152, rfl, rfl, hc153⟩⟩
          refine blockL_r ?_
          refine thenL_r ?_
          obtain rfl := someI h
          exact ⟨.inr rfl, _, _, (resK_cov hc153 rfl), rfl, rfl⟩
  | inr b72 =>
    simp only at h
    rintro _ _ _ _ ⟨rfl, ⟨S154, rfl, rfl, hc155⟩⟩
    refine thenL_r ?_
    obtain rfl := someI h
    exact ⟨.inr rfl, _, _, (resK_cov hc155 rfl), rfl, rfl⟩
end Go.Proofs.Ytdkmepeolmdccaa

/- The machine answers F8: printed by a program of ours (gen.py). -/
import Derived.Test.YtkfmedmanhcdeaaDef
import Derived.Test.YtkfmedmanhcdeaaEnv
import Derived.Test.YtkfmedmanhcdeaaF40
import Derived.Test.YtkfmedmanhcdeaaF41
import Derived.Test.YtkfmedmanhcdeaaF42
import Derived.Test.YtkfmedmanhcdeaaF43
import Derived.Test.YtkfmedmanhcdeaaF44
import Derived.Test.YtkfmedmanhcdeaaF45
import Derived.Test.YtkfmedmanhcdeaaF46
import Derived.Test.YtkfmedmanhcdeaaF47
import Derived.Test.YtkfmedmanhcdeaaF48
import Derived.Test.YtkfmedmanhcdeaaF49
import Derived.Test.YtkfmedmanhcdeaaF50
set_option linter.unusedVariables false
namespace Go.Proofs.Ytkfmedmanhcdeaa
open Go.Am
theorem F8.fn : E.fn 8 = some ⟨224, (Try.f8.body.getD .skip), Try.f8.results.toList, [12]⟩ := rfl
theorem F8_ok {F : Nat} {m : Mem} {n : Nat} {r : Bool} {t0 : Int} {t1 : Int} {t2 : Int × Int} {t3 : Int × Int} (h : F8 F t0 t1 t2 t3 = some r)  : Ret E n 8 [.sc (.int .i64 t0), .sc (.int .i64 t1), .agg [.int .i64 t2.1, .int .i64 t2.2], .agg [.int .i64 t3.1, .int .i64 t3.2]] m n (fun v m' n' => v = .sc (.bool r)) := by
  unfold F8 at h
  refine Ret.walk F8.fn ?_
  refine WC.start fun S0 em en hz => ?_
  refine WC.seq ?_
  refine WC.region ?_
  refine WO.bxS (A := Y56) (S := S0) (u := (t2.1, t2.2)) 2 rfl rfl rfl rfl (fun v1 S2 c3 ho4 => ?_)
  refine WO.bxS (A := Y56) (S := S2) (u := (t3.1, t3.2)) 3 rfl rfl rfl rfl (fun v5 S6 c7 ho8 => ?_)
  have ho4 := ho4.to c7
  refine WO.asg rfl ?_
  refine WO.nil ?_
  refine thenL_n ?_
  refine WC.seq ?_
  refine WC.region ?_
  refine WO.mv rfl ?_
  refine WO.mv rfl ?_
  obtain ⟨r9, e10, h⟩ := bindS h
  refine WO.callE (S := S6) rfl rfl (F40_ok e10) (fun S11 c12 => ?_)
  have ho4 := ho4.to c12
  have ho8 := ho8.to c12
  refine WO.mv rfl ?_
  refine WO.do rfl rfl ?_
  refine WO.do rfl rfl ?_
  refine WO.alS (A := Y56) (S := S11) (z0 := (0, 0)) 4 rfl rfl rfl (fun v13 S14 c15 ho16 => ?_)
  have ho4 := ho4.to c15
  have ho8 := ho8.to c15
  refine WO.stBA (u' := (r9.1.1, r9.1.2)) rfl ho16.at0 rfl ho16 rfl rfl (fun S17 c18 ho16 => ?_)
  have ho4 := ho4.to c18
  have ho8 := ho8.to c18
  refine WO.asg rfl ?_
  refine WO.nil ?_
  refine thenL_n ?_
  refine WC.seq ?_
  refine WC.region ?_
  refine WO.ldBA (j := 0) rfl ho4.at0 ho4 rfl rfl ?_
  refine WO.ldBA (j := 0) rfl ho8.at0 ho8 rfl rfl ?_
  obtain ⟨r19, e20, h⟩ := bindS h
  refine WO.callE (S := S17) rfl rfl (F41_ok e20) (fun S21 c22 => ?_)
  have ho4 := ho4.to c22
  have ho8 := ho8.to c22
  have ho16 := ho16.to c22
  refine WO.mv rfl ?_
  refine WO.do rfl rfl ?_
  refine WO.do rfl rfl ?_
  refine WO.alS (A := Y56) (S := S21) (z0 := (0, 0)) 5 rfl rfl rfl (fun v23 S24 c25 ho26 => ?_)
  have ho4 := ho4.to c25
  have ho8 := ho8.to c25
  have ho16 := ho16.to c25
  refine WO.stBA (u' := (r19.1.1, r19.1.2)) rfl ho26.at0 rfl ho26 rfl rfl (fun S27 c28 ho26 => ?_)
  have ho4 := ho4.to c28
  have ho8 := ho8.to c28
  have ho16 := ho16.to c28
  refine WO.asg rfl ?_
  refine WO.nil ?_
  refine thenL_n ?_
  refine WC.seq ?_
  refine WC.region ?_
  refine WO.ldBA (j := 0) rfl ho4.at0 ho4 rfl rfl ?_
  refine WO.ldBA (j := 0) rfl ho8.at0 ho8 rfl rfl ?_
  obtain ⟨r29, e30, h⟩ := bindS h
  refine WO.callE (S := S27) rfl rfl (F42_ok e30) (fun S31 c32 => ?_)
  have ho4 := ho4.to c32
  have ho8 := ho8.to c32
  have ho16 := ho16.to c32
  have ho26 := ho26.to c32
  refine WO.mv rfl ?_
  refine WO.do rfl rfl ?_
  refine WO.do rfl rfl ?_
  refine WO.alS (A := Y56) (S := S31) (z0 := (0, 0)) 6 rfl rfl rfl (fun v33 S34 c35 ho36 => ?_)
  have ho4 := ho4.to c35
  have ho8 := ho8.to c35
  have ho16 := ho16.to c35
  have ho26 := ho26.to c35
  refine WO.stBA (u' := (r29.1.1, r29.1.2)) rfl ho36.at0 rfl ho36 rfl rfl (fun S37 c38 ho36 => ?_)
  have ho4 := ho4.to c38
  have ho8 := ho8.to c38
  have ho16 := ho16.to c38
  have ho26 := ho26.to c38
  refine WO.asg rfl ?_
  refine WO.nil ?_
  refine thenL_n ?_
  refine WC.seq ?_
  refine WC.region ?_
  refine WO.ldBA (j := 0) rfl ho4.at0 ho4 rfl rfl ?_
  refine WO.ldBA (j := 0) rfl ho8.at0 ho8 rfl rfl ?_
  obtain ⟨r39, e40, h⟩ := bindS h
  refine WO.callE (S := S37) rfl rfl (F43_ok e40) (fun S41 c42 => ?_)
  have ho4 := ho4.to c42
  have ho8 := ho8.to c42
  have ho16 := ho16.to c42
  have ho26 := ho26.to c42
  have ho36 := ho36.to c42
  refine WO.mv rfl ?_
  refine WO.do rfl rfl ?_
  refine WO.do rfl rfl ?_
  refine WO.alS (A := Y56) (S := S41) (z0 := (0, 0)) 7 rfl rfl rfl (fun v43 S44 c45 ho46 => ?_)
  have ho4 := ho4.to c45
  have ho8 := ho8.to c45
  have ho16 := ho16.to c45
  have ho26 := ho26.to c45
  have ho36 := ho36.to c45
  refine WO.stBA (u' := (r39.1.1, r39.1.2)) rfl ho46.at0 rfl ho46 rfl rfl (fun S47 c48 ho46 => ?_)
  have ho4 := ho4.to c48
  have ho8 := ho8.to c48
  have ho16 := ho16.to c48
  have ho26 := ho26.to c48
  have ho36 := ho36.to c48
  refine WO.asg rfl ?_
  refine WO.nil ?_
  refine thenL_n ?_
  refine WC.seq ?_
  refine WC.region ?_
  refine WO.ldBA (j := 0) rfl ho4.at0 ho4 rfl rfl ?_
  refine WO.ldBA (j := 0) rfl ho8.at0 ho8 rfl rfl ?_
  obtain ⟨r49, e50, h⟩ := bindS h
  refine WO.callE (S := S47) rfl rfl (F44_ok e50) (fun S51 c52 => ?_)
  have ho4 := ho4.to c52
  have ho8 := ho8.to c52
  have ho16 := ho16.to c52
  have ho26 := ho26.to c52
  have ho36 := ho36.to c52
  have ho46 := ho46.to c52
  refine WO.mv rfl ?_
  refine WO.do rfl rfl ?_
  refine WO.do rfl rfl ?_
  refine WO.asg rfl ?_
  refine WO.asg rfl ?_
  refine WO.nil ?_
  refine thenL_n ?_
  refine WC.seq ?_
  refine WC.block ?_
  refine WC.seq ?_
  refine WC.region ?_
  refine WO.mv rfl ?_
  refine WO.mv rfl ?_
  refine WO.maxD rfl rfl ?_
  refine WO.bin rfl rfl (by decide) (by decide) rfl ?_
  refine WO.mv rfl ?_
  refine WO.cutB (d := 66) 5 ((decide ((maxI t0 t1) > 1000000000)) || (decide ((minI t0 t1) < (-1000000000)))) (fun q53 => ?_) (fun q53 => ?_) ?_
  · refine WO.gno rfl rfl ?_
    refine WO.gno rfl rfl ?_
    refine WO.gno rfl rfl ?_
    refine WO.gno rfl rfl ?_
    refine WO.pickT rfl rfl ?_
    refine WO.nil ?_
    exact ⟨rfl, rfl, (Cov.any rfl (orT q53) (Cov.skip rfl (Cov.skip rfl (Cov.skip rfl (Cov.skip rfl (Cov.skip rfl (Cov.skip rfl (Cov.refl _))))))))⟩
  · skip
    refine WO.gyes rfl rfl ?_
    refine WO.mv rfl ?_
    refine WO.gyes rfl rfl ?_
    refine WO.mv rfl ?_
    refine WO.gyes rfl rfl ?_
    refine WO.minD rfl rfl ?_
    refine WO.gyes rfl rfl ?_
    refine WO.bin rfl rfl (by decide) (by decide) rfl ?_
    refine WO.pickF rfl rfl ?_
    refine WO.nil ?_
    exact ⟨rfl, rfl, (Cov.any rfl (orF q53) (Cov.skip rfl (Cov.skip rfl (Cov.skip rfl (Cov.skip rfl (Cov.skip rfl (Cov.skip rfl (Cov.refl _))))))))⟩
  refine WO.asg rfl ?_
  refine WO.nil ?_
  refine thenL_n ?_
  obtain ⟨b70, e71, h⟩ := bindS h
  refine WC.mono (Q' := (fun b e l' m' n' => (match b with | .inl b72 => e = .normal ∧ ∃ S73 : Cx n, S73.m = m' ∧ S73.n = n' ∧ Cov l' [(6, .sc v1), (7, .sc v5), (11, .sc v23), (12, .sc (.int .i64 r19.2)), (13, .sc v33), (14, .sc (.int .i64 r29.2)), (15, .sc v43), (16, .sc (.int .i64 r39.2)), (17, .sc (.bool r49.1)), (18, .sc (.int .i64 r49.2))] ∧ Bk Y56 S73 2 v1 ((t2.1, t2.2)) ∧ Bk Y56 S73 3 v5 ((t3.1, t3.2)) ∧ Bk Y56 S73 5 v23 ((r19.1.1, r19.1.2)) ∧ Bk Y56 S73 6 v33 ((r29.1.1, r29.1.2)) ∧ Bk Y56 S73 7 v43 ((r39.1.1, r39.1.2)) | .inr b72 => e = .ret ∧ ∃ S74 : Cx n, S74.m = m' ∧ S74.n = n' ∧ Cov l' [(8, .sc (.bool b72))])) b70) ?_ ?_
  · have h := e71
    dsimp only at h ⊢
    refine WC.cond rfl (fun q54 => ?_) (fun q54 => ?_)
    · have h := iteT q54 h
      refine WC.seq ?_
      refine WC.region ?_
      refine WO.mv rfl ?_
      refine WO.bin rfl rfl (by decide) (by decide) rfl ?_
      refine WO.mv rfl ?_
      refine WO.cutB (d := 73) 4 ((r9.2 != 1) || (!(((r9.1.1, r9.1.2)).1 == 0 && (((r9.1.1, r9.1.2)).2 == 0 && true)))) (fun q55 => ?_) (fun q55 => ?_) ?_
      · refine WO.gno rfl rfl ?_
        refine WO.gno rfl rfl ?_
        refine WO.gno rfl rfl ?_
        refine WO.pickT rfl rfl ?_
        refine WO.nil ?_
        exact ⟨rfl, rfl, (Cov.any rfl (orT q55) (Cov.skip rfl (Cov.skip rfl (Cov.skip rfl (Cov.skip rfl (Cov.skip rfl (Cov.refl _)))))))⟩
      · skip
        refine WO.gyes rfl rfl ?_
        refine WO.ldBA (j := 0) rfl ho16.at0 ho16 rfl rfl ?_
        refine WO.gyes rfl rfl ?_
        refine WO.do rfl rfl ?_
        refine WO.gyes rfl rfl ?_
        refine WO.neA rfl rfl rfl rfl (eqFields_cons rfl rfl rfl eqC_int (eqFields_cons rfl rfl rfl eqC_int rfl)) ?_
        refine WO.pickF rfl rfl ?_
        refine WO.nil ?_
        exact ⟨rfl, rfl, (Cov.any rfl (orF q55) (Cov.skip rfl (Cov.skip rfl (Cov.skip rfl (Cov.skip rfl (Cov.skip rfl (Cov.refl _)))))))⟩
      refine WO.nil ?_
      refine thenL_n ?_
      refine WC.cond rfl (fun q56 => ?_) (fun q56 => ?_)
      · have h := iteT q56 h
        refine WC.seq ?_
        refine WC.region ?_
        refine WO.asg rfl ?_
        refine WO.nil ?_
        refine thenL_n ?_
        refine WC.ret ?_
        obtain rfl := someI h
        exact ⟨rfl, ⟨S51, rfl, rfl, (Cov.cons rfl (Cov.nil _))⟩⟩
      · have h := iteF q56 h
        refine WC.skip ?_
        obtain rfl := someI h
        exact ⟨rfl, ⟨S51, rfl, rfl, (Cov.cons rfl (Cov.cons rfl (Cov.cons rfl (Cov.cons rfl (Cov.cons rfl (Cov.cons rfl (Cov.cons rfl (Cov.cons rfl (Cov.cons rfl (Cov.cons rfl (Cov.nil _))))))))))), ho4, ho8, ho26, ho36, ho46⟩⟩
    · have h := iteF q54 h
      refine WC.seq ?_
      refine WC.region ?_
      refine WO.mv rfl ?_
      refine WO.bin rfl rfl (by decide) (by decide) rfl ?_
      refine WO.asg rfl ?_
      refine WO.nil ?_
      refine thenL_n ?_
      refine WC.cond rfl (fun q57 => ?_) (fun q57 => ?_)
      · have h := iteT q57 h
        refine WC.seq ?_
        refine WC.region ?_
        refine WO.mv rfl ?_
        refine WO.bin rfl rfl (by decide) (by decide) rfl ?_
        refine WO.mv rfl ?_
        refine WO.cutB (d := 83) 4 ((r9.2 != 5) || (!(((r9.1.1, r9.1.2)).1 == 0 && (((r9.1.1, r9.1.2)).2 == 0 && true)))) (fun q58 => ?_) (fun q58 => ?_) ?_
        · refine WO.gno rfl rfl ?_
          refine WO.gno rfl rfl ?_
          refine WO.gno rfl rfl ?_
          refine WO.pickT rfl rfl ?_
          refine WO.nil ?_
          exact ⟨rfl, rfl, (Cov.any rfl (orT q58) (Cov.skip rfl (Cov.skip rfl (Cov.skip rfl (Cov.skip rfl (Cov.skip rfl (Cov.refl _)))))))⟩
        · skip
          refine WO.gyes rfl rfl ?_
          refine WO.ldBA (j := 0) rfl ho16.at0 ho16 rfl rfl ?_
          refine WO.gyes rfl rfl ?_
          refine WO.do rfl rfl ?_
          refine WO.gyes rfl rfl ?_
          refine WO.neA rfl rfl rfl rfl (eqFields_cons rfl rfl rfl eqC_int (eqFields_cons rfl rfl rfl eqC_int rfl)) ?_
          refine WO.pickF rfl rfl ?_
          refine WO.nil ?_
          exact ⟨rfl, rfl, (Cov.any rfl (orF q58) (Cov.skip rfl (Cov.skip rfl (Cov.skip rfl (Cov.skip rfl (Cov.skip rfl (Cov.refl _)))))))⟩
        refine WO.nil ?_
        refine thenL_n ?_
        refine WC.cond rfl (fun q59 => ?_) (fun q59 => ?_)
        · have h := iteT q59 h
          refine WC.seq ?_
          refine WC.region ?_
          refine WO.asg rfl ?_
          refine WO.nil ?_
          refine thenL_n ?_
          refine WC.ret ?_
          obtain rfl := someI h
          exact ⟨rfl, ⟨S51, rfl, rfl, (Cov.cons rfl (Cov.nil _))⟩⟩
        · have h := iteF q59 h
          refine WC.skip ?_
          obtain rfl := someI h
          exact ⟨rfl, ⟨S51, rfl, rfl, (Cov.cons rfl (Cov.cons rfl (Cov.cons rfl (Cov.cons rfl (Cov.cons rfl (Cov.cons rfl (Cov.cons rfl (Cov.cons rfl (Cov.cons rfl (Cov.cons rfl (Cov.nil _))))))))))), ho4, ho8, ho26, ho36, ho46⟩⟩
      · have h := iteF q57 h
        refine WC.seq ?_
        refine WC.drawN rfl ?_
        refine WO.mv rfl ?_
        refine WO.bin rfl rfl (by decide) (by decide) rfl ?_
        refine WO.mv rfl ?_
        obtain ⟨y65, e66, h⟩ := bindS h
        refine WO.cutS (d := 93) (S := S51) 6 y65 (fun q64 => ?_) (fun q64 => ?_) (fun S67 c68 => ?_)
        · have h := e66
          have h := iteT q64 h
          obtain rfl := someI h
          refine WO.gno rfl rfl ?_
          refine WO.gno rfl rfl ?_
          refine WO.gno rfl rfl ?_
          refine WO.gno rfl rfl ?_
          refine WO.gno rfl rfl ?_
          refine WO.pickT rfl rfl ?_
          refine WO.nil ?_
          exact ⟨S51, rfl, rfl, Ch.refl _ _, (Cov.cons rfl (Cov.skip rfl (Cov.skip rfl (Cov.skip rfl (Cov.skip rfl (Cov.skip rfl (Cov.skip rfl (Cov.skip rfl (Cov.refl _)))))))))⟩
        · have h := e66
          have h := iteF q64 h
          refine WO.gyes rfl rfl ?_
          refine WO.ldBA (j := 0) rfl ho16.at0 ho16 rfl (limLe_self _) ?_
          refine WO.gyes rfl rfl ?_
          refine WO.mv rfl ?_
          refine WO.gyes rfl rfl ?_
          refine WO.mv rfl ?_
          refine WO.gyes rfl rfl ?_
          obtain ⟨r60, e61, h⟩ := bindS h
          refine WO.callE (S := S51) rfl rfl (F45_ok e61) (fun S62 c63 => ?_)
          have ho4 := ho4.to c63
          have ho8 := ho8.to c63
          have ho16 := ho16.to c63
          have ho26 := ho26.to c63
          have ho36 := ho36.to c63
          have ho46 := ho46.to c63
          refine WO.gyes rfl rfl ?_
          refine WO.neA rfl rfl rfl rfl (eqFields_cons rfl rfl rfl eqC_int (eqFields_cons rfl rfl rfl eqC_int rfl)) ?_
          obtain rfl := someI h
          refine WO.pickF rfl rfl ?_
          refine WO.nil ?_
          exact ⟨S62, rfl, rfl, c63, (Cov.cons rfl (Cov.skip rfl (Cov.skip rfl (Cov.skip rfl (Cov.skip rfl (Cov.skip rfl (Cov.skip rfl (Cov.skip rfl (Cov.refl _)))))))))⟩
        have ho4 := ho4.to c68
        have ho8 := ho8.to c68
        have ho16 := ho16.to c68
        have ho26 := ho26.to c68
        have ho36 := ho36.to c68
        have ho46 := ho46.to c68
        refine WO.asg rfl ?_
        refine WO.nil ?_
        refine thenL_n ?_
        refine WC.cond rfl (fun q69 => ?_) (fun q69 => ?_)
        · have h := iteT q69 h
          refine WC.seq ?_
          refine WC.region ?_
          refine WO.asg rfl ?_
          refine WO.nil ?_
          refine thenL_n ?_
          refine WC.ret ?_
          obtain rfl := someI h
          exact ⟨rfl, ⟨S67, rfl, rfl, (Cov.cons rfl (Cov.nil _))⟩⟩
        · have h := iteF q69 h
          refine WC.skip ?_
          obtain rfl := someI h
          exact ⟨rfl, ⟨S67, rfl, rfl, (Cov.cons rfl (Cov.cons rfl (Cov.cons rfl (Cov.cons rfl (Cov.cons rfl (Cov.cons rfl (Cov.cons rfl (Cov.cons rfl (Cov.cons rfl (Cov.cons rfl (Cov.nil _))))))))))), ho4, ho8, ho26, ho36, ho46⟩⟩
  dsimp only
  cases b70 with
  | inl b75 =>
    simp only at h
    rintro _ _ _ _ ⟨rfl, ⟨S76, rfl, rfl, hc77, ho4, ho8, ho26, ho36, ho46⟩⟩
    refine blockL_n ?_
    refine thenL_n ?_
    refine WC.cov hc77 ?_
    refine WC.seq ?_
    refine WC.region ?_
    refine WO.ldBA (j := 0) rfl ho4.at0 ho4 rfl rfl ?_
    obtain ⟨r78, e79, h⟩ := bindS h
    refine WO.callE (S := S76) rfl rfl (F46_ok e79) (fun S80 c81 => ?_)
    have ho4 := ho4.to c81
    have ho8 := ho8.to c81
    have ho26 := ho26.to c81
    have ho36 := ho36.to c81
    have ho46 := ho46.to c81
    refine WO.asg rfl ?_
    refine WO.nil ?_
    refine thenL_n ?_
    refine WC.seq ?_
    refine WC.seq ?_
    refine WC.region ?_
    refine WO.ldBA (j := 0) rfl ho4.at0 ho4 rfl rfl ?_
    obtain ⟨r82, e83, h⟩ := bindS h
    refine WO.callE (S := S80) rfl rfl (F47_ok e83) (fun S84 c85 => ?_)
    have ho4 := ho4.to c85
    have ho8 := ho8.to c85
    have ho26 := ho26.to c85
    have ho36 := ho36.to c85
    have ho46 := ho46.to c85
    refine WO.mv rfl ?_
    refine WO.bin rfl rfl (by decide) (by decide) rfl ?_
    refine WO.nil ?_
    refine thenL_n ?_
    refine WC.cond rfl (fun q86 => ?_) (fun q86 => ?_)
    · have h := iteT q86 h
      refine WC.seq ?_
      refine WC.region ?_
      refine WO.asg rfl ?_
      refine WO.nil ?_
      refine thenL_n ?_
      refine WC.ret ?_
      refine thenL_r ?_
      obtain rfl := someI h
      exact ⟨.inr rfl, _, _, rfl, rfl, rfl⟩
    · have h := iteF q86 h
      refine WC.skip ?_
      refine thenL_n ?_
      refine WC.seq ?_
      refine WC.seq ?_
      refine WC.region ?_
      refine WO.mv rfl ?_
      refine WO.bin rfl rfl (by decide) (by decide) rfl ?_
      refine WO.nil ?_
      refine thenL_n ?_
      obtain ⟨b92, e93, h⟩ := bindS h
      refine WC.mono (Q' := (fun b e l' m' n' => e = .normal ∧ ∃ S94 : Cx n, S94.m = m' ∧ S94.n = n' ∧ Cov l' [(6, .sc v1), (7, .sc v5), (11, .sc v23), (12, .sc (.int .i64 r19.2)), (13, .sc v33), (14, .sc (.int .i64 r29.2)), (15, .sc v43), (16, .sc (.int .i64 r39.2)), (17, .sc (.bool r49.1)), (18, .sc (.int .i64 r49.2)), (19, .sc (.int .i64 b))] ∧ Bk Y56 S94 2 v1 ((t2.1, t2.2)) ∧ Bk Y56 S94 3 v5 ((t3.1, t3.2)) ∧ Bk Y56 S94 5 v23 ((r19.1.1, r19.1.2)) ∧ Bk Y56 S94 6 v33 ((r29.1.1, r29.1.2)) ∧ Bk Y56 S94 7 v43 ((r39.1.1, r39.1.2))) b92) ?_ ?_
      · have h := e93
        dsimp only at h ⊢
        refine WC.cond rfl (fun q87 => ?_) (fun q87 => ?_)
        · have h := iteT q87 h
          refine WC.region ?_
          refine WO.ldBA (j := 0) rfl ho8.at0 ho8 rfl rfl ?_
          obtain ⟨r88, e89, h⟩ := bindS h
          refine WO.callE (S := S84) rfl rfl (F46_ok e89) (fun S90 c91 => ?_)
          have ho4 := ho4.to c91
          have ho8 := ho8.to c91
          have ho26 := ho26.to c91
          have ho36 := ho36.to c91
          have ho46 := ho46.to c91
          refine WO.asg rfl ?_
          refine WO.nil ?_
          obtain rfl := someI h
          exact ⟨rfl, ⟨S90, rfl, rfl, (Cov.cons rfl (Cov.cons rfl (Cov.cons rfl (Cov.cons rfl (Cov.cons rfl (Cov.cons rfl (Cov.cons rfl (Cov.cons rfl (Cov.cons rfl (Cov.cons rfl (Cov.cons rfl (Cov.nil _)))))))))))), ho4, ho8, ho26, ho36, ho46⟩⟩
        · have h := iteF q87 h
          refine WC.skip ?_
          obtain rfl := someI h
          exact ⟨rfl, ⟨S84, rfl, rfl, (Cov.cons rfl (Cov.cons rfl (Cov.cons rfl (Cov.cons rfl (Cov.cons rfl (Cov.cons rfl (Cov.cons rfl (Cov.cons rfl (Cov.cons rfl (Cov.cons rfl (Cov.cons rfl (Cov.nil _)))))))))))), ho4, ho8, ho26, ho36, ho46⟩⟩
      dsimp only
      rintro _ _ _ _ ⟨rfl, ⟨S95, rfl, rfl, hc96, ho4, ho8, ho26, ho36, ho46⟩⟩
      refine thenL_n ?_
      refine WC.cov hc96 ?_
      refine WC.seq ?_
      refine WC.seq ?_
      refine WC.region ?_
      refine WO.mv rfl ?_
      refine WO.bin rfl rfl (by decide) (by decide) rfl ?_
      refine WO.nil ?_
      refine thenL_n ?_
      refine WC.cond rfl (fun q97 => ?_) (fun q97 => ?_)
      · have h := iteT q97 h
        refine WC.seq ?_
        refine WC.region ?_
        refine WO.mv rfl ?_
        refine WO.mv rfl ?_
        refine WO.bin rfl rfl (by decide) (by decide) rfl ?_
        refine WO.mv rfl ?_
        refine WO.cutB (d := 113) 4 ((r19.2 == b92) && (r29.2 == b92)) (fun q98 => ?_) (fun q98 => ?_) ?_
        · skip
          refine WO.gyes rfl rfl ?_
          refine WO.mv rfl ?_
          refine WO.gyes rfl rfl ?_
          refine WO.mv rfl ?_
          refine WO.gyes rfl rfl ?_
          refine WO.bin rfl rfl (by decide) (by decide) rfl ?_
          refine WO.pickT rfl rfl ?_
          refine WO.nil ?_
          exact ⟨rfl, rfl, (Cov.any rfl (andT q98) (Cov.skip rfl (Cov.skip rfl (Cov.skip rfl (Cov.skip rfl (Cov.skip rfl (Cov.refl _)))))))⟩
        · refine WO.gno rfl rfl ?_
          refine WO.gno rfl rfl ?_
          refine WO.gno rfl rfl ?_
          refine WO.pickF rfl rfl ?_
          refine WO.nil ?_
          exact ⟨rfl, rfl, (Cov.any rfl (andF q98) (Cov.skip rfl (Cov.skip rfl (Cov.skip rfl (Cov.skip rfl (Cov.skip rfl (Cov.refl _)))))))⟩
        refine WO.mv rfl ?_
        refine WO.cutB (d := 118) 4 (((r19.2 == b92) && (r29.2 == b92)) && (r39.2 == b92)) (fun q99 => ?_) (fun q99 => ?_) ?_
        · skip
          refine WO.gyes rfl rfl ?_
          refine WO.mv rfl ?_
          refine WO.gyes rfl rfl ?_
          refine WO.mv rfl ?_
          refine WO.gyes rfl rfl ?_
          refine WO.bin rfl rfl (by decide) (by decide) rfl ?_
          refine WO.pickT rfl rfl ?_
          refine WO.nil ?_
          exact ⟨rfl, rfl, (Cov.any rfl (andT q99) (Cov.skip rfl (Cov.skip rfl (Cov.skip rfl (Cov.skip rfl (Cov.skip rfl (Cov.refl _)))))))⟩
        · refine WO.gno rfl rfl ?_
          refine WO.gno rfl rfl ?_
          refine WO.gno rfl rfl ?_
          refine WO.pickF rfl rfl ?_
          refine WO.nil ?_
          exact ⟨rfl, rfl, (Cov.any rfl (andF q99) (Cov.skip rfl (Cov.skip rfl (Cov.skip rfl (Cov.skip rfl (Cov.skip rfl (Cov.refl _)))))))⟩
        refine WO.mv rfl ?_
        refine WO.cutB (d := 123) 4 ((((r19.2 == b92) && (r29.2 == b92)) && (r39.2 == b92)) && (r49.2 == b92)) (fun q100 => ?_) (fun q100 => ?_) ?_
        · skip
          refine WO.gyes rfl rfl ?_
          refine WO.mv rfl ?_
          refine WO.gyes rfl rfl ?_
          refine WO.mv rfl ?_
          refine WO.gyes rfl rfl ?_
          refine WO.bin rfl rfl (by decide) (by decide) rfl ?_
          refine WO.pickT rfl rfl ?_
          refine WO.nil ?_
          exact ⟨rfl, rfl, (Cov.any rfl (andT q100) (Cov.skip rfl (Cov.skip rfl (Cov.skip rfl (Cov.skip rfl (Cov.skip rfl (Cov.refl _)))))))⟩
        · refine WO.gno rfl rfl ?_
          refine WO.gno rfl rfl ?_
          refine WO.gno rfl rfl ?_
          refine WO.pickF rfl rfl ?_
          refine WO.nil ?_
          exact ⟨rfl, rfl, (Cov.any rfl (andF q100) (Cov.skip rfl (Cov.skip rfl (Cov.skip rfl (Cov.skip rfl (Cov.skip rfl (Cov.refl _)))))))⟩
        refine WO.mv rfl ?_
        refine WO.cutB (d := 128) 4 (((((r19.2 == b92) && (r29.2 == b92)) && (r39.2 == b92)) && (r49.2 == b92)) && (((r19.1.1, r19.1.2)).1 == 0 && (((r19.1.1, r19.1.2)).2 == 0 && true))) (fun q101 => ?_) (fun q101 => ?_) ?_
        · skip
          refine WO.gyes rfl rfl ?_
          refine WO.ldBA (j := 0) rfl ho26.at0 ho26 rfl rfl ?_
          refine WO.gyes rfl rfl ?_
          refine WO.do rfl rfl ?_
          refine WO.gyes rfl rfl ?_
          refine WO.eqA rfl rfl rfl rfl (eqFields_cons rfl rfl rfl eqC_int (eqFields_cons rfl rfl rfl eqC_int rfl)) ?_
          refine WO.pickT rfl rfl ?_
          refine WO.nil ?_
          exact ⟨rfl, rfl, (Cov.any rfl (andT q101) (Cov.skip rfl (Cov.skip rfl (Cov.skip rfl (Cov.skip rfl (Cov.skip rfl (Cov.refl _)))))))⟩
        · refine WO.gno rfl rfl ?_
          refine WO.gno rfl rfl ?_
          refine WO.gno rfl rfl ?_
          refine WO.pickF rfl rfl ?_
          refine WO.nil ?_
          exact ⟨rfl, rfl, (Cov.any rfl (andF q101) (Cov.skip rfl (Cov.skip rfl (Cov.skip rfl (Cov.skip rfl (Cov.skip rfl (Cov.refl _)))))))⟩
        refine WO.mv rfl ?_
        refine WO.cutB (d := 133) 4 ((((((r19.2 == b92) && (r29.2 == b92)) && (r39.2 == b92)) && (r49.2 == b92)) && (((r19.1.1, r19.1.2)).1 == 0 && (((r19.1.1, r19.1.2)).2 == 0 && true))) && (((r29.1.1, r29.1.2)).1 == 0 && (((r29.1.1, r29.1.2)).2 == 0 && true))) (fun q102 => ?_) (fun q102 => ?_) ?_
        · skip
          refine WO.gyes rfl rfl ?_
          refine WO.ldBA (j := 0) rfl ho36.at0 ho36 rfl rfl ?_
          refine WO.gyes rfl rfl ?_
          refine WO.do rfl rfl ?_
          refine WO.gyes rfl rfl ?_
          refine WO.eqA rfl rfl rfl rfl (eqFields_cons rfl rfl rfl eqC_int (eqFields_cons rfl rfl rfl eqC_int rfl)) ?_
          refine WO.pickT rfl rfl ?_
          refine WO.nil ?_
          exact ⟨rfl, rfl, (Cov.any rfl (andT q102) (Cov.skip rfl (Cov.skip rfl (Cov.skip rfl (Cov.skip rfl (Cov.skip rfl (Cov.refl _)))))))⟩
        · refine WO.gno rfl rfl ?_
          refine WO.gno rfl rfl ?_
          refine WO.gno rfl rfl ?_
          refine WO.pickF rfl rfl ?_
          refine WO.nil ?_
          exact ⟨rfl, rfl, (Cov.any rfl (andF q102) (Cov.skip rfl (Cov.skip rfl (Cov.skip rfl (Cov.skip rfl (Cov.skip rfl (Cov.refl _)))))))⟩
        refine WO.mv rfl ?_
        refine WO.cutB (d := 138) 4 (((((((r19.2 == b92) && (r29.2 == b92)) && (r39.2 == b92)) && (r49.2 == b92)) && (((r19.1.1, r19.1.2)).1 == 0 && (((r19.1.1, r19.1.2)).2 == 0 && true))) && (((r29.1.1, r29.1.2)).1 == 0 && (((r29.1.1, r29.1.2)).2 == 0 && true))) && (((r39.1.1, r39.1.2)).1 == 0 && (((r39.1.1, r39.1.2)).2 == 0 && true))) (fun q103 => ?_) (fun q103 => ?_) ?_
        · skip
          refine WO.gyes rfl rfl ?_
          refine WO.ldBA (j := 0) rfl ho46.at0 ho46 rfl rfl ?_
          refine WO.gyes rfl rfl ?_
          refine WO.do rfl rfl ?_
          refine WO.gyes rfl rfl ?_
          refine WO.eqA rfl rfl rfl rfl (eqFields_cons rfl rfl rfl eqC_int (eqFields_cons rfl rfl rfl eqC_int rfl)) ?_
          refine WO.pickT rfl rfl ?_
          refine WO.nil ?_
          exact ⟨rfl, rfl, (Cov.any rfl (andT q103) (Cov.skip rfl (Cov.skip rfl (Cov.skip rfl (Cov.skip rfl (Cov.skip rfl (Cov.refl _)))))))⟩
        · refine WO.gno rfl rfl ?_
          refine WO.gno rfl rfl ?_
          refine WO.gno rfl rfl ?_
          refine WO.pickF rfl rfl ?_
          refine WO.nil ?_
          exact ⟨rfl, rfl, (Cov.any rfl (andF q103) (Cov.skip rfl (Cov.skip rfl (Cov.skip rfl (Cov.skip rfl (Cov.skip rfl (Cov.refl _)))))))⟩
        refine WO.mv rfl ?_
        refine WO.cutB (d := 142) 3 ((((((((r19.2 == b92) && (r29.2 == b92)) && (r39.2 == b92)) && (r49.2 == b92)) && (((r19.1.1, r19.1.2)).1 == 0 && (((r19.1.1, r19.1.2)).2 == 0 && true))) && (((r29.1.1, r29.1.2)).1 == 0 && (((r29.1.1, r29.1.2)).2 == 0 && true))) && (((r39.1.1, r39.1.2)).1 == 0 && (((r39.1.1, r39.1.2)).2 == 0 && true))) && (!r49.1)) (fun q104 => ?_) (fun q104 => ?_) ?_
        · skip
          refine WO.gyes rfl rfl ?_
          refine WO.mv rfl ?_
          refine WO.gyes rfl rfl ?_
          refine WO.do rfl rfl ?_
          refine WO.pickT rfl rfl ?_
          refine WO.nil ?_
          exact ⟨rfl, rfl, (Cov.any rfl (andT q104) (Cov.skip rfl (Cov.skip rfl (Cov.skip rfl (Cov.skip rfl (Cov.refl _))))))⟩
        · refine WO.gno rfl rfl ?_
          refine WO.gno rfl rfl ?_
          refine WO.pickF rfl rfl ?_
          refine WO.nil ?_
          exact ⟨rfl, rfl, (Cov.any rfl (andF q104) (Cov.skip rfl (Cov.skip rfl (Cov.skip rfl (Cov.skip rfl (Cov.refl _))))))⟩
        refine WO.asg rfl ?_
        refine WO.nil ?_
        refine thenL_n ?_
        refine WC.ret ?_
        refine thenL_r ?_
        obtain rfl := someI h
        exact ⟨.inr rfl, _, _, rfl, rfl, rfl⟩
      · have h := iteF q97 h
        refine WC.skip ?_
        refine thenL_n ?_
        refine WC.seq ?_
        refine WC.region ?_
        refine WO.ldBA (j := 0) rfl ho4.at0 ho4 rfl rfl ?_
        refine WO.ldBA (j := 0) rfl ho8.at0 ho8 rfl rfl ?_
        obtain ⟨r105, e106, h⟩ := bindS h
        refine WO.callE (S := S95) rfl rfl (F48_ok e106) (fun S107 c108 => ?_)
        have ho4 := ho4.to c108
        have ho8 := ho8.to c108
        have ho26 := ho26.to c108
        have ho36 := ho36.to c108
        have ho46 := ho46.to c108
        refine WO.mv rfl ?_
        refine WO.do rfl rfl ?_
        refine WO.do rfl rfl ?_
        refine WO.alS (A := Y56) (S := S107) (z0 := (0, 0)) 8 rfl rfl rfl (fun v109 S110 c111 ho112 => ?_)
        have ho4 := ho4.to c111
        have ho8 := ho8.to c111
        have ho26 := ho26.to c111
        have ho36 := ho36.to c111
        have ho46 := ho46.to c111
        refine WO.stBA (u' := (r105.1.1, r105.1.2)) rfl ho112.at0 rfl ho112 rfl rfl (fun S113 c114 ho112 => ?_)
        have ho4 := ho4.to c114
        have ho8 := ho8.to c114
        have ho26 := ho26.to c114
        have ho36 := ho36.to c114
        have ho46 := ho46.to c114
        refine WO.asg rfl ?_
        refine WO.nil ?_
        refine thenL_n ?_
        refine WC.seq ?_
        refine WC.region ?_
        refine WO.ldBA (j := 0) rfl ho4.at0 ho4 rfl rfl ?_
        refine WO.ldBA (j := 0) rfl ho8.at0 ho8 rfl rfl ?_
        obtain ⟨r115, e116, h⟩ := bindS h
        refine WO.callE (S := S113) rfl rfl (F49_ok e116) (fun S117 c118 => ?_)
        have ho4 := ho4.to c118
        have ho8 := ho8.to c118
        have ho26 := ho26.to c118
        have ho36 := ho36.to c118
        have ho46 := ho46.to c118
        have ho112 := ho112.to c118
        refine WO.mv rfl ?_
        refine WO.do rfl rfl ?_
        refine WO.do rfl rfl ?_
        refine WO.alS (A := Y56) (S := S117) (z0 := (0, 0)) 9 rfl rfl rfl (fun v119 S120 c121 ho122 => ?_)
        have ho4 := ho4.to c121
        have ho8 := ho8.to c121
        have ho26 := ho26.to c121
        have ho36 := ho36.to c121
        have ho46 := ho46.to c121
        have ho112 := ho112.to c121
        refine WO.stBA (u' := (r115.1.1, r115.1.2)) rfl ho122.at0 rfl ho122 rfl rfl (fun S123 c124 ho122 => ?_)
        have ho4 := ho4.to c124
        have ho8 := ho8.to c124
        have ho26 := ho26.to c124
        have ho36 := ho36.to c124
        have ho46 := ho46.to c124
        have ho112 := ho112.to c124
        refine WO.asg rfl ?_
        refine WO.nil ?_
        refine thenL_n ?_
        refine WC.seq ?_
        refine WC.seq ?_
        refine WC.region ?_
        refine WO.mv rfl ?_
        refine WO.mv rfl ?_
        refine WO.bin rfl rfl (by decide) (by decide) rfl ?_
        refine WO.mv rfl ?_
        refine WO.cutB (d := 162) 4 ((r19.2 != r105.2) || (!(((r19.1.1, r19.1.2)).1 == ((r105.1.1, r105.1.2)).1 && (((r19.1.1, r19.1.2)).2 == ((r105.1.1, r105.1.2)).2 && true)))) (fun q125 => ?_) (fun q125 => ?_) ?_
        · refine WO.gno rfl rfl ?_
          refine WO.gno rfl rfl ?_
          refine WO.gno rfl rfl ?_
          refine WO.pickT rfl rfl ?_
          refine WO.nil ?_
          exact ⟨rfl, rfl, (Cov.any rfl (orT q125) (Cov.skip rfl (Cov.skip rfl (Cov.skip rfl (Cov.skip rfl (Cov.skip rfl (Cov.refl _)))))))⟩
        · skip
          refine WO.gyes rfl rfl ?_
          refine WO.ldBA (j := 0) rfl ho26.at0 ho26 rfl rfl ?_
          refine WO.gyes rfl rfl ?_
          refine WO.ldBA (j := 0) rfl ho112.at0 ho112 rfl rfl ?_
          refine WO.gyes rfl rfl ?_
          refine WO.neA rfl rfl rfl rfl (eqFields_cons rfl rfl rfl eqC_int (eqFields_cons rfl rfl rfl eqC_int rfl)) ?_
          refine WO.pickF rfl rfl ?_
          refine WO.nil ?_
          exact ⟨rfl, rfl, (Cov.any rfl (orF q125) (Cov.skip rfl (Cov.skip rfl (Cov.skip rfl (Cov.skip rfl (Cov.skip rfl (Cov.refl _)))))))⟩
        refine WO.mv rfl ?_
        refine WO.cutB (d := 167) 4 (((r19.2 != r105.2) || (!(((r19.1.1, r19.1.2)).1 == ((r105.1.1, r105.1.2)).1 && (((r19.1.1, r19.1.2)).2 == ((r105.1.1, r105.1.2)).2 && true)))) || (r29.2 != r115.2)) (fun q126 => ?_) (fun q126 => ?_) ?_
        · refine WO.gno rfl rfl ?_
          refine WO.gno rfl rfl ?_
          refine WO.gno rfl rfl ?_
          refine WO.pickT rfl rfl ?_
          refine WO.nil ?_
          exact ⟨rfl, rfl, (Cov.any rfl (orT q126) (Cov.skip rfl (Cov.skip rfl (Cov.skip rfl (Cov.skip rfl (Cov.skip rfl (Cov.refl _)))))))⟩
        · skip
          refine WO.gyes rfl rfl ?_
          refine WO.mv rfl ?_
          refine WO.gyes rfl rfl ?_
          refine WO.mv rfl ?_
          refine WO.gyes rfl rfl ?_
          refine WO.bin rfl rfl (by decide) (by decide) rfl ?_
          refine WO.pickF rfl rfl ?_
          refine WO.nil ?_
          exact ⟨rfl, rfl, (Cov.any rfl (orF q126) (Cov.skip rfl (Cov.skip rfl (Cov.skip rfl (Cov.skip rfl (Cov.skip rfl (Cov.refl _)))))))⟩
        refine WO.mv rfl ?_
        refine WO.cutB (d := 172) 4 ((((r19.2 != r105.2) || (!(((r19.1.1, r19.1.2)).1 == ((r105.1.1, r105.1.2)).1 && (((r19.1.1, r19.1.2)).2 == ((r105.1.1, r105.1.2)).2 && true)))) || (r29.2 != r115.2)) || (!(((r29.1.1, r29.1.2)).1 == ((r115.1.1, r115.1.2)).1 && (((r29.1.1, r29.1.2)).2 == ((r115.1.1, r115.1.2)).2 && true)))) (fun q127 => ?_) (fun q127 => ?_) ?_
        · refine WO.gno rfl rfl ?_
          refine WO.gno rfl rfl ?_
          refine WO.gno rfl rfl ?_
          refine WO.pickT rfl rfl ?_
          refine WO.nil ?_
          exact ⟨rfl, rfl, (Cov.any rfl (orT q127) (Cov.skip rfl (Cov.skip rfl (Cov.skip rfl (Cov.skip rfl (Cov.skip rfl (Cov.refl _)))))))⟩
        · skip
          refine WO.gyes rfl rfl ?_
          refine WO.ldBA (j := 0) rfl ho36.at0 ho36 rfl rfl ?_
          refine WO.gyes rfl rfl ?_
          refine WO.ldBA (j := 0) rfl ho122.at0 ho122 rfl rfl ?_
          refine WO.gyes rfl rfl ?_
          refine WO.neA rfl rfl rfl rfl (eqFields_cons rfl rfl rfl eqC_int (eqFields_cons rfl rfl rfl eqC_int rfl)) ?_
          refine WO.pickF rfl rfl ?_
          refine WO.nil ?_
          exact ⟨rfl, rfl, (Cov.any rfl (orF q127) (Cov.skip rfl (Cov.skip rfl (Cov.skip rfl (Cov.skip rfl (Cov.skip rfl (Cov.refl _)))))))⟩
        refine WO.mv rfl ?_
        refine WO.cutB (d := 176) 3 (((((r19.2 != r105.2) || (!(((r19.1.1, r19.1.2)).1 == ((r105.1.1, r105.1.2)).1 && (((r19.1.1, r19.1.2)).2 == ((r105.1.1, r105.1.2)).2 && true)))) || (r29.2 != r115.2)) || (!(((r29.1.1, r29.1.2)).1 == ((r115.1.1, r115.1.2)).1 && (((r29.1.1, r29.1.2)).2 == ((r115.1.1, r115.1.2)).2 && true)))) || (r49.2 != 0)) (fun q128 => ?_) (fun q128 => ?_) ?_
        · refine WO.gno rfl rfl ?_
          refine WO.gno rfl rfl ?_
          refine WO.pickT rfl rfl ?_
          refine WO.nil ?_
          exact ⟨rfl, rfl, (Cov.any rfl (orT q128) (Cov.skip rfl (Cov.skip rfl (Cov.skip rfl (Cov.skip rfl (Cov.refl _))))))⟩
        · skip
          refine WO.gyes rfl rfl ?_
          refine WO.mv rfl ?_
          refine WO.gyes rfl rfl ?_
          refine WO.bin rfl rfl (by decide) (by decide) rfl ?_
          refine WO.pickF rfl rfl ?_
          refine WO.nil ?_
          exact ⟨rfl, rfl, (Cov.any rfl (orF q128) (Cov.skip rfl (Cov.skip rfl (Cov.skip rfl (Cov.skip rfl (Cov.refl _))))))⟩
        refine WO.mv rfl ?_
        refine WO.cutB (d := 191) 14 ((((((r19.2 != r105.2) || (!(((r19.1.1, r19.1.2)).1 == ((r105.1.1, r105.1.2)).1 && (((r19.1.1, r19.1.2)).2 == ((r105.1.1, r105.1.2)).2 && true)))) || (r29.2 != r115.2)) || (!(((r29.1.1, r29.1.2)).1 == ((r115.1.1, r115.1.2)).1 && (((r29.1.1, r29.1.2)).2 == ((r115.1.1, r115.1.2)).2 && true)))) || (r49.2 != 0)) || (!(r49.1 == (decide ((wrapA .i64 (((t2.1, t2.2)).1 * ((t3.1, t3.2)).2)) < (wrapA .i64 (((t3.1, t3.2)).1 * ((t2.1, t2.2)).2))))))) (fun q129 => ?_) (fun q129 => ?_) ?_
        · refine WO.gno rfl rfl ?_
          refine WO.gno rfl rfl ?_
          refine WO.gno rfl rfl ?_
          refine WO.gno rfl rfl ?_
          refine WO.gno rfl rfl ?_
          refine WO.gno rfl rfl ?_
          refine WO.gno rfl rfl ?_
          refine WO.gno rfl rfl ?_
          refine WO.gno rfl rfl ?_
          refine WO.gno rfl rfl ?_
          refine WO.gno rfl rfl ?_
          refine WO.gno rfl rfl ?_
          refine WO.gno rfl rfl ?_
          refine WO.pickT rfl rfl ?_
          refine WO.nil ?_
          exact ⟨rfl, rfl, (Cov.any rfl (orT q129) (Cov.skip rfl (Cov.skip rfl (Cov.skip rfl (Cov.skip rfl (Cov.skip rfl (Cov.skip rfl (Cov.skip rfl (Cov.skip rfl (Cov.skip rfl (Cov.skip rfl (Cov.skip rfl (Cov.skip rfl (Cov.skip rfl (Cov.skip rfl (Cov.skip rfl (Cov.refl _)))))))))))))))))⟩
        · skip
          refine WO.gyes rfl rfl ?_
          refine WO.mv rfl ?_
          refine WO.gyes rfl rfl ?_
          refine WO.fldS (j := 0) (q := 0) rfl ho4.at0 ho4.ptr rfl rfl rfl (by decide) ?_
          refine WO.gyes rfl rfl ?_
          refine WO.ldB (j := 0) (q := 0) rfl rfl ho4 rfl rfl rfl ?_
          refine WO.gyes rfl rfl ?_
          refine WO.fldS (j := 0) (q := 0) rfl ho8.at0 ho8.ptr rfl rfl rfl (by decide) ?_
          refine WO.gyes rfl rfl ?_
          refine WO.ldB (j := 0) (q := 1) rfl rfl ho8 rfl rfl rfl ?_
          refine WO.gyes rfl rfl ?_
          refine WO.bin rfl rfl (by decide) (by decide) rfl ?_
          refine WO.gyes rfl rfl ?_
          refine WO.fldS (j := 0) (q := 0) rfl ho8.at0 ho8.ptr rfl rfl rfl (by decide) ?_
          refine WO.gyes rfl rfl ?_
          refine WO.ldB (j := 0) (q := 0) rfl rfl ho8 rfl rfl rfl ?_
          refine WO.gyes rfl rfl ?_
          refine WO.fldS (j := 0) (q := 0) rfl ho4.at0 ho4.ptr rfl rfl rfl (by decide) ?_
          refine WO.gyes rfl rfl ?_
          refine WO.ldB (j := 0) (q := 1) rfl rfl ho4 rfl rfl rfl ?_
          refine WO.gyes rfl rfl ?_
          refine WO.bin rfl rfl (by decide) (by decide) rfl ?_
          refine WO.gyes rfl rfl ?_
          refine WO.bin rfl rfl (by decide) (by decide) rfl ?_
          refine WO.gyes rfl rfl ?_
          refine WO.do rfl rfl ?_
          refine WO.pickF rfl rfl ?_
          refine WO.nil ?_
          exact ⟨rfl, rfl, (Cov.any rfl (orF q129) (Cov.skip rfl (Cov.skip rfl (Cov.skip rfl (Cov.skip rfl (Cov.skip rfl (Cov.skip rfl (Cov.skip rfl (Cov.skip rfl (Cov.skip rfl (Cov.skip rfl (Cov.skip rfl (Cov.skip rfl (Cov.skip rfl (Cov.skip rfl (Cov.skip rfl (Cov.refl _)))))))))))))))))⟩
        refine WO.nil ?_
        refine thenL_n ?_
        refine WC.cond rfl (fun q130 => ?_) (fun q130 => ?_)
        · have h := iteT q130 h
          refine WC.seq ?_
          refine WC.region ?_
          refine WO.asg rfl ?_
          refine WO.nil ?_
          refine thenL_n ?_
          refine WC.ret ?_
          refine thenL_r ?_
          obtain rfl := someI h
          exact ⟨.inr rfl, _, _, rfl, rfl, rfl⟩
        · have h := iteF q130 h
          refine WC.skip ?_
          refine thenL_n ?_
          refine WC.seq ?_
          refine WC.seq ?_
          refine WC.region ?_
          refine WO.fldS (j := 0) (q := 0) rfl ho8.at0 ho8.ptr rfl rfl rfl (by decide) ?_
          refine WO.ldB (j := 0) (q := 0) rfl rfl ho8 rfl rfl rfl ?_
          refine WO.bin rfl rfl (by decide) (by decide) rfl ?_
          refine WO.nil ?_
          refine thenL_n ?_
          refine WC.cond rfl (fun q131 => ?_) (fun q131 => ?_)
          · have h := iteT q131 h
            refine WC.seq ?_
            refine WC.region ?_
            refine WO.mv rfl ?_
            refine WO.bin rfl rfl (by decide) (by decide) rfl ?_
            refine WO.mv rfl ?_
            refine WO.cutB (d := 201) 4 ((r39.2 == 5) && (((r39.1.1, r39.1.2)).1 == 0 && (((r39.1.1, r39.1.2)).2 == 0 && true))) (fun q132 => ?_) (fun q132 => ?_) ?_
            · skip
              refine WO.gyes rfl rfl ?_
              refine WO.ldBA (j := 0) rfl ho46.at0 ho46 rfl rfl ?_
              refine WO.gyes rfl rfl ?_
              refine WO.do rfl rfl ?_
              refine WO.gyes rfl rfl ?_
              refine WO.eqA rfl rfl rfl rfl (eqFields_cons rfl rfl rfl eqC_int (eqFields_cons rfl rfl rfl eqC_int rfl)) ?_
              refine WO.pickT rfl rfl ?_
              refine WO.nil ?_
              exact ⟨rfl, rfl, (Cov.any rfl (andT q132) (Cov.skip rfl (Cov.skip rfl (Cov.skip rfl (Cov.skip rfl (Cov.skip rfl (Cov.refl _)))))))⟩
            · refine WO.gno rfl rfl ?_
              refine WO.gno rfl rfl ?_
              refine WO.gno rfl rfl ?_
              refine WO.pickF rfl rfl ?_
              refine WO.nil ?_
              exact ⟨rfl, rfl, (Cov.any rfl (andF q132) (Cov.skip rfl (Cov.skip rfl (Cov.skip rfl (Cov.skip rfl (Cov.skip rfl (Cov.refl _)))))))⟩
            refine WO.asg rfl ?_
            refine WO.nil ?_
            refine thenL_n ?_
            refine WC.ret ?_
            refine thenL_r ?_
            obtain rfl := someI h
            exact ⟨.inr rfl, _, _, rfl, rfl, rfl⟩
          · have h := iteF q131 h
            refine WC.skip ?_
            refine thenL_n ?_
            refine WC.seq ?_
            refine WC.region ?_
            refine WO.fldS (j := 0) (q := 0) rfl ho4.at0 ho4.ptr rfl rfl rfl (by decide) ?_
            refine WO.ldB (j := 0) (q := 0) rfl rfl ho4 rfl rfl rfl ?_
            refine WO.fldS (j := 0) (q := 0) rfl ho8.at0 ho8.ptr rfl rfl rfl (by decide) ?_
            refine WO.ldB (j := 0) (q := 1) rfl rfl ho8 rfl rfl rfl ?_
            refine WO.bin rfl rfl (by decide) (by decide) rfl ?_
            refine WO.fldS (j := 0) (q := 0) rfl ho4.at0 ho4.ptr rfl rfl rfl (by decide) ?_
            refine WO.ldB (j := 0) (q := 1) rfl rfl ho4 rfl rfl rfl ?_
            refine WO.fldS (j := 0) (q := 0) rfl ho8.at0 ho8.ptr rfl rfl rfl (by decide) ?_
            refine WO.ldB (j := 0) (q := 0) rfl rfl ho8 rfl rfl rfl ?_
            refine WO.bin rfl rfl (by decide) (by decide) rfl ?_
            obtain ⟨r133, e134, h⟩ := bindS h
            refine WO.callE (S := S123) rfl rfl (F50_ok e134) (fun S135 c136 => ?_)
            have ho4 := ho4.to c136
            have ho8 := ho8.to c136
            have ho26 := ho26.to c136
            have ho36 := ho36.to c136
            have ho46 := ho46.to c136
            have ho112 := ho112.to c136
            have ho122 := ho122.to c136
            refine WO.mv rfl ?_
            refine WO.do rfl rfl ?_
            refine WO.do rfl rfl ?_
            refine WO.alS (A := Y56) (S := S135) (z0 := (0, 0)) 10 rfl rfl rfl (fun v137 S138 c139 ho140 => ?_)
            have ho4 := ho4.to c139
            have ho8 := ho8.to c139
            have ho26 := ho26.to c139
            have ho36 := ho36.to c139
            have ho46 := ho46.to c139
            have ho112 := ho112.to c139
            have ho122 := ho122.to c139
            refine WO.stBA (u' := (r133.1.1, r133.1.2)) rfl ho140.at0 rfl ho140 rfl rfl (fun S141 c142 ho140 => ?_)
            have ho4 := ho4.to c142
            have ho8 := ho8.to c142
            have ho26 := ho26.to c142
            have ho36 := ho36.to c142
            have ho46 := ho46.to c142
            have ho112 := ho112.to c142
            have ho122 := ho122.to c142
            refine WO.asg rfl ?_
            refine WO.nil ?_
            refine thenL_n ?_
            refine WC.seq ?_
            refine WC.region ?_
            refine WO.mv rfl ?_
            refine WO.mv rfl ?_
            refine WO.bin rfl rfl (by decide) (by decide) rfl ?_
            refine WO.mv rfl ?_
            refine WO.cutB (d := 223) 4 ((r39.2 == r133.2) && (((r39.1.1, r39.1.2)).1 == ((r133.1.1, r133.1.2)).1 && (((r39.1.1, r39.1.2)).2 == ((r133.1.1, r133.1.2)).2 && true))) (fun q143 => ?_) (fun q143 => ?_) ?_
            · skip
              refine WO.gyes rfl rfl ?_
              refine WO.ldBA (j := 0) rfl ho46.at0 ho46 rfl rfl ?_
              refine WO.gyes rfl rfl ?_
              refine WO.ldBA (j := 0) rfl ho140.at0 ho140 rfl rfl ?_
              refine WO.gyes rfl rfl ?_
              refine WO.eqA rfl rfl rfl rfl (eqFields_cons rfl rfl rfl eqC_int (eqFields_cons rfl rfl rfl eqC_int rfl)) ?_
              refine WO.pickT rfl rfl ?_
              refine WO.nil ?_
              exact ⟨rfl, rfl, (Cov.any rfl (andT q143) (Cov.skip rfl (Cov.skip rfl (Cov.skip rfl (Cov.skip rfl (Cov.skip rfl (Cov.refl _)))))))⟩
            · refine WO.gno rfl rfl ?_
              refine WO.gno rfl rfl ?_
              refine WO.gno rfl rfl ?_
              refine WO.pickF rfl rfl ?_
              refine WO.nil ?_
              exact ⟨rfl, rfl, (Cov.any rfl (andF q143) (Cov.skip rfl (Cov.skip rfl (Cov.skip rfl (Cov.skip rfl (Cov.skip rfl (Cov.refl _)))))))⟩
            refine WO.asg rfl ?_
            refine WO.nil ?_
            refine thenL_n ?_
            refine WC.ret ?_
            obtain rfl := someI h
            exact ⟨.inr rfl, _, _, rfl, rfl, rfl⟩
  | inr b75 =>
    simp only at h
    rintro _ _ _ _ ⟨rfl, ⟨S144, rfl, rfl, hc145⟩⟩
    refine blockL_r ?_
    refine thenL_r ?_
    obtain rfl := someI h
    exact ⟨.inr rfl, _, _, (resK_cov hc145 rfl), rfl, rfl⟩
end Go.Proofs.Ytkfmedmanhcdeaa

/- The machine answers F23: printed by a program of ours (gen.py). -/
import Derived.Test.YtkfmedmanhcdeaaDef
import Derived.Test.YtkfmedmanhcdeaaEnv
import Derived.Test.YtkfmedmanhcdeaaF96
set_option linter.unusedVariables false
namespace Go.Proofs.Ytkfmedmanhcdeaa
open Go.Am
theorem F23.fn : E.fn 23 = some ⟨70, (Try.f23.body.getD .skip), Try.f23.results.toList, []⟩ := rfl
theorem F23_ok {F : Nat} {fl : Nat} {S0 : Cx fl} {r : Int × ((List Int))} {t0 : (List Int)} {t1 : Int} {t2 : Int} {bt0 : Nat} {vt0_0 : SV} (h : F23 F t0 t1 t2 = some r) (hot0 : Bw S0 2 (.ptr bt0 0) [vt0_0]) (hot0_0 : Ow Y3 S0 3 vt0_0 t0) : Ret E fl 23 [.sc (.ptr bt0 0), .sc (.int .i64 t1), .sc (.int .i64 t2)] S0.m S0.n (fun v m' n' => ∃ S' : Cx fl, S'.m = m' ∧ S'.n = n' ∧ ChM S0 S' ∧ (∃ w36 : SV, v = .sc (.int .i64 r.1) ∧ Bw S' 2 (.ptr bt0 0) [w36] ∧ Ow Y3 S' 3 w36 r.2)) := by
  unfold F23 at h
  refine Ret.walk F23.fn ?_
  have hM := ChM.refl S0
  refine WC.seq ?_
  refine WC.region ?_
  refine WO.asg rfl ?_
  refine WO.nil ?_
  refine thenL_n ?_
  refine WC.seq ?_
  refine WC.seq ?_
  refine WC.region ?_
  refine WO.mv rfl ?_
  refine WO.bin rfl rfl (by decide) (by decide) rfl ?_
  refine WO.mv rfl ?_
  refine WO.cutB (d := 20) 9 ((decide (t1 < 0)) || (decide (t1 ≥ (wrapA .i64 ((t0.length : Int) - 1))))) (fun q1 => ?_) (fun q1 => ?_) ?_
  · refine WO.gno rfl rfl ?_
    refine WO.gno rfl rfl ?_
    refine WO.gno rfl rfl ?_
    refine WO.gno rfl rfl ?_
    refine WO.gno rfl rfl ?_
    refine WO.gno rfl rfl ?_
    refine WO.gno rfl rfl ?_
    refine WO.gno rfl rfl ?_
    refine WO.pickT rfl rfl ?_
    refine WO.nil ?_
    exact ⟨rfl, rfl, (Cov.any rfl (orT q1) (Cov.skip rfl (Cov.skip rfl (Cov.skip rfl (Cov.skip rfl (Cov.skip rfl (Cov.skip rfl (Cov.skip rfl (Cov.skip rfl (Cov.skip rfl (Cov.skip rfl (Cov.refl _))))))))))))⟩
  · skip
    refine WO.gyes rfl rfl ?_
    refine WO.mv rfl ?_
    refine WO.gyes rfl rfl ?_
    refine WO.mv rfl ?_
    refine WO.gyes rfl rfl ?_
    refine WO.nck rfl hot0.isp ?_
    refine WO.gyes rfl rfl ?_
    refine WO.fldS (j := 0) (q := 0) rfl hot0.at0 hot0.ptr rfl rfl rfl (by decide) ?_
    refine WO.gyes rfl rfl ?_
    refine WO.ldW rfl rfl hot0 rfl rfl hot0.lt rfl ?_
    refine WO.gyes rfl rfl ?_
    refine WO.lenS rfl hot0_0.slv rfl ?_
    refine WO.gyes rfl rfl ?_
    refine WO.bin rfl rfl (by decide) (by decide) rfl ?_
    refine WO.gyes rfl rfl ?_
    refine WO.bin rfl rfl (by decide) (by decide) rfl ?_
    refine WO.pickF rfl rfl ?_
    refine WO.nil ?_
    exact ⟨rfl, rfl, (Cov.any rfl (orF q1) (Cov.skip rfl (Cov.skip rfl (Cov.skip rfl (Cov.skip rfl (Cov.skip rfl (Cov.skip rfl (Cov.skip rfl (Cov.skip rfl (Cov.skip rfl (Cov.skip rfl (Cov.refl _))))))))))))⟩
  refine WO.mv rfl ?_
  refine WO.cutB (d := 24) 3 (((decide (t1 < 0)) || (decide (t1 ≥ (wrapA .i64 ((t0.length : Int) - 1))))) || (decide (t2 < (-1000000000)))) (fun q2 => ?_) (fun q2 => ?_) ?_
  · refine WO.gno rfl rfl ?_
    refine WO.gno rfl rfl ?_
    refine WO.pickT rfl rfl ?_
    refine WO.nil ?_
    exact ⟨rfl, rfl, (Cov.any rfl (orT q2) (Cov.skip rfl (Cov.skip rfl (Cov.skip rfl (Cov.skip rfl (Cov.refl _))))))⟩
  · skip
    refine WO.gyes rfl rfl ?_
    refine WO.mv rfl ?_
    refine WO.gyes rfl rfl ?_
    refine WO.bin rfl rfl (by decide) (by decide) rfl ?_
    refine WO.pickF rfl rfl ?_
    refine WO.nil ?_
    exact ⟨rfl, rfl, (Cov.any rfl (orF q2) (Cov.skip rfl (Cov.skip rfl (Cov.skip rfl (Cov.skip rfl (Cov.refl _))))))⟩
  refine WO.mv rfl ?_
  refine WO.cutB (d := 28) 3 ((((decide (t1 < 0)) || (decide (t1 ≥ (wrapA .i64 ((t0.length : Int) - 1))))) || (decide (t2 < (-1000000000)))) || (decide (t2 > 1000000000))) (fun q3 => ?_) (fun q3 => ?_) ?_
  · refine WO.gno rfl rfl ?_
    refine WO.gno rfl rfl ?_
    refine WO.pickT rfl rfl ?_
    refine WO.nil ?_
    exact ⟨rfl, rfl, (Cov.any rfl (orT q3) (Cov.skip rfl (Cov.skip rfl (Cov.skip rfl (Cov.skip rfl (Cov.refl _))))))⟩
  · skip
    refine WO.gyes rfl rfl ?_
    refine WO.mv rfl ?_
    refine WO.gyes rfl rfl ?_
    refine WO.bin rfl rfl (by decide) (by decide) rfl ?_
    refine WO.pickF rfl rfl ?_
    refine WO.nil ?_
    exact ⟨rfl, rfl, (Cov.any rfl (orF q3) (Cov.skip rfl (Cov.skip rfl (Cov.skip rfl (Cov.skip rfl (Cov.refl _))))))⟩
  refine WO.nil ?_
  refine thenL_n ?_
  refine WC.cond rfl (fun q4 => ?_) (fun q4 => ?_)
  · have h := iteT q4 h
    refine WC.seq ?_
    refine WC.region ?_
    refine WO.asg rfl ?_
    refine WO.nil ?_
    refine thenL_n ?_
    refine WC.ret ?_
    refine thenL_r ?_
    obtain rfl := someI h
    exact ⟨.inr rfl, _, _, rfl, rfl, ⟨S0, rfl, rfl, hM, vt0_0, rfl, hot0, hot0_0⟩⟩
  · have h := iteF q4 h
    refine WC.skip ?_
    refine thenL_n ?_
    refine WC.seq ?_
    refine WC.region ?_
    refine WO.mv rfl ?_
    refine WO.mv rfl ?_
    refine WO.bin rfl rfl (by decide) (by decide) rfl ?_
    obtain ⟨r5, e6, h⟩ := bindS h
    refine WO.callE (S := S0) rfl rfl (F96_ok e6 hot0.pw hot0_0.vw) (fun S7 c8 => ?_)
    have hot0_0 := hot0_0.to c8
    have hot0 := hot0.to c8
    have hM := hM.to c8
    refine WO.mv rfl ?_
    refine WO.mv rfl ?_
    obtain ⟨r9, e10, h⟩ := bindS h
    refine WO.callE (S := S7) rfl rfl (F96_ok e10 hot0.pw hot0_0.vw) (fun S11 c12 => ?_)
    have hot0_0 := hot0_0.to c12
    have hot0 := hot0.to c12
    have hM := hM.to c12
    refine WO.bin rfl rfl (by decide) (by decide) rfl ?_
    refine WO.asg rfl ?_
    refine WO.nil ?_
    refine thenL_n ?_
    refine WC.seq ?_
    refine WC.seq ?_
    refine WC.region ?_
    refine WO.mv rfl ?_
    refine WO.mv rfl ?_
    refine WO.bin rfl rfl (by decide) (by decide) rfl ?_
    refine WO.bin rfl rfl (by decide) (by decide) rfl ?_
    refine WO.nil ?_
    refine thenL_n ?_
    refine WC.cond rfl (fun q13 => ?_) (fun q13 => ?_)
    · have h := iteT q13 h
      refine WC.seq ?_
      refine WC.region ?_
      refine WO.asg rfl ?_
      refine WO.nil ?_
      refine thenL_n ?_
      refine WC.ret ?_
      refine thenL_r ?_
      obtain rfl := someI h
      exact ⟨.inr rfl, _, _, rfl, rfl, ⟨S11, rfl, rfl, hM, vt0_0, rfl, hot0, hot0_0⟩⟩
    · have h := iteF q13 h
      refine WC.skip ?_
      refine thenL_n ?_
      refine WC.seq ?_
      refine WC.seq ?_
      refine WC.region ?_
      refine WO.mv rfl ?_
      refine WO.mv rfl ?_
      refine WO.bin rfl rfl (by decide) (by decide) rfl ?_
      refine WO.bin rfl rfl (by decide) (by decide) rfl ?_
      refine WO.nil ?_
      refine thenL_n ?_
      refine WC.cond rfl (fun q14 => ?_) (fun q14 => ?_)
      · have h := iteT q14 h
        refine WC.seq ?_
        refine WC.region ?_
        refine WO.asg rfl ?_
        refine WO.nil ?_
        refine thenL_n ?_
        refine WC.ret ?_
        refine thenL_r ?_
        obtain rfl := someI h
        exact ⟨.inr rfl, _, _, rfl, rfl, ⟨S11, rfl, rfl, hM, vt0_0, rfl, hot0, hot0_0⟩⟩
      · have h := iteF q14 h
        refine WC.skip ?_
        refine thenL_n ?_
        refine WC.seq ?_
        refine WC.seq ?_
        refine WC.region ?_
        refine WO.mv rfl ?_
        refine WO.bin rfl rfl (by decide) (by decide) rfl ?_
        refine WO.asg rfl ?_
        refine WO.nil ?_
        refine thenL_n ?_
        refine WC.block ?_
        obtain ⟨b31, e32, h⟩ := bindS h
        refine WC.loopD e32 (fun s15 l' m' n' => ∃ S17 : Cx fl, ∃ v18 : SV, S17.m = m' ∧ S17.n = n' ∧ Cov l' [(0, .sc ((.ptr bt0 0))), (2, .sc (.int .i64 t2)), (8, .sc (.int .i64 s15.1))] ∧ ChM S0 S17 ∧ Bw S17 2 (.ptr bt0 0) [v18] ∧ Ow Y3 S17 3 v18 s15.2) (fun b e l' m' n' => e = .exit 0 ∧ ∃ S19 : Cx fl, ∃ v20 : SV, S19.m = m' ∧ S19.n = n' ∧ Cov l' [(0, .sc ((.ptr bt0 0)))] ∧ ChM S0 S19 ∧ Bw S19 2 (.ptr bt0 0) [v20] ∧ Ow Y3 S19 3 v20 b) (by exact ⟨S11, vt0_0, rfl, rfl, (Cov.cons rfl (Cov.cons rfl (Cov.cons rfl (Cov.nil _)))), hM, hot0, hot0_0⟩) ?_ ?_
        · clear h
          rintro s15 q _ _ _ ⟨S21, v22, rfl, rfl, hc23, hM, hot0, hot0c0⟩ h
          unfold F23_l0 at h
          refine WC.cov hc23 ?_
          refine WC.seq ?_
          refine WC.seq ?_
          refine WC.region ?_
          refine WO.mv rfl ?_
          refine WO.mv rfl ?_
          refine WO.nck rfl hot0.isp ?_
          refine WO.fldS (j := 0) (q := 0) rfl hot0.at0 hot0.ptr rfl rfl rfl (by decide) ?_
          refine WO.ldW rfl rfl hot0 rfl rfl hot0.lt rfl ?_
          refine WO.lenS rfl hot0c0.slv rfl ?_
          refine WO.bin rfl rfl (by decide) (by decide) rfl ?_
          refine WO.nil ?_
          refine thenL_n ?_
          refine WC.cond rfl (fun q24 => ?_) (fun q24 => ?_)
          · have h := iteT q24 h
            refine WC.skip ?_
            refine thenL_n ?_
            refine WC.seq ?_
            refine WC.block ?_
            refine WC.region ?_
            refine WO.mv rfl ?_
            refine WO.nck rfl hot0.isp ?_
            refine WO.fldS (j := 0) (q := 0) rfl hot0.at0 hot0.ptr rfl rfl rfl (by decide) ?_
            refine WO.ldW rfl rfl hot0 rfl rfl hot0.lt rfl ?_
            refine WO.mv rfl ?_
            obtain ⟨x25, e26, h⟩ := bindS h
            refine WO.ixS rfl rfl hot0c0.slv (at?_lt e26) rfl ?_
            refine WO.ldF rfl hot0c0.ro (fun _ hi => hi) (at?_get e26) rfl rfl rfl ?_
            refine WO.mv rfl ?_
            refine WO.bin rfl rfl (by decide) (by decide) rfl ?_
            obtain ⟨u27, e28, h⟩ := bindS h
            refine WO.ixS rfl rfl hot0c0.slv (ck_some e28) rfl ?_
            refine WO.st1 (u' := (wrapA .i64 (x25 + t2))) rfl rfl hot0c0 (ck_nat e28) rfl rfl (fun S29 c30 hot0c0 => ?_)
            have hM := hM.to c30
            have hot0 := hot0.to c30
            refine WO.nil ?_
            refine blockL_n ?_
            refine thenL_n ?_
            refine WC.region ?_
            refine WO.mv rfl ?_
            refine WO.mv rfl ?_
            refine WO.mv rfl ?_
            refine WO.do rfl rfl ?_
            refine WO.bits rfl rfl rfl (by decide) (by decide) rfl ?_
            refine WO.bin rfl rfl (by decide) (by decide) rfl ?_
            refine WO.asg rfl ?_
            refine WO.nil ?_
            refine thenL_n ?_
            obtain rfl := someI h
            exact ⟨_, rfl, ⟨S29, v22, rfl, rfl, (Cov.cons rfl (Cov.cons rfl (Cov.cons rfl (Cov.nil _)))), hM, hot0, hot0c0⟩⟩
          · have h := iteF q24 h
            refine WC.exit ?_
            refine thenL_e ?_
            refine thenL_e ?_
            obtain rfl := someI h
            exact ⟨_, rfl, rfl, ⟨S21, v22, rfl, rfl, (Cov.cons rfl (Cov.nil _)), hM, hot0, hot0c0⟩⟩
        rintro _ _ _ _ ⟨rfl, ⟨S33, v34, rfl, rfl, hc35, hM, hot0, hot0c0⟩⟩
        refine blockL_s ?_
        refine thenL_n ?_
        refine WC.cov hc35 ?_
        refine WC.seq ?_
        refine WC.region ?_
        refine WO.asg rfl ?_
        refine WO.nil ?_
        refine thenL_n ?_
        refine WC.ret ?_
        obtain rfl := someI h
        exact ⟨.inr rfl, _, _, rfl, rfl, ⟨S33, rfl, rfl, hM, v34, rfl, hot0, hot0c0⟩⟩
end Go.Proofs.Ytkfmedmanhcdeaa

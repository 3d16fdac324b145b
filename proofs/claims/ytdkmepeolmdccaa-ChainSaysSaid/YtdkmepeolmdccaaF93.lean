/- The machine answers F93: printed by a program of ours (gen.py). -/
import Derived.Test.YtdkmepeolmdccaaDef
import Derived.Test.YtdkmepeolmdccaaEnv
set_option linter.unusedVariables false
namespace Go.Proofs.Ytdkmepeolmdccaa
open Go.Am
theorem F93.fn : E.fn 93 = some ⟨40, (Try.f93.body.getD .skip), Try.f93.results.toList, []⟩ := rfl
theorem F93_ok {F : Nat} {m : Mem} {n : Nat} {r : Int} {t0 : List (List Int)} {vt0 : SV} (h : F93 F t0 = some r) (kt0 : Vw Y22 n m vt0 t0) : Ret E n 93 [.sc vt0] m n (fun v m' n' => v = .sc (.int .i64 r)) := by
  unfold F93 at h
  refine Ret.walk F93.fn ?_
  refine WC.start fun S0 em en hz => ?_
  have hot0 := kt0.rdS em hz
  refine WC.seq ?_
  refine WC.region ?_
  refine WO.asg rfl ?_
  refine WO.nil ?_
  refine thenL_n ?_
  refine WC.seq ?_
  refine WC.seq ?_
  refine WC.region ?_
  refine WO.mv rfl ?_
  refine WO.lenS rfl hot0.slv rfl ?_
  refine WO.bin rfl rfl (by decide) (by decide) rfl ?_
  refine WO.mv rfl ?_
  refine WO.cutB (d := 14) 4 ((decide ((t0.length : Int) < 1)) || (decide ((t0.length : Int) > 5))) (fun q1 => ?_) (fun q1 => ?_) ?_
  · refine WO.gno rfl rfl ?_
    refine WO.gno rfl rfl ?_
    refine WO.gno rfl rfl ?_
    refine WO.pickT rfl rfl ?_
    refine WO.nil ?_
    exact ⟨rfl, rfl, (Cov.any rfl (orT q1) (Cov.skip rfl (Cov.skip rfl (Cov.skip rfl (Cov.skip rfl (Cov.skip rfl (Cov.refl _)))))))⟩
  · skip
    refine WO.gyes rfl rfl ?_
    refine WO.mv rfl ?_
    refine WO.gyes rfl rfl ?_
    refine WO.lenS rfl hot0.slv rfl ?_
    refine WO.gyes rfl rfl ?_
    refine WO.bin rfl rfl (by decide) (by decide) rfl ?_
    refine WO.pickF rfl rfl ?_
    refine WO.nil ?_
    exact ⟨rfl, rfl, (Cov.any rfl (orF q1) (Cov.skip rfl (Cov.skip rfl (Cov.skip rfl (Cov.skip rfl (Cov.skip rfl (Cov.refl _)))))))⟩
  refine WO.nil ?_
  refine thenL_n ?_
  refine WC.cond rfl (fun q2 => ?_) (fun q2 => ?_)
  · have h := iteT q2 h
    refine WC.seq ?_
    refine WC.region ?_
    refine WO.asg rfl ?_
    refine WO.nil ?_
    refine thenL_n ?_
    refine WC.ret ?_
    refine thenL_r ?_
    obtain rfl := someI h
    exact ⟨.inr rfl, _, _, rfl, rfl, rfl⟩
  · have h := iteF q2 h
    refine WC.skip ?_
    refine thenL_n ?_
    refine WC.seq ?_
    refine WC.seq ?_
    refine WC.region ?_
    refine WO.mv rfl ?_
    refine WO.lenS rfl hot0.slv rfl ?_
    refine WO.mv rfl ?_
    refine WO.nil ?_
    refine thenL_n ?_
    refine WC.block ?_
    obtain ⟨b35, e36, h⟩ := bindS h
    refine WC.loopD e36 (fun s3 l' m' n' => ∃ S4 : Cx n, S4.m = m' ∧ S4.n = n' ∧ Cov l' [(0, .sc vt0), (15, .sc vt0), (16, .sc (.int .i64 ((t0.length : Int)))), (17, .sc (.int .i64 s3))] ∧ Rd Y22 S4 vt0 t0) (fun b e l' m' n' => (match b with | .inl b5 => e = .exit 0 ∧ ∃ S6 : Cx n, S6.m = m' ∧ S6.n = n' ∧ Cov l' [] | .inr b5 => e = .ret ∧ ∃ S7 : Cx n, S7.m = m' ∧ S7.n = n' ∧ Cov l' [(2, .sc (.int .i64 b5))])) (by exact ⟨S0, rfl, rfl, (Cov.cons rfl (Cov.cons rfl (Cov.cons rfl (Cov.cons rfl (Cov.nil _))))), hot0⟩) ?_ ?_
    · clear h
      rintro s3 q _ _ _ ⟨S8, rfl, rfl, hc9, hot0⟩ h
      unfold F93_l1 at h
      refine WC.cov hc9 ?_
      refine WC.seq ?_
      refine WC.region ?_
      refine WO.bin rfl rfl (by decide) (by decide) rfl ?_
      refine WO.nil ?_
      refine thenL_n ?_
      refine WC.seq ?_
      refine WC.cond rfl (fun q10 => ?_) (fun q10 => ?_)
      · have h := iteT q10 h
        refine WC.skip ?_
        refine thenL_n ?_
        refine WC.seq ?_
        refine WC.block ?_
        refine WC.seq ?_
        refine WC.region ?_
        obtain ⟨L11, e12, h⟩ := bindS h
        refine WO.ixS rfl rfl hot0.slv (at?_lt e12) rfl ?_
        refine WO.ldS rfl hot0.ro (fun _ hi => hi) (at?_get e12) rfl rfl (fun v13 ho14 => ?_)
        have ho14 : Rd Y3 S8 v13 L11 := ho14
        refine WO.asg rfl ?_
        refine WO.nil ?_
        refine thenL_n ?_
        refine WC.seq ?_
        refine WC.seq ?_
        refine WC.region ?_
        refine WO.mv rfl ?_
        refine WO.lenS rfl ho14.slv rfl ?_
        refine WO.mv rfl ?_
        refine WO.lenS rfl hot0.slv rfl ?_
        refine WO.bin rfl rfl (by decide) (by decide) rfl ?_
        refine WO.nil ?_
        refine thenL_n ?_
        refine WC.cond rfl (fun q15 => ?_) (fun q15 => ?_)
        · have h := iteT q15 h
          refine WC.seq ?_
          refine WC.region ?_
          refine WO.asg rfl ?_
          refine WO.nil ?_
          refine thenL_n ?_
          refine WC.ret ?_
          refine thenL_r ?_
          refine blockL_r ?_
          refine thenL_r ?_
          refine thenL_r ?_
          obtain rfl := someI h
          exact ⟨_, rfl, rfl, ⟨S8, rfl, rfl, (Cov.cons rfl (Cov.nil _))⟩⟩
        · have h := iteF q15 h
          refine WC.skip ?_
          refine thenL_n ?_
          refine WC.seq ?_
          refine WC.region ?_
          refine WO.mv rfl ?_
          refine WO.lenS rfl ho14.slv rfl ?_
          refine WO.mv rfl ?_
          refine WO.nil ?_
          refine thenL_n ?_
          refine WC.block ?_
          obtain ⟨b28, e29, h⟩ := bindS h
          refine WC.loopD e29 (fun s16 l' m' n' => ∃ S17 : Cx n, S17.m = m' ∧ S17.n = n' ∧ Cov l' [(0, .sc vt0), (15, .sc vt0), (16, .sc (.int .i64 ((t0.length : Int)))), (17, .sc (.int .i64 s3)), (26, .sc v13), (27, .sc (.int .i64 ((L11.length : Int)))), (28, .sc (.int .i64 s16))] ∧ Rd Y22 S17 vt0 t0 ∧ Rd Y3 S17 v13 L11) (fun b e l' m' n' => (match b with | .inl b18 => e = .exit 2 ∧ ∃ S19 : Cx n, S19.m = m' ∧ S19.n = n' ∧ Cov l' [(0, .sc vt0), (15, .sc vt0), (16, .sc (.int .i64 ((t0.length : Int)))), (17, .sc (.int .i64 s3))] ∧ Rd Y22 S19 vt0 t0 | .inr b18 => e = .ret ∧ ∃ S20 : Cx n, S20.m = m' ∧ S20.n = n' ∧ Cov l' [(2, .sc (.int .i64 b18))])) (by exact ⟨S8, rfl, rfl, (Cov.cons rfl (Cov.cons rfl (Cov.cons rfl (Cov.cons rfl (Cov.cons rfl (Cov.cons rfl (Cov.cons rfl (Cov.nil _)))))))), hot0, ho14⟩) ?_ ?_
          · clear h
            rintro s16 q _ _ _ ⟨S21, rfl, rfl, hc22, hot0, ho14⟩ h
            unfold F93_l0 at h
            refine WC.cov hc22 ?_
            refine WC.seq ?_
            refine WC.region ?_
            refine WO.bin rfl rfl (by decide) (by decide) rfl ?_
            refine WO.nil ?_
            refine thenL_n ?_
            refine WC.seq ?_
            refine WC.cond rfl (fun q23 => ?_) (fun q23 => ?_)
            · have h := iteT q23 h
              refine WC.skip ?_
              refine thenL_n ?_
              refine WC.seq ?_
              refine WC.block ?_
              refine WC.seq ?_
              refine WC.region ?_
              obtain ⟨x24, e25, h⟩ := bindS h
              refine WO.ixS rfl rfl ho14.slv (at?_lt e25) rfl ?_
              refine WO.ldF rfl ho14.ro (fun _ hi => hi) (at?_get e25) rfl rfl rfl ?_
              refine WO.asg rfl ?_
              refine WO.nil ?_
              refine thenL_n ?_
              refine WC.seq ?_
              refine WC.region ?_
              refine WO.mv rfl ?_
              refine WO.bin rfl rfl (by decide) (by decide) rfl ?_
              refine WO.mv rfl ?_
              refine WO.cutB (d := 37) 3 ((decide (x24 < 0)) || (decide (x24 > 20))) (fun q26 => ?_) (fun q26 => ?_) ?_
              · refine WO.gno rfl rfl ?_
                refine WO.gno rfl rfl ?_
                refine WO.pickT rfl rfl ?_
                refine WO.nil ?_
                exact ⟨rfl, rfl, (Cov.any rfl (orT q26) (Cov.skip rfl (Cov.skip rfl (Cov.skip rfl (Cov.skip rfl (Cov.refl _))))))⟩
              · skip
                refine WO.gyes rfl rfl ?_
                refine WO.mv rfl ?_
                refine WO.gyes rfl rfl ?_
                refine WO.bin rfl rfl (by decide) (by decide) rfl ?_
                refine WO.pickF rfl rfl ?_
                refine WO.nil ?_
                exact ⟨rfl, rfl, (Cov.any rfl (orF q26) (Cov.skip rfl (Cov.skip rfl (Cov.skip rfl (Cov.skip rfl (Cov.refl _))))))⟩
              refine WO.nil ?_
              refine thenL_n ?_
              refine WC.cond rfl (fun q27 => ?_) (fun q27 => ?_)
              · have h := iteT q27 h
                refine WC.seq ?_
                refine WC.region ?_
                refine WO.asg rfl ?_
                refine WO.nil ?_
                refine thenL_n ?_
                refine WC.ret ?_
                refine blockL_r ?_
                refine thenL_r ?_
                refine thenL_r ?_
                obtain rfl := someI h
                exact ⟨_, rfl, rfl, ⟨S21, rfl, rfl, (Cov.cons rfl (Cov.nil _))⟩⟩
              · have h := iteF q27 h
                refine WC.skip ?_
                refine blockL_n ?_
                refine thenL_n ?_
                refine WC.region ?_
                refine WO.bin rfl rfl (by decide) (by decide) rfl ?_
                refine WO.mv rfl ?_
                refine WO.nil ?_
                refine thenL_n ?_
                obtain rfl := someI h
                exact ⟨_, rfl, ⟨S21, rfl, rfl, (Cov.cons rfl (Cov.cons rfl (Cov.cons rfl (Cov.cons rfl (Cov.cons rfl (Cov.cons rfl (Cov.cons rfl (Cov.nil _)))))))), hot0, ho14⟩⟩
            · have h := iteF q23 h
              refine WC.exit ?_
              refine thenL_e ?_
              refine thenL_e ?_
              obtain rfl := someI h
              exact ⟨_, rfl, rfl, ⟨S21, rfl, rfl, (Cov.cons rfl (Cov.cons rfl (Cov.cons rfl (Cov.cons rfl (Cov.nil _))))), hot0⟩⟩
          cases b28 with
          | inl b30 =>
            simp only at h
            rintro _ _ _ _ ⟨rfl, ⟨S31, rfl, rfl, hc32, hot0⟩⟩
            refine blockL_s ?_
            refine blockL_n ?_
            refine thenL_n ?_
            refine WC.cov hc32 ?_
            refine WC.region ?_
            refine WO.bin rfl rfl (by decide) (by decide) rfl ?_
            refine WO.mv rfl ?_
            refine WO.nil ?_
            refine thenL_n ?_
            obtain rfl := someI h
            exact ⟨_, rfl, ⟨S31, rfl, rfl, (Cov.cons rfl (Cov.cons rfl (Cov.cons rfl (Cov.cons rfl (Cov.nil _))))), hot0⟩⟩
          | inr b30 =>
            simp only at h
            rintro _ _ _ _ ⟨rfl, ⟨S33, rfl, rfl, hc34⟩⟩
            refine blockL_r ?_
            refine blockL_r ?_
            refine thenL_r ?_
            refine thenL_r ?_
            obtain rfl := someI h
            exact ⟨_, rfl, rfl, ⟨S33, rfl, rfl, (Cov.trans hc34 (Cov.cons rfl (Cov.nil _)))⟩⟩
      · have h := iteF q10 h
        refine WC.exit ?_
        refine thenL_e ?_
        refine thenL_e ?_
        obtain rfl := someI h
        exact ⟨_, rfl, rfl, ⟨S8, rfl, rfl, (Cov.nil _)⟩⟩
    cases b35 with
    | inl b37 =>
      simp only at h
      rintro _ _ _ _ ⟨rfl, ⟨S38, rfl, rfl, hc39⟩⟩
      refine blockL_s ?_
      refine thenL_n ?_
      refine WC.cov hc39 ?_
      refine WC.seq ?_
      refine WC.region ?_
      refine WO.asg rfl ?_
      refine WO.nil ?_
      refine thenL_n ?_
      refine WC.ret ?_
      obtain rfl := someI h
      exact ⟨.inr rfl, _, _, rfl, rfl, rfl⟩
    | inr b37 =>
      simp only at h
      rintro _ _ _ _ ⟨rfl, ⟨S40, rfl, rfl, hc41⟩⟩
      refine blockL_r ?_
      refine thenL_r ?_
      obtain rfl := someI h
      exact ⟨.inr rfl, _, _, (resK_cov hc41 rfl), rfl, rfl⟩
end Go.Proofs.Ytdkmepeolmdccaa

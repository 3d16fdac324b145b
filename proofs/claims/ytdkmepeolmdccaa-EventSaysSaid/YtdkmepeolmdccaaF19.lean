/- The machine answers F19: printed by a program of ours (gen.py). -/
import Derived.Test.YtdkmepeolmdccaaDef
import Derived.Test.YtdkmepeolmdccaaEnv
set_option linter.unusedVariables false
namespace Go.Proofs.Ytdkmepeolmdccaa
open Go.Am
theorem F19.fn : E.fn 19 = some ⟨42, (Try.f19.body.getD .skip), Try.f19.results.toList, []⟩ := rfl
theorem F19_ok {F : Nat} {m : Mem} {n : Nat} {r : Int} {t0 : List Int} {t1 : List Int} {vt0 : SV} {vt1 : SV} (h : F19 F t0 t1 = some r) (kt0 : Vw Y3 n m vt0 t0) (kt1 : Vw Y23 n m vt1 t1) : Ret E n 19 [.sc vt0, .sc vt1] m n (fun v m' n' => v = .sc (.int .i64 r)) := by
  unfold F19 at h
  refine Ret.walk F19.fn ?_
  refine WC.start fun S0 em en hz => ?_
  have hot0 := kt0.rdS em hz
  have hot1 := kt1.rdS em hz
  refine WC.seq ?_
  refine WC.region ?_
  refine WO.asg rfl ?_
  refine WO.nil ?_
  refine thenL_n ?_
  refine WC.seq ?_
  refine WC.seq ?_
  refine WC.region ?_
  refine WO.mv rfl ?_
  refine WO.lenS rfl hot0.slv rfl ?_
  refine WO.bin rfl rfl (by decide) (by decide) rfl ?_
  refine WO.mv rfl ?_
  refine WO.cutB (d := 16) 4 ((decide ((t0.length : Int) < 1)) || (decide ((t0.length : Int) > 12))) (fun q1 => ?_) (fun q1 => ?_) ?_
  · refine WO.gno rfl rfl ?_
    refine WO.gno rfl rfl ?_
    refine WO.gno rfl rfl ?_
    refine WO.pickT rfl rfl ?_
    refine WO.nil ?_
    exact ⟨rfl, rfl, (Cov.any rfl (orT q1) (Cov.skip rfl (Cov.skip rfl (Cov.skip rfl (Cov.skip rfl (Cov.skip rfl (Cov.refl _)))))))⟩
  · skip
    refine WO.gyes rfl rfl ?_
    refine WO.mv rfl ?_
    refine WO.gyes rfl rfl ?_
    refine WO.lenS rfl hot0.slv rfl ?_
    refine WO.gyes rfl rfl ?_
    refine WO.bin rfl rfl (by decide) (by decide) rfl ?_
    refine WO.pickF rfl rfl ?_
    refine WO.nil ?_
    exact ⟨rfl, rfl, (Cov.any rfl (orF q1) (Cov.skip rfl (Cov.skip rfl (Cov.skip rfl (Cov.skip rfl (Cov.skip rfl (Cov.refl _)))))))⟩
  refine WO.nil ?_
  refine thenL_n ?_
  refine WC.cond rfl (fun q2 => ?_) (fun q2 => ?_)
  · have h := iteT q2 h
    refine WC.seq ?_
    refine WC.region ?_
    refine WO.asg rfl ?_
    refine WO.nil ?_
    refine thenL_n ?_
    refine WC.ret ?_
    refine thenL_r ?_
    obtain rfl := someI h
    exact ⟨.inr rfl, _, _, rfl, rfl, rfl⟩
  · have h := iteF q2 h
    refine WC.skip ?_
    refine thenL_n ?_
    refine WC.seq ?_
    refine WC.seq ?_
    refine WC.region ?_
    refine WO.mv rfl ?_
    refine WO.lenS rfl hot0.slv rfl ?_
    refine WO.mv rfl ?_
    refine WO.nil ?_
    refine thenL_n ?_
    refine WC.block ?_
    obtain ⟨b15, e16, h⟩ := bindS h
    refine WC.loopD e16 (fun s3 l' m' n' => ∃ S4 : Cx n, S4.m = m' ∧ S4.n = n' ∧ Cov l' [(0, .sc vt0), (1, .sc vt1), (17, .sc vt0), (18, .sc (.int .i64 ((t0.length : Int)))), (19, .sc (.int .i64 s3))] ∧ Rd Y3 S4 vt0 t0 ∧ Rd Y23 S4 vt1 t1) (fun b e l' m' n' => (match b with | .inl b5 => e = .exit 0 ∧ ∃ S6 : Cx n, S6.m = m' ∧ S6.n = n' ∧ Cov l' [(0, .sc vt0), (1, .sc vt1)] ∧ Rd Y3 S6 vt0 t0 ∧ Rd Y23 S6 vt1 t1 | .inr b5 => e = .ret ∧ ∃ S7 : Cx n, S7.m = m' ∧ S7.n = n' ∧ Cov l' [(4, .sc (.int .i64 b5))])) (by exact ⟨S0, rfl, rfl, (Cov.cons rfl (Cov.cons rfl (Cov.cons rfl (Cov.cons rfl (Cov.cons rfl (Cov.nil _)))))), hot0, hot1⟩) ?_ ?_
    · clear h
      rintro s3 q _ _ _ ⟨S8, rfl, rfl, hc9, hot0, hot1⟩ h
      unfold F19_l0 at h
      refine WC.cov hc9 ?_
      refine WC.seq ?_
      refine WC.region ?_
      refine WO.bin rfl rfl (by decide) (by decide) rfl ?_
      refine WO.nil ?_
      refine thenL_n ?_
      refine WC.seq ?_
      refine WC.cond rfl (fun q10 => ?_) (fun q10 => ?_)
      · have h := iteT q10 h
        refine WC.skip ?_
        refine thenL_n ?_
        refine WC.seq ?_
        refine WC.block ?_
        refine WC.seq ?_
        refine WC.region ?_
        obtain ⟨x11, e12, h⟩ := bindS h
        refine WO.ixS rfl rfl hot0.slv (at?_lt e12) rfl ?_
        refine WO.ldF rfl hot0.ro (fun _ hi => hi) (at?_get e12) rfl rfl rfl ?_
        refine WO.asg rfl ?_
        refine WO.nil ?_
        refine thenL_n ?_
        refine WC.seq ?_
        refine WC.region ?_
        refine WO.mv rfl ?_
        refine WO.bin rfl rfl (by decide) (by decide) rfl ?_
        refine WO.mv rfl ?_
        refine WO.cutB (d := 28) 3 ((decide (x11 < 1)) || (decide (x11 > 100))) (fun q13 => ?_) (fun q13 => ?_) ?_
        · refine WO.gno rfl rfl ?_
          refine WO.gno rfl rfl ?_
          refine WO.pickT rfl rfl ?_
          refine WO.nil ?_
          exact ⟨rfl, rfl, (Cov.any rfl (orT q13) (Cov.skip rfl (Cov.skip rfl (Cov.skip rfl (Cov.skip rfl (Cov.refl _))))))⟩
        · skip
          refine WO.gyes rfl rfl ?_
          refine WO.mv rfl ?_
          refine WO.gyes rfl rfl ?_
          refine WO.bin rfl rfl (by decide) (by decide) rfl ?_
          refine WO.pickF rfl rfl ?_
          refine WO.nil ?_
          exact ⟨rfl, rfl, (Cov.any rfl (orF q13) (Cov.skip rfl (Cov.skip rfl (Cov.skip rfl (Cov.skip rfl (Cov.refl _))))))⟩
        refine WO.nil ?_
        refine thenL_n ?_
        refine WC.cond rfl (fun q14 => ?_) (fun q14 => ?_)
        · have h := iteT q14 h
          refine WC.seq ?_
          refine WC.region ?_
          refine WO.asg rfl ?_
          refine WO.nil ?_
          refine thenL_n ?_
          refine WC.ret ?_
          refine blockL_r ?_
          refine thenL_r ?_
          refine thenL_r ?_
          obtain rfl := someI h
          exact ⟨_, rfl, rfl, ⟨S8, rfl, rfl, (Cov.cons rfl (Cov.nil _))⟩⟩
        · have h := iteF q14 h
          refine WC.skip ?_
          refine blockL_n ?_
          refine thenL_n ?_
          refine WC.region ?_
          refine WO.bin rfl rfl (by decide) (by decide) rfl ?_
          refine WO.mv rfl ?_
          refine WO.nil ?_
          refine thenL_n ?_
          obtain rfl := someI h
          exact ⟨_, rfl, ⟨S8, rfl, rfl, (Cov.cons rfl (Cov.cons rfl (Cov.cons rfl (Cov.cons rfl (Cov.cons rfl (Cov.nil _)))))), hot0, hot1⟩⟩
      · have h := iteF q10 h
        refine WC.exit ?_
        refine thenL_e ?_
        refine thenL_e ?_
        obtain rfl := someI h
        exact ⟨_, rfl, rfl, ⟨S8, rfl, rfl, (Cov.cons rfl (Cov.cons rfl (Cov.nil _))), hot0, hot1⟩⟩
    cases b15 with
    | inl b17 =>
      simp only at h
      rintro _ _ _ _ ⟨rfl, ⟨S18, rfl, rfl, hc19, hot0, hot1⟩⟩
      refine blockL_s ?_
      refine thenL_n ?_
      refine WC.cov hc19 ?_
      refine WC.seq ?_
      refine WC.seq ?_
      refine WC.region ?_
      refine WO.mv rfl ?_
      refine WO.lenS rfl hot1.slv rfl ?_
      refine WO.mv rfl ?_
      refine WO.nil ?_
      refine thenL_n ?_
      refine WC.block ?_
      obtain ⟨b33, e34, h⟩ := bindS h
      refine WC.loopD e34 (fun s20 l' m' n' => ∃ S21 : Cx n, S21.m = m' ∧ S21.n = n' ∧ Cov l' [(0, .sc vt0), (30, .sc vt1), (31, .sc (.int .i64 ((t1.length : Int)))), (32, .sc (.int .i64 s20))] ∧ Rd Y3 S21 vt0 t0 ∧ Rd Y23 S21 vt1 t1) (fun b e l' m' n' => (match b with | .inl b22 => e = .exit 2 ∧ ∃ S23 : Cx n, S23.m = m' ∧ S23.n = n' ∧ Cov l' [] | .inr b22 => e = .ret ∧ ∃ S24 : Cx n, S24.m = m' ∧ S24.n = n' ∧ Cov l' [(4, .sc (.int .i64 b22))])) (by exact ⟨S18, rfl, rfl, (Cov.cons rfl (Cov.cons rfl (Cov.cons rfl (Cov.cons rfl (Cov.nil _))))), hot0, hot1⟩) ?_ ?_
      · clear h
        rintro s20 q _ _ _ ⟨S25, rfl, rfl, hc26, hot0, hot1⟩ h
        unfold F19_l1 at h
        refine WC.cov hc26 ?_
        refine WC.seq ?_
        refine WC.region ?_
        refine WO.bin rfl rfl (by decide) (by decide) rfl ?_
        refine WO.nil ?_
        refine thenL_n ?_
        refine WC.seq ?_
        refine WC.cond rfl (fun q27 => ?_) (fun q27 => ?_)
        · have h := iteT q27 h
          refine WC.skip ?_
          refine thenL_n ?_
          refine WC.seq ?_
          refine WC.block ?_
          refine WC.seq ?_
          refine WC.region ?_
          obtain ⟨x28, e29, h⟩ := bindS h
          refine WO.ixS rfl rfl hot1.slv (at?_lt e29) rfl ?_
          refine WO.ldF rfl hot1.ro (fun _ hi => hi) (at?_get e29) rfl rfl rfl ?_
          refine WO.asg rfl ?_
          refine WO.nil ?_
          refine thenL_n ?_
          refine WC.seq ?_
          refine WC.region ?_
          refine WO.mv rfl ?_
          refine WO.mv rfl ?_
          refine WO.lenS rfl hot0.slv rfl ?_
          obtain ⟨x30, e31, h⟩ := bindS h
          refine WO.shrD rfl rfl e31 ?_
          refine WO.bin rfl rfl (by decide) (by decide) rfl ?_
          refine WO.nil ?_
          refine thenL_n ?_
          refine WC.cond rfl (fun q32 => ?_) (fun q32 => ?_)
          · have h := iteT q32 h
            refine WC.seq ?_
            refine WC.region ?_
            refine WO.asg rfl ?_
            refine WO.nil ?_
            refine thenL_n ?_
            refine WC.ret ?_
            refine blockL_r ?_
            refine thenL_r ?_
            refine thenL_r ?_
            obtain rfl := someI h
            exact ⟨_, rfl, rfl, ⟨S25, rfl, rfl, (Cov.cons rfl (Cov.nil _))⟩⟩
          · have h := iteF q32 h
            refine WC.skip ?_
            refine blockL_n ?_
            refine thenL_n ?_
            refine WC.region ?_
            refine WO.bin rfl rfl (by decide) (by decide) rfl ?_
            refine WO.mv rfl ?_
            refine WO.nil ?_
            refine thenL_n ?_
            obtain rfl := someI h
            exact ⟨_, rfl, ⟨S25, rfl, rfl, (Cov.cons rfl (Cov.cons rfl (Cov.cons rfl (Cov.cons rfl (Cov.nil _))))), hot0, hot1⟩⟩
        · have h := iteF q27 h
          refine WC.exit ?_
          refine thenL_e ?_
          refine thenL_e ?_
          obtain rfl := someI h
          exact ⟨_, rfl, rfl, ⟨S25, rfl, rfl, (Cov.nil _)⟩⟩
      cases b33 with
      | inl b35 =>
        simp only at h
        rintro _ _ _ _ ⟨rfl, ⟨S36, rfl, rfl, hc37⟩⟩
        refine blockL_s ?_
        refine thenL_n ?_
        refine WC.cov hc37 ?_
        refine WC.seq ?_
        refine WC.region ?_
        refine WO.asg rfl ?_
        refine WO.nil ?_
        refine thenL_n ?_
        refine WC.ret ?_
        obtain rfl := someI h
        exact ⟨.inr rfl, _, _, rfl, rfl, rfl⟩
      | inr b35 =>
        simp only at h
        rintro _ _ _ _ ⟨rfl, ⟨S38, rfl, rfl, hc39⟩⟩
        refine blockL_r ?_
        refine thenL_r ?_
        obtain rfl := someI h
        exact ⟨.inr rfl, _, _, (resK_cov hc39 rfl), rfl, rfl⟩
    | inr b17 =>
      simp only at h
      rintro _ _ _ _ ⟨rfl, ⟨S40, rfl, rfl, hc41⟩⟩
      refine blockL_r ?_
      refine thenL_r ?_
      obtain rfl := someI h
      exact ⟨.inr rfl, _, _, (resK_cov hc41 rfl), rfl, rfl⟩
end Go.Proofs.Ytdkmepeolmdccaa

/- The machine answers F91: printed by a program of ours (gen.py). -/
import Derived.Test.YtdkmepeolmdccaaDef
import Derived.Test.YtdkmepeolmdccaaEnv
import Derived.Test.YtdkmepeolmdccaaF93
set_option linter.unusedVariables false
namespace Go.Proofs.Ytdkmepeolmdccaa
open Go.Am
theorem F91.fn : E.fn 91 = some ⟨71, (Try.f91.body.getD .skip), Try.f91.results.toList, []⟩ := rfl
theorem F91_ok {F : Nat} {m : Mem} {n : Nat} {r : Bool × Int} {t0 : List (List Int)} {t1 : List Int} {vt0 : SV} {vt1 : SV} (h : F91 F t0 t1 = some r) (kt0 : Vw Y22 n m vt0 t0) (kt1 : Vw Y3 n m vt1 t1) : Ret E n 91 [.sc vt0, .sc vt1] m n (fun v m' n' => v = .tup [.sc (.bool r.1), .sc (.int .i64 r.2)]) := by
  unfold F91 at h
  refine Ret.walk F91.fn ?_
  refine WC.start fun S0 em en hz => ?_
  have hot0 := kt0.rdS em hz
  have hot1 := kt1.rdS em hz
  refine WC.seq ?_
  refine WC.region ?_
  refine WO.asg rfl ?_
  refine WO.asg rfl ?_
  refine WO.nil ?_
  refine thenL_n ?_
  refine WC.seq ?_
  refine WC.seq ?_
  refine WC.region ?_
  refine WO.mv rfl ?_
  obtain ⟨r1, e2, h⟩ := bindS h
  refine WO.callE (S := S0) rfl rfl (F93_ok e2 hot0.vw) (fun S3 c4 => ?_)
  have hot0 := hot0.to c4
  have hot1 := hot1.to c4
  refine WO.asg rfl ?_
  refine WO.nil ?_
  refine thenL_n ?_
  refine WC.seq ?_
  refine WC.region ?_
  refine WO.mv rfl ?_
  refine WO.bin rfl rfl (by decide) (by decide) rfl ?_
  refine WO.nil ?_
  refine thenL_n ?_
  refine WC.cond rfl (fun q5 => ?_) (fun q5 => ?_)
  · have h := iteT q5 h
    refine WC.seq ?_
    refine WC.region ?_
    refine WO.mv rfl ?_
    refine WO.asg rfl ?_
    refine WO.asg rfl ?_
    refine WO.nil ?_
    refine thenL_n ?_
    refine WC.ret ?_
    refine thenL_r ?_
    obtain rfl := someI h
    exact ⟨.inr rfl, _, _, rfl, rfl, rfl⟩
  · have h := iteF q5 h
    refine WC.skip ?_
    refine thenL_n ?_
    refine WC.seq ?_
    refine WC.seq ?_
    refine WC.region ?_
    refine WO.mv rfl ?_
    refine WO.lenS rfl hot1.slv rfl ?_
    refine WO.mv rfl ?_
    refine WO.lenS rfl hot0.slv rfl ?_
    refine WO.bin rfl rfl (by decide) (by decide) rfl ?_
    refine WO.nil ?_
    refine thenL_n ?_
    refine WC.cond rfl (fun q6 => ?_) (fun q6 => ?_)
    · have h := iteT q6 h
      refine WC.seq ?_
      refine WC.region ?_
      refine WO.asg rfl ?_
      refine WO.asg rfl ?_
      refine WO.nil ?_
      refine thenL_n ?_
      refine WC.ret ?_
      refine thenL_r ?_
      obtain rfl := someI h
      exact ⟨.inr rfl, _, _, rfl, rfl, rfl⟩
    · have h := iteF q6 h
      refine WC.skip ?_
      refine thenL_n ?_
      refine WC.seq ?_
      refine WC.seq ?_
      refine WC.region ?_
      refine WO.mv rfl ?_
      refine WO.lenS rfl hot1.slv rfl ?_
      refine WO.mv rfl ?_
      refine WO.nil ?_
      refine thenL_n ?_
      refine WC.block ?_
      obtain ⟨b19, e20, h⟩ := bindS h
      refine WC.loopD e20 (fun s7 l' m' n' => ∃ S8 : Cx n, S8.m = m' ∧ S8.n = n' ∧ Cov l' [(0, .sc vt0), (1, .sc vt1), (23, .sc vt1), (24, .sc (.int .i64 ((t1.length : Int)))), (25, .sc (.int .i64 s7))] ∧ Rd Y22 S8 vt0 t0 ∧ Rd Y3 S8 vt1 t1) (fun b e l' m' n' => (match b with | .inl b9 => e = .exit 0 ∧ ∃ S10 : Cx n, S10.m = m' ∧ S10.n = n' ∧ Cov l' [(0, .sc vt0), (1, .sc vt1)] ∧ Rd Y22 S10 vt0 t0 ∧ Rd Y3 S10 vt1 t1 | .inr b9 => e = .ret ∧ ∃ S11 : Cx n, S11.m = m' ∧ S11.n = n' ∧ Cov l' [(4, .sc (.bool b9.1)), (5, .sc (.int .i64 b9.2))])) (by exact ⟨S3, rfl, rfl, (Cov.cons rfl (Cov.cons rfl (Cov.cons rfl (Cov.cons rfl (Cov.cons rfl (Cov.nil _)))))), hot0, hot1⟩) ?_ ?_
      · clear h
        rintro s7 q _ _ _ ⟨S12, rfl, rfl, hc13, hot0, hot1⟩ h
        unfold F91_l0 at h
        refine WC.cov hc13 ?_
        refine WC.seq ?_
        refine WC.region ?_
        refine WO.bin rfl rfl (by decide) (by decide) rfl ?_
        refine WO.nil ?_
        refine thenL_n ?_
        refine WC.seq ?_
        refine WC.cond rfl (fun q14 => ?_) (fun q14 => ?_)
        · have h := iteT q14 h
          refine WC.skip ?_
          refine thenL_n ?_
          refine WC.seq ?_
          refine WC.block ?_
          refine WC.seq ?_
          refine WC.region ?_
          obtain ⟨x15, e16, h⟩ := bindS h
          refine WO.ixS rfl rfl hot1.slv (at?_lt e16) rfl ?_
          refine WO.ldF rfl hot1.ro (fun _ hi => hi) (at?_get e16) rfl rfl rfl ?_
          refine WO.asg rfl ?_
          refine WO.nil ?_
          refine thenL_n ?_
          refine WC.seq ?_
          refine WC.region ?_
          refine WO.mv rfl ?_
          refine WO.bin rfl rfl (by decide) (by decide) rfl ?_
          refine WO.mv rfl ?_
          refine WO.cutB (d := 34) 3 ((decide (x15 < 0)) || (decide (x15 > 1000000000))) (fun q17 => ?_) (fun q17 => ?_) ?_
          · refine WO.gno rfl rfl ?_
            refine WO.gno rfl rfl ?_
            refine WO.pickT rfl rfl ?_
            refine WO.nil ?_
            exact ⟨rfl, rfl, (Cov.any rfl (orT q17) (Cov.skip rfl (Cov.skip rfl (Cov.skip rfl (Cov.skip rfl (Cov.refl _))))))⟩
          · skip
            refine WO.gyes rfl rfl ?_
            refine WO.mv rfl ?_
            refine WO.gyes rfl rfl ?_
            refine WO.bin rfl rfl (by decide) (by decide) rfl ?_
            refine WO.pickF rfl rfl ?_
            refine WO.nil ?_
            exact ⟨rfl, rfl, (Cov.any rfl (orF q17) (Cov.skip rfl (Cov.skip rfl (Cov.skip rfl (Cov.skip rfl (Cov.refl _))))))⟩
          refine WO.nil ?_
          refine thenL_n ?_
          refine WC.cond rfl (fun q18 => ?_) (fun q18 => ?_)
          · have h := iteT q18 h
            refine WC.seq ?_
            refine WC.region ?_
            refine WO.asg rfl ?_
            refine WO.asg rfl ?_
            refine WO.nil ?_
            refine thenL_n ?_
            refine WC.ret ?_
            refine blockL_r ?_
            refine thenL_r ?_
            refine thenL_r ?_
            obtain rfl := someI h
            exact ⟨_, rfl, rfl, ⟨S12, rfl, rfl, (Cov.cons rfl (Cov.cons rfl (Cov.nil _)))⟩⟩
          · have h := iteF q18 h
            refine WC.skip ?_
            refine blockL_n ?_
            refine thenL_n ?_
            refine WC.region ?_
            refine WO.bin rfl rfl (by decide) (by decide) rfl ?_
            refine WO.mv rfl ?_
            refine WO.nil ?_
            refine thenL_n ?_
            obtain rfl := someI h
            exact ⟨_, rfl, ⟨S12, rfl, rfl, (Cov.cons rfl (Cov.cons rfl (Cov.cons rfl (Cov.cons rfl (Cov.cons rfl (Cov.nil _)))))), hot0, hot1⟩⟩
        · have h := iteF q14 h
          refine WC.exit ?_
          refine thenL_e ?_
          refine thenL_e ?_
          obtain rfl := someI h
          exact ⟨_, rfl, rfl, ⟨S12, rfl, rfl, (Cov.cons rfl (Cov.cons rfl (Cov.nil _))), hot0, hot1⟩⟩
      cases b19 with
      | inl b21 =>
        simp only at h
        rintro _ _ _ _ ⟨rfl, ⟨S22, rfl, rfl, hc23, hot0, hot1⟩⟩
        refine blockL_s ?_
        refine thenL_n ?_
        refine WC.cov hc23 ?_
        refine WC.seq ?_
        refine WC.seq ?_
        refine WC.region ?_
        refine WO.mv rfl ?_
        refine WO.lenS rfl hot0.slv rfl ?_
        refine WO.mv rfl ?_
        refine WO.nil ?_
        refine thenL_n ?_
        refine WC.block ?_
        obtain ⟨b64, e65, h⟩ := bindS h
        refine WC.loopD e65 (fun s24 l' m' n' => ∃ S25 : Cx n, S25.m = m' ∧ S25.n = n' ∧ Cov l' [(0, .sc vt0), (1, .sc vt1), (36, .sc vt0), (37, .sc (.int .i64 ((t0.length : Int)))), (38, .sc (.int .i64 s24))] ∧ Rd Y22 S25 vt0 t0 ∧ Rd Y3 S25 vt1 t1) (fun b e l' m' n' => (match b with | .inl b26 => e = .exit 2 ∧ ∃ S27 : Cx n, S27.m = m' ∧ S27.n = n' ∧ Cov l' [] | .inr b26 => e = .ret ∧ ∃ S28 : Cx n, S28.m = m' ∧ S28.n = n' ∧ Cov l' [(4, .sc (.bool b26.1)), (5, .sc (.int .i64 b26.2))])) (by exact ⟨S22, rfl, rfl, (Cov.cons rfl (Cov.cons rfl (Cov.cons rfl (Cov.cons rfl (Cov.cons rfl (Cov.nil _)))))), hot0, hot1⟩) ?_ ?_
        · clear h
          rintro s24 q _ _ _ ⟨S29, rfl, rfl, hc30, hot0, hot1⟩ h
          unfold F91_l2 at h
          refine WC.cov hc30 ?_
          refine WC.seq ?_
          refine WC.region ?_
          refine WO.bin rfl rfl (by decide) (by decide) rfl ?_
          refine WO.nil ?_
          refine thenL_n ?_
          refine WC.seq ?_
          refine WC.cond rfl (fun q31 => ?_) (fun q31 => ?_)
          · have h := iteT q31 h
            refine WC.skip ?_
            refine thenL_n ?_
            refine WC.seq ?_
            refine WC.block ?_
            refine WC.seq ?_
            refine WC.region ?_
            refine WO.mv rfl ?_
            obtain ⟨L32, e33, h⟩ := bindS h
            refine WO.ixS rfl rfl hot0.slv (at?_lt e33) rfl ?_
            refine WO.ldS rfl hot0.ro (fun _ hi => hi) (at?_get e33) rfl rfl (fun v34 ho35 => ?_)
            have ho35 : Rd Y3 S29 v34 L32 := ho35
            refine WO.asg rfl ?_
            refine WO.asg rfl ?_
            refine WO.nil ?_
            refine thenL_n ?_
            refine WC.seq ?_
            refine WC.region ?_
            refine WO.mv rfl ?_
            refine WO.lenS rfl ho35.slv rfl ?_
            refine WO.mv rfl ?_
            refine WO.nil ?_
            refine thenL_n ?_
            refine WC.block ?_
            obtain ⟨b57, e58, h⟩ := bindS h
            refine WC.loopD e58 (fun s36 l' m' n' => ∃ S37 : Cx n, S37.m = m' ∧ S37.n = n' ∧ Cov l' [(0, .sc vt0), (1, .sc vt1), (9, .sc (.int .i64 s24)), (36, .sc vt0), (37, .sc (.int .i64 ((t0.length : Int)))), (38, .sc (.int .i64 s24)), (43, .sc v34), (44, .sc (.int .i64 ((L32.length : Int)))), (45, .sc (.int .i64 s36))] ∧ Rd Y22 S37 vt0 t0 ∧ Rd Y3 S37 vt1 t1 ∧ Rd Y3 S37 v34 L32) (fun b e l' m' n' => (match b with | .inl b38 => e = .exit 4 ∧ ∃ S39 : Cx n, S39.m = m' ∧ S39.n = n' ∧ Cov l' [(0, .sc vt0), (1, .sc vt1), (36, .sc vt0), (37, .sc (.int .i64 ((t0.length : Int)))), (38, .sc (.int .i64 s24))] ∧ Rd Y22 S39 vt0 t0 ∧ Rd Y3 S39 vt1 t1 | .inr b38 => e = .ret ∧ ∃ S40 : Cx n, S40.m = m' ∧ S40.n = n' ∧ Cov l' [(4, .sc (.bool b38.1)), (5, .sc (.int .i64 b38.2))])) (by exact ⟨S29, rfl, rfl, (Cov.cons rfl (Cov.cons rfl (Cov.cons rfl (Cov.cons rfl (Cov.cons rfl (Cov.cons rfl (Cov.cons rfl (Cov.cons rfl (Cov.cons rfl (Cov.nil _)))))))))), hot0, hot1, ho35⟩) ?_ ?_
            · clear h
              rintro s36 q _ _ _ ⟨S41, rfl, rfl, hc42, hot0, hot1, ho35⟩ h
              unfold F91_l1 at h
              refine WC.cov hc42 ?_
              refine WC.seq ?_
              refine WC.region ?_
              refine WO.bin rfl rfl (by decide) (by decide) rfl ?_
              refine WO.nil ?_
              refine thenL_n ?_
              refine WC.seq ?_
              refine WC.cond rfl (fun q43 => ?_) (fun q43 => ?_)
              · have h := iteT q43 h
                refine WC.skip ?_
                refine thenL_n ?_
                refine WC.seq ?_
                refine WC.block ?_
                refine WC.seq ?_
                refine WC.region ?_
                refine WO.mv rfl ?_
                obtain ⟨x44, e45, h⟩ := bindS h
                refine WO.ixS rfl rfl ho35.slv (at?_lt e45) rfl ?_
                refine WO.ldF rfl ho35.ro (fun _ hi => hi) (at?_get e45) rfl rfl rfl ?_
                refine WO.asg rfl ?_
                refine WO.asg rfl ?_
                refine WO.nil ?_
                refine thenL_n ?_
                refine WC.seq ?_
                refine WC.drawP rfl ?_
                refine WO.mv rfl ?_
                refine WO.mv rfl ?_
                obtain ⟨x46, e47, h⟩ := bindS h
                refine WO.ixS rfl rfl hot1.slv (at?_lt e47) rfl ?_
                refine WO.ldF rfl hot1.ro (fun _ hi => hi) (at?_get e47) rfl rfl rfl ?_
                refine WO.mv rfl ?_
                refine WO.bin rfl rfl (by decide) (by decide) rfl ?_
                refine WO.mv rfl ?_
                refine WO.mv rfl ?_
                obtain ⟨x48, e49, h⟩ := bindS h
                refine WO.ixS rfl rfl hot1.slv (at?_lt e49) rfl ?_
                refine WO.ldF rfl hot1.ro (fun _ hi => hi) (at?_get e49) rfl rfl rfl ?_
                refine WO.mv rfl ?_
                refine WO.mv rfl ?_
                obtain ⟨L50, e51, h⟩ := bindS h
                refine WO.ixS rfl rfl hot0.slv (at?_lt e51) rfl ?_
                refine WO.ldS rfl hot0.ro (fun _ hi => hi) (at?_get e51) rfl rfl (fun v52 ho53 => ?_)
                have ho53 : Rd Y3 S41 v52 L50 := ho53
                refine WO.mv rfl ?_
                obtain ⟨x54, e55, h⟩ := bindS h
                refine WO.ixS rfl rfl ho53.slv (at?_lt e55) rfl ?_
                refine WO.ldF rfl ho53.ro (fun _ hi => hi) (at?_get e55) rfl rfl rfl ?_
                refine WO.bin rfl rfl (by decide) (by decide) rfl ?_
                refine WO.bin rfl rfl (by decide) (by decide) rfl ?_
                refine WO.nil ?_
                refine thenL_n ?_
                refine WC.cond rfl (fun q56 => ?_) (fun q56 => ?_)
                · have h := iteT q56 h
                  refine WC.seq ?_
                  refine WC.region ?_
                  refine WO.asg rfl ?_
                  refine WO.asg rfl ?_
                  refine WO.nil ?_
                  refine thenL_n ?_
                  refine WC.ret ?_
                  refine blockL_r ?_
                  refine thenL_r ?_
                  refine thenL_r ?_
                  obtain rfl := someI h
                  exact ⟨_, rfl, rfl, ⟨S41, rfl, rfl, (Cov.cons rfl (Cov.cons rfl (Cov.nil _)))⟩⟩
                · have h := iteF q56 h
                  refine WC.skip ?_
                  refine blockL_n ?_
                  refine thenL_n ?_
                  refine WC.region ?_
                  refine WO.bin rfl rfl (by decide) (by decide) rfl ?_
                  refine WO.mv rfl ?_
                  refine WO.nil ?_
                  refine thenL_n ?_
                  obtain rfl := someI h
                  exact ⟨_, rfl, ⟨S41, rfl, rfl, (Cov.cons rfl (Cov.cons rfl (Cov.cons rfl (Cov.cons rfl (Cov.cons rfl (Cov.cons rfl (Cov.cons rfl (Cov.cons rfl (Cov.cons rfl (Cov.nil _)))))))))), hot0, hot1, ho35⟩⟩
              · have h := iteF q43 h
                refine WC.exit ?_
                refine thenL_e ?_
                refine thenL_e ?_
                obtain rfl := someI h
                exact ⟨_, rfl, rfl, ⟨S41, rfl, rfl, (Cov.cons rfl (Cov.cons rfl (Cov.cons rfl (Cov.cons rfl (Cov.cons rfl (Cov.nil _)))))), hot0, hot1⟩⟩
            cases b57 with
            | inl b59 =>
              simp only at h
              rintro _ _ _ _ ⟨rfl, ⟨S60, rfl, rfl, hc61, hot0, hot1⟩⟩
              refine blockL_s ?_
              refine blockL_n ?_
              refine thenL_n ?_
              refine WC.cov hc61 ?_
              refine WC.region ?_
              refine WO.bin rfl rfl (by decide) (by decide) rfl ?_
              refine WO.mv rfl ?_
              refine WO.nil ?_
              refine thenL_n ?_
              obtain rfl := someI h
              exact ⟨_, rfl, ⟨S60, rfl, rfl, (Cov.cons rfl (Cov.cons rfl (Cov.cons rfl (Cov.cons rfl (Cov.cons rfl (Cov.nil _)))))), hot0, hot1⟩⟩
            | inr b59 =>
              simp only at h
              rintro _ _ _ _ ⟨rfl, ⟨S62, rfl, rfl, hc63⟩⟩
              refine blockL_r ?_
              refine blockL_r ?_
              refine thenL_r ?_
              refine thenL_r ?_
              obtain rfl := someI h
              exact ⟨_, rfl, rfl, ⟨S62, rfl, rfl, (Cov.trans hc63 (Cov.cons rfl (Cov.cons rfl (Cov.nil _))))⟩⟩
          · have h := iteF q31 h
            refine WC.exit ?_
            refine thenL_e ?_
            refine thenL_e ?_
            obtain rfl := someI h
            exact ⟨_, rfl, rfl, ⟨S29, rfl, rfl, (Cov.nil _)⟩⟩
        cases b64 with
        | inl b66 =>
          simp only at h
          rintro _ _ _ _ ⟨rfl, ⟨S67, rfl, rfl, hc68⟩⟩
          refine blockL_s ?_
          refine thenL_n ?_
          refine WC.cov hc68 ?_
          refine WC.seq ?_
          refine WC.region ?_
          refine WO.asg rfl ?_
          refine WO.asg rfl ?_
          refine WO.nil ?_
          refine thenL_n ?_
          refine WC.ret ?_
          obtain rfl := someI h
          exact ⟨.inr rfl, _, _, rfl, rfl, rfl⟩
        | inr b66 =>
          simp only at h
          rintro _ _ _ _ ⟨rfl, ⟨S69, rfl, rfl, hc70⟩⟩
          refine blockL_r ?_
          refine thenL_r ?_
          obtain rfl := someI h
          exact ⟨.inr rfl, _, _, (resK_cov hc70 rfl), rfl, rfl⟩
      | inr b21 =>
        simp only at h
        rintro _ _ _ _ ⟨rfl, ⟨S71, rfl, rfl, hc72⟩⟩
        refine blockL_r ?_
        refine thenL_r ?_
        obtain rfl := someI h
        exact ⟨.inr rfl, _, _, (resK_cov hc72 rfl), rfl, rfl⟩
end Go.Proofs.Ytdkmepeolmdccaa

/- The machine answers F29: printed by a program of ours (gen.py). -/
import Derived.Test.YtdkmepeolmdccaaDef
import Derived.Test.YtdkmepeolmdccaaEnv
set_option linter.unusedVariables false
namespace Go.Proofs.Ytdkmepeolmdccaa
open Go.Am
theorem F29.fn : E.fn 29 = some ⟨40, (Try.f29.body.getD .skip), Try.f29.results.toList, []⟩ := rfl
theorem F29_ok {F : Nat} {m : Mem} {n : Nat} {r : Int × Int} {t0 : List Int} {t1 : Int} {vt0 : SV} (h : F29 F t0 t1 = some r) (kt0 : Vw Y3 n m vt0 t0) : Ret E n 29 [.sc vt0, .sc (.int .i64 t1)] m n (fun v m' n' => v = .tup [.sc (.int .i64 r.1), .sc (.int .i64 r.2)]) := by
  unfold F29 at h
  refine Ret.walk F29.fn ?_
  refine WC.start fun S0 em en hz => ?_
  have hot0 := kt0.rdS em hz
  refine WC.seq ?_
  refine WC.region ?_
  refine WO.asg rfl ?_
  refine WO.asg rfl ?_
  refine WO.nil ?_
  refine thenL_n ?_
  refine WC.seq ?_
  refine WC.region ?_
  refine WO.asg rfl ?_
  refine WO.nil ?_
  refine thenL_n ?_
  refine WC.seq ?_
  refine WC.seq ?_
  refine WC.region ?_
  refine WO.mv rfl ?_
  refine WO.lenS rfl hot0.slv rfl ?_
  refine WO.mv rfl ?_
  refine WO.nil ?_
  refine thenL_n ?_
  refine WC.block ?_
  obtain ⟨b38, e39, h⟩ := bindS h
  refine WC.loopD e39 (fun s1 l' m' n' => ∃ S3 : Cx n, ∃ v4 : SV, S3.m = m' ∧ S3.n = n' ∧ Cov l' [(1, .sc (.int .i64 t1)), (6, .sc v4), (9, .sc vt0), (10, .sc (.int .i64 ((t0.length : Int)))), (11, .sc (.int .i64 s1.2))] ∧ Rd Y3 S3 vt0 t0 ∧ Ow Y3 S3 2 v4 s1.1) (fun b e l' m' n' => e = .exit 0 ∧ ∃ S5 : Cx n, ∃ v6 : SV, S5.m = m' ∧ S5.n = n' ∧ Cov l' [(1, .sc (.int .i64 t1)), (6, .sc v6)] ∧ Ow Y3 S5 2 v6 b) (by exact ⟨S0, .nils, rfl, rfl, (Cov.cons rfl (Cov.cons rfl (Cov.cons rfl (Cov.cons rfl (Cov.cons rfl (Cov.nil _)))))), hot0, Ow.nil⟩) ?_ ?_
  · clear h
    rintro s1 q _ _ _ ⟨S7, v8, rfl, rfl, hc9, hot0, ho6⟩ h
    unfold F29_l1 at h
    refine WC.cov hc9 ?_
    refine WC.seq ?_
    refine WC.region ?_
    refine WO.bin rfl rfl (by decide) (by decide) rfl ?_
    refine WO.nil ?_
    refine thenL_n ?_
    refine WC.seq ?_
    refine WC.cond rfl (fun q10 => ?_) (fun q10 => ?_)
    · have h := iteT q10 h
      refine WC.skip ?_
      refine thenL_n ?_
      refine WC.seq ?_
      refine WC.block ?_
      refine WC.seq ?_
      refine WC.region ?_
      refine WO.mv rfl ?_
      obtain ⟨x11, e12, h⟩ := bindS h
      refine WO.ixS rfl rfl hot0.slv (at?_lt e12) rfl ?_
      refine WO.ldF rfl hot0.ro (fun _ hi => hi) (at?_get e12) rfl rfl rfl ?_
      refine WO.asg rfl ?_
      refine WO.asg rfl ?_
      refine WO.nil ?_
      refine thenL_n ?_
      refine WC.seq ?_
      refine WC.region ?_
      refine WO.mv rfl ?_
      refine WO.mv rfl ?_
      refine WO.nil ?_
      refine thenL_n ?_
      refine WC.block ?_
      obtain ⟨b33, e34, h⟩ := bindS h
      refine WC.loopD e34 (fun s13 l' m' n' => ∃ S15 : Cx n, ∃ v16 : SV, S15.m = m' ∧ S15.n = n' ∧ Cov l' [(1, .sc (.int .i64 t1)), (6, .sc v16), (7, .sc (.int .i64 s1.2)), (9, .sc vt0), (10, .sc (.int .i64 ((t0.length : Int)))), (11, .sc (.int .i64 s1.2)), (16, .sc (.int .i64 x11)), (17, .sc (.int .i64 s13.2))] ∧ Rd Y3 S15 vt0 t0 ∧ Ow Y3 S15 2 v16 s13.1) (fun b e l' m' n' => e = .exit 2 ∧ ∃ S17 : Cx n, ∃ v18 : SV, S17.m = m' ∧ S17.n = n' ∧ Cov l' [(1, .sc (.int .i64 t1)), (6, .sc v18), (9, .sc vt0), (10, .sc (.int .i64 ((t0.length : Int)))), (11, .sc (.int .i64 s1.2))] ∧ Rd Y3 S17 vt0 t0 ∧ Ow Y3 S17 2 v18 b) (by exact ⟨S7, v8, rfl, rfl, (Cov.cons rfl (Cov.cons rfl (Cov.cons rfl (Cov.cons rfl (Cov.cons rfl (Cov.cons rfl (Cov.cons rfl (Cov.cons rfl (Cov.nil _))))))))), hot0, ho6⟩) ?_ ?_
      · clear h
        rintro s13 q _ _ _ ⟨S19, v20, rfl, rfl, hc21, hot0, ho6⟩ h
        unfold F29_l0 at h
        refine WC.cov hc21 ?_
        refine WC.seq ?_
        refine WC.region ?_
        refine WO.bin rfl rfl (by decide) (by decide) rfl ?_
        refine WO.nil ?_
        refine thenL_n ?_
        refine WC.seq ?_
        refine WC.cond rfl (fun q22 => ?_) (fun q22 => ?_)
        · have h := iteT q22 h
          refine WC.skip ?_
          refine thenL_n ?_
          refine WC.seq ?_
          refine WC.block ?_
          refine WC.region ?_
          refine WO.mv rfl ?_
          refine WO.mv rfl ?_
          refine WO.bsS (A := Y3) (S := S19) (M := [s1.2]) (cs := [.int .i64 s1.2]) 3 rfl rfl rfl ⟨[.int .i64 s1.2], _, rfl, rfl, rfl⟩ rfl (fun v23 S24 c25 ho26 => ?_)
          have hot0 := hot0.to c25
          have ho6 := ho6.to c25
          obtain ⟨L27, e28, h⟩ := bindS h
          refine WO.appS rfl rfl ho6 ho26.ro e28 rfl rfl (fun v29 S30 c31 ho32 => ?_)
          have hot0 := hot0.to c31
          have ho26 := ho26.to c31
          refine WO.asg rfl ?_
          refine WO.nil ?_
          refine blockL_n ?_
          refine thenL_n ?_
          refine WC.region ?_
          refine WO.bin rfl rfl (by decide) (by decide) rfl ?_
          refine WO.mv rfl ?_
          refine WO.nil ?_
          refine thenL_n ?_
          obtain rfl := someI h
          exact ⟨_, rfl, ⟨S30, v29, rfl, rfl, (Cov.cons rfl (Cov.cons rfl (Cov.cons rfl (Cov.cons rfl (Cov.cons rfl (Cov.cons rfl (Cov.cons rfl (Cov.cons rfl (Cov.nil _))))))))), hot0, ho32⟩⟩
        · have h := iteF q22 h
          refine WC.exit ?_
          refine thenL_e ?_
          refine thenL_e ?_
          obtain rfl := someI h
          exact ⟨_, rfl, rfl, ⟨S19, v20, rfl, rfl, (Cov.cons rfl (Cov.cons rfl (Cov.cons rfl (Cov.cons rfl (Cov.cons rfl (Cov.nil _)))))), hot0, ho6⟩⟩
      rintro _ _ _ _ ⟨rfl, ⟨S35, v36, rfl, rfl, hc37, hot0, ho6⟩⟩
      refine blockL_s ?_
      refine blockL_n ?_
      refine thenL_n ?_
      refine WC.cov hc37 ?_
      refine WC.region ?_
      refine WO.bin rfl rfl (by decide) (by decide) rfl ?_
      refine WO.mv rfl ?_
      refine WO.nil ?_
      refine thenL_n ?_
      obtain rfl := someI h
      exact ⟨_, rfl, ⟨S35, v36, rfl, rfl, (Cov.cons rfl (Cov.cons rfl (Cov.cons rfl (Cov.cons rfl (Cov.cons rfl (Cov.nil _)))))), hot0, ho6⟩⟩
    · have h := iteF q10 h
      refine WC.exit ?_
      refine thenL_e ?_
      refine thenL_e ?_
      obtain rfl := someI h
      exact ⟨_, rfl, rfl, ⟨S7, v8, rfl, rfl, (Cov.cons rfl (Cov.cons rfl (Cov.nil _))), ho6⟩⟩
  rintro _ _ _ _ ⟨rfl, ⟨S40, v41, rfl, rfl, hc42, ho6⟩⟩
  refine blockL_s ?_
  refine thenL_n ?_
  refine WC.cov hc42 ?_
  refine WC.seq ?_
  refine WC.seq ?_
  refine WC.region ?_
  refine WO.mv rfl ?_
  refine WO.lenS rfl ho6.slv rfl ?_
  refine WO.bin rfl rfl (by decide) (by decide) rfl ?_
  refine WO.nil ?_
  refine thenL_n ?_
  refine WC.cond rfl (fun q43 => ?_) (fun q43 => ?_)
  · have h := iteT q43 h
    refine WC.seq ?_
    refine WC.region ?_
    refine WO.asg rfl ?_
    refine WO.asg rfl ?_
    refine WO.nil ?_
    refine thenL_n ?_
    refine WC.ret ?_
    refine thenL_r ?_
    obtain rfl := someI h
    exact ⟨.inr rfl, _, _, rfl, rfl, rfl⟩
  · have h := iteF q43 h
    refine WC.skip ?_
    refine thenL_n ?_
    refine WC.seq ?_
    refine WC.seq ?_
    refine WC.region ?_
    refine WO.mv rfl ?_
    refine WO.bin rfl rfl (by decide) (by decide) rfl ?_
    refine WO.mv rfl ?_
    refine WO.cutB (d := 35) 5 ((decide (t1 < 0)) || (decide (t1 ≥ (b38.length : Int)))) (fun q44 => ?_) (fun q44 => ?_) ?_
    · refine WO.gno rfl rfl ?_
      refine WO.gno rfl rfl ?_
      refine WO.gno rfl rfl ?_
      refine WO.gno rfl rfl ?_
      refine WO.pickT rfl rfl ?_
      refine WO.nil ?_
      exact ⟨rfl, rfl, (Cov.any rfl (orT q44) (Cov.skip rfl (Cov.skip rfl (Cov.skip rfl (Cov.skip rfl (Cov.skip rfl (Cov.skip rfl (Cov.refl _))))))))⟩
    · skip
      refine WO.gyes rfl rfl ?_
      refine WO.mv rfl ?_
      refine WO.gyes rfl rfl ?_
      refine WO.mv rfl ?_
      refine WO.gyes rfl rfl ?_
      refine WO.lenS rfl ho6.slv rfl ?_
      refine WO.gyes rfl rfl ?_
      refine WO.bin rfl rfl (by decide) (by decide) rfl ?_
      refine WO.pickF rfl rfl ?_
      refine WO.nil ?_
      exact ⟨rfl, rfl, (Cov.any rfl (orF q44) (Cov.skip rfl (Cov.skip rfl (Cov.skip rfl (Cov.skip rfl (Cov.skip rfl (Cov.skip rfl (Cov.refl _))))))))⟩
    refine WO.nil ?_
    refine thenL_n ?_
    refine WC.cond rfl (fun q45 => ?_) (fun q45 => ?_)
    · have h := iteT q45 h
      refine WC.seq ?_
      refine WC.region ?_
      refine WO.asg rfl ?_
      refine WO.asg rfl ?_
      refine WO.nil ?_
      refine thenL_n ?_
      refine WC.ret ?_
      refine thenL_r ?_
      obtain rfl := someI h
      exact ⟨.inr rfl, _, _, rfl, rfl, rfl⟩
    · have h := iteF q45 h
      refine WC.skip ?_
      refine thenL_n ?_
      refine WC.seq ?_
      refine WC.region ?_
      refine WO.mv rfl ?_
      refine WO.mv rfl ?_
      obtain ⟨x46, e47, h⟩ := bindS h
      refine WO.ixS rfl rfl ho6.slv (at?_lt e47) rfl ?_
      refine WO.ldF rfl ho6.ro (fun _ hi => hi) (at?_get e47) rfl rfl rfl ?_
      refine WO.asg rfl ?_
      refine WO.asg rfl ?_
      refine WO.nil ?_
      refine thenL_n ?_
      refine WC.ret ?_
      obtain rfl := someI h
      exact ⟨.inr rfl, _, _, rfl, rfl, rfl⟩
end Go.Proofs.Ytdkmepeolmdccaa

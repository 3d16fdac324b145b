/- The machine answers F142: printed by a program of ours (gen.py). -/
import Derived.Test.YtihmliblbhjlaaaDef
import Derived.Test.YtihmliblbhjlaaaEnv
set_option linter.unusedVariables false
namespace Go.Proofs.Ytihmliblbhjlaaa
open Go.Am
theorem F142.fn : E.fn 142 = some ⟨61, (Try.f142.body.getD .skip), Try.f142.results.toList, []⟩ := rfl
theorem F142_ok {F : Nat} {m : Mem} {n : Nat} {r : Int} {t0 : Int} {t1 : Int} (h : F142 F t0 t1 = some r)  : Ret E n 142 [.sc (.int .i64 t0), .sc (.int .i64 t1)] m n (fun v m' n' => v = .sc (.int .i64 r)) := by
  unfold F142 at h
  refine Ret.walk F142.fn ?_
  refine WC.start fun S0 em en hz => ?_
  refine WC.seq ?_
  refine WC.region ?_
  refine WO.asg rfl ?_
  refine WO.nil ?_
  refine thenL_n ?_
  refine WC.seq ?_
  refine WC.region ?_
  refine WO.mv rfl ?_
  refine WO.bin rfl rfl (by decide) (by decide) rfl ?_
  obtain ⟨L1, e2, h⟩ := bindS h
  refine WO.mkS (A := Y3) (S := S0) 2 rfl rfl e2 rfl rfl rfl (fun v3 S4 c5 ho6 => ?_)
  refine WO.asg rfl ?_
  refine WO.nil ?_
  refine thenL_n ?_
  refine WC.seq ?_
  refine WC.region ?_
  refine WO.mv rfl ?_
  obtain ⟨u7, e8, h⟩ := bindS h
  refine WO.ixS rfl rfl ho6.slv (ck_some e8) rfl ?_
  refine WO.st1 (u' := 1) rfl rfl ho6 (ck_nat e8) rfl rfl (fun S9 c10 ho6 => ?_)
  refine WO.nil ?_
  refine thenL_n ?_
  refine WC.seq ?_
  refine WC.seq ?_
  refine WC.region ?_
  refine WO.mv rfl ?_
  refine WO.mv rfl ?_
  refine WO.nil ?_
  refine thenL_n ?_
  refine WC.block ?_
  obtain ⟨b58, e59, h⟩ := bindS h
  refine WC.loopD e59 (fun s11 l' m' n' => ∃ S13 : Cx n, ∃ v14 : SV, S13.m = m' ∧ S13.n = n' ∧ Cov l' [(0, .sc (.int .i64 t0)), (1, .sc (.int .i64 t1)), (5, .sc v14), (14, .sc (.int .i64 t1)), (15, .sc (.int .i64 s11.2))] ∧ Ow Y3 S13 2 v14 s11.1) (fun b e l' m' n' => e = .exit 0 ∧ ∃ S15 : Cx n, ∃ v16 : SV, S15.m = m' ∧ S15.n = n' ∧ Cov l' [(0, .sc (.int .i64 t0)), (5, .sc v16)] ∧ Ow Y3 S15 2 v16 b) (by exact ⟨S9, v3, rfl, rfl, (Cov.cons rfl (Cov.cons rfl (Cov.cons rfl (Cov.cons rfl (Cov.cons rfl (Cov.nil _)))))), ho6⟩) ?_ ?_
  · clear h
    rintro s11 q _ _ _ ⟨S17, v18, rfl, rfl, hc19, ho5⟩ h
    unfold F142_l1 at h
    refine WC.cov hc19 ?_
    refine WC.seq ?_
    refine WC.region ?_
    refine WO.bin rfl rfl (by decide) (by decide) rfl ?_
    refine WO.nil ?_
    refine thenL_n ?_
    refine WC.seq ?_
    refine WC.cond rfl (fun q20 => ?_) (fun q20 => ?_)
    · have h := iteT q20 h
      refine WC.skip ?_
      refine thenL_n ?_
      refine WC.seq ?_
      refine WC.block ?_
      refine WC.seq ?_
      refine WC.region ?_
      refine WO.mv rfl ?_
      refine WO.bin rfl rfl (by decide) (by decide) rfl ?_
      obtain ⟨L21, e22, h⟩ := bindS h
      refine WO.mkS (A := Y3) (S := S17) 3 rfl rfl e22 rfl rfl rfl (fun v23 S24 c25 ho26 => ?_)
      have ho5 := ho5.to c25
      refine WO.asg rfl ?_
      refine WO.nil ?_
      refine thenL_n ?_
      refine WC.seq ?_
      refine WC.seq ?_
      refine WC.region ?_
      refine WO.mv rfl ?_
      refine WO.lenS rfl ho5.slv rfl ?_
      refine WO.mv rfl ?_
      refine WO.nil ?_
      refine thenL_n ?_
      refine WC.block ?_
      obtain ⟨b54, e55, h⟩ := bindS h
      refine WC.loopD e55 (fun s27 l' m' n' => ∃ S28 : Cx n, S28.m = m' ∧ S28.n = n' ∧ Cov l' [(0, .sc (.int .i64 t0)), (1, .sc (.int .i64 t1)), (6, .sc v23), (14, .sc (.int .i64 t1)), (15, .sc (.int .i64 s11.2)), (20, .sc v18), (21, .sc (.int .i64 ((s11.1.length : Int)))), (22, .sc (.int .i64 s27.1))] ∧ Ow Y3 S28 3 v23 s27.2 ∧ Ow Y3 S28 2 v18 s11.1) (fun b e l' m' n' => e = .exit 2 ∧ ∃ S29 : Cx n, S29.m = m' ∧ S29.n = n' ∧ Cov l' [(0, .sc (.int .i64 t0)), (1, .sc (.int .i64 t1)), (6, .sc v23), (14, .sc (.int .i64 t1)), (15, .sc (.int .i64 s11.2))] ∧ Ow Y3 S29 3 v23 b) (by exact ⟨S24, rfl, rfl, (Cov.cons rfl (Cov.cons rfl (Cov.cons rfl (Cov.cons rfl (Cov.cons rfl (Cov.cons rfl (Cov.cons rfl (Cov.cons rfl (Cov.nil _))))))))), ho26, ho5⟩) ?_ ?_
      · clear h
        rintro s27 q _ _ _ ⟨S30, rfl, rfl, hc31, ho26, ho5⟩ h
        unfold F142_l0 at h
        refine WC.cov hc31 ?_
        refine WC.seq ?_
        refine WC.region ?_
        refine WO.bin rfl rfl (by decide) (by decide) rfl ?_
        refine WO.nil ?_
        refine thenL_n ?_
        refine WC.seq ?_
        refine WC.cond rfl (fun q32 => ?_) (fun q32 => ?_)
        · have h := iteT q32 h
          refine WC.skip ?_
          refine thenL_n ?_
          refine WC.seq ?_
          refine WC.block ?_
          refine WC.seq ?_
          refine WC.region ?_
          refine WO.mv rfl ?_
          obtain ⟨x33, e34, h⟩ := bindS h
          refine WO.ixS rfl rfl ho5.slv (at?_lt e34) rfl ?_
          refine WO.ldF rfl ho5.ro (fun _ hi => hi) (at?_get e34) rfl rfl rfl ?_
          refine WO.asg rfl ?_
          refine WO.asg rfl ?_
          refine WO.nil ?_
          refine thenL_n ?_
          refine WC.seq ?_
          refine WC.seq ?_
          refine WC.region ?_
          refine WO.mv rfl ?_
          refine WO.bin rfl rfl (by decide) (by decide) rfl ?_
          refine WO.nil ?_
          refine thenL_n ?_
          obtain ⟨b42, e43, h⟩ := bindS h
          refine WC.mono (Q' := (fun b e l' m' n' => e = .normal ∧ ∃ S44 : Cx n, S44.m = m' ∧ S44.n = n' ∧ Cov l' [(0, .sc (.int .i64 t0)), (1, .sc (.int .i64 t1)), (6, .sc v23), (7, .sc (.int .i64 s27.1)), (8, .sc (.int .i64 x33)), (14, .sc (.int .i64 t1)), (15, .sc (.int .i64 s11.2)), (20, .sc v18), (21, .sc (.int .i64 ((s11.1.length : Int)))), (22, .sc (.int .i64 s27.1))] ∧ Ow Y3 S44 3 v23 b ∧ Ow Y3 S44 2 v18 s11.1) b42) ?_ ?_
          · have h := e43
            dsimp only at h ⊢
            refine WC.cond rfl (fun q35 => ?_) (fun q35 => ?_)
            · have h := iteT q35 h
              refine WC.region ?_
              refine WO.mv rfl ?_
              refine WO.mv rfl ?_
              refine WO.bin rfl rfl (by decide) (by decide) rfl ?_
              obtain ⟨x36, e37, h⟩ := bindS h
              refine WO.ixS rfl rfl ho26.slv (at?_lt e37) rfl ?_
              refine WO.ldF rfl ho26.ro (fun _ hi => hi) (at?_get e37) rfl rfl rfl ?_
              refine WO.mv rfl ?_
              refine WO.bin rfl rfl (by decide) (by decide) rfl ?_
              obtain ⟨u38, e39, h⟩ := bindS h
              refine WO.ixS rfl rfl ho26.slv (ck_some e39) rfl ?_
              refine WO.st1 (u' := (wrapA .i64 (x36 + x33))) rfl rfl ho26 (ck_nat e39) rfl rfl (fun S40 c41 ho26 => ?_)
              have ho5 := ho5.to c41
              refine WO.nil ?_
              obtain rfl := someI h
              exact ⟨rfl, ⟨S40, rfl, rfl, (Cov.cons rfl (Cov.cons rfl (Cov.cons rfl (Cov.cons rfl (Cov.cons rfl (Cov.cons rfl (Cov.cons rfl (Cov.cons rfl (Cov.cons rfl (Cov.cons rfl (Cov.nil _))))))))))), ho26, ho5⟩⟩
            · have h := iteF q35 h
              refine WC.skip ?_
              obtain rfl := someI h
              exact ⟨rfl, ⟨S30, rfl, rfl, (Cov.cons rfl (Cov.cons rfl (Cov.cons rfl (Cov.cons rfl (Cov.cons rfl (Cov.cons rfl (Cov.cons rfl (Cov.cons rfl (Cov.cons rfl (Cov.cons rfl (Cov.nil _))))))))))), ho26, ho5⟩⟩
          dsimp only
          rintro _ _ _ _ ⟨rfl, ⟨S45, rfl, rfl, hc46, ho26, ho5⟩⟩
          refine thenL_n ?_
          refine WC.cov hc46 ?_
          refine WC.seq ?_
          refine WC.region ?_
          refine WO.mv rfl ?_
          refine WO.bin rfl rfl (by decide) (by decide) rfl ?_
          refine WO.mv rfl ?_
          refine WO.lenS rfl ho26.slv rfl ?_
          refine WO.bin rfl rfl (by decide) (by decide) rfl ?_
          refine WO.nil ?_
          refine thenL_n ?_
          refine WC.cond rfl (fun q47 => ?_) (fun q47 => ?_)
          · have h := iteT q47 h
            refine WC.region ?_
            refine WO.mv rfl ?_
            refine WO.mv rfl ?_
            refine WO.bin rfl rfl (by decide) (by decide) rfl ?_
            obtain ⟨x48, e49, h⟩ := bindS h
            refine WO.ixS rfl rfl ho26.slv (at?_lt e49) rfl ?_
            refine WO.ldF rfl ho26.ro (fun _ hi => hi) (at?_get e49) rfl rfl rfl ?_
            refine WO.mv rfl ?_
            refine WO.bin rfl rfl (by decide) (by decide) rfl ?_
            obtain ⟨u50, e51, h⟩ := bindS h
            refine WO.ixS rfl rfl ho26.slv (ck_some e51) rfl ?_
            refine WO.st1 (u' := (wrapA .i64 (x48 + x33))) rfl rfl ho26 (ck_nat e51) rfl rfl (fun S52 c53 ho26 => ?_)
            have ho5 := ho5.to c53
            refine WO.nil ?_
            refine blockL_n ?_
            refine thenL_n ?_
            refine WC.region ?_
            refine WO.bin rfl rfl (by decide) (by decide) rfl ?_
            refine WO.mv rfl ?_
            refine WO.nil ?_
            refine thenL_n ?_
            obtain rfl := someI h
            exact ⟨_, rfl, ⟨S52, rfl, rfl, (Cov.cons rfl (Cov.cons rfl (Cov.cons rfl (Cov.cons rfl (Cov.cons rfl (Cov.cons rfl (Cov.cons rfl (Cov.cons rfl (Cov.nil _))))))))), ho26, ho5⟩⟩
          · have h := iteF q47 h
            refine WC.skip ?_
            refine blockL_n ?_
            refine thenL_n ?_
            refine WC.region ?_
            refine WO.bin rfl rfl (by decide) (by decide) rfl ?_
            refine WO.mv rfl ?_
            refine WO.nil ?_
            refine thenL_n ?_
            obtain rfl := someI h
            exact ⟨_, rfl, ⟨S45, rfl, rfl, (Cov.cons rfl (Cov.cons rfl (Cov.cons rfl (Cov.cons rfl (Cov.cons rfl (Cov.cons rfl (Cov.cons rfl (Cov.cons rfl (Cov.nil _))))))))), ho26, ho5⟩⟩
        · have h := iteF q32 h
          refine WC.exit ?_
          refine thenL_e ?_
          refine thenL_e ?_
          obtain rfl := someI h
          exact ⟨_, rfl, rfl, ⟨S30, rfl, rfl, (Cov.cons rfl (Cov.cons rfl (Cov.cons rfl (Cov.cons rfl (Cov.cons rfl (Cov.nil _)))))), ho26⟩⟩
      rintro _ _ _ _ ⟨rfl, ⟨S56, rfl, rfl, hc57, ho26⟩⟩
      refine blockL_s ?_
      refine thenL_n ?_
      refine WC.cov hc57 ?_
      refine WC.region ?_
      refine WO.mv rfl ?_
      refine WO.asg rfl ?_
      refine WO.nil ?_
      refine blockL_n ?_
      refine thenL_n ?_
      refine WC.region ?_
      refine WO.bin rfl rfl (by decide) (by decide) rfl ?_
      refine WO.mv rfl ?_
      refine WO.nil ?_
      refine thenL_n ?_
      have ho26 := ho26.ren (j := 2)
      obtain rfl := someI h
      exact ⟨_, rfl, ⟨(S56.ren 3 2), v23, rfl, rfl, (Cov.cons rfl (Cov.cons rfl (Cov.cons rfl (Cov.cons rfl (Cov.cons rfl (Cov.nil _)))))), ho26⟩⟩
    · have h := iteF q20 h
      refine WC.exit ?_
      refine thenL_e ?_
      refine thenL_e ?_
      obtain rfl := someI h
      exact ⟨_, rfl, rfl, ⟨S17, v18, rfl, rfl, (Cov.cons rfl (Cov.cons rfl (Cov.nil _))), ho5⟩⟩
  rintro _ _ _ _ ⟨rfl, ⟨S60, v61, rfl, rfl, hc62, ho5⟩⟩
  refine blockL_s ?_
  refine thenL_n ?_
  refine WC.cov hc62 ?_
  refine WC.seq ?_
  refine WC.seq ?_
  refine WC.region ?_
  refine WO.mv rfl ?_
  refine WO.mv rfl ?_
  refine WO.lenS rfl ho5.slv rfl ?_
  refine WO.bin rfl rfl (by decide) (by decide) rfl ?_
  refine WO.nil ?_
  refine thenL_n ?_
  refine WC.cond rfl (fun q63 => ?_) (fun q63 => ?_)
  · have h := iteT q63 h
    refine WC.seq ?_
    refine WC.region ?_
    refine WO.asg rfl ?_
    refine WO.nil ?_
    refine thenL_n ?_
    refine WC.ret ?_
    refine thenL_r ?_
    obtain rfl := someI h
    exact ⟨.inr rfl, _, _, rfl, rfl, rfl⟩
  · have h := iteF q63 h
    refine WC.skip ?_
    refine thenL_n ?_
    refine WC.seq ?_
    refine WC.region ?_
    refine WO.mv rfl ?_
    refine WO.mv rfl ?_
    obtain ⟨x64, e65, h⟩ := bindS h
    refine WO.ixS rfl rfl ho5.slv (at?_lt e65) rfl ?_
    refine WO.ldF rfl ho5.ro (fun _ hi => hi) (at?_get e65) rfl rfl rfl ?_
    refine WO.asg rfl ?_
    refine WO.nil ?_
    refine thenL_n ?_
    refine WC.ret ?_
    obtain rfl := someI h
    exact ⟨.inr rfl, _, _, rfl, rfl, rfl⟩
end Go.Proofs.Ytihmliblbhjlaaa

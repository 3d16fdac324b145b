/- The machine answers F107: printed by a program of ours (gen.py). -/
import Derived.Test.YtdkmepeolmdccaaDef
import Derived.Test.YtdkmepeolmdccaaEnv
set_option linter.unusedVariables false
namespace Go.Proofs.Ytdkmepeolmdccaa
open Go.Am
theorem F107.fn : E.fn 107 = some ⟨37, (Try.f107.body.getD .skip), Try.f107.results.toList, []⟩ := rfl
theorem F107_ok {F : Nat} {m : Mem} {n : Nat} {r : (List Int)} {t0 : Int} {t1 : List Int} {vt1 : SV} (h : F107 F t0 t1 = some r) (kt1 : Vw Y3 n m vt1 t1) : Ret E n 107 [.sc (.int .i64 t0), .sc vt1] m n (fun v m' n' => ∃ w, v = .sc w ∧ Fr Y3 n m' n' w r) := by
  unfold F107 at h
  refine Ret.walk F107.fn ?_
  refine WC.start fun S0 em en hz => ?_
  have hot1 := kt1.rdS em hz
  refine WC.seq ?_
  refine WC.region ?_
  refine WO.asg rfl ?_
  refine WO.nil ?_
  refine thenL_n ?_
  refine WC.seq ?_
  refine WC.region ?_
  refine WO.asg rfl ?_
  refine WO.nil ?_
  refine thenL_n ?_
  refine WC.seq ?_
  refine WC.seq ?_
  refine WC.region ?_
  refine WO.mv rfl ?_
  refine WO.mv rfl ?_
  refine WO.lenS rfl hot1.slv rfl ?_
  refine WO.minD rfl rfl ?_
  refine WO.mv rfl ?_
  refine WO.nil ?_
  refine thenL_n ?_
  refine WC.block ?_
  obtain ⟨b34, e35, h⟩ := bindS h
  refine WC.loopD e35 (fun s1 l' m' n' => ∃ S3 : Cx n, ∃ v4 : SV, S3.m = m' ∧ S3.n = n' ∧ Cov l' [(0, .sc (.int .i64 t0)), (1, .sc vt1), (5, .sc v4), (12, .sc (.int .i64 ((minI t0 (t1.length : Int))))), (13, .sc (.int .i64 s1.2))] ∧ Rd Y3 S3 vt1 t1 ∧ Ow Y3 S3 2 v4 s1.1) (fun b e l' m' n' => e = .exit 0 ∧ ∃ S5 : Cx n, ∃ v6 : SV, S5.m = m' ∧ S5.n = n' ∧ Cov l' [(5, .sc v6)] ∧ Ow Y3 S5 2 v6 b) (by exact ⟨S0, .nils, rfl, rfl, (Cov.cons rfl (Cov.cons rfl (Cov.cons rfl (Cov.cons rfl (Cov.cons rfl (Cov.nil _)))))), hot1, Ow.nil⟩) ?_ ?_
  · clear h
    rintro s1 q _ _ _ ⟨S7, v8, rfl, rfl, hc9, hot1, ho5⟩ h
    unfold F107_l1 at h
    refine WC.cov hc9 ?_
    refine WC.seq ?_
    refine WC.region ?_
    refine WO.bin rfl rfl (by decide) (by decide) rfl ?_
    refine WO.nil ?_
    refine thenL_n ?_
    refine WC.seq ?_
    refine WC.cond rfl (fun q10 => ?_) (fun q10 => ?_)
    · have h := iteT q10 h
      refine WC.skip ?_
      refine thenL_n ?_
      refine WC.seq ?_
      refine WC.block ?_
      refine WC.seq ?_
      refine WC.region ?_
      refine WO.mv rfl ?_
      refine WO.asg rfl ?_
      refine WO.nil ?_
      refine thenL_n ?_
      refine WC.seq ?_
      refine WC.region ?_
      refine WO.mv rfl ?_
      refine WO.asg rfl ?_
      refine WO.nil ?_
      refine thenL_n ?_
      refine WC.seq ?_
      refine WC.seq ?_
      refine WC.region ?_
      refine WO.mv rfl ?_
      refine WO.asg rfl ?_
      refine WO.nil ?_
      refine thenL_n ?_
      refine WC.block ?_
      obtain ⟨b20, e21, h⟩ := bindS h
      refine WC.loopD e21 (fun s11 l' m' n' => ∃ S12 : Cx n, S12.m = m' ∧ S12.n = n' ∧ Cov l' [(0, .sc (.int .i64 t0)), (1, .sc vt1), (5, .sc v8), (6, .sc (.int .i64 s1.2)), (7, .sc (.int .i64 s11.1)), (8, .sc (.int .i64 s11.2)), (12, .sc (.int .i64 ((minI t0 (t1.length : Int))))), (13, .sc (.int .i64 s1.2))] ∧ Rd Y3 S12 vt1 t1 ∧ Ow Y3 S12 2 v8 s1.1) (fun b e l' m' n' => e = .exit 2 ∧ ∃ S13 : Cx n, S13.m = m' ∧ S13.n = n' ∧ Cov l' [(0, .sc (.int .i64 t0)), (1, .sc vt1), (5, .sc v8), (7, .sc (.int .i64 b)), (12, .sc (.int .i64 ((minI t0 (t1.length : Int))))), (13, .sc (.int .i64 s1.2))] ∧ Rd Y3 S13 vt1 t1 ∧ Ow Y3 S13 2 v8 s1.1) (by exact ⟨S7, rfl, rfl, (Cov.cons rfl (Cov.cons rfl (Cov.cons rfl (Cov.cons rfl (Cov.cons rfl (Cov.cons rfl (Cov.cons rfl (Cov.cons rfl (Cov.nil _))))))))), hot1, ho5⟩) ?_ ?_
      · clear h
        rintro s11 q _ _ _ ⟨S14, rfl, rfl, hc15, hot1, ho5⟩ h
        unfold F107_l0 at h
        refine WC.cov hc15 ?_
        refine WC.seq ?_
        refine WC.seq ?_
        refine WC.region ?_
        refine WO.mv rfl ?_
        refine WO.mv rfl ?_
        refine WO.lenS rfl hot1.slv rfl ?_
        refine WO.bin rfl rfl (by decide) (by decide) rfl ?_
        refine WO.nil ?_
        refine thenL_n ?_
        refine WC.cond rfl (fun q16 => ?_) (fun q16 => ?_)
        · have h := iteT q16 h
          refine WC.skip ?_
          refine thenL_n ?_
          refine WC.seq ?_
          refine WC.block ?_
          refine WC.seq ?_
          refine WC.region ?_
          refine WO.mv rfl ?_
          refine WO.mv rfl ?_
          obtain ⟨x17, e18, h⟩ := bindS h
          refine WO.ixS rfl rfl hot1.slv (at?_lt e18) rfl ?_
          refine WO.ldF rfl hot1.ro (fun _ hi => hi) (at?_get e18) rfl rfl rfl ?_
          refine WO.mv rfl ?_
          refine WO.bin rfl rfl (by decide) (by decide) rfl ?_
          refine WO.nil ?_
          refine thenL_n ?_
          refine WC.cond rfl (fun q19 => ?_) (fun q19 => ?_)
          · have h := iteT q19 h
            refine WC.region ?_
            refine WO.mv rfl ?_
            refine WO.asg rfl ?_
            refine WO.nil ?_
            refine blockL_n ?_
            refine thenL_n ?_
            refine WC.region ?_
            refine WO.mv rfl ?_
            refine WO.bin rfl rfl (by decide) (by decide) rfl ?_
            refine WO.asg rfl ?_
            refine WO.nil ?_
            refine thenL_n ?_
            obtain rfl := someI h
            exact ⟨_, rfl, ⟨S14, rfl, rfl, (Cov.cons rfl (Cov.cons rfl (Cov.cons rfl (Cov.cons rfl (Cov.cons rfl (Cov.cons rfl (Cov.cons rfl (Cov.cons rfl (Cov.nil _))))))))), hot1, ho5⟩⟩
          · have h := iteF q19 h
            refine WC.skip ?_
            refine blockL_n ?_
            refine thenL_n ?_
            refine WC.region ?_
            refine WO.mv rfl ?_
            refine WO.bin rfl rfl (by decide) (by decide) rfl ?_
            refine WO.asg rfl ?_
            refine WO.nil ?_
            refine thenL_n ?_
            obtain rfl := someI h
            exact ⟨_, rfl, ⟨S14, rfl, rfl, (Cov.cons rfl (Cov.cons rfl (Cov.cons rfl (Cov.cons rfl (Cov.cons rfl (Cov.cons rfl (Cov.cons rfl (Cov.cons rfl (Cov.nil _))))))))), hot1, ho5⟩⟩
        · have h := iteF q16 h
          refine WC.exit ?_
          refine thenL_e ?_
          refine thenL_e ?_
          obtain rfl := someI h
          exact ⟨_, rfl, rfl, ⟨S14, rfl, rfl, (Cov.cons rfl (Cov.cons rfl (Cov.cons rfl (Cov.cons rfl (Cov.cons rfl (Cov.cons rfl (Cov.nil _))))))), hot1, ho5⟩⟩
      rintro _ _ _ _ ⟨rfl, ⟨S22, rfl, rfl, hc23, hot1, ho5⟩⟩
      refine blockL_s ?_
      refine thenL_n ?_
      refine WC.cov hc23 ?_
      refine WC.region ?_
      refine WO.mv rfl ?_
      refine WO.mv rfl ?_
      refine WO.bsS (A := Y3) (S := S22) (M := [b20]) (cs := [.int .i64 b20]) 3 rfl rfl rfl ⟨[.int .i64 b20], _, rfl, rfl, rfl⟩ rfl (fun v24 S25 c26 ho27 => ?_)
      have hot1 := hot1.to c26
      have ho5 := ho5.to c26
      obtain ⟨L28, e29, h⟩ := bindS h
      refine WO.appS rfl rfl ho5 ho27.ro e29 rfl rfl (fun v30 S31 c32 ho33 => ?_)
      have hot1 := hot1.to c32
      have ho27 := ho27.to c32
      refine WO.asg rfl ?_
      refine WO.nil ?_
      refine blockL_n ?_
      refine thenL_n ?_
      refine WC.region ?_
      refine WO.bin rfl rfl (by decide) (by decide) rfl ?_
      refine WO.mv rfl ?_
      refine WO.nil ?_
      refine thenL_n ?_
      obtain rfl := someI h
      exact ⟨_, rfl, ⟨S31, v30, rfl, rfl, (Cov.cons rfl (Cov.cons rfl (Cov.cons rfl (Cov.cons rfl (Cov.cons rfl (Cov.nil _)))))), hot1, ho33⟩⟩
    · have h := iteF q10 h
      refine WC.exit ?_
      refine thenL_e ?_
      refine thenL_e ?_
      obtain rfl := someI h
      exact ⟨_, rfl, rfl, ⟨S7, v8, rfl, rfl, (Cov.cons rfl (Cov.nil _)), ho5⟩⟩
  rintro _ _ _ _ ⟨rfl, ⟨S36, v37, rfl, rfl, hc38, ho5⟩⟩
  refine blockL_s ?_
  refine thenL_n ?_
  refine WC.cov hc38 ?_
  refine WC.seq ?_
  refine WC.region ?_
  refine WO.mv rfl ?_
  refine WO.asg rfl ?_
  refine WO.nil ?_
  refine thenL_n ?_
  refine WC.ret ?_
  obtain rfl := someI h
  exact ⟨.inr rfl, _, _, rfl, rfl, ⟨v37, rfl, (ho5.fr Lay.flat_fl)⟩⟩
end Go.Proofs.Ytdkmepeolmdccaa

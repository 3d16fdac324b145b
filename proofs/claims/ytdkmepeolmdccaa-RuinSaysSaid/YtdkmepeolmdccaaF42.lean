/- The machine answers F42: printed by a program of ours (gen.py). -/
import Derived.Test.YtdkmepeolmdccaaDef
import Derived.Test.YtdkmepeolmdccaaEnv
import Derived.Test.YtdkmepeolmdccaaF109
import Derived.Test.YtdkmepeolmdccaaF118
import Derived.Test.YtdkmepeolmdccaaF44
set_option linter.unusedVariables false
namespace Go.Proofs.Ytdkmepeolmdccaa
open Go.Am
theorem F42.fn : E.fn 42 = some ⟨72, (Try.f42.body.getD .skip), Try.f42.results.toList, []⟩ := rfl
theorem F42_ok {F : Nat} {m : Mem} {n : Nat} {r : (Int × Int) × Int} {t0 : Int} {t1 : Int} {t2 : Int} {t3 : Int} (h : F42 F t0 t1 t2 t3 = some r)  : Ret E n 42 [.sc (.int .i64 t0), .sc (.int .i64 t1), .sc (.int .i64 t2), .sc (.int .i64 t3)] m n (fun v m' n' => v = .tup [.agg [.int .i64 r.1.1, .int .i64 r.1.2], .sc (.int .i64 r.2)]) := by
  unfold F42 at h
  refine Ret.walk F42.fn ?_
  refine WC.start fun S0 em en hz => ?_
  refine WC.seq ?_
  refine WC.region ?_
  refine WO.alS (A := Y26) (S := S0) (z0 := (0, 0)) 2 rfl rfl rfl (fun v1 S2 c3 ho4 => ?_)
  refine WO.asg rfl ?_
  refine WO.nil ?_
  refine thenL_n ?_
  refine WC.seq ?_
  refine WC.seq ?_
  refine WC.region ?_
  refine WO.mv rfl ?_
  refine WO.mv rfl ?_
  refine WO.mv rfl ?_
  refine WO.mv rfl ?_
  obtain ⟨r5, e6, h⟩ := bindS h
  refine WO.callE (S := S2) rfl rfl (F44_ok e6) (fun S7 c8 => ?_)
  have ho4 := ho4.to c8
  refine WO.asg rfl ?_
  refine WO.nil ?_
  refine thenL_n ?_
  refine WC.seq ?_
  refine WC.region ?_
  refine WO.mv rfl ?_
  refine WO.bin rfl rfl (by decide) (by decide) rfl ?_
  refine WO.nil ?_
  refine thenL_n ?_
  refine WC.cond rfl (fun q9 => ?_) (fun q9 => ?_)
  · have h := iteT q9 h
    refine WC.seq ?_
    refine WC.region ?_
    refine WO.do rfl rfl ?_
    refine WO.mv rfl ?_
    refine WO.stBA (u' := (0, 0)) rfl ho4.at0 rfl ho4 rfl rfl (fun S10 c11 ho4 => ?_)
    refine WO.asg rfl ?_
    refine WO.nil ?_
    refine thenL_n ?_
    refine WC.ret ?_
    refine thenL_r ?_
    have hcell := ho4
    obtain rfl := someI h
    exact ⟨.inr rfl, _, _, (resK_c2 hcell (Cov.refl _) rfl rfl rfl), rfl, rfl⟩
  · have h := iteF q9 h
    refine WC.skip ?_
    refine thenL_n ?_
    refine WC.seq ?_
    refine WC.region ?_
    refine WO.asg rfl ?_
    refine WO.asg rfl ?_
    refine WO.nil ?_
    refine thenL_n ?_
    refine WC.seq ?_
    refine WC.seq ?_
    refine WC.region ?_
    refine WO.mv rfl ?_
    refine WO.mv rfl ?_
    refine WO.nil ?_
    refine thenL_n ?_
    refine WC.block ?_
    obtain ⟨b27, e28, h⟩ := bindS h
    refine WC.loopD e28 (fun s12 l' m' n' => ∃ S13 : Cx n, S13.m = m' ∧ S13.n = n' ∧ Cov l' [(0, .sc (.int .i64 t0)), (1, .sc (.int .i64 t1)), (2, .sc (.int .i64 t2)), (3, .sc (.int .i64 t3)), (8, .sc v1), (11, .sc (.int .i64 s12.1)), (12, .sc (.int .i64 s12.2.1)), (26, .sc (.int .i64 t1)), (27, .sc (.int .i64 s12.2.2))] ∧ Bk Y26 S13 2 v1 ((0, 0))) (fun b e l' m' n' => e = .exit 0 ∧ ∃ S14 : Cx n, S14.m = m' ∧ S14.n = n' ∧ Cov l' [(8, .sc v1), (11, .sc (.int .i64 b.1)), (12, .sc (.int .i64 b.2))] ∧ Bk Y26 S14 2 v1 ((0, 0))) (by exact ⟨S7, rfl, rfl, (Cov.cons rfl (Cov.cons rfl (Cov.cons rfl (Cov.cons rfl (Cov.cons rfl (Cov.cons rfl (Cov.cons rfl (Cov.cons rfl (Cov.cons rfl (Cov.nil _)))))))))), ho4⟩) ?_ ?_
    · clear h
      rintro s12 q _ _ _ ⟨S15, rfl, rfl, hc16, ho4⟩ h
      unfold F42_l0 at h
      refine WC.cov hc16 ?_
      refine WC.seq ?_
      refine WC.region ?_
      refine WO.bin rfl rfl (by decide) (by decide) rfl ?_
      refine WO.nil ?_
      refine thenL_n ?_
      refine WC.seq ?_
      refine WC.cond rfl (fun q17 => ?_) (fun q17 => ?_)
      · have h := iteT q17 h
        refine WC.skip ?_
        refine thenL_n ?_
        refine WC.seq ?_
        refine WC.block ?_
        refine WC.seq ?_
        refine WC.region ?_
        refine WO.mv rfl ?_
        refine WO.asg rfl ?_
        refine WO.nil ?_
        refine thenL_n ?_
        refine WC.seq ?_
        refine WC.region ?_
        refine WO.mv rfl ?_
        refine WO.mv rfl ?_
        obtain ⟨r18, e19, h⟩ := bindS h
        refine WO.callE (S := S15) rfl rfl (F118_ok e19) (fun S20 c21 => ?_)
        have ho4 := ho4.to c21
        refine WO.mv rfl ?_
        refine WO.mv rfl ?_
        refine WO.bin rfl rfl (by decide) (by decide) rfl ?_
        refine WO.mv rfl ?_
        refine WO.bin rfl rfl (by decide) (by decide) rfl ?_
        obtain ⟨r22, e23, h⟩ := bindS h
        refine WO.callE (S := S20) rfl rfl (F118_ok e23) (fun S24 c25 => ?_)
        have ho4 := ho4.to c25
        refine WO.bin rfl rfl (by decide) (by decide) rfl ?_
        refine WO.asg rfl ?_
        refine WO.nil ?_
        refine thenL_n ?_
        refine WC.seq ?_
        refine WC.region ?_
        refine WO.mv rfl ?_
        refine WO.mv rfl ?_
        refine WO.bin rfl rfl (by decide) (by decide) rfl ?_
        refine WO.asg rfl ?_
        refine WO.nil ?_
        refine thenL_n ?_
        refine WC.seq ?_
        refine WC.region ?_
        refine WO.mv rfl ?_
        refine WO.mv rfl ?_
        refine WO.bin rfl rfl (by decide) (by decide) rfl ?_
        refine WO.nil ?_
        refine thenL_n ?_
        refine WC.cond rfl (fun q26 => ?_) (fun q26 => ?_)
        · have h := iteT q26 h
          refine WC.region ?_
          refine WO.mv rfl ?_
          refine WO.mv rfl ?_
          refine WO.bin rfl rfl (by decide) (by decide) rfl ?_
          refine WO.asg rfl ?_
          refine WO.nil ?_
          refine blockL_n ?_
          refine thenL_n ?_
          refine WC.region ?_
          refine WO.bin rfl rfl (by decide) (by decide) rfl ?_
          refine WO.mv rfl ?_
          refine WO.nil ?_
          refine thenL_n ?_
          obtain rfl := someI h
          exact ⟨_, rfl, ⟨S24, rfl, rfl, (Cov.cons rfl (Cov.cons rfl (Cov.cons rfl (Cov.cons rfl (Cov.cons rfl (Cov.cons rfl (Cov.cons rfl (Cov.cons rfl (Cov.cons rfl (Cov.nil _)))))))))), ho4⟩⟩
        · have h := iteF q26 h
          refine WC.skip ?_
          refine blockL_n ?_
          refine thenL_n ?_
          refine WC.region ?_
          refine WO.bin rfl rfl (by decide) (by decide) rfl ?_
          refine WO.mv rfl ?_
          refine WO.nil ?_
          refine thenL_n ?_
          obtain rfl := someI h
          exact ⟨_, rfl, ⟨S24, rfl, rfl, (Cov.cons rfl (Cov.cons rfl (Cov.cons rfl (Cov.cons rfl (Cov.cons rfl (Cov.cons rfl (Cov.cons rfl (Cov.cons rfl (Cov.cons rfl (Cov.nil _)))))))))), ho4⟩⟩
      · have h := iteF q17 h
        refine WC.exit ?_
        refine thenL_e ?_
        refine thenL_e ?_
        obtain rfl := someI h
        exact ⟨_, rfl, rfl, ⟨S15, rfl, rfl, (Cov.cons rfl (Cov.cons rfl (Cov.cons rfl (Cov.nil _)))), ho4⟩⟩
    rintro _ _ _ _ ⟨rfl, ⟨S29, rfl, rfl, hc30, ho4⟩⟩
    refine blockL_s ?_
    refine thenL_n ?_
    refine WC.cov hc30 ?_
    refine WC.seq ?_
    refine WC.region ?_
    refine WO.mv rfl ?_
    refine WO.mv rfl ?_
    refine WO.asg rfl ?_
    refine WO.asg rfl ?_
    refine WO.nil ?_
    refine thenL_n ?_
    refine WC.block ?_
    obtain ⟨b54, e55, h⟩ := bindS h
    refine WC.loopD e55 (fun s31 l' m' n' => ∃ S32 : Cx n, S32.m = m' ∧ S32.n = n' ∧ Cov l' [(8, .sc v1), (11, .sc (.int .i64 b27.1)), (12, .sc (.int .i64 b27.2)), (15, .sc (.int .i64 s31.1)), (16, .sc (.int .i64 s31.2.1))] ∧ Bk Y26 S32 2 v1 s31.2.2) (fun b e l' m' n' => e = .ret ∧ ∃ S33 : Cx n, S33.m = m' ∧ S33.n = n' ∧ Cov l' [(8, .sc v1), (9, .sc (.int .i64 b.1))] ∧ Bk Y26 S33 2 v1 b.2) (by exact ⟨S29, rfl, rfl, (Cov.cons rfl (Cov.cons rfl (Cov.cons rfl (Cov.cons rfl (Cov.cons rfl (Cov.nil _)))))), ho4⟩) ?_ ?_
    · clear h
      rintro s31 q _ _ _ ⟨S34, rfl, rfl, hc35, ho4⟩ h
      unfold F42_l1 at h
      refine WC.cov hc35 ?_
      refine WC.block ?_
      refine WC.seq ?_
      refine WC.seq ?_
      refine WC.region ?_
      refine WO.mv rfl ?_
      refine WO.bin rfl rfl (by decide) (by decide) rfl ?_
      refine WO.nil ?_
      refine thenL_n ?_
      refine WC.cond rfl (fun q36 => ?_) (fun q36 => ?_)
      · have h := iteT q36 h
        refine WC.seq ?_
        refine WC.seq ?_
        refine WC.region ?_
        refine WO.mv rfl ?_
        refine WO.mv rfl ?_
        obtain ⟨x37, e38, h⟩ := bindS h
        refine WO.quoD rfl rfl e38 ?_
        refine WO.bin rfl rfl (by decide) (by decide) rfl ?_
        refine WO.nil ?_
        refine thenL_n ?_
        refine WC.cond rfl (fun q39 => ?_) (fun q39 => ?_)
        · have h := iteT q39 h
          refine WC.seq ?_
          refine WC.region ?_
          refine WO.do rfl rfl ?_
          refine WO.stBA (u' := (0, 0)) rfl ho4.at0 rfl ho4 rfl rfl (fun S40 c41 ho4 => ?_)
          refine WO.asg rfl ?_
          refine WO.nil ?_
          refine thenL_n ?_
          refine WC.ret ?_
          refine thenL_r ?_
          refine thenL_r ?_
          refine blockL_r ?_
          refine thenL_r ?_
          obtain rfl := someI h
          exact ⟨_, rfl, rfl, ⟨S40, rfl, rfl, (Cov.cons rfl (Cov.cons rfl (Cov.nil _))), ho4⟩⟩
        · have h := iteF q39 h
          refine WC.skip ?_
          refine thenL_n ?_
          refine WC.seq ?_
          refine WC.drawN rfl ?_
          refine WO.mv rfl ?_
          refine WO.mv rfl ?_
          obtain ⟨x42, e43, h⟩ := bindS h
          refine WO.quoD rfl rfl e43 ?_
          refine WO.mv rfl ?_
          refine WO.mv rfl ?_
          obtain ⟨x44, e45, h⟩ := bindS h
          refine WO.quoD rfl rfl e45 ?_
          obtain ⟨r46, e47, h⟩ := bindS h
          refine WO.callE (S := S34) rfl rfl (F109_ok e47) (fun S48 c49 => ?_)
          have ho4 := ho4.to c49
          refine WO.do rfl rfl ?_
          refine WO.do rfl rfl ?_
          refine WO.stBA (u' := (r46.1.1, r46.1.2)) rfl ho4.at0 rfl ho4 rfl rfl (fun S50 c51 ho4 => ?_)
          refine WO.asg rfl ?_
          refine WO.nil ?_
          refine thenL_n ?_
          refine WC.ret ?_
          refine thenL_r ?_
          refine blockL_r ?_
          refine thenL_r ?_
          obtain rfl := someI h
          exact ⟨_, rfl, rfl, ⟨S50, rfl, rfl, (Cov.cons rfl (Cov.cons rfl (Cov.nil _))), ho4⟩⟩
      · have h := iteF q36 h
        refine WC.skip ?_
        refine thenL_n ?_
        refine WC.drawP rfl ?_
        refine WO.mv rfl ?_
        refine WO.mv rfl ?_
        refine WO.mv rfl ?_
        obtain ⟨x52, e53, h⟩ := bindS h
        refine WO.remD rfl rfl e53 ?_
        refine WO.asg rfl ?_
        refine WO.asg rfl ?_
        refine WO.nil ?_
        refine blockL_n ?_
        refine thenL_n ?_
        obtain rfl := someI h
        exact ⟨_, rfl, ⟨S34, rfl, rfl, (Cov.cons rfl (Cov.cons rfl (Cov.cons rfl (Cov.cons rfl (Cov.cons rfl (Cov.nil _)))))), ho4⟩⟩
    rintro _ _ _ _ ⟨rfl, ⟨S56, rfl, rfl, hc57, ho4⟩⟩
    refine blockL_r ?_
    have hcell := ho4
    obtain rfl := someI h
    exact ⟨.inr rfl, _, _, (resK_c2 hcell hc57 rfl rfl rfl), rfl, rfl⟩
end Go.Proofs.Ytdkmepeolmdccaa

/- The machine answers F45: printed by a program of ours (gen.py). -/
import Derived.Test.YtdkmepeolmdccaaDef
import Derived.Test.YtdkmepeolmdccaaEnv
import Derived.Test.YtdkmepeolmdccaaF114
set_option linter.unusedVariables false
namespace Go.Proofs.Ytdkmepeolmdccaa
open Go.Am
theorem F45.fn : E.fn 45 = some ⟨55, (Try.f45.body.getD .skip), Try.f45.results.toList, []⟩ := rfl
theorem F45_ok {F : Nat} {m : Mem} {n : Nat} {r : (Int × Int) × Int} {t0 : Int} {t1 : Int} {t2 : Int} {t3 : Int} (h : F45 F t0 t1 t2 t3 = some r)  : Ret E n 45 [.sc (.int .i64 t0), .sc (.int .i64 t1), .sc (.int .i64 t2), .sc (.int .i64 t3)] m n (fun v m' n' => v = .tup [.agg [.int .i64 r.1.1, .int .i64 r.1.2], .sc (.int .i64 r.2)]) := by
  unfold F45 at h
  refine Ret.walk F45.fn ?_
  refine WC.start fun S0 em en hz => ?_
  refine WC.seq ?_
  refine WC.region ?_
  refine WO.alS (A := Y26) (S := S0) (z0 := (0, 0)) 2 rfl rfl rfl (fun v1 S2 c3 ho4 => ?_)
  refine WO.asg rfl ?_
  refine WO.nil ?_
  refine thenL_n ?_
  refine WC.seq ?_
  refine WC.region ?_
  refine WO.mv rfl ?_
  refine WO.bin rfl rfl (by decide) (by decide) rfl ?_
  obtain ⟨L5, e6, h⟩ := bindS h
  refine WO.mkS (A := Y3) (S := S2) 3 rfl rfl e6 rfl rfl rfl (fun v7 S8 c9 ho10 => ?_)
  have ho4 := ho4.to c9
  refine WO.asg rfl ?_
  refine WO.asg rfl ?_
  refine WO.nil ?_
  refine thenL_n ?_
  refine WC.seq ?_
  refine WC.seq ?_
  refine WC.region ?_
  refine WO.mv rfl ?_
  refine WO.bin rfl rfl (by decide) (by decide) rfl ?_
  refine WO.mv rfl ?_
  refine WO.nil ?_
  refine thenL_n ?_
  refine WC.block ?_
  obtain ⟨b17, e18, h⟩ := bindS h
  refine WC.loopD e18 (fun s11 l' m' n' => ∃ S12 : Cx n, S12.m = m' ∧ S12.n = n' ∧ Cov l' [(0, .sc (.int .i64 t0)), (1, .sc (.int .i64 t1)), (2, .sc (.int .i64 t2)), (3, .sc (.int .i64 t3)), (8, .sc v1), (10, .sc v7), (11, .sc (.int .i64 s11.1)), (17, .sc (.int .i64 ((wrapA .i64 (t1 - 1))))), (18, .sc (.int .i64 s11.2))] ∧ Bk Y26 S12 2 v1 ((0, 0)) ∧ Ow Y3 S12 3 v7 L5) (fun b e l' m' n' => e = .exit 0 ∧ ∃ S13 : Cx n, S13.m = m' ∧ S13.n = n' ∧ Cov l' [(0, .sc (.int .i64 t0)), (1, .sc (.int .i64 t1)), (2, .sc (.int .i64 t2)), (3, .sc (.int .i64 t3)), (8, .sc v1), (10, .sc v7), (11, .sc (.int .i64 b))] ∧ Bk Y26 S13 2 v1 ((0, 0)) ∧ Ow Y3 S13 3 v7 L5) (by exact ⟨S8, rfl, rfl, (Cov.cons rfl (Cov.cons rfl (Cov.cons rfl (Cov.cons rfl (Cov.cons rfl (Cov.cons rfl (Cov.cons rfl (Cov.cons rfl (Cov.cons rfl (Cov.nil _)))))))))), ho4, ho10⟩) ?_ ?_
  · clear h
    rintro s11 q _ _ _ ⟨S14, rfl, rfl, hc15, ho4, ho10⟩ h
    unfold F45_l0 at h
    refine WC.cov hc15 ?_
    refine WC.seq ?_
    refine WC.region ?_
    refine WO.bin rfl rfl (by decide) (by decide) rfl ?_
    refine WO.nil ?_
    refine thenL_n ?_
    refine WC.seq ?_
    refine WC.cond rfl (fun q16 => ?_) (fun q16 => ?_)
    · have h := iteT q16 h
      refine WC.skip ?_
      refine thenL_n ?_
      refine WC.seq ?_
      refine WC.block ?_
      refine WC.region ?_
      refine WO.mv rfl ?_
      refine WO.mv rfl ?_
      refine WO.bin rfl rfl (by decide) (by decide) rfl ?_
      refine WO.asg rfl ?_
      refine WO.nil ?_
      refine blockL_n ?_
      refine thenL_n ?_
      refine WC.region ?_
      refine WO.bin rfl rfl (by decide) (by decide) rfl ?_
      refine WO.mv rfl ?_
      refine WO.nil ?_
      refine thenL_n ?_
      obtain rfl := someI h
      exact ⟨_, rfl, ⟨S14, rfl, rfl, (Cov.cons rfl (Cov.cons rfl (Cov.cons rfl (Cov.cons rfl (Cov.cons rfl (Cov.cons rfl (Cov.cons rfl (Cov.cons rfl (Cov.cons rfl (Cov.nil _)))))))))), ho4, ho10⟩⟩
    · have h := iteF q16 h
      refine WC.exit ?_
      refine thenL_e ?_
      refine thenL_e ?_
      obtain rfl := someI h
      exact ⟨_, rfl, rfl, ⟨S14, rfl, rfl, (Cov.cons rfl (Cov.cons rfl (Cov.cons rfl (Cov.cons rfl (Cov.cons rfl (Cov.cons rfl (Cov.cons rfl (Cov.nil _)))))))), ho4, ho10⟩⟩
  rintro _ _ _ _ ⟨rfl, ⟨S19, rfl, rfl, hc20, ho4, ho10⟩⟩
  refine blockL_s ?_
  refine thenL_n ?_
  refine WC.cov hc20 ?_
  refine WC.seq ?_
  refine WC.seq ?_
  refine WC.region ?_
  refine WO.asg rfl ?_
  refine WO.nil ?_
  refine thenL_n ?_
  refine WC.block ?_
  obtain ⟨b35, e36, h⟩ := bindS h
  refine WC.loopD e36 (fun s21 l' m' n' => ∃ S22 : Cx n, S22.m = m' ∧ S22.n = n' ∧ Cov l' [(0, .sc (.int .i64 t0)), (1, .sc (.int .i64 t1)), (2, .sc (.int .i64 t2)), (3, .sc (.int .i64 t3)), (8, .sc v1), (10, .sc v7), (11, .sc (.int .i64 s21.1)), (12, .sc (.int .i64 s21.2.1))] ∧ Bk Y26 S22 2 v1 ((0, 0)) ∧ Ow Y3 S22 3 v7 s21.2.2) (fun b e l' m' n' => e = .exit 2 ∧ ∃ S23 : Cx n, S23.m = m' ∧ S23.n = n' ∧ Cov l' [(0, .sc (.int .i64 t0)), (1, .sc (.int .i64 t1)), (8, .sc v1), (10, .sc v7)] ∧ Bk Y26 S23 2 v1 ((0, 0)) ∧ Ow Y3 S23 3 v7 b) (by exact ⟨S19, rfl, rfl, (Cov.cons rfl (Cov.cons rfl (Cov.cons rfl (Cov.cons rfl (Cov.cons rfl (Cov.cons rfl (Cov.cons rfl (Cov.cons rfl (Cov.nil _))))))))), ho4, ho10⟩) ?_ ?_
  · clear h
    rintro s21 q _ _ _ ⟨S24, rfl, rfl, hc25, ho4, ho10⟩ h
    unfold F45_l1 at h
    refine WC.cov hc25 ?_
    refine WC.seq ?_
    refine WC.seq ?_
    refine WC.region ?_
    refine WO.mv rfl ?_
    refine WO.mv rfl ?_
    refine WO.bin rfl rfl (by decide) (by decide) rfl ?_
    refine WO.nil ?_
    refine thenL_n ?_
    refine WC.cond rfl (fun q26 => ?_) (fun q26 => ?_)
    · have h := iteT q26 h
      refine WC.skip ?_
      refine thenL_n ?_
      refine WC.seq ?_
      refine WC.block ?_
      refine WC.seq ?_
      refine WC.region ?_
      refine WO.mv rfl ?_
      refine WO.mv rfl ?_
      refine WO.mv rfl ?_
      refine WO.mv rfl ?_
      refine WO.bin rfl rfl (by decide) (by decide) rfl ?_
      obtain ⟨x27, e28, h⟩ := bindS h
      refine WO.ixS rfl rfl ho10.slv (at?_lt e28) rfl ?_
      refine WO.ldF rfl ho10.ro (fun _ hi => hi) (at?_get e28) rfl rfl rfl ?_
      refine WO.mv rfl ?_
      refine WO.bin rfl rfl (by decide) (by decide) rfl ?_
      obtain ⟨u29, e30, h⟩ := bindS h
      refine WO.ixS rfl rfl ho10.slv (ck_some e30) rfl ?_
      refine WO.st1 (u' := (wrapA .i64 (x27 + s21.1))) rfl rfl ho10 (ck_nat e30) rfl rfl (fun S31 c32 ho10 => ?_)
      have ho4 := ho4.to c32
      refine WO.nil ?_
      refine thenL_n ?_
      refine WC.region ?_
      refine WO.mv rfl ?_
      refine WO.mv rfl ?_
      obtain ⟨x33, e34, h⟩ := bindS h
      refine WO.quoD rfl rfl e34 ?_
      refine WO.mv rfl ?_
      refine WO.bin rfl rfl (by decide) (by decide) rfl ?_
      refine WO.asg rfl ?_
      refine WO.nil ?_
      refine blockL_n ?_
      refine thenL_n ?_
      refine WC.region ?_
      refine WO.mv rfl ?_
      refine WO.bin rfl rfl (by decide) (by decide) rfl ?_
      refine WO.asg rfl ?_
      refine WO.nil ?_
      refine thenL_n ?_
      obtain rfl := someI h
      exact ⟨_, rfl, ⟨S31, rfl, rfl, (Cov.cons rfl (Cov.cons rfl (Cov.cons rfl (Cov.cons rfl (Cov.cons rfl (Cov.cons rfl (Cov.cons rfl (Cov.cons rfl (Cov.nil _))))))))), ho4, ho10⟩⟩
    · have h := iteF q26 h
      refine WC.exit ?_
      refine thenL_e ?_
      refine thenL_e ?_
      obtain rfl := someI h
      exact ⟨_, rfl, rfl, ⟨S24, rfl, rfl, (Cov.cons rfl (Cov.cons rfl (Cov.cons rfl (Cov.cons rfl (Cov.nil _))))), ho4, ho10⟩⟩
  rintro _ _ _ _ ⟨rfl, ⟨S37, rfl, rfl, hc38, ho4, ho10⟩⟩
  refine blockL_s ?_
  refine thenL_n ?_
  refine WC.cov hc38 ?_
  refine WC.seq ?_
  refine WC.drawN rfl ?_
  have ho10z := ho10.oz
  refine WO.mv rfl ?_
  refine WO.mv rfl ?_
  obtain ⟨x39, e40, h⟩ := bindS h
  refine WO.ixS rfl rfl ho10.slv (at?_lt e40) rfl ?_
  refine WO.ldF rfl ho10z (fun _ hi => hi.1) (at?_get e40) rfl rfl (limLe_self _) ?_
  refine WO.mv rfl ?_
  refine WO.mv rfl ?_
  obtain ⟨x41, e42, h⟩ := bindS h
  refine WO.ixS rfl rfl ho10.slv (at?_lt e42) rfl ?_
  refine WO.ldF rfl ho10z (fun _ hi => hi.1) (at?_get e42) rfl rfl (limLe_self _) ?_
  obtain ⟨r43, e44, h⟩ := bindS h
  refine WO.callE (S := S37) rfl rfl (F114_ok e44) (fun S45 c46 => ?_)
  have ho10z := ho10z.tow c46
  have ho4 := ho4.to c46
  have ho10 := ho10.to c46
  refine WO.do rfl rfl ?_
  refine WO.do rfl rfl ?_
  refine WO.stBA (u' := (r43.1.1, r43.1.2)) rfl ho4.at0 rfl ho4 rfl rfl (fun S47 c48 ho4 => ?_)
  have ho10z := ho10z.tow c48
  have ho10 := ho10.to c48
  refine WO.asg rfl ?_
  refine WO.nil ?_
  refine thenL_n ?_
  refine WC.ret ?_
  have hcell := ho4
  obtain rfl := someI h
  exact ⟨.inr rfl, _, _, (resK_c2 hcell (Cov.refl _) rfl rfl rfl), rfl, rfl⟩
end Go.Proofs.Ytdkmepeolmdccaa

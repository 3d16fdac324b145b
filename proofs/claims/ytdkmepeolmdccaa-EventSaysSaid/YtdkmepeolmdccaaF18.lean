/- The machine answers F18: printed by a program of ours (gen.py). -/
import Derived.Test.YtdkmepeolmdccaaDef
import Derived.Test.YtdkmepeolmdccaaEnv
import Derived.Test.YtdkmepeolmdccaaF15
import Derived.Test.YtdkmepeolmdccaaF19
set_option linter.unusedVariables false
namespace Go.Proofs.Ytdkmepeolmdccaa
open Go.Am
theorem F18.fn : E.fn 18 = some ⟨57, (Try.f18.body.getD .skip), Try.f18.results.toList, []⟩ := rfl
theorem F18_ok {F : Nat} {m : Mem} {n : Nat} {r : (Int × Int) × Int} {t0 : List Int} {t1 : List Int} {t2 : Int} {vt0 : SV} {vt1 : SV} (h : F18 F t0 t1 t2 = some r) (kt0 : Vw Y3 n m vt0 t0) (kt1 : Vw Y23 n m vt1 t1) : Ret E n 18 [.sc vt0, .sc vt1, .sc (.int .i64 t2)] m n (fun v m' n' => v = .tup [.agg [.int .i64 r.1.1, .int .i64 r.1.2], .sc (.int .i64 r.2)]) := by
  unfold F18 at h
  refine Ret.walk F18.fn ?_
  refine WC.start fun S0 em en hz => ?_
  have hot0 := kt0.rdS em hz
  have hot1 := kt1.rdS em hz
  refine WC.seq ?_
  refine WC.region ?_
  refine WO.alS (A := Y26) (S := S0) (z0 := (0, 0)) 2 rfl rfl rfl (fun v1 S2 c3 ho4 => ?_)
  have hot0 := hot0.to c3
  have hot1 := hot1.to c3
  refine WO.asg rfl ?_
  refine WO.nil ?_
  refine thenL_n ?_
  refine WC.seq ?_
  refine WC.seq ?_
  refine WC.region ?_
  refine WO.mv rfl ?_
  refine WO.mv rfl ?_
  obtain ⟨r5, e6, h⟩ := bindS h
  refine WO.callE (S := S2) rfl rfl (F19_ok e6 hot0.vw hot1.vw) (fun S7 c8 => ?_)
  have hot0 := hot0.to c8
  have hot1 := hot1.to c8
  have ho4 := ho4.to c8
  refine WO.asg rfl ?_
  refine WO.nil ?_
  refine thenL_n ?_
  refine WC.seq ?_
  refine WC.region ?_
  refine WO.mv rfl ?_
  refine WO.bin rfl rfl (by decide) (by decide) rfl ?_
  refine WO.nil ?_
  refine thenL_n ?_
  refine WC.cond rfl (fun q9 => ?_) (fun q9 => ?_)
  · have h := iteT q9 h
    refine WC.seq ?_
    refine WC.region ?_
    refine WO.do rfl rfl ?_
    refine WO.mv rfl ?_
    refine WO.stBA (u' := (0, 0)) rfl ho4.at0 rfl ho4 rfl rfl (fun S10 c11 ho4 => ?_)
    have hot0 := hot0.to c11
    have hot1 := hot1.to c11
    refine WO.asg rfl ?_
    refine WO.nil ?_
    refine thenL_n ?_
    refine WC.ret ?_
    refine thenL_r ?_
    have hcell := ho4
    obtain rfl := someI h
    exact ⟨.inr rfl, _, _, (resK_c2 hcell (Cov.refl _) rfl rfl rfl), rfl, rfl⟩
  · have h := iteF q9 h
    refine WC.skip ?_
    refine thenL_n ?_
    refine WC.seq ?_
    refine WC.seq ?_
    refine WC.region ?_
    refine WO.mv rfl ?_
    refine WO.lenS rfl hot1.slv rfl ?_
    refine WO.bin rfl rfl (by decide) (by decide) rfl ?_
    refine WO.nil ?_
    refine thenL_n ?_
    refine WC.cond rfl (fun q12 => ?_) (fun q12 => ?_)
    · have h := iteT q12 h
      refine WC.seq ?_
      refine WC.region ?_
      refine WO.do rfl rfl ?_
      refine WO.stBA (u' := (0, 0)) rfl ho4.at0 rfl ho4 rfl rfl (fun S13 c14 ho4 => ?_)
      have hot0 := hot0.to c14
      have hot1 := hot1.to c14
      refine WO.asg rfl ?_
      refine WO.nil ?_
      refine thenL_n ?_
      refine WC.ret ?_
      refine thenL_r ?_
      have hcell := ho4
      obtain rfl := someI h
      exact ⟨.inr rfl, _, _, (resK_c2 hcell (Cov.refl _) rfl rfl rfl), rfl, rfl⟩
    · have h := iteF q12 h
      refine WC.skip ?_
      refine thenL_n ?_
      refine WC.seq ?_
      refine WC.region ?_
      refine WO.asg rfl ?_
      refine WO.nil ?_
      refine thenL_n ?_
      refine WC.seq ?_
      refine WC.seq ?_
      refine WC.region ?_
      refine WO.mv rfl ?_
      refine WO.lenS rfl hot0.slv rfl ?_
      refine WO.mv rfl ?_
      refine WO.nil ?_
      refine thenL_n ?_
      refine WC.block ?_
      obtain ⟨b38, e39, h⟩ := bindS h
      refine WC.loopD e39 (fun s15 l' m' n' => ∃ S16 : Cx n, S16.m = m' ∧ S16.n = n' ∧ Cov l' [(0, .sc vt0), (1, .sc vt1), (2, .sc (.int .i64 t2)), (6, .sc v1), (9, .sc (.int .u16 s15.1)), (26, .sc (.int .i64 ((t0.length : Int)))), (27, .sc (.int .i64 s15.2))] ∧ Rd Y3 S16 vt0 t0 ∧ Rd Y23 S16 vt1 t1 ∧ Bk Y26 S16 2 v1 ((0, 0))) (fun b e l' m' n' => e = .exit 0 ∧ ∃ S17 : Cx n, S17.m = m' ∧ S17.n = n' ∧ Cov l' [(0, .sc vt0), (6, .sc v1), (9, .sc (.int .u16 b))] ∧ Rd Y3 S17 vt0 t0 ∧ Bk Y26 S17 2 v1 ((0, 0))) (by exact ⟨S7, rfl, rfl, (Cov.cons rfl (Cov.cons rfl (Cov.cons rfl (Cov.cons rfl (Cov.cons rfl (Cov.cons rfl (Cov.cons rfl (Cov.nil _)))))))), hot0, hot1, ho4⟩) ?_ ?_
      · clear h
        rintro s15 q _ _ _ ⟨S18, rfl, rfl, hc19, hot0, hot1, ho4⟩ h
        unfold F18_l1 at h
        refine WC.cov hc19 ?_
        refine WC.seq ?_
        refine WC.region ?_
        refine WO.bin rfl rfl (by decide) (by decide) rfl ?_
        refine WO.nil ?_
        refine thenL_n ?_
        refine WC.seq ?_
        refine WC.cond rfl (fun q20 => ?_) (fun q20 => ?_)
        · have h := iteT q20 h
          refine WC.skip ?_
          refine thenL_n ?_
          refine WC.seq ?_
          refine WC.block ?_
          refine WC.seq ?_
          refine WC.region ?_
          refine WO.mv rfl ?_
          refine WO.asg rfl ?_
          refine WO.nil ?_
          refine thenL_n ?_
          refine WC.seq ?_
          refine WC.region ?_
          refine WO.asg rfl ?_
          refine WO.nil ?_
          refine thenL_n ?_
          refine WC.seq ?_
          refine WC.seq ?_
          refine WC.region ?_
          refine WO.mv rfl ?_
          refine WO.lenS rfl hot1.slv rfl ?_
          refine WO.mv rfl ?_
          refine WO.nil ?_
          refine thenL_n ?_
          refine WC.block ?_
          obtain ⟨b31, e32, h⟩ := bindS h
          refine WC.loopD e32 (fun s21 l' m' n' => ∃ S22 : Cx n, S22.m = m' ∧ S22.n = n' ∧ Cov l' [(0, .sc vt0), (1, .sc vt1), (2, .sc (.int .i64 t2)), (6, .sc v1), (9, .sc (.int .u16 s15.1)), (10, .sc (.int .i64 s15.2)), (11, .sc (.int .i64 s21.1)), (26, .sc (.int .i64 ((t0.length : Int)))), (27, .sc (.int .i64 s15.2)), (30, .sc vt1), (31, .sc (.int .i64 ((t1.length : Int)))), (32, .sc (.int .i64 s21.2))] ∧ Rd Y3 S22 vt0 t0 ∧ Rd Y23 S22 vt1 t1 ∧ Bk Y26 S22 2 v1 ((0, 0))) (fun b e l' m' n' => e = .exit 2 ∧ ∃ S23 : Cx n, S23.m = m' ∧ S23.n = n' ∧ Cov l' [(0, .sc vt0), (1, .sc vt1), (2, .sc (.int .i64 t2)), (6, .sc v1), (9, .sc (.int .u16 s15.1)), (10, .sc (.int .i64 s15.2)), (11, .sc (.int .i64 b)), (26, .sc (.int .i64 ((t0.length : Int)))), (27, .sc (.int .i64 s15.2))] ∧ Rd Y3 S23 vt0 t0 ∧ Rd Y23 S23 vt1 t1 ∧ Bk Y26 S23 2 v1 ((0, 0))) (by exact ⟨S18, rfl, rfl, (Cov.cons rfl (Cov.cons rfl (Cov.cons rfl (Cov.cons rfl (Cov.cons rfl (Cov.cons rfl (Cov.cons rfl (Cov.cons rfl (Cov.cons rfl (Cov.cons rfl (Cov.cons rfl (Cov.cons rfl (Cov.nil _))))))))))))), hot0, hot1, ho4⟩) ?_ ?_
          · clear h
            rintro s21 q _ _ _ ⟨S24, rfl, rfl, hc25, hot0, hot1, ho4⟩ h
            unfold F18_l0 at h
            refine WC.cov hc25 ?_
            refine WC.seq ?_
            refine WC.region ?_
            refine WO.bin rfl rfl (by decide) (by decide) rfl ?_
            refine WO.nil ?_
            refine thenL_n ?_
            refine WC.seq ?_
            refine WC.cond rfl (fun q26 => ?_) (fun q26 => ?_)
            · have h := iteT q26 h
              refine WC.skip ?_
              refine thenL_n ?_
              refine WC.seq ?_
              refine WC.block ?_
              refine WC.seq ?_
              refine WC.region ?_
              obtain ⟨x27, e28, h⟩ := bindS h
              refine WO.ixS rfl rfl hot1.slv (at?_lt e28) rfl ?_
              refine WO.ldF rfl hot1.ro (fun _ hi => hi) (at?_get e28) rfl rfl rfl ?_
              refine WO.asg rfl ?_
              refine WO.nil ?_
              refine thenL_n ?_
              refine WC.region ?_
              refine WO.mv rfl ?_
              refine WO.mv rfl ?_
              refine WO.mv rfl ?_
              obtain ⟨x29, e30, h⟩ := bindS h
              refine WO.shrD rfl rfl e30 ?_
              refine WO.bits rfl rfl rfl (by decide) (by decide) rfl ?_
              refine WO.conv rfl rfl rfl rfl ?_
              refine WO.bin rfl rfl (by decide) (by decide) rfl ?_
              refine WO.asg rfl ?_
              refine WO.nil ?_
              refine blockL_n ?_
              refine thenL_n ?_
              refine WC.region ?_
              refine WO.bin rfl rfl (by decide) (by decide) rfl ?_
              refine WO.mv rfl ?_
              refine WO.nil ?_
              refine thenL_n ?_
              obtain rfl := someI h
              exact ⟨_, rfl, ⟨S24, rfl, rfl, (Cov.cons rfl (Cov.cons rfl (Cov.cons rfl (Cov.cons rfl (Cov.cons rfl (Cov.cons rfl (Cov.cons rfl (Cov.cons rfl (Cov.cons rfl (Cov.cons rfl (Cov.cons rfl (Cov.cons rfl (Cov.nil _))))))))))))), hot0, hot1, ho4⟩⟩
            · have h := iteF q26 h
              refine WC.exit ?_
              refine thenL_e ?_
              refine thenL_e ?_
              obtain rfl := someI h
              exact ⟨_, rfl, rfl, ⟨S24, rfl, rfl, (Cov.cons rfl (Cov.cons rfl (Cov.cons rfl (Cov.cons rfl (Cov.cons rfl (Cov.cons rfl (Cov.cons rfl (Cov.cons rfl (Cov.cons rfl (Cov.nil _)))))))))), hot0, hot1, ho4⟩⟩
          rintro _ _ _ _ ⟨rfl, ⟨S33, rfl, rfl, hc34, hot0, hot1, ho4⟩⟩
          refine blockL_s ?_
          refine thenL_n ?_
          refine WC.cov hc34 ?_
          refine WC.seq ?_
          refine WC.region ?_
          refine WO.mv rfl ?_
          refine WO.mv rfl ?_
          refine WO.bin rfl rfl (by decide) (by decide) rfl ?_
          refine WO.nil ?_
          refine thenL_n ?_
          refine WC.cond rfl (fun q35 => ?_) (fun q35 => ?_)
          · have h := iteT q35 h
            refine WC.region ?_
            refine WO.mv rfl ?_
            refine WO.mv rfl ?_
            obtain ⟨x36, e37, h⟩ := bindS h
            refine WO.shlD rfl rfl e37 ?_
            refine WO.bits rfl rfl rfl (by decide) (by decide) rfl ?_
            refine WO.asg rfl ?_
            refine WO.nil ?_
            refine blockL_n ?_
            refine thenL_n ?_
            refine WC.region ?_
            refine WO.bin rfl rfl (by decide) (by decide) rfl ?_
            refine WO.mv rfl ?_
            refine WO.nil ?_
            refine thenL_n ?_
            obtain rfl := someI h
            exact ⟨_, rfl, ⟨S33, rfl, rfl, (Cov.cons rfl (Cov.cons rfl (Cov.cons rfl (Cov.cons rfl (Cov.cons rfl (Cov.cons rfl (Cov.cons rfl (Cov.nil _)))))))), hot0, hot1, ho4⟩⟩
          · have h := iteF q35 h
            refine WC.skip ?_
            refine blockL_n ?_
            refine thenL_n ?_
            refine WC.region ?_
            refine WO.bin rfl rfl (by decide) (by decide) rfl ?_
            refine WO.mv rfl ?_
            refine WO.nil ?_
            refine thenL_n ?_
            obtain rfl := someI h
            exact ⟨_, rfl, ⟨S33, rfl, rfl, (Cov.cons rfl (Cov.cons rfl (Cov.cons rfl (Cov.cons rfl (Cov.cons rfl (Cov.cons rfl (Cov.cons rfl (Cov.nil _)))))))), hot0, hot1, ho4⟩⟩
        · have h := iteF q20 h
          refine WC.exit ?_
          refine thenL_e ?_
          refine thenL_e ?_
          obtain rfl := someI h
          exact ⟨_, rfl, rfl, ⟨S18, rfl, rfl, (Cov.cons rfl (Cov.cons rfl (Cov.cons rfl (Cov.nil _)))), hot0, ho4⟩⟩
      rintro _ _ _ _ ⟨rfl, ⟨S40, rfl, rfl, hc41, hot0, ho4⟩⟩
      refine blockL_s ?_
      refine thenL_n ?_
      refine WC.cov hc41 ?_
      refine WC.seq ?_
      refine WC.region ?_
      refine WO.mv rfl ?_
      refine WO.mv rfl ?_
      obtain ⟨r42, e43, h⟩ := bindS h
      refine WO.callE (S := S40) rfl rfl (F15_ok e43 hot0.vw) (fun S44 c45 => ?_)
      have hot0 := hot0.to c45
      have ho4 := ho4.to c45
      refine WO.do rfl rfl ?_
      refine WO.do rfl rfl ?_
      refine WO.stBA (u' := (r42.1.1, r42.1.2)) rfl ho4.at0 rfl ho4 rfl rfl (fun S46 c47 ho4 => ?_)
      have hot0 := hot0.to c47
      refine WO.asg rfl ?_
      refine WO.nil ?_
      refine thenL_n ?_
      refine WC.ret ?_
      have hcell := ho4
      obtain rfl := someI h
      exact ⟨.inr rfl, _, _, (resK_c2 hcell (Cov.refl _) rfl rfl rfl), rfl, rfl⟩
end Go.Proofs.Ytdkmepeolmdccaa

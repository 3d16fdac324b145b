/- The machine answers F99: printed by a program of ours (gen.py). -/
import Derived.Test.YtdkmepeolmdccaaDef
import Derived.Test.YtdkmepeolmdccaaEnv
import Derived.Test.YtdkmepeolmdccaaF21
import Derived.Test.YtdkmepeolmdccaaF46
import Derived.Test.YtdkmepeolmdccaaF47
set_option linter.unusedVariables false
namespace Go.Proofs.Ytdkmepeolmdccaa
open Go.Am
theorem F99.fn : E.fn 99 = some ⟨97, (Try.f99.body.getD .skip), Try.f99.results.toList, []⟩ := rfl
theorem F99_ok {F : Nat} {m : Mem} {n : Nat} {r : (List (Int × Int)) × Int} {t0 : List (List Int)} {t1 : List (Int × Int)} {vt0 : SV} {vt1 : SV} (h : F99 F t0 t1 = some r) (kt0 : Vw Y22 n m vt0 t0) (kt1 : Vw Y26 n m vt1 t1) : Ret E n 99 [.sc vt0, .sc vt1] m n (fun v m' n' => ∃ w, v = .tup [.sc w, .sc (.int .i64 r.2)] ∧ Fr Y26 n m' n' w r.1) := by
  unfold F99 at h
  refine Ret.walk F99.fn ?_
  refine WC.start fun S0 em en hz => ?_
  have hot0 := kt0.rdS em hz
  have hot1 := kt1.rdS em hz
  refine WC.seq ?_
  refine WC.region ?_
  refine WO.asg rfl ?_
  refine WO.asg rfl ?_
  refine WO.nil ?_
  refine thenL_n ?_
  refine WC.seq ?_
  refine WC.region ?_
  refine WO.mv rfl ?_
  refine WO.lenS rfl hot0.slv rfl ?_
  obtain ⟨L1, e2, h⟩ := bindS h
  refine WO.mkS (A := Y26) (S := S0) 2 rfl rfl e2 rfl rfl rfl (fun v3 S4 c5 ho6 => ?_)
  have hot0 := hot0.to c5
  have hot1 := hot1.to c5
  refine WO.asg rfl ?_
  refine WO.nil ?_
  refine thenL_n ?_
  refine WC.seq ?_
  refine WC.seq ?_
  refine WC.region ?_
  refine WO.mv rfl ?_
  refine WO.lenS rfl ho6.slv rfl ?_
  refine WO.mv rfl ?_
  refine WO.nil ?_
  refine thenL_n ?_
  refine WC.block ?_
  obtain ⟨b17, e18, h⟩ := bindS h
  refine WC.loopD e18 (fun s7 l' m' n' => ∃ S8 : Cx n, S8.m = m' ∧ S8.n = n' ∧ Cov l' [(0, .sc vt0), (1, .sc vt1), (6, .sc v3), (22, .sc (.int .i64 ((L1.length : Int)))), (23, .sc (.int .i64 s7.1))] ∧ Rd Y22 S8 vt0 t0 ∧ Rd Y26 S8 vt1 t1 ∧ Ow Y26 S8 2 v3 s7.2) (fun b e l' m' n' => e = .exit 0 ∧ ∃ S9 : Cx n, S9.m = m' ∧ S9.n = n' ∧ Cov l' [(0, .sc vt0), (1, .sc vt1), (6, .sc v3)] ∧ Rd Y22 S9 vt0 t0 ∧ Rd Y26 S9 vt1 t1 ∧ Ow Y26 S9 2 v3 b) (by exact ⟨S4, rfl, rfl, (Cov.cons rfl (Cov.cons rfl (Cov.cons rfl (Cov.cons rfl (Cov.cons rfl (Cov.nil _)))))), hot0, hot1, ho6⟩) ?_ ?_
  · clear h
    rintro s7 q _ _ _ ⟨S10, rfl, rfl, hc11, hot0, hot1, ho6⟩ h
    unfold F99_l0 at h
    refine WC.cov hc11 ?_
    refine WC.seq ?_
    refine WC.region ?_
    refine WO.bin rfl rfl (by decide) (by decide) rfl ?_
    refine WO.nil ?_
    refine thenL_n ?_
    refine WC.seq ?_
    refine WC.cond rfl (fun q12 => ?_) (fun q12 => ?_)
    · have h := iteT q12 h
      refine WC.skip ?_
      refine thenL_n ?_
      refine WC.seq ?_
      refine WC.block ?_
      refine WC.seq ?_
      refine WC.region ?_
      refine WO.mv rfl ?_
      refine WO.asg rfl ?_
      refine WO.nil ?_
      refine thenL_n ?_
      refine WC.region ?_
      refine WO.mv rfl ?_
      refine WO.mv rfl ?_
      refine WO.do rfl rfl ?_
      obtain ⟨u13, e14, h⟩ := bindS h
      refine WO.ixS rfl rfl ho6.slv (ck_some e14) rfl ?_
      refine WO.stA (u' := (0, 1)) rfl rfl ho6 (ck_nat e14) rfl rfl (fun S15 c16 ho6 => ?_)
      have hot0 := hot0.to c16
      have hot1 := hot1.to c16
      refine WO.nil ?_
      refine blockL_n ?_
      refine thenL_n ?_
      refine WC.region ?_
      refine WO.bin rfl rfl (by decide) (by decide) rfl ?_
      refine WO.mv rfl ?_
      refine WO.nil ?_
      refine thenL_n ?_
      obtain rfl := someI h
      exact ⟨_, rfl, ⟨S15, rfl, rfl, (Cov.cons rfl (Cov.cons rfl (Cov.cons rfl (Cov.cons rfl (Cov.cons rfl (Cov.nil _)))))), hot0, hot1, ho6⟩⟩
    · have h := iteF q12 h
      refine WC.exit ?_
      refine thenL_e ?_
      refine thenL_e ?_
      obtain rfl := someI h
      exact ⟨_, rfl, rfl, ⟨S10, rfl, rfl, (Cov.cons rfl (Cov.cons rfl (Cov.cons rfl (Cov.nil _)))), hot0, hot1, ho6⟩⟩
  rintro _ _ _ _ ⟨rfl, ⟨S19, rfl, rfl, hc20, hot0, hot1, ho6⟩⟩
  refine blockL_s ?_
  refine thenL_n ?_
  refine WC.cov hc20 ?_
  refine WC.seq ?_
  refine WC.seq ?_
  refine WC.region ?_
  refine WO.mv rfl ?_
  refine WO.lenS rfl hot0.slv rfl ?_
  refine WO.mv rfl ?_
  refine WO.nil ?_
  refine thenL_n ?_
  refine WC.block ?_
  obtain ⟨b117, e118, h⟩ := bindS h
  refine WC.loopD e118 (fun s21 l' m' n' => ∃ S22 : Cx n, S22.m = m' ∧ S22.n = n' ∧ Cov l' [(1, .sc vt1), (6, .sc v3), (31, .sc vt0), (32, .sc (.int .i64 ((t0.length : Int)))), (33, .sc (.int .i64 s21.1))] ∧ Rd Y26 S22 vt1 t1 ∧ Ow Y26 S22 2 v3 s21.2 ∧ Rd Y22 S22 vt0 t0) (fun b e l' m' n' => (match b with | .inl b23 => e = .exit 2 ∧ ∃ S24 : Cx n, S24.m = m' ∧ S24.n = n' ∧ Cov l' [(6, .sc v3)] ∧ Ow Y26 S24 2 v3 b23 | .inr b23 => e = .ret ∧ ∃ S25 : Cx n, ∃ v26 : SV, S25.m = m' ∧ S25.n = n' ∧ Cov l' [(4, .sc v26), (5, .sc (.int .i64 b23.2))] ∧ Ow Y26 S25 3 v26 b23.1)) (by exact ⟨S19, rfl, rfl, (Cov.cons rfl (Cov.cons rfl (Cov.cons rfl (Cov.cons rfl (Cov.cons rfl (Cov.nil _)))))), hot1, ho6, hot0⟩) ?_ ?_
  · clear h
    rintro s21 q _ _ _ ⟨S27, rfl, rfl, hc28, hot1, ho6, hot0⟩ h
    unfold F99_l3 at h
    refine WC.cov hc28 ?_
    refine WC.seq ?_
    refine WC.region ?_
    refine WO.bin rfl rfl (by decide) (by decide) rfl ?_
    refine WO.nil ?_
    refine thenL_n ?_
    refine WC.seq ?_
    refine WC.cond rfl (fun q29 => ?_) (fun q29 => ?_)
    · have h := iteT q29 h
      refine WC.skip ?_
      refine thenL_n ?_
      refine WC.seq ?_
      refine WC.block ?_
      refine WC.seq ?_
      refine WC.region ?_
      refine WO.mv rfl ?_
      obtain ⟨L30, e31, h⟩ := bindS h
      refine WO.ixS rfl rfl hot0.slv (at?_lt e31) rfl ?_
      refine WO.ldS rfl hot0.ro (fun _ hi => hi) (at?_get e31) rfl rfl (fun v32 ho33 => ?_)
      have ho33 : Rd Y3 S27 v32 L30 := ho33
      refine WO.asg rfl ?_
      refine WO.asg rfl ?_
      refine WO.nil ?_
      refine thenL_n ?_
      refine WC.seq ?_
      refine WC.region ?_
      refine WO.asg rfl ?_
      refine WO.nil ?_
      refine thenL_n ?_
      refine WC.seq ?_
      refine WC.seq ?_
      refine WC.region ?_
      refine WO.mv rfl ?_
      refine WO.lenS rfl ho33.slv rfl ?_
      refine WO.mv rfl ?_
      refine WO.nil ?_
      refine thenL_n ?_
      refine WC.block ?_
      obtain ⟨b42, e43, h⟩ := bindS h
      refine WC.loopD e43 (fun s34 l' m' n' => ∃ S35 : Cx n, S35.m = m' ∧ S35.n = n' ∧ Cov l' [(1, .sc vt1), (6, .sc v3), (8, .sc (.int .i64 s21.1)), (9, .sc v32), (10, .sc (.int .i64 s34.1)), (31, .sc vt0), (32, .sc (.int .i64 ((t0.length : Int)))), (33, .sc (.int .i64 s21.1)), (38, .sc v32), (39, .sc (.int .i64 ((L30.length : Int)))), (40, .sc (.int .i64 s34.2))] ∧ Rd Y26 S35 vt1 t1 ∧ Ow Y26 S35 2 v3 s21.2 ∧ Rd Y3 S35 v32 L30 ∧ Rd Y22 S35 vt0 t0) (fun b e l' m' n' => e = .exit 4 ∧ ∃ S36 : Cx n, S36.m = m' ∧ S36.n = n' ∧ Cov l' [(1, .sc vt1), (6, .sc v3), (8, .sc (.int .i64 s21.1)), (9, .sc v32), (10, .sc (.int .i64 b)), (31, .sc vt0), (32, .sc (.int .i64 ((t0.length : Int)))), (33, .sc (.int .i64 s21.1))] ∧ Rd Y26 S36 vt1 t1 ∧ Ow Y26 S36 2 v3 s21.2 ∧ Rd Y3 S36 v32 L30 ∧ Rd Y22 S36 vt0 t0) (by exact ⟨S27, rfl, rfl, (Cov.cons rfl (Cov.cons rfl (Cov.cons rfl (Cov.cons rfl (Cov.cons rfl (Cov.cons rfl (Cov.cons rfl (Cov.cons rfl (Cov.cons rfl (Cov.cons rfl (Cov.cons rfl (Cov.nil _)))))))))))), hot1, ho6, ho33, hot0⟩) ?_ ?_
      · clear h
        rintro s34 q _ _ _ ⟨S37, rfl, rfl, hc38, hot1, ho6, ho33, hot0⟩ h
        unfold F99_l1 at h
        refine WC.cov hc38 ?_
        refine WC.seq ?_
        refine WC.region ?_
        refine WO.bin rfl rfl (by decide) (by decide) rfl ?_
        refine WO.nil ?_
        refine thenL_n ?_
        refine WC.seq ?_
        refine WC.cond rfl (fun q39 => ?_) (fun q39 => ?_)
        · have h := iteT q39 h
          refine WC.skip ?_
          refine thenL_n ?_
          refine WC.seq ?_
          refine WC.block ?_
          refine WC.seq ?_
          refine WC.region ?_
          obtain ⟨x40, e41, h⟩ := bindS h
          refine WO.ixS rfl rfl ho33.slv (at?_lt e41) rfl ?_
          refine WO.ldF rfl ho33.ro (fun _ hi => hi) (at?_get e41) rfl rfl rfl ?_
          refine WO.asg rfl ?_
          refine WO.nil ?_
          refine thenL_n ?_
          refine WC.region ?_
          refine WO.mv rfl ?_
          refine WO.mv rfl ?_
          refine WO.bin rfl rfl (by decide) (by decide) rfl ?_
          refine WO.asg rfl ?_
          refine WO.nil ?_
          refine blockL_n ?_
          refine thenL_n ?_
          refine WC.region ?_
          refine WO.bin rfl rfl (by decide) (by decide) rfl ?_
          refine WO.mv rfl ?_
          refine WO.nil ?_
          refine thenL_n ?_
          obtain rfl := someI h
          exact ⟨_, rfl, ⟨S37, rfl, rfl, (Cov.cons rfl (Cov.cons rfl (Cov.cons rfl (Cov.cons rfl (Cov.cons rfl (Cov.cons rfl (Cov.cons rfl (Cov.cons rfl (Cov.cons rfl (Cov.cons rfl (Cov.cons rfl (Cov.nil _)))))))))))), hot1, ho6, ho33, hot0⟩⟩
        · have h := iteF q39 h
          refine WC.exit ?_
          refine thenL_e ?_
          refine thenL_e ?_
          obtain rfl := someI h
          exact ⟨_, rfl, rfl, ⟨S37, rfl, rfl, (Cov.cons rfl (Cov.cons rfl (Cov.cons rfl (Cov.cons rfl (Cov.cons rfl (Cov.cons rfl (Cov.cons rfl (Cov.cons rfl (Cov.nil _))))))))), hot1, ho6, ho33, hot0⟩⟩
      rintro _ _ _ _ ⟨rfl, ⟨S44, rfl, rfl, hc45, hot1, ho6, ho33, hot0⟩⟩
      refine blockL_s ?_
      refine thenL_n ?_
      refine WC.cov hc45 ?_
      refine WC.seq ?_
      refine WC.region ?_
      refine WO.mv rfl ?_
      refine WO.lenS rfl ho33.slv rfl ?_
      refine WO.mv rfl ?_
      refine WO.nil ?_
      refine thenL_n ?_
      refine WC.block ?_
      obtain ⟨b109, e110, h⟩ := bindS h
      refine WC.loopD e110 (fun s46 l' m' n' => ∃ S47 : Cx n, S47.m = m' ∧ S47.n = n' ∧ Cov l' [(1, .sc vt1), (6, .sc v3), (8, .sc (.int .i64 s21.1)), (10, .sc (.int .i64 b42)), (31, .sc vt0), (32, .sc (.int .i64 ((t0.length : Int)))), (33, .sc (.int .i64 s21.1)), (48, .sc v32), (49, .sc (.int .i64 ((L30.length : Int)))), (50, .sc (.int .i64 s46.1))] ∧ Rd Y26 S47 vt1 t1 ∧ Ow Y26 S47 2 v3 s46.2 ∧ Rd Y22 S47 vt0 t0 ∧ Rd Y3 S47 v32 L30) (fun b e l' m' n' => (match b with | .inl b48 => e = .exit 6 ∧ ∃ S49 : Cx n, S49.m = m' ∧ S49.n = n' ∧ Cov l' [(1, .sc vt1), (6, .sc v3), (31, .sc vt0), (32, .sc (.int .i64 ((t0.length : Int)))), (33, .sc (.int .i64 s21.1))] ∧ Rd Y26 S49 vt1 t1 ∧ Ow Y26 S49 2 v3 b48 ∧ Rd Y22 S49 vt0 t0 | .inr b48 => e = .ret ∧ ∃ S50 : Cx n, ∃ v51 : SV, S50.m = m' ∧ S50.n = n' ∧ Cov l' [(4, .sc v51), (5, .sc (.int .i64 b48.2))] ∧ Ow Y26 S50 4 v51 b48.1)) (by exact ⟨S44, rfl, rfl, (Cov.cons rfl (Cov.cons rfl (Cov.cons rfl (Cov.cons rfl (Cov.cons rfl (Cov.cons rfl (Cov.cons rfl (Cov.cons rfl (Cov.cons rfl (Cov.cons rfl (Cov.nil _))))))))))), hot1, ho6, hot0, ho33⟩) ?_ ?_
      · clear h
        rintro s46 q _ _ _ ⟨S52, rfl, rfl, hc53, hot1, ho6, hot0, ho33⟩ h
        unfold F99_l2 at h
        refine WC.cov hc53 ?_
        refine WC.seq ?_
        refine WC.region ?_
        refine WO.bin rfl rfl (by decide) (by decide) rfl ?_
        refine WO.nil ?_
        refine thenL_n ?_
        refine WC.seq ?_
        refine WC.cond rfl (fun q54 => ?_) (fun q54 => ?_)
        · have h := iteT q54 h
          refine WC.skip ?_
          refine thenL_n ?_
          refine WC.seq ?_
          refine WC.block ?_
          refine WC.seq ?_
          refine WC.region ?_
          refine WO.mv rfl ?_
          obtain ⟨x55, e56, h⟩ := bindS h
          refine WO.ixS rfl rfl ho33.slv (at?_lt e56) rfl ?_
          refine WO.ldF rfl ho33.ro (fun _ hi => hi) (at?_get e56) rfl rfl rfl ?_
          refine WO.asg rfl ?_
          refine WO.asg rfl ?_
          refine WO.nil ?_
          refine thenL_n ?_
          refine WC.seq ?_
          refine WC.region ?_
          refine WO.do rfl rfl ?_
          refine WO.alS (A := Y26) (S := S52) (z0 := (0, 0)) 5 rfl rfl rfl (fun v57 S58 c59 ho60 => ?_)
          have hot1 := hot1.to c59
          have ho6 := ho6.to c59
          have hot0 := hot0.to c59
          have ho33 := ho33.to c59
          refine WO.stBA (u' := (0, 1)) rfl ho60.at0 rfl ho60 rfl rfl (fun S61 c62 ho60 => ?_)
          have hot1 := hot1.to c62
          have ho6 := ho6.to c62
          have hot0 := hot0.to c62
          have ho33 := ho33.to c62
          refine WO.nil ?_
          refine thenL_n ?_
          refine WC.seq ?_
          refine WC.block ?_
          refine WC.seq ?_
          refine WC.region ?_
          refine WO.mv rfl ?_
          refine WO.bin rfl rfl (by decide) (by decide) rfl ?_
          refine WO.asg rfl ?_
          refine WO.nil ?_
          refine thenL_n ?_
          obtain ⟨b73, e74, h⟩ := bindS h
          refine WC.mono (Q' := (fun b e l' m' n' => e = .normal ∧ ∃ S75 : Cx n, S75.m = m' ∧ S75.n = n' ∧ Cov l' [(1, .sc vt1), (6, .sc v3), (8, .sc (.int .i64 s21.1)), (10, .sc (.int .i64 b42)), (13, .sc (.int .i64 s46.1)), (15, .sc v57), (31, .sc vt0), (32, .sc (.int .i64 ((t0.length : Int)))), (33, .sc (.int .i64 s21.1)), (48, .sc v32), (49, .sc (.int .i64 ((L30.length : Int)))), (50, .sc (.int .i64 s46.1))] ∧ Rd Y26 S75 vt1 t1 ∧ Ow Y26 S75 2 v3 s46.2 ∧ Bk Y26 S75 5 v57 b ∧ Rd Y22 S75 vt0 t0 ∧ Rd Y3 S75 v32 L30) b73) ?_ ?_
          · have h := e74
            dsimp only at h ⊢
            refine WC.cond rfl (fun q63 => ?_) (fun q63 => ?_)
            · have h := iteT q63 h
              refine WC.region ?_
              refine WO.mv rfl ?_
              refine WO.mv rfl ?_
              obtain ⟨r64, e65, h⟩ := bindS h
              refine WO.callE (S := S61) rfl rfl (F21_ok e65) (fun S66 c67 => ?_)
              have hot1 := hot1.to c67
              have ho6 := ho6.to c67
              have hot0 := hot0.to c67
              have ho33 := ho33.to c67
              have ho60 := ho60.to c67
              refine WO.stBA (u' := (r64.1, r64.2)) rfl ho60.at0 rfl ho60 rfl rfl (fun S68 c69 ho60 => ?_)
              have hot1 := hot1.to c69
              have ho6 := ho6.to c69
              have hot0 := hot0.to c69
              have ho33 := ho33.to c69
              refine WO.nil ?_
              obtain rfl := someI h
              exact ⟨rfl, ⟨S68, rfl, rfl, (Cov.cons rfl (Cov.cons rfl (Cov.cons rfl (Cov.cons rfl (Cov.cons rfl (Cov.cons rfl (Cov.cons rfl (Cov.cons rfl (Cov.cons rfl (Cov.cons rfl (Cov.cons rfl (Cov.cons rfl (Cov.nil _))))))))))))), hot1, ho6, ho60, hot0, ho33⟩⟩
            · have h := iteF q63 h
              refine WC.seq ?_
              refine WC.region ?_
              refine WO.mv rfl ?_
              refine WO.mv rfl ?_
              refine WO.bin rfl rfl (by decide) (by decide) rfl ?_
              refine WO.asg rfl ?_
              refine WO.nil ?_
              refine thenL_n ?_
              refine WC.cond rfl (fun q70 => ?_) (fun q70 => ?_)
              · have h := iteT q70 h
                refine WC.region ?_
                refine WO.fldS (j := 0) (q := 0) rfl ho60.at0 ho60.ptr rfl rfl rfl (by decide) ?_
                refine WO.stB (j := 0) (q := 0) (u' := (1, ((0, 1)).2)) rfl rfl rfl ho60 rfl (by decide) rfl rfl (fun S71 c72 ho60 => ?_)
                have hot1 := hot1.to c72
                have ho6 := ho6.to c72
                have hot0 := hot0.to c72
                have ho33 := ho33.to c72
                refine WO.nil ?_
                obtain rfl := someI h
                exact ⟨rfl, ⟨S71, rfl, rfl, (Cov.cons rfl (Cov.cons rfl (Cov.cons rfl (Cov.cons rfl (Cov.cons rfl (Cov.cons rfl (Cov.cons rfl (Cov.cons rfl (Cov.cons rfl (Cov.cons rfl (Cov.cons rfl (Cov.cons rfl (Cov.nil _))))))))))))), hot1, ho6, ho60, hot0, ho33⟩⟩
              · have h := iteF q70 h
                refine WC.skip ?_
                obtain rfl := someI h
                exact ⟨rfl, ⟨S61, rfl, rfl, (Cov.cons rfl (Cov.cons rfl (Cov.cons rfl (Cov.cons rfl (Cov.cons rfl (Cov.cons rfl (Cov.cons rfl (Cov.cons rfl (Cov.cons rfl (Cov.cons rfl (Cov.cons rfl (Cov.cons rfl (Cov.nil _))))))))))))), hot1, ho6, ho60, hot0, ho33⟩⟩
          dsimp only
          rintro _ _ _ _ ⟨rfl, ⟨S76, rfl, rfl, hc77, hot1, ho6, ho60, hot0, ho33⟩⟩
          refine blockL_n ?_
          refine thenL_n ?_
          refine WC.cov hc77 ?_
          refine WC.seq ?_
          refine WC.drawN rfl ?_
          have hot1z := hot1.oz
          have ho6z := ho6.oz
          have hot0z := hot0.oz
          have ho33z := ho33.oz
          refine WO.mv rfl ?_
          refine WO.mv rfl ?_
          obtain ⟨x78, e79, h⟩ := bindS h
          refine WO.ixS rfl rfl hot1.slv (at?_lt e79) rfl ?_
          refine WO.ldA rfl hot1z (fun _ hi => hi.1) (at?_get e79) rfl (limLe_self _) ?_
          refine WO.ldBA (j := 0) rfl ho60.at0 ho60 rfl (limLe_self _) ?_
          obtain ⟨r80, e81, h⟩ := bindS h
          refine WO.callE (S := S76) rfl rfl (F46_ok e81) (fun S82 c83 => ?_)
          have hot1z := hot1z.toz c83
          have ho6z := ho6z.tow c83
          have hot0z := hot0z.toz c83
          have ho33z := ho33z.toz c83
          have hot1 := hot1.to c83
          have ho6 := ho6.to c83
          have ho60 := ho60.to c83
          have hot0 := hot0.to c83
          have ho33 := ho33.to c83
          refine WO.mv rfl ?_
          refine WO.do rfl rfl ?_
          refine WO.do rfl rfl ?_
          refine WO.alS (A := Y26) (S := S82) (z0 := (0, 0)) 6 rfl rfl rfl (fun v84 S85 c86 ho87 => ?_)
          have hot1z := hot1z.toz c86
          have ho6z := ho6z.tow c86
          have hot0z := hot0z.toz c86
          have ho33z := ho33z.toz c86
          have hot1 := hot1.to c86
          have ho6 := ho6.to c86
          have ho60 := ho60.to c86
          have hot0 := hot0.to c86
          have ho33 := ho33.to c86
          refine WO.stBA (u' := (r80.1.1, r80.1.2)) rfl ho87.at0 rfl ho87 rfl rfl (fun S88 c89 ho87 => ?_)
          have hot1z := hot1z.toz c89
          have ho6z := ho6z.tow c89
          have hot0z := hot0z.toz c89
          have ho33z := ho33z.toz c89
          have hot1 := hot1.to c89
          have ho6 := ho6.to c89
          have ho60 := ho60.to c89
          have hot0 := hot0.to c89
          have ho33 := ho33.to c89
          refine WO.asg rfl ?_
          refine WO.nil ?_
          refine thenL_n ?_
          refine WC.seq ?_
          refine WC.seq ?_
          refine WC.region ?_
          refine WO.mv rfl ?_
          refine WO.bin rfl rfl (by decide) (by decide) rfl ?_
          refine WO.nil ?_
          refine thenL_n ?_
          refine WC.cond rfl (fun q90 => ?_) (fun q90 => ?_)
          · have h := iteT q90 h
            refine WC.drawN rfl ?_
            have hot1z := hot1.oz
            have ho6z := ho6.oz
            have hot0z := hot0.oz
            have ho33z := ho33.oz
            refine WO.mv rfl ?_
            refine WO.mv rfl ?_
            obtain ⟨x91, e92, h⟩ := bindS h
            refine WO.ixS rfl rfl ho6.slv (at?_lt e92) rfl ?_
            refine WO.ldA rfl ho6z (fun _ hi => hi.1) (at?_get e92) rfl (limLe_self _) ?_
            refine WO.ldBA (j := 0) rfl ho87.at0 ho87 rfl (limLe_self _) ?_
            obtain ⟨r93, e94, h⟩ := bindS h
            refine WO.callE (S := S88) rfl rfl (F47_ok e94) (fun S95 c96 => ?_)
            have hot1z := hot1z.toz c96
            have ho6z := ho6z.tow c96
            have hot0z := hot0z.toz c96
            have ho33z := ho33z.toz c96
            have hot1 := hot1.to c96
            have ho6 := ho6.to c96
            have ho60 := ho60.to c96
            have hot0 := hot0.to c96
            have ho33 := ho33.to c96
            have ho87 := ho87.to c96
            refine WO.mv rfl ?_
            refine WO.do rfl rfl ?_
            refine WO.do rfl rfl ?_
            refine WO.stBA (u' := (r93.1.1, r93.1.2)) rfl ho87.at0 rfl ho87 rfl rfl (fun S97 c98 ho87 => ?_)
            have hot1z := hot1z.toz c98
            have ho6z := ho6z.tow c98
            have hot0z := hot0z.toz c98
            have ho33z := ho33z.toz c98
            have hot1 := hot1.to c98
            have ho6 := ho6.to c98
            have ho60 := ho60.to c98
            have hot0 := hot0.to c98
            have ho33 := ho33.to c98
            refine WO.asg rfl ?_
            refine WO.nil ?_
            refine thenL_n ?_
            refine WC.seq ?_
            refine WC.seq ?_
            refine WC.region ?_
            refine WO.mv rfl ?_
            refine WO.bin rfl rfl (by decide) (by decide) rfl ?_
            refine WO.nil ?_
            refine thenL_n ?_
            refine WC.cond rfl (fun q99 => ?_) (fun q99 => ?_)
            · have h := iteT q99 h
              refine WC.seq ?_
              refine WC.region ?_
              refine WO.mv rfl ?_
              refine WO.asg rfl ?_
              refine WO.asg rfl ?_
              refine WO.nil ?_
              refine thenL_n ?_
              refine WC.ret ?_
              refine thenL_r ?_
              refine blockL_r ?_
              refine thenL_r ?_
              refine thenL_r ?_
              obtain rfl := someI h
              exact ⟨_, rfl, rfl, ⟨S97, .nils, rfl, rfl, (Cov.cons rfl (Cov.cons rfl (Cov.nil _))), Ow.nil⟩⟩
            · have h := iteF q99 h
              refine WC.skip ?_
              refine thenL_n ?_
              refine WC.region ?_
              refine WO.mv rfl ?_
              refine WO.mv rfl ?_
              refine WO.ldBA (j := 0) rfl ho87.at0 ho87 rfl rfl ?_
              obtain ⟨u100, e101, h⟩ := bindS h
              refine WO.ixS rfl rfl ho6.slv (ck_some e101) rfl ?_
              refine WO.stA (u' := (((r93.1.1, r93.1.2)).1, ((r93.1.1, r93.1.2)).2)) rfl rfl ho6 (ck_nat e101) rfl rfl (fun S102 c103 ho6 => ?_)
              have hot1 := hot1.to c103
              have ho60 := ho60.to c103
              have hot0 := hot0.to c103
              have ho33 := ho33.to c103
              have ho87 := ho87.to c103
              refine WO.nil ?_
              refine blockL_n ?_
              refine thenL_n ?_
              refine WC.region ?_
              refine WO.bin rfl rfl (by decide) (by decide) rfl ?_
              refine WO.mv rfl ?_
              refine WO.nil ?_
              refine thenL_n ?_
              obtain rfl := someI h
              exact ⟨_, rfl, ⟨S102, rfl, rfl, (Cov.cons rfl (Cov.cons rfl (Cov.cons rfl (Cov.cons rfl (Cov.cons rfl (Cov.cons rfl (Cov.cons rfl (Cov.cons rfl (Cov.cons rfl (Cov.cons rfl (Cov.nil _))))))))))), hot1, ho6, hot0, ho33⟩⟩
          · have h := iteF q90 h
            refine WC.skip ?_
            refine thenL_n ?_
            refine WC.seq ?_
            refine WC.seq ?_
            refine WC.region ?_
            refine WO.mv rfl ?_
            refine WO.bin rfl rfl (by decide) (by decide) rfl ?_
            refine WO.nil ?_
            refine thenL_n ?_
            refine WC.cond rfl (fun q104 => ?_) (fun q104 => ?_)
            · have h := iteT q104 h
              refine WC.seq ?_
              refine WC.region ?_
              refine WO.mv rfl ?_
              refine WO.asg rfl ?_
              refine WO.asg rfl ?_
              refine WO.nil ?_
              refine thenL_n ?_
              refine WC.ret ?_
              refine thenL_r ?_
              refine blockL_r ?_
              refine thenL_r ?_
              refine thenL_r ?_
              obtain rfl := someI h
              exact ⟨_, rfl, rfl, ⟨S88, .nils, rfl, rfl, (Cov.cons rfl (Cov.cons rfl (Cov.nil _))), Ow.nil⟩⟩
            · have h := iteF q104 h
              refine WC.skip ?_
              refine thenL_n ?_
              refine WC.region ?_
              refine WO.mv rfl ?_
              refine WO.mv rfl ?_
              refine WO.ldBA (j := 0) rfl ho87.at0 ho87 rfl rfl ?_
              obtain ⟨u105, e106, h⟩ := bindS h
              refine WO.ixS rfl rfl ho6.slv (ck_some e106) rfl ?_
              refine WO.stA (u' := (((r80.1.1, r80.1.2)).1, ((r80.1.1, r80.1.2)).2)) rfl rfl ho6 (ck_nat e106) rfl rfl (fun S107 c108 ho6 => ?_)
              have hot1 := hot1.to c108
              have ho60 := ho60.to c108
              have hot0 := hot0.to c108
              have ho33 := ho33.to c108
              have ho87 := ho87.to c108
              refine WO.nil ?_
              refine blockL_n ?_
              refine thenL_n ?_
              refine WC.region ?_
              refine WO.bin rfl rfl (by decide) (by decide) rfl ?_
              refine WO.mv rfl ?_
              refine WO.nil ?_
              refine thenL_n ?_
              obtain rfl := someI h
              exact ⟨_, rfl, ⟨S107, rfl, rfl, (Cov.cons rfl (Cov.cons rfl (Cov.cons rfl (Cov.cons rfl (Cov.cons rfl (Cov.cons rfl (Cov.cons rfl (Cov.cons rfl (Cov.cons rfl (Cov.cons rfl (Cov.nil _))))))))))), hot1, ho6, hot0, ho33⟩⟩
        · have h := iteF q54 h
          refine WC.exit ?_
          refine thenL_e ?_
          refine thenL_e ?_
          obtain rfl := someI h
          exact ⟨_, rfl, rfl, ⟨S52, rfl, rfl, (Cov.cons rfl (Cov.cons rfl (Cov.cons rfl (Cov.cons rfl (Cov.cons rfl (Cov.nil _)))))), hot1, ho6, hot0⟩⟩
      cases b109 with
      | inl b111 =>
        simp only at h
        rintro _ _ _ _ ⟨rfl, ⟨S112, rfl, rfl, hc113, hot1, ho6, hot0⟩⟩
        refine blockL_s ?_
        refine blockL_n ?_
        refine thenL_n ?_
        refine WC.cov hc113 ?_
        refine WC.region ?_
        refine WO.bin rfl rfl (by decide) (by decide) rfl ?_
        refine WO.mv rfl ?_
        refine WO.nil ?_
        refine thenL_n ?_
        obtain rfl := someI h
        exact ⟨_, rfl, ⟨S112, rfl, rfl, (Cov.cons rfl (Cov.cons rfl (Cov.cons rfl (Cov.cons rfl (Cov.cons rfl (Cov.nil _)))))), hot1, ho6, hot0⟩⟩
      | inr b111 =>
        simp only at h
        rintro _ _ _ _ ⟨rfl, ⟨S114, v115, rfl, rfl, hc116, ho4⟩⟩
        refine blockL_r ?_
        refine blockL_r ?_
        refine thenL_r ?_
        refine thenL_r ?_
        have ho4 := ho4.ren (j := 3)
        obtain rfl := someI h
        exact ⟨_, rfl, rfl, ⟨(S114.ren 4 3), v115, rfl, rfl, (Cov.trans hc116 (Cov.cons rfl (Cov.cons rfl (Cov.nil _)))), ho4⟩⟩
    · have h := iteF q29 h
      refine WC.exit ?_
      refine thenL_e ?_
      refine thenL_e ?_
      obtain rfl := someI h
      exact ⟨_, rfl, rfl, ⟨S27, rfl, rfl, (Cov.cons rfl (Cov.nil _)), ho6⟩⟩
  cases b117 with
  | inl b119 =>
    simp only at h
    rintro _ _ _ _ ⟨rfl, ⟨S120, rfl, rfl, hc121, ho6⟩⟩
    refine blockL_s ?_
    refine thenL_n ?_
    refine WC.cov hc121 ?_
    refine WC.seq ?_
    refine WC.region ?_
    refine WO.mv rfl ?_
    refine WO.asg rfl ?_
    refine WO.asg rfl ?_
    refine WO.nil ?_
    refine thenL_n ?_
    refine WC.ret ?_
    obtain rfl := someI h
    exact ⟨.inr rfl, _, _, rfl, rfl, ⟨v3, rfl, (ho6.fr Lay.flat_fl)⟩⟩
  | inr b119 =>
    simp only at h
    rintro _ _ _ _ ⟨rfl, ⟨S122, v123, rfl, rfl, hc124, ho4⟩⟩
    refine blockL_r ?_
    refine thenL_r ?_
    obtain rfl := someI h
    exact ⟨.inr rfl, _, _, (resK_cov hc124 rfl), rfl, ⟨v123, rfl, (ho4.fr Lay.flat_fl)⟩⟩
end Go.Proofs.Ytdkmepeolmdccaa

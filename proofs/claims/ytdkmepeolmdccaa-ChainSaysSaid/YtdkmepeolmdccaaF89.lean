/- The machine answers F89: printed by a program of ours (gen.py). -/
import Derived.Test.YtdkmepeolmdccaaDef
import Derived.Test.YtdkmepeolmdccaaEnv
import Derived.Test.YtdkmepeolmdccaaF109
import Derived.Test.YtdkmepeolmdccaaF119
import Derived.Test.YtdkmepeolmdccaaF120
import Derived.Test.YtdkmepeolmdccaaF150
import Derived.Test.YtdkmepeolmdccaaF151
import Derived.Test.YtdkmepeolmdccaaF93
set_option linter.unusedVariables false
namespace Go.Proofs.Ytdkmepeolmdccaa
open Go.Am
theorem F89.fn : E.fn 89 = some ⟨118, (Try.f89.body.getD .skip), Try.f89.results.toList, []⟩ := rfl
theorem F89_ok {F : Nat} {m : Mem} {n : Nat} {r : (List (Int × Int)) × Int} {t0 : List (List Int)} {t1 : List (Int × Int)} {vt0 : SV} {vt1 : SV} (h : F89 F t0 t1 = some r) (kt0 : Vw Y22 n m vt0 t0) (kt1 : Vw Y26 n m vt1 t1) : Ret E n 89 [.sc vt0, .sc vt1] m n (fun v m' n' => ∃ w, v = .tup [.sc w, .sc (.int .i64 r.2)] ∧ Fr Y26 n m' n' w r.1) := by
  unfold F89 at h
  refine Ret.walk F89.fn ?_
  refine WC.start fun S0 em en hz => ?_
  have hot0 := kt0.rdS em hz
  have hot1 := kt1.rdS em hz
  refine WC.seq ?_
  refine WC.region ?_
  refine WO.asg rfl ?_
  refine WO.asg rfl ?_
  refine WO.nil ?_
  refine thenL_n ?_
  refine WC.seq ?_
  refine WC.seq ?_
  refine WC.region ?_
  refine WO.mv rfl ?_
  obtain ⟨r1, e2, h⟩ := bindS h
  refine WO.callE (S := S0) rfl rfl (F93_ok e2 hot0.vw) (fun S3 c4 => ?_)
  have hot0 := hot0.to c4
  have hot1 := hot1.to c4
  refine WO.asg rfl ?_
  refine WO.nil ?_
  refine thenL_n ?_
  refine WC.seq ?_
  refine WC.region ?_
  refine WO.mv rfl ?_
  refine WO.bin rfl rfl (by decide) (by decide) rfl ?_
  refine WO.nil ?_
  refine thenL_n ?_
  refine WC.cond rfl (fun q5 => ?_) (fun q5 => ?_)
  · have h := iteT q5 h
    refine WC.seq ?_
    refine WC.region ?_
    refine WO.mv rfl ?_
    refine WO.asg rfl ?_
    refine WO.asg rfl ?_
    refine WO.nil ?_
    refine thenL_n ?_
    refine WC.ret ?_
    refine thenL_r ?_
    obtain rfl := someI h
    exact ⟨.inr rfl, _, _, rfl, rfl, ⟨.nils, rfl, Fr.nil⟩⟩
  · have h := iteF q5 h
    refine WC.skip ?_
    refine thenL_n ?_
    refine WC.seq ?_
    refine WC.seq ?_
    refine WC.region ?_
    refine WO.mv rfl ?_
    refine WO.lenS rfl hot1.slv rfl ?_
    refine WO.mv rfl ?_
    refine WO.lenS rfl hot0.slv rfl ?_
    refine WO.bin rfl rfl (by decide) (by decide) rfl ?_
    refine WO.nil ?_
    refine thenL_n ?_
    refine WC.cond rfl (fun q6 => ?_) (fun q6 => ?_)
    · have h := iteT q6 h
      refine WC.seq ?_
      refine WC.region ?_
      refine WO.asg rfl ?_
      refine WO.asg rfl ?_
      refine WO.nil ?_
      refine thenL_n ?_
      refine WC.ret ?_
      refine thenL_r ?_
      obtain rfl := someI h
      exact ⟨.inr rfl, _, _, rfl, rfl, ⟨.nils, rfl, Fr.nil⟩⟩
    · have h := iteF q6 h
      refine WC.skip ?_
      refine thenL_n ?_
      refine WC.seq ?_
      refine WC.seq ?_
      refine WC.region ?_
      refine WO.mv rfl ?_
      refine WO.lenS rfl hot1.slv rfl ?_
      refine WO.mv rfl ?_
      refine WO.nil ?_
      refine thenL_n ?_
      refine WC.block ?_
      obtain ⟨b29, e30, h⟩ := bindS h
      refine WC.loopD e30 (fun s7 l' m' n' => ∃ S8 : Cx n, S8.m = m' ∧ S8.n = n' ∧ Cov l' [(0, .sc vt0), (1, .sc vt1), (30, .sc vt1), (31, .sc (.int .i64 ((t1.length : Int)))), (32, .sc (.int .i64 s7))] ∧ Rd Y22 S8 vt0 t0 ∧ Rd Y26 S8 vt1 t1) (fun b e l' m' n' => (match b with | .inl b9 => e = .exit 0 ∧ ∃ S10 : Cx n, S10.m = m' ∧ S10.n = n' ∧ Cov l' [(0, .sc vt0), (1, .sc vt1)] ∧ Rd Y22 S10 vt0 t0 ∧ Rd Y26 S10 vt1 t1 | .inr b9 => e = .ret ∧ ∃ S11 : Cx n, ∃ v12 : SV, S11.m = m' ∧ S11.n = n' ∧ Cov l' [(4, .sc v12), (5, .sc (.int .i64 b9.2))] ∧ Ow Y26 S11 2 v12 b9.1)) (by exact ⟨S3, rfl, rfl, (Cov.cons rfl (Cov.cons rfl (Cov.cons rfl (Cov.cons rfl (Cov.cons rfl (Cov.nil _)))))), hot0, hot1⟩) ?_ ?_
      · clear h
        rintro s7 q _ _ _ ⟨S13, rfl, rfl, hc14, hot0, hot1⟩ h
        unfold F89_l0 at h
        refine WC.cov hc14 ?_
        refine WC.seq ?_
        refine WC.region ?_
        refine WO.bin rfl rfl (by decide) (by decide) rfl ?_
        refine WO.nil ?_
        refine thenL_n ?_
        refine WC.seq ?_
        refine WC.cond rfl (fun q15 => ?_) (fun q15 => ?_)
        · have h := iteT q15 h
          refine WC.skip ?_
          refine thenL_n ?_
          refine WC.seq ?_
          refine WC.block ?_
          refine WC.seq ?_
          refine WC.region ?_
          obtain ⟨x16, e17, h⟩ := bindS h
          refine WO.ixS rfl rfl hot1.slv (at?_lt e17) rfl ?_
          refine WO.ldA rfl hot1.ro (fun _ hi => hi) (at?_get e17) rfl rfl ?_
          refine WO.alS (A := Y26) (S := S13) (z0 := (0, 0)) 3 rfl rfl rfl (fun v18 S19 c20 ho21 => ?_)
          have hot0 := hot0.to c20
          have hot1 := hot1.to c20
          refine WO.stBA (u' := (x16.1, x16.2)) rfl ho21.at0 rfl ho21 rfl rfl (fun S22 c23 ho21 => ?_)
          have hot0 := hot0.to c23
          have hot1 := hot1.to c23
          refine WO.nil ?_
          refine thenL_n ?_
          refine WC.seq ?_
          refine WC.region ?_
          refine WO.ldBA (j := 0) rfl ho21.at0 ho21 rfl rfl ?_
          obtain ⟨r24, e25, h⟩ := bindS h
          refine WO.callE (S := S22) rfl rfl (F150_ok e25) (fun S26 c27 => ?_)
          have hot0 := hot0.to c27
          have hot1 := hot1.to c27
          have ho21 := ho21.to c27
          refine WO.asg rfl ?_
          refine WO.nil ?_
          refine thenL_n ?_
          refine WC.seq ?_
          refine WC.region ?_
          refine WO.mv rfl ?_
          refine WO.bin rfl rfl (by decide) (by decide) rfl ?_
          refine WO.nil ?_
          refine thenL_n ?_
          refine WC.cond rfl (fun q28 => ?_) (fun q28 => ?_)
          · have h := iteT q28 h
            refine WC.seq ?_
            refine WC.region ?_
            refine WO.mv rfl ?_
            refine WO.asg rfl ?_
            refine WO.asg rfl ?_
            refine WO.nil ?_
            refine thenL_n ?_
            refine WC.ret ?_
            refine blockL_r ?_
            refine thenL_r ?_
            refine thenL_r ?_
            obtain rfl := someI h
            exact ⟨_, rfl, rfl, ⟨S26, .nils, rfl, rfl, (Cov.cons rfl (Cov.cons rfl (Cov.nil _))), Ow.nil⟩⟩
          · have h := iteF q28 h
            refine WC.skip ?_
            refine blockL_n ?_
            refine thenL_n ?_
            refine WC.region ?_
            refine WO.bin rfl rfl (by decide) (by decide) rfl ?_
            refine WO.mv rfl ?_
            refine WO.nil ?_
            refine thenL_n ?_
            obtain rfl := someI h
            exact ⟨_, rfl, ⟨S26, rfl, rfl, (Cov.cons rfl (Cov.cons rfl (Cov.cons rfl (Cov.cons rfl (Cov.cons rfl (Cov.nil _)))))), hot0, hot1⟩⟩
        · have h := iteF q15 h
          refine WC.exit ?_
          refine thenL_e ?_
          refine thenL_e ?_
          obtain rfl := someI h
          exact ⟨_, rfl, rfl, ⟨S13, rfl, rfl, (Cov.cons rfl (Cov.cons rfl (Cov.nil _))), hot0, hot1⟩⟩
      cases b29 with
      | inl b31 =>
        simp only at h
        rintro _ _ _ _ ⟨rfl, ⟨S32, rfl, rfl, hc33, hot0, hot1⟩⟩
        refine blockL_s ?_
        refine thenL_n ?_
        refine WC.cov hc33 ?_
        refine WC.seq ?_
        refine WC.region ?_
        refine WO.mv rfl ?_
        refine WO.lenS rfl hot0.slv rfl ?_
        obtain ⟨L34, e35, h⟩ := bindS h
        refine WO.mkS (A := Y26) (S := S32) 4 rfl rfl e35 rfl rfl rfl (fun v36 S37 c38 ho39 => ?_)
        have hot0 := hot0.to c38
        have hot1 := hot1.to c38
        refine WO.asg rfl ?_
        refine WO.nil ?_
        refine thenL_n ?_
        refine WC.seq ?_
        refine WC.seq ?_
        refine WC.region ?_
        refine WO.mv rfl ?_
        refine WO.lenS rfl ho39.slv rfl ?_
        refine WO.mv rfl ?_
        refine WO.nil ?_
        refine thenL_n ?_
        refine WC.block ?_
        obtain ⟨b50, e51, h⟩ := bindS h
        refine WC.loopD e51 (fun s40 l' m' n' => ∃ S41 : Cx n, S41.m = m' ∧ S41.n = n' ∧ Cov l' [(0, .sc vt0), (1, .sc vt1), (10, .sc v36), (46, .sc (.int .i64 ((L34.length : Int)))), (47, .sc (.int .i64 s40.1))] ∧ Rd Y22 S41 vt0 t0 ∧ Rd Y26 S41 vt1 t1 ∧ Ow Y26 S41 4 v36 s40.2) (fun b e l' m' n' => e = .exit 2 ∧ ∃ S42 : Cx n, S42.m = m' ∧ S42.n = n' ∧ Cov l' [(0, .sc vt0), (1, .sc vt1), (10, .sc v36)] ∧ Rd Y22 S42 vt0 t0 ∧ Rd Y26 S42 vt1 t1 ∧ Ow Y26 S42 4 v36 b) (by exact ⟨S37, rfl, rfl, (Cov.cons rfl (Cov.cons rfl (Cov.cons rfl (Cov.cons rfl (Cov.cons rfl (Cov.nil _)))))), hot0, hot1, ho39⟩) ?_ ?_
        · clear h
          rintro s40 q _ _ _ ⟨S43, rfl, rfl, hc44, hot0, hot1, ho39⟩ h
          unfold F89_l1 at h
          refine WC.cov hc44 ?_
          refine WC.seq ?_
          refine WC.region ?_
          refine WO.bin rfl rfl (by decide) (by decide) rfl ?_
          refine WO.nil ?_
          refine thenL_n ?_
          refine WC.seq ?_
          refine WC.cond rfl (fun q45 => ?_) (fun q45 => ?_)
          · have h := iteT q45 h
            refine WC.skip ?_
            refine thenL_n ?_
            refine WC.seq ?_
            refine WC.block ?_
            refine WC.seq ?_
            refine WC.region ?_
            refine WO.mv rfl ?_
            refine WO.asg rfl ?_
            refine WO.nil ?_
            refine thenL_n ?_
            refine WC.region ?_
            refine WO.mv rfl ?_
            refine WO.mv rfl ?_
            obtain ⟨x46, e47, h⟩ := bindS h
            refine WO.ixS rfl rfl ho39.slv (at?_lt e47) rfl ?_
            refine WO.fldS rfl rfl (SlV.ptr ho39.slv (at?_nat e47)) rfl rfl rfl (by decide) ?_
            refine WO.stF (q := 1) (u' := (x46.1, 1)) rfl rfl ho39 (at?_get e47) rfl (by decide) rfl rfl (fun S48 c49 ho39 => ?_)
            have hot0 := hot0.to c49
            have hot1 := hot1.to c49
            refine WO.nil ?_
            refine blockL_n ?_
            refine thenL_n ?_
            refine WC.region ?_
            refine WO.bin rfl rfl (by decide) (by decide) rfl ?_
            refine WO.mv rfl ?_
            refine WO.nil ?_
            refine thenL_n ?_
            obtain rfl := someI h
            exact ⟨_, rfl, ⟨S48, rfl, rfl, (Cov.cons rfl (Cov.cons rfl (Cov.cons rfl (Cov.cons rfl (Cov.cons rfl (Cov.nil _)))))), hot0, hot1, ho39⟩⟩
          · have h := iteF q45 h
            refine WC.exit ?_
            refine thenL_e ?_
            refine thenL_e ?_
            obtain rfl := someI h
            exact ⟨_, rfl, rfl, ⟨S43, rfl, rfl, (Cov.cons rfl (Cov.cons rfl (Cov.cons rfl (Cov.nil _)))), hot0, hot1, ho39⟩⟩
        rintro _ _ _ _ ⟨rfl, ⟨S52, rfl, rfl, hc53, hot0, hot1, ho39⟩⟩
        refine blockL_s ?_
        refine thenL_n ?_
        refine WC.cov hc53 ?_
        refine WC.seq ?_
        refine WC.seq ?_
        refine WC.region ?_
        refine WO.mv rfl ?_
        refine WO.lenS rfl hot0.slv rfl ?_
        refine WO.mv rfl ?_
        refine WO.nil ?_
        refine thenL_n ?_
        refine WC.block ?_
        obtain ⟨b138, e139, h⟩ := bindS h
        refine WC.loopD e139 (fun s54 l' m' n' => ∃ S55 : Cx n, S55.m = m' ∧ S55.n = n' ∧ Cov l' [(1, .sc vt1), (10, .sc v36), (55, .sc vt0), (56, .sc (.int .i64 ((t0.length : Int)))), (57, .sc (.int .i64 s54.1))] ∧ Rd Y26 S55 vt1 t1 ∧ Ow Y26 S55 4 v36 s54.2 ∧ Rd Y22 S55 vt0 t0) (fun b e l' m' n' => (match b with | .inl b56 => e = .exit 4 ∧ ∃ S57 : Cx n, S57.m = m' ∧ S57.n = n' ∧ Cov l' [(10, .sc v36)] ∧ Ow Y26 S57 4 v36 b56 | .inr b56 => e = .ret ∧ ∃ S58 : Cx n, ∃ v59 : SV, S58.m = m' ∧ S58.n = n' ∧ Cov l' [(4, .sc v59), (5, .sc (.int .i64 b56.2))] ∧ Ow Y26 S58 5 v59 b56.1)) (by exact ⟨S52, rfl, rfl, (Cov.cons rfl (Cov.cons rfl (Cov.cons rfl (Cov.cons rfl (Cov.cons rfl (Cov.nil _)))))), hot1, ho39, hot0⟩) ?_ ?_
        · clear h
          rintro s54 q _ _ _ ⟨S60, rfl, rfl, hc61, hot1, ho39, hot0⟩ h
          unfold F89_l3 at h
          refine WC.cov hc61 ?_
          refine WC.seq ?_
          refine WC.region ?_
          refine WO.bin rfl rfl (by decide) (by decide) rfl ?_
          refine WO.nil ?_
          refine thenL_n ?_
          refine WC.seq ?_
          refine WC.cond rfl (fun q62 => ?_) (fun q62 => ?_)
          · have h := iteT q62 h
            refine WC.skip ?_
            refine thenL_n ?_
            refine WC.seq ?_
            refine WC.block ?_
            refine WC.seq ?_
            refine WC.region ?_
            refine WO.mv rfl ?_
            obtain ⟨L63, e64, h⟩ := bindS h
            refine WO.ixS rfl rfl hot0.slv (at?_lt e64) rfl ?_
            refine WO.ldS rfl hot0.ro (fun _ hi => hi) (at?_get e64) rfl rfl (fun v65 ho66 => ?_)
            have ho66 : Rd Y3 S60 v65 L63 := ho66
            refine WO.asg rfl ?_
            refine WO.asg rfl ?_
            refine WO.nil ?_
            refine thenL_n ?_
            refine WC.seq ?_
            refine WC.region ?_
            refine WO.mv rfl ?_
            obtain ⟨r67, e68, h⟩ := bindS h
            refine WO.callE (S := S60) rfl rfl (F151_ok e68 ho66.vw) (fun S69 c70 => ?_)
            have hot1 := hot1.to c70
            have ho39 := ho39.to c70
            have hot0 := hot0.to c70
            have ho66 := ho66.to c70
            refine WO.asg rfl ?_
            refine WO.nil ?_
            refine thenL_n ?_
            refine WC.seq ?_
            refine WC.region ?_
            refine WO.mv rfl ?_
            refine WO.lenS rfl ho66.slv rfl ?_
            refine WO.mv rfl ?_
            refine WO.nil ?_
            refine thenL_n ?_
            refine WC.block ?_
            obtain ⟨b130, e131, h⟩ := bindS h
            refine WC.loopD e131 (fun s71 l' m' n' => ∃ S72 : Cx n, S72.m = m' ∧ S72.n = n' ∧ Cov l' [(1, .sc vt1), (10, .sc v36), (12, .sc (.int .i64 s54.1)), (14, .sc (.int .i64 r67)), (55, .sc vt0), (56, .sc (.int .i64 ((t0.length : Int)))), (57, .sc (.int .i64 s54.1)), (64, .sc v65), (65, .sc (.int .i64 ((L63.length : Int)))), (66, .sc (.int .i64 s71.1))] ∧ Rd Y26 S72 vt1 t1 ∧ Ow Y26 S72 4 v36 s71.2 ∧ Rd Y22 S72 vt0 t0 ∧ Rd Y3 S72 v65 L63) (fun b e l' m' n' => (match b with | .inl b73 => e = .exit 6 ∧ ∃ S74 : Cx n, S74.m = m' ∧ S74.n = n' ∧ Cov l' [(1, .sc vt1), (10, .sc v36), (55, .sc vt0), (56, .sc (.int .i64 ((t0.length : Int)))), (57, .sc (.int .i64 s54.1))] ∧ Rd Y26 S74 vt1 t1 ∧ Ow Y26 S74 4 v36 b73 ∧ Rd Y22 S74 vt0 t0 | .inr b73 => e = .ret ∧ ∃ S75 : Cx n, ∃ v76 : SV, S75.m = m' ∧ S75.n = n' ∧ Cov l' [(4, .sc v76), (5, .sc (.int .i64 b73.2))] ∧ Ow Y26 S75 6 v76 b73.1)) (by exact ⟨S69, rfl, rfl, (Cov.cons rfl (Cov.cons rfl (Cov.cons rfl (Cov.cons rfl (Cov.cons rfl (Cov.cons rfl (Cov.cons rfl (Cov.cons rfl (Cov.cons rfl (Cov.cons rfl (Cov.nil _))))))))))), hot1, ho39, hot0, ho66⟩) ?_ ?_
            · clear h
              rintro s71 q _ _ _ ⟨S77, rfl, rfl, hc78, hot1, ho39, hot0, ho66⟩ h
              unfold F89_l2 at h
              refine WC.cov hc78 ?_
              refine WC.seq ?_
              refine WC.region ?_
              refine WO.bin rfl rfl (by decide) (by decide) rfl ?_
              refine WO.nil ?_
              refine thenL_n ?_
              refine WC.seq ?_
              refine WC.cond rfl (fun q79 => ?_) (fun q79 => ?_)
              · have h := iteT q79 h
                refine WC.skip ?_
                refine thenL_n ?_
                refine WC.seq ?_
                refine WC.block ?_
                refine WC.seq ?_
                refine WC.region ?_
                refine WO.mv rfl ?_
                obtain ⟨x80, e81, h⟩ := bindS h
                refine WO.ixS rfl rfl ho66.slv (at?_lt e81) rfl ?_
                refine WO.ldF rfl ho66.ro (fun _ hi => hi) (at?_get e81) rfl rfl rfl ?_
                refine WO.asg rfl ?_
                refine WO.asg rfl ?_
                refine WO.nil ?_
                refine thenL_n ?_
                refine WC.seq ?_
                refine WC.region ?_
                refine WO.mv rfl ?_
                refine WO.mv rfl ?_
                refine WO.do rfl rfl ?_
                refine WO.alS (A := Y26) (S := S77) (z0 := (0, 0)) 7 rfl rfl rfl (fun v82 S83 c84 ho85 => ?_)
                have hot1 := hot1.to c84
                have ho39 := ho39.to c84
                have hot0 := hot0.to c84
                have ho66 := ho66.to c84
                refine WO.stBA (u' := (x80, r67)) rfl ho85.at0 rfl ho85 rfl rfl (fun S86 c87 ho85 => ?_)
                have hot1 := hot1.to c87
                have ho39 := ho39.to c87
                have hot0 := hot0.to c87
                have ho66 := ho66.to c87
                refine WO.nil ?_
                refine thenL_n ?_
                refine WC.seq ?_
                refine WC.seq ?_
                refine WC.region ?_
                refine WO.mv rfl ?_
                refine WO.bin rfl rfl (by decide) (by decide) rfl ?_
                refine WO.nil ?_
                refine thenL_n ?_
                obtain ⟨b94, e95, h⟩ := bindS h
                refine WC.mono (Q' := (fun b e l' m' n' => e = .normal ∧ ∃ S96 : Cx n, S96.m = m' ∧ S96.n = n' ∧ Cov l' [(1, .sc vt1), (10, .sc v36), (12, .sc (.int .i64 s54.1)), (14, .sc (.int .i64 r67)), (15, .sc (.int .i64 s71.1)), (17, .sc v82), (55, .sc vt0), (56, .sc (.int .i64 ((t0.length : Int)))), (57, .sc (.int .i64 s54.1)), (64, .sc v65), (65, .sc (.int .i64 ((L63.length : Int)))), (66, .sc (.int .i64 s71.1))] ∧ Rd Y26 S96 vt1 t1 ∧ Ow Y26 S96 4 v36 s71.2 ∧ Bk Y26 S96 7 v82 b ∧ Rd Y22 S96 vt0 t0 ∧ Rd Y3 S96 v65 L63) b94) ?_ ?_
                · have h := e95
                  dsimp only at h ⊢
                  refine WC.cond rfl (fun q88 => ?_) (fun q88 => ?_)
                  · have h := iteT q88 h
                    refine WC.seq ?_
                    refine WC.region ?_
                    refine WO.do rfl rfl ?_
                    refine WO.stBA (u' := (0, 1)) rfl ho85.at0 rfl ho85 rfl rfl (fun S89 c90 ho85 => ?_)
                    have hot1 := hot1.to c90
                    have ho39 := ho39.to c90
                    have hot0 := hot0.to c90
                    have ho66 := ho66.to c90
                    refine WO.nil ?_
                    refine thenL_n ?_
                    refine WC.seq ?_
                    refine WC.region ?_
                    refine WO.mv rfl ?_
                    refine WO.mv rfl ?_
                    refine WO.bin rfl rfl (by decide) (by decide) rfl ?_
                    refine WO.nil ?_
                    refine thenL_n ?_
                    refine WC.cond rfl (fun q91 => ?_) (fun q91 => ?_)
                    · have h := iteT q91 h
                      refine WC.region ?_
                      refine WO.fldS (j := 0) (q := 0) rfl ho85.at0 ho85.ptr rfl rfl rfl (by decide) ?_
                      refine WO.stB (j := 0) (q := 0) (u' := (1, ((0, 1)).2)) rfl rfl rfl ho85 rfl (by decide) rfl rfl (fun S92 c93 ho85 => ?_)
                      have hot1 := hot1.to c93
                      have ho39 := ho39.to c93
                      have hot0 := hot0.to c93
                      have ho66 := ho66.to c93
                      refine WO.nil ?_
                      obtain rfl := someI h
                      exact ⟨rfl, ⟨S92, rfl, rfl, (Cov.cons rfl (Cov.cons rfl (Cov.cons rfl (Cov.cons rfl (Cov.cons rfl (Cov.cons rfl (Cov.cons rfl (Cov.cons rfl (Cov.cons rfl (Cov.cons rfl (Cov.cons rfl (Cov.cons rfl (Cov.nil _))))))))))))), hot1, ho39, ho85, hot0, ho66⟩⟩
                    · have h := iteF q91 h
                      refine WC.skip ?_
                      obtain rfl := someI h
                      exact ⟨rfl, ⟨S89, rfl, rfl, (Cov.cons rfl (Cov.cons rfl (Cov.cons rfl (Cov.cons rfl (Cov.cons rfl (Cov.cons rfl (Cov.cons rfl (Cov.cons rfl (Cov.cons rfl (Cov.cons rfl (Cov.cons rfl (Cov.cons rfl (Cov.nil _))))))))))))), hot1, ho39, ho85, hot0, ho66⟩⟩
                  · have h := iteF q88 h
                    refine WC.skip ?_
                    obtain rfl := someI h
                    exact ⟨rfl, ⟨S86, rfl, rfl, (Cov.cons rfl (Cov.cons rfl (Cov.cons rfl (Cov.cons rfl (Cov.cons rfl (Cov.cons rfl (Cov.cons rfl (Cov.cons rfl (Cov.cons rfl (Cov.cons rfl (Cov.cons rfl (Cov.cons rfl (Cov.nil _))))))))))))), hot1, ho39, ho85, hot0, ho66⟩⟩
                dsimp only
                rintro _ _ _ _ ⟨rfl, ⟨S97, rfl, rfl, hc98, hot1, ho39, ho85, hot0, ho66⟩⟩
                refine thenL_n ?_
                refine WC.cov hc98 ?_
                refine WC.seq ?_
                refine WC.region ?_
                refine WO.fldS (j := 0) (q := 0) rfl ho85.at0 ho85.ptr rfl rfl rfl (by decide) ?_
                refine WO.ldB (j := 0) (q := 0) rfl rfl ho85 rfl rfl rfl ?_
                refine WO.fldS (j := 0) (q := 0) rfl ho85.at0 ho85.ptr rfl rfl rfl (by decide) ?_
                refine WO.ldB (j := 0) (q := 1) rfl rfl ho85 rfl rfl rfl ?_
                obtain ⟨r99, e100, h⟩ := bindS h
                refine WO.callE (S := S97) rfl rfl (F109_ok e100) (fun S101 c102 => ?_)
                have hot1 := hot1.to c102
                have ho39 := ho39.to c102
                have ho85 := ho85.to c102
                have hot0 := hot0.to c102
                have ho66 := ho66.to c102
                refine WO.mv rfl ?_
                refine WO.do rfl rfl ?_
                refine WO.do rfl rfl ?_
                refine WO.stBA (u' := (r99.1.1, r99.1.2)) rfl ho85.at0 rfl ho85 rfl rfl (fun S103 c104 ho85 => ?_)
                have hot1 := hot1.to c104
                have ho39 := ho39.to c104
                have hot0 := hot0.to c104
                have ho66 := ho66.to c104
                refine WO.nil ?_
                refine thenL_n ?_
                refine WC.seq ?_
                refine WC.drawN rfl ?_
                have hot1z := hot1.oz
                have ho39z := ho39.oz
                have hot0z := hot0.oz
                have ho66z := ho66.oz
                refine WO.mv rfl ?_
                refine WO.mv rfl ?_
                obtain ⟨x105, e106, h⟩ := bindS h
                refine WO.ixS rfl rfl hot1.slv (at?_lt e106) rfl ?_
                refine WO.ldA rfl hot1z (fun _ hi => hi.1) (at?_get e106) rfl (limLe_self _) ?_
                refine WO.ldBA (j := 0) rfl ho85.at0 ho85 rfl (limLe_self _) ?_
                obtain ⟨r107, e108, h⟩ := bindS h
                refine WO.callE (S := S103) rfl rfl (F119_ok e108) (fun S109 c110 => ?_)
                have hot1z := hot1z.toz c110
                have ho39z := ho39z.tow c110
                have hot0z := hot0z.toz c110
                have ho66z := ho66z.toz c110
                have hot1 := hot1.to c110
                have ho39 := ho39.to c110
                have ho85 := ho85.to c110
                have hot0 := hot0.to c110
                have ho66 := ho66.to c110
                refine WO.mv rfl ?_
                refine WO.do rfl rfl ?_
                refine WO.do rfl rfl ?_
                refine WO.alS (A := Y26) (S := S109) (z0 := (0, 0)) 8 rfl rfl rfl (fun v111 S112 c113 ho114 => ?_)
                have hot1z := hot1z.toz c113
                have ho39z := ho39z.tow c113
                have hot0z := hot0z.toz c113
                have ho66z := ho66z.toz c113
                have hot1 := hot1.to c113
                have ho39 := ho39.to c113
                have ho85 := ho85.to c113
                have hot0 := hot0.to c113
                have ho66 := ho66.to c113
                refine WO.stBA (u' := (r107.1.1, r107.1.2)) rfl ho114.at0 rfl ho114 rfl rfl (fun S115 c116 ho114 => ?_)
                have hot1z := hot1z.toz c116
                have ho39z := ho39z.tow c116
                have hot0z := hot0z.toz c116
                have ho66z := ho66z.toz c116
                have hot1 := hot1.to c116
                have ho39 := ho39.to c116
                have ho85 := ho85.to c116
                have hot0 := hot0.to c116
                have ho66 := ho66.to c116
                refine WO.asg rfl ?_
                refine WO.nil ?_
                refine thenL_n ?_
                refine WC.seq ?_
                refine WC.seq ?_
                refine WC.region ?_
                refine WO.mv rfl ?_
                refine WO.bin rfl rfl (by decide) (by decide) rfl ?_
                refine WO.nil ?_
                refine thenL_n ?_
                refine WC.cond rfl (fun q117 => ?_) (fun q117 => ?_)
                · have h := iteT q117 h
                  refine WC.drawN rfl ?_
                  have hot1z := hot1.oz
                  have ho39z := ho39.oz
                  have hot0z := hot0.oz
                  have ho66z := ho66.oz
                  refine WO.mv rfl ?_
                  refine WO.mv rfl ?_
                  refine WO.mv rfl ?_
                  refine WO.mv rfl ?_
                  obtain ⟨x118, e119, h⟩ := bindS h
                  refine WO.ixS rfl rfl ho39.slv (at?_lt e119) rfl ?_
                  refine WO.ldA rfl ho39z (fun _ hi => hi.1) (at?_get e119) rfl (limLe_self _) ?_
                  refine WO.ldBA (j := 0) rfl ho114.at0 ho114 rfl (limLe_self _) ?_
                  obtain ⟨r120, e121, h⟩ := bindS h
                  refine WO.callE (S := S115) rfl rfl (F120_ok e121) (fun S122 c123 => ?_)
                  have hot1z := hot1z.toz c123
                  have ho39z := ho39z.tow c123
                  have hot0z := hot0z.toz c123
                  have ho66z := ho66z.toz c123
                  have hot1 := hot1.to c123
                  have ho39 := ho39.to c123
                  have ho85 := ho85.to c123
                  have hot0 := hot0.to c123
                  have ho66 := ho66.to c123
                  have ho114 := ho114.to c123
                  refine WO.mv rfl ?_
                  refine WO.do rfl rfl ?_
                  refine WO.do rfl rfl ?_
                  obtain ⟨u124, e125, h⟩ := bindS h
                  refine WO.ixS rfl rfl ho39.slv (ck_some e125) rfl ?_
                  refine WO.stA (u' := (r120.1.1, r120.1.2)) rfl rfl ho39 (ck_nat e125) rfl rfl (fun S126 c127 ho39 => ?_)
                  have hot1z := hot1z.toz c127
                  have hot0z := hot0z.toz c127
                  have ho66z := ho66z.toz c127
                  have hot1 := hot1.to c127
                  have ho85 := ho85.to c127
                  have hot0 := hot0.to c127
                  have ho66 := ho66.to c127
                  have ho114 := ho114.to c127
                  refine WO.asg rfl ?_
                  refine WO.nil ?_
                  refine thenL_n ?_
                  refine WC.seq ?_
                  refine WC.region ?_
                  refine WO.mv rfl ?_
                  refine WO.bin rfl rfl (by decide) (by decide) rfl ?_
                  refine WO.nil ?_
                  refine thenL_n ?_
                  refine WC.cond rfl (fun q128 => ?_) (fun q128 => ?_)
                  · have h := iteT q128 h
                    refine WC.seq ?_
                    refine WC.region ?_
                    refine WO.mv rfl ?_
                    refine WO.asg rfl ?_
                    refine WO.asg rfl ?_
                    refine WO.nil ?_
                    refine thenL_n ?_
                    refine WC.ret ?_
                    refine blockL_r ?_
                    refine thenL_r ?_
                    refine thenL_r ?_
                    obtain rfl := someI h
                    exact ⟨_, rfl, rfl, ⟨S126, .nils, rfl, rfl, (Cov.cons rfl (Cov.cons rfl (Cov.nil _))), Ow.nil⟩⟩
                  · have h := iteF q128 h
                    refine WC.skip ?_
                    refine blockL_n ?_
                    refine thenL_n ?_
                    refine WC.region ?_
                    refine WO.bin rfl rfl (by decide) (by decide) rfl ?_
                    refine WO.mv rfl ?_
                    refine WO.nil ?_
                    refine thenL_n ?_
                    obtain rfl := someI h
                    exact ⟨_, rfl, ⟨S126, rfl, rfl, (Cov.cons rfl (Cov.cons rfl (Cov.cons rfl (Cov.cons rfl (Cov.cons rfl (Cov.cons rfl (Cov.cons rfl (Cov.cons rfl (Cov.cons rfl (Cov.cons rfl (Cov.nil _))))))))))), hot1, ho39, hot0, ho66⟩⟩
                · have h := iteF q117 h
                  refine WC.skip ?_
                  refine thenL_n ?_
                  refine WC.seq ?_
                  refine WC.region ?_
                  refine WO.mv rfl ?_
                  refine WO.bin rfl rfl (by decide) (by decide) rfl ?_
                  refine WO.nil ?_
                  refine thenL_n ?_
                  refine WC.cond rfl (fun q129 => ?_) (fun q129 => ?_)
                  · have h := iteT q129 h
                    refine WC.seq ?_
                    refine WC.region ?_
                    refine WO.mv rfl ?_
                    refine WO.asg rfl ?_
                    refine WO.asg rfl ?_
                    refine WO.nil ?_
                    refine thenL_n ?_
                    refine WC.ret ?_
                    refine blockL_r ?_
                    refine thenL_r ?_
                    refine thenL_r ?_
                    obtain rfl := someI h
                    exact ⟨_, rfl, rfl, ⟨S115, .nils, rfl, rfl, (Cov.cons rfl (Cov.cons rfl (Cov.nil _))), Ow.nil⟩⟩
                  · have h := iteF q129 h
                    refine WC.skip ?_
                    refine blockL_n ?_
                    refine thenL_n ?_
                    refine WC.region ?_
                    refine WO.bin rfl rfl (by decide) (by decide) rfl ?_
                    refine WO.mv rfl ?_
                    refine WO.nil ?_
                    refine thenL_n ?_
                    obtain rfl := someI h
                    exact ⟨_, rfl, ⟨S115, rfl, rfl, (Cov.cons rfl (Cov.cons rfl (Cov.cons rfl (Cov.cons rfl (Cov.cons rfl (Cov.cons rfl (Cov.cons rfl (Cov.cons rfl (Cov.cons rfl (Cov.cons rfl (Cov.nil _))))))))))), hot1, ho39, hot0, ho66⟩⟩
              · have h := iteF q79 h
                refine WC.exit ?_
                refine thenL_e ?_
                refine thenL_e ?_
                obtain rfl := someI h
                exact ⟨_, rfl, rfl, ⟨S77, rfl, rfl, (Cov.cons rfl (Cov.cons rfl (Cov.cons rfl (Cov.cons rfl (Cov.cons rfl (Cov.nil _)))))), hot1, ho39, hot0⟩⟩
            cases b130 with
            | inl b132 =>
              simp only at h
              rintro _ _ _ _ ⟨rfl, ⟨S133, rfl, rfl, hc134, hot1, ho39, hot0⟩⟩
              refine blockL_s ?_
              refine blockL_n ?_
              refine thenL_n ?_
              refine WC.cov hc134 ?_
              refine WC.region ?_
              refine WO.bin rfl rfl (by decide) (by decide) rfl ?_
              refine WO.mv rfl ?_
              refine WO.nil ?_
              refine thenL_n ?_
              obtain rfl := someI h
              exact ⟨_, rfl, ⟨S133, rfl, rfl, (Cov.cons rfl (Cov.cons rfl (Cov.cons rfl (Cov.cons rfl (Cov.cons rfl (Cov.nil _)))))), hot1, ho39, hot0⟩⟩
            | inr b132 =>
              simp only at h
              rintro _ _ _ _ ⟨rfl, ⟨S135, v136, rfl, rfl, hc137, ho4⟩⟩
              refine blockL_r ?_
              refine blockL_r ?_
              refine thenL_r ?_
              refine thenL_r ?_
              have ho4 := ho4.ren (j := 5)
              obtain rfl := someI h
              exact ⟨_, rfl, rfl, ⟨(S135.ren 6 5), v136, rfl, rfl, (Cov.trans hc137 (Cov.cons rfl (Cov.cons rfl (Cov.nil _)))), ho4⟩⟩
          · have h := iteF q62 h
            refine WC.exit ?_
            refine thenL_e ?_
            refine thenL_e ?_
            obtain rfl := someI h
            exact ⟨_, rfl, rfl, ⟨S60, rfl, rfl, (Cov.cons rfl (Cov.nil _)), ho39⟩⟩
        cases b138 with
        | inl b140 =>
          simp only at h
          rintro _ _ _ _ ⟨rfl, ⟨S141, rfl, rfl, hc142, ho39⟩⟩
          refine blockL_s ?_
          refine thenL_n ?_
          refine WC.cov hc142 ?_
          refine WC.seq ?_
          refine WC.region ?_
          refine WO.mv rfl ?_
          refine WO.asg rfl ?_
          refine WO.asg rfl ?_
          refine WO.nil ?_
          refine thenL_n ?_
          refine WC.ret ?_
          obtain rfl := someI h
          exact ⟨.inr rfl, _, _, rfl, rfl, ⟨v36, rfl, (ho39.fr Lay.flat_fl)⟩⟩
        | inr b140 =>
          simp only at h
          rintro _ _ _ _ ⟨rfl, ⟨S143, v144, rfl, rfl, hc145, ho4⟩⟩
          refine blockL_r ?_
          refine thenL_r ?_
          obtain rfl := someI h
          exact ⟨.inr rfl, _, _, (resK_cov hc145 rfl), rfl, ⟨v144, rfl, (ho4.fr Lay.flat_fl)⟩⟩
      | inr b31 =>
        simp only at h
        rintro _ _ _ _ ⟨rfl, ⟨S146, v147, rfl, rfl, hc148, ho4⟩⟩
        refine blockL_r ?_
        refine thenL_r ?_
        obtain rfl := someI h
        exact ⟨.inr rfl, _, _, (resK_cov hc148 rfl), rfl, ⟨v147, rfl, (ho4.fr Lay.flat_fl)⟩⟩
end Go.Proofs.Ytdkmepeolmdccaa

/- The machine answers F94: printed by a program of ours (gen.py). -/
import Derived.Test.YtdkmepeolmdccaaDef
import Derived.Test.YtdkmepeolmdccaaEnv
import Derived.Test.YtdkmepeolmdccaaF154
set_option linter.unusedVariables false
namespace Go.Proofs.Ytdkmepeolmdccaa
open Go.Am
theorem F94.fn : E.fn 94 = some ⟨78, (Try.f94.body.getD .skip), Try.f94.results.toList, []⟩ := rfl
theorem F94_ok {F : Nat} {m : Mem} {n : Nat} {r : (List Int)} {t0 : List (List Int)} {vt0 : SV} (h : F94 F t0 = some r) (kt0 : Vw Y22 n m vt0 t0) : Ret E n 94 [.sc vt0] m n (fun v m' n' => ∃ w, v = .sc w ∧ Fr Y3 n m' n' w r) := by
  unfold F94 at h
  refine Ret.walk F94.fn ?_
  refine WC.start fun S0 em en hz => ?_
  have hot0 := kt0.rdS em hz
  refine WC.seq ?_
  refine WC.region ?_
  refine WO.asg rfl ?_
  refine WO.nil ?_
  refine thenL_n ?_
  refine WC.seq ?_
  refine WC.region ?_
  refine WO.asg rfl ?_
  refine WO.nil ?_
  refine thenL_n ?_
  refine WC.seq ?_
  refine WC.seq ?_
  refine WC.region ?_
  refine WO.mv rfl ?_
  refine WO.lenS rfl hot0.slv rfl ?_
  refine WO.mv rfl ?_
  refine WO.nil ?_
  refine thenL_n ?_
  refine WC.block ?_
  obtain ⟨b111, e112, h⟩ := bindS h
  refine WC.loopD e112 (fun s1 l' m' n' => ∃ S3 : Cx n, ∃ v4 : SV, S3.m = m' ∧ S3.n = n' ∧ Cov l' [(0, .sc vt0), (3, .sc v4), (13, .sc (.int .i64 ((t0.length : Int)))), (14, .sc (.int .i64 s1.2))] ∧ Rd Y22 S3 vt0 t0 ∧ Ow Y3 S3 2 v4 s1.1) (fun b e l' m' n' => e = .exit 0 ∧ ∃ S5 : Cx n, ∃ v6 : SV, S5.m = m' ∧ S5.n = n' ∧ Cov l' [(3, .sc v6)] ∧ Ow Y3 S5 2 v6 b) (by exact ⟨S0, .nils, rfl, rfl, (Cov.cons rfl (Cov.cons rfl (Cov.cons rfl (Cov.cons rfl (Cov.nil _))))), hot0, Ow.nil⟩) ?_ ?_
  · clear h
    rintro s1 q _ _ _ ⟨S7, v8, rfl, rfl, hc9, hot0, ho3⟩ h
    unfold F94_l3 at h
    refine WC.cov hc9 ?_
    refine WC.seq ?_
    refine WC.region ?_
    refine WO.bin rfl rfl (by decide) (by decide) rfl ?_
    refine WO.nil ?_
    refine thenL_n ?_
    refine WC.seq ?_
    refine WC.cond rfl (fun q10 => ?_) (fun q10 => ?_)
    · have h := iteT q10 h
      refine WC.skip ?_
      refine thenL_n ?_
      refine WC.seq ?_
      refine WC.block ?_
      refine WC.seq ?_
      refine WC.region ?_
      refine WO.mv rfl ?_
      refine WO.asg rfl ?_
      refine WO.nil ?_
      refine thenL_n ?_
      refine WC.seq ?_
      refine WC.region ?_
      refine WO.asg rfl ?_
      refine WO.nil ?_
      refine thenL_n ?_
      refine WC.seq ?_
      refine WC.seq ?_
      refine WC.region ?_
      refine WO.mv rfl ?_
      refine WO.lenS rfl hot0.slv rfl ?_
      refine WO.mv rfl ?_
      refine WO.nil ?_
      refine thenL_n ?_
      refine WC.block ?_
      obtain ⟨b92, e93, h⟩ := bindS h
      refine WC.loopD e93 (fun s11 l' m' n' => ∃ S13 : Cx n, ∃ v14 : SV, S13.m = m' ∧ S13.n = n' ∧ Cov l' [(0, .sc vt0), (3, .sc v8), (4, .sc (.int .i64 s1.2)), (5, .sc v14), (13, .sc (.int .i64 ((t0.length : Int)))), (14, .sc (.int .i64 s1.2)), (18, .sc (.int .i64 ((t0.length : Int)))), (19, .sc (.int .i64 s11.2))] ∧ Rd Y22 S13 vt0 t0 ∧ Ow Y3 S13 2 v8 s1.1 ∧ Ow Y22 S13 3 v14 s11.1) (fun b e l' m' n' => e = .exit 2 ∧ ∃ S15 : Cx n, ∃ v16 : SV, S15.m = m' ∧ S15.n = n' ∧ Cov l' [(0, .sc vt0), (3, .sc v8), (5, .sc v16), (13, .sc (.int .i64 ((t0.length : Int)))), (14, .sc (.int .i64 s1.2))] ∧ Rd Y22 S15 vt0 t0 ∧ Ow Y3 S15 2 v8 s1.1 ∧ Ow Y22 S15 3 v16 b) (by exact ⟨S7, .nils, rfl, rfl, (Cov.cons rfl (Cov.cons rfl (Cov.cons rfl (Cov.cons rfl (Cov.cons rfl (Cov.cons rfl (Cov.cons rfl (Cov.cons rfl (Cov.nil _))))))))), hot0, ho3, Ow.nil⟩) ?_ ?_
      · clear h
        rintro s11 q _ _ _ ⟨S17, v18, rfl, rfl, hc19, hot0, ho3, ho5⟩ h
        unfold F94_l2 at h
        refine WC.cov hc19 ?_
        refine WC.seq ?_
        refine WC.region ?_
        refine WO.bin rfl rfl (by decide) (by decide) rfl ?_
        refine WO.nil ?_
        refine thenL_n ?_
        refine WC.seq ?_
        refine WC.cond rfl (fun q20 => ?_) (fun q20 => ?_)
        · have h := iteT q20 h
          refine WC.skip ?_
          refine thenL_n ?_
          refine WC.seq ?_
          refine WC.block ?_
          refine WC.seq ?_
          refine WC.region ?_
          refine WO.mv rfl ?_
          refine WO.asg rfl ?_
          refine WO.nil ?_
          refine thenL_n ?_
          refine WC.seq ?_
          refine WC.seq ?_
          refine WC.region ?_
          refine WO.mv rfl ?_
          refine WO.mv rfl ?_
          refine WO.bin rfl rfl (by decide) (by decide) rfl ?_
          refine WO.nil ?_
          refine thenL_n ?_
          refine WC.cond rfl (fun q21 => ?_) (fun q21 => ?_)
          · have h := iteT q21 h
            refine WC.exit ?_
            refine thenL_e ?_
            refine blockL_s ?_
            refine thenL_n ?_
            refine WC.region ?_
            refine WO.bin rfl rfl (by decide) (by decide) rfl ?_
            refine WO.mv rfl ?_
            refine WO.nil ?_
            refine thenL_n ?_
            obtain rfl := someI h
            exact ⟨_, rfl, ⟨S17, v18, rfl, rfl, (Cov.cons rfl (Cov.cons rfl (Cov.cons rfl (Cov.cons rfl (Cov.cons rfl (Cov.cons rfl (Cov.cons rfl (Cov.cons rfl (Cov.nil _))))))))), hot0, ho3, ho5⟩⟩
          · have h := iteF q21 h
            refine WC.skip ?_
            refine thenL_n ?_
            refine WC.seq ?_
            refine WC.region ?_
            refine WO.asg rfl ?_
            refine WO.nil ?_
            refine thenL_n ?_
            refine WC.seq ?_
            refine WC.seq ?_
            refine WC.region ?_
            refine WO.mv rfl ?_
            refine WO.lenS rfl hot0.slv rfl ?_
            refine WO.mv rfl ?_
            refine WO.nil ?_
            refine thenL_n ?_
            refine WC.block ?_
            obtain ⟨b77, e78, h⟩ := bindS h
            refine WC.loopD e78 (fun s22 l' m' n' => ∃ S24 : Cx n, ∃ v25 : SV, S24.m = m' ∧ S24.n = n' ∧ Cov l' [(0, .sc vt0), (3, .sc v8), (4, .sc (.int .i64 s1.2)), (5, .sc v18), (6, .sc (.int .i64 s11.2)), (7, .sc v25), (13, .sc (.int .i64 ((t0.length : Int)))), (14, .sc (.int .i64 s1.2)), (18, .sc (.int .i64 ((t0.length : Int)))), (19, .sc (.int .i64 s11.2)), (26, .sc (.int .i64 ((t0.length : Int)))), (27, .sc (.int .i64 s22.2))] ∧ Rd Y22 S24 vt0 t0 ∧ Ow Y3 S24 2 v8 s1.1 ∧ Ow Y22 S24 3 v18 s11.1 ∧ Ow Y3 S24 4 v25 s22.1) (fun b e l' m' n' => e = .exit 4 ∧ ∃ S26 : Cx n, ∃ v27 : SV, S26.m = m' ∧ S26.n = n' ∧ Cov l' [(0, .sc vt0), (3, .sc v8), (4, .sc (.int .i64 s1.2)), (5, .sc v18), (7, .sc v27), (13, .sc (.int .i64 ((t0.length : Int)))), (14, .sc (.int .i64 s1.2)), (18, .sc (.int .i64 ((t0.length : Int)))), (19, .sc (.int .i64 s11.2))] ∧ Rd Y22 S26 vt0 t0 ∧ Ow Y3 S26 2 v8 s1.1 ∧ Ow Y22 S26 3 v18 s11.1 ∧ Ow Y3 S26 4 v27 b) (by exact ⟨S17, .nils, rfl, rfl, (Cov.cons rfl (Cov.cons rfl (Cov.cons rfl (Cov.cons rfl (Cov.cons rfl (Cov.cons rfl (Cov.cons rfl (Cov.cons rfl (Cov.cons rfl (Cov.cons rfl (Cov.cons rfl (Cov.cons rfl (Cov.nil _))))))))))))), hot0, ho3, ho5, Ow.nil⟩) ?_ ?_
            · clear h
              rintro s22 q _ _ _ ⟨S28, v29, rfl, rfl, hc30, hot0, ho3, ho5, ho7⟩ h
              unfold F94_l1 at h
              refine WC.cov hc30 ?_
              refine WC.seq ?_
              refine WC.region ?_
              refine WO.bin rfl rfl (by decide) (by decide) rfl ?_
              refine WO.nil ?_
              refine thenL_n ?_
              refine WC.seq ?_
              refine WC.cond rfl (fun q31 => ?_) (fun q31 => ?_)
              · have h := iteT q31 h
                refine WC.skip ?_
                refine thenL_n ?_
                refine WC.seq ?_
                refine WC.block ?_
                refine WC.seq ?_
                refine WC.region ?_
                refine WO.mv rfl ?_
                refine WO.asg rfl ?_
                refine WO.nil ?_
                refine thenL_n ?_
                refine WC.seq ?_
                refine WC.seq ?_
                refine WC.region ?_
                refine WO.mv rfl ?_
                refine WO.mv rfl ?_
                refine WO.bin rfl rfl (by decide) (by decide) rfl ?_
                refine WO.nil ?_
                refine thenL_n ?_
                refine WC.cond rfl (fun q32 => ?_) (fun q32 => ?_)
                · have h := iteT q32 h
                  refine WC.exit ?_
                  refine thenL_e ?_
                  refine blockL_s ?_
                  refine thenL_n ?_
                  refine WC.region ?_
                  refine WO.bin rfl rfl (by decide) (by decide) rfl ?_
                  refine WO.mv rfl ?_
                  refine WO.nil ?_
                  refine thenL_n ?_
                  obtain rfl := someI h
                  exact ⟨_, rfl, ⟨S28, v29, rfl, rfl, (Cov.cons rfl (Cov.cons rfl (Cov.cons rfl (Cov.cons rfl (Cov.cons rfl (Cov.cons rfl (Cov.cons rfl (Cov.cons rfl (Cov.cons rfl (Cov.cons rfl (Cov.cons rfl (Cov.cons rfl (Cov.nil _))))))))))))), hot0, ho3, ho5, ho7⟩⟩
                · have h := iteF q32 h
                  refine WC.skip ?_
                  refine thenL_n ?_
                  refine WC.seq ?_
                  refine WC.region ?_
                  refine WO.mv rfl ?_
                  refine WO.mv rfl ?_
                  obtain ⟨L33, e34, h⟩ := bindS h
                  refine WO.ixS rfl rfl hot0.slv (at?_lt e34) rfl ?_
                  refine WO.ldS rfl hot0.ro (fun _ hi => hi) (at?_get e34) rfl rfl (fun v35 ho36 => ?_)
                  have ho36 : Rd Y3 S28 v35 L33 := ho36
                  refine WO.mv rfl ?_
                  obtain ⟨x37, e38, h⟩ := bindS h
                  refine WO.ixS rfl rfl ho36.slv (at?_lt e38) rfl ?_
                  refine WO.ldF rfl ho36.ro (fun _ hi => hi) (at?_get e38) rfl rfl rfl ?_
                  refine WO.do rfl rfl ?_
                  refine WO.asg rfl ?_
                  refine WO.nil ?_
                  refine thenL_n ?_
                  refine WC.seq ?_
                  refine WC.seq ?_
                  refine WC.region ?_
                  refine WO.mv rfl ?_
                  refine WO.mv rfl ?_
                  refine WO.bin rfl rfl (by decide) (by decide) rfl ?_
                  refine WO.nil ?_
                  refine thenL_n ?_
                  refine WC.cond rfl (fun q39 => ?_) (fun q39 => ?_)
                  · have h := iteT q39 h
                    refine WC.seq ?_
                    refine WC.region ?_
                    refine WO.asg rfl ?_
                    refine WO.nil ?_
                    refine thenL_n ?_
                    refine WC.seq ?_
                    refine WC.region ?_
                    refine WO.mv rfl ?_
                    refine WO.mv rfl ?_
                    obtain ⟨L40, e41, h⟩ := bindS h
                    refine WO.ixS rfl rfl hot0.slv (at?_lt e41) rfl ?_
                    refine WO.ldS rfl hot0.ro (fun _ hi => hi) (at?_get e41) rfl rfl (fun v42 ho43 => ?_)
                    have ho43 : Rd Y3 S28 v42 L40 := ho43
                    refine WO.lenS rfl ho43.slv rfl ?_
                    refine WO.mv rfl ?_
                    refine WO.nil ?_
                    refine thenL_n ?_
                    refine WC.block ?_
                    obtain ⟨b53, e54, h⟩ := bindS h
                    refine WC.loopD e54 (fun s44 l' m' n' => ∃ S45 : Cx n, S45.m = m' ∧ S45.n = n' ∧ Cov l' [(0, .sc vt0), (3, .sc v8), (4, .sc (.int .i64 s1.2)), (5, .sc v18), (6, .sc (.int .i64 s11.2)), (7, .sc v29), (9, .sc (.int .i64 s44.1)), (13, .sc (.int .i64 ((t0.length : Int)))), (14, .sc (.int .i64 s1.2)), (18, .sc (.int .i64 ((t0.length : Int)))), (19, .sc (.int .i64 s11.2)), (26, .sc (.int .i64 ((t0.length : Int)))), (27, .sc (.int .i64 s22.2)), (47, .sc v42), (48, .sc (.int .i64 ((L40.length : Int)))), (49, .sc (.int .i64 s44.2))] ∧ Rd Y22 S45 vt0 t0 ∧ Ow Y3 S45 2 v8 s1.1 ∧ Ow Y22 S45 3 v18 s11.1 ∧ Ow Y3 S45 4 v29 s22.1 ∧ Rd Y3 S45 v42 L40) (fun b e l' m' n' => e = .exit 6 ∧ ∃ S46 : Cx n, S46.m = m' ∧ S46.n = n' ∧ Cov l' [(0, .sc vt0), (3, .sc v8), (4, .sc (.int .i64 s1.2)), (5, .sc v18), (6, .sc (.int .i64 s11.2)), (7, .sc v29), (9, .sc (.int .i64 b)), (13, .sc (.int .i64 ((t0.length : Int)))), (14, .sc (.int .i64 s1.2)), (18, .sc (.int .i64 ((t0.length : Int)))), (19, .sc (.int .i64 s11.2)), (26, .sc (.int .i64 ((t0.length : Int)))), (27, .sc (.int .i64 s22.2))] ∧ Rd Y22 S46 vt0 t0 ∧ Ow Y3 S46 2 v8 s1.1 ∧ Ow Y22 S46 3 v18 s11.1 ∧ Ow Y3 S46 4 v29 s22.1) (by exact ⟨S28, rfl, rfl, (Cov.cons rfl (Cov.cons rfl (Cov.cons rfl (Cov.cons rfl (Cov.cons rfl (Cov.cons rfl (Cov.cons rfl (Cov.cons rfl (Cov.cons rfl (Cov.cons rfl (Cov.cons rfl (Cov.cons rfl (Cov.cons rfl (Cov.cons rfl (Cov.cons rfl (Cov.cons rfl (Cov.nil _))))))))))))))))), hot0, ho3, ho5, ho7, ho43⟩) ?_ ?_
                    · clear h
                      rintro s44 q _ _ _ ⟨S47, rfl, rfl, hc48, hot0, ho3, ho5, ho7, ho43⟩ h
                      unfold F94_l0 at h
                      refine WC.cov hc48 ?_
                      refine WC.seq ?_
                      refine WC.region ?_
                      refine WO.bin rfl rfl (by decide) (by decide) rfl ?_
                      refine WO.nil ?_
                      refine thenL_n ?_
                      refine WC.seq ?_
                      refine WC.cond rfl (fun q49 => ?_) (fun q49 => ?_)
                      · have h := iteT q49 h
                        refine WC.skip ?_
                        refine thenL_n ?_
                        refine WC.seq ?_
                        refine WC.block ?_
                        refine WC.seq ?_
                        refine WC.region ?_
                        refine WO.mv rfl ?_
                        obtain ⟨x50, e51, h⟩ := bindS h
                        refine WO.ixS rfl rfl ho43.slv (at?_lt e51) rfl ?_
                        refine WO.ldF rfl ho43.ro (fun _ hi => hi) (at?_get e51) rfl rfl rfl ?_
                        refine WO.asg rfl ?_
                        refine WO.asg rfl ?_
                        refine WO.nil ?_
                        refine thenL_n ?_
                        refine WC.seq ?_
                        refine WC.region ?_
                        refine WO.mv rfl ?_
                        refine WO.mv rfl ?_
                        refine WO.bin rfl rfl (by decide) (by decide) rfl ?_
                        refine WO.nil ?_
                        refine thenL_n ?_
                        refine WC.cond rfl (fun q52 => ?_) (fun q52 => ?_)
                        · have h := iteT q52 h
                          refine WC.region ?_
                          refine WO.mv rfl ?_
                          refine WO.mv rfl ?_
                          refine WO.bin rfl rfl (by decide) (by decide) rfl ?_
                          refine WO.asg rfl ?_
                          refine WO.nil ?_
                          refine blockL_n ?_
                          refine thenL_n ?_
                          refine WC.region ?_
                          refine WO.bin rfl rfl (by decide) (by decide) rfl ?_
                          refine WO.mv rfl ?_
                          refine WO.nil ?_
                          refine thenL_n ?_
                          obtain rfl := someI h
                          exact ⟨_, rfl, ⟨S47, rfl, rfl, (Cov.cons rfl (Cov.cons rfl (Cov.cons rfl (Cov.cons rfl (Cov.cons rfl (Cov.cons rfl (Cov.cons rfl (Cov.cons rfl (Cov.cons rfl (Cov.cons rfl (Cov.cons rfl (Cov.cons rfl (Cov.cons rfl (Cov.cons rfl (Cov.cons rfl (Cov.cons rfl (Cov.nil _))))))))))))))))), hot0, ho3, ho5, ho7, ho43⟩⟩
                        · have h := iteF q52 h
                          refine WC.skip ?_
                          refine blockL_n ?_
                          refine thenL_n ?_
                          refine WC.region ?_
                          refine WO.bin rfl rfl (by decide) (by decide) rfl ?_
                          refine WO.mv rfl ?_
                          refine WO.nil ?_
                          refine thenL_n ?_
                          obtain rfl := someI h
                          exact ⟨_, rfl, ⟨S47, rfl, rfl, (Cov.cons rfl (Cov.cons rfl (Cov.cons rfl (Cov.cons rfl (Cov.cons rfl (Cov.cons rfl (Cov.cons rfl (Cov.cons rfl (Cov.cons rfl (Cov.cons rfl (Cov.cons rfl (Cov.cons rfl (Cov.cons rfl (Cov.cons rfl (Cov.cons rfl (Cov.cons rfl (Cov.nil _))))))))))))))))), hot0, ho3, ho5, ho7, ho43⟩⟩
                      · have h := iteF q49 h
                        refine WC.exit ?_
                        refine thenL_e ?_
                        refine thenL_e ?_
                        obtain rfl := someI h
                        exact ⟨_, rfl, rfl, ⟨S47, rfl, rfl, (Cov.cons rfl (Cov.cons rfl (Cov.cons rfl (Cov.cons rfl (Cov.cons rfl (Cov.cons rfl (Cov.cons rfl (Cov.cons rfl (Cov.cons rfl (Cov.cons rfl (Cov.cons rfl (Cov.cons rfl (Cov.cons rfl (Cov.nil _)))))))))))))), hot0, ho3, ho5, ho7⟩⟩
                    rintro _ _ _ _ ⟨rfl, ⟨S55, rfl, rfl, hc56, hot0, ho3, ho5, ho7⟩⟩
                    refine blockL_s ?_
                    refine thenL_n ?_
                    refine WC.cov hc56 ?_
                    refine WC.region ?_
                    refine WO.mv rfl ?_
                    refine WO.mv rfl ?_
                    refine WO.bsS (A := Y3) (S := S55) (M := [b53]) (cs := [.int .i64 b53]) 5 rfl rfl rfl ⟨[.int .i64 b53], _, rfl, rfl, rfl⟩ rfl (fun v57 S58 c59 ho60 => ?_)
                    have hot0 := hot0.to c59
                    have ho3 := ho3.to c59
                    have ho5 := ho5.to c59
                    have ho7 := ho7.to c59
                    obtain ⟨L61, e62, h⟩ := bindS h
                    refine WO.appS rfl rfl ho7 ho60.ro e62 rfl rfl (fun v63 S64 c65 ho66 => ?_)
                    have hot0 := hot0.to c65
                    have ho3 := ho3.to c65
                    have ho5 := ho5.to c65
                    have ho60 := ho60.to c65
                    refine WO.asg rfl ?_
                    refine WO.nil ?_
                    refine blockL_n ?_
                    refine thenL_n ?_
                    refine WC.region ?_
                    refine WO.bin rfl rfl (by decide) (by decide) rfl ?_
                    refine WO.mv rfl ?_
                    refine WO.nil ?_
                    refine thenL_n ?_
                    obtain rfl := someI h
                    exact ⟨_, rfl, ⟨S64, v63, rfl, rfl, (Cov.cons rfl (Cov.cons rfl (Cov.cons rfl (Cov.cons rfl (Cov.cons rfl (Cov.cons rfl (Cov.cons rfl (Cov.cons rfl (Cov.cons rfl (Cov.cons rfl (Cov.cons rfl (Cov.cons rfl (Cov.nil _))))))))))))), hot0, ho3, ho5, ho66⟩⟩
                  · have h := iteF q39 h
                    refine WC.skip ?_
                    refine thenL_n ?_
                    refine WC.region ?_
                    refine WO.mv rfl ?_
                    refine WO.mv rfl ?_
                    refine WO.bsS (A := Y3) (S := S28) (M := [(wrapA .i64 (0 - x37))]) (cs := [.int .i64 ((wrapA .i64 (0 - x37)))]) 6 rfl rfl rfl ⟨[.int .i64 ((wrapA .i64 (0 - x37)))], _, rfl, rfl, rfl⟩ rfl (fun v67 S68 c69 ho70 => ?_)
                    have hot0 := hot0.to c69
                    have ho3 := ho3.to c69
                    have ho5 := ho5.to c69
                    have ho7 := ho7.to c69
                    have ho36 := ho36.to c69
                    obtain ⟨L71, e72, h⟩ := bindS h
                    refine WO.appS rfl rfl ho7 ho70.ro e72 rfl rfl (fun v73 S74 c75 ho76 => ?_)
                    have hot0 := hot0.to c75
                    have ho3 := ho3.to c75
                    have ho5 := ho5.to c75
                    have ho36 := ho36.to c75
                    have ho70 := ho70.to c75
                    refine WO.asg rfl ?_
                    refine WO.nil ?_
                    refine blockL_n ?_
                    refine thenL_n ?_
                    refine WC.region ?_
                    refine WO.bin rfl rfl (by decide) (by decide) rfl ?_
                    refine WO.mv rfl ?_
                    refine WO.nil ?_
                    refine thenL_n ?_
                    obtain rfl := someI h
                    exact ⟨_, rfl, ⟨S74, v73, rfl, rfl, (Cov.cons rfl (Cov.cons rfl (Cov.cons rfl (Cov.cons rfl (Cov.cons rfl (Cov.cons rfl (Cov.cons rfl (Cov.cons rfl (Cov.cons rfl (Cov.cons rfl (Cov.cons rfl (Cov.cons rfl (Cov.nil _))))))))))))), hot0, ho3, ho5, ho76⟩⟩
              · have h := iteF q31 h
                refine WC.exit ?_
                refine thenL_e ?_
                refine thenL_e ?_
                obtain rfl := someI h
                exact ⟨_, rfl, rfl, ⟨S28, v29, rfl, rfl, (Cov.cons rfl (Cov.cons rfl (Cov.cons rfl (Cov.cons rfl (Cov.cons rfl (Cov.cons rfl (Cov.cons rfl (Cov.cons rfl (Cov.cons rfl (Cov.nil _)))))))))), hot0, ho3, ho5, ho7⟩⟩
            rintro _ _ _ _ ⟨rfl, ⟨S79, v80, rfl, rfl, hc81, hot0, ho3, ho5, ho7⟩⟩
            refine blockL_s ?_
            refine thenL_n ?_
            refine WC.cov hc81 ?_
            refine WC.region ?_
            refine WO.mv rfl ?_
            refine WO.mv rfl ?_
            have hot0 := hot0.drop 4
            have ho3 := ho3.drop 4
            have ho5 := ho5.drop 4
            have ho7 := ho7.freeze
            refine WO.bsS (A := Y22) (S := (S79.drop 4)) (M := [b77]) (cs := [v80]) 7 rfl rfl rfl ⟨_, _, rfl, ⟨v80, rfl, ho7⟩, rfl⟩ rfl (fun v82 S83 c84 ho85 => ?_)
            have hot0 := hot0.to c84
            have ho3 := ho3.to c84
            have ho5 := ho5.to c84
            have ho7 := ho7.to c84
            obtain ⟨L86, e87, h⟩ := bindS h
            refine WO.appS rfl rfl ho5 ho85.ro e87 rfl rfl (fun v88 S89 c90 ho91 => ?_)
            have hot0 := hot0.to c90
            have ho3 := ho3.to c90
            have ho7 := ho7.to c90
            have ho85 := ho85.to c90
            refine WO.asg rfl ?_
            refine WO.nil ?_
            refine blockL_n ?_
            refine thenL_n ?_
            refine WC.region ?_
            refine WO.bin rfl rfl (by decide) (by decide) rfl ?_
            refine WO.mv rfl ?_
            refine WO.nil ?_
            refine thenL_n ?_
            obtain rfl := someI h
            exact ⟨_, rfl, ⟨S89, v88, rfl, rfl, (Cov.cons rfl (Cov.cons rfl (Cov.cons rfl (Cov.cons rfl (Cov.cons rfl (Cov.cons rfl (Cov.cons rfl (Cov.cons rfl (Cov.nil _))))))))), hot0, ho3, ho91⟩⟩
        · have h := iteF q20 h
          refine WC.exit ?_
          refine thenL_e ?_
          refine thenL_e ?_
          obtain rfl := someI h
          exact ⟨_, rfl, rfl, ⟨S17, v18, rfl, rfl, (Cov.cons rfl (Cov.cons rfl (Cov.cons rfl (Cov.cons rfl (Cov.cons rfl (Cov.nil _)))))), hot0, ho3, ho5⟩⟩
      rintro _ _ _ _ ⟨rfl, ⟨S94, v95, rfl, rfl, hc96, hot0, ho3, ho5⟩⟩
      refine blockL_s ?_
      refine thenL_n ?_
      refine WC.cov hc96 ?_
      refine WC.region ?_
      refine WO.mv rfl ?_
      refine WO.mv rfl ?_
      obtain ⟨r97, e98, h⟩ := bindS h
      refine WO.callE (S := S94) rfl rfl (F154_ok e98 ho5.vw) (fun S99 c100 => ?_)
      have hot0 := hot0.to c100
      have ho3 := ho3.to c100
      have ho5 := ho5.to c100
      refine WO.bsS (A := Y3) (S := S99) (M := [r97]) (cs := [.int .i64 r97]) 8 rfl rfl rfl ⟨[.int .i64 r97], _, rfl, rfl, rfl⟩ rfl (fun v101 S102 c103 ho104 => ?_)
      have hot0 := hot0.to c103
      have ho3 := ho3.to c103
      have ho5 := ho5.to c103
      obtain ⟨L105, e106, h⟩ := bindS h
      refine WO.appS rfl rfl ho3 ho104.ro e106 rfl rfl (fun v107 S108 c109 ho110 => ?_)
      have hot0 := hot0.to c109
      have ho5 := ho5.to c109
      have ho104 := ho104.to c109
      refine WO.asg rfl ?_
      refine WO.nil ?_
      refine blockL_n ?_
      refine thenL_n ?_
      refine WC.region ?_
      refine WO.bin rfl rfl (by decide) (by decide) rfl ?_
      refine WO.mv rfl ?_
      refine WO.nil ?_
      refine thenL_n ?_
      obtain rfl := someI h
      exact ⟨_, rfl, ⟨S108, v107, rfl, rfl, (Cov.cons rfl (Cov.cons rfl (Cov.cons rfl (Cov.cons rfl (Cov.nil _))))), hot0, ho110⟩⟩
    · have h := iteF q10 h
      refine WC.exit ?_
      refine thenL_e ?_
      refine thenL_e ?_
      obtain rfl := someI h
      exact ⟨_, rfl, rfl, ⟨S7, v8, rfl, rfl, (Cov.cons rfl (Cov.nil _)), ho3⟩⟩
  rintro _ _ _ _ ⟨rfl, ⟨S113, v114, rfl, rfl, hc115, ho3⟩⟩
  refine blockL_s ?_
  refine thenL_n ?_
  refine WC.cov hc115 ?_
  refine WC.seq ?_
  refine WC.region ?_
  refine WO.mv rfl ?_
  refine WO.asg rfl ?_
  refine WO.nil ?_
  refine thenL_n ?_
  refine WC.ret ?_
  obtain rfl := someI h
  exact ⟨.inr rfl, _, _, rfl, rfl, ⟨v114, rfl, (ho3.fr Lay.flat_fl)⟩⟩
end Go.Proofs.Ytdkmepeolmdccaa

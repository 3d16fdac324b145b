/- The machine answers F33: printed by a program of ours (gen.py). -/
import Derived.Test.YtihmliblbhjlaaaDef
import Derived.Test.YtihmliblbhjlaaaEnv
import Derived.Test.YtihmliblbhjlaaaF108
import Derived.Test.YtihmliblbhjlaaaF109
import Derived.Test.YtihmliblbhjlaaaF45
set_option linter.unusedVariables false
namespace Go.Proofs.Ytihmliblbhjlaaa
open Go.Am
theorem F33.fn : E.fn 33 = some ⟨67, (Try.f33.body.getD .skip), Try.f33.results.toList, []⟩ := rfl
theorem F33_ok {F : Nat} {fl : Nat} {S0 : Cx fl} {r : ((List (List Int)) × (List (List Int)))} {t0 : List Int} {vt0 : SV} (h : F33 F t0 = some r) (hot0 : Rd Y3 S0 vt0 t0) : Ret E fl 33 [.sc vt0] S0.m S0.n (fun v m' n' => ∃ S' : Cx fl, S'.m = m' ∧ S'.n = n' ∧ ChM S0 S' ∧ (∃ w115 w116 : SV, v = .agg [w115, w116] ∧ Rd Y22 S' w115 r.1 ∧ Rd Y22 S' w116 r.2)) := by
  unfold F33 at h
  refine Ret.walk F33.fn ?_
  have hM := ChM.refl S0
  refine WC.seq ?_
  refine WC.region ?_
  refine WO.alW (S := S0) (cs := [.nils, .nils]) 2 rfl rfl rfl (fun b1 S2 c3 ho4 => ?_)
  have hot0 := hot0.to c3
  have hM := hM.to c3
  refine WO.nil ?_
  refine thenL_n ?_
  refine WC.seq ?_
  refine WC.region ?_
  refine WO.alW (S := S2) (cs := [.nils, .nils]) 3 rfl rfl rfl (fun b5 S6 c7 ho8 => ?_)
  have hot0 := hot0.to c7
  have hM := hM.to c7
  have ho4 := ho4.to c7
  refine WO.nil ?_
  refine thenL_n ?_
  refine WC.seq ?_
  refine WC.seq ?_
  refine WC.region ?_
  refine WO.mv rfl ?_
  refine WO.lenS rfl hot0.slv rfl ?_
  refine WO.mv rfl ?_
  refine WO.nil ?_
  refine thenL_n ?_
  refine WC.block ?_
  obtain ⟨b106, e107, h⟩ := bindS h
  refine WC.loopD e107 (fun s9 l' m' n' => ∃ S12 : Cx fl, ∃ v13 v14 : SV, S12.m = m' ∧ S12.n = n' ∧ Cov l' [(2, .sc ((.ptr b1 0))), (3, .sc ((.ptr b5 0))), (10, .sc vt0), (11, .sc (.int .i64 ((t0.length : Int)))), (12, .sc (.int .i64 s9.1))] ∧ ChM S0 S12 ∧ Bw S12 2 (.ptr b1 0) [.nils, .nils] ∧ Bw S12 3 (.ptr b5 0) [v13, v14] ∧ Rd Y3 S12 vt0 t0 ∧ Rd Y22 S12 v13 s9.2.1 ∧ Rd Y22 S12 v14 s9.2.2) (fun b e l' m' n' => e = .exit 0 ∧ ∃ S15 : Cx fl, ∃ v16 v17 : SV, S15.m = m' ∧ S15.n = n' ∧ Cov l' [(2, .sc ((.ptr b1 0))), (3, .sc ((.ptr b5 0)))] ∧ ChM S0 S15 ∧ Bw S15 2 (.ptr b1 0) [.nils, .nils] ∧ Bw S15 3 (.ptr b5 0) [v16, v17] ∧ Rd Y22 S15 v16 b.1 ∧ Rd Y22 S15 v17 b.2) (by exact ⟨S6, .nils, .nils, rfl, rfl, (Cov.cons rfl (Cov.cons rfl (Cov.cons rfl (Cov.cons rfl (Cov.cons rfl (Cov.nil _)))))), hM, ho4, ho8, hot0, Rd.nil, Rd.nil⟩) ?_ ?_
  · clear h
    rintro s9 q _ _ _ ⟨S18, v19, v20, rfl, rfl, hc21, hM, ho4, ho8, hot0, ho8c0, ho8c1⟩ h
    unfold F33_l1 at h
    refine WC.cov hc21 ?_
    refine WC.seq ?_
    refine WC.region ?_
    refine WO.bin rfl rfl (by decide) (by decide) rfl ?_
    refine WO.nil ?_
    refine thenL_n ?_
    refine WC.seq ?_
    refine WC.cond rfl (fun q22 => ?_) (fun q22 => ?_)
    · have h := iteT q22 h
      refine WC.skip ?_
      refine thenL_n ?_
      refine WC.seq ?_
      refine WC.block ?_
      refine WC.seq ?_
      refine WC.region ?_
      refine WO.mv rfl ?_
      obtain ⟨x23, e24, h⟩ := bindS h
      refine WO.ixS rfl rfl hot0.slv (at?_lt e24) rfl ?_
      refine WO.ldF rfl hot0.ro (fun _ hi => hi) (at?_get e24) rfl rfl rfl ?_
      refine WO.asg rfl ?_
      refine WO.asg rfl ?_
      refine WO.nil ?_
      refine thenL_n ?_
      refine WC.seq ?_
      refine WC.region ?_
      refine WO.fldS (j := 0) (q := 0) rfl ho8.at0 ho8.ptr rfl rfl rfl (by decide) ?_
      refine WO.ldW rfl rfl ho8 rfl rfl ho8.lt rfl ?_
      refine WO.asg rfl ?_
      refine WO.nil ?_
      refine thenL_n ?_
      refine WC.seq ?_
      refine WC.region ?_
      refine WO.mv rfl ?_
      refine WO.mv rfl ?_
      obtain ⟨r25, e26, h⟩ := bindS h
      refine WO.callG (S := S18) [] [] rfl rfl (F108_ok (S0 := S18.mp []) e26 ho8c0.mp) (fun _ S29 S30 hb hR => ?_)
      obtain ⟨v27, rfl, hR0⟩ := hR
      have c31 : Ch 1 S18 S30 := hb.ch [] 1
      have hM := hM.to c31
      have ho4 := ho4.to c31
      have ho8 := ho8.to c31
      have hot0 := hot0.to c31
      have ho8c0 := ho8c0.to c31
      have ho8c1 := ho8c1.to c31
      have ho28 := hR0.bkS hb rfl
      refine WO.fldS (j := 0) (q := 0) rfl ho8.at0 ho8.ptr rfl rfl rfl (by decide) ?_
      refine WO.stW (S := S30) (r := [v27, v20]) rfl rfl rfl rfl ho8 rfl rfl rfl rfl rfl (fun S32 c33 ho8 => ?_)
      have hM := hM.to c33
      have ho4 := ho4.to c33
      have hot0 := hot0.to c33
      have ho8c0 := ho8c0.to c33
      have ho8c1 := ho8c1.to c33
      have ho28 := ho28.to c33
      refine WO.nil ?_
      refine thenL_n ?_
      refine WC.seq ?_
      refine WC.region ?_
      refine WO.fldS (j := 0) (q := 0) rfl ho8.at0 ho8.ptr rfl rfl rfl (by decide) ?_
      refine WO.ldW rfl rfl ho8 rfl rfl ho8.lt rfl ?_
      obtain ⟨r34, e35, h⟩ := bindS h
      refine WO.callG (S := S32) [] [(902, 4)] rfl rfl (F109_ok (S0 := S32.mp []) e35 ho8c1.mp) (fun _ S38 S39 hb hR => ?_)
      obtain ⟨v36, rfl, hR0⟩ := hR
      have c40 : Ch 1 S32 S39 := hb.ch [] 1
      have hM := hM.to c40
      have ho4 := ho4.to c40
      have ho8 := ho8.to c40
      have hot0 := hot0.to c40
      have ho8c0 := ho8c0.to c40
      have ho8c1 := ho8c1.to c40
      have ho28 := ho28.to c40
      have ho37 := hR0.bkS hb rfl rfl
      refine WO.asg rfl ?_
      refine WO.nil ?_
      refine thenL_n ?_
      refine WC.seq ?_
      refine WC.seq ?_
      refine WC.region ?_
      refine WO.fldS (j := 0) (q := 0) rfl ho8.at0 ho8.ptr rfl rfl rfl (by decide) ?_
      refine WO.ldW rfl rfl ho8 rfl rfl ho8.lt rfl ?_
      refine WO.lenS rfl ho28.slv rfl ?_
      refine WO.mv rfl ?_
      refine WO.nil ?_
      refine thenL_n ?_
      refine WC.block ?_
      obtain ⟨b99, e100, h⟩ := bindS h
      refine WC.loopD e100 (fun s41 l' m' n' => ∃ S43 : Cx fl, ∃ v44 : SV, S43.m = m' ∧ S43.n = n' ∧ Cov l' [(2, .sc ((.ptr b1 0))), (3, .sc ((.ptr b5 0))), (4, .sc (.int .i64 s9.1)), (6, .sc v19), (7, .sc v44), (10, .sc vt0), (11, .sc (.int .i64 ((t0.length : Int)))), (12, .sc (.int .i64 s9.1)), (27, .sc v27), (28, .sc (.int .i64 ((r25.length : Int)))), (29, .sc (.int .i64 s41.2))] ∧ ChM S0 S43 ∧ Bw S43 2 (.ptr b1 0) [.nils, .nils] ∧ Bw S43 3 (.ptr b5 0) [v27, v20] ∧ Rd Y22 S43 v27 r25 ∧ Rd Y22 S43 v20 s9.2.2 ∧ Rd Y22 S43 v19 s9.2.1 ∧ Rd Y3 S43 vt0 t0 ∧ Ow Y22 S43 4 v44 s41.1) (fun b e l' m' n' => e = .exit 2 ∧ ∃ S45 : Cx fl, ∃ v46 : SV, S45.m = m' ∧ S45.n = n' ∧ Cov l' [(2, .sc ((.ptr b1 0))), (3, .sc ((.ptr b5 0))), (7, .sc v46), (10, .sc vt0), (11, .sc (.int .i64 ((t0.length : Int)))), (12, .sc (.int .i64 s9.1))] ∧ ChM S0 S45 ∧ Bw S45 2 (.ptr b1 0) [.nils, .nils] ∧ Bw S45 3 (.ptr b5 0) [v27, v20] ∧ Rd Y22 S45 v27 r25 ∧ Rd Y22 S45 v20 s9.2.2 ∧ Rd Y3 S45 vt0 t0 ∧ Ow Y22 S45 4 v46 b) (by exact ⟨S39, v36, rfl, rfl, (Cov.cons rfl (Cov.cons rfl (Cov.cons rfl (Cov.cons rfl (Cov.cons rfl (Cov.cons rfl (Cov.cons rfl (Cov.cons rfl (Cov.cons rfl (Cov.cons rfl (Cov.cons rfl (Cov.nil _)))))))))))), hM, ho4, ho8, ho28, ho8c1, ho8c0, hot0, ho37⟩) ?_ ?_
      · clear h
        rintro s41 q _ _ _ ⟨S47, v48, rfl, rfl, hc49, hM, ho4, ho8, ho28, ho8c1, ho8c0, hot0, ho7⟩ h
        unfold F33_l0 at h
        refine WC.cov hc49 ?_
        refine WC.seq ?_
        refine WC.region ?_
        refine WO.bin rfl rfl (by decide) (by decide) rfl ?_
        refine WO.nil ?_
        refine thenL_n ?_
        refine WC.seq ?_
        refine WC.cond rfl (fun q50 => ?_) (fun q50 => ?_)
        · have h := iteT q50 h
          refine WC.skip ?_
          refine thenL_n ?_
          refine WC.seq ?_
          refine WC.block ?_
          refine WC.seq ?_
          refine WC.region ?_
          refine WO.mv rfl ?_
          obtain ⟨L51, e52, h⟩ := bindS h
          refine WO.ixS rfl rfl ho28.slv (at?_lt e52) rfl ?_
          refine WO.ldS rfl ho28.ro (fun _ hi => hi) (at?_get e52) rfl rfl (fun v53 ho54 => ?_)
          have ho54 : Rd Y3 S47 v53 L51 := ho54
          refine WO.asg rfl ?_
          refine WO.asg rfl ?_
          refine WO.nil ?_
          refine thenL_n ?_
          refine WC.seq ?_
          refine WC.region ?_
          refine WO.mv rfl ?_
          refine WO.mv rfl ?_
          refine WO.lenS rfl ho8c0.slv rfl ?_
          refine WO.bin rfl rfl (by decide) (by decide) rfl ?_
          refine WO.nil ?_
          refine thenL_n ?_
          refine WC.cond rfl (fun q55 => ?_) (fun q55 => ?_)
          · have h := iteT q55 h
            refine WC.region ?_
            refine WO.mv rfl ?_
            refine WO.mv rfl ?_
            refine WO.bsS (A := Y3) (S := S47) (M := [s9.1]) (cs := [.int .i64 s9.1]) 5 rfl rfl rfl ⟨[.int .i64 s9.1], _, rfl, rfl, rfl⟩ rfl (fun v56 S57 c58 ho59 => ?_)
            have hM := hM.to c58
            have ho4 := ho4.to c58
            have ho8 := ho8.to c58
            have ho28 := ho28.to c58
            have ho8c1 := ho8c1.to c58
            have ho8c0 := ho8c0.to c58
            have hot0 := hot0.to c58
            have ho7 := ho7.to c58
            have ho54 := ho54.to c58
            have hM := hM.drop 5
            have ho4 := ho4.drop 5
            have ho8 := ho8.drop 5
            have ho28 := ho28.drop 5
            have ho8c1 := ho8c1.drop 5
            have ho8c0 := ho8c0.drop 5
            have hot0 := hot0.drop 5
            have ho7 := ho7.drop 5
            have ho54 := ho54.drop 5
            have ho59 := ho59.freeze
            refine WO.bsS (A := Y22) (S := (S57.drop 5)) (M := [[s9.1]]) (cs := [v56]) 6 rfl rfl rfl ⟨_, _, rfl, ⟨v56, rfl, ho59⟩, rfl⟩ rfl (fun v60 S61 c62 ho63 => ?_)
            have hM := hM.to c62
            have ho4 := ho4.to c62
            have ho8 := ho8.to c62
            have ho28 := ho28.to c62
            have ho8c1 := ho8c1.to c62
            have ho8c0 := ho8c0.to c62
            have hot0 := hot0.to c62
            have ho7 := ho7.to c62
            have ho54 := ho54.to c62
            have ho59 := ho59.to c62
            obtain ⟨L64, e65, h⟩ := bindS h
            refine WO.appS rfl rfl ho7 ho63.ro e65 rfl rfl (fun v66 S67 c68 ho69 => ?_)
            have hM := hM.to c68
            have ho4 := ho4.to c68
            have ho8 := ho8.to c68
            have ho28 := ho28.to c68
            have ho8c1 := ho8c1.to c68
            have ho8c0 := ho8c0.to c68
            have hot0 := hot0.to c68
            have ho54 := ho54.to c68
            have ho59 := ho59.to c68
            have ho63 := ho63.to c68
            refine WO.asg rfl ?_
            refine WO.nil ?_
            refine blockL_n ?_
            refine thenL_n ?_
            refine WC.region ?_
            refine WO.bin rfl rfl (by decide) (by decide) rfl ?_
            refine WO.mv rfl ?_
            refine WO.nil ?_
            refine thenL_n ?_
            obtain rfl := someI h
            exact ⟨_, rfl, ⟨S67, v66, rfl, rfl, (Cov.cons rfl (Cov.cons rfl (Cov.cons rfl (Cov.cons rfl (Cov.cons rfl (Cov.cons rfl (Cov.cons rfl (Cov.cons rfl (Cov.cons rfl (Cov.cons rfl (Cov.cons rfl (Cov.nil _)))))))))))), hM, ho4, ho8, ho28, ho8c1, ho8c0, hot0, ho69⟩⟩
          · have h := iteF q55 h
            refine WC.seq ?_
            refine WC.region ?_
            refine WO.mv rfl ?_
            refine WO.lenS rfl ho54.slv rfl ?_
            refine WO.mv rfl ?_
            refine WO.mv rfl ?_
            obtain ⟨L70, e71, h⟩ := bindS h
            refine WO.ixS rfl rfl ho8c0.slv (at?_lt e71) rfl ?_
            refine WO.ldS rfl ho8c0.ro (fun _ hi => hi) (at?_get e71) rfl rfl (fun v72 ho73 => ?_)
            have ho73 : Rd Y3 S47 v72 L70 := ho73
            refine WO.lenS rfl ho73.slv rfl ?_
            refine WO.bin rfl rfl (by decide) (by decide) rfl ?_
            refine WO.nil ?_
            refine thenL_n ?_
            refine WC.cond rfl (fun q74 => ?_) (fun q74 => ?_)
            · have h := iteT q74 h
              refine WC.region ?_
              refine WO.mv rfl ?_
              refine WO.mv rfl ?_
              refine WO.mv rfl ?_
              refine WO.mv rfl ?_
              obtain ⟨L75, e76, h⟩ := bindS h
              refine WO.ixS rfl rfl ho7.slv (at?_lt e76) rfl ?_
              refine WO.ldS rfl ho7.ro (fun _ hi => hi) (at?_get e76) rfl rfl (fun v77 ho78 => ?_)
              have ho78 : Rd Y3 S47 v77 L75 := ho78
              obtain ⟨r79, e80, h⟩ := bindS h
              refine WO.callF (S := S47) 7 rfl rfl (F45_ok e80 ho78.vw) Lay.flat_fl (fun v81 S83 c84 ho82 => ?_)
              have hM := hM.to c84
              have ho4 := ho4.to c84
              have ho8 := ho8.to c84
              have ho28 := ho28.to c84
              have ho8c1 := ho8c1.to c84
              have ho8c0 := ho8c0.to c84
              have hot0 := hot0.to c84
              have ho7 := ho7.to c84
              have ho54 := ho54.to c84
              have ho73 := ho73.to c84
              have ho78 := ho78.to c84
              refine WO.mv rfl ?_
              refine WO.bsS (A := Y3) (S := S83) (M := [s9.1]) (cs := [.int .i64 s9.1]) 8 rfl rfl rfl ⟨[.int .i64 s9.1], _, rfl, rfl, rfl⟩ rfl (fun v85 S86 c87 ho88 => ?_)
              have hM := hM.to c87
              have ho4 := ho4.to c87
              have ho8 := ho8.to c87
              have ho28 := ho28.to c87
              have ho8c1 := ho8c1.to c87
              have ho8c0 := ho8c0.to c87
              have hot0 := hot0.to c87
              have ho7 := ho7.to c87
              have ho54 := ho54.to c87
              have ho73 := ho73.to c87
              have ho78 := ho78.to c87
              have ho82 := ho82.to c87
              obtain ⟨L89, e90, h⟩ := bindS h
              refine WO.appS rfl rfl ho82 ho88.ro e90 rfl rfl (fun v91 S92 c93 ho94 => ?_)
              have hM := hM.to c93
              have ho4 := ho4.to c93
              have ho8 := ho8.to c93
              have ho28 := ho28.to c93
              have ho8c1 := ho8c1.to c93
              have ho8c0 := ho8c0.to c93
              have hot0 := hot0.to c93
              have ho7 := ho7.to c93
              have ho54 := ho54.to c93
              have ho73 := ho73.to c93
              have ho78 := ho78.to c93
              have ho88 := ho88.to c93
              obtain ⟨u95, e96, h⟩ := bindS h
              refine WO.ixS rfl rfl ho7.slv (ck_some e96) rfl ?_
              have hM := hM.drop 7
              have ho4 := ho4.drop 7
              have ho8 := ho8.drop 7
              have ho28 := ho28.drop 7
              have ho8c1 := ho8c1.drop 7
              have ho8c0 := ho8c0.drop 7
              have hot0 := hot0.drop 7
              have ho7 := ho7.drop 7
              have ho54 := ho54.drop 7
              have ho73 := ho73.drop 7
              have ho78 := ho78.drop 7
              have ho88 := ho88.drop 7
              have ho94 := ho94.freeze
              refine WO.stS (S := (S92.drop 7)) rfl rfl ho7 (ck_nat e96) ho94 rfl rfl (fun S97 c98 ho7 => ?_)
              have hM := hM.to c98
              have ho4 := ho4.to c98
              have ho8 := ho8.to c98
              have ho28 := ho28.to c98
              have ho8c1 := ho8c1.to c98
              have ho8c0 := ho8c0.to c98
              have hot0 := hot0.to c98
              have ho54 := ho54.to c98
              have ho73 := ho73.to c98
              have ho78 := ho78.to c98
              have ho88 := ho88.to c98
              have ho94 := ho94.to c98
              refine WO.nil ?_
              refine blockL_n ?_
              refine thenL_n ?_
              refine WC.region ?_
              refine WO.bin rfl rfl (by decide) (by decide) rfl ?_
              refine WO.mv rfl ?_
              refine WO.nil ?_
              refine thenL_n ?_
              obtain rfl := someI h
              exact ⟨_, rfl, ⟨S97, v48, rfl, rfl, (Cov.cons rfl (Cov.cons rfl (Cov.cons rfl (Cov.cons rfl (Cov.cons rfl (Cov.cons rfl (Cov.cons rfl (Cov.cons rfl (Cov.cons rfl (Cov.cons rfl (Cov.cons rfl (Cov.nil _)))))))))))), hM, ho4, ho8, ho28, ho8c1, ho8c0, hot0, ho7⟩⟩
            · have h := iteF q74 h
              refine WC.skip ?_
              refine blockL_n ?_
              refine thenL_n ?_
              refine WC.region ?_
              refine WO.bin rfl rfl (by decide) (by decide) rfl ?_
              refine WO.mv rfl ?_
              refine WO.nil ?_
              refine thenL_n ?_
              obtain rfl := someI h
              exact ⟨_, rfl, ⟨S47, v48, rfl, rfl, (Cov.cons rfl (Cov.cons rfl (Cov.cons rfl (Cov.cons rfl (Cov.cons rfl (Cov.cons rfl (Cov.cons rfl (Cov.cons rfl (Cov.cons rfl (Cov.cons rfl (Cov.cons rfl (Cov.nil _)))))))))))), hM, ho4, ho8, ho28, ho8c1, ho8c0, hot0, ho7⟩⟩
        · have h := iteF q50 h
          refine WC.exit ?_
          refine thenL_e ?_
          refine thenL_e ?_
          obtain rfl := someI h
          exact ⟨_, rfl, rfl, ⟨S47, v48, rfl, rfl, (Cov.cons rfl (Cov.cons rfl (Cov.cons rfl (Cov.cons rfl (Cov.cons rfl (Cov.cons rfl (Cov.nil _))))))), hM, ho4, ho8, ho28, ho8c1, hot0, ho7⟩⟩
      rintro _ _ _ _ ⟨rfl, ⟨S101, v102, rfl, rfl, hc103, hM, ho4, ho8, ho28, ho8c1, hot0, ho7⟩⟩
      refine blockL_s ?_
      refine thenL_n ?_
      refine WC.cov hc103 ?_
      refine WC.region ?_
      refine WO.mv rfl ?_
      refine WO.fldS (j := 0) (q := 0) rfl ho8.at0 ho8.ptr rfl rfl rfl (by decide) ?_
      refine WO.stW (S := S101) (r := [v27, v102]) rfl rfl rfl rfl ho8 rfl rfl rfl rfl rfl (fun S104 c105 ho8 => ?_)
      have hM := hM.to c105
      have ho4 := ho4.to c105
      have ho28 := ho28.to c105
      have ho8c1 := ho8c1.to c105
      have hot0 := hot0.to c105
      have ho7 := ho7.to c105
      refine WO.nil ?_
      refine blockL_n ?_
      refine thenL_n ?_
      refine WC.region ?_
      refine WO.bin rfl rfl (by decide) (by decide) rfl ?_
      refine WO.mv rfl ?_
      refine WO.nil ?_
      refine thenL_n ?_
      have hM := hM.drop 4
      have ho4 := ho4.drop 4
      have ho8 := ho8.drop 4
      have ho28 := ho28.drop 4
      have hot0 := hot0.drop 4
      have ho7 := ho7.freeze
      obtain rfl := someI h
      exact ⟨_, rfl, ⟨(S104.drop 4), v27, v102, rfl, rfl, (Cov.cons rfl (Cov.cons rfl (Cov.cons rfl (Cov.cons rfl (Cov.cons rfl (Cov.nil _)))))), hM, ho4, ho8, hot0, ho28, ho7⟩⟩
    · have h := iteF q22 h
      refine WC.exit ?_
      refine thenL_e ?_
      refine thenL_e ?_
      obtain rfl := someI h
      exact ⟨_, rfl, rfl, ⟨S18, v19, v20, rfl, rfl, (Cov.cons rfl (Cov.cons rfl (Cov.nil _))), hM, ho4, ho8, ho8c0, ho8c1⟩⟩
  rintro _ _ _ _ ⟨rfl, ⟨S108, v109, v110, rfl, rfl, hc111, hM, ho4, ho8, ho8c0, ho8c1⟩⟩
  refine blockL_s ?_
  refine thenL_n ?_
  refine WC.cov hc111 ?_
  refine WC.seq ?_
  refine WC.region ?_
  refine WO.ldWA (sz := 2) (r := [v109, v110]) rfl ho8.at0 ho8 rfl rfl rfl ho8.lt rfl ?_
  refine WO.stW (S := S108) (r := [v109, v110]) rfl ho4.at0 rfl rfl ho4 rfl rfl rfl rfl rfl (fun S112 c113 ho4 => ?_)
  have hM := hM.to c113
  have ho8 := ho8.to c113
  have ho8c0 := ho8c0.to c113
  have ho8c1 := ho8c1.to c113
  refine WO.nil ?_
  refine thenL_n ?_
  refine WC.ret ?_
  have hcell114 := ho4
  obtain rfl := someI h
  exact ⟨.inr rfl, _, _, (resK_w (sz := 2) hcell114 (Cov.refl _) rfl rfl rfl rfl), rfl, ⟨S112, rfl, rfl, hM, v109, v110, rfl, ho8c0, ho8c1⟩⟩
end Go.Proofs.Ytihmliblbhjlaaa

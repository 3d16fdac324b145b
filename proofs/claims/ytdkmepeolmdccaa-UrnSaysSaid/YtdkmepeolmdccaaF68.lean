/- The machine answers F68: printed by a program of ours (gen.py). -/
import Derived.Test.YtdkmepeolmdccaaDef
import Derived.Test.YtdkmepeolmdccaaEnv
import Derived.Test.YtdkmepeolmdccaaF109
import Derived.Test.YtdkmepeolmdccaaF119
import Derived.Test.YtdkmepeolmdccaaF71
set_option linter.unusedVariables false
namespace Go.Proofs.Ytdkmepeolmdccaa
open Go.Am
theorem F68.fn : E.fn 68 = some ⟨89, (Try.f68.body.getD .skip), Try.f68.results.toList, []⟩ := rfl
theorem F68_ok {F : Nat} {m : Mem} {n : Nat} {r : (Int × Int) × Int} {t0 : List Int} {t1 : Int} {t2 : List Int} {vt0 : SV} {vt2 : SV} (h : F68 F t0 t1 t2 = some r) (kt0 : Vw Y3 n m vt0 t0) (kt2 : Vw Y3 n m vt2 t2) : Ret E n 68 [.sc vt0, .sc (.int .i64 t1), .sc vt2] m n (fun v m' n' => v = .tup [.agg [.int .i64 r.1.1, .int .i64 r.1.2], .sc (.int .i64 r.2)]) := by
  unfold F68 at h
  refine Ret.walk F68.fn ?_
  refine WC.start fun S0 em en hz => ?_
  have hot0 := kt0.rdS em hz
  have hot2 := kt2.rdS em hz
  refine WC.seq ?_
  refine WC.region ?_
  refine WO.alS (A := Y26) (S := S0) (z0 := (0, 0)) 2 rfl rfl rfl (fun v1 S2 c3 ho4 => ?_)
  have hot0 := hot0.to c3
  have hot2 := hot2.to c3
  refine WO.asg rfl ?_
  refine WO.nil ?_
  refine thenL_n ?_
  refine WC.seq ?_
  refine WC.seq ?_
  refine WC.region ?_
  refine WO.mv rfl ?_
  refine WO.mv rfl ?_
  obtain ⟨r5, e6, h⟩ := bindS h
  refine WO.callE (S := S2) rfl rfl (F71_ok e6 hot0.vw) (fun S7 c8 => ?_)
  have hot0 := hot0.to c8
  have hot2 := hot2.to c8
  have ho4 := ho4.to c8
  refine WO.asg rfl ?_
  refine WO.nil ?_
  refine thenL_n ?_
  refine WC.seq ?_
  refine WC.region ?_
  refine WO.mv rfl ?_
  refine WO.bin rfl rfl (by decide) (by decide) rfl ?_
  refine WO.nil ?_
  refine thenL_n ?_
  refine WC.cond rfl (fun q9 => ?_) (fun q9 => ?_)
  · have h := iteT q9 h
    refine WC.seq ?_
    refine WC.region ?_
    refine WO.do rfl rfl ?_
    refine WO.mv rfl ?_
    refine WO.stBA (u' := (0, 0)) rfl ho4.at0 rfl ho4 rfl rfl (fun S10 c11 ho4 => ?_)
    have hot0 := hot0.to c11
    have hot2 := hot2.to c11
    refine WO.asg rfl ?_
    refine WO.nil ?_
    refine thenL_n ?_
    refine WC.ret ?_
    refine thenL_r ?_
    have hcell := ho4
    obtain rfl := someI h
    exact ⟨.inr rfl, _, _, (resK_c2 hcell (Cov.refl _) rfl rfl rfl), rfl, rfl⟩
  · have h := iteF q9 h
    refine WC.skip ?_
    refine thenL_n ?_
    refine WC.seq ?_
    refine WC.seq ?_
    refine WC.region ?_
    refine WO.mv rfl ?_
    refine WO.lenS rfl hot2.slv rfl ?_
    refine WO.bin rfl rfl (by decide) (by decide) rfl ?_
    refine WO.nil ?_
    refine thenL_n ?_
    refine WC.cond rfl (fun q12 => ?_) (fun q12 => ?_)
    · have h := iteT q12 h
      refine WC.seq ?_
      refine WC.region ?_
      refine WO.do rfl rfl ?_
      refine WO.stBA (u' := (0, 0)) rfl ho4.at0 rfl ho4 rfl rfl (fun S13 c14 ho4 => ?_)
      have hot0 := hot0.to c14
      have hot2 := hot2.to c14
      refine WO.asg rfl ?_
      refine WO.nil ?_
      refine thenL_n ?_
      refine WC.ret ?_
      refine thenL_r ?_
      have hcell := ho4
      obtain rfl := someI h
      exact ⟨.inr rfl, _, _, (resK_c2 hcell (Cov.refl _) rfl rfl rfl), rfl, rfl⟩
    · have h := iteF q12 h
      refine WC.skip ?_
      refine thenL_n ?_
      refine WC.seq ?_
      refine WC.region ?_
      refine WO.bsS (A := Y3) (S := S7) (M := []) (cs := []) 3 rfl rfl rfl rfl rfl (fun v15 S16 c17 ho18 => ?_)
      have hot0 := hot0.to c17
      have hot2 := hot2.to c17
      have ho4 := ho4.to c17
      refine WO.mv rfl ?_
      obtain ⟨L19, e20, h⟩ := bindS h
      refine WO.appS rfl rfl ho18 hot0.ro e20 rfl rfl (fun v21 S22 c23 ho24 => ?_)
      have hot0 := hot0.to c23
      have hot2 := hot2.to c23
      have ho4 := ho4.to c23
      refine WO.asg rfl ?_
      refine WO.nil ?_
      refine thenL_n ?_
      refine WC.seq ?_
      refine WC.region ?_
      refine WO.do rfl rfl ?_
      refine WO.alS (A := Y26) (S := S22) (z0 := (0, 0)) 4 rfl rfl rfl (fun v25 S26 c27 ho28 => ?_)
      have hot0 := hot0.to c27
      have hot2 := hot2.to c27
      have ho4 := ho4.to c27
      have ho24 := ho24.to c27
      refine WO.stBA (u' := (1, 1)) rfl ho28.at0 rfl ho28 rfl rfl (fun S29 c30 ho28 => ?_)
      have hot0 := hot0.to c30
      have hot2 := hot2.to c30
      have ho4 := ho4.to c30
      have ho24 := ho24.to c30
      refine WO.nil ?_
      refine thenL_n ?_
      refine WC.seq ?_
      refine WC.seq ?_
      refine WC.region ?_
      refine WO.mv rfl ?_
      refine WO.lenS rfl hot2.slv rfl ?_
      refine WO.mv rfl ?_
      refine WO.nil ?_
      refine thenL_n ?_
      refine WC.block ?_
      obtain ⟨b90, e91, h⟩ := bindS h
      refine WC.loopD e91 (fun s31 l' m' n' => ∃ S32 : Cx n, S32.m = m' ∧ S32.n = n' ∧ Cov l' [(1, .sc (.int .i64 t1)), (6, .sc v1), (9, .sc v21), (10, .sc v25), (35, .sc vt2), (36, .sc (.int .i64 ((t2.length : Int)))), (37, .sc (.int .i64 s31.1))] ∧ Bk Y26 S32 2 v1 s31.2.1 ∧ Ow Y3 S32 3 v21 s31.2.2.1 ∧ Bk Y26 S32 4 v25 s31.2.2.2 ∧ Rd Y3 S32 vt2 t2) (fun b e l' m' n' => (match b with | .inl b33 => e = .exit 0 ∧ ∃ S34 : Cx n, S34.m = m' ∧ S34.n = n' ∧ Cov l' [(6, .sc v1), (10, .sc v25)] ∧ Bk Y26 S34 2 v1 b33.1 ∧ Bk Y26 S34 4 v25 b33.2 | .inr b33 => e = .ret ∧ ∃ S35 : Cx n, S35.m = m' ∧ S35.n = n' ∧ Cov l' [(6, .sc v1), (7, .sc (.int .i64 b33.1))] ∧ Bk Y26 S35 2 v1 b33.2)) (by exact ⟨S29, rfl, rfl, (Cov.cons rfl (Cov.cons rfl (Cov.cons rfl (Cov.cons rfl (Cov.cons rfl (Cov.cons rfl (Cov.cons rfl (Cov.nil _)))))))), ho4, ho24, ho28, hot2⟩) ?_ ?_
      · clear h
        rintro s31 q _ _ _ ⟨S36, rfl, rfl, hc37, ho4, ho24, ho28, hot2⟩ h
        unfold F68_l1 at h
        refine WC.cov hc37 ?_
        refine WC.seq ?_
        refine WC.region ?_
        refine WO.bin rfl rfl (by decide) (by decide) rfl ?_
        refine WO.nil ?_
        refine thenL_n ?_
        refine WC.seq ?_
        refine WC.cond rfl (fun q38 => ?_) (fun q38 => ?_)
        · have h := iteT q38 h
          refine WC.skip ?_
          refine thenL_n ?_
          refine WC.seq ?_
          refine WC.block ?_
          refine WC.seq ?_
          refine WC.region ?_
          obtain ⟨x39, e40, h⟩ := bindS h
          refine WO.ixS rfl rfl hot2.slv (at?_lt e40) rfl ?_
          refine WO.ldF rfl hot2.ro (fun _ hi => hi) (at?_get e40) rfl rfl rfl ?_
          refine WO.asg rfl ?_
          refine WO.nil ?_
          refine thenL_n ?_
          refine WC.seq ?_
          refine WC.seq ?_
          refine WC.region ?_
          refine WO.mv rfl ?_
          refine WO.bin rfl rfl (by decide) (by decide) rfl ?_
          refine WO.mv rfl ?_
          refine WO.cutB (d := 48) 5 ((decide (x39 < 0)) || (decide (x39 ≥ (s31.2.2.1.length : Int)))) (fun q41 => ?_) (fun q41 => ?_) ?_
          · refine WO.gno rfl rfl ?_
            refine WO.gno rfl rfl ?_
            refine WO.gno rfl rfl ?_
            refine WO.gno rfl rfl ?_
            refine WO.pickT rfl rfl ?_
            refine WO.nil ?_
            exact ⟨rfl, rfl, (Cov.any rfl (orT q41) (Cov.skip rfl (Cov.skip rfl (Cov.skip rfl (Cov.skip rfl (Cov.skip rfl (Cov.skip rfl (Cov.refl _))))))))⟩
          · skip
            refine WO.gyes rfl rfl ?_
            refine WO.mv rfl ?_
            refine WO.gyes rfl rfl ?_
            refine WO.mv rfl ?_
            refine WO.gyes rfl rfl ?_
            refine WO.lenS rfl ho24.slv rfl ?_
            refine WO.gyes rfl rfl ?_
            refine WO.bin rfl rfl (by decide) (by decide) rfl ?_
            refine WO.pickF rfl rfl ?_
            refine WO.nil ?_
            exact ⟨rfl, rfl, (Cov.any rfl (orF q41) (Cov.skip rfl (Cov.skip rfl (Cov.skip rfl (Cov.skip rfl (Cov.skip rfl (Cov.skip rfl (Cov.refl _))))))))⟩
          refine WO.nil ?_
          refine thenL_n ?_
          refine WC.cond rfl (fun q42 => ?_) (fun q42 => ?_)
          · have h := iteT q42 h
            refine WC.seq ?_
            refine WC.region ?_
            refine WO.do rfl rfl ?_
            refine WO.stBA (u' := (0, 0)) rfl ho4.at0 rfl ho4 rfl rfl (fun S43 c44 ho4 => ?_)
            have ho24 := ho24.to c44
            have ho28 := ho28.to c44
            have hot2 := hot2.to c44
            refine WO.asg rfl ?_
            refine WO.nil ?_
            refine thenL_n ?_
            refine WC.ret ?_
            refine thenL_r ?_
            refine blockL_r ?_
            refine thenL_r ?_
            refine thenL_r ?_
            obtain rfl := someI h
            exact ⟨_, rfl, rfl, ⟨S43, rfl, rfl, (Cov.cons rfl (Cov.cons rfl (Cov.nil _))), ho4⟩⟩
          · have h := iteF q42 h
            refine WC.skip ?_
            refine thenL_n ?_
            refine WC.seq ?_
            refine WC.region ?_
            refine WO.asg rfl ?_
            refine WO.nil ?_
            refine thenL_n ?_
            refine WC.seq ?_
            refine WC.seq ?_
            refine WC.region ?_
            refine WO.mv rfl ?_
            refine WO.lenS rfl ho24.slv rfl ?_
            refine WO.mv rfl ?_
            refine WO.nil ?_
            refine thenL_n ?_
            refine WC.block ?_
            obtain ⟨b53, e54, h⟩ := bindS h
            refine WC.loopD e54 (fun s45 l' m' n' => ∃ S46 : Cx n, S46.m = m' ∧ S46.n = n' ∧ Cov l' [(1, .sc (.int .i64 t1)), (6, .sc v1), (9, .sc v21), (10, .sc v25), (12, .sc (.int .i64 x39)), (13, .sc (.int .i64 s45.1)), (35, .sc vt2), (36, .sc (.int .i64 ((t2.length : Int)))), (37, .sc (.int .i64 s31.1)), (50, .sc v21), (51, .sc (.int .i64 ((s31.2.2.1.length : Int)))), (52, .sc (.int .i64 s45.2))] ∧ Bk Y26 S46 2 v1 s31.2.1 ∧ Ow Y3 S46 3 v21 s31.2.2.1 ∧ Bk Y26 S46 4 v25 s31.2.2.2 ∧ Rd Y3 S46 vt2 t2) (fun b e l' m' n' => e = .exit 2 ∧ ∃ S47 : Cx n, S47.m = m' ∧ S47.n = n' ∧ Cov l' [(1, .sc (.int .i64 t1)), (6, .sc v1), (9, .sc v21), (10, .sc v25), (12, .sc (.int .i64 x39)), (13, .sc (.int .i64 b)), (35, .sc vt2), (36, .sc (.int .i64 ((t2.length : Int)))), (37, .sc (.int .i64 s31.1))] ∧ Bk Y26 S47 2 v1 s31.2.1 ∧ Ow Y3 S47 3 v21 s31.2.2.1 ∧ Bk Y26 S47 4 v25 s31.2.2.2 ∧ Rd Y3 S47 vt2 t2) (by exact ⟨S36, rfl, rfl, (Cov.cons rfl (Cov.cons rfl (Cov.cons rfl (Cov.cons rfl (Cov.cons rfl (Cov.cons rfl (Cov.cons rfl (Cov.cons rfl (Cov.cons rfl (Cov.cons rfl (Cov.cons rfl (Cov.cons rfl (Cov.nil _))))))))))))), ho4, ho24, ho28, hot2⟩) ?_ ?_
            · clear h
              rintro s45 q _ _ _ ⟨S48, rfl, rfl, hc49, ho4, ho24, ho28, hot2⟩ h
              unfold F68_l0 at h
              refine WC.cov hc49 ?_
              refine WC.seq ?_
              refine WC.region ?_
              refine WO.bin rfl rfl (by decide) (by decide) rfl ?_
              refine WO.nil ?_
              refine thenL_n ?_
              refine WC.seq ?_
              refine WC.cond rfl (fun q50 => ?_) (fun q50 => ?_)
              · have h := iteT q50 h
                refine WC.skip ?_
                refine thenL_n ?_
                refine WC.seq ?_
                refine WC.block ?_
                refine WC.seq ?_
                refine WC.region ?_
                obtain ⟨x51, e52, h⟩ := bindS h
                refine WO.ixS rfl rfl ho24.slv (at?_lt e52) rfl ?_
                refine WO.ldF rfl ho24.ro (fun _ hi => hi) (at?_get e52) rfl rfl rfl ?_
                refine WO.asg rfl ?_
                refine WO.nil ?_
                refine thenL_n ?_
                refine WC.region ?_
                refine WO.mv rfl ?_
                refine WO.mv rfl ?_
                refine WO.bin rfl rfl (by decide) (by decide) rfl ?_
                refine WO.asg rfl ?_
                refine WO.nil ?_
                refine blockL_n ?_
                refine thenL_n ?_
                refine WC.region ?_
                refine WO.bin rfl rfl (by decide) (by decide) rfl ?_
                refine WO.mv rfl ?_
                refine WO.nil ?_
                refine thenL_n ?_
                obtain rfl := someI h
                exact ⟨_, rfl, ⟨S48, rfl, rfl, (Cov.cons rfl (Cov.cons rfl (Cov.cons rfl (Cov.cons rfl (Cov.cons rfl (Cov.cons rfl (Cov.cons rfl (Cov.cons rfl (Cov.cons rfl (Cov.cons rfl (Cov.cons rfl (Cov.cons rfl (Cov.nil _))))))))))))), ho4, ho24, ho28, hot2⟩⟩
              · have h := iteF q50 h
                refine WC.exit ?_
                refine thenL_e ?_
                refine thenL_e ?_
                obtain rfl := someI h
                exact ⟨_, rfl, rfl, ⟨S48, rfl, rfl, (Cov.cons rfl (Cov.cons rfl (Cov.cons rfl (Cov.cons rfl (Cov.cons rfl (Cov.cons rfl (Cov.cons rfl (Cov.cons rfl (Cov.cons rfl (Cov.nil _)))))))))), ho4, ho24, ho28, hot2⟩⟩
            rintro _ _ _ _ ⟨rfl, ⟨S55, rfl, rfl, hc56, ho4, ho24, ho28, hot2⟩⟩
            refine blockL_s ?_
            refine thenL_n ?_
            refine WC.cov hc56 ?_
            refine WC.seq ?_
            refine WC.region ?_
            refine WO.mv rfl ?_
            refine WO.mv rfl ?_
            obtain ⟨x57, e58, h⟩ := bindS h
            refine WO.ixS rfl rfl ho24.slv (at?_lt e58) rfl ?_
            refine WO.ldF rfl ho24.ro (fun _ hi => hi) (at?_get e58) rfl rfl rfl ?_
            refine WO.mv rfl ?_
            obtain ⟨r59, e60, h⟩ := bindS h
            refine WO.callE (S := S55) rfl rfl (F109_ok e60) (fun S61 c62 => ?_)
            have ho4 := ho4.to c62
            have ho24 := ho24.to c62
            have ho28 := ho28.to c62
            have hot2 := hot2.to c62
            refine WO.mv rfl ?_
            refine WO.do rfl rfl ?_
            refine WO.do rfl rfl ?_
            refine WO.alS (A := Y26) (S := S61) (z0 := (0, 0)) 5 rfl rfl rfl (fun v63 S64 c65 ho66 => ?_)
            have ho4 := ho4.to c65
            have ho24 := ho24.to c65
            have ho28 := ho28.to c65
            have hot2 := hot2.to c65
            refine WO.stBA (u' := (r59.1.1, r59.1.2)) rfl ho66.at0 rfl ho66 rfl rfl (fun S67 c68 ho66 => ?_)
            have ho4 := ho4.to c68
            have ho24 := ho24.to c68
            have ho28 := ho28.to c68
            have hot2 := hot2.to c68
            refine WO.asg rfl ?_
            refine WO.nil ?_
            refine thenL_n ?_
            refine WC.seq ?_
            refine WC.region ?_
            refine WO.ldBA (j := 0) rfl ho28.at0 ho28 rfl rfl ?_
            refine WO.ldBA (j := 0) rfl ho66.at0 ho66 rfl rfl ?_
            obtain ⟨r69, e70, h⟩ := bindS h
            refine WO.callE (S := S67) rfl rfl (F119_ok e70) (fun S71 c72 => ?_)
            have ho4 := ho4.to c72
            have ho24 := ho24.to c72
            have ho28 := ho28.to c72
            have hot2 := hot2.to c72
            have ho66 := ho66.to c72
            refine WO.mv rfl ?_
            refine WO.do rfl rfl ?_
            refine WO.do rfl rfl ?_
            refine WO.alS (A := Y26) (S := S71) (z0 := (0, 0)) 6 rfl rfl rfl (fun v73 S74 c75 ho76 => ?_)
            have ho4 := ho4.to c75
            have ho24 := ho24.to c75
            have ho28 := ho28.to c75
            have hot2 := hot2.to c75
            have ho66 := ho66.to c75
            refine WO.stBA (u' := (r69.1.1, r69.1.2)) rfl ho76.at0 rfl ho76 rfl rfl (fun S77 c78 ho76 => ?_)
            have ho4 := ho4.to c78
            have ho24 := ho24.to c78
            have ho28 := ho28.to c78
            have hot2 := hot2.to c78
            have ho66 := ho66.to c78
            refine WO.asg rfl ?_
            refine WO.nil ?_
            refine thenL_n ?_
            refine WC.seq ?_
            refine WC.seq ?_
            refine WC.region ?_
            refine WO.mv rfl ?_
            refine WO.bin rfl rfl (by decide) (by decide) rfl ?_
            refine WO.nil ?_
            refine thenL_n ?_
            refine WC.cond rfl (fun q79 => ?_) (fun q79 => ?_)
            · have h := iteT q79 h
              refine WC.seq ?_
              refine WC.region ?_
              refine WO.do rfl rfl ?_
              refine WO.mv rfl ?_
              refine WO.stBA (u' := (0, 0)) rfl ho4.at0 rfl ho4 rfl rfl (fun S80 c81 ho4 => ?_)
              have ho24 := ho24.to c81
              have ho28 := ho28.to c81
              have hot2 := hot2.to c81
              have ho66 := ho66.to c81
              have ho76 := ho76.to c81
              refine WO.asg rfl ?_
              refine WO.nil ?_
              refine thenL_n ?_
              refine WC.ret ?_
              refine thenL_r ?_
              refine blockL_r ?_
              refine thenL_r ?_
              refine thenL_r ?_
              obtain rfl := someI h
              exact ⟨_, rfl, rfl, ⟨S80, rfl, rfl, (Cov.cons rfl (Cov.cons rfl (Cov.nil _))), ho4⟩⟩
            · have h := iteF q79 h
              refine WC.skip ?_
              refine thenL_n ?_
              refine WC.seq ?_
              refine WC.region ?_
              refine WO.ldBA (j := 0) rfl ho76.at0 ho76 rfl rfl ?_
              refine WO.stBA (u' := (((r69.1.1, r69.1.2)).1, ((r69.1.1, r69.1.2)).2)) rfl ho28.at0 rfl ho28 rfl rfl (fun S82 c83 ho28 => ?_)
              have ho4 := ho4.to c83
              have ho24 := ho24.to c83
              have hot2 := hot2.to c83
              have ho66 := ho66.to c83
              have ho76 := ho76.to c83
              refine WO.nil ?_
              refine thenL_n ?_
              refine WC.region ?_
              refine WO.mv rfl ?_
              refine WO.mv rfl ?_
              obtain ⟨x84, e85, h⟩ := bindS h
              refine WO.ixS rfl rfl ho24.slv (at?_lt e85) rfl ?_
              refine WO.ldF rfl ho24.ro (fun _ hi => hi) (at?_get e85) rfl rfl rfl ?_
              refine WO.mv rfl ?_
              refine WO.bin rfl rfl (by decide) (by decide) rfl ?_
              obtain ⟨u86, e87, h⟩ := bindS h
              refine WO.ixS rfl rfl ho24.slv (ck_some e87) rfl ?_
              refine WO.st1 (u' := (wrapA .i64 (x84 + t1))) rfl rfl ho24 (ck_nat e87) rfl rfl (fun S88 c89 ho24 => ?_)
              have ho4 := ho4.to c89
              have ho28 := ho28.to c89
              have hot2 := hot2.to c89
              have ho66 := ho66.to c89
              have ho76 := ho76.to c89
              refine WO.nil ?_
              refine blockL_n ?_
              refine thenL_n ?_
              refine WC.region ?_
              refine WO.bin rfl rfl (by decide) (by decide) rfl ?_
              refine WO.mv rfl ?_
              refine WO.nil ?_
              refine thenL_n ?_
              obtain rfl := someI h
              exact ⟨_, rfl, ⟨S88, rfl, rfl, (Cov.cons rfl (Cov.cons rfl (Cov.cons rfl (Cov.cons rfl (Cov.cons rfl (Cov.cons rfl (Cov.cons rfl (Cov.nil _)))))))), ho4, ho24, ho28, hot2⟩⟩
        · have h := iteF q38 h
          refine WC.exit ?_
          refine thenL_e ?_
          refine thenL_e ?_
          obtain rfl := someI h
          exact ⟨_, rfl, rfl, ⟨S36, rfl, rfl, (Cov.cons rfl (Cov.cons rfl (Cov.nil _))), ho4, ho28⟩⟩
      cases b90 with
      | inl b92 =>
        simp only at h
        rintro _ _ _ _ ⟨rfl, ⟨S93, rfl, rfl, hc94, ho4, ho28⟩⟩
        refine blockL_s ?_
        refine thenL_n ?_
        refine WC.cov hc94 ?_
        refine WC.seq ?_
        refine WC.region ?_
        refine WO.ldBA (j := 0) rfl ho28.at0 ho28 rfl rfl ?_
        refine WO.stBA (u' := (b92.2.1, b92.2.2)) rfl ho4.at0 rfl ho4 rfl rfl (fun S95 c96 ho4 => ?_)
        have ho28 := ho28.to c96
        refine WO.asg rfl ?_
        refine WO.nil ?_
        refine thenL_n ?_
        refine WC.ret ?_
        have hcell := ho4
        obtain rfl := someI h
        exact ⟨.inr rfl, _, _, (resK_c2 hcell (Cov.refl _) rfl rfl rfl), rfl, rfl⟩
      | inr b92 =>
        simp only at h
        rintro _ _ _ _ ⟨rfl, ⟨S97, rfl, rfl, hc98, ho4⟩⟩
        refine blockL_r ?_
        refine thenL_r ?_
        have hcell := ho4
        obtain rfl := someI h
        exact ⟨.inr rfl, _, _, (resK_c2 hcell hc98 rfl rfl rfl), rfl, rfl⟩
end Go.Proofs.Ytdkmepeolmdccaa

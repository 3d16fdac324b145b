/- The machine answers F72: printed by a program of ours (gen.py). -/
import Derived.Test.YtdkmepeolmdccaaDef
import Derived.Test.YtdkmepeolmdccaaEnv
import Derived.Test.YtdkmepeolmdccaaF21
import Derived.Test.YtdkmepeolmdccaaF46
set_option linter.unusedVariables false
namespace Go.Proofs.Ytdkmepeolmdccaa
open Go.Am
theorem F72.fn : E.fn 72 = some ⟨84, (Try.f72.body.getD .skip), Try.f72.results.toList, [21]⟩ := rfl
theorem F72_ok {F : Nat} {m : Mem} {n : Nat} {r : (Int × Int) × Int} {t0 : List Int} {t1 : Int} {t2 : List Int} {vt0 : SV} {vt2 : SV} (h : F72 F t0 t1 t2 = some r) (kt0 : Vw Y3 n m vt0 t0) (kt2 : Vw Y3 n m vt2 t2) : Ret E n 72 [.sc vt0, .sc (.int .i64 t1), .sc vt2] m n (fun v m' n' => v = .tup [.agg [.int .i64 r.1.1, .int .i64 r.1.2], .sc (.int .i64 r.2)]) := by
  unfold F72 at h
  refine Ret.walk F72.fn ?_
  refine WC.start fun S0 em en hz => ?_
  have hot0 := kt0.rdS em hz
  have hot2 := kt2.rdS em hz
  refine WC.seq ?_
  refine WC.region ?_
  refine WO.alS (A := Y26) (S := S0) (z0 := (0, 0)) 2 rfl rfl rfl (fun v1 S2 c3 ho4 => ?_)
  have hot0 := hot0.to c3
  have hot2 := hot2.to c3
  refine WO.asg rfl ?_
  refine WO.nil ?_
  refine thenL_n ?_
  refine WC.seq ?_
  refine WC.region ?_
  refine WO.asg rfl ?_
  refine WO.nil ?_
  refine thenL_n ?_
  refine WC.seq ?_
  refine WC.seq ?_
  refine WC.region ?_
  refine WO.mv rfl ?_
  refine WO.lenS rfl hot0.slv rfl ?_
  refine WO.mv rfl ?_
  refine WO.nil ?_
  refine thenL_n ?_
  refine WC.block ?_
  obtain ⟨b13, e14, h⟩ := bindS h
  refine WC.loopD e14 (fun s5 l' m' n' => ∃ S6 : Cx n, S6.m = m' ∧ S6.n = n' ∧ Cov l' [(0, .sc vt0), (1, .sc (.int .i64 t1)), (2, .sc vt2), (6, .sc v1), (8, .sc (.int .i64 s5.1)), (18, .sc vt0), (19, .sc (.int .i64 ((t0.length : Int)))), (20, .sc (.int .i64 s5.2))] ∧ Rd Y3 S6 vt0 t0 ∧ Rd Y3 S6 vt2 t2 ∧ Bk Y26 S6 2 v1 ((0, 0))) (fun b e l' m' n' => e = .exit 0 ∧ ∃ S7 : Cx n, S7.m = m' ∧ S7.n = n' ∧ Cov l' [(0, .sc vt0), (1, .sc (.int .i64 t1)), (2, .sc vt2), (6, .sc v1), (8, .sc (.int .i64 b))] ∧ Rd Y3 S7 vt0 t0 ∧ Rd Y3 S7 vt2 t2 ∧ Bk Y26 S7 2 v1 ((0, 0))) (by exact ⟨S2, rfl, rfl, (Cov.cons rfl (Cov.cons rfl (Cov.cons rfl (Cov.cons rfl (Cov.cons rfl (Cov.cons rfl (Cov.cons rfl (Cov.cons rfl (Cov.nil _))))))))), hot0, hot2, ho4⟩) ?_ ?_
  · clear h
    rintro s5 q _ _ _ ⟨S8, rfl, rfl, hc9, hot0, hot2, ho4⟩ h
    unfold F72_l0 at h
    refine WC.cov hc9 ?_
    refine WC.seq ?_
    refine WC.region ?_
    refine WO.bin rfl rfl (by decide) (by decide) rfl ?_
    refine WO.nil ?_
    refine thenL_n ?_
    refine WC.seq ?_
    refine WC.cond rfl (fun q10 => ?_) (fun q10 => ?_)
    · have h := iteT q10 h
      refine WC.skip ?_
      refine thenL_n ?_
      refine WC.seq ?_
      refine WC.block ?_
      refine WC.seq ?_
      refine WC.region ?_
      obtain ⟨x11, e12, h⟩ := bindS h
      refine WO.ixS rfl rfl hot0.slv (at?_lt e12) rfl ?_
      refine WO.ldF rfl hot0.ro (fun _ hi => hi) (at?_get e12) rfl rfl rfl ?_
      refine WO.asg rfl ?_
      refine WO.nil ?_
      refine thenL_n ?_
      refine WC.region ?_
      refine WO.mv rfl ?_
      refine WO.mv rfl ?_
      refine WO.bin rfl rfl (by decide) (by decide) rfl ?_
      refine WO.asg rfl ?_
      refine WO.nil ?_
      refine blockL_n ?_
      refine thenL_n ?_
      refine WC.region ?_
      refine WO.bin rfl rfl (by decide) (by decide) rfl ?_
      refine WO.mv rfl ?_
      refine WO.nil ?_
      refine thenL_n ?_
      obtain rfl := someI h
      exact ⟨_, rfl, ⟨S8, rfl, rfl, (Cov.cons rfl (Cov.cons rfl (Cov.cons rfl (Cov.cons rfl (Cov.cons rfl (Cov.cons rfl (Cov.cons rfl (Cov.cons rfl (Cov.nil _))))))))), hot0, hot2, ho4⟩⟩
    · have h := iteF q10 h
      refine WC.exit ?_
      refine thenL_e ?_
      refine thenL_e ?_
      obtain rfl := someI h
      exact ⟨_, rfl, rfl, ⟨S8, rfl, rfl, (Cov.cons rfl (Cov.cons rfl (Cov.cons rfl (Cov.cons rfl (Cov.cons rfl (Cov.nil _)))))), hot0, hot2, ho4⟩⟩
  rintro _ _ _ _ ⟨rfl, ⟨S15, rfl, rfl, hc16, hot0, hot2, ho4⟩⟩
  refine blockL_s ?_
  refine thenL_n ?_
  refine WC.cov hc16 ?_
  refine WC.seq ?_
  refine WC.region ?_
  refine WO.do rfl rfl ?_
  refine WO.alS (A := Y26) (S := S15) (z0 := (0, 0)) 3 rfl rfl rfl (fun v17 S18 c19 ho20 => ?_)
  have hot0 := hot0.to c19
  have hot2 := hot2.to c19
  have ho4 := ho4.to c19
  refine WO.stBA (u' := (1, 1)) rfl ho20.at0 rfl ho20 rfl rfl (fun S21 c22 ho20 => ?_)
  have hot0 := hot0.to c22
  have hot2 := hot2.to c22
  have ho4 := ho4.to c22
  refine WO.nil ?_
  refine thenL_n ?_
  refine WC.seq ?_
  refine WC.seq ?_
  refine WC.region ?_
  refine WO.mv rfl ?_
  refine WO.lenS rfl hot2.slv rfl ?_
  refine WO.mv rfl ?_
  refine WO.nil ?_
  refine thenL_n ?_
  refine WC.block ?_
  obtain ⟨b69, e70, h⟩ := bindS h
  refine WC.loopD e70 (fun s23 l' m' n' => ∃ S24 : Cx n, S24.m = m' ∧ S24.n = n' ∧ Cov l' [(0, .sc vt0), (1, .sc (.int .i64 t1)), (2, .sc vt2), (6, .sc v1), (8, .sc (.int .i64 b13)), (11, .sc v17), (29, .sc vt2), (30, .sc (.int .i64 ((t2.length : Int)))), (31, .sc (.int .i64 s23.1))] ∧ Rd Y3 S24 vt0 t0 ∧ Rd Y3 S24 vt2 t2 ∧ Bk Y26 S24 2 v1 s23.2.1 ∧ Bk Y26 S24 3 v17 s23.2.2) (fun b e l' m' n' => (match b with | .inl b25 => e = .exit 2 ∧ ∃ S26 : Cx n, S26.m = m' ∧ S26.n = n' ∧ Cov l' [(6, .sc v1), (11, .sc v17)] ∧ Bk Y26 S26 2 v1 b25.1 ∧ Bk Y26 S26 3 v17 b25.2 | .inr b25 => e = .ret ∧ ∃ S27 : Cx n, S27.m = m' ∧ S27.n = n' ∧ Cov l' [(6, .sc v1), (7, .sc (.int .i64 b25.1))] ∧ Bk Y26 S27 2 v1 b25.2)) (by exact ⟨S21, rfl, rfl, (Cov.cons rfl (Cov.cons rfl (Cov.cons rfl (Cov.cons rfl (Cov.cons rfl (Cov.cons rfl (Cov.cons rfl (Cov.cons rfl (Cov.cons rfl (Cov.nil _)))))))))), hot0, hot2, ho4, ho20⟩) ?_ ?_
  · clear h
    rintro s23 q _ _ _ ⟨S28, rfl, rfl, hc29, hot0, hot2, ho4, ho20⟩ h
    unfold F72_l2 at h
    refine WC.cov hc29 ?_
    refine WC.seq ?_
    refine WC.region ?_
    refine WO.bin rfl rfl (by decide) (by decide) rfl ?_
    refine WO.nil ?_
    refine thenL_n ?_
    refine WC.seq ?_
    refine WC.cond rfl (fun q30 => ?_) (fun q30 => ?_)
    · have h := iteT q30 h
      refine WC.skip ?_
      refine thenL_n ?_
      refine WC.seq ?_
      refine WC.block ?_
      refine WC.seq ?_
      refine WC.region ?_
      refine WO.mv rfl ?_
      obtain ⟨x31, e32, h⟩ := bindS h
      refine WO.ixS rfl rfl hot2.slv (at?_lt e32) rfl ?_
      refine WO.ldF rfl hot2.ro (fun _ hi => hi) (at?_get e32) rfl rfl rfl ?_
      refine WO.asg rfl ?_
      refine WO.asg rfl ?_
      refine WO.nil ?_
      refine thenL_n ?_
      refine WC.seq ?_
      refine WC.seq ?_
      refine WC.region ?_
      refine WO.mv rfl ?_
      refine WO.bin rfl rfl (by decide) (by decide) rfl ?_
      refine WO.mv rfl ?_
      refine WO.cutB (d := 43) 5 ((decide (x31 < 0)) || (decide (x31 ≥ (t0.length : Int)))) (fun q33 => ?_) (fun q33 => ?_) ?_
      · refine WO.gno rfl rfl ?_
        refine WO.gno rfl rfl ?_
        refine WO.gno rfl rfl ?_
        refine WO.gno rfl rfl ?_
        refine WO.pickT rfl rfl ?_
        refine WO.nil ?_
        exact ⟨rfl, rfl, (Cov.any rfl (orT q33) (Cov.skip rfl (Cov.skip rfl (Cov.skip rfl (Cov.skip rfl (Cov.skip rfl (Cov.skip rfl (Cov.refl _))))))))⟩
      · skip
        refine WO.gyes rfl rfl ?_
        refine WO.mv rfl ?_
        refine WO.gyes rfl rfl ?_
        refine WO.mv rfl ?_
        refine WO.gyes rfl rfl ?_
        refine WO.lenS rfl hot0.slv rfl ?_
        refine WO.gyes rfl rfl ?_
        refine WO.bin rfl rfl (by decide) (by decide) rfl ?_
        refine WO.pickF rfl rfl ?_
        refine WO.nil ?_
        exact ⟨rfl, rfl, (Cov.any rfl (orF q33) (Cov.skip rfl (Cov.skip rfl (Cov.skip rfl (Cov.skip rfl (Cov.skip rfl (Cov.skip rfl (Cov.refl _))))))))⟩
      refine WO.nil ?_
      refine thenL_n ?_
      refine WC.cond rfl (fun q34 => ?_) (fun q34 => ?_)
      · have h := iteT q34 h
        refine WC.seq ?_
        refine WC.region ?_
        refine WO.do rfl rfl ?_
        refine WO.stBA (u' := (0, 0)) rfl ho4.at0 rfl ho4 rfl rfl (fun S35 c36 ho4 => ?_)
        have hot0 := hot0.to c36
        have hot2 := hot2.to c36
        have ho20 := ho20.to c36
        refine WO.asg rfl ?_
        refine WO.nil ?_
        refine thenL_n ?_
        refine WC.ret ?_
        refine thenL_r ?_
        refine blockL_r ?_
        refine thenL_r ?_
        refine thenL_r ?_
        obtain rfl := someI h
        exact ⟨_, rfl, rfl, ⟨S35, rfl, rfl, (Cov.cons rfl (Cov.cons rfl (Cov.nil _))), ho4⟩⟩
      · have h := iteF q34 h
        refine WC.skip ?_
        refine thenL_n ?_
        refine WC.seq ?_
        refine WC.region ?_
        refine WO.asg rfl ?_
        refine WO.nil ?_
        refine thenL_n ?_
        refine WC.seq ?_
        refine WC.seq ?_
        refine WC.region ?_
        refine WO.mv rfl ?_
        refine WO.mv rfl ?_
        obtain ⟨L37, e38, h⟩ := bindS h
        refine WO.slc (k := .i64) rfl (.inr ⟨rfl, rfl⟩) (.inl ⟨_, rfl, rfl⟩) hot2 e38 rfl (fun v39 ho40 => ?_)
        have ho40 : Rd Y3 S28 v39 L37 := ho40
        refine WO.lenS rfl ho40.slv rfl ?_
        refine WO.mv rfl ?_
        refine WO.nil ?_
        refine thenL_n ?_
        refine WC.block ?_
        obtain ⟨b50, e51, h⟩ := bindS h
        refine WC.loopD e51 (fun s41 l' m' n' => ∃ S42 : Cx n, S42.m = m' ∧ S42.n = n' ∧ Cov l' [(0, .sc vt0), (1, .sc (.int .i64 t1)), (2, .sc vt2), (6, .sc v1), (8, .sc (.int .i64 b13)), (11, .sc v17), (12, .sc (.int .i64 s23.1)), (13, .sc (.int .i64 x31)), (14, .sc (.int .i64 s41.1)), (29, .sc vt2), (30, .sc (.int .i64 ((t2.length : Int)))), (31, .sc (.int .i64 s23.1)), (47, .sc v39), (48, .sc (.int .i64 ((L37.length : Int)))), (49, .sc (.int .i64 s41.2))] ∧ Rd Y3 S42 vt0 t0 ∧ Rd Y3 S42 vt2 t2 ∧ Bk Y26 S42 2 v1 s23.2.1 ∧ Bk Y26 S42 3 v17 s23.2.2 ∧ Rd Y3 S42 v39 L37) (fun b e l' m' n' => e = .exit 4 ∧ ∃ S43 : Cx n, S43.m = m' ∧ S43.n = n' ∧ Cov l' [(0, .sc vt0), (1, .sc (.int .i64 t1)), (2, .sc vt2), (6, .sc v1), (8, .sc (.int .i64 b13)), (11, .sc v17), (12, .sc (.int .i64 s23.1)), (13, .sc (.int .i64 x31)), (14, .sc (.int .i64 b)), (29, .sc vt2), (30, .sc (.int .i64 ((t2.length : Int)))), (31, .sc (.int .i64 s23.1))] ∧ Rd Y3 S43 vt0 t0 ∧ Rd Y3 S43 vt2 t2 ∧ Bk Y26 S43 2 v1 s23.2.1 ∧ Bk Y26 S43 3 v17 s23.2.2) (by exact ⟨S28, rfl, rfl, (Cov.cons rfl (Cov.cons rfl (Cov.cons rfl (Cov.cons rfl (Cov.cons rfl (Cov.cons rfl (Cov.cons rfl (Cov.cons rfl (Cov.cons rfl (Cov.cons rfl (Cov.cons rfl (Cov.cons rfl (Cov.cons rfl (Cov.cons rfl (Cov.cons rfl (Cov.nil _)))))))))))))))), hot0, hot2, ho4, ho20, ho40⟩) ?_ ?_
        · clear h
          rintro s41 q _ _ _ ⟨S44, rfl, rfl, hc45, hot0, hot2, ho4, ho20, ho40⟩ h
          unfold F72_l1 at h
          refine WC.cov hc45 ?_
          refine WC.seq ?_
          refine WC.region ?_
          refine WO.bin rfl rfl (by decide) (by decide) rfl ?_
          refine WO.nil ?_
          refine thenL_n ?_
          refine WC.seq ?_
          refine WC.cond rfl (fun q46 => ?_) (fun q46 => ?_)
          · have h := iteT q46 h
            refine WC.skip ?_
            refine thenL_n ?_
            refine WC.seq ?_
            refine WC.block ?_
            refine WC.seq ?_
            refine WC.region ?_
            obtain ⟨x47, e48, h⟩ := bindS h
            refine WO.ixS rfl rfl ho40.slv (at?_lt e48) rfl ?_
            refine WO.ldF rfl ho40.ro (fun _ hi => hi) (at?_get e48) rfl rfl rfl ?_
            refine WO.asg rfl ?_
            refine WO.nil ?_
            refine thenL_n ?_
            refine WC.seq ?_
            refine WC.region ?_
            refine WO.mv rfl ?_
            refine WO.mv rfl ?_
            refine WO.bin rfl rfl (by decide) (by decide) rfl ?_
            refine WO.nil ?_
            refine thenL_n ?_
            refine WC.cond rfl (fun q49 => ?_) (fun q49 => ?_)
            · have h := iteT q49 h
              refine WC.region ?_
              refine WO.mv rfl ?_
              refine WO.bin rfl rfl (by decide) (by decide) rfl ?_
              refine WO.asg rfl ?_
              refine WO.nil ?_
              refine blockL_n ?_
              refine thenL_n ?_
              refine WC.region ?_
              refine WO.bin rfl rfl (by decide) (by decide) rfl ?_
              refine WO.mv rfl ?_
              refine WO.nil ?_
              refine thenL_n ?_
              obtain rfl := someI h
              exact ⟨_, rfl, ⟨S44, rfl, rfl, (Cov.cons rfl (Cov.cons rfl (Cov.cons rfl (Cov.cons rfl (Cov.cons rfl (Cov.cons rfl (Cov.cons rfl (Cov.cons rfl (Cov.cons rfl (Cov.cons rfl (Cov.cons rfl (Cov.cons rfl (Cov.cons rfl (Cov.cons rfl (Cov.cons rfl (Cov.nil _)))))))))))))))), hot0, hot2, ho4, ho20, ho40⟩⟩
            · have h := iteF q49 h
              refine WC.skip ?_
              refine blockL_n ?_
              refine thenL_n ?_
              refine WC.region ?_
              refine WO.bin rfl rfl (by decide) (by decide) rfl ?_
              refine WO.mv rfl ?_
              refine WO.nil ?_
              refine thenL_n ?_
              obtain rfl := someI h
              exact ⟨_, rfl, ⟨S44, rfl, rfl, (Cov.cons rfl (Cov.cons rfl (Cov.cons rfl (Cov.cons rfl (Cov.cons rfl (Cov.cons rfl (Cov.cons rfl (Cov.cons rfl (Cov.cons rfl (Cov.cons rfl (Cov.cons rfl (Cov.cons rfl (Cov.cons rfl (Cov.cons rfl (Cov.cons rfl (Cov.nil _)))))))))))))))), hot0, hot2, ho4, ho20, ho40⟩⟩
          · have h := iteF q46 h
            refine WC.exit ?_
            refine thenL_e ?_
            refine thenL_e ?_
            obtain rfl := someI h
            exact ⟨_, rfl, rfl, ⟨S44, rfl, rfl, (Cov.cons rfl (Cov.cons rfl (Cov.cons rfl (Cov.cons rfl (Cov.cons rfl (Cov.cons rfl (Cov.cons rfl (Cov.cons rfl (Cov.cons rfl (Cov.cons rfl (Cov.cons rfl (Cov.cons rfl (Cov.nil _))))))))))))), hot0, hot2, ho4, ho20⟩⟩
        rintro _ _ _ _ ⟨rfl, ⟨S52, rfl, rfl, hc53, hot0, hot2, ho4, ho20⟩⟩
        refine blockL_s ?_
        refine thenL_n ?_
        refine WC.cov hc53 ?_
        refine WC.seq ?_
        refine WC.region ?_
        refine WO.asg rfl ?_
        refine WO.nil ?_
        refine thenL_n ?_
        refine WC.seq ?_
        refine WC.drawN rfl ?_
        have hot0z := hot0.oz
        have hot2z := hot2.oz
        refine WO.ldBA (j := 0) rfl ho20.at0 ho20 rfl (limLe_self _) ?_
        refine WO.mv rfl ?_
        refine WO.mv rfl ?_
        obtain ⟨x54, e55, h⟩ := bindS h
        refine WO.ixS rfl rfl hot0.slv (at?_lt e55) rfl ?_
        refine WO.ldF rfl hot0z (fun _ hi => hi.1) (at?_get e55) rfl rfl (limLe_self _) ?_
        refine WO.mv rfl ?_
        refine WO.mv rfl ?_
        refine WO.bin rfl rfl (by decide) (by decide) rfl ?_
        refine WO.bin rfl rfl (by decide) (by decide) rfl ?_
        refine WO.mv rfl ?_
        refine WO.mv rfl ?_
        refine WO.mv rfl ?_
        refine WO.bin rfl rfl (by decide) (by decide) rfl ?_
        refine WO.bin rfl rfl (by decide) (by decide) rfl ?_
        obtain ⟨r56, e57, h⟩ := bindS h
        refine WO.callE (S := S52) rfl rfl (F21_ok e57) (fun S58 c59 => ?_)
        have hot0z := hot0z.toz c59
        have hot2z := hot2z.toz c59
        have hot0 := hot0.to c59
        have hot2 := hot2.to c59
        have ho4 := ho4.to c59
        have ho20 := ho20.to c59
        obtain ⟨r60, e61, h⟩ := bindS h
        refine WO.callE (S := S58) rfl rfl (F46_ok e61) (fun S62 c63 => ?_)
        have hot0z := hot0z.toz c63
        have hot2z := hot2z.toz c63
        have hot0 := hot0.to c63
        have hot2 := hot2.to c63
        have ho4 := ho4.to c63
        have ho20 := ho20.to c63
        refine WO.mv rfl ?_
        refine WO.do rfl rfl ?_
        refine WO.do rfl rfl ?_
        refine WO.stBA (u' := (r60.1.1, r60.1.2)) rfl ho20.at0 rfl ho20 rfl rfl (fun S64 c65 ho20 => ?_)
        have hot0z := hot0z.toz c65
        have hot2z := hot2z.toz c65
        have hot0 := hot0.to c65
        have hot2 := hot2.to c65
        have ho4 := ho4.to c65
        refine WO.asg rfl ?_
        refine WO.nil ?_
        refine thenL_n ?_
        refine WC.seq ?_
        refine WC.region ?_
        refine WO.mv rfl ?_
        refine WO.bin rfl rfl (by decide) (by decide) rfl ?_
        refine WO.nil ?_
        refine thenL_n ?_
        refine WC.cond rfl (fun q66 => ?_) (fun q66 => ?_)
        · have h := iteT q66 h
          refine WC.seq ?_
          refine WC.region ?_
          refine WO.do rfl rfl ?_
          refine WO.mv rfl ?_
          refine WO.stBA (u' := (0, 0)) rfl ho4.at0 rfl ho4 rfl rfl (fun S67 c68 ho4 => ?_)
          have hot0 := hot0.to c68
          have hot2 := hot2.to c68
          have ho20 := ho20.to c68
          refine WO.asg rfl ?_
          refine WO.nil ?_
          refine thenL_n ?_
          refine WC.ret ?_
          refine blockL_r ?_
          refine thenL_r ?_
          refine thenL_r ?_
          obtain rfl := someI h
          exact ⟨_, rfl, rfl, ⟨S67, rfl, rfl, (Cov.cons rfl (Cov.cons rfl (Cov.nil _))), ho4⟩⟩
        · have h := iteF q66 h
          refine WC.skip ?_
          refine blockL_n ?_
          refine thenL_n ?_
          refine WC.region ?_
          refine WO.bin rfl rfl (by decide) (by decide) rfl ?_
          refine WO.mv rfl ?_
          refine WO.nil ?_
          refine thenL_n ?_
          obtain rfl := someI h
          exact ⟨_, rfl, ⟨S64, rfl, rfl, (Cov.cons rfl (Cov.cons rfl (Cov.cons rfl (Cov.cons rfl (Cov.cons rfl (Cov.cons rfl (Cov.cons rfl (Cov.cons rfl (Cov.cons rfl (Cov.nil _)))))))))), hot0, hot2, ho4, ho20⟩⟩
    · have h := iteF q30 h
      refine WC.exit ?_
      refine thenL_e ?_
      refine thenL_e ?_
      obtain rfl := someI h
      exact ⟨_, rfl, rfl, ⟨S28, rfl, rfl, (Cov.cons rfl (Cov.cons rfl (Cov.nil _))), ho4, ho20⟩⟩
  cases b69 with
  | inl b71 =>
    simp only at h
    rintro _ _ _ _ ⟨rfl, ⟨S72, rfl, rfl, hc73, ho4, ho20⟩⟩
    refine blockL_s ?_
    refine thenL_n ?_
    refine WC.cov hc73 ?_
    refine WC.seq ?_
    refine WC.region ?_
    refine WO.ldBA (j := 0) rfl ho20.at0 ho20 rfl rfl ?_
    refine WO.stBA (u' := (b71.2.1, b71.2.2)) rfl ho4.at0 rfl ho4 rfl rfl (fun S74 c75 ho4 => ?_)
    have ho20 := ho20.to c75
    refine WO.asg rfl ?_
    refine WO.nil ?_
    refine thenL_n ?_
    refine WC.ret ?_
    have hcell := ho4
    obtain rfl := someI h
    exact ⟨.inr rfl, _, _, (resK_c2 hcell (Cov.refl _) rfl rfl rfl), rfl, rfl⟩
  | inr b71 =>
    simp only at h
    rintro _ _ _ _ ⟨rfl, ⟨S76, rfl, rfl, hc77, ho4⟩⟩
    refine blockL_r ?_
    refine thenL_r ?_
    have hcell := ho4
    obtain rfl := someI h
    exact ⟨.inr rfl, _, _, (resK_c2 hcell hc77 rfl rfl rfl), rfl, rfl⟩
end Go.Proofs.Ytdkmepeolmdccaa

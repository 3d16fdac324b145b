/- The machine answers F7: printed by a program of ours (gen.py). -/
import Derived.Test.YtdfalejlhkalhaaDef
import Derived.Test.YtdfalejlhkalhaaEnv
import Derived.Test.YtdfalejlhkalhaaF61
import Derived.Test.YtdfalejlhkalhaaF62
import Derived.Test.YtdfalejlhkalhaaF63
import Derived.Test.YtdfalejlhkalhaaF64
set_option linter.unusedVariables false
namespace Go.Proofs.Ytdfalejlhkalhaa
open Go.Am
theorem F7.fn : E.fn 7 = some ⟨105, (Try.f7.body.getD .skip), Try.f7.results.toList, []⟩ := rfl
theorem F7_ok {F : Nat} {m : Mem} {n : Nat} {r : Bool} {t0 : Int} {t1 : Int} {t2 : Int} (h : F7 F t0 t1 t2 = some r)  : Ret E n 7 [.sc (.int .i64 t0), .sc (.int .i64 t1), .sc (.int .i64 t2)] m n (fun v m' n' => v = .sc (.bool r)) := by
  unfold F7 at h
  refine Ret.walk F7.fn ?_
  refine WC.start fun S0 em en hz => ?_
  refine WC.seq ?_
  refine WC.region ?_
  refine WO.asg rfl ?_
  refine WO.nil ?_
  refine thenL_n ?_
  refine WC.seq ?_
  refine WC.region ?_
  refine WO.mv rfl ?_
  obtain ⟨r1, e2, h⟩ := bindS h
  refine WO.callE (S := S0) rfl rfl (F61_ok e2) (fun S3 c4 => ?_)
  refine WO.bin rfl rfl (by decide) (by decide) rfl ?_
  refine WO.mv rfl ?_
  obtain ⟨r5, e6, h⟩ := bindS h
  refine WO.callE (S := S3) rfl rfl (F61_ok e6) (fun S7 c8 => ?_)
  refine WO.bin rfl rfl (by decide) (by decide) rfl ?_
  refine WO.mv rfl ?_
  obtain ⟨r9, e10, h⟩ := bindS h
  refine WO.callE (S := S7) rfl rfl (F61_ok e10) (fun S11 c12 => ?_)
  refine WO.bin rfl rfl (by decide) (by decide) rfl ?_
  refine WO.asg rfl ?_
  refine WO.asg rfl ?_
  refine WO.asg rfl ?_
  refine WO.nil ?_
  refine thenL_n ?_
  refine WC.seq ?_
  refine WC.region ?_
  refine WO.mv rfl ?_
  obtain ⟨L13, e14, h⟩ := bindS h
  refine WO.mkT (A := Y3) (S := S11) 2 3 rfl rfl e14 rfl rfl rfl (fun v15 S16 c17 ho18 => ?_)
  refine WO.asg rfl ?_
  refine WO.nil ?_
  refine thenL_n ?_
  refine WC.seq ?_
  refine WC.seq ?_
  refine WC.region ?_
  refine WO.mv rfl ?_
  refine WO.lenS rfl ho18.slv rfl ?_
  refine WO.mv rfl ?_
  refine WO.nil ?_
  refine thenL_n ?_
  refine WC.block ?_
  obtain ⟨b64, e65, h⟩ := bindS h
  refine WC.loopD e65 (fun s19 l' m' n' => ∃ S20 : Cx n, S20.m = m' ∧ S20.n = n' ∧ Cov l' [(0, .sc (.int .i64 ((wrapA .i64 (1 + r1))))), (1, .sc (.int .i64 ((wrapA .i64 (1 + r5))))), (2, .sc (.int .i64 ((wrapA .i64 (1 + r9))))), (7, .sc v15), (26, .sc (.int .i64 ((L13.length : Int)))), (27, .sc (.int .i64 s19.1))] ∧ Tw Y3 S20 2 3 v15 s19.2) (fun b e l' m' n' => e = .exit 0 ∧ ∃ S21 : Cx n, S21.m = m' ∧ S21.n = n' ∧ Cov l' [(0, .sc (.int .i64 ((wrapA .i64 (1 + r1))))), (1, .sc (.int .i64 ((wrapA .i64 (1 + r5))))), (2, .sc (.int .i64 ((wrapA .i64 (1 + r9))))), (7, .sc v15)] ∧ Tw Y3 S21 2 3 v15 b) (by exact ⟨S16, rfl, rfl, (Cov.cons rfl (Cov.cons rfl (Cov.cons rfl (Cov.cons rfl (Cov.cons rfl (Cov.cons rfl (Cov.nil _))))))), ho18⟩) ?_ ?_
  · clear h
    rintro s19 q _ _ _ ⟨S22, rfl, rfl, hc23, ho18⟩ h
    unfold F7_l0 at h
    refine WC.cov hc23 ?_
    refine WC.seq ?_
    refine WC.region ?_
    refine WO.bin rfl rfl (by decide) (by decide) rfl ?_
    refine WO.nil ?_
    refine thenL_n ?_
    refine WC.seq ?_
    refine WC.cond rfl (fun q24 => ?_) (fun q24 => ?_)
    · have h := iteT q24 h
      refine WC.skip ?_
      refine thenL_n ?_
      refine WC.seq ?_
      refine WC.block ?_
      refine WC.seq ?_
      refine WC.region ?_
      refine WO.mv rfl ?_
      refine WO.asg rfl ?_
      refine WO.nil ?_
      refine thenL_n ?_
      refine WC.seq ?_
      refine WC.region ?_
      refine WO.mv rfl ?_
      refine WO.mv rfl ?_
      refine WO.mv rfl ?_
      obtain ⟨L25, e26, h⟩ := bindS h
      refine WO.mkS (A := Y3) (S := S22) 4 rfl rfl e26 rfl rfl rfl (fun v27 S28 c29 ho30 => ?_)
      have ho18 := ho18.to c29
      obtain ⟨u31, e32, h⟩ := bindS h
      refine WO.ixS rfl rfl ho18.slv (ck_some e32) rfl ?_
      refine WO.stT0 (S := S28) rfl rfl ho18 (ck_nat e32) ho30 rfl rfl rfl rfl rfl rfl rfl (fun S33 S35 c34 c36 ho18 => ?_)
      refine WO.nil ?_
      refine thenL_n ?_
      refine WC.seq ?_
      refine WC.seq ?_
      refine WC.region ?_
      refine WO.mv rfl ?_
      refine WO.bin rfl rfl (by decide) (by decide) rfl ?_
      refine WO.nil ?_
      refine thenL_n ?_
      obtain ⟨b48, e49, h⟩ := bindS h
      refine WC.mono (Q' := (fun b e l' m' n' => e = .normal ∧ ∃ S50 : Cx n, S50.m = m' ∧ S50.n = n' ∧ Cov l' [(0, .sc (.int .i64 ((wrapA .i64 (1 + r1))))), (1, .sc (.int .i64 ((wrapA .i64 (1 + r5))))), (2, .sc (.int .i64 ((wrapA .i64 (1 + r9))))), (7, .sc v15), (8, .sc (.int .i64 s19.1)), (26, .sc (.int .i64 ((L13.length : Int)))), (27, .sc (.int .i64 s19.1))] ∧ Tw Y3 S50 2 3 v15 b) b48) ?_ ?_
      · have h := e49
        dsimp only at h ⊢
        refine WC.cond rfl (fun q37 => ?_) (fun q37 => ?_)
        · have h := iteT q37 h
          refine WC.region ?_
          refine WO.mv rfl ?_
          refine WO.mv rfl ?_
          obtain ⟨L38, e39, h⟩ := bindS h
          refine WO.ixS rfl rfl ho18.slv (at?_lt e39) rfl ?_
          refine WO.ldT 5 rfl ho18 (at?_get e39) rfl ho18.lt rfl rfl rfl rfl (fun v40 S42 c43 ho18 ho41 => ?_)
          refine WO.mv rfl ?_
          refine WO.bin rfl rfl (by decide) (by decide) rfl ?_
          refine WO.mv rfl ?_
          obtain ⟨u44, e45, h⟩ := bindS h
          refine WO.ixS rfl rfl ho41.slv (ck_some e45) rfl ?_
          refine WO.st1 (u' := (wrapA .i64 (1 + r9))) rfl rfl ho41 (ck_nat e45) rfl rfl (fun S46 c47 ho41 => ?_)
          have ho18 := ho18.to c47
          refine WO.nil ?_
          have ho18 := ho18.back ho41
          obtain rfl := someI h
          exact ⟨rfl, ⟨(S46.mg 5 3), rfl, rfl, (Cov.cons rfl (Cov.cons rfl (Cov.cons rfl (Cov.cons rfl (Cov.cons rfl (Cov.cons rfl (Cov.cons rfl (Cov.nil _)))))))), ho18⟩⟩
        · have h := iteF q37 h
          refine WC.skip ?_
          obtain rfl := someI h
          exact ⟨rfl, ⟨S35, rfl, rfl, (Cov.cons rfl (Cov.cons rfl (Cov.cons rfl (Cov.cons rfl (Cov.cons rfl (Cov.cons rfl (Cov.cons rfl (Cov.nil _)))))))), ho18⟩⟩
      dsimp only
      rintro _ _ _ _ ⟨rfl, ⟨S51, rfl, rfl, hc52, ho18⟩⟩
      refine thenL_n ?_
      refine WC.cov hc52 ?_
      refine WC.seq ?_
      refine WC.region ?_
      refine WO.mv rfl ?_
      refine WO.mv rfl ?_
      refine WO.bin rfl rfl (by decide) (by decide) rfl ?_
      refine WO.bin rfl rfl (by decide) (by decide) rfl ?_
      refine WO.nil ?_
      refine thenL_n ?_
      refine WC.cond rfl (fun q53 => ?_) (fun q53 => ?_)
      · have h := iteT q53 h
        refine WC.region ?_
        refine WO.mv rfl ?_
        refine WO.mv rfl ?_
        obtain ⟨L54, e55, h⟩ := bindS h
        refine WO.ixS rfl rfl ho18.slv (at?_lt e55) rfl ?_
        refine WO.ldT 6 rfl ho18 (at?_get e55) rfl ho18.lt rfl rfl rfl rfl (fun v56 S58 c59 ho18 ho57 => ?_)
        refine WO.mv rfl ?_
        refine WO.bin rfl rfl (by decide) (by decide) rfl ?_
        refine WO.mv rfl ?_
        obtain ⟨u60, e61, h⟩ := bindS h
        refine WO.ixS rfl rfl ho57.slv (ck_some e61) rfl ?_
        refine WO.st1 (u' := (wrapA .i64 (1 + r5))) rfl rfl ho57 (ck_nat e61) rfl rfl (fun S62 c63 ho57 => ?_)
        have ho18 := ho18.to c63
        refine WO.nil ?_
        refine blockL_n ?_
        refine thenL_n ?_
        refine WC.region ?_
        refine WO.bin rfl rfl (by decide) (by decide) rfl ?_
        refine WO.mv rfl ?_
        refine WO.nil ?_
        refine thenL_n ?_
        have ho18 := ho18.back ho57
        obtain rfl := someI h
        exact ⟨_, rfl, ⟨(S62.mg 6 3), rfl, rfl, (Cov.cons rfl (Cov.cons rfl (Cov.cons rfl (Cov.cons rfl (Cov.cons rfl (Cov.cons rfl (Cov.nil _))))))), ho18⟩⟩
      · have h := iteF q53 h
        refine WC.skip ?_
        refine blockL_n ?_
        refine thenL_n ?_
        refine WC.region ?_
        refine WO.bin rfl rfl (by decide) (by decide) rfl ?_
        refine WO.mv rfl ?_
        refine WO.nil ?_
        refine thenL_n ?_
        obtain rfl := someI h
        exact ⟨_, rfl, ⟨S51, rfl, rfl, (Cov.cons rfl (Cov.cons rfl (Cov.cons rfl (Cov.cons rfl (Cov.cons rfl (Cov.cons rfl (Cov.nil _))))))), ho18⟩⟩
    · have h := iteF q24 h
      refine WC.exit ?_
      refine thenL_e ?_
      refine thenL_e ?_
      obtain rfl := someI h
      exact ⟨_, rfl, rfl, ⟨S22, rfl, rfl, (Cov.cons rfl (Cov.cons rfl (Cov.cons rfl (Cov.cons rfl (Cov.nil _))))), ho18⟩⟩
  rintro _ _ _ _ ⟨rfl, ⟨S66, rfl, rfl, hc67, ho18⟩⟩
  refine blockL_s ?_
  refine thenL_n ?_
  refine WC.cov hc67 ?_
  refine WC.seq ?_
  refine WC.region ?_
  refine WO.mv rfl ?_
  obtain ⟨r68, e69, h⟩ := bindS h
  refine WO.callF (S := S66) 7 rfl rfl (F62_ok e69 ho18.vw) Lay.flat_fl (fun v70 S72 c73 ho71 => ?_)
  have ho18 := ho18.to c73
  refine WO.mv rfl ?_
  refine WO.do rfl rfl ?_
  refine WO.do rfl rfl ?_
  refine WO.asg rfl ?_
  refine WO.asg rfl ?_
  refine WO.nil ?_
  refine thenL_n ?_
  refine WC.seq ?_
  refine WC.seq ?_
  refine WC.region ?_
  obtain ⟨r74, e75, h⟩ := bindS h
  refine WO.callE (S := S72) rfl rfl (F63_ok e75) (fun S76 c77 => ?_)
  have ho18 := ho18.to c77
  have ho71 := ho71.to c77
  refine WO.do rfl rfl ?_
  refine WO.mv rfl ?_
  refine WO.cutB (d := 68) 3 ((!r74) || (r68.2 != 0)) (fun q78 => ?_) (fun q78 => ?_) ?_
  · refine WO.gno rfl rfl ?_
    refine WO.gno rfl rfl ?_
    refine WO.pickT rfl rfl ?_
    refine WO.nil ?_
    exact ⟨rfl, rfl, (Cov.any rfl (orT q78) (Cov.skip rfl (Cov.skip rfl (Cov.skip rfl (Cov.skip rfl (Cov.refl _))))))⟩
  · skip
    refine WO.gyes rfl rfl ?_
    refine WO.mv rfl ?_
    refine WO.gyes rfl rfl ?_
    refine WO.bin rfl rfl (by decide) (by decide) rfl ?_
    refine WO.pickF rfl rfl ?_
    refine WO.nil ?_
    exact ⟨rfl, rfl, (Cov.any rfl (orF q78) (Cov.skip rfl (Cov.skip rfl (Cov.skip rfl (Cov.skip rfl (Cov.refl _))))))⟩
  refine WO.mv rfl ?_
  refine WO.cutB (d := 74) 5 (((!r74) || (r68.2 != 0)) || ((r68.1.length : Int) != (wrapA .i64 (1 + r1)))) (fun q79 => ?_) (fun q79 => ?_) ?_
  · refine WO.gno rfl rfl ?_
    refine WO.gno rfl rfl ?_
    refine WO.gno rfl rfl ?_
    refine WO.gno rfl rfl ?_
    refine WO.pickT rfl rfl ?_
    refine WO.nil ?_
    exact ⟨rfl, rfl, (Cov.any rfl (orT q79) (Cov.skip rfl (Cov.skip rfl (Cov.skip rfl (Cov.skip rfl (Cov.skip rfl (Cov.skip rfl (Cov.refl _))))))))⟩
  · skip
    refine WO.gyes rfl rfl ?_
    refine WO.mv rfl ?_
    refine WO.gyes rfl rfl ?_
    refine WO.lenS rfl ho71.slv rfl ?_
    refine WO.gyes rfl rfl ?_
    refine WO.mv rfl ?_
    refine WO.gyes rfl rfl ?_
    refine WO.bin rfl rfl (by decide) (by decide) rfl ?_
    refine WO.pickF rfl rfl ?_
    refine WO.nil ?_
    exact ⟨rfl, rfl, (Cov.any rfl (orF q79) (Cov.skip rfl (Cov.skip rfl (Cov.skip rfl (Cov.skip rfl (Cov.skip rfl (Cov.skip rfl (Cov.refl _))))))))⟩
  refine WO.nil ?_
  refine thenL_n ?_
  refine WC.cond rfl (fun q80 => ?_) (fun q80 => ?_)
  · have h := iteT q80 h
    refine WC.seq ?_
    refine WC.region ?_
    refine WO.asg rfl ?_
    refine WO.nil ?_
    refine thenL_n ?_
    refine WC.ret ?_
    refine thenL_r ?_
    obtain rfl := someI h
    exact ⟨.inr rfl, _, _, rfl, rfl, rfl⟩
  · have h := iteF q80 h
    refine WC.skip ?_
    refine thenL_n ?_
    refine WC.seq ?_
    refine WC.region ?_
    refine WO.mv rfl ?_
    refine WO.mv rfl ?_
    obtain ⟨r81, e82, h⟩ := bindS h
    refine WO.callE (S := S76) rfl rfl (F64_ok e82 ho18.vw ho71.vw) (fun S83 c84 => ?_)
    have ho18 := ho18.to c84
    have ho71 := ho71.to c84
    refine WO.mv rfl ?_
    refine WO.do rfl rfl ?_
    refine WO.do rfl rfl ?_
    refine WO.asg rfl ?_
    refine WO.asg rfl ?_
    refine WO.nil ?_
    refine thenL_n ?_
    refine WC.seq ?_
    refine WC.seq ?_
    refine WC.region ?_
    refine WO.asg rfl ?_
    refine WO.nil ?_
    refine thenL_n ?_
    refine WC.block ?_
    obtain ⟨b98, e99, h⟩ := bindS h
    refine WC.loopD e99 (fun s85 l' m' n' => ∃ S86 : Cx n, S86.m = m' ∧ S86.n = n' ∧ Cov l' [(0, .sc (.int .i64 ((wrapA .i64 (1 + r1))))), (1, .sc (.int .i64 ((wrapA .i64 (1 + r5))))), (2, .sc (.int .i64 ((wrapA .i64 (1 + r9))))), (9, .sc v70), (11, .sc (.bool r81.1)), (12, .sc (.int .i64 r81.2)), (13, .sc (.int .i64 s85))] ∧ Ow Y3 S86 7 v70 r68.1) (fun b e l' m' n' => (match b with | .inl b87 => e = .exit 2 ∧ ∃ S88 : Cx n, S88.m = m' ∧ S88.n = n' ∧ Cov l' [(11, .sc (.bool r81.1)), (12, .sc (.int .i64 r81.2))] | .inr b87 => e = .ret ∧ ∃ S89 : Cx n, S89.m = m' ∧ S89.n = n' ∧ Cov l' [(6, .sc (.bool b87))])) (by exact ⟨S83, rfl, rfl, (Cov.cons rfl (Cov.cons rfl (Cov.cons rfl (Cov.cons rfl (Cov.cons rfl (Cov.cons rfl (Cov.cons rfl (Cov.nil _)))))))), ho71⟩) ?_ ?_
    · clear h
      rintro s85 q _ _ _ ⟨S90, rfl, rfl, hc91, ho71⟩ h
      unfold F7_l1 at h
      refine WC.cov hc91 ?_
      refine WC.seq ?_
      refine WC.seq ?_
      refine WC.region ?_
      refine WO.mv rfl ?_
      refine WO.mv rfl ?_
      refine WO.bin rfl rfl (by decide) (by decide) rfl ?_
      refine WO.nil ?_
      refine thenL_n ?_
      refine WC.cond rfl (fun q92 => ?_) (fun q92 => ?_)
      · have h := iteT q92 h
        refine WC.skip ?_
        refine thenL_n ?_
        refine WC.seq ?_
        refine WC.block ?_
        refine WC.seq ?_
        refine WC.drawP rfl ?_
        refine WO.mv rfl ?_
        refine WO.mv rfl ?_
        obtain ⟨x93, e94, h⟩ := bindS h
        refine WO.ixS rfl rfl ho71.slv (at?_lt e94) rfl ?_
        refine WO.ldF rfl ho71.ro (fun _ hi => hi) (at?_get e94) rfl rfl rfl ?_
        refine WO.mv rfl ?_
        refine WO.bin rfl rfl (by decide) (by decide) rfl ?_
        refine WO.mv rfl ?_
        refine WO.mv rfl ?_
        refine WO.bin rfl rfl (by decide) (by decide) rfl ?_
        obtain ⟨x95, e96, h⟩ := bindS h
        refine WO.ixS rfl rfl ho71.slv (at?_lt e96) rfl ?_
        refine WO.ldF rfl ho71.ro (fun _ hi => hi) (at?_get e96) rfl rfl rfl ?_
        refine WO.mv rfl ?_
        refine WO.bin rfl rfl (by decide) (by decide) rfl ?_
        refine WO.bin rfl rfl (by decide) (by decide) rfl ?_
        refine WO.nil ?_
        refine thenL_n ?_
        refine WC.cond rfl (fun q97 => ?_) (fun q97 => ?_)
        · have h := iteT q97 h
          refine WC.seq ?_
          refine WC.region ?_
          refine WO.asg rfl ?_
          refine WO.nil ?_
          refine thenL_n ?_
          refine WC.ret ?_
          refine blockL_r ?_
          refine thenL_r ?_
          refine thenL_r ?_
          obtain rfl := someI h
          exact ⟨_, rfl, rfl, ⟨S90, rfl, rfl, (Cov.cons rfl (Cov.nil _))⟩⟩
        · have h := iteF q97 h
          refine WC.skip ?_
          refine blockL_n ?_
          refine thenL_n ?_
          refine WC.region ?_
          refine WO.mv rfl ?_
          refine WO.bin rfl rfl (by decide) (by decide) rfl ?_
          refine WO.asg rfl ?_
          refine WO.nil ?_
          refine thenL_n ?_
          obtain rfl := someI h
          exact ⟨_, rfl, ⟨S90, rfl, rfl, (Cov.cons rfl (Cov.cons rfl (Cov.cons rfl (Cov.cons rfl (Cov.cons rfl (Cov.cons rfl (Cov.cons rfl (Cov.nil _)))))))), ho71⟩⟩
      · have h := iteF q92 h
        refine WC.exit ?_
        refine thenL_e ?_
        refine thenL_e ?_
        obtain rfl := someI h
        exact ⟨_, rfl, rfl, ⟨S90, rfl, rfl, (Cov.cons rfl (Cov.cons rfl (Cov.nil _)))⟩⟩
    cases b98 with
    | inl b100 =>
      simp only at h
      rintro _ _ _ _ ⟨rfl, ⟨S101, rfl, rfl, hc102⟩⟩
      refine blockL_s ?_
      refine thenL_n ?_
      refine WC.cov hc102 ?_
      refine WC.seq ?_
      refine WC.region ?_
      refine WO.mv rfl ?_
      refine WO.bin rfl rfl (by decide) (by decide) rfl ?_
      refine WO.mv rfl ?_
      refine WO.cutB (d := 104) 2 ((r81.2 == 0) && r81.1) (fun q103 => ?_) (fun q103 => ?_) ?_
      · skip
        refine WO.gyes rfl rfl ?_
        refine WO.mv rfl ?_
        refine WO.pickT rfl rfl ?_
        refine WO.nil ?_
        exact ⟨rfl, rfl, (Cov.any rfl (andT q103) (Cov.skip rfl (Cov.skip rfl (Cov.skip rfl (Cov.refl _)))))⟩
      · refine WO.gno rfl rfl ?_
        refine WO.pickF rfl rfl ?_
        refine WO.nil ?_
        exact ⟨rfl, rfl, (Cov.any rfl (andF q103) (Cov.skip rfl (Cov.skip rfl (Cov.skip rfl (Cov.refl _)))))⟩
      refine WO.asg rfl ?_
      refine WO.nil ?_
      refine thenL_n ?_
      refine WC.ret ?_
      obtain rfl := someI h
      exact ⟨.inr rfl, _, _, rfl, rfl, rfl⟩
    | inr b100 =>
      simp only at h
      rintro _ _ _ _ ⟨rfl, ⟨S104, rfl, rfl, hc105⟩⟩
      refine blockL_r ?_
      refine thenL_r ?_
      obtain rfl := someI h
      exact ⟨.inr rfl, _, _, (resK_cov hc105 rfl), rfl, rfl⟩
end Go.Proofs.Ytdfalejlhkalhaa

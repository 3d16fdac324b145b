/- The machine answers F11: printed by a program of ours (gen.py). -/
import Derived.Test.YtdfalejlhkalhaaDef
import Derived.Test.YtdfalejlhkalhaaEnv
import Derived.Test.YtdfalejlhkalhaaF61
import Derived.Test.YtdfalejlhkalhaaF63
import Derived.Test.YtdfalejlhkalhaaF65
import Derived.Test.YtdfalejlhkalhaaF80
import Derived.Test.YtdfalejlhkalhaaF81
set_option linter.unusedVariables false
namespace Go.Proofs.Ytdfalejlhkalhaa
open Go.Am
theorem F11.fn : E.fn 11 = some ⟨78, (Try.f11.body.getD .skip), Try.f11.results.toList, []⟩ := rfl
theorem F11_ok {F : Nat} {m : Mem} {n : Nat} {r : Bool} {t0 : Int} {t1 : Int} {t2 : Int} (h : F11 F t0 t1 t2 = some r)  : Ret E n 11 [.sc (.int .i64 t0), .sc (.int .i64 t1), .sc (.int .i64 t2)] m n (fun v m' n' => v = .sc (.bool r)) := by
  unfold F11 at h
  refine Ret.walk F11.fn ?_
  refine WC.start fun S0 em en hz => ?_
  refine WC.seq ?_
  refine WC.region ?_
  refine WO.asg rfl ?_
  refine WO.nil ?_
  refine thenL_n ?_
  refine WC.seq ?_
  refine WC.region ?_
  refine WO.mv rfl ?_
  obtain ⟨r1, e2, h⟩ := bindS h
  refine WO.callE (S := S0) rfl rfl (F61_ok e2) (fun S3 c4 => ?_)
  refine WO.bin rfl rfl (by decide) (by decide) rfl ?_
  refine WO.mv rfl ?_
  obtain ⟨r5, e6, h⟩ := bindS h
  refine WO.callE (S := S3) rfl rfl (F61_ok e6) (fun S7 c8 => ?_)
  refine WO.bin rfl rfl (by decide) (by decide) rfl ?_
  refine WO.asg rfl ?_
  refine WO.asg rfl ?_
  refine WO.nil ?_
  refine thenL_n ?_
  refine WC.seq ?_
  refine WC.region ?_
  refine WO.mv rfl ?_
  refine WO.mv rfl ?_
  obtain ⟨r9, e10, h⟩ := bindS h
  refine WO.callE (S := S7) rfl rfl (F61_ok e10) (fun S11 c12 => ?_)
  refine WO.asg rfl ?_
  refine WO.nil ?_
  refine thenL_n ?_
  refine WC.seq ?_
  refine WC.region ?_
  refine WO.mv rfl ?_
  obtain ⟨r13, e14, h⟩ := bindS h
  refine WO.callE (S := S11) rfl rfl (F65_ok e14) (fun S15 c16 => ?_)
  refine WO.mv rfl ?_
  refine WO.do rfl rfl ?_
  refine WO.do rfl rfl ?_
  refine WO.asg rfl ?_
  refine WO.asg rfl ?_
  refine WO.nil ?_
  refine thenL_n ?_
  refine WC.seq ?_
  refine WC.seq ?_
  refine WC.region ?_
  obtain ⟨r17, e18, h⟩ := bindS h
  refine WO.callE (S := S15) rfl rfl (F63_ok e18) (fun S19 c20 => ?_)
  refine WO.do rfl rfl ?_
  refine WO.mv rfl ?_
  refine WO.cutB (d := 34) 3 ((!r17) || (r13.2 != 0)) (fun q21 => ?_) (fun q21 => ?_) ?_
  · refine WO.gno rfl rfl ?_
    refine WO.gno rfl rfl ?_
    refine WO.pickT rfl rfl ?_
    refine WO.nil ?_
    exact ⟨rfl, rfl, (Cov.any rfl (orT q21) (Cov.skip rfl (Cov.skip rfl (Cov.skip rfl (Cov.skip rfl (Cov.refl _))))))⟩
  · skip
    refine WO.gyes rfl rfl ?_
    refine WO.mv rfl ?_
    refine WO.gyes rfl rfl ?_
    refine WO.bin rfl rfl (by decide) (by decide) rfl ?_
    refine WO.pickF rfl rfl ?_
    refine WO.nil ?_
    exact ⟨rfl, rfl, (Cov.any rfl (orF q21) (Cov.skip rfl (Cov.skip rfl (Cov.skip rfl (Cov.skip rfl (Cov.refl _))))))⟩
  refine WO.nil ?_
  refine thenL_n ?_
  refine WC.cond rfl (fun q22 => ?_) (fun q22 => ?_)
  · have h := iteT q22 h
    refine WC.seq ?_
    refine WC.region ?_
    refine WO.asg rfl ?_
    refine WO.nil ?_
    refine thenL_n ?_
    refine WC.ret ?_
    refine thenL_r ?_
    obtain rfl := someI h
    exact ⟨.inr rfl, _, _, rfl, rfl, rfl⟩
  · have h := iteF q22 h
    refine WC.skip ?_
    refine thenL_n ?_
    refine WC.seq ?_
    refine WC.region ?_
    refine WO.asg rfl ?_
    refine WO.nil ?_
    refine thenL_n ?_
    refine WC.seq ?_
    refine WC.seq ?_
    refine WC.region ?_
    refine WO.mv rfl ?_
    refine WO.mv rfl ?_
    refine WO.nil ?_
    refine thenL_n ?_
    refine WC.block ?_
    obtain ⟨b72, e73, h⟩ := bindS h
    refine WC.loopD e73 (fun s23 l' m' n' => ∃ S24 : Cx n, S24.m = m' ∧ S24.n = n' ∧ Cov l' [(0, .sc (.int .i64 ((wrapA .i64 (1 + r1))))), (1, .sc (.int .i64 ((wrapA .i64 (1 + r5))))), (2, .sc (.int .i64 r9)), (7, .sc (.int .i64 r13.1)), (9, .sc (.int .i64 s23.1)), (35, .sc (.int .i64 r13.1)), (36, .sc (.int .i64 s23.2))]) (fun b e l' m' n' => (match b with | .inl b25 => e = .exit 0 ∧ ∃ S26 : Cx n, S26.m = m' ∧ S26.n = n' ∧ Cov l' [(0, .sc (.int .i64 ((wrapA .i64 (1 + r1))))), (1, .sc (.int .i64 ((wrapA .i64 (1 + r5))))), (7, .sc (.int .i64 r13.1)), (9, .sc (.int .i64 b25))] | .inr b25 => e = .ret ∧ ∃ S27 : Cx n, S27.m = m' ∧ S27.n = n' ∧ Cov l' [(6, .sc (.bool b25))])) (by exact ⟨S19, rfl, rfl, (Cov.cons rfl (Cov.cons rfl (Cov.cons rfl (Cov.cons rfl (Cov.cons rfl (Cov.cons rfl (Cov.cons rfl (Cov.nil _))))))))⟩) ?_ ?_
    · clear h
      rintro s23 q _ _ _ ⟨S28, rfl, rfl, hc29⟩ h
      unfold F11_l1 at h
      refine WC.cov hc29 ?_
      refine WC.seq ?_
      refine WC.region ?_
      refine WO.bin rfl rfl (by decide) (by decide) rfl ?_
      refine WO.nil ?_
      refine thenL_n ?_
      refine WC.seq ?_
      refine WC.cond rfl (fun q30 => ?_) (fun q30 => ?_)
      · have h := iteT q30 h
        refine WC.skip ?_
        refine thenL_n ?_
        refine WC.seq ?_
        refine WC.block ?_
        refine WC.seq ?_
        refine WC.region ?_
        refine WO.mv rfl ?_
        refine WO.asg rfl ?_
        refine WO.nil ?_
        refine thenL_n ?_
        refine WC.seq ?_
        refine WC.region ?_
        refine WO.asg rfl ?_
        refine WO.nil ?_
        refine thenL_n ?_
        refine WC.seq ?_
        refine WC.seq ?_
        refine WC.region ?_
        refine WO.mv rfl ?_
        refine WO.mv rfl ?_
        refine WO.nil ?_
        refine thenL_n ?_
        refine WC.block ?_
        obtain ⟨b55, e56, h⟩ := bindS h
        refine WC.loopD e56 (fun s31 l' m' n' => ∃ S33 : Cx n, ∃ v34 : SV, S33.m = m' ∧ S33.n = n' ∧ Cov l' [(0, .sc (.int .i64 ((wrapA .i64 (1 + r1))))), (1, .sc (.int .i64 ((wrapA .i64 (1 + r5))))), (2, .sc (.int .i64 r9)), (7, .sc (.int .i64 r13.1)), (9, .sc (.int .i64 s23.1)), (10, .sc (.int .i64 s31.1)), (11, .sc v34), (35, .sc (.int .i64 r13.1)), (36, .sc (.int .i64 s23.2)), (39, .sc (.int .i64 ((wrapA .i64 (1 + r1))))), (40, .sc (.int .i64 s31.2.2))] ∧ Ow Y3 S33 2 v34 s31.2.1) (fun b e l' m' n' => e = .exit 2 ∧ ∃ S35 : Cx n, ∃ v36 : SV, S35.m = m' ∧ S35.n = n' ∧ Cov l' [(0, .sc (.int .i64 ((wrapA .i64 (1 + r1))))), (1, .sc (.int .i64 ((wrapA .i64 (1 + r5))))), (2, .sc (.int .i64 r9)), (7, .sc (.int .i64 r13.1)), (9, .sc (.int .i64 s23.1)), (11, .sc v36), (35, .sc (.int .i64 r13.1)), (36, .sc (.int .i64 s23.2))] ∧ Ow Y3 S35 2 v36 b) (by exact ⟨S28, .nils, rfl, rfl, (Cov.cons rfl (Cov.cons rfl (Cov.cons rfl (Cov.cons rfl (Cov.cons rfl (Cov.cons rfl (Cov.cons rfl (Cov.cons rfl (Cov.cons rfl (Cov.cons rfl (Cov.cons rfl (Cov.nil _)))))))))))), Ow.nil⟩) ?_ ?_
        · clear h
          rintro s31 q _ _ _ ⟨S37, v38, rfl, rfl, hc39, ho11⟩ h
          unfold F11_l0 at h
          refine WC.cov hc39 ?_
          refine WC.seq ?_
          refine WC.region ?_
          refine WO.bin rfl rfl (by decide) (by decide) rfl ?_
          refine WO.nil ?_
          refine thenL_n ?_
          refine WC.seq ?_
          refine WC.cond rfl (fun q40 => ?_) (fun q40 => ?_)
          · have h := iteT q40 h
            refine WC.skip ?_
            refine thenL_n ?_
            refine WC.seq ?_
            refine WC.block ?_
            refine WC.seq ?_
            refine WC.region ?_
            refine WO.mv rfl ?_
            refine WO.asg rfl ?_
            refine WO.nil ?_
            refine thenL_n ?_
            refine WC.seq ?_
            refine WC.region ?_
            refine WO.mv rfl ?_
            refine WO.mv rfl ?_
            refine WO.mv rfl ?_
            refine WO.bin rfl rfl (by decide) (by decide) rfl ?_
            obtain ⟨x41, e42, h⟩ := bindS h
            refine WO.remD rfl rfl e42 ?_
            refine WO.bsS (A := Y3) (S := S37) (M := [x41]) (cs := [.int .i64 x41]) 3 rfl rfl rfl ⟨[.int .i64 x41], _, rfl, rfl, rfl⟩ rfl (fun v43 S44 c45 ho46 => ?_)
            have ho11 := ho11.to c45
            obtain ⟨L47, e48, h⟩ := bindS h
            refine WO.appS rfl rfl ho11 ho46.ro e48 rfl rfl (fun v49 S50 c51 ho52 => ?_)
            have ho46 := ho46.to c51
            refine WO.asg rfl ?_
            refine WO.nil ?_
            refine thenL_n ?_
            refine WC.region ?_
            refine WO.mv rfl ?_
            refine WO.mv rfl ?_
            refine WO.bin rfl rfl (by decide) (by decide) rfl ?_
            obtain ⟨x53, e54, h⟩ := bindS h
            refine WO.quoD rfl rfl e54 ?_
            refine WO.asg rfl ?_
            refine WO.nil ?_
            refine blockL_n ?_
            refine thenL_n ?_
            refine WC.region ?_
            refine WO.bin rfl rfl (by decide) (by decide) rfl ?_
            refine WO.mv rfl ?_
            refine WO.nil ?_
            refine thenL_n ?_
            obtain rfl := someI h
            exact ⟨_, rfl, ⟨S50, v49, rfl, rfl, (Cov.cons rfl (Cov.cons rfl (Cov.cons rfl (Cov.cons rfl (Cov.cons rfl (Cov.cons rfl (Cov.cons rfl (Cov.cons rfl (Cov.cons rfl (Cov.cons rfl (Cov.cons rfl (Cov.nil _)))))))))))), ho52⟩⟩
          · have h := iteF q40 h
            refine WC.exit ?_
            refine thenL_e ?_
            refine thenL_e ?_
            obtain rfl := someI h
            exact ⟨_, rfl, rfl, ⟨S37, v38, rfl, rfl, (Cov.cons rfl (Cov.cons rfl (Cov.cons rfl (Cov.cons rfl (Cov.cons rfl (Cov.cons rfl (Cov.cons rfl (Cov.cons rfl (Cov.nil _))))))))), ho11⟩⟩
        rintro _ _ _ _ ⟨rfl, ⟨S57, v58, rfl, rfl, hc59, ho11⟩⟩
        refine blockL_s ?_
        refine thenL_n ?_
        refine WC.cov hc59 ?_
        refine WC.seq ?_
        refine WC.region ?_
        refine WO.mv rfl ?_
        refine WO.mv rfl ?_
        obtain ⟨r60, e61, h⟩ := bindS h
        refine WO.callF (S := S57) 4 rfl rfl (F80_ok e61 ho11.vw) Lay.flat_fl (fun v62 S64 c65 ho63 => ?_)
        have ho11 := ho11.to c65
        refine WO.mv rfl ?_
        refine WO.do rfl rfl ?_
        refine WO.do rfl rfl ?_
        refine WO.asg rfl ?_
        refine WO.asg rfl ?_
        refine WO.nil ?_
        refine thenL_n ?_
        refine WC.seq ?_
        refine WC.seq ?_
        refine WC.region ?_
        refine WO.mv rfl ?_
        refine WO.bin rfl rfl (by decide) (by decide) rfl ?_
        refine WO.nil ?_
        refine thenL_n ?_
        refine WC.cond rfl (fun q66 => ?_) (fun q66 => ?_)
        · have h := iteT q66 h
          refine WC.seq ?_
          refine WC.region ?_
          refine WO.asg rfl ?_
          refine WO.nil ?_
          refine thenL_n ?_
          refine WC.ret ?_
          refine thenL_r ?_
          refine blockL_r ?_
          refine thenL_r ?_
          refine thenL_r ?_
          obtain rfl := someI h
          exact ⟨_, rfl, rfl, ⟨S64, rfl, rfl, (Cov.cons rfl (Cov.nil _))⟩⟩
        · have h := iteF q66 h
          refine WC.skip ?_
          refine thenL_n ?_
          refine WC.seq ?_
          refine WC.region ?_
          refine WO.mv rfl ?_
          refine WO.mv rfl ?_
          obtain ⟨r67, e68, h⟩ := bindS h
          refine WO.callE (S := S64) rfl rfl (F81_ok e68 ho63.vw) (fun S69 c70 => ?_)
          have ho11 := ho11.to c70
          have ho63 := ho63.to c70
          refine WO.nil ?_
          refine thenL_n ?_
          refine WC.cond rfl (fun q71 => ?_) (fun q71 => ?_)
          · have h := iteT q71 h
            refine WC.region ?_
            refine WO.mv rfl ?_
            refine WO.bin rfl rfl (by decide) (by decide) rfl ?_
            refine WO.asg rfl ?_
            refine WO.nil ?_
            refine blockL_n ?_
            refine thenL_n ?_
            refine WC.region ?_
            refine WO.bin rfl rfl (by decide) (by decide) rfl ?_
            refine WO.mv rfl ?_
            refine WO.nil ?_
            refine thenL_n ?_
            obtain rfl := someI h
            exact ⟨_, rfl, ⟨S69, rfl, rfl, (Cov.cons rfl (Cov.cons rfl (Cov.cons rfl (Cov.cons rfl (Cov.cons rfl (Cov.cons rfl (Cov.cons rfl (Cov.nil _))))))))⟩⟩
          · have h := iteF q71 h
            refine WC.skip ?_
            refine blockL_n ?_
            refine thenL_n ?_
            refine WC.region ?_
            refine WO.bin rfl rfl (by decide) (by decide) rfl ?_
            refine WO.mv rfl ?_
            refine WO.nil ?_
            refine thenL_n ?_
            obtain rfl := someI h
            exact ⟨_, rfl, ⟨S69, rfl, rfl, (Cov.cons rfl (Cov.cons rfl (Cov.cons rfl (Cov.cons rfl (Cov.cons rfl (Cov.cons rfl (Cov.cons rfl (Cov.nil _))))))))⟩⟩
      · have h := iteF q30 h
        refine WC.exit ?_
        refine thenL_e ?_
        refine thenL_e ?_
        obtain rfl := someI h
        exact ⟨_, rfl, rfl, ⟨S28, rfl, rfl, (Cov.cons rfl (Cov.cons rfl (Cov.cons rfl (Cov.cons rfl (Cov.nil _)))))⟩⟩
    cases b72 with
    | inl b74 =>
      simp only at h
      rintro _ _ _ _ ⟨rfl, ⟨S75, rfl, rfl, hc76⟩⟩
      refine blockL_s ?_
      refine thenL_n ?_
      refine WC.cov hc76 ?_
      refine WC.seq ?_
      refine WC.region ?_
      refine WO.mv rfl ?_
      refine WO.mv rfl ?_
      refine WO.bin rfl rfl (by decide) (by decide) rfl ?_
      refine WO.mv rfl ?_
      refine WO.mv rfl ?_
      refine WO.mv rfl ?_
      refine WO.minD rfl rfl ?_
      refine WO.bin rfl rfl (by decide) (by decide) rfl ?_
      refine WO.bin rfl rfl (by decide) (by decide) rfl ?_
      refine WO.asg rfl ?_
      refine WO.nil ?_
      refine thenL_n ?_
      refine WC.ret ?_
      obtain rfl := someI h
      exact ⟨.inr rfl, _, _, rfl, rfl, rfl⟩
    | inr b74 =>
      simp only at h
      rintro _ _ _ _ ⟨rfl, ⟨S77, rfl, rfl, hc78⟩⟩
      refine blockL_r ?_
      refine thenL_r ?_
      obtain rfl := someI h
      exact ⟨.inr rfl, _, _, (resK_cov hc78 rfl), rfl, rfl⟩
end Go.Proofs.Ytdfalejlhkalhaa

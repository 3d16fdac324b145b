/- The machine answers F74: printed by a program of ours (gen.py). -/
import Derived.Test.YtihmliblbhjlaaaDef
import Derived.Test.YtihmliblbhjlaaaEnv
set_option linter.unusedVariables false
namespace Go.Proofs.Ytihmliblbhjlaaa
open Go.Am
theorem F74.fn : E.fn 74 = some ⟨62, (Try.f74.body.getD .skip), Try.f74.results.toList, []⟩ := rfl
theorem F74_ok {F : Nat} {m : Mem} {n : Nat} {r : Int × Int} {t0 : Int} {t1 : Int} (h : F74 F t0 t1 = some r)  : Ret E n 74 [.sc (.int .i64 t0), .sc (.int .i64 t1)] m n (fun v m' n' => v = .tup [.sc (.int .i64 r.1), .sc (.int .i64 r.2)]) := by
  unfold F74 at h
  refine Ret.walk F74.fn ?_
  refine WC.start fun S0 em en hz => ?_
  refine WC.seq ?_
  refine WC.region ?_
  refine WO.asg rfl ?_
  refine WO.asg rfl ?_
  refine WO.nil ?_
  refine thenL_n ?_
  refine WC.seq ?_
  refine WC.seq ?_
  refine WC.region ?_
  refine WO.mv rfl ?_
  refine WO.bin rfl rfl (by decide) (by decide) rfl ?_
  refine WO.mv rfl ?_
  refine WO.cutB (d := 14) 3 ((decide (t0 < 0)) || (decide (t0 > 15))) (fun q1 => ?_) (fun q1 => ?_) ?_
  · refine WO.gno rfl rfl ?_
    refine WO.gno rfl rfl ?_
    refine WO.pickT rfl rfl ?_
    refine WO.nil ?_
    exact ⟨rfl, rfl, (Cov.any rfl (orT q1) (Cov.skip rfl (Cov.skip rfl (Cov.skip rfl (Cov.skip rfl (Cov.refl _))))))⟩
  · skip
    refine WO.gyes rfl rfl ?_
    refine WO.mv rfl ?_
    refine WO.gyes rfl rfl ?_
    refine WO.bin rfl rfl (by decide) (by decide) rfl ?_
    refine WO.pickF rfl rfl ?_
    refine WO.nil ?_
    exact ⟨rfl, rfl, (Cov.any rfl (orF q1) (Cov.skip rfl (Cov.skip rfl (Cov.skip rfl (Cov.skip rfl (Cov.refl _))))))⟩
  refine WO.mv rfl ?_
  refine WO.cutB (d := 18) 3 (((decide (t0 < 0)) || (decide (t0 > 15))) || (decide (t1 < 0))) (fun q2 => ?_) (fun q2 => ?_) ?_
  · refine WO.gno rfl rfl ?_
    refine WO.gno rfl rfl ?_
    refine WO.pickT rfl rfl ?_
    refine WO.nil ?_
    exact ⟨rfl, rfl, (Cov.any rfl (orT q2) (Cov.skip rfl (Cov.skip rfl (Cov.skip rfl (Cov.skip rfl (Cov.refl _))))))⟩
  · skip
    refine WO.gyes rfl rfl ?_
    refine WO.mv rfl ?_
    refine WO.gyes rfl rfl ?_
    refine WO.bin rfl rfl (by decide) (by decide) rfl ?_
    refine WO.pickF rfl rfl ?_
    refine WO.nil ?_
    exact ⟨rfl, rfl, (Cov.any rfl (orF q2) (Cov.skip rfl (Cov.skip rfl (Cov.skip rfl (Cov.skip rfl (Cov.refl _))))))⟩
  refine WO.mv rfl ?_
  refine WO.cutB (d := 22) 3 ((((decide (t0 < 0)) || (decide (t0 > 15))) || (decide (t1 < 0))) || (decide (t1 > 15))) (fun q3 => ?_) (fun q3 => ?_) ?_
  · refine WO.gno rfl rfl ?_
    refine WO.gno rfl rfl ?_
    refine WO.pickT rfl rfl ?_
    refine WO.nil ?_
    exact ⟨rfl, rfl, (Cov.any rfl (orT q3) (Cov.skip rfl (Cov.skip rfl (Cov.skip rfl (Cov.skip rfl (Cov.refl _))))))⟩
  · skip
    refine WO.gyes rfl rfl ?_
    refine WO.mv rfl ?_
    refine WO.gyes rfl rfl ?_
    refine WO.bin rfl rfl (by decide) (by decide) rfl ?_
    refine WO.pickF rfl rfl ?_
    refine WO.nil ?_
    exact ⟨rfl, rfl, (Cov.any rfl (orF q3) (Cov.skip rfl (Cov.skip rfl (Cov.skip rfl (Cov.skip rfl (Cov.refl _))))))⟩
  refine WO.nil ?_
  refine thenL_n ?_
  refine WC.cond rfl (fun q4 => ?_) (fun q4 => ?_)
  · have h := iteT q4 h
    refine WC.seq ?_
    refine WC.region ?_
    refine WO.asg rfl ?_
    refine WO.asg rfl ?_
    refine WO.nil ?_
    refine thenL_n ?_
    refine WC.ret ?_
    refine thenL_r ?_
    obtain rfl := someI h
    exact ⟨.inr rfl, _, _, rfl, rfl, rfl⟩
  · have h := iteF q4 h
    refine WC.skip ?_
    refine thenL_n ?_
    refine WC.seq ?_
    refine WC.region ?_
    obtain ⟨L5, e6, h⟩ := bindS h
    refine WO.mkS (A := Y3) (S := S0) 2 rfl rfl e6 rfl rfl rfl (fun v7 S8 c9 ho10 => ?_)
    refine WO.asg rfl ?_
    refine WO.nil ?_
    refine thenL_n ?_
    refine WC.seq ?_
    refine WC.region ?_
    refine WO.mv rfl ?_
    obtain ⟨u11, e12, h⟩ := bindS h
    refine WO.ixS rfl rfl ho10.slv (ck_some e12) rfl ?_
    refine WO.st1 (u' := 1) rfl rfl ho10 (ck_nat e12) rfl rfl (fun S13 c14 ho10 => ?_)
    refine WO.nil ?_
    refine thenL_n ?_
    refine WC.seq ?_
    refine WC.seq ?_
    refine WC.region ?_
    refine WO.asg rfl ?_
    refine WO.nil ?_
    refine thenL_n ?_
    refine WC.block ?_
    obtain ⟨b39, e40, h⟩ := bindS h
    refine WC.loopD e40 (fun s15 l' m' n' => ∃ S16 : Cx n, S16.m = m' ∧ S16.n = n' ∧ Cov l' [(0, .sc (.int .i64 t0)), (1, .sc (.int .i64 t1)), (6, .sc v7), (7, .sc (.int .i64 s15.1))] ∧ Ow Y3 S16 2 v7 s15.2) (fun b e l' m' n' => e = .exit 0 ∧ ∃ S17 : Cx n, S17.m = m' ∧ S17.n = n' ∧ Cov l' [(1, .sc (.int .i64 t1)), (6, .sc v7)] ∧ Ow Y3 S17 2 v7 b) (by exact ⟨S13, rfl, rfl, (Cov.cons rfl (Cov.cons rfl (Cov.cons rfl (Cov.cons rfl (Cov.nil _))))), ho10⟩) ?_ ?_
    · clear h
      rintro s15 q _ _ _ ⟨S18, rfl, rfl, hc19, ho10⟩ h
      unfold F74_l1 at h
      refine WC.cov hc19 ?_
      refine WC.seq ?_
      refine WC.seq ?_
      refine WC.region ?_
      refine WO.mv rfl ?_
      refine WO.mv rfl ?_
      refine WO.bin rfl rfl (by decide) (by decide) rfl ?_
      refine WO.nil ?_
      refine thenL_n ?_
      refine WC.cond rfl (fun q20 => ?_) (fun q20 => ?_)
      · have h := iteT q20 h
        refine WC.skip ?_
        refine thenL_n ?_
        refine WC.seq ?_
        refine WC.block ?_
        refine WC.seq ?_
        refine WC.region ?_
        refine WO.mv rfl ?_
        refine WO.bin rfl rfl (by decide) (by decide) rfl ?_
        refine WO.minD rfl rfl ?_
        refine WO.asg rfl ?_
        refine WO.nil ?_
        refine thenL_n ?_
        refine WC.block ?_
        obtain ⟨b35, e36, h⟩ := bindS h
        refine WC.loopD e36 (fun s21 l' m' n' => ∃ S22 : Cx n, S22.m = m' ∧ S22.n = n' ∧ Cov l' [(0, .sc (.int .i64 t0)), (1, .sc (.int .i64 t1)), (6, .sc v7), (7, .sc (.int .i64 s15.1)), (8, .sc (.int .i64 s21.1))] ∧ Ow Y3 S22 2 v7 s21.2) (fun b e l' m' n' => e = .exit 2 ∧ ∃ S23 : Cx n, S23.m = m' ∧ S23.n = n' ∧ Cov l' [(0, .sc (.int .i64 t0)), (1, .sc (.int .i64 t1)), (6, .sc v7), (7, .sc (.int .i64 s15.1))] ∧ Ow Y3 S23 2 v7 b) (by exact ⟨S18, rfl, rfl, (Cov.cons rfl (Cov.cons rfl (Cov.cons rfl (Cov.cons rfl (Cov.cons rfl (Cov.nil _)))))), ho10⟩) ?_ ?_
        · clear h
          rintro s21 q _ _ _ ⟨S24, rfl, rfl, hc25, ho10⟩ h
          unfold F74_l0 at h
          refine WC.cov hc25 ?_
          refine WC.seq ?_
          refine WC.seq ?_
          refine WC.region ?_
          refine WO.mv rfl ?_
          refine WO.bin rfl rfl (by decide) (by decide) rfl ?_
          refine WO.nil ?_
          refine thenL_n ?_
          refine WC.cond rfl (fun q26 => ?_) (fun q26 => ?_)
          · have h := iteT q26 h
            refine WC.skip ?_
            refine thenL_n ?_
            refine WC.seq ?_
            refine WC.block ?_
            refine WC.drawN rfl rfl ?_
            have ho10z := ho10.oz
            refine WO.mv rfl ?_
            refine WO.mv rfl ?_
            refine WO.mv rfl ?_
            refine WO.bin rfl rfl (by decide) (by decide) rfl ?_
            refine WO.mv rfl ?_
            refine WO.mv rfl ?_
            obtain ⟨x27, e28, h⟩ := bindS h
            refine WO.ixS rfl rfl ho10.slv (at?_lt e28) rfl ?_
            refine WO.ldF rfl ho10z (fun _ hi => hi.1) (at?_get e28) rfl rfl (limLe_self _) ?_
            refine WO.bin rfl rfl (by decide) (by decide) rfl ?_
            refine WO.mv rfl ?_
            refine WO.mv rfl ?_
            refine WO.bin rfl rfl (by decide) (by decide) rfl ?_
            refine WO.mv rfl ?_
            refine WO.mv rfl ?_
            refine WO.bin rfl rfl (by decide) (by decide) rfl ?_
            obtain ⟨x29, e30, h⟩ := bindS h
            refine WO.ixS rfl rfl ho10.slv (at?_lt e30) rfl ?_
            refine WO.ldF rfl ho10z (fun _ hi => hi.1) (at?_get e30) rfl rfl (limLe_self _) ?_
            refine WO.bin rfl rfl (by decide) (by decide) rfl ?_
            refine WO.bin rfl rfl (by decide) (by decide) rfl ?_
            obtain ⟨u31, e32, h⟩ := bindS h
            refine WO.ixS rfl rfl ho10.slv (ck_some e32) rfl ?_
            refine WO.st1 (u' := (wrapA .i64 ((wrapA .i64 ((wrapA .i64 (s21.1 + 1)) * x27)) + (wrapA .i64 ((wrapA .i64 (s15.1 - s21.1)) * x29))))) rfl rfl ho10 (ck_nat e32) rfl rfl (fun S33 c34 ho10 => ?_)
            refine WO.nil ?_
            refine blockL_n ?_
            refine thenL_n ?_
            refine WC.region ?_
            refine WO.mv rfl ?_
            refine WO.bin rfl rfl (by decide) (by decide) rfl ?_
            refine WO.asg rfl ?_
            refine WO.nil ?_
            refine thenL_n ?_
            obtain rfl := someI h
            exact ⟨_, rfl, ⟨S33, rfl, rfl, (Cov.cons rfl (Cov.cons rfl (Cov.cons rfl (Cov.cons rfl (Cov.cons rfl (Cov.nil _)))))), ho10⟩⟩
          · have h := iteF q26 h
            refine WC.exit ?_
            refine thenL_e ?_
            refine thenL_e ?_
            obtain rfl := someI h
            exact ⟨_, rfl, rfl, ⟨S24, rfl, rfl, (Cov.cons rfl (Cov.cons rfl (Cov.cons rfl (Cov.cons rfl (Cov.nil _))))), ho10⟩⟩
        rintro _ _ _ _ ⟨rfl, ⟨S37, rfl, rfl, hc38, ho10⟩⟩
        refine blockL_s ?_
        refine blockL_n ?_
        refine thenL_n ?_
        refine WC.cov hc38 ?_
        refine WC.region ?_
        refine WO.mv rfl ?_
        refine WO.bin rfl rfl (by decide) (by decide) rfl ?_
        refine WO.asg rfl ?_
        refine WO.nil ?_
        refine thenL_n ?_
        obtain rfl := someI h
        exact ⟨_, rfl, ⟨S37, rfl, rfl, (Cov.cons rfl (Cov.cons rfl (Cov.cons rfl (Cov.cons rfl (Cov.nil _))))), ho10⟩⟩
      · have h := iteF q20 h
        refine WC.exit ?_
        refine thenL_e ?_
        refine thenL_e ?_
        obtain rfl := someI h
        exact ⟨_, rfl, rfl, ⟨S18, rfl, rfl, (Cov.cons rfl (Cov.cons rfl (Cov.nil _))), ho10⟩⟩
    rintro _ _ _ _ ⟨rfl, ⟨S41, rfl, rfl, hc42, ho10⟩⟩
    refine blockL_s ?_
    refine thenL_n ?_
    refine WC.cov hc42 ?_
    refine WC.seq ?_
    refine WC.region ?_
    refine WO.mv rfl ?_
    refine WO.mv rfl ?_
    obtain ⟨x43, e44, h⟩ := bindS h
    refine WO.ixS rfl rfl ho10.slv (at?_lt e44) rfl ?_
    refine WO.ldF rfl ho10.ro (fun _ hi => hi) (at?_get e44) rfl rfl rfl ?_
    refine WO.asg rfl ?_
    refine WO.asg rfl ?_
    refine WO.nil ?_
    refine thenL_n ?_
    refine WC.ret ?_
    obtain rfl := someI h
    exact ⟨.inr rfl, _, _, rfl, rfl, rfl⟩
end Go.Proofs.Ytihmliblbhjlaaa

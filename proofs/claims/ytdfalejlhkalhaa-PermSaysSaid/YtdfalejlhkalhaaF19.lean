/- The machine answers F19: printed by a program of ours (gen.py). -/
import Derived.Test.YtdfalejlhkalhaaDef
import Derived.Test.YtdfalejlhkalhaaEnv
set_option linter.unusedVariables false
namespace Go.Proofs.Ytdfalejlhkalhaa
open Go.Am
theorem F19.fn : E.fn 19 = some ⟨29, (Try.f19.body.getD .skip), Try.f19.results.toList, []⟩ := rfl
theorem F19_ok {F : Nat} {m : Mem} {n : Nat} {r : Int} {t0 : List Int} {vt0 : SV} (h : F19 F t0 = some r) (kt0 : Vw Y3 n m vt0 t0) : Ret E n 19 [.sc vt0] m n (fun v m' n' => v = .sc (.int .i64 r)) := by
  unfold F19 at h
  refine Ret.walk F19.fn ?_
  refine WC.start fun S0 em en hz => ?_
  have hot0 := kt0.rdS em hz
  refine WC.seq ?_
  refine WC.region ?_
  refine WO.asg rfl ?_
  refine WO.nil ?_
  refine thenL_n ?_
  refine WC.seq ?_
  refine WC.region ?_
  refine WO.asg rfl ?_
  refine WO.nil ?_
  refine thenL_n ?_
  refine WC.seq ?_
  refine WC.seq ?_
  refine WC.region ?_
  refine WO.mv rfl ?_
  refine WO.lenS rfl hot0.slv rfl ?_
  refine WO.mv rfl ?_
  refine WO.nil ?_
  refine thenL_n ?_
  refine WC.block ?_
  obtain ⟨b22, e23, h⟩ := bindS h
  refine WC.loopD e23 (fun s1 l' m' n' => ∃ S2 : Cx n, S2.m = m' ∧ S2.n = n' ∧ Cov l' [(0, .sc vt0), (3, .sc (.int .i64 s1.1)), (7, .sc (.int .i64 ((t0.length : Int)))), (8, .sc (.int .i64 s1.2))] ∧ Rd Y3 S2 vt0 t0) (fun b e l' m' n' => e = .exit 0 ∧ ∃ S3 : Cx n, S3.m = m' ∧ S3.n = n' ∧ Cov l' [(3, .sc (.int .i64 b))]) (by exact ⟨S0, rfl, rfl, (Cov.cons rfl (Cov.cons rfl (Cov.cons rfl (Cov.cons rfl (Cov.nil _))))), hot0⟩) ?_ ?_
  · clear h
    rintro s1 q _ _ _ ⟨S4, rfl, rfl, hc5, hot0⟩ h
    unfold F19_l1 at h
    refine WC.cov hc5 ?_
    refine WC.seq ?_
    refine WC.region ?_
    refine WO.bin rfl rfl (by decide) (by decide) rfl ?_
    refine WO.nil ?_
    refine thenL_n ?_
    refine WC.seq ?_
    refine WC.cond rfl (fun q6 => ?_) (fun q6 => ?_)
    · have h := iteT q6 h
      refine WC.skip ?_
      refine thenL_n ?_
      refine WC.seq ?_
      refine WC.block ?_
      refine WC.seq ?_
      refine WC.region ?_
      refine WO.mv rfl ?_
      refine WO.asg rfl ?_
      refine WO.nil ?_
      refine thenL_n ?_
      refine WC.seq ?_
      refine WC.region ?_
      refine WO.mv rfl ?_
      refine WO.mv rfl ?_
      refine WO.nil ?_
      refine thenL_n ?_
      refine WC.block ?_
      obtain ⟨b18, e19, h⟩ := bindS h
      refine WC.loopD e19 (fun s7 l' m' n' => ∃ S8 : Cx n, S8.m = m' ∧ S8.n = n' ∧ Cov l' [(0, .sc vt0), (3, .sc (.int .i64 s7.1)), (4, .sc (.int .i64 s1.2)), (7, .sc (.int .i64 ((t0.length : Int)))), (8, .sc (.int .i64 s1.2)), (11, .sc (.int .i64 s1.2)), (12, .sc (.int .i64 s7.2))] ∧ Rd Y3 S8 vt0 t0) (fun b e l' m' n' => e = .exit 2 ∧ ∃ S9 : Cx n, S9.m = m' ∧ S9.n = n' ∧ Cov l' [(0, .sc vt0), (3, .sc (.int .i64 b)), (7, .sc (.int .i64 ((t0.length : Int)))), (8, .sc (.int .i64 s1.2))] ∧ Rd Y3 S9 vt0 t0) (by exact ⟨S4, rfl, rfl, (Cov.cons rfl (Cov.cons rfl (Cov.cons rfl (Cov.cons rfl (Cov.cons rfl (Cov.cons rfl (Cov.cons rfl (Cov.nil _)))))))), hot0⟩) ?_ ?_
      · clear h
        rintro s7 q _ _ _ ⟨S10, rfl, rfl, hc11, hot0⟩ h
        unfold F19_l0 at h
        refine WC.cov hc11 ?_
        refine WC.seq ?_
        refine WC.region ?_
        refine WO.bin rfl rfl (by decide) (by decide) rfl ?_
        refine WO.nil ?_
        refine thenL_n ?_
        refine WC.seq ?_
        refine WC.cond rfl (fun q12 => ?_) (fun q12 => ?_)
        · have h := iteT q12 h
          refine WC.skip ?_
          refine thenL_n ?_
          refine WC.seq ?_
          refine WC.block ?_
          refine WC.seq ?_
          refine WC.region ?_
          refine WO.mv rfl ?_
          refine WO.asg rfl ?_
          refine WO.nil ?_
          refine thenL_n ?_
          refine WC.seq ?_
          refine WC.drawP rfl ?_
          refine WO.mv rfl ?_
          refine WO.mv rfl ?_
          obtain ⟨x13, e14, h⟩ := bindS h
          refine WO.ixS rfl rfl hot0.slv (at?_lt e14) rfl ?_
          refine WO.ldF rfl hot0.ro (fun _ hi => hi) (at?_get e14) rfl rfl rfl ?_
          refine WO.mv rfl ?_
          refine WO.mv rfl ?_
          obtain ⟨x15, e16, h⟩ := bindS h
          refine WO.ixS rfl rfl hot0.slv (at?_lt e16) rfl ?_
          refine WO.ldF rfl hot0.ro (fun _ hi => hi) (at?_get e16) rfl rfl rfl ?_
          refine WO.bin rfl rfl (by decide) (by decide) rfl ?_
          refine WO.nil ?_
          refine thenL_n ?_
          refine WC.cond rfl (fun q17 => ?_) (fun q17 => ?_)
          · have h := iteT q17 h
            refine WC.region ?_
            refine WO.mv rfl ?_
            refine WO.bin rfl rfl (by decide) (by decide) rfl ?_
            refine WO.asg rfl ?_
            refine WO.nil ?_
            refine blockL_n ?_
            refine thenL_n ?_
            refine WC.region ?_
            refine WO.bin rfl rfl (by decide) (by decide) rfl ?_
            refine WO.mv rfl ?_
            refine WO.nil ?_
            refine thenL_n ?_
            obtain rfl := someI h
            exact ⟨_, rfl, ⟨S10, rfl, rfl, (Cov.cons rfl (Cov.cons rfl (Cov.cons rfl (Cov.cons rfl (Cov.cons rfl (Cov.cons rfl (Cov.cons rfl (Cov.nil _)))))))), hot0⟩⟩
          · have h := iteF q17 h
            refine WC.skip ?_
            refine blockL_n ?_
            refine thenL_n ?_
            refine WC.region ?_
            refine WO.bin rfl rfl (by decide) (by decide) rfl ?_
            refine WO.mv rfl ?_
            refine WO.nil ?_
            refine thenL_n ?_
            obtain rfl := someI h
            exact ⟨_, rfl, ⟨S10, rfl, rfl, (Cov.cons rfl (Cov.cons rfl (Cov.cons rfl (Cov.cons rfl (Cov.cons rfl (Cov.cons rfl (Cov.cons rfl (Cov.nil _)))))))), hot0⟩⟩
        · have h := iteF q12 h
          refine WC.exit ?_
          refine thenL_e ?_
          refine thenL_e ?_
          obtain rfl := someI h
          exact ⟨_, rfl, rfl, ⟨S10, rfl, rfl, (Cov.cons rfl (Cov.cons rfl (Cov.cons rfl (Cov.cons rfl (Cov.nil _))))), hot0⟩⟩
      rintro _ _ _ _ ⟨rfl, ⟨S20, rfl, rfl, hc21, hot0⟩⟩
      refine blockL_s ?_
      refine blockL_n ?_
      refine thenL_n ?_
      refine WC.cov hc21 ?_
      refine WC.region ?_
      refine WO.bin rfl rfl (by decide) (by decide) rfl ?_
      refine WO.mv rfl ?_
      refine WO.nil ?_
      refine thenL_n ?_
      obtain rfl := someI h
      exact ⟨_, rfl, ⟨S20, rfl, rfl, (Cov.cons rfl (Cov.cons rfl (Cov.cons rfl (Cov.cons rfl (Cov.nil _))))), hot0⟩⟩
    · have h := iteF q6 h
      refine WC.exit ?_
      refine thenL_e ?_
      refine thenL_e ?_
      obtain rfl := someI h
      exact ⟨_, rfl, rfl, ⟨S4, rfl, rfl, (Cov.cons rfl (Cov.nil _))⟩⟩
  rintro _ _ _ _ ⟨rfl, ⟨S24, rfl, rfl, hc25⟩⟩
  refine blockL_s ?_
  refine thenL_n ?_
  refine WC.cov hc25 ?_
  refine WC.seq ?_
  refine WC.region ?_
  refine WO.mv rfl ?_
  refine WO.asg rfl ?_
  refine WO.nil ?_
  refine thenL_n ?_
  refine WC.ret ?_
  obtain rfl := someI h
  exact ⟨.inr rfl, _, _, rfl, rfl, rfl⟩
end Go.Proofs.Ytdfalejlhkalhaa

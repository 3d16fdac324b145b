/- The machine answers F96: printed by a program of ours (gen.py). -/
import Derived.Test.YtkfmedmanhcdeaaDef
import Derived.Test.YtkfmedmanhcdeaaEnv
set_option linter.unusedVariables false
namespace Go.Proofs.Ytkfmedmanhcdeaa
open Go.Am
theorem F96.fn : E.fn 96 = some ⟨26, (Try.f96.body.getD .skip), Try.f96.results.toList, []⟩ := rfl
theorem F96_ok {F : Nat} {m : Mem} {n : Nat} {r : Int} {t0 : (List Int)} {t1 : Int} {bt0 : Nat} {vt0_0 : SV} (h : F96 F t0 t1 = some r) (kt0 : Pw n m (.ptr bt0 0) [vt0_0]) (kt0_0 : Vw Y3 n m vt0_0 t0) : Ret E n 96 [.sc (.ptr bt0 0), .sc (.int .i64 t1)] m n (fun v m' n' => v = .sc (.int .i64 r)) := by
  unfold F96 at h
  refine Ret.walk F96.fn ?_
  refine WC.start fun S0 em en hz => ?_
  have hot0_0 := kt0_0.rdS em hz
  have hot0 := kt0.rwS em hz
  refine WC.seq ?_
  refine WC.region ?_
  refine WO.asg rfl ?_
  refine WO.nil ?_
  refine thenL_n ?_
  refine WC.seq ?_
  refine WC.region ?_
  refine WO.asg rfl ?_
  refine WO.nil ?_
  refine thenL_n ?_
  refine WC.seq ?_
  refine WC.seq ?_
  refine WC.region ?_
  refine WO.mv rfl ?_
  refine WO.asg rfl ?_
  refine WO.nil ?_
  refine thenL_n ?_
  refine WC.block ?_
  obtain ⟨b9, e10, h⟩ := bindS h
  refine WC.loopD e10 (fun s1 l' m' n' => ∃ S2 : Cx n, S2.m = m' ∧ S2.n = n' ∧ Cov l' [(0, .sc ((.ptr bt0 0))), (5, .sc (.int .i64 s1.1)), (6, .sc (.int .i64 s1.2))] ∧ Rw S2 (.ptr bt0 0) [vt0_0] ∧ Rd Y3 S2 vt0_0 t0) (fun b e l' m' n' => e = .exit 0 ∧ ∃ S3 : Cx n, S3.m = m' ∧ S3.n = n' ∧ Cov l' [(5, .sc (.int .i64 b))]) (by exact ⟨S0, rfl, rfl, (Cov.cons rfl (Cov.cons rfl (Cov.cons rfl (Cov.nil _)))), hot0, hot0_0⟩) ?_ ?_
  · clear h
    rintro s1 q _ _ _ ⟨S4, rfl, rfl, hc5, hot0, hot0_0⟩ h
    unfold F96_l0 at h
    refine WC.cov hc5 ?_
    refine WC.seq ?_
    refine WC.seq ?_
    refine WC.region ?_
    refine WO.mv rfl ?_
    refine WO.bin rfl rfl (by decide) (by decide) rfl ?_
    refine WO.nil ?_
    refine thenL_n ?_
    refine WC.cond rfl (fun q6 => ?_) (fun q6 => ?_)
    · have h := iteT q6 h
      refine WC.skip ?_
      refine thenL_n ?_
      refine WC.seq ?_
      refine WC.block ?_
      refine WC.region ?_
      refine WO.mv rfl ?_
      refine WO.mv rfl ?_
      refine WO.nck rfl hot0.isp ?_
      refine WO.fldS (j := 0) (q := 0) rfl hot0.at0 hot0.ptr rfl rfl rfl (by decide) ?_
      refine WO.ldRw rfl rfl hot0 rfl rfl hot0.lt rfl ?_
      refine WO.mv rfl ?_
      obtain ⟨x7, e8, h⟩ := bindS h
      refine WO.ixS rfl rfl hot0_0.slv (at?_lt e8) rfl ?_
      refine WO.ldF rfl hot0_0.ro (fun _ hi => hi) (at?_get e8) rfl rfl rfl ?_
      refine WO.bin rfl rfl (by decide) (by decide) rfl ?_
      refine WO.asg rfl ?_
      refine WO.nil ?_
      refine blockL_n ?_
      refine thenL_n ?_
      refine WC.region ?_
      refine WO.mv rfl ?_
      refine WO.mv rfl ?_
      refine WO.mv rfl ?_
      refine WO.do rfl rfl ?_
      refine WO.bits rfl rfl rfl (by decide) (by decide) rfl ?_
      refine WO.bin rfl rfl (by decide) (by decide) rfl ?_
      refine WO.asg rfl ?_
      refine WO.nil ?_
      refine thenL_n ?_
      obtain rfl := someI h
      exact ⟨_, rfl, ⟨S4, rfl, rfl, (Cov.cons rfl (Cov.cons rfl (Cov.cons rfl (Cov.nil _)))), hot0, hot0_0⟩⟩
    · have h := iteF q6 h
      refine WC.exit ?_
      refine thenL_e ?_
      refine thenL_e ?_
      obtain rfl := someI h
      exact ⟨_, rfl, rfl, ⟨S4, rfl, rfl, (Cov.cons rfl (Cov.nil _))⟩⟩
  rintro _ _ _ _ ⟨rfl, ⟨S11, rfl, rfl, hc12⟩⟩
  refine blockL_s ?_
  refine thenL_n ?_
  refine WC.cov hc12 ?_
  refine WC.seq ?_
  refine WC.region ?_
  refine WO.mv rfl ?_
  refine WO.asg rfl ?_
  refine WO.nil ?_
  refine thenL_n ?_
  refine WC.ret ?_
  obtain rfl := someI h
  exact ⟨.inr rfl, _, _, rfl, rfl, rfl⟩
end Go.Proofs.Ytkfmedmanhcdeaa

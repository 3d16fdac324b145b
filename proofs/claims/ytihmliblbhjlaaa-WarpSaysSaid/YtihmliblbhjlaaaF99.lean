/- The machine answers F99: printed by a program of ours (gen.py). -/
import Derived.Test.YtihmliblbhjlaaaDef
import Derived.Test.YtihmliblbhjlaaaEnv
set_option linter.unusedVariables false
namespace Go.Proofs.Ytihmliblbhjlaaa
open Go.Am
theorem F99.fn : E.fn 99 = some ⟨25, (Try.f99.body.getD .skip), Try.f99.results.toList, []⟩ := rfl
theorem F99_ok {F : Nat} {m : Mem} {n : Nat} {r : Int} {t0 : List Int} {vt0 : SV} (h : F99 F t0 = some r) (kt0 : Vw Y3 n m vt0 t0) : Ret E n 99 [.sc vt0] m n (fun v m' n' => v = .sc (.int .i64 r)) := by
  unfold F99 at h
  refine Ret.walk F99.fn ?_
  refine WC.start fun S0 em en hz => ?_
  have hot0 := kt0.rdS em hz
  refine WC.seq ?_
  refine WC.region ?_
  refine WO.asg rfl ?_
  refine WO.nil ?_
  refine thenL_n ?_
  refine WC.seq ?_
  refine WC.seq ?_
  refine WC.region ?_
  refine WO.mv rfl ?_
  refine WO.lenS rfl hot0.slv rfl ?_
  refine WO.bin rfl rfl (by decide) (by decide) rfl ?_
  refine WO.nil ?_
  refine thenL_n ?_
  obtain ⟨b2, e3, h⟩ := bindS h
  refine WC.mono (Q' := (fun b e l' m' n' => e = .normal ∧ ∃ S4 : Cx n, S4.m = m' ∧ S4.n = n' ∧ Cov l' [(0, .sc vt0)] ∧ Rd Y3 S4 vt0 t0) b2) ?_ ?_
  · have h := e3
    dsimp only at h ⊢
    refine WC.cond rfl (fun q1 => ?_) (fun q1 => ?_)
    · have h := iteT q1 h
      refine WC.region ?_
      cases h
    · have h := iteF q1 h
      refine WC.skip ?_
      obtain rfl := someI h
      exact ⟨rfl, ⟨S0, rfl, rfl, (Cov.cons rfl (Cov.nil _)), hot0⟩⟩
  dsimp only
  rintro _ _ _ _ ⟨rfl, ⟨S5, rfl, rfl, hc6, hot0⟩⟩
  refine thenL_n ?_
  refine WC.cov hc6 ?_
  refine WC.seq ?_
  refine WC.region ?_
  refine WO.mv rfl ?_
  obtain ⟨x7, e8, h⟩ := bindS h
  refine WO.ixS rfl rfl hot0.slv (at?_lt e8) rfl ?_
  refine WO.ldF rfl hot0.ro (fun _ hi => hi) (at?_get e8) rfl rfl rfl ?_
  refine WO.asg rfl ?_
  refine WO.nil ?_
  refine thenL_n ?_
  refine WC.seq ?_
  refine WC.seq ?_
  refine WC.region ?_
  refine WO.asg rfl ?_
  refine WO.nil ?_
  refine thenL_n ?_
  refine WC.block ?_
  obtain ⟨b17, e18, h⟩ := bindS h
  refine WC.loopD e18 (fun s9 l' m' n' => ∃ S10 : Cx n, S10.m = m' ∧ S10.n = n' ∧ Cov l' [(0, .sc vt0), (3, .sc (.int .i64 s9.1)), (4, .sc (.int .i64 s9.2))] ∧ Rd Y3 S10 vt0 t0) (fun b e l' m' n' => e = .exit 0 ∧ ∃ S11 : Cx n, S11.m = m' ∧ S11.n = n' ∧ Cov l' [(3, .sc (.int .i64 b))]) (by exact ⟨S5, rfl, rfl, (Cov.cons rfl (Cov.cons rfl (Cov.cons rfl (Cov.nil _)))), hot0⟩) ?_ ?_
  · clear h
    rintro s9 q _ _ _ ⟨S12, rfl, rfl, hc13, hot0⟩ h
    unfold F99_l0 at h
    refine WC.cov hc13 ?_
    refine WC.seq ?_
    refine WC.seq ?_
    refine WC.region ?_
    refine WO.mv rfl ?_
    refine WO.mv rfl ?_
    refine WO.lenS rfl hot0.slv rfl ?_
    refine WO.bin rfl rfl (by decide) (by decide) rfl ?_
    refine WO.nil ?_
    refine thenL_n ?_
    refine WC.cond rfl (fun q14 => ?_) (fun q14 => ?_)
    · have h := iteT q14 h
      refine WC.skip ?_
      refine thenL_n ?_
      refine WC.seq ?_
      refine WC.block ?_
      refine WC.region ?_
      refine WO.mv rfl ?_
      refine WO.mv rfl ?_
      refine WO.mv rfl ?_
      obtain ⟨x15, e16, h⟩ := bindS h
      refine WO.ixS rfl rfl hot0.slv (at?_lt e16) rfl ?_
      refine WO.ldF rfl hot0.ro (fun _ hi => hi) (at?_get e16) rfl rfl rfl ?_
      refine WO.minD rfl rfl ?_
      refine WO.asg rfl ?_
      refine WO.nil ?_
      refine blockL_n ?_
      refine thenL_n ?_
      refine WC.region ?_
      refine WO.mv rfl ?_
      refine WO.bin rfl rfl (by decide) (by decide) rfl ?_
      refine WO.asg rfl ?_
      refine WO.nil ?_
      refine thenL_n ?_
      obtain rfl := someI h
      exact ⟨_, rfl, ⟨S12, rfl, rfl, (Cov.cons rfl (Cov.cons rfl (Cov.cons rfl (Cov.nil _)))), hot0⟩⟩
    · have h := iteF q14 h
      refine WC.exit ?_
      refine thenL_e ?_
      refine thenL_e ?_
      obtain rfl := someI h
      exact ⟨_, rfl, rfl, ⟨S12, rfl, rfl, (Cov.cons rfl (Cov.nil _))⟩⟩
  rintro _ _ _ _ ⟨rfl, ⟨S19, rfl, rfl, hc20⟩⟩
  refine blockL_s ?_
  refine thenL_n ?_
  refine WC.cov hc20 ?_
  refine WC.seq ?_
  refine WC.region ?_
  refine WO.mv rfl ?_
  refine WO.asg rfl ?_
  refine WO.nil ?_
  refine thenL_n ?_
  refine WC.ret ?_
  obtain rfl := someI h
  exact ⟨.inr rfl, _, _, rfl, rfl, rfl⟩
end Go.Proofs.Ytihmliblbhjlaaa

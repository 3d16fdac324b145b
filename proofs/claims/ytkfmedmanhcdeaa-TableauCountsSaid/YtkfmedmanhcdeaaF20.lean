/- The machine answers F20: printed by a program of ours (gen.py). -/
import Derived.Test.YtkfmedmanhcdeaaDef
import Derived.Test.YtkfmedmanhcdeaaEnv
set_option linter.unusedVariables false
namespace Go.Proofs.Ytkfmedmanhcdeaa
open Go.Am
theorem F20.fn : E.fn 20 = some ⟨36, (Try.f20.body.getD .skip), Try.f20.results.toList, []⟩ := rfl
theorem F20_ok {F : Nat} {m : Mem} {n : Nat} {r : Int} {t0 : List Int} {vt0 : SV} (h : F20 F t0 = some r) (kt0 : Vw Y3 n m vt0 t0) : Ret E n 20 [.sc vt0] m n (fun v m' n' => v = .sc (.int .i64 r)) := by
  unfold F20 at h
  refine Ret.walk F20.fn ?_
  refine WC.start fun S0 em en hz => ?_
  have hot0 := kt0.rdS em hz
  refine WC.seq ?_
  refine WC.region ?_
  refine WO.asg rfl ?_
  refine WO.nil ?_
  refine thenL_n ?_
  refine WC.seq ?_
  refine WC.region ?_
  refine WO.asg rfl ?_
  refine WO.nil ?_
  refine thenL_n ?_
  refine WC.seq ?_
  refine WC.seq ?_
  refine WC.region ?_
  refine WO.mv rfl ?_
  refine WO.lenS rfl hot0.slv rfl ?_
  refine WO.mv rfl ?_
  refine WO.nil ?_
  refine thenL_n ?_
  refine WC.block ?_
  obtain ⟨b20, e21, h⟩ := bindS h
  refine WC.loopD e21 (fun s1 l' m' n' => ∃ S2 : Cx n, S2.m = m' ∧ S2.n = n' ∧ Cov l' [(0, .sc vt0), (3, .sc (.int .i64 s1.1)), (6, .sc vt0), (7, .sc (.int .i64 ((t0.length : Int)))), (8, .sc (.int .i64 s1.2))] ∧ Rd Y3 S2 vt0 t0) (fun b e l' m' n' => (match b with | .inl b3 => e = .exit 0 ∧ ∃ S4 : Cx n, S4.m = m' ∧ S4.n = n' ∧ Cov l' [] | .inr b3 => e = .ret ∧ ∃ S5 : Cx n, S5.m = m' ∧ S5.n = n' ∧ Cov l' [(2, .sc (.int .i64 b3))])) (by exact ⟨S0, rfl, rfl, (Cov.cons rfl (Cov.cons rfl (Cov.cons rfl (Cov.cons rfl (Cov.cons rfl (Cov.nil _)))))), hot0⟩) ?_ ?_
  · clear h
    rintro s1 q _ _ _ ⟨S6, rfl, rfl, hc7, hot0⟩ h
    unfold F20_l0 at h
    refine WC.cov hc7 ?_
    refine WC.seq ?_
    refine WC.region ?_
    refine WO.bin rfl rfl (by decide) (by decide) rfl ?_
    refine WO.nil ?_
    refine thenL_n ?_
    refine WC.seq ?_
    refine WC.cond rfl (fun q8 => ?_) (fun q8 => ?_)
    · have h := iteT q8 h
      refine WC.skip ?_
      refine thenL_n ?_
      refine WC.seq ?_
      refine WC.block ?_
      refine WC.seq ?_
      refine WC.region ?_
      refine WO.mv rfl ?_
      obtain ⟨x9, e10, h⟩ := bindS h
      refine WO.ixS rfl rfl hot0.slv (at?_lt e10) rfl ?_
      refine WO.ldF rfl hot0.ro (fun _ hi => hi) (at?_get e10) rfl rfl rfl ?_
      refine WO.asg rfl ?_
      refine WO.asg rfl ?_
      refine WO.nil ?_
      refine thenL_n ?_
      refine WC.seq ?_
      refine WC.seq ?_
      refine WC.region ?_
      refine WO.mv rfl ?_
      refine WO.bin rfl rfl (by decide) (by decide) rfl ?_
      refine WO.mv rfl ?_
      refine WO.cutB (d := 18) 3 ((decide (x9 < 1)) || (decide (x9 > 12))) (fun q11 => ?_) (fun q11 => ?_) ?_
      · refine WO.gno rfl rfl ?_
        refine WO.gno rfl rfl ?_
        refine WO.pickT rfl rfl ?_
        refine WO.nil ?_
        exact ⟨rfl, rfl, (Cov.any rfl (orT q11) (Cov.skip rfl (Cov.skip rfl (Cov.skip rfl (Cov.skip rfl (Cov.refl _))))))⟩
      · skip
        refine WO.gyes rfl rfl ?_
        refine WO.mv rfl ?_
        refine WO.gyes rfl rfl ?_
        refine WO.bin rfl rfl (by decide) (by decide) rfl ?_
        refine WO.pickF rfl rfl ?_
        refine WO.nil ?_
        exact ⟨rfl, rfl, (Cov.any rfl (orF q11) (Cov.skip rfl (Cov.skip rfl (Cov.skip rfl (Cov.skip rfl (Cov.refl _))))))⟩
      refine WO.nil ?_
      refine thenL_n ?_
      refine WC.cond rfl (fun q12 => ?_) (fun q12 => ?_)
      · have h := iteT q12 h
        refine WC.seq ?_
        refine WC.region ?_
        refine WO.asg rfl ?_
        refine WO.nil ?_
        refine thenL_n ?_
        refine WC.ret ?_
        refine thenL_r ?_
        refine blockL_r ?_
        refine thenL_r ?_
        refine thenL_r ?_
        obtain rfl := someI h
        exact ⟨_, rfl, rfl, ⟨S6, rfl, rfl, (Cov.cons rfl (Cov.nil _))⟩⟩
      · have h := iteF q12 h
        refine WC.skip ?_
        refine thenL_n ?_
        refine WC.seq ?_
        refine WC.seq ?_
        refine WC.region ?_
        refine WO.mv rfl ?_
        refine WO.bin rfl rfl (by decide) (by decide) rfl ?_
        refine WO.mv rfl ?_
        obtain ⟨y16, e17, h⟩ := bindS h
        refine WO.cutB (d := 29) 8 y16 (fun q15 => ?_) (fun q15 => ?_) ?_
        · have h := e17
          have h := iteT q15 h
          refine WO.gyes rfl rfl ?_
          refine WO.mv rfl ?_
          refine WO.gyes rfl rfl ?_
          refine WO.mv rfl ?_
          refine WO.gyes rfl rfl ?_
          refine WO.mv rfl ?_
          refine WO.gyes rfl rfl ?_
          refine WO.bin rfl rfl (by decide) (by decide) rfl ?_
          refine WO.gyes rfl rfl ?_
          obtain ⟨x13, e14, h⟩ := bindS h
          refine WO.ixS rfl rfl hot0.slv (at?_lt e14) rfl ?_
          refine WO.gyes rfl rfl ?_
          refine WO.ldF rfl hot0.ro (fun _ hi => hi) (at?_get e14) rfl rfl rfl ?_
          refine WO.gyes rfl rfl ?_
          refine WO.bin rfl rfl (by decide) (by decide) rfl ?_
          obtain rfl := someI h
          refine WO.pickT rfl rfl ?_
          refine WO.nil ?_
          exact ⟨rfl, rfl, (Cov.cons rfl (Cov.skip rfl (Cov.skip rfl (Cov.skip rfl (Cov.skip rfl (Cov.skip rfl (Cov.skip rfl (Cov.skip rfl (Cov.skip rfl (Cov.skip rfl (Cov.refl _)))))))))))⟩
        · have h := e17
          have h := iteF q15 h
          obtain rfl := someI h
          refine WO.gno rfl rfl ?_
          refine WO.gno rfl rfl ?_
          refine WO.gno rfl rfl ?_
          refine WO.gno rfl rfl ?_
          refine WO.gno rfl rfl ?_
          refine WO.gno rfl rfl ?_
          refine WO.gno rfl rfl ?_
          refine WO.pickF rfl rfl ?_
          refine WO.nil ?_
          exact ⟨rfl, rfl, (Cov.cons rfl (Cov.skip rfl (Cov.skip rfl (Cov.skip rfl (Cov.skip rfl (Cov.skip rfl (Cov.skip rfl (Cov.skip rfl (Cov.skip rfl (Cov.skip rfl (Cov.refl _)))))))))))⟩
        refine WO.nil ?_
        refine thenL_n ?_
        refine WC.cond rfl (fun q18 => ?_) (fun q18 => ?_)
        · have h := iteT q18 h
          refine WC.seq ?_
          refine WC.region ?_
          refine WO.asg rfl ?_
          refine WO.nil ?_
          refine thenL_n ?_
          refine WC.ret ?_
          refine thenL_r ?_
          refine blockL_r ?_
          refine thenL_r ?_
          refine thenL_r ?_
          obtain rfl := someI h
          exact ⟨_, rfl, rfl, ⟨S6, rfl, rfl, (Cov.cons rfl (Cov.nil _))⟩⟩
        · have h := iteF q18 h
          refine WC.skip ?_
          refine thenL_n ?_
          refine WC.seq ?_
          refine WC.region ?_
          refine WO.mv rfl ?_
          refine WO.mv rfl ?_
          refine WO.bin rfl rfl (by decide) (by decide) rfl ?_
          refine WO.asg rfl ?_
          refine WO.nil ?_
          refine thenL_n ?_
          refine WC.seq ?_
          refine WC.region ?_
          refine WO.mv rfl ?_
          refine WO.bin rfl rfl (by decide) (by decide) rfl ?_
          refine WO.nil ?_
          refine thenL_n ?_
          refine WC.cond rfl (fun q19 => ?_) (fun q19 => ?_)
          · have h := iteT q19 h
            refine WC.seq ?_
            refine WC.region ?_
            refine WO.asg rfl ?_
            refine WO.nil ?_
            refine thenL_n ?_
            refine WC.ret ?_
            refine blockL_r ?_
            refine thenL_r ?_
            refine thenL_r ?_
            obtain rfl := someI h
            exact ⟨_, rfl, rfl, ⟨S6, rfl, rfl, (Cov.cons rfl (Cov.nil _))⟩⟩
          · have h := iteF q19 h
            refine WC.skip ?_
            refine blockL_n ?_
            refine thenL_n ?_
            refine WC.region ?_
            refine WO.bin rfl rfl (by decide) (by decide) rfl ?_
            refine WO.mv rfl ?_
            refine WO.nil ?_
            refine thenL_n ?_
            obtain rfl := someI h
            exact ⟨_, rfl, ⟨S6, rfl, rfl, (Cov.cons rfl (Cov.cons rfl (Cov.cons rfl (Cov.cons rfl (Cov.cons rfl (Cov.nil _)))))), hot0⟩⟩
    · have h := iteF q8 h
      refine WC.exit ?_
      refine thenL_e ?_
      refine thenL_e ?_
      obtain rfl := someI h
      exact ⟨_, rfl, rfl, ⟨S6, rfl, rfl, (Cov.nil _)⟩⟩
  cases b20 with
  | inl b22 =>
    simp only at h
    rintro _ _ _ _ ⟨rfl, ⟨S23, rfl, rfl, hc24⟩⟩
    refine blockL_s ?_
    refine thenL_n ?_
    refine WC.cov hc24 ?_
    refine WC.seq ?_
    refine WC.region ?_
    refine WO.asg rfl ?_
    refine WO.nil ?_
    refine thenL_n ?_
    refine WC.ret ?_
    obtain rfl := someI h
    exact ⟨.inr rfl, _, _, rfl, rfl, rfl⟩
  | inr b22 =>
    simp only at h
    rintro _ _ _ _ ⟨rfl, ⟨S25, rfl, rfl, hc26⟩⟩
    refine blockL_r ?_
    refine thenL_r ?_
    obtain rfl := someI h
    exact ⟨.inr rfl, _, _, (resK_cov hc26 rfl), rfl, rfl⟩
end Go.Proofs.Ytkfmedmanhcdeaa

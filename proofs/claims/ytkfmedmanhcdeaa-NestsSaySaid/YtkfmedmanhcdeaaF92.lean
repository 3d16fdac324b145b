/- The machine answers F92: printed by a program of ours (gen.py). -/
import Derived.Test.YtkfmedmanhcdeaaDef
import Derived.Test.YtkfmedmanhcdeaaEnv
set_option linter.unusedVariables false
namespace Go.Proofs.Ytkfmedmanhcdeaa
open Go.Am
theorem F92.fn : E.fn 92 = some ⟨30, (Try.f92.body.getD .skip), Try.f92.results.toList, []⟩ := rfl
theorem F92_ok {F : Nat} {m : Mem} {n : Nat} {r : Int} {t0 : List UInt8} (h : F92 F t0 = some r)  : Ret E n 92 [.sc (.str t0)] m n (fun v m' n' => v = .sc (.int .i64 r)) := by
  unfold F92 at h
  refine Ret.walk F92.fn ?_
  refine WC.start fun S0 em en hz => ?_
  refine WC.seq ?_
  refine WC.region ?_
  refine WO.asg rfl ?_
  refine WO.nil ?_
  refine thenL_n ?_
  refine WC.seq ?_
  refine WC.seq ?_
  refine WC.region ?_
  refine WO.mv rfl ?_
  refine WO.lenT rfl rfl rfl ?_
  refine WO.bin rfl rfl (by decide) (by decide) rfl ?_
  refine WO.nil ?_
  refine thenL_n ?_
  refine WC.cond rfl (fun q1 => ?_) (fun q1 => ?_)
  · have h := iteT q1 h
    refine WC.seq ?_
    refine WC.region ?_
    refine WO.asg rfl ?_
    refine WO.nil ?_
    refine thenL_n ?_
    refine WC.ret ?_
    refine thenL_r ?_
    obtain rfl := someI h
    exact ⟨.inr rfl, _, _, rfl, rfl, rfl⟩
  · have h := iteF q1 h
    refine WC.skip ?_
    refine thenL_n ?_
    refine WC.seq ?_
    refine WC.region ?_
    refine WO.asg rfl ?_
    refine WO.nil ?_
    refine thenL_n ?_
    refine WC.seq ?_
    refine WC.seq ?_
    refine WC.region ?_
    refine WO.mv rfl ?_
    obtain ⟨L2, e3, h⟩ := bindS h
    refine WO.cvB (S := S0) 2 rfl e3 rfl rfl rfl rfl rfl rfl rfl rfl rfl (fun v4 S5 c6 ho7 => ?_)
    refine WO.lenS rfl ho7.slv rfl ?_
    refine WO.mv rfl ?_
    refine WO.nil ?_
    refine thenL_n ?_
    refine WC.block ?_
    obtain ⟨b22, e23, h⟩ := bindS h
    refine WC.loopD e23 (fun s8 l' m' n' => ∃ S9 : Cx n, S9.m = m' ∧ S9.n = n' ∧ Cov l' [(3, .sc (.int .i64 s8.1)), (10, .sc v4), (11, .sc (.int .i64 ((L2.length : Int)))), (12, .sc (.int .i64 s8.2))] ∧ Ow Y5 S9 2 v4 L2) (fun b e l' m' n' => (match b with | .inl b10 => e = .exit 0 ∧ ∃ S11 : Cx n, S11.m = m' ∧ S11.n = n' ∧ Cov l' [(3, .sc (.int .i64 b10))] | .inr b10 => e = .ret ∧ ∃ S12 : Cx n, S12.m = m' ∧ S12.n = n' ∧ Cov l' [(2, .sc (.int .i64 b10))])) (by exact ⟨S5, rfl, rfl, (Cov.cons rfl (Cov.cons rfl (Cov.cons rfl (Cov.cons rfl (Cov.nil _))))), ho7⟩) ?_ ?_
    · clear h
      rintro s8 q _ _ _ ⟨S13, rfl, rfl, hc14, ho7⟩ h
      unfold F92_l0 at h
      refine WC.cov hc14 ?_
      refine WC.seq ?_
      refine WC.region ?_
      refine WO.bin rfl rfl (by decide) (by decide) rfl ?_
      refine WO.nil ?_
      refine thenL_n ?_
      refine WC.seq ?_
      refine WC.cond rfl (fun q15 => ?_) (fun q15 => ?_)
      · have h := iteT q15 h
        refine WC.skip ?_
        refine thenL_n ?_
        refine WC.seq ?_
        refine WC.block ?_
        refine WC.seq ?_
        refine WC.region ?_
        obtain ⟨x16, e17, h⟩ := bindS h
        refine WO.ixS rfl rfl ho7.slv (at?_lt e17) rfl ?_
        refine WO.ldF rfl ho7.ro (fun _ hi => hi) (at?_get e17) rfl rfl rfl ?_
        refine WO.asg rfl ?_
        refine WO.nil ?_
        refine thenL_n ?_
        refine WC.seq ?_
        refine WC.seq ?_
        refine WC.region ?_
        refine WO.mv rfl ?_
        refine WO.nil ?_
        refine thenL_n ?_
        refine WC.block ?_
        refine WC.seq ?_
        refine WC.region ?_
        refine WO.bin rfl rfl (by decide) (by decide) rfl ?_
        refine WO.asg rfl ?_
        refine WO.nil ?_
        refine thenL_n ?_
        refine WC.cond rfl (fun q18 => ?_) (fun q18 => ?_)
        · have h := iteT q18 h
          refine WC.region ?_
          refine WO.mv rfl ?_
          refine WO.bin rfl rfl (by decide) (by decide) rfl ?_
          refine WO.asg rfl ?_
          refine WO.nil ?_
          refine blockL_n ?_
          refine thenL_n ?_
          refine WC.seq ?_
          refine WC.region ?_
          refine WO.mv rfl ?_
          refine WO.bin rfl rfl (by decide) (by decide) rfl ?_
          refine WO.nil ?_
          refine thenL_n ?_
          refine WC.cond rfl (fun q19 => ?_) (fun q19 => ?_)
          · have h := iteT q19 h
            refine WC.seq ?_
            refine WC.region ?_
            refine WO.asg rfl ?_
            refine WO.nil ?_
            refine thenL_n ?_
            refine WC.ret ?_
            refine blockL_r ?_
            refine thenL_r ?_
            refine thenL_r ?_
            obtain rfl := someI h
            exact ⟨_, rfl, rfl, ⟨S13, rfl, rfl, (Cov.cons rfl (Cov.nil _))⟩⟩
          · have h := iteF q19 h
            refine WC.skip ?_
            refine blockL_n ?_
            refine thenL_n ?_
            refine WC.region ?_
            refine WO.bin rfl rfl (by decide) (by decide) rfl ?_
            refine WO.mv rfl ?_
            refine WO.nil ?_
            refine thenL_n ?_
            obtain rfl := someI h
            exact ⟨_, rfl, ⟨S13, rfl, rfl, (Cov.cons rfl (Cov.cons rfl (Cov.cons rfl (Cov.cons rfl (Cov.nil _))))), ho7⟩⟩
        · have h := iteF q18 h
          refine WC.seq ?_
          refine WC.region ?_
          refine WO.bin rfl rfl (by decide) (by decide) rfl ?_
          refine WO.asg rfl ?_
          refine WO.nil ?_
          refine thenL_n ?_
          refine WC.cond rfl (fun q20 => ?_) (fun q20 => ?_)
          · have h := iteT q20 h
            refine WC.region ?_
            refine WO.mv rfl ?_
            refine WO.bin rfl rfl (by decide) (by decide) rfl ?_
            refine WO.asg rfl ?_
            refine WO.nil ?_
            refine blockL_n ?_
            refine thenL_n ?_
            refine WC.seq ?_
            refine WC.region ?_
            refine WO.mv rfl ?_
            refine WO.bin rfl rfl (by decide) (by decide) rfl ?_
            refine WO.nil ?_
            refine thenL_n ?_
            refine WC.cond rfl (fun q21 => ?_) (fun q21 => ?_)
            · have h := iteT q21 h
              refine WC.seq ?_
              refine WC.region ?_
              refine WO.asg rfl ?_
              refine WO.nil ?_
              refine thenL_n ?_
              refine WC.ret ?_
              refine blockL_r ?_
              refine thenL_r ?_
              refine thenL_r ?_
              obtain rfl := someI h
              exact ⟨_, rfl, rfl, ⟨S13, rfl, rfl, (Cov.cons rfl (Cov.nil _))⟩⟩
            · have h := iteF q21 h
              refine WC.skip ?_
              refine blockL_n ?_
              refine thenL_n ?_
              refine WC.region ?_
              refine WO.bin rfl rfl (by decide) (by decide) rfl ?_
              refine WO.mv rfl ?_
              refine WO.nil ?_
              refine thenL_n ?_
              obtain rfl := someI h
              exact ⟨_, rfl, ⟨S13, rfl, rfl, (Cov.cons rfl (Cov.cons rfl (Cov.cons rfl (Cov.cons rfl (Cov.nil _))))), ho7⟩⟩
          · have h := iteF q20 h
            refine WC.seq ?_
            refine WC.region ?_
            refine WO.asg rfl ?_
            refine WO.nil ?_
            refine thenL_n ?_
            refine WC.ret ?_
            refine blockL_r ?_
            refine thenL_r ?_
            refine blockL_r ?_
            refine thenL_r ?_
            refine thenL_r ?_
            obtain rfl := someI h
            exact ⟨_, rfl, rfl, ⟨S13, rfl, rfl, (Cov.cons rfl (Cov.nil _))⟩⟩
      · have h := iteF q15 h
        refine WC.exit ?_
        refine thenL_e ?_
        refine thenL_e ?_
        obtain rfl := someI h
        exact ⟨_, rfl, rfl, ⟨S13, rfl, rfl, (Cov.cons rfl (Cov.nil _))⟩⟩
    cases b22 with
    | inl b24 =>
      simp only at h
      rintro _ _ _ _ ⟨rfl, ⟨S25, rfl, rfl, hc26⟩⟩
      refine blockL_s ?_
      refine thenL_n ?_
      refine WC.cov hc26 ?_
      refine WC.seq ?_
      refine WC.seq ?_
      refine WC.region ?_
      refine WO.mv rfl ?_
      refine WO.bin rfl rfl (by decide) (by decide) rfl ?_
      refine WO.nil ?_
      refine thenL_n ?_
      refine WC.cond rfl (fun q27 => ?_) (fun q27 => ?_)
      · have h := iteT q27 h
        refine WC.seq ?_
        refine WC.region ?_
        refine WO.asg rfl ?_
        refine WO.nil ?_
        refine thenL_n ?_
        refine WC.ret ?_
        refine thenL_r ?_
        obtain rfl := someI h
        exact ⟨.inr rfl, _, _, rfl, rfl, rfl⟩
      · have h := iteF q27 h
        refine WC.skip ?_
        refine thenL_n ?_
        refine WC.seq ?_
        refine WC.region ?_
        refine WO.asg rfl ?_
        refine WO.nil ?_
        refine thenL_n ?_
        refine WC.ret ?_
        obtain rfl := someI h
        exact ⟨.inr rfl, _, _, rfl, rfl, rfl⟩
    | inr b24 =>
      simp only at h
      rintro _ _ _ _ ⟨rfl, ⟨S28, rfl, rfl, hc29⟩⟩
      refine blockL_r ?_
      refine thenL_r ?_
      obtain rfl := someI h
      exact ⟨.inr rfl, _, _, (resK_cov hc29 rfl), rfl, rfl⟩
end Go.Proofs.Ytkfmedmanhcdeaa

/- The machine answers F91: printed by a program of ours (gen.py). -/
import Derived.Test.YtkfmedmanhcdeaaDef
import Derived.Test.YtkfmedmanhcdeaaEnv
set_option linter.unusedVariables false
namespace Go.Proofs.Ytkfmedmanhcdeaa
open Go.Am
theorem F91.fn : E.fn 91 = some ⟨37, (Try.f91.body.getD .skip), Try.f91.results.toList, []⟩ := rfl
theorem F91_ok {F : Nat} {m : Mem} {n : Nat} {r : Int} {t0 : List UInt8} (h : F91 F t0 = some r)  : Ret E n 91 [.sc (.str t0)] m n (fun v m' n' => v = .sc (.int .i64 r)) := by
  unfold F91 at h
  refine Ret.walk F91.fn ?_
  refine WC.start fun S0 em en hz => ?_
  refine WC.seq ?_
  refine WC.region ?_
  refine WO.asg rfl ?_
  refine WO.nil ?_
  refine thenL_n ?_
  refine WC.seq ?_
  refine WC.seq ?_
  refine WC.region ?_
  refine WO.mv rfl ?_
  refine WO.lenT rfl rfl rfl ?_
  refine WO.bin rfl rfl (by decide) (by decide) rfl ?_
  refine WO.nil ?_
  refine thenL_n ?_
  refine WC.cond rfl (fun q1 => ?_) (fun q1 => ?_)
  · have h := iteT q1 h
    refine WC.seq ?_
    refine WC.region ?_
    refine WO.asg rfl ?_
    refine WO.nil ?_
    refine thenL_n ?_
    refine WC.ret ?_
    refine thenL_r ?_
    obtain rfl := someI h
    exact ⟨.inr rfl, _, _, rfl, rfl, rfl⟩
  · have h := iteF q1 h
    refine WC.skip ?_
    refine thenL_n ?_
    refine WC.seq ?_
    refine WC.region ?_
    refine WO.asg rfl ?_
    refine WO.nil ?_
    refine thenL_n ?_
    refine WC.seq ?_
    refine WC.seq ?_
    refine WC.region ?_
    refine WO.mv rfl ?_
    refine WO.lenT rfl rfl rfl ?_
    refine WO.mv rfl ?_
    refine WO.nil ?_
    refine thenL_n ?_
    refine WC.block ?_
    obtain ⟨b21, e22, h⟩ := bindS h
    refine WC.loopD e22 (fun s2 l' m' n' => ∃ S3 : Cx n, S3.m = m' ∧ S3.n = n' ∧ Cov l' [(0, .sc (.str t0)), (3, .sc (.int .i64 s2.1)), (9, .sc (.int .i64 ((t0.length : Int)))), (10, .sc (.int .i64 s2.2))]) (fun b e l' m' n' => (match b with | .inl b4 => e = .exit 0 ∧ ∃ S5 : Cx n, S5.m = m' ∧ S5.n = n' ∧ Cov l' [(3, .sc (.int .i64 b4))] | .inr b4 => e = .ret ∧ ∃ S6 : Cx n, S6.m = m' ∧ S6.n = n' ∧ Cov l' [(2, .sc (.int .i64 b4))])) (by exact ⟨S0, rfl, rfl, (Cov.cons rfl (Cov.cons rfl (Cov.cons rfl (Cov.cons rfl (Cov.nil _)))))⟩) ?_ ?_
    · clear h
      rintro s2 q _ _ _ ⟨S7, rfl, rfl, hc8⟩ h
      unfold F91_l0 at h
      refine WC.cov hc8 ?_
      refine WC.seq ?_
      refine WC.region ?_
      refine WO.bin rfl rfl (by decide) (by decide) rfl ?_
      refine WO.nil ?_
      refine thenL_n ?_
      refine WC.seq ?_
      refine WC.cond rfl (fun q9 => ?_) (fun q9 => ?_)
      · have h := iteT q9 h
        refine WC.skip ?_
        refine thenL_n ?_
        refine WC.seq ?_
        refine WC.block ?_
        refine WC.seq ?_
        refine WC.region ?_
        refine WO.mv rfl ?_
        refine WO.asg rfl ?_
        refine WO.nil ?_
        refine thenL_n ?_
        refine WC.seq ?_
        refine WC.seq ?_
        refine WC.region ?_
        refine WO.mv rfl ?_
        refine WO.mv rfl ?_
        obtain ⟨x10, e11, h⟩ := bindS h
        refine WO.ixT rfl rfl e11 rfl rfl ?_
        refine WO.bin rfl rfl (by decide) (by decide) rfl ?_
        refine WO.mv rfl ?_
        obtain ⟨y15, e16, h⟩ := bindS h
        refine WO.cutB (d := 22) 5 y15 (fun q14 => ?_) (fun q14 => ?_) ?_
        · have h := e16
          have h := iteT q14 h
          refine WO.gyes rfl rfl ?_
          refine WO.mv rfl ?_
          refine WO.gyes rfl rfl ?_
          refine WO.mv rfl ?_
          refine WO.gyes rfl rfl ?_
          obtain ⟨x12, e13, h⟩ := bindS h
          refine WO.ixT rfl rfl e13 rfl rfl ?_
          refine WO.gyes rfl rfl ?_
          refine WO.bin rfl rfl (by decide) (by decide) rfl ?_
          obtain rfl := someI h
          refine WO.pickT rfl rfl ?_
          refine WO.nil ?_
          exact ⟨rfl, rfl, (Cov.cons rfl (Cov.skip rfl (Cov.skip rfl (Cov.skip rfl (Cov.skip rfl (Cov.skip rfl (Cov.skip rfl (Cov.refl _))))))))⟩
        · have h := e16
          have h := iteF q14 h
          obtain rfl := someI h
          refine WO.gno rfl rfl ?_
          refine WO.gno rfl rfl ?_
          refine WO.gno rfl rfl ?_
          refine WO.gno rfl rfl ?_
          refine WO.pickF rfl rfl ?_
          refine WO.nil ?_
          exact ⟨rfl, rfl, (Cov.cons rfl (Cov.skip rfl (Cov.skip rfl (Cov.skip rfl (Cov.skip rfl (Cov.skip rfl (Cov.skip rfl (Cov.refl _))))))))⟩
        refine WO.nil ?_
        refine thenL_n ?_
        refine WC.cond rfl (fun q17 => ?_) (fun q17 => ?_)
        · have h := iteT q17 h
          refine WC.seq ?_
          refine WC.region ?_
          refine WO.asg rfl ?_
          refine WO.nil ?_
          refine thenL_n ?_
          refine WC.ret ?_
          refine thenL_r ?_
          refine blockL_r ?_
          refine thenL_r ?_
          refine thenL_r ?_
          obtain rfl := someI h
          exact ⟨_, rfl, rfl, ⟨S7, rfl, rfl, (Cov.cons rfl (Cov.nil _))⟩⟩
        · have h := iteF q17 h
          refine WC.skip ?_
          refine thenL_n ?_
          refine WC.seq ?_
          refine WC.region ?_
          refine WO.mv rfl ?_
          refine WO.mv rfl ?_
          refine WO.mv rfl ?_
          obtain ⟨x18, e19, h⟩ := bindS h
          refine WO.ixT rfl rfl e19 rfl rfl ?_
          refine WO.bin rfl rfl (by decide) (by decide) rfl ?_
          refine WO.conv rfl rfl rfl rfl ?_
          refine WO.bin rfl rfl (by decide) (by decide) rfl ?_
          refine WO.bin rfl rfl (by decide) (by decide) rfl ?_
          refine WO.bin rfl rfl (by decide) (by decide) rfl ?_
          refine WO.asg rfl ?_
          refine WO.nil ?_
          refine thenL_n ?_
          refine WC.seq ?_
          refine WC.region ?_
          refine WO.mv rfl ?_
          refine WO.bin rfl rfl (by decide) (by decide) rfl ?_
          refine WO.nil ?_
          refine thenL_n ?_
          refine WC.cond rfl (fun q20 => ?_) (fun q20 => ?_)
          · have h := iteT q20 h
            refine WC.seq ?_
            refine WC.region ?_
            refine WO.asg rfl ?_
            refine WO.nil ?_
            refine thenL_n ?_
            refine WC.ret ?_
            refine blockL_r ?_
            refine thenL_r ?_
            refine thenL_r ?_
            obtain rfl := someI h
            exact ⟨_, rfl, rfl, ⟨S7, rfl, rfl, (Cov.cons rfl (Cov.nil _))⟩⟩
          · have h := iteF q20 h
            refine WC.skip ?_
            refine blockL_n ?_
            refine thenL_n ?_
            refine WC.region ?_
            refine WO.bin rfl rfl (by decide) (by decide) rfl ?_
            refine WO.mv rfl ?_
            refine WO.nil ?_
            refine thenL_n ?_
            obtain rfl := someI h
            exact ⟨_, rfl, ⟨S7, rfl, rfl, (Cov.cons rfl (Cov.cons rfl (Cov.cons rfl (Cov.cons rfl (Cov.nil _)))))⟩⟩
      · have h := iteF q9 h
        refine WC.exit ?_
        refine thenL_e ?_
        refine thenL_e ?_
        obtain rfl := someI h
        exact ⟨_, rfl, rfl, ⟨S7, rfl, rfl, (Cov.cons rfl (Cov.nil _))⟩⟩
    cases b21 with
    | inl b23 =>
      simp only at h
      rintro _ _ _ _ ⟨rfl, ⟨S24, rfl, rfl, hc25⟩⟩
      refine blockL_s ?_
      refine thenL_n ?_
      refine WC.cov hc25 ?_
      refine WC.seq ?_
      refine WC.seq ?_
      refine WC.region ?_
      refine WO.mv rfl ?_
      refine WO.bin rfl rfl (by decide) (by decide) rfl ?_
      refine WO.nil ?_
      refine thenL_n ?_
      refine WC.cond rfl (fun q26 => ?_) (fun q26 => ?_)
      · have h := iteT q26 h
        refine WC.seq ?_
        refine WC.region ?_
        refine WO.asg rfl ?_
        refine WO.nil ?_
        refine thenL_n ?_
        refine WC.ret ?_
        refine thenL_r ?_
        obtain rfl := someI h
        exact ⟨.inr rfl, _, _, rfl, rfl, rfl⟩
      · have h := iteF q26 h
        refine WC.skip ?_
        refine thenL_n ?_
        refine WC.seq ?_
        refine WC.region ?_
        refine WO.asg rfl ?_
        refine WO.nil ?_
        refine thenL_n ?_
        refine WC.ret ?_
        obtain rfl := someI h
        exact ⟨.inr rfl, _, _, rfl, rfl, rfl⟩
    | inr b23 =>
      simp only at h
      rintro _ _ _ _ ⟨rfl, ⟨S27, rfl, rfl, hc28⟩⟩
      refine blockL_r ?_
      refine thenL_r ?_
      obtain rfl := someI h
      exact ⟨.inr rfl, _, _, (resK_cov hc28 rfl), rfl, rfl⟩
end Go.Proofs.Ytkfmedmanhcdeaa

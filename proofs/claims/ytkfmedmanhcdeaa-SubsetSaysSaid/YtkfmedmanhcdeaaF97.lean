/- The machine answers F97: printed by a program of ours (gen.py). -/
import Derived.Test.YtkfmedmanhcdeaaDef
import Derived.Test.YtkfmedmanhcdeaaEnv
set_option linter.unusedVariables false
namespace Go.Proofs.Ytkfmedmanhcdeaa
open Go.Am
theorem F97.fn : E.fn 97 = some ⟨24, (Try.f97.body.getD .skip), Try.f97.results.toList, []⟩ := rfl
theorem F97_ok {F : Nat} {m : Mem} {n : Nat} {r : Int} {t0 : Int} {t1 : Int} (h : F97 F t0 t1 = some r)  : Ret E n 97 [.sc (.int .i64 t0), .sc (.int .i64 t1)] m n (fun v m' n' => v = .sc (.int .i64 r)) := by
  unfold F97 at h
  refine Ret.walk F97.fn ?_
  refine WC.start fun S0 em en hz => ?_
  refine WC.seq ?_
  refine WC.region ?_
  refine WO.asg rfl ?_
  refine WO.nil ?_
  refine thenL_n ?_
  refine WC.seq ?_
  refine WC.seq ?_
  refine WC.region ?_
  refine WO.mv rfl ?_
  refine WO.mv rfl ?_
  refine WO.bin rfl rfl (by decide) (by decide) rfl ?_
  refine WO.nil ?_
  refine thenL_n ?_
  refine WC.cond rfl (fun q1 => ?_) (fun q1 => ?_)
  · have h := iteT q1 h
    refine WC.seq ?_
    refine WC.region ?_
    refine WO.asg rfl ?_
    refine WO.nil ?_
    refine thenL_n ?_
    refine WC.ret ?_
    refine thenL_r ?_
    obtain rfl := someI h
    exact ⟨.inr rfl, _, _, rfl, rfl, rfl⟩
  · have h := iteF q1 h
    refine WC.skip ?_
    refine thenL_n ?_
    refine WC.seq ?_
    refine WC.region ?_
    refine WO.asg rfl ?_
    refine WO.nil ?_
    refine thenL_n ?_
    refine WC.seq ?_
    refine WC.seq ?_
    refine WC.region ?_
    refine WO.mv rfl ?_
    refine WO.mv rfl ?_
    refine WO.nil ?_
    refine thenL_n ?_
    refine WC.block ?_
    obtain ⟨b10, e11, h⟩ := bindS h
    refine WC.loopD e11 (fun s2 l' m' n' => ∃ S3 : Cx n, S3.m = m' ∧ S3.n = n' ∧ Cov l' [(0, .sc (.int .i64 t0)), (5, .sc (.int .i64 s2.1)), (10, .sc (.int .i64 t1)), (11, .sc (.int .i64 s2.2))]) (fun b e l' m' n' => e = .exit 0 ∧ ∃ S4 : Cx n, S4.m = m' ∧ S4.n = n' ∧ Cov l' [(5, .sc (.int .i64 b))]) (by exact ⟨S0, rfl, rfl, (Cov.cons rfl (Cov.cons rfl (Cov.cons rfl (Cov.cons rfl (Cov.nil _)))))⟩) ?_ ?_
    · clear h
      rintro s2 q _ _ _ ⟨S5, rfl, rfl, hc6⟩ h
      unfold F97_l0 at h
      refine WC.cov hc6 ?_
      refine WC.seq ?_
      refine WC.region ?_
      refine WO.bin rfl rfl (by decide) (by decide) rfl ?_
      refine WO.nil ?_
      refine thenL_n ?_
      refine WC.seq ?_
      refine WC.cond rfl (fun q7 => ?_) (fun q7 => ?_)
      · have h := iteT q7 h
        refine WC.skip ?_
        refine thenL_n ?_
        refine WC.seq ?_
        refine WC.block ?_
        refine WC.seq ?_
        refine WC.region ?_
        refine WO.mv rfl ?_
        refine WO.asg rfl ?_
        refine WO.nil ?_
        refine thenL_n ?_
        refine WC.region ?_
        refine WO.mv rfl ?_
        refine WO.mv rfl ?_
        refine WO.mv rfl ?_
        refine WO.bin rfl rfl (by decide) (by decide) rfl ?_
        refine WO.bin rfl rfl (by decide) (by decide) rfl ?_
        refine WO.mv rfl ?_
        refine WO.bin rfl rfl (by decide) (by decide) rfl ?_
        obtain ⟨x8, e9, h⟩ := bindS h
        refine WO.quoD rfl rfl e9 ?_
        refine WO.asg rfl ?_
        refine WO.nil ?_
        refine blockL_n ?_
        refine thenL_n ?_
        refine WC.region ?_
        refine WO.bin rfl rfl (by decide) (by decide) rfl ?_
        refine WO.mv rfl ?_
        refine WO.nil ?_
        refine thenL_n ?_
        obtain rfl := someI h
        exact ⟨_, rfl, ⟨S5, rfl, rfl, (Cov.cons rfl (Cov.cons rfl (Cov.cons rfl (Cov.cons rfl (Cov.nil _)))))⟩⟩
      · have h := iteF q7 h
        refine WC.exit ?_
        refine thenL_e ?_
        refine thenL_e ?_
        obtain rfl := someI h
        exact ⟨_, rfl, rfl, ⟨S5, rfl, rfl, (Cov.cons rfl (Cov.nil _))⟩⟩
    rintro _ _ _ _ ⟨rfl, ⟨S12, rfl, rfl, hc13⟩⟩
    refine blockL_s ?_
    refine thenL_n ?_
    refine WC.cov hc13 ?_
    refine WC.seq ?_
    refine WC.region ?_
    refine WO.mv rfl ?_
    refine WO.asg rfl ?_
    refine WO.nil ?_
    refine thenL_n ?_
    refine WC.ret ?_
    obtain rfl := someI h
    exact ⟨.inr rfl, _, _, rfl, rfl, rfl⟩
end Go.Proofs.Ytkfmedmanhcdeaa

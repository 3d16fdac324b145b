/- The machine answers F136: printed by a program of ours (gen.py). -/
import Derived.Test.YtihmliblbhjlaaaDef
import Derived.Test.YtihmliblbhjlaaaEnv
set_option linter.unusedVariables false
namespace Go.Proofs.Ytihmliblbhjlaaa
open Go.Am
theorem F136.fn : E.fn 136 = some ⟨14, (Try.f136.body.getD .skip), Try.f136.results.toList, []⟩ := rfl
theorem F136_ok {F : Nat} {m : Mem} {n : Nat} {r : Int} {t0 : Int} (h : F136 F t0 = some r)  : Ret E n 136 [.sc (.int .i64 t0)] m n (fun v m' n' => v = .sc (.int .i64 r)) := by
  unfold F136 at h
  refine Ret.walk F136.fn ?_
  refine WC.start fun S0 em en hz => ?_
  refine WC.seq ?_
  refine WC.region ?_
  refine WO.asg rfl ?_
  refine WO.nil ?_
  refine thenL_n ?_
  refine WC.seq ?_
  refine WC.region ?_
  refine WO.asg rfl ?_
  refine WO.nil ?_
  refine thenL_n ?_
  refine WC.seq ?_
  refine WC.seq ?_
  refine WC.region ?_
  refine WO.asg rfl ?_
  refine WO.nil ?_
  refine thenL_n ?_
  refine WC.block ?_
  obtain ⟨b7, e8, h⟩ := bindS h
  refine WC.loopD e8 (fun s1 l' m' n' => ∃ S2 : Cx n, S2.m = m' ∧ S2.n = n' ∧ Cov l' [(0, .sc (.int .i64 t0)), (3, .sc (.int .i64 s1.1)), (4, .sc (.int .i64 s1.2))]) (fun b e l' m' n' => e = .exit 0 ∧ ∃ S3 : Cx n, S3.m = m' ∧ S3.n = n' ∧ Cov l' [(3, .sc (.int .i64 b))]) (by exact ⟨S0, rfl, rfl, (Cov.cons rfl (Cov.cons rfl (Cov.cons rfl (Cov.nil _))))⟩) ?_ ?_
  · clear h
    rintro s1 q _ _ _ ⟨S4, rfl, rfl, hc5⟩ h
    unfold F136_l0 at h
    refine WC.cov hc5 ?_
    refine WC.seq ?_
    refine WC.seq ?_
    refine WC.region ?_
    refine WO.mv rfl ?_
    refine WO.mv rfl ?_
    refine WO.bin rfl rfl (by decide) (by decide) rfl ?_
    refine WO.nil ?_
    refine thenL_n ?_
    refine WC.cond rfl (fun q6 => ?_) (fun q6 => ?_)
    · have h := iteT q6 h
      refine WC.skip ?_
      refine thenL_n ?_
      refine WC.seq ?_
      refine WC.block ?_
      refine WC.region ?_
      refine WO.mv rfl ?_
      refine WO.mv rfl ?_
      refine WO.bin rfl rfl (by decide) (by decide) rfl ?_
      refine WO.asg rfl ?_
      refine WO.nil ?_
      refine blockL_n ?_
      refine thenL_n ?_
      refine WC.region ?_
      refine WO.mv rfl ?_
      refine WO.bin rfl rfl (by decide) (by decide) rfl ?_
      refine WO.asg rfl ?_
      refine WO.nil ?_
      refine thenL_n ?_
      obtain rfl := someI h
      exact ⟨_, rfl, ⟨S4, rfl, rfl, (Cov.cons rfl (Cov.cons rfl (Cov.cons rfl (Cov.nil _))))⟩⟩
    · have h := iteF q6 h
      refine WC.exit ?_
      refine thenL_e ?_
      refine thenL_e ?_
      obtain rfl := someI h
      exact ⟨_, rfl, rfl, ⟨S4, rfl, rfl, (Cov.cons rfl (Cov.nil _))⟩⟩
  rintro _ _ _ _ ⟨rfl, ⟨S9, rfl, rfl, hc10⟩⟩
  refine blockL_s ?_
  refine thenL_n ?_
  refine WC.cov hc10 ?_
  refine WC.seq ?_
  refine WC.region ?_
  refine WO.mv rfl ?_
  refine WO.asg rfl ?_
  refine WO.nil ?_
  refine thenL_n ?_
  refine WC.ret ?_
  obtain rfl := someI h
  exact ⟨.inr rfl, _, _, rfl, rfl, rfl⟩
end Go.Proofs.Ytihmliblbhjlaaa

/- The machine answers F34: printed by a program of ours (gen.py). -/
import Derived.Test.YtkfmedmanhcdeaaDef
import Derived.Test.YtkfmedmanhcdeaaEnv
import Derived.Test.YtkfmedmanhcdeaaF30
set_option linter.unusedVariables false
namespace Go.Proofs.Ytkfmedmanhcdeaa
open Go.Am
theorem F34.fn : E.fn 34 = some ⟨24, (Try.f34.body.getD .skip), Try.f34.results.toList, []⟩ := rfl
theorem F34_ok {F : Nat} {m : Mem} {n : Nat} {r : Int × Bool} {t0 : Int} {t1 : Int} (h : F34 F t0 t1 = some r)  : Ret E n 34 [.sc (.int .u16 t0), .sc (.int .i64 t1)] m n (fun v m' n' => v = .tup [.sc (.int .u16 r.1), .sc (.bool r.2)]) := by
  unfold F34 at h
  refine Ret.walk F34.fn ?_
  refine WC.start fun S0 em en hz => ?_
  refine WC.seq ?_
  refine WC.region ?_
  refine WO.asg rfl ?_
  refine WO.asg rfl ?_
  refine WO.nil ?_
  refine thenL_n ?_
  refine WC.seq ?_
  refine WC.seq ?_
  refine WC.region ?_
  refine WO.mv rfl ?_
  refine WO.conv rfl rfl rfl rfl ?_
  refine WO.bin rfl rfl (by decide) (by decide) rfl ?_
  refine WO.asg rfl ?_
  refine WO.nil ?_
  refine thenL_n ?_
  refine WC.block ?_
  obtain ⟨b20, e21, h⟩ := bindS h
  refine WC.loopD e21 (fun s1 l' m' n' => ∃ S2 : Cx n, S2.m = m' ∧ S2.n = n' ∧ Cov l' [(0, .sc (.int .u16 t0)), (1, .sc (.int .i64 t1)), (6, .sc (.int .i64 s1))]) (fun b e l' m' n' => (match b with | .inl b3 => e = .exit 0 ∧ ∃ S4 : Cx n, S4.m = m' ∧ S4.n = n' ∧ Cov l' [] | .inr b3 => e = .ret ∧ ∃ S5 : Cx n, S5.m = m' ∧ S5.n = n' ∧ Cov l' [(4, .sc (.int .u16 b3.1)), (5, .sc (.bool b3.2))])) (by exact ⟨S0, rfl, rfl, (Cov.cons rfl (Cov.cons rfl (Cov.cons rfl (Cov.nil _))))⟩) ?_ ?_
  · clear h
    rintro s1 q _ _ _ ⟨S6, rfl, rfl, hc7⟩ h
    unfold F34_l0 at h
    refine WC.cov hc7 ?_
    refine WC.seq ?_
    refine WC.seq ?_
    refine WC.region ?_
    refine WO.mv rfl ?_
    refine WO.mv rfl ?_
    obtain ⟨x8, e9, h⟩ := bindS h
    refine WO.shlD rfl rfl e9 ?_
    refine WO.bin rfl rfl (by decide) (by decide) rfl ?_
    refine WO.nil ?_
    refine thenL_n ?_
    refine WC.cond rfl (fun q10 => ?_) (fun q10 => ?_)
    · have h := iteT q10 h
      refine WC.skip ?_
      refine thenL_n ?_
      refine WC.seq ?_
      refine WC.block ?_
      refine WC.seq ?_
      refine WC.region ?_
      refine WO.mv rfl ?_
      refine WO.conv rfl rfl rfl rfl ?_
      obtain ⟨r11, e12, h⟩ := bindS h
      refine WO.callE (S := S6) rfl rfl (F30_ok e12) (fun S13 c14 => ?_)
      refine WO.mv rfl ?_
      obtain ⟨r15, e16, h⟩ := bindS h
      refine WO.callE (S := S13) rfl rfl (F30_ok e16) (fun S17 c18 => ?_)
      refine WO.bin rfl rfl (by decide) (by decide) rfl ?_
      refine WO.nil ?_
      refine thenL_n ?_
      refine WC.cond rfl (fun q19 => ?_) (fun q19 => ?_)
      · have h := iteT q19 h
        refine WC.seq ?_
        refine WC.region ?_
        refine WO.mv rfl ?_
        refine WO.conv rfl rfl rfl rfl ?_
        refine WO.asg rfl ?_
        refine WO.asg rfl ?_
        refine WO.nil ?_
        refine thenL_n ?_
        refine WC.ret ?_
        refine blockL_r ?_
        refine thenL_r ?_
        refine thenL_r ?_
        obtain rfl := someI h
        exact ⟨_, rfl, rfl, ⟨S17, rfl, rfl, (Cov.cons rfl (Cov.cons rfl (Cov.nil _)))⟩⟩
      · have h := iteF q19 h
        refine WC.skip ?_
        refine blockL_n ?_
        refine thenL_n ?_
        refine WC.region ?_
        refine WO.mv rfl ?_
        refine WO.bin rfl rfl (by decide) (by decide) rfl ?_
        refine WO.asg rfl ?_
        refine WO.nil ?_
        refine thenL_n ?_
        obtain rfl := someI h
        exact ⟨_, rfl, ⟨S17, rfl, rfl, (Cov.cons rfl (Cov.cons rfl (Cov.cons rfl (Cov.nil _))))⟩⟩
    · have h := iteF q10 h
      refine WC.exit ?_
      refine thenL_e ?_
      refine thenL_e ?_
      obtain rfl := someI h
      exact ⟨_, rfl, rfl, ⟨S6, rfl, rfl, (Cov.nil _)⟩⟩
  cases b20 with
  | inl b22 =>
    simp only at h
    rintro _ _ _ _ ⟨rfl, ⟨S23, rfl, rfl, hc24⟩⟩
    refine blockL_s ?_
    refine thenL_n ?_
    refine WC.cov hc24 ?_
    refine WC.seq ?_
    refine WC.region ?_
    refine WO.asg rfl ?_
    refine WO.asg rfl ?_
    refine WO.nil ?_
    refine thenL_n ?_
    refine WC.ret ?_
    obtain rfl := someI h
    exact ⟨.inr rfl, _, _, rfl, rfl, rfl⟩
  | inr b22 =>
    simp only at h
    rintro _ _ _ _ ⟨rfl, ⟨S25, rfl, rfl, hc26⟩⟩
    refine blockL_r ?_
    refine thenL_r ?_
    obtain rfl := someI h
    exact ⟨.inr rfl, _, _, (resK_cov hc26 rfl), rfl, rfl⟩
end Go.Proofs.Ytkfmedmanhcdeaa

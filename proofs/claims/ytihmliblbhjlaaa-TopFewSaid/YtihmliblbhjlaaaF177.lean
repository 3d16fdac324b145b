/- The machine answers F177: printed by a program of ours (gen.py). -/
import Derived.Test.YtihmliblbhjlaaaDef
import Derived.Test.YtihmliblbhjlaaaEnv
set_option linter.unusedVariables false
namespace Go.Proofs.Ytihmliblbhjlaaa
open Go.Am
theorem F177.fn : E.fn 177 = some ⟨19, (Try.f177.body.getD .skip), Try.f177.results.toList, []⟩ := rfl
theorem F177_ok {F : Nat} {m : Mem} {n : Nat} {r : Int} {t0 : Int} (h : F177 F t0 = some r)  : Ret E n 177 [.sc (.int .u32 t0)] m n (fun v m' n' => v = .sc (.int .i64 r)) := by
  unfold F177 at h
  refine Ret.walk F177.fn ?_
  refine WC.start fun S0 em en hz => ?_
  refine WC.seq ?_
  refine WC.region ?_
  refine WO.asg rfl ?_
  refine WO.nil ?_
  refine thenL_n ?_
  refine WC.seq ?_
  refine WC.seq ?_
  refine WC.region ?_
  refine WO.mv rfl ?_
  refine WO.bin rfl rfl (by decide) (by decide) rfl ?_
  refine WO.nil ?_
  refine thenL_n ?_
  obtain ⟨b4, e5, h⟩ := bindS h
  refine WC.mono (Q' := (fun b e l' m' n' => e = .normal ∧ ∃ S6 : Cx n, S6.m = m' ∧ S6.n = n' ∧ Cov l' [(0, .sc (.int .u32 b.1)), (2, .sc (.int .i64 b.2))]) b4) ?_ ?_
  · have h := e5
    dsimp only at h ⊢
    refine WC.cond rfl (fun q1 => ?_) (fun q1 => ?_)
    · have h := iteT q1 h
      refine WC.seq ?_
      refine WC.region ?_
      refine WO.mv rfl ?_
      obtain ⟨x2, e3, h⟩ := bindS h
      refine WO.shrD rfl rfl e3 ?_
      refine WO.asg rfl ?_
      refine WO.nil ?_
      refine thenL_n ?_
      refine WC.region ?_
      refine WO.asg rfl ?_
      refine WO.nil ?_
      obtain rfl := someI h
      exact ⟨rfl, ⟨S0, rfl, rfl, (Cov.cons rfl (Cov.cons rfl (Cov.nil _)))⟩⟩
    · have h := iteF q1 h
      refine WC.skip ?_
      obtain rfl := someI h
      exact ⟨rfl, ⟨S0, rfl, rfl, (Cov.cons rfl (Cov.cons rfl (Cov.nil _)))⟩⟩
  dsimp only
  rintro _ _ _ _ ⟨rfl, ⟨S7, rfl, rfl, hc8⟩⟩
  refine thenL_n ?_
  refine WC.cov hc8 ?_
  refine WC.seq ?_
  refine WC.seq ?_
  refine WC.region ?_
  refine WO.mv rfl ?_
  refine WO.bin rfl rfl (by decide) (by decide) rfl ?_
  refine WO.nil ?_
  refine thenL_n ?_
  refine WC.cond rfl (fun q9 => ?_) (fun q9 => ?_)
  · have h := iteT q9 h
    refine WC.seq ?_
    refine WC.region ?_
    refine WO.mv rfl ?_
    obtain ⟨x10, e11, h⟩ := bindS h
    refine WO.shrD rfl rfl e11 ?_
    refine WO.asg rfl ?_
    refine WO.nil ?_
    refine thenL_n ?_
    refine WC.region ?_
    refine WO.mv rfl ?_
    refine WO.bin rfl rfl (by decide) (by decide) rfl ?_
    refine WO.asg rfl ?_
    refine WO.nil ?_
    refine thenL_n ?_
    refine WC.seq ?_
    refine WC.region ?_
    refine WO.mv rfl ?_
    refine WO.mv rfl ?_
    refine WO.conv rfl rfl rfl rfl ?_
    obtain ⟨x12, e13, h⟩ := bindS h
    refine WO.ixT rfl rfl e13 rfl rfl ?_
    refine WO.conv rfl rfl rfl rfl ?_
    refine WO.bin rfl rfl (by decide) (by decide) rfl ?_
    refine WO.asg rfl ?_
    refine WO.nil ?_
    refine thenL_n ?_
    refine WC.ret ?_
    obtain rfl := someI h
    exact ⟨.inr rfl, _, _, rfl, rfl, rfl⟩
  · have h := iteF q9 h
    refine WC.skip ?_
    refine thenL_n ?_
    refine WC.seq ?_
    refine WC.region ?_
    refine WO.mv rfl ?_
    refine WO.mv rfl ?_
    refine WO.conv rfl rfl rfl rfl ?_
    obtain ⟨x14, e15, h⟩ := bindS h
    refine WO.ixT rfl rfl e15 rfl rfl ?_
    refine WO.conv rfl rfl rfl rfl ?_
    refine WO.bin rfl rfl (by decide) (by decide) rfl ?_
    refine WO.asg rfl ?_
    refine WO.nil ?_
    refine thenL_n ?_
    refine WC.ret ?_
    obtain rfl := someI h
    exact ⟨.inr rfl, _, _, rfl, rfl, rfl⟩
end Go.Proofs.Ytihmliblbhjlaaa

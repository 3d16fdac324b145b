/- The machine answers F22: printed by a program of ours (gen.py). -/
import Derived.Test.YtkfmedmanhcdeaaDef
import Derived.Test.YtkfmedmanhcdeaaEnv
set_option linter.unusedVariables false
namespace Go.Proofs.Ytkfmedmanhcdeaa
open Go.Am
theorem F22.fn : E.fn 22 = some ⟨15, (Try.f22.body.getD .skip), Try.f22.results.toList, []⟩ := rfl
theorem F22_ok {F : Nat} {fl : Nat} {S0 : Cx fl} {r : (Option ((List Int))) × Int} {t0 : Int} (h : F22 F t0 = some r)  : Ret E fl 22 [.sc (.int .i64 t0)] S0.m S0.n (fun v m' n' => ∃ S' : Cx fl, S'.m = m' ∧ S'.n = n' ∧ ChM S0 S' ∧ (∃ w13 : SV, v = .tup [.sc w13, .sc (.int .i64 r.2)] ∧ (match r.1 with | none => w13 = .nilp | some x => ∃ b : Nat, ∃ w14 : SV, w13 = .ptr b 0 ∧ Bw S' 902 (.ptr b 0) [w14] ∧ Ow Y3 S' 904 w14 x))) := by
  unfold F22 at h
  refine Ret.walk F22.fn ?_
  have hM := ChM.refl S0
  refine WC.seq ?_
  refine WC.region ?_
  refine WO.asg rfl ?_
  refine WO.asg rfl ?_
  refine WO.nil ?_
  refine thenL_n ?_
  refine WC.seq ?_
  refine WC.seq ?_
  refine WC.region ?_
  refine WO.mv rfl ?_
  refine WO.bin rfl rfl (by decide) (by decide) rfl ?_
  refine WO.mv rfl ?_
  refine WO.cutB (d := 9) 3 ((decide (t0 < 1)) || (decide (t0 > 64))) (fun q1 => ?_) (fun q1 => ?_) ?_
  · refine WO.gno rfl rfl ?_
    refine WO.gno rfl rfl ?_
    refine WO.pickT rfl rfl ?_
    refine WO.nil ?_
    exact ⟨rfl, rfl, (Cov.any rfl (orT q1) (Cov.skip rfl (Cov.skip rfl (Cov.skip rfl (Cov.skip rfl (Cov.refl _))))))⟩
  · skip
    refine WO.gyes rfl rfl ?_
    refine WO.mv rfl ?_
    refine WO.gyes rfl rfl ?_
    refine WO.bin rfl rfl (by decide) (by decide) rfl ?_
    refine WO.pickF rfl rfl ?_
    refine WO.nil ?_
    exact ⟨rfl, rfl, (Cov.any rfl (orF q1) (Cov.skip rfl (Cov.skip rfl (Cov.skip rfl (Cov.skip rfl (Cov.refl _))))))⟩
  refine WO.nil ?_
  refine thenL_n ?_
  refine WC.cond rfl (fun q2 => ?_) (fun q2 => ?_)
  · have h := iteT q2 h
    refine WC.seq ?_
    refine WC.region ?_
    refine WO.asg rfl ?_
    refine WO.asg rfl ?_
    refine WO.nil ?_
    refine thenL_n ?_
    refine WC.ret ?_
    refine thenL_r ?_
    obtain rfl := someI h
    exact ⟨.inr rfl, _, _, rfl, rfl, ⟨S0, rfl, rfl, hM, .nilp, rfl, rfl⟩⟩
  · have h := iteF q2 h
    refine WC.skip ?_
    refine thenL_n ?_
    refine WC.seq ?_
    refine WC.region ?_
    refine WO.mv rfl ?_
    refine WO.bin rfl rfl (by decide) (by decide) rfl ?_
    obtain ⟨L3, e4, h⟩ := bindS h
    refine WO.mkS (A := Y3) (S := S0) 2 rfl rfl e4 rfl rfl rfl (fun v5 S6 c7 ho8 => ?_)
    have hM := hM.to c7
    refine WO.do rfl rfl ?_
    refine WO.bxW (S := S6) (cs := [v5]) 3 rfl rfl rfl (fun b9 S10 c11 ho12 => ?_)
    have hM := hM.to c11
    have ho8 := ho8.to c11
    refine WO.asg rfl ?_
    refine WO.asg rfl ?_
    refine WO.nil ?_
    refine thenL_n ?_
    refine WC.ret ?_
    have hM := hM.renO 3 902
    have ho8 := ho8.renO 3 902
    have ho12 := ho12.ren (j := 902)
    have hM := hM.renO 2 904
    have ho8 := ho8.ren (j := 904)
    have ho12 := ho12.renO 2 904
    obtain rfl := someI h
    exact ⟨.inr rfl, _, _, rfl, rfl, ⟨((S10.ren 3 902).ren 2 904), rfl, rfl, hM, (.ptr b9 0), rfl, ⟨_, v5, rfl, ho12, ho8⟩⟩⟩
end Go.Proofs.Ytkfmedmanhcdeaa

/- The machine answers F24: printed by a program of ours (gen.py). -/
import Derived.Test.YtkfmedmanhcdeaaDef
import Derived.Test.YtkfmedmanhcdeaaEnv
import Derived.Test.YtkfmedmanhcdeaaF96
set_option linter.unusedVariables false
namespace Go.Proofs.Ytkfmedmanhcdeaa
open Go.Am
theorem F24.fn : E.fn 24 = some ⟨20, (Try.f24.body.getD .skip), Try.f24.results.toList, []⟩ := rfl
theorem F24_ok {F : Nat} {m : Mem} {n : Nat} {r : Int × Int} {t0 : (List Int)} {t1 : Int} {bt0 : Nat} {vt0_0 : SV} (h : F24 F t0 t1 = some r) (kt0 : Pw n m (.ptr bt0 0) [vt0_0]) (kt0_0 : Vw Y3 n m vt0_0 t0) : Ret E n 24 [.sc (.ptr bt0 0), .sc (.int .i64 t1)] m n (fun v m' n' => v = .tup [.sc (.int .i64 r.1), .sc (.int .i64 r.2)]) := by
  unfold F24 at h
  refine Ret.walk F24.fn ?_
  refine WC.start fun S0 em en hz => ?_
  have hot0_0 := kt0_0.rdS em hz
  have hot0 := kt0.rwS em hz
  refine WC.seq ?_
  refine WC.region ?_
  refine WO.asg rfl ?_
  refine WO.asg rfl ?_
  refine WO.nil ?_
  refine thenL_n ?_
  refine WC.seq ?_
  refine WC.seq ?_
  refine WC.region ?_
  refine WO.mv rfl ?_
  refine WO.bin rfl rfl (by decide) (by decide) rfl ?_
  refine WO.mv rfl ?_
  refine WO.cutB (d := 16) 8 ((decide (t1 < 0)) || (decide (t1 ≥ (t0.length : Int)))) (fun q1 => ?_) (fun q1 => ?_) ?_
  · refine WO.gno rfl rfl ?_
    refine WO.gno rfl rfl ?_
    refine WO.gno rfl rfl ?_
    refine WO.gno rfl rfl ?_
    refine WO.gno rfl rfl ?_
    refine WO.gno rfl rfl ?_
    refine WO.gno rfl rfl ?_
    refine WO.pickT rfl rfl ?_
    refine WO.nil ?_
    exact ⟨rfl, rfl, (Cov.any rfl (orT q1) (Cov.skip rfl (Cov.skip rfl (Cov.skip rfl (Cov.skip rfl (Cov.skip rfl (Cov.skip rfl (Cov.skip rfl (Cov.skip rfl (Cov.skip rfl (Cov.refl _)))))))))))⟩
  · skip
    refine WO.gyes rfl rfl ?_
    refine WO.mv rfl ?_
    refine WO.gyes rfl rfl ?_
    refine WO.mv rfl ?_
    refine WO.gyes rfl rfl ?_
    refine WO.nck rfl hot0.isp ?_
    refine WO.gyes rfl rfl ?_
    refine WO.fldS (j := 0) (q := 0) rfl hot0.at0 hot0.ptr rfl rfl rfl (by decide) ?_
    refine WO.gyes rfl rfl ?_
    refine WO.ldRw rfl rfl hot0 rfl rfl hot0.lt rfl ?_
    refine WO.gyes rfl rfl ?_
    refine WO.lenS rfl hot0_0.slv rfl ?_
    refine WO.gyes rfl rfl ?_
    refine WO.bin rfl rfl (by decide) (by decide) rfl ?_
    refine WO.pickF rfl rfl ?_
    refine WO.nil ?_
    exact ⟨rfl, rfl, (Cov.any rfl (orF q1) (Cov.skip rfl (Cov.skip rfl (Cov.skip rfl (Cov.skip rfl (Cov.skip rfl (Cov.skip rfl (Cov.skip rfl (Cov.skip rfl (Cov.skip rfl (Cov.refl _)))))))))))⟩
  refine WO.nil ?_
  refine thenL_n ?_
  refine WC.cond rfl (fun q2 => ?_) (fun q2 => ?_)
  · have h := iteT q2 h
    refine WC.seq ?_
    refine WC.region ?_
    refine WO.asg rfl ?_
    refine WO.asg rfl ?_
    refine WO.nil ?_
    refine thenL_n ?_
    refine WC.ret ?_
    refine thenL_r ?_
    obtain rfl := someI h
    exact ⟨.inr rfl, _, _, rfl, rfl, rfl⟩
  · have h := iteF q2 h
    refine WC.skip ?_
    refine thenL_n ?_
    refine WC.seq ?_
    refine WC.region ?_
    refine WO.mv rfl ?_
    refine WO.mv rfl ?_
    obtain ⟨r3, e4, h⟩ := bindS h
    refine WO.callE (S := S0) rfl rfl (F96_ok e4 hot0.pw hot0_0.vw) (fun S5 c6 => ?_)
    have hot0_0 := hot0_0.to c6
    have hot0 := hot0.to c6
    refine WO.asg rfl ?_
    refine WO.asg rfl ?_
    refine WO.nil ?_
    refine thenL_n ?_
    refine WC.ret ?_
    obtain rfl := someI h
    exact ⟨.inr rfl, _, _, rfl, rfl, rfl⟩
end Go.Proofs.Ytkfmedmanhcdeaa

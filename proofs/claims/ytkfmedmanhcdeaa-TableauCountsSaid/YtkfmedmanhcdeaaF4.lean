/- The machine answers F4: printed by a program of ours (gen.py). -/
import Derived.Test.YtkfmedmanhcdeaaDef
import Derived.Test.YtkfmedmanhcdeaaEnv
import Derived.Test.YtkfmedmanhcdeaaF19
import Derived.Test.YtkfmedmanhcdeaaF20
import Derived.Test.YtkfmedmanhcdeaaF21
set_option linter.unusedVariables false
namespace Go.Proofs.Ytkfmedmanhcdeaa
open Go.Am
theorem F4.fn : E.fn 4 = some ⟨34, (Try.f4.body.getD .skip), Try.f4.results.toList, []⟩ := rfl
theorem F4_ok {F : Nat} {m : Mem} {n : Nat} {r : Bool} {t0 : List Int} {vt0 : SV} (h : F4 F t0 = some r) (kt0 : Vw Y3 n m vt0 t0) : Ret E n 4 [.sc vt0] m n (fun v m' n' => v = .sc (.bool r)) := by
  unfold F4 at h
  refine Ret.walk F4.fn ?_
  refine WC.start fun S0 em en hz => ?_
  have hot0 := kt0.rdS em hz
  refine WC.seq ?_
  refine WC.region ?_
  refine WO.asg rfl ?_
  refine WO.nil ?_
  refine thenL_n ?_
  refine WC.seq ?_
  refine WC.region ?_
  refine WO.mv rfl ?_
  obtain ⟨r1, e2, h⟩ := bindS h
  refine WO.callE (S := S0) rfl rfl (F19_ok e2 hot0.vw) (fun S3 c4 => ?_)
  have hot0 := hot0.to c4
  refine WO.mv rfl ?_
  refine WO.do rfl rfl ?_
  refine WO.do rfl rfl ?_
  refine WO.asg rfl ?_
  refine WO.asg rfl ?_
  refine WO.nil ?_
  refine thenL_n ?_
  refine WC.seq ?_
  refine WC.region ?_
  refine WO.mv rfl ?_
  obtain ⟨r5, e6, h⟩ := bindS h
  refine WO.callE (S := S3) rfl rfl (F20_ok e6 hot0.vw) (fun S7 c8 => ?_)
  have hot0 := hot0.to c8
  refine WO.asg rfl ?_
  refine WO.nil ?_
  refine thenL_n ?_
  refine WC.seq ?_
  refine WC.region ?_
  refine WO.mv rfl ?_
  refine WO.mv rfl ?_
  refine WO.bin rfl rfl (by decide) (by decide) rfl ?_
  refine WO.mv rfl ?_
  obtain ⟨y25, e26, h⟩ := bindS h
  refine WO.cutS (d := 33) (S := S7) 17 y25 (fun q24 => ?_) (fun q24 => ?_) (fun S27 c28 => ?_)
  · have h := e26
    have h := iteT q24 h
    refine WO.gyes rfl rfl ?_
    refine WO.mv rfl ?_
    refine WO.gyes rfl rfl ?_
    refine WO.bin rfl rfl (by decide) (by decide) rfl ?_
    refine WO.gyes rfl rfl ?_
    refine WO.mv rfl ?_
    refine WO.cutB (d := 22) 3 ((r5 != 0) && (r1.1 == 0)) (fun q9 => ?_) (fun q9 => ?_) ?_
    · skip
      refine WO.gyes rfl rfl ?_
      refine WO.mv rfl ?_
      refine WO.gyes rfl rfl ?_
      refine WO.bin rfl rfl (by decide) (by decide) rfl ?_
      refine WO.gyes rfl rfl ?_
      refine WO.pickT rfl rfl ?_
      refine WO.nil ?_
      exact ⟨rfl, rfl, (Cov.any rfl (andT q9) (Cov.skip rfl (Cov.skip rfl (Cov.skip rfl (Cov.skip rfl (Cov.refl _))))))⟩
    · refine WO.gno rfl rfl ?_
      refine WO.gno rfl rfl ?_
      refine WO.gyes rfl rfl ?_
      refine WO.pickF rfl rfl ?_
      refine WO.nil ?_
      exact ⟨rfl, rfl, (Cov.any rfl (andF q9) (Cov.skip rfl (Cov.skip rfl (Cov.skip rfl (Cov.skip rfl (Cov.refl _))))))⟩
    refine WO.gyes rfl rfl ?_
    refine WO.mv rfl ?_
    obtain ⟨y20, e21, h⟩ := bindS h
    refine WO.cutS (d := 32) (S := S7) 9 y20 (fun q19 => ?_) (fun q19 => ?_) (fun S22 c23 => ?_)
    · have h := e21
      have h := iteT q19 h
      obtain rfl := someI h
      refine WO.gno rfl rfl ?_
      refine WO.gno rfl rfl ?_
      refine WO.gno rfl rfl ?_
      refine WO.gskip rfl rfl ?_
      refine WO.gskip rfl rfl ?_
      refine WO.gskip rfl rfl ?_
      refine WO.gskip rfl rfl ?_
      refine WO.gno rfl rfl ?_
      refine WO.gyes rfl rfl ?_
      refine WO.pickT rfl rfl ?_
      refine WO.nil ?_
      exact ⟨S7, rfl, rfl, Ch.refl _ _, (Cov.cons rfl (Cov.skip rfl (Cov.skip rfl (Cov.skip rfl (Cov.skip rfl (Cov.skip rfl (Cov.skip rfl (Cov.skip rfl (Cov.skip rfl (Cov.skip rfl (Cov.skip rfl (Cov.refl _))))))))))))⟩
    · have h := e21
      have h := iteF q19 h
      refine WO.gyes rfl rfl ?_
      refine WO.mv rfl ?_
      refine WO.gyes rfl rfl ?_
      refine WO.bin rfl rfl (by decide) (by decide) rfl ?_
      refine WO.gyes rfl rfl ?_
      refine WO.mv rfl ?_
      obtain ⟨y15, e16, h⟩ := bindS h
      refine WO.cutS (d := 31) (S := S7) 5 y15 (fun q14 => ?_) (fun q14 => ?_) (fun S17 c18 => ?_)
      · have h := e16
        have h := iteT q14 h
        refine WO.gyes rfl rfl ?_
        refine WO.mv rfl ?_
        refine WO.gyes rfl rfl ?_
        refine WO.mv rfl ?_
        refine WO.gyes rfl rfl ?_
        obtain ⟨r10, e11, h⟩ := bindS h
        refine WO.callE (S := S7) rfl rfl (F21_ok e11 hot0.vw) (fun S12 c13 => ?_)
        have hot0 := hot0.to c13
        refine WO.gyes rfl rfl ?_
        refine WO.bin rfl rfl (by decide) (by decide) rfl ?_
        obtain rfl := someI h
        refine WO.gyes rfl rfl ?_
        refine WO.pickT rfl rfl ?_
        refine WO.nil ?_
        exact ⟨S12, rfl, rfl, c13, (Cov.cons rfl (Cov.skip rfl (Cov.skip rfl (Cov.skip rfl (Cov.skip rfl (Cov.skip rfl (Cov.skip rfl (Cov.refl _))))))))⟩
      · have h := e16
        have h := iteF q14 h
        obtain rfl := someI h
        refine WO.gno rfl rfl ?_
        refine WO.gno rfl rfl ?_
        refine WO.gno rfl rfl ?_
        refine WO.gno rfl rfl ?_
        refine WO.gyes rfl rfl ?_
        refine WO.pickF rfl rfl ?_
        refine WO.nil ?_
        exact ⟨S7, rfl, rfl, Ch.refl _ _, (Cov.cons rfl (Cov.skip rfl (Cov.skip rfl (Cov.skip rfl (Cov.skip rfl (Cov.skip rfl (Cov.skip rfl (Cov.refl _))))))))⟩
      have hot0 := hot0.to c18
      obtain rfl := someI h
      refine WO.gyes rfl rfl ?_
      refine WO.pickF rfl rfl ?_
      refine WO.nil ?_
      exact ⟨S17, rfl, rfl, c18, (Cov.cons rfl (Cov.skip rfl (Cov.skip rfl (Cov.skip rfl (Cov.skip rfl (Cov.skip rfl (Cov.refl _)))))))⟩
    have hot0 := hot0.to c23
    obtain rfl := someI h
    refine WO.pickT rfl rfl ?_
    refine WO.nil ?_
    exact ⟨S22, rfl, rfl, c23, (Cov.cons rfl (Cov.skip rfl (Cov.skip rfl (Cov.skip rfl (Cov.skip rfl (Cov.skip rfl (Cov.skip rfl (Cov.refl _))))))))⟩
  · have h := e26
    have h := iteF q24 h
    obtain rfl := someI h
    refine WO.gno rfl rfl ?_
    refine WO.gno rfl rfl ?_
    refine WO.gno rfl rfl ?_
    refine WO.gskip rfl rfl ?_
    refine WO.gskip rfl rfl ?_
    refine WO.gno rfl rfl ?_
    refine WO.gno rfl rfl ?_
    refine WO.gskip rfl rfl ?_
    refine WO.gskip rfl rfl ?_
    refine WO.gskip rfl rfl ?_
    refine WO.gskip rfl rfl ?_
    refine WO.gskip rfl rfl ?_
    refine WO.gskip rfl rfl ?_
    refine WO.gskip rfl rfl ?_
    refine WO.gskip rfl rfl ?_
    refine WO.gno rfl rfl ?_
    refine WO.pickF rfl rfl ?_
    refine WO.nil ?_
    exact ⟨S7, rfl, rfl, Ch.refl _ _, (Cov.cons rfl (Cov.skip rfl (Cov.skip rfl (Cov.skip rfl (Cov.skip rfl (Cov.skip rfl (Cov.skip rfl (Cov.skip rfl (Cov.skip rfl (Cov.skip rfl (Cov.skip rfl (Cov.skip rfl (Cov.skip rfl (Cov.skip rfl (Cov.skip rfl (Cov.skip rfl (Cov.skip rfl (Cov.skip rfl (Cov.skip rfl (Cov.refl _))))))))))))))))))))⟩
  have hot0 := hot0.to c28
  refine WO.asg rfl ?_
  refine WO.nil ?_
  refine thenL_n ?_
  refine WC.ret ?_
  obtain rfl := someI h
  exact ⟨.inr rfl, _, _, rfl, rfl, rfl⟩
end Go.Proofs.Ytkfmedmanhcdeaa

/- The machine answers F69_70: printed by a program of ours (gen.py). -/
import Derived.Test.YtkfmedmanhcdeaaDef
import Derived.Test.YtkfmedmanhcdeaaEnv
import Derived.Test.YtkfmedmanhcdeaaF108_70
set_option linter.unusedVariables false
namespace Go.Proofs.Ytkfmedmanhcdeaa
open Go.Am
theorem F69_70.fn : E.fn 69 = some ⟨9, (Try.f69.body.getD .skip), Try.f69.results.toList, []⟩ := rfl
theorem F69_70_ok {F : Nat} {m : Mem} {n : Nat} {r : Bool} {t0 : List Int} {vt0 : SV} (h : F69_70 F t0 = some r) (kt0 : Vw Y3 n m vt0 t0) : Ret E n 69 [.sc vt0, .sc (.fn 70 [])] m n (fun v m' n' => v = .sc (.bool r)) := by
  unfold F69_70 at h
  refine Ret.walk F69_70.fn ?_
  refine WC.start fun S0 em en hz => ?_
  have hot0 := kt0.rdS em hz
  refine WC.seq ?_
  refine WC.region ?_
  refine WO.asg rfl ?_
  refine WO.nil ?_
  refine thenL_n ?_
  refine WC.seq ?_
  refine WC.region ?_
  refine WO.mv rfl ?_
  refine WO.mv rfl ?_
  obtain ⟨r1, e2, h⟩ := bindS h
  refine WO.callE (S := S0) rfl rfl (F108_70_ok e2 hot0.vw) (fun S3 c4 => ?_)
  have hot0 := hot0.to c4
  refine WO.bin rfl rfl (by decide) (by decide) rfl ?_
  refine WO.asg rfl ?_
  refine WO.nil ?_
  refine thenL_n ?_
  refine WC.ret ?_
  obtain rfl := someI h
  exact ⟨.inr rfl, _, _, rfl, rfl, rfl⟩
end Go.Proofs.Ytkfmedmanhcdeaa

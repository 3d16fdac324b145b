/- The machine answers F112_113: printed by a program of ours (gen.py). -/
import Derived.Test.YtdkmepeolmdccaaDef
import Derived.Test.YtdkmepeolmdccaaEnv
import Derived.Test.YtdkmepeolmdccaaF161_113
set_option linter.unusedVariables false
namespace Go.Proofs.Ytdkmepeolmdccaa
open Go.Am
theorem F112_113.fn : E.fn 112 = some ⟨9, (Try.f112.body.getD .skip), Try.f112.results.toList, []⟩ := rfl
theorem F112_113_ok {F : Nat} {m : Mem} {n : Nat} {r : Bool} {t0 : List Int} {t1c0 : List Int} {vt0 : SV} {bt1c0 : Nat} (h : F112_113 F t0 t1c0 = some r) (kt0 : Vw Y23 n m vt0 t0) (kt1c0 : Pv Y22 n m bt1c0 t1c0) : Ret E n 112 [.sc vt0, .sc (.fn 113 [(bt1c0, 0)])] m n (fun v m' n' => v = .sc (.bool r)) := by
  unfold F112_113 at h
  refine Ret.walk F112_113.fn ?_
  refine WC.start fun S0 em en hz => ?_
  have hot0 := kt0.rdS em hz
  have hot1c0 := kt1c0.rpS em hz
  refine WC.seq ?_
  refine WC.region ?_
  refine WO.asg rfl ?_
  refine WO.nil ?_
  refine thenL_n ?_
  refine WC.seq ?_
  refine WC.region ?_
  refine WO.mv rfl ?_
  refine WO.mv rfl ?_
  obtain ⟨r1, e2, h⟩ := bindS h
  refine WO.callE (S := S0) rfl rfl (F161_113_ok e2 hot0.vw hot1c0.pv) (fun S3 c4 => ?_)
  have hot0 := hot0.to c4
  have hot1c0 := hot1c0.to c4
  refine WO.bin rfl rfl (by decide) (by decide) rfl ?_
  refine WO.asg rfl ?_
  refine WO.nil ?_
  refine thenL_n ?_
  refine WC.ret ?_
  obtain rfl := someI h
  exact ⟨.inr rfl, _, _, rfl, rfl, rfl⟩
end Go.Proofs.Ytdkmepeolmdccaa

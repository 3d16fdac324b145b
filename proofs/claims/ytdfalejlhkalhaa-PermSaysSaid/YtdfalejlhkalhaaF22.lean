/- The machine answers F22: printed by a program of ours (gen.py). -/
import Derived.Test.YtdfalejlhkalhaaDef
import Derived.Test.YtdfalejlhkalhaaEnv
import Derived.Test.YtdfalejlhkalhaaF45
set_option linter.unusedVariables false
namespace Go.Proofs.Ytdfalejlhkalhaa
open Go.Am
theorem F22.fn : E.fn 22 = some ⟨8, (Try.f22.body.getD .skip), Try.f22.results.toList, []⟩ := rfl
theorem F22_ok {F : Nat} {m : Mem} {n : Nat} {r : Bool} {t0 : List Int} {t1 : List Int} {vt0 : SV} {vt1 : SV} (h : F22 F t0 t1 = some r) (kt0 : Vw Y3 n m vt0 t0) (kt1 : Vw Y3 n m vt1 t1) : Ret E n 22 [.sc vt0, .sc vt1] m n (fun v m' n' => v = .sc (.bool r)) := by
  unfold F22 at h
  refine Ret.walk F22.fn ?_
  refine WC.start fun S0 em en hz => ?_
  have hot0 := kt0.rdS em hz
  have hot1 := kt1.rdS em hz
  refine WC.seq ?_
  refine WC.region ?_
  refine WO.asg rfl ?_
  refine WO.nil ?_
  refine thenL_n ?_
  refine WC.seq ?_
  refine WC.region ?_
  refine WO.mv rfl ?_
  refine WO.mv rfl ?_
  obtain ⟨r1, e2, h⟩ := bindS h
  refine WO.callE (S := S0) rfl rfl (F45_ok e2 hot0.vw hot1.vw) (fun S3 c4 => ?_)
  have hot0 := hot0.to c4
  have hot1 := hot1.to c4
  refine WO.asg rfl ?_
  refine WO.nil ?_
  refine thenL_n ?_
  refine WC.ret ?_
  obtain rfl := someI h
  exact ⟨.inr rfl, _, _, rfl, rfl, rfl⟩
end Go.Proofs.Ytdfalejlhkalhaa

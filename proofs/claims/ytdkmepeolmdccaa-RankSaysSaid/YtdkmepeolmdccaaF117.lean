/- The machine answers F117: printed by a program of ours (gen.py). -/
import Derived.Test.YtdkmepeolmdccaaDef
import Derived.Test.YtdkmepeolmdccaaEnv
import Derived.Test.YtdkmepeolmdccaaF116
set_option linter.unusedVariables false
namespace Go.Proofs.Ytdkmepeolmdccaa
open Go.Am
theorem F117.fn : E.fn 117 = some ⟨9, (Try.f117.body.getD .skip), Try.f117.results.toList, []⟩ := rfl
theorem F117_ok {F : Nat} {m : Mem} {n : Nat} {r : Bool} {t0 : List Int} {t1 : Int} {vt0 : SV} (h : F117 F t0 t1 = some r) (kt0 : Vw Y3 n m vt0 t0) : Ret E n 117 [.sc vt0, .sc (.int .i64 t1)] m n (fun v m' n' => v = .sc (.bool r)) := by
  unfold F117 at h
  refine Ret.walk F117.fn ?_
  refine WC.start fun S0 em en hz => ?_
  have hot0 := kt0.rdS em hz
  refine WC.seq ?_
  refine WC.region ?_
  refine WO.asg rfl ?_
  refine WO.nil ?_
  refine thenL_n ?_
  refine WC.seq ?_
  refine WC.region ?_
  refine WO.mv rfl ?_
  refine WO.mv rfl ?_
  obtain ⟨r1, e2, h⟩ := bindS h
  refine WO.callE (S := S0) rfl rfl (F116_ok e2 hot0.vw) (fun S3 c4 => ?_)
  have hot0 := hot0.to c4
  refine WO.bin rfl rfl (by decide) (by decide) rfl ?_
  refine WO.asg rfl ?_
  refine WO.nil ?_
  refine thenL_n ?_
  refine WC.ret ?_
  obtain rfl := someI h
  exact ⟨.inr rfl, _, _, rfl, rfl, rfl⟩
end Go.Proofs.Ytdkmepeolmdccaa

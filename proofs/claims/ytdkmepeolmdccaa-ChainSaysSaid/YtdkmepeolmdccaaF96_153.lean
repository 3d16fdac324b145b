/- The machine answers F96_153: printed by a program of ours (gen.py). -/
import Derived.Test.YtdkmepeolmdccaaDef
import Derived.Test.YtdkmepeolmdccaaEnv
import Derived.Test.YtdkmepeolmdccaaF155_153
set_option linter.unusedVariables false
namespace Go.Proofs.Ytdkmepeolmdccaa
open Go.Am
theorem F96_153.fn : E.fn 96 = some ⟨9, (Try.f96.body.getD .skip), Try.f96.results.toList, []⟩ := rfl
theorem F96_153_ok {F : Nat} {m : Mem} {n : Nat} {r : Bool} {t0 : List Int} {vt0 : SV} (h : F96_153 F t0 = some r) (kt0 : Vw Y3 n m vt0 t0) : Ret E n 96 [.sc vt0, .sc (.fn 153 [])] m n (fun v m' n' => v = .sc (.bool r)) := by
  unfold F96_153 at h
  refine Ret.walk F96_153.fn ?_
  refine WC.start fun S0 em en hz => ?_
  have hot0 := kt0.rdS em hz
  refine WC.seq ?_
  refine WC.region ?_
  refine WO.asg rfl ?_
  refine WO.nil ?_
  refine thenL_n ?_
  refine WC.seq ?_
  refine WC.region ?_
  refine WO.mv rfl ?_
  refine WO.mv rfl ?_
  obtain ⟨r1, e2, h⟩ := bindS h
  refine WO.callE (S := S0) rfl rfl (F155_153_ok e2 hot0.vw) (fun S3 c4 => ?_)
  have hot0 := hot0.to c4
  refine WO.bin rfl rfl (by decide) (by decide) rfl ?_
  refine WO.asg rfl ?_
  refine WO.nil ?_
  refine thenL_n ?_
  refine WC.ret ?_
  obtain rfl := someI h
  exact ⟨.inr rfl, _, _, rfl, rfl, rfl⟩
end Go.Proofs.Ytdkmepeolmdccaa

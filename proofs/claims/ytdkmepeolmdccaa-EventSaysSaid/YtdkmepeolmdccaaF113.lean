/- The machine answers F113: printed by a program of ours (gen.py). -/
import Derived.Test.YtdkmepeolmdccaaDef
import Derived.Test.YtdkmepeolmdccaaEnv
set_option linter.unusedVariables false
namespace Go.Proofs.Ytdkmepeolmdccaa
open Go.Am
theorem F113.fn : E.fn 113 = some ⟨10, (Try.f113.body.getD .skip), Try.f113.results.toList, []⟩ := rfl
theorem F113_ok {F : Nat} {m : Mem} {n : Nat} {r : Bool} {t0 : Int} {c0 : List Int} {bc0 : Nat} (h : F113 F t0 c0 = some r) (kc0 : Pv Y22 n m bc0 c0) : Ret E n 113 [.sc (.int .u16 t0), .sc (.ptr bc0 0)] m n (fun v m' n' => v = .sc (.bool r)) := by
  unfold F113 at h
  refine Ret.walk F113.fn ?_
  refine WC.start fun S0 em en hz => ?_
  have hoc0 := kc0.rpS em hz
  refine WC.seq ?_
  refine WC.region ?_
  refine WO.asg rfl ?_
  refine WO.nil ?_
  refine thenL_n ?_
  refine WC.seq ?_
  refine WC.region ?_
  refine WO.mv rfl ?_
  refine WO.conv rfl rfl rfl rfl ?_
  refine WO.ldPS rfl hoc0 rfl rfl (fun v1 ho2 => ?_)
  refine WO.lenS rfl ho2.slv rfl ?_
  obtain ⟨x3, e4, h⟩ := bindS h
  refine WO.shlD rfl rfl e4 ?_
  refine WO.bin rfl rfl (by decide) (by decide) rfl ?_
  refine WO.asg rfl ?_
  refine WO.nil ?_
  refine thenL_n ?_
  refine WC.ret ?_
  obtain rfl := someI h
  exact ⟨.inr rfl, _, _, rfl, rfl, rfl⟩
end Go.Proofs.Ytdkmepeolmdccaa

/- The machine answers F150: printed by a program of ours (gen.py). -/
import Derived.Test.YtihmliblbhjlaaaDef
import Derived.Test.YtihmliblbhjlaaaEnv
set_option linter.unusedVariables false
namespace Go.Proofs.Ytihmliblbhjlaaa
open Go.Am
theorem F150.fn : E.fn 150 = some ⟨7, (Try.f150.body.getD .skip), Try.f150.results.toList, []⟩ := rfl
theorem F150_ok {F : Nat} {m : Mem} {n : Nat} {r : Bool} {t0 : Int} {c0 : Int} {bc0 : Nat} (h : F150 F t0 c0 = some r) (kc0 : Pv Y3 n m bc0 c0) : Ret E n 150 [.sc (.int .i64 t0), .sc (.ptr bc0 0)] m n (fun v m' n' => v = .sc (.bool r)) := by
  unfold F150 at h
  refine Ret.walk F150.fn ?_
  refine WC.start fun S0 em en hz => ?_
  have hoc0 := kc0.rpS em hz
  refine WC.seq ?_
  refine WC.region ?_
  refine WO.asg rfl ?_
  refine WO.nil ?_
  refine thenL_n ?_
  refine WC.seq ?_
  refine WC.region ?_
  refine WO.mv rfl ?_
  refine WO.ldP rfl hoc0 rfl rfl rfl ?_
  refine WO.bin rfl rfl (by decide) (by decide) rfl ?_
  refine WO.asg rfl ?_
  refine WO.nil ?_
  refine thenL_n ?_
  refine WC.ret ?_
  obtain rfl := someI h
  exact ⟨.inr rfl, _, _, rfl, rfl, rfl⟩
end Go.Proofs.Ytihmliblbhjlaaa

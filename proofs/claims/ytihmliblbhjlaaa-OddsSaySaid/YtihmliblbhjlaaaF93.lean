/- The machine answers F93: printed by a program of ours (gen.py). -/
import Derived.Test.YtihmliblbhjlaaaDef
import Derived.Test.YtihmliblbhjlaaaEnv
set_option linter.unusedVariables false
namespace Go.Proofs.Ytihmliblbhjlaaa
open Go.Am
theorem F93.fn : E.fn 93 = some ⟨7, (Try.f93.body.getD .skip), Try.f93.results.toList, []⟩ := rfl
theorem F93_ok {F : Nat} {m : Mem} {n : Nat} {r : Int} {t0 : Int} {c0 : Int} {bc0 : Nat} (h : F93 F t0 c0 = some r) (kc0 : Pv Y3 n m bc0 c0) : Ret E n 93 [.sc (.int .i64 t0), .sc (.ptr bc0 0)] m n (fun v m' n' => v = .sc (.int .i64 r)) := by
  unfold F93 at h
  refine Ret.walk F93.fn ?_
  refine WC.start fun S0 em en hz => ?_
  have hoc0 := kc0.rpS em hz
  refine WC.seq ?_
  refine WC.region ?_
  refine WO.asg rfl ?_
  refine WO.nil ?_
  refine thenL_n ?_
  refine WC.seq ?_
  refine WC.seq ?_
  refine WC.region ?_
  refine WO.mv rfl ?_
  refine WO.ldP rfl hoc0 rfl rfl rfl ?_
  refine WO.bin rfl rfl (by decide) (by decide) rfl ?_
  refine WO.nil ?_
  refine thenL_n ?_
  refine WC.cond rfl (fun q1 => ?_) (fun q1 => ?_)
  · have h := iteT q1 h
    refine WC.seq ?_
    refine WC.region ?_
    refine WO.asg rfl ?_
    refine WO.nil ?_
    refine thenL_n ?_
    refine WC.ret ?_
    refine thenL_r ?_
    obtain rfl := someI h
    exact ⟨.inr rfl, _, _, rfl, rfl, rfl⟩
  · have h := iteF q1 h
    refine WC.skip ?_
    refine thenL_n ?_
    refine WC.seq ?_
    refine WC.region ?_
    refine WO.asg rfl ?_
    refine WO.nil ?_
    refine thenL_n ?_
    refine WC.ret ?_
    obtain rfl := someI h
    exact ⟨.inr rfl, _, _, rfl, rfl, rfl⟩
end Go.Proofs.Ytihmliblbhjlaaa

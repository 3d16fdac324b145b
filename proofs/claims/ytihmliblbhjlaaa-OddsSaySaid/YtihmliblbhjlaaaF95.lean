/- The machine answers F95: printed by a program of ours (gen.py). -/
import Derived.Test.YtihmliblbhjlaaaDef
import Derived.Test.YtihmliblbhjlaaaEnv
set_option linter.unusedVariables false
namespace Go.Proofs.Ytihmliblbhjlaaa
open Go.Am
theorem F95.fn : E.fn 95 = some ⟨21, (Try.f95.body.getD .skip), Try.f95.results.toList, []⟩ := rfl
theorem F95_ok {F : Nat} : ∀ {m : Mem} {n : Nat} {r : Int} {t0 : Int} {t1 : Int} (h : F95 F t0 t1 = some r) , Ret E n 95 [.sc (.int .i64 t0), .sc (.int .i64 t1)] m n (fun v m' n' => v = .sc (.int .i64 r)) := by
  induction F with
  | zero => intro m n r t0 t1 h; cases h
  | succ F ih =>
    intro m n r t0 t1 h 
    rw [F95] at h
    try dsimp only at h
    refine Ret.walk F95.fn ?_
    refine WC.start fun S0 em en hz => ?_
    refine WC.seq ?_
    refine WC.region ?_
    refine WO.asg rfl ?_
    refine WO.nil ?_
    refine thenL_n ?_
    refine WC.seq ?_
    refine WC.region ?_
    refine WO.mv rfl ?_
    refine WO.mv rfl ?_
    refine WO.do rfl rfl ?_
    refine WO.maxD rfl rfl ?_
    refine WO.mv rfl ?_
    refine WO.mv rfl ?_
    refine WO.do rfl rfl ?_
    refine WO.maxD rfl rfl ?_
    refine WO.asg rfl ?_
    refine WO.asg rfl ?_
    refine WO.nil ?_
    refine thenL_n ?_
    refine WC.seq ?_
    refine WC.seq ?_
    refine WC.region ?_
    refine WO.mv rfl ?_
    refine WO.bin rfl rfl (by decide) (by decide) rfl ?_
    refine WO.nil ?_
    refine thenL_n ?_
    refine WC.cond rfl (fun q1 => ?_) (fun q1 => ?_)
    · have h := iteT q1 h
      refine WC.seq ?_
      refine WC.region ?_
      refine WO.mv rfl ?_
      refine WO.asg rfl ?_
      refine WO.nil ?_
      refine thenL_n ?_
      refine WC.ret ?_
      refine thenL_r ?_
      obtain rfl := someI h
      exact ⟨.inr rfl, _, _, rfl, rfl, rfl⟩
    · have h := iteF q1 h
      refine WC.skip ?_
      refine thenL_n ?_
      refine WC.seq ?_
      refine WC.region ?_
      refine WO.mv rfl ?_
      refine WO.mv rfl ?_
      refine WO.mv rfl ?_
      obtain ⟨x2, e3, h⟩ := bindS h
      refine WO.remD rfl rfl e3 ?_
      obtain ⟨r4, e5, h⟩ := bindS h
      refine WO.callE (S := S0) rfl rfl (ih e5) (fun S6 c7 => ?_)
      refine WO.asg rfl ?_
      refine WO.nil ?_
      refine thenL_n ?_
      refine WC.ret ?_
      obtain rfl := someI h
      exact ⟨.inr rfl, _, _, rfl, rfl, rfl⟩
end Go.Proofs.Ytihmliblbhjlaaa

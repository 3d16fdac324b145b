/- The machine answers F26: printed by a program of ours (gen.py). -/
import Derived.Test.YtihmliblbhjlaaaDef
import Derived.Test.YtihmliblbhjlaaaEnv
import Derived.Test.YtihmliblbhjlaaaF21
set_option linter.unusedVariables false
namespace Go.Proofs.Ytihmliblbhjlaaa
open Go.Am
theorem F26.fn : E.fn 26 = some ⟨8, (Try.f26.body.getD .skip), Try.f26.results.toList, []⟩ := rfl
theorem F26_ok {F : Nat} {m : Mem} {n : Nat} {r : Bool} {t0 : List Int} {t1 : List Int} {vt0 : SV} {vt1 : SV} (h : F26 F t0 t1 = some r) (kt0 : Vw Y3 n m vt0 t0) (kt1 : Vw Y3 n m vt1 t1) : Ret E n 26 [.sc vt0, .sc vt1] m n (fun v m' n' => v = .sc (.bool r)) := by
  unfold F26 at h
  refine Ret.walk F26.fn ?_
  refine WC.start fun S0 em en hz => ?_
  have hot0 := kt0.rdS em hz
  have hot1 := kt1.rdS em hz
  refine WC.seq ?_
  refine WC.region ?_
  refine WO.asg rfl ?_
  refine WO.nil ?_
  refine thenL_n ?_
  refine WC.seq ?_
  refine WC.region ?_
  refine WO.mv rfl ?_
  refine WO.mv rfl ?_
  obtain ⟨r1, e2, h⟩ := bindS h
  refine WO.callE (S := S0) rfl rfl (F21_ok e2 hot0.vw hot1.vw) (fun S3 c4 => ?_)
  have hot0 := hot0.to c4
  have hot1 := hot1.to c4
  refine WO.asg rfl ?_
  refine WO.nil ?_
  refine thenL_n ?_
  refine WC.ret ?_
  obtain rfl := someI h
  exact ⟨.inr rfl, _, _, rfl, rfl, rfl⟩
end Go.Proofs.Ytihmliblbhjlaaa

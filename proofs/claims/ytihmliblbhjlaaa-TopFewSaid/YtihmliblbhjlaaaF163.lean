/- The machine answers F163: printed by a program of ours (gen.py). -/
import Derived.Test.YtihmliblbhjlaaaDef
import Derived.Test.YtihmliblbhjlaaaEnv
import Derived.Test.YtihmliblbhjlaaaF196
set_option linter.unusedVariables false
namespace Go.Proofs.Ytihmliblbhjlaaa
open Go.Am
theorem F163.fn : E.fn 163 = some ⟨13, (Try.f163.body.getD .skip), Try.f163.results.toList, []⟩ := rfl
theorem F163_ok {F : Nat} {m : Mem} {n : Nat} {r : Int} {t0 : Int × Int} {t1 : Int × Int} (h : F163 F t0 t1 = some r)  : Ret E n 163 [.agg [.int .i64 t0.1, .int .i64 t0.2], .agg [.int .i64 t1.1, .int .i64 t1.2]] m n (fun v m' n' => v = .sc (.int .i64 r)) := by
  unfold F163 at h
  refine Ret.walk F163.fn ?_
  refine WC.start fun S0 em en hz => ?_
  refine WC.seq ?_
  refine WC.region ?_
  refine WO.bxS (A := Y26) (S := S0) (u := (t0.1, t0.2)) 2 rfl rfl rfl rfl (fun v1 S2 c3 ho4 => ?_)
  refine WO.bxS (A := Y26) (S := S2) (u := (t1.1, t1.2)) 3 rfl rfl rfl rfl (fun v5 S6 c7 ho8 => ?_)
  have ho4 := ho4.to c7
  refine WO.asg rfl ?_
  refine WO.nil ?_
  refine thenL_n ?_
  refine WC.seq ?_
  refine WC.seq ?_
  refine WC.region ?_
  refine WO.ldBA (j := 0) rfl ho4.at0 ho4 rfl rfl ?_
  obtain ⟨r9, e10, h⟩ := bindS h
  refine WO.callE (S := S6) rfl rfl (F196_ok e10) (fun S11 c12 => ?_)
  have ho4 := ho4.to c12
  have ho8 := ho8.to c12
  refine WO.asg rfl ?_
  refine WO.nil ?_
  refine thenL_n ?_
  refine WC.seq ?_
  refine WC.region ?_
  refine WO.mv rfl ?_
  refine WO.bin rfl rfl (by decide) (by decide) rfl ?_
  refine WO.nil ?_
  refine thenL_n ?_
  refine WC.cond rfl (fun q13 => ?_) (fun q13 => ?_)
  · have h := iteT q13 h
    refine WC.seq ?_
    refine WC.region ?_
    refine WO.mv rfl ?_
    refine WO.asg rfl ?_
    refine WO.nil ?_
    refine thenL_n ?_
    refine WC.ret ?_
    refine thenL_r ?_
    obtain rfl := someI h
    exact ⟨.inr rfl, _, _, rfl, rfl, rfl⟩
  · have h := iteF q13 h
    refine WC.skip ?_
    refine thenL_n ?_
    refine WC.seq ?_
    refine WC.region ?_
    refine WO.ldBA (j := 0) rfl ho8.at0 ho8 rfl rfl ?_
    obtain ⟨r14, e15, h⟩ := bindS h
    refine WO.callE (S := S11) rfl rfl (F196_ok e15) (fun S16 c17 => ?_)
    have ho4 := ho4.to c17
    have ho8 := ho8.to c17
    refine WO.asg rfl ?_
    refine WO.nil ?_
    refine thenL_n ?_
    refine WC.ret ?_
    obtain rfl := someI h
    exact ⟨.inr rfl, _, _, rfl, rfl, rfl⟩
end Go.Proofs.Ytihmliblbhjlaaa

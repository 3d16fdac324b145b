/- The machine answers F44: printed by a program of ours (gen.py). -/
import Derived.Test.YtkfmedmanhcdeaaDef
import Derived.Test.YtkfmedmanhcdeaaEnv
import Derived.Test.YtkfmedmanhcdeaaF102
set_option linter.unusedVariables false
namespace Go.Proofs.Ytkfmedmanhcdeaa
open Go.Am
theorem F44.fn : E.fn 44 = some ⟨24, (Try.f44.body.getD .skip), Try.f44.results.toList, []⟩ := rfl
theorem F44_ok {F : Nat} {m : Mem} {n : Nat} {r : Bool × Int} {t0 : Int × Int} {t1 : Int × Int} (h : F44 F t0 t1 = some r)  : Ret E n 44 [.agg [.int .i64 t0.1, .int .i64 t0.2], .agg [.int .i64 t1.1, .int .i64 t1.2]] m n (fun v m' n' => v = .tup [.sc (.bool r.1), .sc (.int .i64 r.2)]) := by
  unfold F44 at h
  refine Ret.walk F44.fn ?_
  refine WC.start fun S0 em en hz => ?_
  refine WC.seq ?_
  refine WC.region ?_
  refine WO.bxS (A := Y56) (S := S0) (u := (t0.1, t0.2)) 2 rfl rfl rfl rfl (fun v1 S2 c3 ho4 => ?_)
  refine WO.bxS (A := Y56) (S := S2) (u := (t1.1, t1.2)) 3 rfl rfl rfl rfl (fun v5 S6 c7 ho8 => ?_)
  have ho4 := ho4.to c7
  refine WO.asg rfl ?_
  refine WO.asg rfl ?_
  refine WO.nil ?_
  refine thenL_n ?_
  refine WC.seq ?_
  refine WC.seq ?_
  refine WC.region ?_
  refine WO.ldBA (j := 0) rfl ho4.at0 ho4 rfl rfl ?_
  refine WO.ldBA (j := 0) rfl ho8.at0 ho8 rfl rfl ?_
  obtain ⟨r9, e10, h⟩ := bindS h
  refine WO.callE (S := S6) rfl rfl (F102_ok e10) (fun S11 c12 => ?_)
  have ho4 := ho4.to c12
  have ho8 := ho8.to c12
  refine WO.asg rfl ?_
  refine WO.nil ?_
  refine thenL_n ?_
  refine WC.seq ?_
  refine WC.region ?_
  refine WO.mv rfl ?_
  refine WO.bin rfl rfl (by decide) (by decide) rfl ?_
  refine WO.nil ?_
  refine thenL_n ?_
  refine WC.cond rfl (fun q13 => ?_) (fun q13 => ?_)
  · have h := iteT q13 h
    refine WC.seq ?_
    refine WC.region ?_
    refine WO.mv rfl ?_
    refine WO.asg rfl ?_
    refine WO.asg rfl ?_
    refine WO.nil ?_
    refine thenL_n ?_
    refine WC.ret ?_
    refine thenL_r ?_
    obtain rfl := someI h
    exact ⟨.inr rfl, _, _, rfl, rfl, rfl⟩
  · have h := iteF q13 h
    refine WC.skip ?_
    refine thenL_n ?_
    refine WC.seq ?_
    refine WC.region ?_
    refine WO.fldS (j := 0) (q := 0) rfl ho4.at0 ho4.ptr rfl rfl rfl (by decide) ?_
    refine WO.ldB (j := 0) (q := 0) rfl rfl ho4 rfl rfl rfl ?_
    refine WO.fldS (j := 0) (q := 0) rfl ho8.at0 ho8.ptr rfl rfl rfl (by decide) ?_
    refine WO.ldB (j := 0) (q := 1) rfl rfl ho8 rfl rfl rfl ?_
    refine WO.bin rfl rfl (by decide) (by decide) rfl ?_
    refine WO.fldS (j := 0) (q := 0) rfl ho8.at0 ho8.ptr rfl rfl rfl (by decide) ?_
    refine WO.ldB (j := 0) (q := 0) rfl rfl ho8 rfl rfl rfl ?_
    refine WO.fldS (j := 0) (q := 0) rfl ho4.at0 ho4.ptr rfl rfl rfl (by decide) ?_
    refine WO.ldB (j := 0) (q := 1) rfl rfl ho4 rfl rfl rfl ?_
    refine WO.bin rfl rfl (by decide) (by decide) rfl ?_
    refine WO.bin rfl rfl (by decide) (by decide) rfl ?_
    refine WO.asg rfl ?_
    refine WO.asg rfl ?_
    refine WO.nil ?_
    refine thenL_n ?_
    refine WC.ret ?_
    obtain rfl := someI h
    exact ⟨.inr rfl, _, _, rfl, rfl, rfl⟩
end Go.Proofs.Ytkfmedmanhcdeaa

/- The machine answers F138: printed by a program of ours (gen.py). -/
import Derived.Test.YtihmliblbhjlaaaDef
import Derived.Test.YtihmliblbhjlaaaEnv
import Derived.Test.YtihmliblbhjlaaaF149
import Derived.Test.YtihmliblbhjlaaaF163
set_option linter.unusedVariables false
namespace Go.Proofs.Ytihmliblbhjlaaa
open Go.Am
theorem F138.fn : E.fn 138 = some ⟨33, (Try.f138.body.getD .skip), Try.f138.results.toList, []⟩ := rfl
theorem F138_ok {F : Nat} {m : Mem} {n : Nat} {r : (Int × Int) × Int} {t0 : Int × Int} {t1 : Int × Int} (h : F138 F t0 t1 = some r)  : Ret E n 138 [.agg [.int .i64 t0.1, .int .i64 t0.2], .agg [.int .i64 t1.1, .int .i64 t1.2]] m n (fun v m' n' => v = .tup [.agg [.int .i64 r.1.1, .int .i64 r.1.2], .sc (.int .i64 r.2)]) := by
  unfold F138 at h
  refine Ret.walk F138.fn ?_
  refine WC.start fun S0 em en hz => ?_
  refine WC.seq ?_
  refine WC.region ?_
  refine WO.bxS (A := Y26) (S := S0) (u := (t0.1, t0.2)) 2 rfl rfl rfl rfl (fun v1 S2 c3 ho4 => ?_)
  refine WO.bxS (A := Y26) (S := S2) (u := (t1.1, t1.2)) 3 rfl rfl rfl rfl (fun v5 S6 c7 ho8 => ?_)
  have ho4 := ho4.to c7
  refine WO.alS (A := Y26) (S := S6) (z0 := (0, 0)) 4 rfl rfl rfl (fun v9 S10 c11 ho12 => ?_)
  have ho4 := ho4.to c11
  have ho8 := ho8.to c11
  refine WO.asg rfl ?_
  refine WO.nil ?_
  refine thenL_n ?_
  refine WC.seq ?_
  refine WC.seq ?_
  refine WC.region ?_
  refine WO.ldBA (j := 0) rfl ho4.at0 ho4 rfl rfl ?_
  refine WO.ldBA (j := 0) rfl ho8.at0 ho8 rfl rfl ?_
  obtain ⟨r13, e14, h⟩ := bindS h
  refine WO.callE (S := S10) rfl rfl (F163_ok e14) (fun S15 c16 => ?_)
  have ho4 := ho4.to c16
  have ho8 := ho8.to c16
  have ho12 := ho12.to c16
  refine WO.asg rfl ?_
  refine WO.nil ?_
  refine thenL_n ?_
  refine WC.seq ?_
  refine WC.region ?_
  refine WO.mv rfl ?_
  refine WO.bin rfl rfl (by decide) (by decide) rfl ?_
  refine WO.nil ?_
  refine thenL_n ?_
  refine WC.cond rfl (fun q17 => ?_) (fun q17 => ?_)
  · have h := iteT q17 h
    refine WC.seq ?_
    refine WC.region ?_
    refine WO.do rfl rfl ?_
    refine WO.mv rfl ?_
    refine WO.stBA (u' := (0, 0)) rfl ho12.at0 rfl ho12 rfl rfl (fun S18 c19 ho12 => ?_)
    have ho4 := ho4.to c19
    have ho8 := ho8.to c19
    refine WO.asg rfl ?_
    refine WO.nil ?_
    refine thenL_n ?_
    refine WC.ret ?_
    refine thenL_r ?_
    have hcell := ho12
    obtain rfl := someI h
    exact ⟨.inr rfl, _, _, (resK_c2 hcell (Cov.refl _) rfl rfl rfl), rfl, rfl⟩
  · have h := iteF q17 h
    refine WC.skip ?_
    refine thenL_n ?_
    refine WC.seq ?_
    refine WC.region ?_
    refine WO.fldS (j := 0) (q := 0) rfl ho4.at0 ho4.ptr rfl rfl rfl (by decide) ?_
    refine WO.ldB (j := 0) (q := 0) rfl rfl ho4 rfl rfl rfl ?_
    refine WO.fldS (j := 0) (q := 0) rfl ho8.at0 ho8.ptr rfl rfl rfl (by decide) ?_
    refine WO.ldB (j := 0) (q := 1) rfl rfl ho8 rfl rfl rfl ?_
    refine WO.bin rfl rfl (by decide) (by decide) rfl ?_
    refine WO.fldS (j := 0) (q := 0) rfl ho8.at0 ho8.ptr rfl rfl rfl (by decide) ?_
    refine WO.ldB (j := 0) (q := 0) rfl rfl ho8 rfl rfl rfl ?_
    refine WO.fldS (j := 0) (q := 0) rfl ho4.at0 ho4.ptr rfl rfl rfl (by decide) ?_
    refine WO.ldB (j := 0) (q := 1) rfl rfl ho4 rfl rfl rfl ?_
    refine WO.bin rfl rfl (by decide) (by decide) rfl ?_
    refine WO.bin rfl rfl (by decide) (by decide) rfl ?_
    refine WO.fldS (j := 0) (q := 0) rfl ho4.at0 ho4.ptr rfl rfl rfl (by decide) ?_
    refine WO.ldB (j := 0) (q := 1) rfl rfl ho4 rfl rfl rfl ?_
    refine WO.fldS (j := 0) (q := 0) rfl ho8.at0 ho8.ptr rfl rfl rfl (by decide) ?_
    refine WO.ldB (j := 0) (q := 1) rfl rfl ho8 rfl rfl rfl ?_
    refine WO.bin rfl rfl (by decide) (by decide) rfl ?_
    obtain ⟨r20, e21, h⟩ := bindS h
    refine WO.callE (S := S15) rfl rfl (F149_ok e21) (fun S22 c23 => ?_)
    have ho4 := ho4.to c23
    have ho8 := ho8.to c23
    have ho12 := ho12.to c23
    refine WO.do rfl rfl ?_
    refine WO.do rfl rfl ?_
    refine WO.stBA (u' := (r20.1.1, r20.1.2)) rfl ho12.at0 rfl ho12 rfl rfl (fun S24 c25 ho12 => ?_)
    have ho4 := ho4.to c25
    have ho8 := ho8.to c25
    refine WO.asg rfl ?_
    refine WO.nil ?_
    refine thenL_n ?_
    refine WC.ret ?_
    have hcell := ho12
    obtain rfl := someI h
    exact ⟨.inr rfl, _, _, (resK_c2 hcell (Cov.refl _) rfl rfl rfl), rfl, rfl⟩
end Go.Proofs.Ytihmliblbhjlaaa

/- The machine answers F47: printed by a program of ours (gen.py). -/
import Derived.Test.YtdkmepeolmdccaaDef
import Derived.Test.YtdkmepeolmdccaaEnv
import Derived.Test.YtdkmepeolmdccaaF114
set_option linter.unusedVariables false
namespace Go.Proofs.Ytdkmepeolmdccaa
open Go.Am
theorem F47.fn : E.fn 47 = some ⟨25, (Try.f47.body.getD .skip), Try.f47.results.toList, []⟩ := rfl
theorem F47_ok {F : Nat} {m : Mem} {n : Nat} {r : (Int × Int) × Int} {t0 : Int × Int} {t1 : Int × Int} (h : F47 F t0 t1 = some r)  : Ret E n 47 [.agg [.int .i64 t0.1, .int .i64 t0.2], .agg [.int .i64 t1.1, .int .i64 t1.2]] m n (fun v m' n' => v = .tup [.agg [.int .i64 r.1.1, .int .i64 r.1.2], .sc (.int .i64 r.2)]) := by
  unfold F47 at h
  refine Ret.walk F47.fn ?_
  refine WC.start fun S0 em en hz => ?_
  refine WC.seq ?_
  refine WC.region ?_
  refine WO.bxS (A := Y26) (S := S0) (u := (t0.1, t0.2)) 2 rfl rfl rfl rfl (fun v1 S2 c3 ho4 => ?_)
  refine WO.bxS (A := Y26) (S := S2) (u := (t1.1, t1.2)) 3 rfl rfl rfl rfl (fun v5 S6 c7 ho8 => ?_)
  have ho4 := ho4.to c7
  refine WO.alS (A := Y26) (S := S6) (z0 := (0, 0)) 4 rfl rfl rfl (fun v9 S10 c11 ho12 => ?_)
  have ho4 := ho4.to c11
  have ho8 := ho8.to c11
  refine WO.asg rfl ?_
  refine WO.nil ?_
  refine thenL_n ?_
  refine WC.seq ?_
  refine WC.region ?_
  refine WO.fldS (j := 0) (q := 0) rfl ho4.at0 ho4.ptr rfl rfl rfl (by decide) ?_
  refine WO.ldB (j := 0) (q := 0) rfl rfl ho4 rfl rfl rfl ?_
  refine WO.fldS (j := 0) (q := 0) rfl ho8.at0 ho8.ptr rfl rfl rfl (by decide) ?_
  refine WO.ldB (j := 0) (q := 1) rfl rfl ho8 rfl rfl rfl ?_
  refine WO.bin rfl rfl (by decide) (by decide) rfl ?_
  refine WO.fldS (j := 0) (q := 0) rfl ho4.at0 ho4.ptr rfl rfl rfl (by decide) ?_
  refine WO.ldB (j := 0) (q := 1) rfl rfl ho4 rfl rfl rfl ?_
  refine WO.fldS (j := 0) (q := 0) rfl ho8.at0 ho8.ptr rfl rfl rfl (by decide) ?_
  refine WO.ldB (j := 0) (q := 0) rfl rfl ho8 rfl rfl rfl ?_
  refine WO.bin rfl rfl (by decide) (by decide) rfl ?_
  refine WO.bin rfl rfl (by decide) (by decide) rfl ?_
  refine WO.fldS (j := 0) (q := 0) rfl ho4.at0 ho4.ptr rfl rfl rfl (by decide) ?_
  refine WO.ldB (j := 0) (q := 1) rfl rfl ho4 rfl rfl rfl ?_
  refine WO.fldS (j := 0) (q := 0) rfl ho8.at0 ho8.ptr rfl rfl rfl (by decide) ?_
  refine WO.ldB (j := 0) (q := 1) rfl rfl ho8 rfl rfl rfl ?_
  refine WO.bin rfl rfl (by decide) (by decide) rfl ?_
  obtain ⟨r13, e14, h⟩ := bindS h
  refine WO.callE (S := S10) rfl rfl (F114_ok e14) (fun S15 c16 => ?_)
  have ho4 := ho4.to c16
  have ho8 := ho8.to c16
  have ho12 := ho12.to c16
  refine WO.do rfl rfl ?_
  refine WO.do rfl rfl ?_
  refine WO.stBA (u' := (r13.1.1, r13.1.2)) rfl ho12.at0 rfl ho12 rfl rfl (fun S17 c18 ho12 => ?_)
  have ho4 := ho4.to c18
  have ho8 := ho8.to c18
  refine WO.asg rfl ?_
  refine WO.nil ?_
  refine thenL_n ?_
  refine WC.ret ?_
  have hcell := ho12
  obtain rfl := someI h
  exact ⟨.inr rfl, _, _, (resK_c2 hcell (Cov.refl _) rfl rfl rfl), rfl, rfl⟩
end Go.Proofs.Ytdkmepeolmdccaa

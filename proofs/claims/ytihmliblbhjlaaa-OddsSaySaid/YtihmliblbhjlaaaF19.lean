/- The machine answers F19: printed by a program of ours (gen.py). -/
import Derived.Test.YtihmliblbhjlaaaDef
import Derived.Test.YtihmliblbhjlaaaEnv
import Derived.Test.YtihmliblbhjlaaaF94
set_option linter.unusedVariables false
namespace Go.Proofs.Ytihmliblbhjlaaa
open Go.Am
theorem F19.fn : E.fn 19 = some ⟨14, (Try.f19.body.getD .skip), Try.f19.results.toList, []⟩ := rfl
theorem F19_ok {F : Nat} {m : Mem} {n : Nat} {r : (Int × Int)} {t0 : Int} {t1 : Int} (h : F19 F t0 t1 = some r)  : Ret E n 19 [.sc (.int .i64 t0), .sc (.int .i64 t1)] m n (fun v m' n' => v = .agg [.int .i64 r.1, .int .i64 r.2]) := by
  unfold F19 at h
  refine Ret.walk F19.fn ?_
  refine WC.start fun S0 em en hz => ?_
  refine WC.seq ?_
  refine WC.region ?_
  refine WO.alS (A := Y26) (S := S0) (z0 := (0, 0)) 2 rfl rfl rfl (fun v1 S2 c3 ho4 => ?_)
  refine WO.nil ?_
  refine thenL_n ?_
  refine WC.seq ?_
  refine WC.region ?_
  refine WO.mv rfl ?_
  refine WO.mv rfl ?_
  obtain ⟨r5, e6, h⟩ := bindS h
  refine WO.callE (S := S2) rfl rfl (F94_ok e6) (fun S7 c8 => ?_)
  have ho4 := ho4.to c8
  refine WO.mv rfl ?_
  refine WO.do rfl rfl ?_
  refine WO.do rfl rfl ?_
  refine WO.alS (A := Y26) (S := S7) (z0 := (0, 0)) 3 rfl rfl rfl (fun v9 S10 c11 ho12 => ?_)
  have ho4 := ho4.to c11
  refine WO.stBA (u' := (r5.1.1, r5.1.2)) rfl ho12.at0 rfl ho12 rfl rfl (fun S13 c14 ho12 => ?_)
  have ho4 := ho4.to c14
  refine WO.asg rfl ?_
  refine WO.nil ?_
  refine thenL_n ?_
  refine WC.seq ?_
  refine WC.region ?_
  refine WO.ldBA (j := 0) rfl ho12.at0 ho12 rfl rfl ?_
  refine WO.stBA (u' := (((r5.1.1, r5.1.2)).1, ((r5.1.1, r5.1.2)).2)) rfl ho4.at0 rfl ho4 rfl rfl (fun S15 c16 ho4 => ?_)
  have ho12 := ho12.to c16
  refine WO.nil ?_
  refine thenL_n ?_
  refine WC.ret ?_
  have hcell := ho4
  obtain rfl := someI h
  exact ⟨.inr rfl, _, _, (resK_c1 hcell (Cov.refl _) rfl rfl), rfl, rfl⟩
end Go.Proofs.Ytihmliblbhjlaaa

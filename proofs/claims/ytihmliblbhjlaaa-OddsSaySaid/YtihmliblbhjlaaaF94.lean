/- The machine answers F94: printed by a program of ours (gen.py). -/
import Derived.Test.YtihmliblbhjlaaaDef
import Derived.Test.YtihmliblbhjlaaaEnv
import Derived.Test.YtihmliblbhjlaaaF95
set_option linter.unusedVariables false
namespace Go.Proofs.Ytihmliblbhjlaaa
open Go.Am
theorem F94.fn : E.fn 94 = some ⟨33, (Try.f94.body.getD .skip), Try.f94.results.toList, []⟩ := rfl
theorem F94_ok {F : Nat} {m : Mem} {n : Nat} {r : (Int × Int) × Int} {t0 : Int} {t1 : Int} (h : F94 F t0 t1 = some r)  : Ret E n 94 [.sc (.int .i64 t0), .sc (.int .i64 t1)] m n (fun v m' n' => v = .tup [.agg [.int .i64 r.1.1, .int .i64 r.1.2], .sc (.int .i64 r.2)]) := by
  unfold F94 at h
  refine Ret.walk F94.fn ?_
  refine WC.start fun S0 em en hz => ?_
  refine WC.seq ?_
  refine WC.region ?_
  refine WO.alS (A := Y26) (S := S0) (z0 := (0, 0)) 2 rfl rfl rfl (fun v1 S2 c3 ho4 => ?_)
  refine WO.asg rfl ?_
  refine WO.nil ?_
  refine thenL_n ?_
  refine WC.seq ?_
  refine WC.region ?_
  refine WO.mv rfl ?_
  refine WO.mv rfl ?_
  obtain ⟨r5, e6, h⟩ := bindS h
  refine WO.callE (S := S2) rfl rfl (F95_ok e6) (fun S7 c8 => ?_)
  have ho4 := ho4.to c8
  refine WO.asg rfl ?_
  refine WO.nil ?_
  refine thenL_n ?_
  refine WC.seq ?_
  refine WC.seq ?_
  refine WC.region ?_
  refine WO.mv rfl ?_
  refine WO.bin rfl rfl (by decide) (by decide) rfl ?_
  refine WO.nil ?_
  refine thenL_n ?_
  obtain ⟨b10, e11, h⟩ := bindS h
  refine WC.mono (Q' := (fun b e l' m' n' => e = .normal ∧ ∃ S12 : Cx n, S12.m = m' ∧ S12.n = n' ∧ Cov l' [(0, .sc (.int .i64 t0)), (1, .sc (.int .i64 t1)), (4, .sc v1), (6, .sc (.int .i64 b))] ∧ Bk Y26 S12 2 v1 ((0, 0))) b10) ?_ ?_
  · have h := e11
    dsimp only at h ⊢
    refine WC.cond rfl (fun q9 => ?_) (fun q9 => ?_)
    · have h := iteT q9 h
      refine WC.region ?_
      refine WO.mv rfl ?_
      refine WO.do rfl rfl ?_
      refine WO.asg rfl ?_
      refine WO.nil ?_
      obtain rfl := someI h
      exact ⟨rfl, ⟨S7, rfl, rfl, (Cov.cons rfl (Cov.cons rfl (Cov.cons rfl (Cov.cons rfl (Cov.nil _))))), ho4⟩⟩
    · have h := iteF q9 h
      refine WC.skip ?_
      obtain rfl := someI h
      exact ⟨rfl, ⟨S7, rfl, rfl, (Cov.cons rfl (Cov.cons rfl (Cov.cons rfl (Cov.cons rfl (Cov.nil _))))), ho4⟩⟩
  dsimp only
  rintro _ _ _ _ ⟨rfl, ⟨S13, rfl, rfl, hc14, ho4⟩⟩
  refine thenL_n ?_
  refine WC.cov hc14 ?_
  refine WC.seq ?_
  refine WC.drawP rfl rfl ?_
  refine WO.mv rfl ?_
  refine WO.mv rfl ?_
  obtain ⟨x15, e16, h⟩ := bindS h
  refine WO.quoD rfl rfl e16 ?_
  refine WO.mv rfl ?_
  refine WO.mv rfl ?_
  obtain ⟨x17, e18, h⟩ := bindS h
  refine WO.quoD rfl rfl e18 ?_
  refine WO.asg rfl ?_
  refine WO.asg rfl ?_
  refine WO.nil ?_
  refine thenL_n ?_
  refine WC.seq ?_
  refine WC.seq ?_
  refine WC.region ?_
  refine WO.mv rfl ?_
  refine WO.bin rfl rfl (by decide) (by decide) rfl ?_
  refine WO.mv rfl ?_
  refine WO.cutB (d := 28) 6 ((decide (x17 > 1000000000)) || (decide ((maxI x15 (wrapA .i64 (0 - x15))) > 1000000000))) (fun q19 => ?_) (fun q19 => ?_) ?_
  · refine WO.gno rfl rfl ?_
    refine WO.gno rfl rfl ?_
    refine WO.gno rfl rfl ?_
    refine WO.gno rfl rfl ?_
    refine WO.gno rfl rfl ?_
    refine WO.pickT rfl rfl ?_
    refine WO.nil ?_
    exact ⟨rfl, rfl, (Cov.any rfl (orT q19) (Cov.skip rfl (Cov.skip rfl (Cov.skip rfl (Cov.skip rfl (Cov.skip rfl (Cov.skip rfl (Cov.skip rfl (Cov.refl _)))))))))⟩
  · skip
    refine WO.gyes rfl rfl ?_
    refine WO.mv rfl ?_
    refine WO.gyes rfl rfl ?_
    refine WO.mv rfl ?_
    refine WO.gyes rfl rfl ?_
    refine WO.do rfl rfl ?_
    refine WO.gyes rfl rfl ?_
    refine WO.maxD rfl rfl ?_
    refine WO.gyes rfl rfl ?_
    refine WO.bin rfl rfl (by decide) (by decide) rfl ?_
    refine WO.pickF rfl rfl ?_
    refine WO.nil ?_
    exact ⟨rfl, rfl, (Cov.any rfl (orF q19) (Cov.skip rfl (Cov.skip rfl (Cov.skip rfl (Cov.skip rfl (Cov.skip rfl (Cov.skip rfl (Cov.skip rfl (Cov.refl _)))))))))⟩
  refine WO.nil ?_
  refine thenL_n ?_
  refine WC.cond rfl (fun q20 => ?_) (fun q20 => ?_)
  · have h := iteT q20 h
    refine WC.seq ?_
    refine WC.region ?_
    refine WO.do rfl rfl ?_
    refine WO.stBA (u' := (0, 0)) rfl ho4.at0 rfl ho4 rfl rfl (fun S21 c22 ho4 => ?_)
    refine WO.asg rfl ?_
    refine WO.nil ?_
    refine thenL_n ?_
    refine WC.ret ?_
    refine thenL_r ?_
    have hcell := ho4
    obtain rfl := someI h
    exact ⟨.inr rfl, _, _, (resK_c2 hcell (Cov.refl _) rfl rfl rfl), rfl, rfl⟩
  · have h := iteF q20 h
    refine WC.skip ?_
    refine thenL_n ?_
    refine WC.seq ?_
    refine WC.region ?_
    refine WO.mv rfl ?_
    refine WO.mv rfl ?_
    refine WO.do rfl rfl ?_
    refine WO.stBA (u' := (x15, x17)) rfl ho4.at0 rfl ho4 rfl rfl (fun S23 c24 ho4 => ?_)
    refine WO.asg rfl ?_
    refine WO.nil ?_
    refine thenL_n ?_
    refine WC.ret ?_
    have hcell := ho4
    obtain rfl := someI h
    exact ⟨.inr rfl, _, _, (resK_c2 hcell (Cov.refl _) rfl rfl rfl), rfl, rfl⟩
end Go.Proofs.Ytihmliblbhjlaaa

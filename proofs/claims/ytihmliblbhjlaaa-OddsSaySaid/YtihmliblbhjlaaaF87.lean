/- The machine answers F87: printed by a program of ours (gen.py). -/
import Derived.Test.YtihmliblbhjlaaaDef
import Derived.Test.YtihmliblbhjlaaaEnv
import Derived.Test.YtihmliblbhjlaaaF149
set_option linter.unusedVariables false
namespace Go.Proofs.Ytihmliblbhjlaaa
open Go.Am
theorem F87.fn : E.fn 87 = some ⟨35, (Try.f87.body.getD .skip), Try.f87.results.toList, []⟩ := rfl
theorem F87_ok {F : Nat} {m : Mem} {n : Nat} {r : (Int × Int) × Int} {t0 : Int} {t1 : Int} (h : F87 F t0 t1 = some r)  : Ret E n 87 [.sc (.int .i64 t0), .sc (.int .i64 t1)] m n (fun v m' n' => v = .tup [.agg [.int .i64 r.1.1, .int .i64 r.1.2], .sc (.int .i64 r.2)]) := by
  unfold F87 at h
  refine Ret.walk F87.fn ?_
  refine WC.start fun S0 em en hz => ?_
  refine WC.seq ?_
  refine WC.region ?_
  refine WO.alS (A := Y26) (S := S0) (z0 := (0, 0)) 2 rfl rfl rfl (fun v1 S2 c3 ho4 => ?_)
  refine WO.asg rfl ?_
  refine WO.nil ?_
  refine thenL_n ?_
  refine WC.seq ?_
  refine WC.seq ?_
  refine WC.region ?_
  refine WO.mv rfl ?_
  refine WO.bin rfl rfl (by decide) (by decide) rfl ?_
  refine WO.mv rfl ?_
  refine WO.cutB (d := 11) 3 ((decide (t0 < (-1000000000))) || (decide (t0 > 1000000000))) (fun q5 => ?_) (fun q5 => ?_) ?_
  · refine WO.gno rfl rfl ?_
    refine WO.gno rfl rfl ?_
    refine WO.pickT rfl rfl ?_
    refine WO.nil ?_
    exact ⟨rfl, rfl, (Cov.any rfl (orT q5) (Cov.skip rfl (Cov.skip rfl (Cov.skip rfl (Cov.skip rfl (Cov.refl _))))))⟩
  · skip
    refine WO.gyes rfl rfl ?_
    refine WO.mv rfl ?_
    refine WO.gyes rfl rfl ?_
    refine WO.bin rfl rfl (by decide) (by decide) rfl ?_
    refine WO.pickF rfl rfl ?_
    refine WO.nil ?_
    exact ⟨rfl, rfl, (Cov.any rfl (orF q5) (Cov.skip rfl (Cov.skip rfl (Cov.skip rfl (Cov.skip rfl (Cov.refl _))))))⟩
  refine WO.mv rfl ?_
  refine WO.cutB (d := 15) 3 (((decide (t0 < (-1000000000))) || (decide (t0 > 1000000000))) || (decide (t1 < (-1000000000)))) (fun q6 => ?_) (fun q6 => ?_) ?_
  · refine WO.gno rfl rfl ?_
    refine WO.gno rfl rfl ?_
    refine WO.pickT rfl rfl ?_
    refine WO.nil ?_
    exact ⟨rfl, rfl, (Cov.any rfl (orT q6) (Cov.skip rfl (Cov.skip rfl (Cov.skip rfl (Cov.skip rfl (Cov.refl _))))))⟩
  · skip
    refine WO.gyes rfl rfl ?_
    refine WO.mv rfl ?_
    refine WO.gyes rfl rfl ?_
    refine WO.bin rfl rfl (by decide) (by decide) rfl ?_
    refine WO.pickF rfl rfl ?_
    refine WO.nil ?_
    exact ⟨rfl, rfl, (Cov.any rfl (orF q6) (Cov.skip rfl (Cov.skip rfl (Cov.skip rfl (Cov.skip rfl (Cov.refl _))))))⟩
  refine WO.mv rfl ?_
  refine WO.cutB (d := 19) 3 ((((decide (t0 < (-1000000000))) || (decide (t0 > 1000000000))) || (decide (t1 < (-1000000000)))) || (decide (t1 > 1000000000))) (fun q7 => ?_) (fun q7 => ?_) ?_
  · refine WO.gno rfl rfl ?_
    refine WO.gno rfl rfl ?_
    refine WO.pickT rfl rfl ?_
    refine WO.nil ?_
    exact ⟨rfl, rfl, (Cov.any rfl (orT q7) (Cov.skip rfl (Cov.skip rfl (Cov.skip rfl (Cov.skip rfl (Cov.refl _))))))⟩
  · skip
    refine WO.gyes rfl rfl ?_
    refine WO.mv rfl ?_
    refine WO.gyes rfl rfl ?_
    refine WO.bin rfl rfl (by decide) (by decide) rfl ?_
    refine WO.pickF rfl rfl ?_
    refine WO.nil ?_
    exact ⟨rfl, rfl, (Cov.any rfl (orF q7) (Cov.skip rfl (Cov.skip rfl (Cov.skip rfl (Cov.skip rfl (Cov.refl _))))))⟩
  refine WO.nil ?_
  refine thenL_n ?_
  refine WC.cond rfl (fun q8 => ?_) (fun q8 => ?_)
  · have h := iteT q8 h
    refine WC.seq ?_
    refine WC.region ?_
    refine WO.do rfl rfl ?_
    refine WO.stBA (u' := (0, 0)) rfl ho4.at0 rfl ho4 rfl rfl (fun S9 c10 ho4 => ?_)
    refine WO.asg rfl ?_
    refine WO.nil ?_
    refine thenL_n ?_
    refine WC.ret ?_
    refine thenL_r ?_
    have hcell := ho4
    obtain rfl := someI h
    exact ⟨.inr rfl, _, _, (resK_c2 hcell (Cov.refl _) rfl rfl rfl), rfl, rfl⟩
  · have h := iteF q8 h
    refine WC.skip ?_
    refine thenL_n ?_
    refine WC.seq ?_
    refine WC.seq ?_
    refine WC.region ?_
    refine WO.mv rfl ?_
    refine WO.bin rfl rfl (by decide) (by decide) rfl ?_
    refine WO.nil ?_
    refine thenL_n ?_
    refine WC.cond rfl (fun q11 => ?_) (fun q11 => ?_)
    · have h := iteT q11 h
      refine WC.seq ?_
      refine WC.region ?_
      refine WO.do rfl rfl ?_
      refine WO.stBA (u' := (0, 0)) rfl ho4.at0 rfl ho4 rfl rfl (fun S12 c13 ho4 => ?_)
      refine WO.asg rfl ?_
      refine WO.nil ?_
      refine thenL_n ?_
      refine WC.ret ?_
      refine thenL_r ?_
      have hcell := ho4
      obtain rfl := someI h
      exact ⟨.inr rfl, _, _, (resK_c2 hcell (Cov.refl _) rfl rfl rfl), rfl, rfl⟩
    · have h := iteF q11 h
      refine WC.skip ?_
      refine thenL_n ?_
      refine WC.seq ?_
      refine WC.seq ?_
      refine WC.region ?_
      refine WO.mv rfl ?_
      refine WO.bin rfl rfl (by decide) (by decide) rfl ?_
      refine WO.nil ?_
      refine thenL_n ?_
      refine WC.cond rfl (fun q14 => ?_) (fun q14 => ?_)
      · have h := iteT q14 h
        refine WC.region ?_
        refine WO.mv rfl ?_
        refine WO.do rfl rfl ?_
        refine WO.mv rfl ?_
        refine WO.do rfl rfl ?_
        refine WO.asg rfl ?_
        refine WO.asg rfl ?_
        refine WO.nil ?_
        refine thenL_n ?_
        refine WC.seq ?_
        refine WC.region ?_
        refine WO.mv rfl ?_
        refine WO.mv rfl ?_
        obtain ⟨r15, e16, h⟩ := bindS h
        refine WO.callE (S := S2) rfl rfl (F149_ok e16) (fun S17 c18 => ?_)
        have ho4 := ho4.to c18
        refine WO.do rfl rfl ?_
        refine WO.do rfl rfl ?_
        refine WO.stBA (u' := (r15.1.1, r15.1.2)) rfl ho4.at0 rfl ho4 rfl rfl (fun S19 c20 ho4 => ?_)
        refine WO.asg rfl ?_
        refine WO.nil ?_
        refine thenL_n ?_
        refine WC.ret ?_
        have hcell := ho4
        obtain rfl := someI h
        exact ⟨.inr rfl, _, _, (resK_c2 hcell (Cov.refl _) rfl rfl rfl), rfl, rfl⟩
      · have h := iteF q14 h
        refine WC.skip ?_
        refine thenL_n ?_
        refine WC.seq ?_
        refine WC.region ?_
        refine WO.mv rfl ?_
        refine WO.mv rfl ?_
        obtain ⟨r21, e22, h⟩ := bindS h
        refine WO.callE (S := S2) rfl rfl (F149_ok e22) (fun S23 c24 => ?_)
        have ho4 := ho4.to c24
        refine WO.do rfl rfl ?_
        refine WO.do rfl rfl ?_
        refine WO.stBA (u' := (r21.1.1, r21.1.2)) rfl ho4.at0 rfl ho4 rfl rfl (fun S25 c26 ho4 => ?_)
        refine WO.asg rfl ?_
        refine WO.nil ?_
        refine thenL_n ?_
        refine WC.ret ?_
        have hcell := ho4
        obtain rfl := someI h
        exact ⟨.inr rfl, _, _, (resK_c2 hcell (Cov.refl _) rfl rfl rfl), rfl, rfl⟩
end Go.Proofs.Ytihmliblbhjlaaa

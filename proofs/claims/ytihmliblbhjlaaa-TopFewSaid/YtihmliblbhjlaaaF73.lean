/- The machine answers F73: printed by a program of ours (gen.py). -/
import Derived.Test.YtihmliblbhjlaaaDef
import Derived.Test.YtihmliblbhjlaaaEnv
import Derived.Test.YtihmliblbhjlaaaF137
import Derived.Test.YtihmliblbhjlaaaF138
set_option linter.unusedVariables false
namespace Go.Proofs.Ytihmliblbhjlaaa
open Go.Am
theorem F73.fn : E.fn 73 = some ⟨31, (Try.f73.body.getD .skip), Try.f73.results.toList, []⟩ := rfl
theorem F73_ok {F : Nat} {m : Mem} {n : Nat} {r : Bool}  (h : F73 F = some r)  : Ret E n 73 [] m n (fun v m' n' => v = .sc (.bool r)) := by
  unfold F73 at h
  refine Ret.walk F73.fn ?_
  refine WC.start fun S0 em en hz => ?_
  refine WC.seq ?_
  refine WC.region ?_
  refine WO.asg rfl ?_
  refine WO.nil ?_
  refine thenL_n ?_
  refine WC.seq ?_
  refine WC.region ?_
  refine WO.bsS (A := Y3) (S := S0) (M := [1, 2, 0]) (cs := [.int .i64 1, .int .i64 2, .int .i64 0]) 2 rfl rfl rfl ⟨[.int .i64 1], _, rfl, rfl, ⟨[.int .i64 2], _, rfl, rfl, ⟨[.int .i64 0], _, rfl, rfl, rfl⟩⟩⟩ rfl (fun v1 S2 c3 ho4 => ?_)
  obtain ⟨r5, e6, h⟩ := bindS h
  refine WO.callE (S := S2) rfl rfl (F137_ok e6 ho4.vw) (fun S7 c8 => ?_)
  have ho4 := ho4.to c8
  refine WO.mv rfl ?_
  refine WO.do rfl rfl ?_
  refine WO.do rfl rfl ?_
  refine WO.asg rfl ?_
  refine WO.asg rfl ?_
  refine WO.nil ?_
  refine thenL_n ?_
  refine WC.seq ?_
  refine WC.region ?_
  refine WO.do rfl rfl ?_
  refine WO.do rfl rfl ?_
  obtain ⟨r9, e10, h⟩ := bindS h
  refine WO.callE (S := S7) rfl rfl (F138_ok e10) (fun S11 c12 => ?_)
  have ho4 := ho4.to c12
  refine WO.mv rfl ?_
  refine WO.do rfl rfl ?_
  refine WO.do rfl rfl ?_
  refine WO.alS (A := Y26) (S := S11) (z0 := (0, 0)) 3 rfl rfl rfl (fun v13 S14 c15 ho16 => ?_)
  have ho4 := ho4.to c15
  refine WO.stBA (u' := (r9.1.1, r9.1.2)) rfl ho16.at0 rfl ho16 rfl rfl (fun S17 c18 ho16 => ?_)
  have ho4 := ho4.to c18
  refine WO.asg rfl ?_
  refine WO.nil ?_
  refine thenL_n ?_
  refine WC.seq ?_
  refine WC.region ?_
  refine WO.mv rfl ?_
  refine WO.bin rfl rfl (by decide) (by decide) rfl ?_
  refine WO.mv rfl ?_
  refine WO.cutB (d := 21) 3 ((r5.2 == 0) && (r9.2 == 0)) (fun q19 => ?_) (fun q19 => ?_) ?_
  · skip
    refine WO.gyes rfl rfl ?_
    refine WO.mv rfl ?_
    refine WO.gyes rfl rfl ?_
    refine WO.bin rfl rfl (by decide) (by decide) rfl ?_
    refine WO.pickT rfl rfl ?_
    refine WO.nil ?_
    exact ⟨rfl, rfl, (Cov.any rfl (andT q19) (Cov.skip rfl (Cov.skip rfl (Cov.skip rfl (Cov.skip rfl (Cov.refl _))))))⟩
  · refine WO.gno rfl rfl ?_
    refine WO.gno rfl rfl ?_
    refine WO.pickF rfl rfl ?_
    refine WO.nil ?_
    exact ⟨rfl, rfl, (Cov.any rfl (andF q19) (Cov.skip rfl (Cov.skip rfl (Cov.skip rfl (Cov.skip rfl (Cov.refl _))))))⟩
  refine WO.mv rfl ?_
  refine WO.cutB (d := 25) 3 (((r5.2 == 0) && (r9.2 == 0)) && (r5.1 == 3)) (fun q20 => ?_) (fun q20 => ?_) ?_
  · skip
    refine WO.gyes rfl rfl ?_
    refine WO.mv rfl ?_
    refine WO.gyes rfl rfl ?_
    refine WO.bin rfl rfl (by decide) (by decide) rfl ?_
    refine WO.pickT rfl rfl ?_
    refine WO.nil ?_
    exact ⟨rfl, rfl, (Cov.any rfl (andT q20) (Cov.skip rfl (Cov.skip rfl (Cov.skip rfl (Cov.skip rfl (Cov.refl _))))))⟩
  · refine WO.gno rfl rfl ?_
    refine WO.gno rfl rfl ?_
    refine WO.pickF rfl rfl ?_
    refine WO.nil ?_
    exact ⟨rfl, rfl, (Cov.any rfl (andF q20) (Cov.skip rfl (Cov.skip rfl (Cov.skip rfl (Cov.skip rfl (Cov.refl _))))))⟩
  refine WO.mv rfl ?_
  refine WO.cutB (d := 30) 4 ((((r5.2 == 0) && (r9.2 == 0)) && (r5.1 == 3)) && (((r9.1.1, r9.1.2)).1 == 5 && (((r9.1.1, r9.1.2)).2 == 6 && true))) (fun q21 => ?_) (fun q21 => ?_) ?_
  · skip
    refine WO.gyes rfl rfl ?_
    refine WO.ldBA (j := 0) rfl ho16.at0 ho16 rfl rfl ?_
    refine WO.gyes rfl rfl ?_
    refine WO.do rfl rfl ?_
    refine WO.gyes rfl rfl ?_
    refine WO.eqA rfl rfl rfl rfl (eqFields_cons rfl rfl rfl eqC_int (eqFields_cons rfl rfl rfl eqC_int rfl)) ?_
    refine WO.pickT rfl rfl ?_
    refine WO.nil ?_
    exact ⟨rfl, rfl, (Cov.any rfl (andT q21) (Cov.skip rfl (Cov.skip rfl (Cov.skip rfl (Cov.skip rfl (Cov.skip rfl (Cov.refl _)))))))⟩
  · refine WO.gno rfl rfl ?_
    refine WO.gno rfl rfl ?_
    refine WO.gno rfl rfl ?_
    refine WO.pickF rfl rfl ?_
    refine WO.nil ?_
    exact ⟨rfl, rfl, (Cov.any rfl (andF q21) (Cov.skip rfl (Cov.skip rfl (Cov.skip rfl (Cov.skip rfl (Cov.skip rfl (Cov.refl _)))))))⟩
  refine WO.asg rfl ?_
  refine WO.nil ?_
  refine thenL_n ?_
  refine WC.ret ?_
  obtain rfl := someI h
  exact ⟨.inr rfl, _, _, rfl, rfl, rfl⟩
end Go.Proofs.Ytihmliblbhjlaaa

/- The machine answers F88_90: printed by a program of ours (gen.py). -/
import Derived.Test.YtihmliblbhjlaaaDef
import Derived.Test.YtihmliblbhjlaaaEnv
import Derived.Test.YtihmliblbhjlaaaF90
set_option linter.unusedVariables false
namespace Go.Proofs.Ytihmliblbhjlaaa
open Go.Am
theorem F88_90.fn : E.fn 88 = some ⟨29, (Try.f88.body.getD .skip), Try.f88.results.toList, [5]⟩ := rfl
theorem F88_90_ok {F : Nat} {m : Mem} {n : Nat} {r : Int} {t0 : (List Int) × (List Int)} {vt0_0 : SV} {vt0_1 : SV} (h : F88_90 F t0 = some r) (kt0_0 : Vw Y3 n m vt0_0 t0.1) (kt0_1 : Vw Y3 n m vt0_1 t0.2) : Ret E n 88 [.agg [vt0_0, vt0_1], .sc (.fn 90 [])] m n (fun v m' n' => v = .sc (.int .i64 r)) := by
  unfold F88_90 at h
  refine Ret.walk F88_90.fn ?_
  refine WC.start fun S0 em en hz => ?_
  have hot0_0 := kt0_0.rdS em hz
  have hot0_1 := kt0_1.rdS em hz
  refine WC.seq ?_
  refine WC.region ?_
  refine WO.bxW (S := S0) (cs := [vt0_0, vt0_1]) 2 rfl rfl rfl (fun b1 S2 c3 ho4 => ?_)
  have hot0_0 := hot0_0.to c3
  have hot0_1 := hot0_1.to c3
  refine WO.asg rfl ?_
  refine WO.nil ?_
  refine thenL_n ?_
  refine WC.seq ?_
  refine WC.region ?_
  refine WO.asg rfl ?_
  refine WO.nil ?_
  refine thenL_n ?_
  refine WC.seq ?_
  refine WC.seq ?_
  refine WC.region ?_
  refine WO.fldS (j := 0) (q := 0) rfl ho4.at0 ho4.ptr rfl rfl rfl (by decide) ?_
  refine WO.ldW rfl rfl ho4 rfl rfl ho4.lt rfl ?_
  refine WO.lenS rfl hot0_0.slv rfl ?_
  refine WO.mv rfl ?_
  refine WO.nil ?_
  refine thenL_n ?_
  refine WC.block ?_
  obtain ⟨b19, e20, h⟩ := bindS h
  refine WC.loopD e20 (fun s5 l' m' n' => ∃ S6 : Cx n, S6.m = m' ∧ S6.n = n' ∧ Cov l' [(1, .sc (.fn 90 [])), (2, .sc ((.ptr b1 0))), (5, .sc (.int .i64 s5.1)), (9, .sc vt0_0), (10, .sc (.int .i64 ((t0.1.length : Int)))), (11, .sc (.int .i64 s5.2))] ∧ Bw S6 2 (.ptr b1 0) [vt0_0, vt0_1] ∧ Rd Y3 S6 vt0_0 t0.1 ∧ Rd Y3 S6 vt0_1 t0.2) (fun b e l' m' n' => e = .exit 0 ∧ ∃ S7 : Cx n, S7.m = m' ∧ S7.n = n' ∧ Cov l' [(5, .sc (.int .i64 b))]) (by exact ⟨S2, rfl, rfl, (Cov.cons rfl (Cov.cons rfl (Cov.cons rfl (Cov.cons rfl (Cov.cons rfl (Cov.cons rfl (Cov.nil _))))))), ho4, hot0_0, hot0_1⟩) ?_ ?_
  · clear h
    rintro s5 q _ _ _ ⟨S8, rfl, rfl, hc9, ho4, hot0_0, hot0_1⟩ h
    unfold F88_90_l0 at h
    refine WC.cov hc9 ?_
    refine WC.seq ?_
    refine WC.region ?_
    refine WO.bin rfl rfl (by decide) (by decide) rfl ?_
    refine WO.nil ?_
    refine thenL_n ?_
    refine WC.seq ?_
    refine WC.cond rfl (fun q10 => ?_) (fun q10 => ?_)
    · have h := iteT q10 h
      refine WC.skip ?_
      refine thenL_n ?_
      refine WC.seq ?_
      refine WC.block ?_
      refine WC.seq ?_
      refine WC.region ?_
      refine WO.mv rfl ?_
      obtain ⟨x11, e12, h⟩ := bindS h
      refine WO.ixS rfl rfl hot0_0.slv (at?_lt e12) rfl ?_
      refine WO.ldF rfl hot0_0.ro (fun _ hi => hi) (at?_get e12) rfl rfl rfl ?_
      refine WO.asg rfl ?_
      refine WO.asg rfl ?_
      refine WO.nil ?_
      refine thenL_n ?_
      refine WC.drawN rfl rfl ?_
      have ho4z := ho4.lt
      have hot0_0z := hot0_0.oz
      have hot0_1z := hot0_1.oz
      refine WO.mv rfl ?_
      refine WO.fldS (j := 0) (q := 0) rfl ho4.at0 ho4.ptr rfl rfl rfl (by decide) ?_
      refine WO.ldW rfl rfl ho4 rfl rfl ho4z (limLe_self _) ?_
      refine WO.mv rfl ?_
      obtain ⟨x13, e14, h⟩ := bindS h
      refine WO.ixS rfl rfl hot0_1.slv (at?_lt e14) rfl ?_
      refine WO.ldF rfl hot0_1z (fun _ hi => hi.1) (at?_get e14) rfl rfl (limLe_self _) ?_
      refine WO.mv rfl ?_
      refine WO.mv rfl ?_
      obtain ⟨r15, e16, h⟩ := bindS h
      refine WO.callE (S := S8) rfl rfl (F90_ok e16) (fun S17 c18 => ?_)
      have hot0_0z := hot0_0z.toz c18
      have hot0_1z := hot0_1z.toz c18
      have ho4 := ho4.to c18
      have hot0_0 := hot0_0.to c18
      have hot0_1 := hot0_1.to c18
      refine WO.bin rfl rfl (by decide) (by decide) rfl ?_
      refine WO.bin rfl rfl (by decide) (by decide) rfl ?_
      refine WO.asg rfl ?_
      refine WO.nil ?_
      refine blockL_n ?_
      refine thenL_n ?_
      refine WC.region ?_
      refine WO.bin rfl rfl (by decide) (by decide) rfl ?_
      refine WO.mv rfl ?_
      refine WO.nil ?_
      refine thenL_n ?_
      obtain rfl := someI h
      exact ⟨_, rfl, ⟨S17, rfl, rfl, (Cov.cons rfl (Cov.cons rfl (Cov.cons rfl (Cov.cons rfl (Cov.cons rfl (Cov.cons rfl (Cov.nil _))))))), ho4, hot0_0, hot0_1⟩⟩
    · have h := iteF q10 h
      refine WC.exit ?_
      refine thenL_e ?_
      refine thenL_e ?_
      obtain rfl := someI h
      exact ⟨_, rfl, rfl, ⟨S8, rfl, rfl, (Cov.cons rfl (Cov.nil _))⟩⟩
  rintro _ _ _ _ ⟨rfl, ⟨S21, rfl, rfl, hc22⟩⟩
  refine blockL_s ?_
  refine thenL_n ?_
  refine WC.cov hc22 ?_
  refine WC.seq ?_
  refine WC.region ?_
  refine WO.mv rfl ?_
  refine WO.asg rfl ?_
  refine WO.nil ?_
  refine thenL_n ?_
  refine WC.ret ?_
  obtain rfl := someI h
  exact ⟨.inr rfl, _, _, rfl, rfl, rfl⟩
end Go.Proofs.Ytihmliblbhjlaaa

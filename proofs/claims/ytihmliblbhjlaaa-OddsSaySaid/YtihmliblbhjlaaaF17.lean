/- The machine answers F17: printed by a program of ours (gen.py). -/
import Derived.Test.YtihmliblbhjlaaaDef
import Derived.Test.YtihmliblbhjlaaaEnv
set_option linter.unusedVariables false
namespace Go.Proofs.Ytihmliblbhjlaaa
open Go.Am
theorem F17.fn : E.fn 17 = some ⟨53, (Try.f17.body.getD .skip), Try.f17.results.toList, []⟩ := rfl
theorem F17_ok {F : Nat} {m : Mem} {n : Nat} {r : Int} {t0 : (List Int) × (List Int)} {vt0_0 : SV} {vt0_1 : SV} (h : F17 F t0 = some r) (kt0_0 : Vw Y3 n m vt0_0 t0.1) (kt0_1 : Vw Y3 n m vt0_1 t0.2) : Ret E n 17 [.agg [vt0_0, vt0_1]] m n (fun v m' n' => v = .sc (.int .i64 r)) := by
  unfold F17 at h
  refine Ret.walk F17.fn ?_
  refine WC.start fun S0 em en hz => ?_
  have hot0_0 := kt0_0.rdS em hz
  have hot0_1 := kt0_1.rdS em hz
  refine WC.seq ?_
  refine WC.region ?_
  refine WO.bxW (S := S0) (cs := [vt0_0, vt0_1]) 2 rfl rfl rfl (fun b1 S2 c3 ho4 => ?_)
  have hot0_0 := hot0_0.to c3
  have hot0_1 := hot0_1.to c3
  refine WO.asg rfl ?_
  refine WO.nil ?_
  refine thenL_n ?_
  refine WC.seq ?_
  refine WC.seq ?_
  refine WC.region ?_
  refine WO.fldS (j := 0) (q := 0) rfl ho4.at0 ho4.ptr rfl rfl rfl (by decide) ?_
  refine WO.ldW rfl rfl ho4 rfl rfl ho4.lt rfl ?_
  refine WO.lenS rfl hot0_0.slv rfl ?_
  refine WO.bin rfl rfl (by decide) (by decide) rfl ?_
  refine WO.mv rfl ?_
  refine WO.cutB (d := 14) 5 ((decide ((t0.1.length : Int) < 1)) || (decide ((t0.1.length : Int) > 12))) (fun q5 => ?_) (fun q5 => ?_) ?_
  · refine WO.gno rfl rfl ?_
    refine WO.gno rfl rfl ?_
    refine WO.gno rfl rfl ?_
    refine WO.gno rfl rfl ?_
    refine WO.pickT rfl rfl ?_
    refine WO.nil ?_
    exact ⟨rfl, rfl, (Cov.any rfl (orT q5) (Cov.skip rfl (Cov.skip rfl (Cov.skip rfl (Cov.skip rfl (Cov.skip rfl (Cov.skip rfl (Cov.refl _))))))))⟩
  · skip
    refine WO.gyes rfl rfl ?_
    refine WO.fldS (j := 0) (q := 0) rfl ho4.at0 ho4.ptr rfl rfl rfl (by decide) ?_
    refine WO.gyes rfl rfl ?_
    refine WO.ldW rfl rfl ho4 rfl rfl ho4.lt rfl ?_
    refine WO.gyes rfl rfl ?_
    refine WO.lenS rfl hot0_0.slv rfl ?_
    refine WO.gyes rfl rfl ?_
    refine WO.bin rfl rfl (by decide) (by decide) rfl ?_
    refine WO.pickF rfl rfl ?_
    refine WO.nil ?_
    exact ⟨rfl, rfl, (Cov.any rfl (orF q5) (Cov.skip rfl (Cov.skip rfl (Cov.skip rfl (Cov.skip rfl (Cov.skip rfl (Cov.skip rfl (Cov.refl _))))))))⟩
  refine WO.nil ?_
  refine thenL_n ?_
  refine WC.cond rfl (fun q6 => ?_) (fun q6 => ?_)
  · have h := iteT q6 h
    refine WC.seq ?_
    refine WC.region ?_
    refine WO.asg rfl ?_
    refine WO.nil ?_
    refine thenL_n ?_
    refine WC.ret ?_
    refine thenL_r ?_
    obtain rfl := someI h
    exact ⟨.inr rfl, _, _, rfl, rfl, rfl⟩
  · have h := iteF q6 h
    refine WC.skip ?_
    refine thenL_n ?_
    refine WC.seq ?_
    refine WC.seq ?_
    refine WC.region ?_
    refine WO.fldS (j := 0) (q := 0) rfl ho4.at0 ho4.ptr rfl rfl rfl (by decide) ?_
    refine WO.ldW rfl rfl ho4 rfl rfl ho4.lt rfl ?_
    refine WO.lenS rfl hot0_1.slv rfl ?_
    refine WO.fldS (j := 0) (q := 0) rfl ho4.at0 ho4.ptr rfl rfl rfl (by decide) ?_
    refine WO.ldW rfl rfl ho4 rfl rfl ho4.lt rfl ?_
    refine WO.lenS rfl hot0_0.slv rfl ?_
    refine WO.bin rfl rfl (by decide) (by decide) rfl ?_
    refine WO.nil ?_
    refine thenL_n ?_
    refine WC.cond rfl (fun q7 => ?_) (fun q7 => ?_)
    · have h := iteT q7 h
      refine WC.seq ?_
      refine WC.region ?_
      refine WO.asg rfl ?_
      refine WO.nil ?_
      refine thenL_n ?_
      refine WC.ret ?_
      refine thenL_r ?_
      obtain rfl := someI h
      exact ⟨.inr rfl, _, _, rfl, rfl, rfl⟩
    · have h := iteF q7 h
      refine WC.skip ?_
      refine thenL_n ?_
      refine WC.seq ?_
      refine WC.seq ?_
      refine WC.region ?_
      refine WO.fldS (j := 0) (q := 0) rfl ho4.at0 ho4.ptr rfl rfl rfl (by decide) ?_
      refine WO.ldW rfl rfl ho4 rfl rfl ho4.lt rfl ?_
      refine WO.lenS rfl hot0_0.slv rfl ?_
      refine WO.mv rfl ?_
      refine WO.nil ?_
      refine thenL_n ?_
      refine WC.block ?_
      obtain ⟨b30, e31, h⟩ := bindS h
      refine WC.loopD e31 (fun s8 l' m' n' => ∃ S9 : Cx n, S9.m = m' ∧ S9.n = n' ∧ Cov l' [(1, .sc ((.ptr b1 0))), (23, .sc vt0_0), (24, .sc (.int .i64 ((t0.1.length : Int)))), (25, .sc (.int .i64 s8))] ∧ Bw S9 2 (.ptr b1 0) [vt0_0, vt0_1] ∧ Rd Y3 S9 vt0_0 t0.1 ∧ Rd Y3 S9 vt0_1 t0.2) (fun b e l' m' n' => (match b with | .inl b10 => e = .exit 0 ∧ ∃ S11 : Cx n, S11.m = m' ∧ S11.n = n' ∧ Cov l' [] | .inr b10 => e = .ret ∧ ∃ S12 : Cx n, S12.m = m' ∧ S12.n = n' ∧ Cov l' [(2, .sc (.int .i64 b10))])) (by exact ⟨S2, rfl, rfl, (Cov.cons rfl (Cov.cons rfl (Cov.cons rfl (Cov.cons rfl (Cov.nil _))))), ho4, hot0_0, hot0_1⟩) ?_ ?_
      · clear h
        rintro s8 q _ _ _ ⟨S13, rfl, rfl, hc14, ho4, hot0_0, hot0_1⟩ h
        unfold F17_l0 at h
        refine WC.cov hc14 ?_
        refine WC.seq ?_
        refine WC.region ?_
        refine WO.bin rfl rfl (by decide) (by decide) rfl ?_
        refine WO.nil ?_
        refine thenL_n ?_
        refine WC.seq ?_
        refine WC.cond rfl (fun q15 => ?_) (fun q15 => ?_)
        · have h := iteT q15 h
          refine WC.skip ?_
          refine thenL_n ?_
          refine WC.seq ?_
          refine WC.block ?_
          refine WC.seq ?_
          refine WC.region ?_
          refine WO.mv rfl ?_
          obtain ⟨x16, e17, h⟩ := bindS h
          refine WO.ixS rfl rfl hot0_0.slv (at?_lt e17) rfl ?_
          refine WO.ldF rfl hot0_0.ro (fun _ hi => hi) (at?_get e17) rfl rfl rfl ?_
          refine WO.asg rfl ?_
          refine WO.asg rfl ?_
          refine WO.nil ?_
          refine thenL_n ?_
          refine WC.seq ?_
          refine WC.region ?_
          refine WO.mv rfl ?_
          refine WO.bin rfl rfl (by decide) (by decide) rfl ?_
          refine WO.mv rfl ?_
          refine WO.cutB (d := 35) 3 ((decide (x16 < (-20))) || (decide (x16 > 20))) (fun q18 => ?_) (fun q18 => ?_) ?_
          · refine WO.gno rfl rfl ?_
            refine WO.gno rfl rfl ?_
            refine WO.pickT rfl rfl ?_
            refine WO.nil ?_
            exact ⟨rfl, rfl, (Cov.any rfl (orT q18) (Cov.skip rfl (Cov.skip rfl (Cov.skip rfl (Cov.skip rfl (Cov.refl _))))))⟩
          · skip
            refine WO.gyes rfl rfl ?_
            refine WO.mv rfl ?_
            refine WO.gyes rfl rfl ?_
            refine WO.bin rfl rfl (by decide) (by decide) rfl ?_
            refine WO.pickF rfl rfl ?_
            refine WO.nil ?_
            exact ⟨rfl, rfl, (Cov.any rfl (orF q18) (Cov.skip rfl (Cov.skip rfl (Cov.skip rfl (Cov.skip rfl (Cov.refl _))))))⟩
          refine WO.mv rfl ?_
          obtain ⟨y22, e23, h⟩ := bindS h
          refine WO.cutB (d := 43) 7 y22 (fun q21 => ?_) (fun q21 => ?_) ?_
          · have h := e23
            have h := iteT q21 h
            obtain rfl := someI h
            refine WO.gno rfl rfl ?_
            refine WO.gno rfl rfl ?_
            refine WO.gno rfl rfl ?_
            refine WO.gno rfl rfl ?_
            refine WO.gno rfl rfl ?_
            refine WO.gno rfl rfl ?_
            refine WO.pickT rfl rfl ?_
            refine WO.nil ?_
            exact ⟨rfl, rfl, (Cov.cons rfl (Cov.skip rfl (Cov.skip rfl (Cov.skip rfl (Cov.skip rfl (Cov.skip rfl (Cov.skip rfl (Cov.skip rfl (Cov.skip rfl (Cov.refl _))))))))))⟩
          · have h := e23
            have h := iteF q21 h
            refine WO.gyes rfl rfl ?_
            refine WO.fldS (j := 0) (q := 0) rfl ho4.at0 ho4.ptr rfl rfl rfl (by decide) ?_
            refine WO.gyes rfl rfl ?_
            refine WO.ldW rfl rfl ho4 rfl rfl ho4.lt rfl ?_
            refine WO.gyes rfl rfl ?_
            refine WO.mv rfl ?_
            refine WO.gyes rfl rfl ?_
            obtain ⟨x19, e20, h⟩ := bindS h
            refine WO.ixS rfl rfl hot0_1.slv (at?_lt e20) rfl ?_
            refine WO.gyes rfl rfl ?_
            refine WO.ldF rfl hot0_1.ro (fun _ hi => hi) (at?_get e20) rfl rfl rfl ?_
            refine WO.gyes rfl rfl ?_
            refine WO.bin rfl rfl (by decide) (by decide) rfl ?_
            obtain rfl := someI h
            refine WO.pickF rfl rfl ?_
            refine WO.nil ?_
            exact ⟨rfl, rfl, (Cov.cons rfl (Cov.skip rfl (Cov.skip rfl (Cov.skip rfl (Cov.skip rfl (Cov.skip rfl (Cov.skip rfl (Cov.skip rfl (Cov.skip rfl (Cov.refl _))))))))))⟩
          refine WO.mv rfl ?_
          obtain ⟨y27, e28, h⟩ := bindS h
          refine WO.cutB (d := 51) 7 y27 (fun q26 => ?_) (fun q26 => ?_) ?_
          · have h := e28
            have h := iteT q26 h
            obtain rfl := someI h
            refine WO.gno rfl rfl ?_
            refine WO.gno rfl rfl ?_
            refine WO.gno rfl rfl ?_
            refine WO.gno rfl rfl ?_
            refine WO.gno rfl rfl ?_
            refine WO.gno rfl rfl ?_
            refine WO.pickT rfl rfl ?_
            refine WO.nil ?_
            exact ⟨rfl, rfl, (Cov.cons rfl (Cov.skip rfl (Cov.skip rfl (Cov.skip rfl (Cov.skip rfl (Cov.skip rfl (Cov.skip rfl (Cov.skip rfl (Cov.skip rfl (Cov.refl _))))))))))⟩
          · have h := e28
            have h := iteF q26 h
            refine WO.gyes rfl rfl ?_
            refine WO.fldS (j := 0) (q := 0) rfl ho4.at0 ho4.ptr rfl rfl rfl (by decide) ?_
            refine WO.gyes rfl rfl ?_
            refine WO.ldW rfl rfl ho4 rfl rfl ho4.lt rfl ?_
            refine WO.gyes rfl rfl ?_
            refine WO.mv rfl ?_
            refine WO.gyes rfl rfl ?_
            obtain ⟨x24, e25, h⟩ := bindS h
            refine WO.ixS rfl rfl hot0_1.slv (at?_lt e25) rfl ?_
            refine WO.gyes rfl rfl ?_
            refine WO.ldF rfl hot0_1.ro (fun _ hi => hi) (at?_get e25) rfl rfl rfl ?_
            refine WO.gyes rfl rfl ?_
            refine WO.bin rfl rfl (by decide) (by decide) rfl ?_
            obtain rfl := someI h
            refine WO.pickF rfl rfl ?_
            refine WO.nil ?_
            exact ⟨rfl, rfl, (Cov.cons rfl (Cov.skip rfl (Cov.skip rfl (Cov.skip rfl (Cov.skip rfl (Cov.skip rfl (Cov.skip rfl (Cov.skip rfl (Cov.skip rfl (Cov.refl _))))))))))⟩
          refine WO.nil ?_
          refine thenL_n ?_
          refine WC.cond rfl (fun q29 => ?_) (fun q29 => ?_)
          · have h := iteT q29 h
            refine WC.seq ?_
            refine WC.region ?_
            refine WO.asg rfl ?_
            refine WO.nil ?_
            refine thenL_n ?_
            refine WC.ret ?_
            refine blockL_r ?_
            refine thenL_r ?_
            refine thenL_r ?_
            obtain rfl := someI h
            exact ⟨_, rfl, rfl, ⟨S13, rfl, rfl, (Cov.cons rfl (Cov.nil _))⟩⟩
          · have h := iteF q29 h
            refine WC.skip ?_
            refine blockL_n ?_
            refine thenL_n ?_
            refine WC.region ?_
            refine WO.bin rfl rfl (by decide) (by decide) rfl ?_
            refine WO.mv rfl ?_
            refine WO.nil ?_
            refine thenL_n ?_
            obtain rfl := someI h
            exact ⟨_, rfl, ⟨S13, rfl, rfl, (Cov.cons rfl (Cov.cons rfl (Cov.cons rfl (Cov.cons rfl (Cov.nil _))))), ho4, hot0_0, hot0_1⟩⟩
        · have h := iteF q15 h
          refine WC.exit ?_
          refine thenL_e ?_
          refine thenL_e ?_
          obtain rfl := someI h
          exact ⟨_, rfl, rfl, ⟨S13, rfl, rfl, (Cov.nil _)⟩⟩
      cases b30 with
      | inl b32 =>
        simp only at h
        rintro _ _ _ _ ⟨rfl, ⟨S33, rfl, rfl, hc34⟩⟩
        refine blockL_s ?_
        refine thenL_n ?_
        refine WC.cov hc34 ?_
        refine WC.seq ?_
        refine WC.region ?_
        refine WO.asg rfl ?_
        refine WO.nil ?_
        refine thenL_n ?_
        refine WC.ret ?_
        obtain rfl := someI h
        exact ⟨.inr rfl, _, _, rfl, rfl, rfl⟩
      | inr b32 =>
        simp only at h
        rintro _ _ _ _ ⟨rfl, ⟨S35, rfl, rfl, hc36⟩⟩
        refine blockL_r ?_
        refine thenL_r ?_
        obtain rfl := someI h
        exact ⟨.inr rfl, _, _, (resK_cov hc36 rfl), rfl, rfl⟩
end Go.Proofs.Ytihmliblbhjlaaa

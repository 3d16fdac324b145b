/- The machine answers F97: printed by a program of ours (gen.py). -/
import Derived.Test.YtihmliblbhjlaaaDef
import Derived.Test.YtihmliblbhjlaaaEnv
set_option linter.unusedVariables false
namespace Go.Proofs.Ytihmliblbhjlaaa
open Go.Am
theorem F97.fn : E.fn 97 = some ⟨40, (Try.f97.body.getD .skip), Try.f97.results.toList, []⟩ := rfl
theorem F97_ok {F : Nat} {m : Mem} {n : Nat} {r : Int} {t0 : List ((Int × Int × Bool × Bool) × Int)} {vt0 : SV} (h : F97 F t0 = some r) (kt0 : Vw Y117 n m vt0 t0) : Ret E n 97 [.sc vt0] m n (fun v m' n' => v = .sc (.int .i64 r)) := by
  unfold F97 at h
  refine Ret.walk F97.fn ?_
  refine WC.start fun S0 em en hz => ?_
  have hot0 := kt0.rdS em hz
  refine WC.seq ?_
  refine WC.region ?_
  refine WO.asg rfl ?_
  refine WO.nil ?_
  refine thenL_n ?_
  refine WC.seq ?_
  refine WC.region ?_
  refine WO.asg rfl ?_
  refine WO.asg rfl ?_
  refine WO.nil ?_
  refine thenL_n ?_
  refine WC.seq ?_
  refine WC.seq ?_
  refine WC.region ?_
  refine WO.mv rfl ?_
  refine WO.lenS rfl hot0.slv rfl ?_
  refine WO.mv rfl ?_
  refine WO.nil ?_
  refine thenL_n ?_
  refine WC.block ?_
  obtain ⟨b24, e25, h⟩ := bindS h
  refine WC.loopD e25 (fun s1 l' m' n' => ∃ S2 : Cx n, S2.m = m' ∧ S2.n = n' ∧ Cov l' [(3, .sc (.int .i64 s1.1)), (4, .sc (.int .i64 s1.2.1)), (8, .sc vt0), (9, .sc (.int .i64 ((t0.length : Int)))), (10, .sc (.int .i64 s1.2.2))] ∧ Rd Y117 S2 vt0 t0) (fun b e l' m' n' => e = .exit 0 ∧ ∃ S3 : Cx n, S3.m = m' ∧ S3.n = n' ∧ Cov l' [(3, .sc (.int .i64 b))]) (by exact ⟨S0, rfl, rfl, (Cov.cons rfl (Cov.cons rfl (Cov.cons rfl (Cov.cons rfl (Cov.cons rfl (Cov.nil _)))))), hot0⟩) ?_ ?_
  · clear h
    rintro s1 q _ _ _ ⟨S4, rfl, rfl, hc5, hot0⟩ h
    unfold F97_l0 at h
    refine WC.cov hc5 ?_
    refine WC.seq ?_
    refine WC.region ?_
    refine WO.bin rfl rfl (by decide) (by decide) rfl ?_
    refine WO.nil ?_
    refine thenL_n ?_
    refine WC.seq ?_
    refine WC.cond rfl (fun q6 => ?_) (fun q6 => ?_)
    · have h := iteT q6 h
      refine WC.skip ?_
      refine thenL_n ?_
      refine WC.seq ?_
      refine WC.block ?_
      refine WC.seq ?_
      refine WC.region ?_
      refine WO.mv rfl ?_
      obtain ⟨x7, e8, h⟩ := bindS h
      refine WO.ixS rfl rfl hot0.slv (at?_lt e8) rfl ?_
      refine WO.ldA rfl hot0.ro (fun _ hi => hi) (at?_get e8) rfl rfl ?_
      refine WO.alS (A := Y117) (S := S4) (z0 := ((0, 0, false, false), 0)) 2 rfl rfl rfl (fun v9 S10 c11 ho12 => ?_)
      have hot0 := hot0.to c11
      refine WO.asg rfl ?_
      refine WO.stBA (u' := ((x7.1.1, x7.1.2.1, x7.1.2.2.1, x7.1.2.2.2), x7.2)) rfl ho12.at0 rfl ho12 rfl rfl (fun S13 c14 ho12 => ?_)
      have hot0 := hot0.to c14
      refine WO.nil ?_
      refine thenL_n ?_
      refine WC.seq ?_
      refine WC.seq ?_
      refine WC.region ?_
      refine WO.fldS (j := 0) (q := 0) rfl ho12.at0 ho12.ptr rfl rfl rfl (by decide) ?_
      refine WO.fldS (j := 0) (q := 0) rfl rfl ho12.ptr rfl rfl rfl (by decide) ?_
      refine WO.ldB (j := 0) (q := 2) rfl rfl ho12 rfl rfl rfl ?_
      refine WO.do rfl rfl ?_
      refine WO.nil ?_
      refine thenL_n ?_
      refine WC.cond rfl (fun q15 => ?_) (fun q15 => ?_)
      · have h := iteT q15 h
        refine WC.exit ?_
        refine thenL_e ?_
        refine blockL_s ?_
        refine thenL_n ?_
        refine WC.region ?_
        refine WO.bin rfl rfl (by decide) (by decide) rfl ?_
        refine WO.mv rfl ?_
        refine WO.nil ?_
        refine thenL_n ?_
        obtain rfl := someI h
        exact ⟨_, rfl, ⟨S13, rfl, rfl, (Cov.cons rfl (Cov.cons rfl (Cov.cons rfl (Cov.cons rfl (Cov.cons rfl (Cov.nil _)))))), hot0⟩⟩
      · have h := iteF q15 h
        refine WC.skip ?_
        refine thenL_n ?_
        refine WC.seq ?_
        refine WC.region ?_
        refine WO.fldS (j := 0) (q := 0) rfl ho12.at0 ho12.ptr rfl rfl rfl (by decide) ?_
        refine WO.ldB (j := 0) (q := 4) rfl rfl ho12 rfl rfl rfl ?_
        refine WO.asg rfl ?_
        refine WO.nil ?_
        refine thenL_n ?_
        refine WC.seq ?_
        refine WC.seq ?_
        refine WC.region ?_
        refine WO.fldS (j := 0) (q := 0) rfl ho12.at0 ho12.ptr rfl rfl rfl (by decide) ?_
        refine WO.fldS (j := 0) (q := 0) rfl rfl ho12.ptr rfl rfl rfl (by decide) ?_
        refine WO.ldB (j := 0) (q := 3) rfl rfl ho12 rfl rfl rfl ?_
        refine WO.nil ?_
        refine thenL_n ?_
        obtain ⟨b17, e18, h⟩ := bindS h
        refine WC.mono (Q' := (fun b e l' m' n' => e = .normal ∧ ∃ S19 : Cx n, S19.m = m' ∧ S19.n = n' ∧ Cov l' [(3, .sc (.int .i64 s1.1)), (4, .sc (.int .i64 s1.2.1)), (5, .sc (.int .i64 s1.2.2)), (7, .sc (.int .i64 b)), (8, .sc vt0), (9, .sc (.int .i64 ((t0.length : Int)))), (10, .sc (.int .i64 s1.2.2))] ∧ Rd Y117 S19 vt0 t0) b17) ?_ ?_
        · have h := e18
          dsimp only at h ⊢
          refine WC.cond rfl (fun q16 => ?_) (fun q16 => ?_)
          · have h := iteT q16 h
            refine WC.region ?_
            refine WO.mv rfl ?_
            refine WO.fldS (j := 0) (q := 0) rfl ho12.at0 ho12.ptr rfl rfl rfl (by decide) ?_
            refine WO.fldS (j := 0) (q := 0) rfl rfl ho12.ptr rfl rfl rfl (by decide) ?_
            refine WO.ldB (j := 0) (q := 1) rfl rfl ho12 rfl rfl rfl ?_
            refine WO.bin rfl rfl (by decide) (by decide) rfl ?_
            refine WO.asg rfl ?_
            refine WO.nil ?_
            obtain rfl := someI h
            exact ⟨rfl, ⟨S13, rfl, rfl, (Cov.cons rfl (Cov.cons rfl (Cov.cons rfl (Cov.cons rfl (Cov.cons rfl (Cov.cons rfl (Cov.cons rfl (Cov.nil _)))))))), hot0⟩⟩
          · have h := iteF q16 h
            refine WC.skip ?_
            obtain rfl := someI h
            exact ⟨rfl, ⟨S13, rfl, rfl, (Cov.cons rfl (Cov.cons rfl (Cov.cons rfl (Cov.cons rfl (Cov.cons rfl (Cov.cons rfl (Cov.cons rfl (Cov.nil _)))))))), hot0⟩⟩
        dsimp only
        rintro _ _ _ _ ⟨rfl, ⟨S20, rfl, rfl, hc21, hot0⟩⟩
        refine thenL_n ?_
        refine WC.cov hc21 ?_
        refine WC.seq ?_
        refine WC.region ?_
        refine WO.mv rfl ?_
        refine WO.bin rfl rfl (by decide) (by decide) rfl ?_
        refine WO.mv rfl ?_
        refine WO.cutB (d := 35) 4 ((decide (s1.1 < 0)) || (decide (b17 < s1.2.1))) (fun q22 => ?_) (fun q22 => ?_) ?_
        · refine WO.gno rfl rfl ?_
          refine WO.gno rfl rfl ?_
          refine WO.gno rfl rfl ?_
          refine WO.pickT rfl rfl ?_
          refine WO.nil ?_
          exact ⟨rfl, rfl, (Cov.any rfl (orT q22) (Cov.skip rfl (Cov.skip rfl (Cov.skip rfl (Cov.skip rfl (Cov.skip rfl (Cov.refl _)))))))⟩
        · skip
          refine WO.gyes rfl rfl ?_
          refine WO.mv rfl ?_
          refine WO.gyes rfl rfl ?_
          refine WO.mv rfl ?_
          refine WO.gyes rfl rfl ?_
          refine WO.bin rfl rfl (by decide) (by decide) rfl ?_
          refine WO.pickF rfl rfl ?_
          refine WO.nil ?_
          exact ⟨rfl, rfl, (Cov.any rfl (orF q22) (Cov.skip rfl (Cov.skip rfl (Cov.skip rfl (Cov.skip rfl (Cov.skip rfl (Cov.refl _)))))))⟩
        refine WO.nil ?_
        refine thenL_n ?_
        refine WC.cond rfl (fun q23 => ?_) (fun q23 => ?_)
        · have h := iteT q23 h
          refine WC.region ?_
          refine WO.mv rfl ?_
          refine WO.mv rfl ?_
          refine WO.asg rfl ?_
          refine WO.asg rfl ?_
          refine WO.nil ?_
          refine blockL_n ?_
          refine thenL_n ?_
          refine WC.region ?_
          refine WO.bin rfl rfl (by decide) (by decide) rfl ?_
          refine WO.mv rfl ?_
          refine WO.nil ?_
          refine thenL_n ?_
          obtain rfl := someI h
          exact ⟨_, rfl, ⟨S20, rfl, rfl, (Cov.cons rfl (Cov.cons rfl (Cov.cons rfl (Cov.cons rfl (Cov.cons rfl (Cov.nil _)))))), hot0⟩⟩
        · have h := iteF q23 h
          refine WC.skip ?_
          refine blockL_n ?_
          refine thenL_n ?_
          refine WC.region ?_
          refine WO.bin rfl rfl (by decide) (by decide) rfl ?_
          refine WO.mv rfl ?_
          refine WO.nil ?_
          refine thenL_n ?_
          obtain rfl := someI h
          exact ⟨_, rfl, ⟨S20, rfl, rfl, (Cov.cons rfl (Cov.cons rfl (Cov.cons rfl (Cov.cons rfl (Cov.cons rfl (Cov.nil _)))))), hot0⟩⟩
    · have h := iteF q6 h
      refine WC.exit ?_
      refine thenL_e ?_
      refine thenL_e ?_
      obtain rfl := someI h
      exact ⟨_, rfl, rfl, ⟨S4, rfl, rfl, (Cov.cons rfl (Cov.nil _))⟩⟩
  rintro _ _ _ _ ⟨rfl, ⟨S26, rfl, rfl, hc27⟩⟩
  refine blockL_s ?_
  refine thenL_n ?_
  refine WC.cov hc27 ?_
  refine WC.seq ?_
  refine WC.region ?_
  refine WO.mv rfl ?_
  refine WO.asg rfl ?_
  refine WO.nil ?_
  refine thenL_n ?_
  refine WC.ret ?_
  obtain rfl := someI h
  exact ⟨.inr rfl, _, _, rfl, rfl, rfl⟩
end Go.Proofs.Ytihmliblbhjlaaa

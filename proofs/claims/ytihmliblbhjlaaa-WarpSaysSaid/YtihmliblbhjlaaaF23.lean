/- The machine answers F23: printed by a program of ours (gen.py). -/
import Derived.Test.YtihmliblbhjlaaaDef
import Derived.Test.YtihmliblbhjlaaaEnv
set_option linter.unusedVariables false
namespace Go.Proofs.Ytihmliblbhjlaaa
open Go.Am
theorem F23.fn : E.fn 23 = some ⟨86, (Try.f23.body.getD .skip), Try.f23.results.toList, []⟩ := rfl
theorem F23_ok {F : Nat} {m : Mem} {n : Nat} {r : Int} {t0 : List (Int × Int × Bool × Bool)} {t1 : List (Int × Int × Int)} {vt0 : SV} {vt1 : SV} (h : F23 F t0 t1 = some r) (kt0 : Vw Y115 n m vt0 t0) (kt1 : Vw Y119 n m vt1 t1) : Ret E n 23 [.sc vt0, .sc vt1] m n (fun v m' n' => v = .sc (.int .i64 r)) := by
  unfold F23 at h
  refine Ret.walk F23.fn ?_
  refine WC.start fun S0 em en hz => ?_
  have hot0 := kt0.rdS em hz
  have hot1 := kt1.rdS em hz
  refine WC.seq ?_
  refine WC.region ?_
  refine WO.asg rfl ?_
  refine WO.nil ?_
  refine thenL_n ?_
  refine WC.seq ?_
  refine WC.seq ?_
  refine WC.region ?_
  refine WO.mv rfl ?_
  refine WO.lenS rfl hot0.slv rfl ?_
  refine WO.bin rfl rfl (by decide) (by decide) rfl ?_
  refine WO.mv rfl ?_
  refine WO.cutB (d := 17) 4 ((decide ((t0.length : Int) > 8)) || (decide ((t1.length : Int) > 30))) (fun q1 => ?_) (fun q1 => ?_) ?_
  · refine WO.gno rfl rfl ?_
    refine WO.gno rfl rfl ?_
    refine WO.gno rfl rfl ?_
    refine WO.pickT rfl rfl ?_
    refine WO.nil ?_
    exact ⟨rfl, rfl, (Cov.any rfl (orT q1) (Cov.skip rfl (Cov.skip rfl (Cov.skip rfl (Cov.skip rfl (Cov.skip rfl (Cov.refl _)))))))⟩
  · skip
    refine WO.gyes rfl rfl ?_
    refine WO.mv rfl ?_
    refine WO.gyes rfl rfl ?_
    refine WO.lenS rfl hot1.slv rfl ?_
    refine WO.gyes rfl rfl ?_
    refine WO.bin rfl rfl (by decide) (by decide) rfl ?_
    refine WO.pickF rfl rfl ?_
    refine WO.nil ?_
    exact ⟨rfl, rfl, (Cov.any rfl (orF q1) (Cov.skip rfl (Cov.skip rfl (Cov.skip rfl (Cov.skip rfl (Cov.skip rfl (Cov.refl _)))))))⟩
  refine WO.nil ?_
  refine thenL_n ?_
  refine WC.cond rfl (fun q2 => ?_) (fun q2 => ?_)
  · have h := iteT q2 h
    refine WC.seq ?_
    refine WC.region ?_
    refine WO.asg rfl ?_
    refine WO.nil ?_
    refine thenL_n ?_
    refine WC.ret ?_
    refine thenL_r ?_
    obtain rfl := someI h
    exact ⟨.inr rfl, _, _, rfl, rfl, rfl⟩
  · have h := iteF q2 h
    refine WC.skip ?_
    refine thenL_n ?_
    refine WC.seq ?_
    refine WC.seq ?_
    refine WC.region ?_
    refine WO.mv rfl ?_
    refine WO.lenS rfl hot0.slv rfl ?_
    refine WO.mv rfl ?_
    refine WO.nil ?_
    refine thenL_n ?_
    refine WC.block ?_
    obtain ⟨b23, e24, h⟩ := bindS h
    refine WC.loopD e24 (fun s3 l' m' n' => ∃ S4 : Cx n, S4.m = m' ∧ S4.n = n' ∧ Cov l' [(0, .sc vt0), (1, .sc vt1), (18, .sc vt0), (19, .sc (.int .i64 ((t0.length : Int)))), (20, .sc (.int .i64 s3))] ∧ Rd Y115 S4 vt0 t0 ∧ Rd Y119 S4 vt1 t1) (fun b e l' m' n' => (match b with | .inl b5 => e = .exit 0 ∧ ∃ S6 : Cx n, S6.m = m' ∧ S6.n = n' ∧ Cov l' [(0, .sc vt0), (1, .sc vt1)] ∧ Rd Y115 S6 vt0 t0 ∧ Rd Y119 S6 vt1 t1 | .inr b5 => e = .ret ∧ ∃ S7 : Cx n, S7.m = m' ∧ S7.n = n' ∧ Cov l' [(4, .sc (.int .i64 b5))])) (by exact ⟨S0, rfl, rfl, (Cov.cons rfl (Cov.cons rfl (Cov.cons rfl (Cov.cons rfl (Cov.cons rfl (Cov.nil _)))))), hot0, hot1⟩) ?_ ?_
    · clear h
      rintro s3 q _ _ _ ⟨S8, rfl, rfl, hc9, hot0, hot1⟩ h
      unfold F23_l0 at h
      refine WC.cov hc9 ?_
      refine WC.seq ?_
      refine WC.region ?_
      refine WO.bin rfl rfl (by decide) (by decide) rfl ?_
      refine WO.nil ?_
      refine thenL_n ?_
      refine WC.seq ?_
      refine WC.cond rfl (fun q10 => ?_) (fun q10 => ?_)
      · have h := iteT q10 h
        refine WC.skip ?_
        refine thenL_n ?_
        refine WC.seq ?_
        refine WC.block ?_
        refine WC.seq ?_
        refine WC.region ?_
        obtain ⟨x11, e12, h⟩ := bindS h
        refine WO.ixS rfl rfl hot0.slv (at?_lt e12) rfl ?_
        refine WO.ldA rfl hot0.ro (fun _ hi => hi) (at?_get e12) rfl rfl ?_
        refine WO.alS (A := Y115) (S := S8) (z0 := (0, 0, false, false)) 2 rfl rfl rfl (fun v13 S14 c15 ho16 => ?_)
        have hot0 := hot0.to c15
        have hot1 := hot1.to c15
        refine WO.stBA (u' := (x11.1, x11.2.1, x11.2.2.1, x11.2.2.2)) rfl ho16.at0 rfl ho16 rfl rfl (fun S17 c18 ho16 => ?_)
        have hot0 := hot0.to c18
        have hot1 := hot1.to c18
        refine WO.nil ?_
        refine thenL_n ?_
        refine WC.seq ?_
        refine WC.region ?_
        refine WO.fldS (j := 0) (q := 0) rfl ho16.at0 ho16.ptr rfl rfl rfl (by decide) ?_
        refine WO.ldB (j := 0) (q := 0) rfl rfl ho16 rfl rfl rfl ?_
        refine WO.bin rfl rfl (by decide) (by decide) rfl ?_
        refine WO.mv rfl ?_
        refine WO.cutB (d := 31) 4 ((decide (((x11.1, x11.2.1, x11.2.2.1, x11.2.2.2)).1 < 1)) || (decide (((x11.1, x11.2.1, x11.2.2.1, x11.2.2.2)).1 > 10))) (fun q19 => ?_) (fun q19 => ?_) ?_
        · refine WO.gno rfl rfl ?_
          refine WO.gno rfl rfl ?_
          refine WO.gno rfl rfl ?_
          refine WO.pickT rfl rfl ?_
          refine WO.nil ?_
          exact ⟨rfl, rfl, (Cov.any rfl (orT q19) (Cov.skip rfl (Cov.skip rfl (Cov.skip rfl (Cov.skip rfl (Cov.skip rfl (Cov.refl _)))))))⟩
        · skip
          refine WO.gyes rfl rfl ?_
          refine WO.fldS (j := 0) (q := 0) rfl ho16.at0 ho16.ptr rfl rfl rfl (by decide) ?_
          refine WO.gyes rfl rfl ?_
          refine WO.ldB (j := 0) (q := 0) rfl rfl ho16 rfl rfl rfl ?_
          refine WO.gyes rfl rfl ?_
          refine WO.bin rfl rfl (by decide) (by decide) rfl ?_
          refine WO.pickF rfl rfl ?_
          refine WO.nil ?_
          exact ⟨rfl, rfl, (Cov.any rfl (orF q19) (Cov.skip rfl (Cov.skip rfl (Cov.skip rfl (Cov.skip rfl (Cov.skip rfl (Cov.refl _)))))))⟩
        refine WO.mv rfl ?_
        refine WO.cutB (d := 36) 4 (((decide (((x11.1, x11.2.1, x11.2.2.1, x11.2.2.2)).1 < 1)) || (decide (((x11.1, x11.2.1, x11.2.2.1, x11.2.2.2)).1 > 10))) || (decide (((x11.1, x11.2.1, x11.2.2.1, x11.2.2.2)).2.1 < 0))) (fun q20 => ?_) (fun q20 => ?_) ?_
        · refine WO.gno rfl rfl ?_
          refine WO.gno rfl rfl ?_
          refine WO.gno rfl rfl ?_
          refine WO.pickT rfl rfl ?_
          refine WO.nil ?_
          exact ⟨rfl, rfl, (Cov.any rfl (orT q20) (Cov.skip rfl (Cov.skip rfl (Cov.skip rfl (Cov.skip rfl (Cov.skip rfl (Cov.refl _)))))))⟩
        · skip
          refine WO.gyes rfl rfl ?_
          refine WO.fldS (j := 0) (q := 0) rfl ho16.at0 ho16.ptr rfl rfl rfl (by decide) ?_
          refine WO.gyes rfl rfl ?_
          refine WO.ldB (j := 0) (q := 1) rfl rfl ho16 rfl rfl rfl ?_
          refine WO.gyes rfl rfl ?_
          refine WO.bin rfl rfl (by decide) (by decide) rfl ?_
          refine WO.pickF rfl rfl ?_
          refine WO.nil ?_
          exact ⟨rfl, rfl, (Cov.any rfl (orF q20) (Cov.skip rfl (Cov.skip rfl (Cov.skip rfl (Cov.skip rfl (Cov.skip rfl (Cov.refl _)))))))⟩
        refine WO.mv rfl ?_
        refine WO.cutB (d := 41) 4 ((((decide (((x11.1, x11.2.1, x11.2.2.1, x11.2.2.2)).1 < 1)) || (decide (((x11.1, x11.2.1, x11.2.2.1, x11.2.2.2)).1 > 10))) || (decide (((x11.1, x11.2.1, x11.2.2.1, x11.2.2.2)).2.1 < 0))) || (decide (((x11.1, x11.2.1, x11.2.2.1, x11.2.2.2)).2.1 > 100000))) (fun q21 => ?_) (fun q21 => ?_) ?_
        · refine WO.gno rfl rfl ?_
          refine WO.gno rfl rfl ?_
          refine WO.gno rfl rfl ?_
          refine WO.pickT rfl rfl ?_
          refine WO.nil ?_
          exact ⟨rfl, rfl, (Cov.any rfl (orT q21) (Cov.skip rfl (Cov.skip rfl (Cov.skip rfl (Cov.skip rfl (Cov.skip rfl (Cov.refl _)))))))⟩
        · skip
          refine WO.gyes rfl rfl ?_
          refine WO.fldS (j := 0) (q := 0) rfl ho16.at0 ho16.ptr rfl rfl rfl (by decide) ?_
          refine WO.gyes rfl rfl ?_
          refine WO.ldB (j := 0) (q := 1) rfl rfl ho16 rfl rfl rfl ?_
          refine WO.gyes rfl rfl ?_
          refine WO.bin rfl rfl (by decide) (by decide) rfl ?_
          refine WO.pickF rfl rfl ?_
          refine WO.nil ?_
          exact ⟨rfl, rfl, (Cov.any rfl (orF q21) (Cov.skip rfl (Cov.skip rfl (Cov.skip rfl (Cov.skip rfl (Cov.skip rfl (Cov.refl _)))))))⟩
        refine WO.nil ?_
        refine thenL_n ?_
        refine WC.cond rfl (fun q22 => ?_) (fun q22 => ?_)
        · have h := iteT q22 h
          refine WC.seq ?_
          refine WC.region ?_
          refine WO.asg rfl ?_
          refine WO.nil ?_
          refine thenL_n ?_
          refine WC.ret ?_
          refine blockL_r ?_
          refine thenL_r ?_
          refine thenL_r ?_
          obtain rfl := someI h
          exact ⟨_, rfl, rfl, ⟨S17, rfl, rfl, (Cov.cons rfl (Cov.nil _))⟩⟩
        · have h := iteF q22 h
          refine WC.skip ?_
          refine blockL_n ?_
          refine thenL_n ?_
          refine WC.region ?_
          refine WO.bin rfl rfl (by decide) (by decide) rfl ?_
          refine WO.mv rfl ?_
          refine WO.nil ?_
          refine thenL_n ?_
          obtain rfl := someI h
          exact ⟨_, rfl, ⟨S17, rfl, rfl, (Cov.cons rfl (Cov.cons rfl (Cov.cons rfl (Cov.cons rfl (Cov.cons rfl (Cov.nil _)))))), hot0, hot1⟩⟩
      · have h := iteF q10 h
        refine WC.exit ?_
        refine thenL_e ?_
        refine thenL_e ?_
        obtain rfl := someI h
        exact ⟨_, rfl, rfl, ⟨S8, rfl, rfl, (Cov.cons rfl (Cov.cons rfl (Cov.nil _))), hot0, hot1⟩⟩
    cases b23 with
    | inl b25 =>
      simp only at h
      rintro _ _ _ _ ⟨rfl, ⟨S26, rfl, rfl, hc27, hot0, hot1⟩⟩
      refine blockL_s ?_
      refine thenL_n ?_
      refine WC.cov hc27 ?_
      refine WC.seq ?_
      refine WC.region ?_
      refine WO.asg rfl ?_
      refine WO.nil ?_
      refine thenL_n ?_
      refine WC.seq ?_
      refine WC.seq ?_
      refine WC.region ?_
      refine WO.mv rfl ?_
      refine WO.lenS rfl hot1.slv rfl ?_
      refine WO.mv rfl ?_
      refine WO.nil ?_
      refine thenL_n ?_
      refine WC.block ?_
      obtain ⟨b51, e52, h⟩ := bindS h
      refine WC.loopD e52 (fun s28 l' m' n' => ∃ S29 : Cx n, S29.m = m' ∧ S29.n = n' ∧ Cov l' [(0, .sc vt0), (7, .sc (.int .i64 s28.1)), (43, .sc vt1), (44, .sc (.int .i64 ((t1.length : Int)))), (45, .sc (.int .i64 s28.2))] ∧ Rd Y115 S29 vt0 t0 ∧ Rd Y119 S29 vt1 t1) (fun b e l' m' n' => (match b with | .inl b30 => e = .exit 2 ∧ ∃ S31 : Cx n, S31.m = m' ∧ S31.n = n' ∧ Cov l' [] | .inr b30 => e = .ret ∧ ∃ S32 : Cx n, S32.m = m' ∧ S32.n = n' ∧ Cov l' [(4, .sc (.int .i64 b30))])) (by exact ⟨S26, rfl, rfl, (Cov.cons rfl (Cov.cons rfl (Cov.cons rfl (Cov.cons rfl (Cov.cons rfl (Cov.nil _)))))), hot0, hot1⟩) ?_ ?_
      · clear h
        rintro s28 q _ _ _ ⟨S33, rfl, rfl, hc34, hot0, hot1⟩ h
        unfold F23_l1 at h
        refine WC.cov hc34 ?_
        refine WC.seq ?_
        refine WC.region ?_
        refine WO.bin rfl rfl (by decide) (by decide) rfl ?_
        refine WO.nil ?_
        refine thenL_n ?_
        refine WC.seq ?_
        refine WC.cond rfl (fun q35 => ?_) (fun q35 => ?_)
        · have h := iteT q35 h
          refine WC.skip ?_
          refine thenL_n ?_
          refine WC.seq ?_
          refine WC.block ?_
          refine WC.seq ?_
          refine WC.region ?_
          obtain ⟨x36, e37, h⟩ := bindS h
          refine WO.ixS rfl rfl hot1.slv (at?_lt e37) rfl ?_
          refine WO.ldA rfl hot1.ro (fun _ hi => hi) (at?_get e37) rfl rfl ?_
          refine WO.alS (A := Y119) (S := S33) (z0 := (0, 0, 0)) 3 rfl rfl rfl (fun v38 S39 c40 ho41 => ?_)
          have hot0 := hot0.to c40
          have hot1 := hot1.to c40
          refine WO.stBA (u' := (x36.1, x36.2.1, x36.2.2)) rfl ho41.at0 rfl ho41 rfl rfl (fun S42 c43 ho41 => ?_)
          have hot0 := hot0.to c43
          have hot1 := hot1.to c43
          refine WO.nil ?_
          refine thenL_n ?_
          refine WC.seq ?_
          refine WC.seq ?_
          refine WC.region ?_
          refine WO.fldS (j := 0) (q := 0) rfl ho41.at0 ho41.ptr rfl rfl rfl (by decide) ?_
          refine WO.ldB (j := 0) (q := 0) rfl rfl ho41 rfl rfl rfl ?_
          refine WO.bin rfl rfl (by decide) (by decide) rfl ?_
          refine WO.mv rfl ?_
          refine WO.cutB (d := 56) 4 ((decide (((x36.1, x36.2.1, x36.2.2)).1 < 0)) || (decide (((x36.1, x36.2.1, x36.2.2)).1 > 200))) (fun q44 => ?_) (fun q44 => ?_) ?_
          · refine WO.gno rfl rfl ?_
            refine WO.gno rfl rfl ?_
            refine WO.gno rfl rfl ?_
            refine WO.pickT rfl rfl ?_
            refine WO.nil ?_
            exact ⟨rfl, rfl, (Cov.any rfl (orT q44) (Cov.skip rfl (Cov.skip rfl (Cov.skip rfl (Cov.skip rfl (Cov.skip rfl (Cov.refl _)))))))⟩
          · skip
            refine WO.gyes rfl rfl ?_
            refine WO.fldS (j := 0) (q := 0) rfl ho41.at0 ho41.ptr rfl rfl rfl (by decide) ?_
            refine WO.gyes rfl rfl ?_
            refine WO.ldB (j := 0) (q := 0) rfl rfl ho41 rfl rfl rfl ?_
            refine WO.gyes rfl rfl ?_
            refine WO.bin rfl rfl (by decide) (by decide) rfl ?_
            refine WO.pickF rfl rfl ?_
            refine WO.nil ?_
            exact ⟨rfl, rfl, (Cov.any rfl (orF q44) (Cov.skip rfl (Cov.skip rfl (Cov.skip rfl (Cov.skip rfl (Cov.skip rfl (Cov.refl _)))))))⟩
          refine WO.mv rfl ?_
          refine WO.cutB (d := 61) 4 (((decide (((x36.1, x36.2.1, x36.2.2)).1 < 0)) || (decide (((x36.1, x36.2.1, x36.2.2)).1 > 200))) || (decide (((x36.1, x36.2.1, x36.2.2)).2.1 < 0))) (fun q45 => ?_) (fun q45 => ?_) ?_
          · refine WO.gno rfl rfl ?_
            refine WO.gno rfl rfl ?_
            refine WO.gno rfl rfl ?_
            refine WO.pickT rfl rfl ?_
            refine WO.nil ?_
            exact ⟨rfl, rfl, (Cov.any rfl (orT q45) (Cov.skip rfl (Cov.skip rfl (Cov.skip rfl (Cov.skip rfl (Cov.skip rfl (Cov.refl _)))))))⟩
          · skip
            refine WO.gyes rfl rfl ?_
            refine WO.fldS (j := 0) (q := 0) rfl ho41.at0 ho41.ptr rfl rfl rfl (by decide) ?_
            refine WO.gyes rfl rfl ?_
            refine WO.ldB (j := 0) (q := 1) rfl rfl ho41 rfl rfl rfl ?_
            refine WO.gyes rfl rfl ?_
            refine WO.bin rfl rfl (by decide) (by decide) rfl ?_
            refine WO.pickF rfl rfl ?_
            refine WO.nil ?_
            exact ⟨rfl, rfl, (Cov.any rfl (orF q45) (Cov.skip rfl (Cov.skip rfl (Cov.skip rfl (Cov.skip rfl (Cov.skip rfl (Cov.refl _)))))))⟩
          refine WO.mv rfl ?_
          refine WO.cutB (d := 68) 6 ((((decide (((x36.1, x36.2.1, x36.2.2)).1 < 0)) || (decide (((x36.1, x36.2.1, x36.2.2)).1 > 200))) || (decide (((x36.1, x36.2.1, x36.2.2)).2.1 < 0))) || (decide (((x36.1, x36.2.1, x36.2.2)).2.1 ≥ (t0.length : Int)))) (fun q46 => ?_) (fun q46 => ?_) ?_
          · refine WO.gno rfl rfl ?_
            refine WO.gno rfl rfl ?_
            refine WO.gno rfl rfl ?_
            refine WO.gno rfl rfl ?_
            refine WO.gno rfl rfl ?_
            refine WO.pickT rfl rfl ?_
            refine WO.nil ?_
            exact ⟨rfl, rfl, (Cov.any rfl (orT q46) (Cov.skip rfl (Cov.skip rfl (Cov.skip rfl (Cov.skip rfl (Cov.skip rfl (Cov.skip rfl (Cov.skip rfl (Cov.refl _)))))))))⟩
          · skip
            refine WO.gyes rfl rfl ?_
            refine WO.fldS (j := 0) (q := 0) rfl ho41.at0 ho41.ptr rfl rfl rfl (by decide) ?_
            refine WO.gyes rfl rfl ?_
            refine WO.ldB (j := 0) (q := 1) rfl rfl ho41 rfl rfl rfl ?_
            refine WO.gyes rfl rfl ?_
            refine WO.mv rfl ?_
            refine WO.gyes rfl rfl ?_
            refine WO.lenS rfl hot0.slv rfl ?_
            refine WO.gyes rfl rfl ?_
            refine WO.bin rfl rfl (by decide) (by decide) rfl ?_
            refine WO.pickF rfl rfl ?_
            refine WO.nil ?_
            exact ⟨rfl, rfl, (Cov.any rfl (orF q46) (Cov.skip rfl (Cov.skip rfl (Cov.skip rfl (Cov.skip rfl (Cov.skip rfl (Cov.skip rfl (Cov.skip rfl (Cov.refl _)))))))))⟩
          refine WO.mv rfl ?_
          refine WO.cutB (d := 73) 4 (((((decide (((x36.1, x36.2.1, x36.2.2)).1 < 0)) || (decide (((x36.1, x36.2.1, x36.2.2)).1 > 200))) || (decide (((x36.1, x36.2.1, x36.2.2)).2.1 < 0))) || (decide (((x36.1, x36.2.1, x36.2.2)).2.1 ≥ (t0.length : Int)))) || (decide (((x36.1, x36.2.1, x36.2.2)).2.2 < 1))) (fun q47 => ?_) (fun q47 => ?_) ?_
          · refine WO.gno rfl rfl ?_
            refine WO.gno rfl rfl ?_
            refine WO.gno rfl rfl ?_
            refine WO.pickT rfl rfl ?_
            refine WO.nil ?_
            exact ⟨rfl, rfl, (Cov.any rfl (orT q47) (Cov.skip rfl (Cov.skip rfl (Cov.skip rfl (Cov.skip rfl (Cov.skip rfl (Cov.refl _)))))))⟩
          · skip
            refine WO.gyes rfl rfl ?_
            refine WO.fldS (j := 0) (q := 0) rfl ho41.at0 ho41.ptr rfl rfl rfl (by decide) ?_
            refine WO.gyes rfl rfl ?_
            refine WO.ldB (j := 0) (q := 2) rfl rfl ho41 rfl rfl rfl ?_
            refine WO.gyes rfl rfl ?_
            refine WO.bin rfl rfl (by decide) (by decide) rfl ?_
            refine WO.pickF rfl rfl ?_
            refine WO.nil ?_
            exact ⟨rfl, rfl, (Cov.any rfl (orF q47) (Cov.skip rfl (Cov.skip rfl (Cov.skip rfl (Cov.skip rfl (Cov.skip rfl (Cov.refl _)))))))⟩
          refine WO.mv rfl ?_
          refine WO.cutB (d := 78) 4 ((((((decide (((x36.1, x36.2.1, x36.2.2)).1 < 0)) || (decide (((x36.1, x36.2.1, x36.2.2)).1 > 200))) || (decide (((x36.1, x36.2.1, x36.2.2)).2.1 < 0))) || (decide (((x36.1, x36.2.1, x36.2.2)).2.1 ≥ (t0.length : Int)))) || (decide (((x36.1, x36.2.1, x36.2.2)).2.2 < 1))) || (decide (((x36.1, x36.2.1, x36.2.2)).2.2 > 4))) (fun q48 => ?_) (fun q48 => ?_) ?_
          · refine WO.gno rfl rfl ?_
            refine WO.gno rfl rfl ?_
            refine WO.gno rfl rfl ?_
            refine WO.pickT rfl rfl ?_
            refine WO.nil ?_
            exact ⟨rfl, rfl, (Cov.any rfl (orT q48) (Cov.skip rfl (Cov.skip rfl (Cov.skip rfl (Cov.skip rfl (Cov.skip rfl (Cov.refl _)))))))⟩
          · skip
            refine WO.gyes rfl rfl ?_
            refine WO.fldS (j := 0) (q := 0) rfl ho41.at0 ho41.ptr rfl rfl rfl (by decide) ?_
            refine WO.gyes rfl rfl ?_
            refine WO.ldB (j := 0) (q := 2) rfl rfl ho41 rfl rfl rfl ?_
            refine WO.gyes rfl rfl ?_
            refine WO.bin rfl rfl (by decide) (by decide) rfl ?_
            refine WO.pickF rfl rfl ?_
            refine WO.nil ?_
            exact ⟨rfl, rfl, (Cov.any rfl (orF q48) (Cov.skip rfl (Cov.skip rfl (Cov.skip rfl (Cov.skip rfl (Cov.skip rfl (Cov.refl _)))))))⟩
          refine WO.nil ?_
          refine thenL_n ?_
          refine WC.cond rfl (fun q49 => ?_) (fun q49 => ?_)
          · have h := iteT q49 h
            refine WC.seq ?_
            refine WC.region ?_
            refine WO.asg rfl ?_
            refine WO.nil ?_
            refine thenL_n ?_
            refine WC.ret ?_
            refine thenL_r ?_
            refine blockL_r ?_
            refine thenL_r ?_
            refine thenL_r ?_
            obtain rfl := someI h
            exact ⟨_, rfl, rfl, ⟨S42, rfl, rfl, (Cov.cons rfl (Cov.nil _))⟩⟩
          · have h := iteF q49 h
            refine WC.skip ?_
            refine thenL_n ?_
            refine WC.seq ?_
            refine WC.seq ?_
            refine WC.region ?_
            refine WO.fldS (j := 0) (q := 0) rfl ho41.at0 ho41.ptr rfl rfl rfl (by decide) ?_
            refine WO.ldB (j := 0) (q := 0) rfl rfl ho41 rfl rfl rfl ?_
            refine WO.mv rfl ?_
            refine WO.bin rfl rfl (by decide) (by decide) rfl ?_
            refine WO.nil ?_
            refine thenL_n ?_
            refine WC.cond rfl (fun q50 => ?_) (fun q50 => ?_)
            · have h := iteT q50 h
              refine WC.seq ?_
              refine WC.region ?_
              refine WO.asg rfl ?_
              refine WO.nil ?_
              refine thenL_n ?_
              refine WC.ret ?_
              refine thenL_r ?_
              refine blockL_r ?_
              refine thenL_r ?_
              refine thenL_r ?_
              obtain rfl := someI h
              exact ⟨_, rfl, rfl, ⟨S42, rfl, rfl, (Cov.cons rfl (Cov.nil _))⟩⟩
            · have h := iteF q50 h
              refine WC.skip ?_
              refine thenL_n ?_
              refine WC.region ?_
              refine WO.fldS (j := 0) (q := 0) rfl ho41.at0 ho41.ptr rfl rfl rfl (by decide) ?_
              refine WO.ldB (j := 0) (q := 0) rfl rfl ho41 rfl rfl rfl ?_
              refine WO.asg rfl ?_
              refine WO.nil ?_
              refine blockL_n ?_
              refine thenL_n ?_
              refine WC.region ?_
              refine WO.bin rfl rfl (by decide) (by decide) rfl ?_
              refine WO.mv rfl ?_
              refine WO.nil ?_
              refine thenL_n ?_
              obtain rfl := someI h
              exact ⟨_, rfl, ⟨S42, rfl, rfl, (Cov.cons rfl (Cov.cons rfl (Cov.cons rfl (Cov.cons rfl (Cov.cons rfl (Cov.nil _)))))), hot0, hot1⟩⟩
        · have h := iteF q35 h
          refine WC.exit ?_
          refine thenL_e ?_
          refine thenL_e ?_
          obtain rfl := someI h
          exact ⟨_, rfl, rfl, ⟨S33, rfl, rfl, (Cov.nil _)⟩⟩
      cases b51 with
      | inl b53 =>
        simp only at h
        rintro _ _ _ _ ⟨rfl, ⟨S54, rfl, rfl, hc55⟩⟩
        refine blockL_s ?_
        refine thenL_n ?_
        refine WC.cov hc55 ?_
        refine WC.seq ?_
        refine WC.region ?_
        refine WO.asg rfl ?_
        refine WO.nil ?_
        refine thenL_n ?_
        refine WC.ret ?_
        obtain rfl := someI h
        exact ⟨.inr rfl, _, _, rfl, rfl, rfl⟩
      | inr b53 =>
        simp only at h
        rintro _ _ _ _ ⟨rfl, ⟨S56, rfl, rfl, hc57⟩⟩
        refine blockL_r ?_
        refine thenL_r ?_
        obtain rfl := someI h
        exact ⟨.inr rfl, _, _, (resK_cov hc57 rfl), rfl, rfl⟩
    | inr b25 =>
      simp only at h
      rintro _ _ _ _ ⟨rfl, ⟨S58, rfl, rfl, hc59⟩⟩
      refine blockL_r ?_
      refine thenL_r ?_
      obtain rfl := someI h
      exact ⟨.inr rfl, _, _, (resK_cov hc59 rfl), rfl, rfl⟩
end Go.Proofs.Ytihmliblbhjlaaa

/- The machine answers F85: printed by a program of ours (gen.py). -/
import Derived.Test.YtkfmedmanhcdeaaDef
import Derived.Test.YtkfmedmanhcdeaaEnv
set_option linter.unusedVariables false
namespace Go.Proofs.Ytkfmedmanhcdeaa
open Go.Am
theorem F85.fn : E.fn 85 = some ⟨79, (Try.f85.body.getD .skip), Try.f85.results.toList, []⟩ := rfl
theorem F85_ok {F : Nat} {m : Mem} {n : Nat} {r : Bool × Bool} {t0 : List Int} {t1 : Int} {t2 : List (Int × Int)} {vt0 : SV} {vt2 : SV} (h : F85 F t0 t1 t2 = some r) (kt0 : Vw Y3 n m vt0 t0) (kt2 : Vw Y90 n m vt2 t2) : Ret E n 85 [.sc vt0, .sc (.int .i64 t1), .sc vt2] m n (fun v m' n' => v = .tup [.sc (.bool r.1), .sc (.bool r.2)]) := by
  unfold F85 at h
  refine Ret.walk F85.fn ?_
  refine WC.start fun S0 em en hz => ?_
  have hot0 := kt0.rdS em hz
  have hot2 := kt2.rdS em hz
  refine WC.seq ?_
  refine WC.region ?_
  refine WO.asg rfl ?_
  refine WO.asg rfl ?_
  refine WO.nil ?_
  refine thenL_n ?_
  refine WC.seq ?_
  refine WC.seq ?_
  refine WC.region ?_
  refine WO.mv rfl ?_
  refine WO.lenS rfl hot2.slv rfl ?_
  refine WO.mv rfl ?_
  refine WO.nil ?_
  refine thenL_n ?_
  refine WC.block ?_
  obtain ⟨b21, e22, h⟩ := bindS h
  refine WC.loopD e22 (fun s1 l' m' n' => ∃ S2 : Cx n, S2.m = m' ∧ S2.n = n' ∧ Cov l' [(0, .sc vt0), (1, .sc (.int .i64 t1)), (2, .sc vt2), (15, .sc vt2), (16, .sc (.int .i64 ((t2.length : Int)))), (17, .sc (.int .i64 s1))] ∧ Rd Y3 S2 vt0 t0 ∧ Rd Y90 S2 vt2 t2) (fun b e l' m' n' => (match b with | .inl b3 => e = .exit 0 ∧ ∃ S4 : Cx n, S4.m = m' ∧ S4.n = n' ∧ Cov l' [(0, .sc vt0), (1, .sc (.int .i64 t1)), (2, .sc vt2)] ∧ Rd Y3 S4 vt0 t0 ∧ Rd Y90 S4 vt2 t2 | .inr b3 => e = .ret ∧ ∃ S5 : Cx n, S5.m = m' ∧ S5.n = n' ∧ Cov l' [(6, .sc (.bool b3.1)), (7, .sc (.bool b3.2))])) (by exact ⟨S0, rfl, rfl, (Cov.cons rfl (Cov.cons rfl (Cov.cons rfl (Cov.cons rfl (Cov.cons rfl (Cov.cons rfl (Cov.nil _))))))), hot0, hot2⟩) ?_ ?_
  · clear h
    rintro s1 q _ _ _ ⟨S6, rfl, rfl, hc7, hot0, hot2⟩ h
    unfold F85_l0 at h
    refine WC.cov hc7 ?_
    refine WC.seq ?_
    refine WC.region ?_
    refine WO.bin rfl rfl (by decide) (by decide) rfl ?_
    refine WO.nil ?_
    refine thenL_n ?_
    refine WC.seq ?_
    refine WC.cond rfl (fun q8 => ?_) (fun q8 => ?_)
    · have h := iteT q8 h
      refine WC.skip ?_
      refine thenL_n ?_
      refine WC.seq ?_
      refine WC.block ?_
      refine WC.seq ?_
      refine WC.region ?_
      obtain ⟨x9, e10, h⟩ := bindS h
      refine WO.ixS rfl rfl hot2.slv (at?_lt e10) rfl ?_
      refine WO.ldA rfl hot2.ro (fun _ hi => hi) (at?_get e10) rfl rfl ?_
      refine WO.alS (A := Y90) (S := S6) (z0 := (0, 0)) 2 rfl rfl rfl (fun v11 S12 c13 ho14 => ?_)
      have hot0 := hot0.to c13
      have hot2 := hot2.to c13
      refine WO.stBA (u' := (x9.1, x9.2)) rfl ho14.at0 rfl ho14 rfl rfl (fun S15 c16 ho14 => ?_)
      have hot0 := hot0.to c16
      have hot2 := hot2.to c16
      refine WO.nil ?_
      refine thenL_n ?_
      refine WC.seq ?_
      refine WC.region ?_
      refine WO.fldS (j := 0) (q := 0) rfl ho14.at0 ho14.ptr rfl rfl rfl (by decide) ?_
      refine WO.ldB (j := 0) (q := 0) rfl rfl ho14 rfl rfl rfl ?_
      refine WO.bin rfl rfl (by decide) (by decide) rfl ?_
      refine WO.mv rfl ?_
      refine WO.cutB (d := 29) 5 ((decide (((x9.1, x9.2)).1 < 0)) || (decide (((x9.1, x9.2)).1 > t1))) (fun q17 => ?_) (fun q17 => ?_) ?_
      · refine WO.gno rfl rfl ?_
        refine WO.gno rfl rfl ?_
        refine WO.gno rfl rfl ?_
        refine WO.gno rfl rfl ?_
        refine WO.pickT rfl rfl ?_
        refine WO.nil ?_
        exact ⟨rfl, rfl, (Cov.any rfl (orT q17) (Cov.skip rfl (Cov.skip rfl (Cov.skip rfl (Cov.skip rfl (Cov.skip rfl (Cov.skip rfl (Cov.refl _))))))))⟩
      · skip
        refine WO.gyes rfl rfl ?_
        refine WO.fldS (j := 0) (q := 0) rfl ho14.at0 ho14.ptr rfl rfl rfl (by decide) ?_
        refine WO.gyes rfl rfl ?_
        refine WO.ldB (j := 0) (q := 0) rfl rfl ho14 rfl rfl rfl ?_
        refine WO.gyes rfl rfl ?_
        refine WO.mv rfl ?_
        refine WO.gyes rfl rfl ?_
        refine WO.bin rfl rfl (by decide) (by decide) rfl ?_
        refine WO.pickF rfl rfl ?_
        refine WO.nil ?_
        exact ⟨rfl, rfl, (Cov.any rfl (orF q17) (Cov.skip rfl (Cov.skip rfl (Cov.skip rfl (Cov.skip rfl (Cov.skip rfl (Cov.skip rfl (Cov.refl _))))))))⟩
      refine WO.mv rfl ?_
      refine WO.cutB (d := 34) 4 (((decide (((x9.1, x9.2)).1 < 0)) || (decide (((x9.1, x9.2)).1 > t1))) || (decide (((x9.1, x9.2)).2 < 0))) (fun q18 => ?_) (fun q18 => ?_) ?_
      · refine WO.gno rfl rfl ?_
        refine WO.gno rfl rfl ?_
        refine WO.gno rfl rfl ?_
        refine WO.pickT rfl rfl ?_
        refine WO.nil ?_
        exact ⟨rfl, rfl, (Cov.any rfl (orT q18) (Cov.skip rfl (Cov.skip rfl (Cov.skip rfl (Cov.skip rfl (Cov.skip rfl (Cov.refl _)))))))⟩
      · skip
        refine WO.gyes rfl rfl ?_
        refine WO.fldS (j := 0) (q := 0) rfl ho14.at0 ho14.ptr rfl rfl rfl (by decide) ?_
        refine WO.gyes rfl rfl ?_
        refine WO.ldB (j := 0) (q := 1) rfl rfl ho14 rfl rfl rfl ?_
        refine WO.gyes rfl rfl ?_
        refine WO.bin rfl rfl (by decide) (by decide) rfl ?_
        refine WO.pickF rfl rfl ?_
        refine WO.nil ?_
        exact ⟨rfl, rfl, (Cov.any rfl (orF q18) (Cov.skip rfl (Cov.skip rfl (Cov.skip rfl (Cov.skip rfl (Cov.skip rfl (Cov.refl _)))))))⟩
      refine WO.mv rfl ?_
      refine WO.cutB (d := 41) 6 ((((decide (((x9.1, x9.2)).1 < 0)) || (decide (((x9.1, x9.2)).1 > t1))) || (decide (((x9.1, x9.2)).2 < 0))) || (decide (((x9.1, x9.2)).2 ≥ (t0.length : Int)))) (fun q19 => ?_) (fun q19 => ?_) ?_
      · refine WO.gno rfl rfl ?_
        refine WO.gno rfl rfl ?_
        refine WO.gno rfl rfl ?_
        refine WO.gno rfl rfl ?_
        refine WO.gno rfl rfl ?_
        refine WO.pickT rfl rfl ?_
        refine WO.nil ?_
        exact ⟨rfl, rfl, (Cov.any rfl (orT q19) (Cov.skip rfl (Cov.skip rfl (Cov.skip rfl (Cov.skip rfl (Cov.skip rfl (Cov.skip rfl (Cov.skip rfl (Cov.refl _)))))))))⟩
      · skip
        refine WO.gyes rfl rfl ?_
        refine WO.fldS (j := 0) (q := 0) rfl ho14.at0 ho14.ptr rfl rfl rfl (by decide) ?_
        refine WO.gyes rfl rfl ?_
        refine WO.ldB (j := 0) (q := 1) rfl rfl ho14 rfl rfl rfl ?_
        refine WO.gyes rfl rfl ?_
        refine WO.mv rfl ?_
        refine WO.gyes rfl rfl ?_
        refine WO.lenS rfl hot0.slv rfl ?_
        refine WO.gyes rfl rfl ?_
        refine WO.bin rfl rfl (by decide) (by decide) rfl ?_
        refine WO.pickF rfl rfl ?_
        refine WO.nil ?_
        exact ⟨rfl, rfl, (Cov.any rfl (orF q19) (Cov.skip rfl (Cov.skip rfl (Cov.skip rfl (Cov.skip rfl (Cov.skip rfl (Cov.skip rfl (Cov.skip rfl (Cov.refl _)))))))))⟩
      refine WO.nil ?_
      refine thenL_n ?_
      refine WC.cond rfl (fun q20 => ?_) (fun q20 => ?_)
      · have h := iteT q20 h
        refine WC.seq ?_
        refine WC.region ?_
        refine WO.asg rfl ?_
        refine WO.asg rfl ?_
        refine WO.nil ?_
        refine thenL_n ?_
        refine WC.ret ?_
        refine blockL_r ?_
        refine thenL_r ?_
        refine thenL_r ?_
        obtain rfl := someI h
        exact ⟨_, rfl, rfl, ⟨S15, rfl, rfl, (Cov.cons rfl (Cov.cons rfl (Cov.nil _)))⟩⟩
      · have h := iteF q20 h
        refine WC.skip ?_
        refine blockL_n ?_
        refine thenL_n ?_
        refine WC.region ?_
        refine WO.bin rfl rfl (by decide) (by decide) rfl ?_
        refine WO.mv rfl ?_
        refine WO.nil ?_
        refine thenL_n ?_
        obtain rfl := someI h
        exact ⟨_, rfl, ⟨S15, rfl, rfl, (Cov.cons rfl (Cov.cons rfl (Cov.cons rfl (Cov.cons rfl (Cov.cons rfl (Cov.cons rfl (Cov.nil _))))))), hot0, hot2⟩⟩
    · have h := iteF q8 h
      refine WC.exit ?_
      refine thenL_e ?_
      refine thenL_e ?_
      obtain rfl := someI h
      exact ⟨_, rfl, rfl, ⟨S6, rfl, rfl, (Cov.cons rfl (Cov.cons rfl (Cov.cons rfl (Cov.nil _)))), hot0, hot2⟩⟩
  cases b21 with
  | inl b23 =>
    simp only at h
    rintro _ _ _ _ ⟨rfl, ⟨S24, rfl, rfl, hc25, hot0, hot2⟩⟩
    refine blockL_s ?_
    refine thenL_n ?_
    refine WC.cov hc25 ?_
    refine WC.seq ?_
    refine WC.seq ?_
    refine WC.region ?_
    refine WO.mv rfl ?_
    refine WO.lenS rfl hot0.slv rfl ?_
    refine WO.mv rfl ?_
    refine WO.nil ?_
    refine thenL_n ?_
    refine WC.block ?_
    obtain ⟨b58, e59, h⟩ := bindS h
    refine WC.loopD e59 (fun s26 l' m' n' => ∃ S27 : Cx n, S27.m = m' ∧ S27.n = n' ∧ Cov l' [(0, .sc vt0), (1, .sc (.int .i64 t1)), (2, .sc vt2), (43, .sc vt0), (44, .sc (.int .i64 ((t0.length : Int)))), (45, .sc (.int .i64 s26))] ∧ Rd Y3 S27 vt0 t0 ∧ Rd Y90 S27 vt2 t2) (fun b e l' m' n' => (match b with | .inl b28 => e = .exit 2 ∧ ∃ S29 : Cx n, S29.m = m' ∧ S29.n = n' ∧ Cov l' [] | .inr b28 => e = .ret ∧ ∃ S30 : Cx n, S30.m = m' ∧ S30.n = n' ∧ Cov l' [(6, .sc (.bool b28.1)), (7, .sc (.bool b28.2))])) (by exact ⟨S24, rfl, rfl, (Cov.cons rfl (Cov.cons rfl (Cov.cons rfl (Cov.cons rfl (Cov.cons rfl (Cov.cons rfl (Cov.nil _))))))), hot0, hot2⟩) ?_ ?_
    · clear h
      rintro s26 q _ _ _ ⟨S31, rfl, rfl, hc32, hot0, hot2⟩ h
      unfold F85_l2 at h
      refine WC.cov hc32 ?_
      refine WC.seq ?_
      refine WC.region ?_
      refine WO.bin rfl rfl (by decide) (by decide) rfl ?_
      refine WO.nil ?_
      refine thenL_n ?_
      refine WC.seq ?_
      refine WC.cond rfl (fun q33 => ?_) (fun q33 => ?_)
      · have h := iteT q33 h
        refine WC.skip ?_
        refine thenL_n ?_
        refine WC.seq ?_
        refine WC.block ?_
        refine WC.seq ?_
        refine WC.region ?_
        refine WO.mv rfl ?_
        obtain ⟨x34, e35, h⟩ := bindS h
        refine WO.ixS rfl rfl hot0.slv (at?_lt e35) rfl ?_
        refine WO.ldF rfl hot0.ro (fun _ hi => hi) (at?_get e35) rfl rfl rfl ?_
        refine WO.asg rfl ?_
        refine WO.asg rfl ?_
        refine WO.nil ?_
        refine thenL_n ?_
        refine WC.seq ?_
        refine WC.region ?_
        refine WO.mv rfl ?_
        refine WO.mv rfl ?_
        obtain ⟨x36, e37, h⟩ := bindS h
        refine WO.ixS rfl rfl hot2.slv (at?_lt e37) rfl ?_
        refine WO.fldS rfl rfl (SlV.ptr hot2.slv (at?_nat e37)) rfl rfl rfl (by decide) ?_
        refine WO.ldF rfl hot2.ro (fun _ hi => hi) (at?_get e37) rfl rfl rfl ?_
        refine WO.asg rfl ?_
        refine WO.nil ?_
        refine thenL_n ?_
        refine WC.seq ?_
        refine WC.seq ?_
        refine WC.region ?_
        refine WO.mv rfl ?_
        refine WO.lenS rfl hot2.slv rfl ?_
        refine WO.mv rfl ?_
        refine WO.nil ?_
        refine thenL_n ?_
        refine WC.block ?_
        obtain ⟨b53, e54, h⟩ := bindS h
        refine WC.loopD e54 (fun s38 l' m' n' => ∃ S39 : Cx n, S39.m = m' ∧ S39.n = n' ∧ Cov l' [(0, .sc vt0), (1, .sc (.int .i64 t1)), (2, .sc vt2), (10, .sc (.int .i64 s26)), (11, .sc (.int .i64 x34)), (12, .sc (.int .i64 s38.1)), (43, .sc vt0), (44, .sc (.int .i64 ((t0.length : Int)))), (45, .sc (.int .i64 s26)), (55, .sc vt2), (56, .sc (.int .i64 ((t2.length : Int)))), (57, .sc (.int .i64 s38.2))] ∧ Rd Y3 S39 vt0 t0 ∧ Rd Y90 S39 vt2 t2) (fun b e l' m' n' => e = .exit 4 ∧ ∃ S40 : Cx n, S40.m = m' ∧ S40.n = n' ∧ Cov l' [(0, .sc vt0), (1, .sc (.int .i64 t1)), (2, .sc vt2), (11, .sc (.int .i64 x34)), (12, .sc (.int .i64 b)), (43, .sc vt0), (44, .sc (.int .i64 ((t0.length : Int)))), (45, .sc (.int .i64 s26))] ∧ Rd Y3 S40 vt0 t0 ∧ Rd Y90 S40 vt2 t2) (by exact ⟨S31, rfl, rfl, (Cov.cons rfl (Cov.cons rfl (Cov.cons rfl (Cov.cons rfl (Cov.cons rfl (Cov.cons rfl (Cov.cons rfl (Cov.cons rfl (Cov.cons rfl (Cov.cons rfl (Cov.cons rfl (Cov.cons rfl (Cov.nil _))))))))))))), hot0, hot2⟩) ?_ ?_
        · clear h
          rintro s38 q _ _ _ ⟨S41, rfl, rfl, hc42, hot0, hot2⟩ h
          unfold F85_l1 at h
          refine WC.cov hc42 ?_
          refine WC.seq ?_
          refine WC.region ?_
          refine WO.bin rfl rfl (by decide) (by decide) rfl ?_
          refine WO.nil ?_
          refine thenL_n ?_
          refine WC.seq ?_
          refine WC.cond rfl (fun q43 => ?_) (fun q43 => ?_)
          · have h := iteT q43 h
            refine WC.skip ?_
            refine thenL_n ?_
            refine WC.seq ?_
            refine WC.block ?_
            refine WC.seq ?_
            refine WC.region ?_
            obtain ⟨x44, e45, h⟩ := bindS h
            refine WO.ixS rfl rfl hot2.slv (at?_lt e45) rfl ?_
            refine WO.ldA rfl hot2.ro (fun _ hi => hi) (at?_get e45) rfl rfl ?_
            refine WO.alS (A := Y90) (S := S41) (z0 := (0, 0)) 3 rfl rfl rfl (fun v46 S47 c48 ho49 => ?_)
            have hot0 := hot0.to c48
            have hot2 := hot2.to c48
            refine WO.stBA (u' := (x44.1, x44.2)) rfl ho49.at0 rfl ho49 rfl rfl (fun S50 c51 ho49 => ?_)
            have hot0 := hot0.to c51
            have hot2 := hot2.to c51
            refine WO.nil ?_
            refine thenL_n ?_
            refine WC.seq ?_
            refine WC.region ?_
            refine WO.fldS (j := 0) (q := 0) rfl ho49.at0 ho49.ptr rfl rfl rfl (by decide) ?_
            refine WO.ldB (j := 0) (q := 1) rfl rfl ho49 rfl rfl rfl ?_
            refine WO.mv rfl ?_
            refine WO.bin rfl rfl (by decide) (by decide) rfl ?_
            refine WO.nil ?_
            refine thenL_n ?_
            refine WC.cond rfl (fun q52 => ?_) (fun q52 => ?_)
            · have h := iteT q52 h
              refine WC.region ?_
              refine WO.mv rfl ?_
              refine WO.mv rfl ?_
              refine WO.fldS (j := 0) (q := 0) rfl ho49.at0 ho49.ptr rfl rfl rfl (by decide) ?_
              refine WO.ldB (j := 0) (q := 0) rfl rfl ho49 rfl rfl rfl ?_
              refine WO.bin rfl rfl (by decide) (by decide) rfl ?_
              refine WO.bin rfl rfl (by decide) (by decide) rfl ?_
              refine WO.asg rfl ?_
              refine WO.nil ?_
              refine blockL_n ?_
              refine thenL_n ?_
              refine WC.region ?_
              refine WO.bin rfl rfl (by decide) (by decide) rfl ?_
              refine WO.mv rfl ?_
              refine WO.nil ?_
              refine thenL_n ?_
              obtain rfl := someI h
              exact ⟨_, rfl, ⟨S50, rfl, rfl, (Cov.cons rfl (Cov.cons rfl (Cov.cons rfl (Cov.cons rfl (Cov.cons rfl (Cov.cons rfl (Cov.cons rfl (Cov.cons rfl (Cov.cons rfl (Cov.cons rfl (Cov.cons rfl (Cov.cons rfl (Cov.nil _))))))))))))), hot0, hot2⟩⟩
            · have h := iteF q52 h
              refine WC.skip ?_
              refine blockL_n ?_
              refine thenL_n ?_
              refine WC.region ?_
              refine WO.bin rfl rfl (by decide) (by decide) rfl ?_
              refine WO.mv rfl ?_
              refine WO.nil ?_
              refine thenL_n ?_
              obtain rfl := someI h
              exact ⟨_, rfl, ⟨S50, rfl, rfl, (Cov.cons rfl (Cov.cons rfl (Cov.cons rfl (Cov.cons rfl (Cov.cons rfl (Cov.cons rfl (Cov.cons rfl (Cov.cons rfl (Cov.cons rfl (Cov.cons rfl (Cov.cons rfl (Cov.cons rfl (Cov.nil _))))))))))))), hot0, hot2⟩⟩
          · have h := iteF q43 h
            refine WC.exit ?_
            refine thenL_e ?_
            refine thenL_e ?_
            obtain rfl := someI h
            exact ⟨_, rfl, rfl, ⟨S41, rfl, rfl, (Cov.cons rfl (Cov.cons rfl (Cov.cons rfl (Cov.cons rfl (Cov.cons rfl (Cov.cons rfl (Cov.cons rfl (Cov.cons rfl (Cov.nil _))))))))), hot0, hot2⟩⟩
        rintro _ _ _ _ ⟨rfl, ⟨S55, rfl, rfl, hc56, hot0, hot2⟩⟩
        refine blockL_s ?_
        refine thenL_n ?_
        refine WC.cov hc56 ?_
        refine WC.seq ?_
        refine WC.region ?_
        refine WO.mv rfl ?_
        refine WO.mv rfl ?_
        refine WO.mv rfl ?_
        refine WO.lenS rfl hot0.slv rfl ?_
        refine WO.bin rfl rfl (by decide) (by decide) rfl ?_
        refine WO.bin rfl rfl (by decide) (by decide) rfl ?_
        refine WO.nil ?_
        refine thenL_n ?_
        refine WC.cond rfl (fun q57 => ?_) (fun q57 => ?_)
        · have h := iteT q57 h
          refine WC.seq ?_
          refine WC.region ?_
          refine WO.asg rfl ?_
          refine WO.asg rfl ?_
          refine WO.nil ?_
          refine thenL_n ?_
          refine WC.ret ?_
          refine blockL_r ?_
          refine thenL_r ?_
          refine thenL_r ?_
          obtain rfl := someI h
          exact ⟨_, rfl, rfl, ⟨S55, rfl, rfl, (Cov.cons rfl (Cov.cons rfl (Cov.nil _)))⟩⟩
        · have h := iteF q57 h
          refine WC.skip ?_
          refine blockL_n ?_
          refine thenL_n ?_
          refine WC.region ?_
          refine WO.bin rfl rfl (by decide) (by decide) rfl ?_
          refine WO.mv rfl ?_
          refine WO.nil ?_
          refine thenL_n ?_
          obtain rfl := someI h
          exact ⟨_, rfl, ⟨S55, rfl, rfl, (Cov.cons rfl (Cov.cons rfl (Cov.cons rfl (Cov.cons rfl (Cov.cons rfl (Cov.cons rfl (Cov.nil _))))))), hot0, hot2⟩⟩
      · have h := iteF q33 h
        refine WC.exit ?_
        refine thenL_e ?_
        refine thenL_e ?_
        obtain rfl := someI h
        exact ⟨_, rfl, rfl, ⟨S31, rfl, rfl, (Cov.nil _)⟩⟩
    cases b58 with
    | inl b60 =>
      simp only at h
      rintro _ _ _ _ ⟨rfl, ⟨S61, rfl, rfl, hc62⟩⟩
      refine blockL_s ?_
      refine thenL_n ?_
      refine WC.cov hc62 ?_
      refine WC.seq ?_
      refine WC.region ?_
      refine WO.asg rfl ?_
      refine WO.asg rfl ?_
      refine WO.nil ?_
      refine thenL_n ?_
      refine WC.ret ?_
      obtain rfl := someI h
      exact ⟨.inr rfl, _, _, rfl, rfl, rfl⟩
    | inr b60 =>
      simp only at h
      rintro _ _ _ _ ⟨rfl, ⟨S63, rfl, rfl, hc64⟩⟩
      refine blockL_r ?_
      refine thenL_r ?_
      obtain rfl := someI h
      exact ⟨.inr rfl, _, _, (resK_cov hc64 rfl), rfl, rfl⟩
  | inr b23 =>
    simp only at h
    rintro _ _ _ _ ⟨rfl, ⟨S65, rfl, rfl, hc66⟩⟩
    refine blockL_r ?_
    refine thenL_r ?_
    obtain rfl := someI h
    exact ⟨.inr rfl, _, _, (resK_cov hc66 rfl), rfl, rfl⟩
end Go.Proofs.Ytkfmedmanhcdeaa

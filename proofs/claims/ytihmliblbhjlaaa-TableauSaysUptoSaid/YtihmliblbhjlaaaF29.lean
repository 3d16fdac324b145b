/- The machine answers F29: printed by a program of ours (gen.py). -/
import Derived.Test.YtihmliblbhjlaaaDef
import Derived.Test.YtihmliblbhjlaaaEnv
set_option linter.unusedVariables false
namespace Go.Proofs.Ytihmliblbhjlaaa
open Go.Am
theorem F29.fn : E.fn 29 = some ⟨106, (Try.f29.body.getD .skip), Try.f29.results.toList, []⟩ := rfl
theorem F29_ok {F : Nat} {m : Mem} {n : Nat} {r : Int} {t0 : List (List Int)} {vt0 : SV} (h : F29 F t0 = some r) (kt0 : Vw Y22 n m vt0 t0) : Ret E n 29 [.sc vt0] m n (fun v m' n' => v = .sc (.int .i64 r)) := by
  unfold F29 at h
  refine Ret.walk F29.fn ?_
  refine WC.start fun S0 em en hz => ?_
  have hot0 := kt0.rdS em hz
  refine WC.seq ?_
  refine WC.region ?_
  refine WO.asg rfl ?_
  refine WO.nil ?_
  refine thenL_n ?_
  refine WC.seq ?_
  refine WC.region ?_
  refine WO.asg rfl ?_
  refine WO.nil ?_
  refine thenL_n ?_
  refine WC.seq ?_
  refine WC.seq ?_
  refine WC.region ?_
  refine WO.mv rfl ?_
  refine WO.lenS rfl hot0.slv rfl ?_
  refine WO.mv rfl ?_
  refine WO.nil ?_
  refine thenL_n ?_
  refine WC.block ?_
  obtain ⟨b11, e12, h⟩ := bindS h
  refine WC.loopD e12 (fun s1 l' m' n' => ∃ S2 : Cx n, S2.m = m' ∧ S2.n = n' ∧ Cov l' [(0, .sc vt0), (3, .sc (.int .i64 s1.1)), (11, .sc vt0), (12, .sc (.int .i64 ((t0.length : Int)))), (13, .sc (.int .i64 s1.2))] ∧ Rd Y22 S2 vt0 t0) (fun b e l' m' n' => e = .exit 0 ∧ ∃ S3 : Cx n, S3.m = m' ∧ S3.n = n' ∧ Cov l' [(0, .sc vt0), (3, .sc (.int .i64 b))] ∧ Rd Y22 S3 vt0 t0) (by exact ⟨S0, rfl, rfl, (Cov.cons rfl (Cov.cons rfl (Cov.cons rfl (Cov.cons rfl (Cov.cons rfl (Cov.nil _)))))), hot0⟩) ?_ ?_
  · clear h
    rintro s1 q _ _ _ ⟨S4, rfl, rfl, hc5, hot0⟩ h
    unfold F29_l0 at h
    refine WC.cov hc5 ?_
    refine WC.seq ?_
    refine WC.region ?_
    refine WO.bin rfl rfl (by decide) (by decide) rfl ?_
    refine WO.nil ?_
    refine thenL_n ?_
    refine WC.seq ?_
    refine WC.cond rfl (fun q6 => ?_) (fun q6 => ?_)
    · have h := iteT q6 h
      refine WC.skip ?_
      refine thenL_n ?_
      refine WC.seq ?_
      refine WC.block ?_
      refine WC.seq ?_
      refine WC.region ?_
      obtain ⟨L7, e8, h⟩ := bindS h
      refine WO.ixS rfl rfl hot0.slv (at?_lt e8) rfl ?_
      refine WO.ldS rfl hot0.ro (fun _ hi => hi) (at?_get e8) rfl rfl (fun v9 ho10 => ?_)
      have ho10 : Rd Y3 S4 v9 L7 := ho10
      refine WO.asg rfl ?_
      refine WO.nil ?_
      refine thenL_n ?_
      refine WC.region ?_
      refine WO.mv rfl ?_
      refine WO.mv rfl ?_
      refine WO.lenS rfl ho10.slv rfl ?_
      refine WO.bin rfl rfl (by decide) (by decide) rfl ?_
      refine WO.asg rfl ?_
      refine WO.nil ?_
      refine blockL_n ?_
      refine thenL_n ?_
      refine WC.region ?_
      refine WO.bin rfl rfl (by decide) (by decide) rfl ?_
      refine WO.mv rfl ?_
      refine WO.nil ?_
      refine thenL_n ?_
      obtain rfl := someI h
      exact ⟨_, rfl, ⟨S4, rfl, rfl, (Cov.cons rfl (Cov.cons rfl (Cov.cons rfl (Cov.cons rfl (Cov.cons rfl (Cov.nil _)))))), hot0⟩⟩
    · have h := iteF q6 h
      refine WC.exit ?_
      refine thenL_e ?_
      refine thenL_e ?_
      obtain rfl := someI h
      exact ⟨_, rfl, rfl, ⟨S4, rfl, rfl, (Cov.cons rfl (Cov.cons rfl (Cov.nil _))), hot0⟩⟩
  rintro _ _ _ _ ⟨rfl, ⟨S13, rfl, rfl, hc14, hot0⟩⟩
  refine blockL_s ?_
  refine thenL_n ?_
  refine WC.cov hc14 ?_
  refine WC.seq ?_
  refine WC.seq ?_
  refine WC.region ?_
  refine WO.mv rfl ?_
  refine WO.bin rfl rfl (by decide) (by decide) rfl ?_
  refine WO.mv rfl ?_
  refine WO.cutB (d := 28) 4 ((decide (b11 > 10)) || (decide ((t0.length : Int) > 10))) (fun q15 => ?_) (fun q15 => ?_) ?_
  · refine WO.gno rfl rfl ?_
    refine WO.gno rfl rfl ?_
    refine WO.gno rfl rfl ?_
    refine WO.pickT rfl rfl ?_
    refine WO.nil ?_
    exact ⟨rfl, rfl, (Cov.any rfl (orT q15) (Cov.skip rfl (Cov.skip rfl (Cov.skip rfl (Cov.skip rfl (Cov.skip rfl (Cov.refl _)))))))⟩
  · skip
    refine WO.gyes rfl rfl ?_
    refine WO.mv rfl ?_
    refine WO.gyes rfl rfl ?_
    refine WO.lenS rfl hot0.slv rfl ?_
    refine WO.gyes rfl rfl ?_
    refine WO.bin rfl rfl (by decide) (by decide) rfl ?_
    refine WO.pickF rfl rfl ?_
    refine WO.nil ?_
    exact ⟨rfl, rfl, (Cov.any rfl (orF q15) (Cov.skip rfl (Cov.skip rfl (Cov.skip rfl (Cov.skip rfl (Cov.skip rfl (Cov.refl _)))))))⟩
  refine WO.nil ?_
  refine thenL_n ?_
  refine WC.cond rfl (fun q16 => ?_) (fun q16 => ?_)
  · have h := iteT q16 h
    refine WC.seq ?_
    refine WC.region ?_
    refine WO.asg rfl ?_
    refine WO.nil ?_
    refine thenL_n ?_
    refine WC.ret ?_
    refine thenL_r ?_
    obtain rfl := someI h
    exact ⟨.inr rfl, _, _, rfl, rfl, rfl⟩
  · have h := iteF q16 h
    refine WC.skip ?_
    refine thenL_n ?_
    refine WC.seq ?_
    refine WC.region ?_
    refine WO.alS (A := Y130) (S := S13) (z0 := (List.replicate 10 false)) 2 rfl ⟨rfl, rfl⟩ rfl (fun v17 S18 c19 ho20 => ?_)
    have hot0 := hot0.to c19
    refine WO.nil ?_
    refine thenL_n ?_
    refine WC.seq ?_
    refine WC.seq ?_
    refine WC.region ?_
    refine WO.mv rfl ?_
    refine WO.lenS rfl hot0.slv rfl ?_
    refine WO.mv rfl ?_
    refine WO.nil ?_
    refine thenL_n ?_
    refine WC.block ?_
    obtain ⟨b92, e93, h⟩ := bindS h
    refine WC.loopD e93 (fun s21 l' m' n' => ∃ S22 : Cx n, S22.m = m' ∧ S22.n = n' ∧ Cov l' [(0, .sc vt0), (3, .sc (.int .i64 b11)), (6, .sc v17), (29, .sc vt0), (30, .sc (.int .i64 ((t0.length : Int)))), (31, .sc (.int .i64 s21.1))] ∧ Rd Y22 S22 vt0 t0 ∧ Bk Y130 S22 2 v17 s21.2) (fun b e l' m' n' => (match b with | .inl b23 => e = .exit 2 ∧ ∃ S24 : Cx n, S24.m = m' ∧ S24.n = n' ∧ Cov l' [] | .inr b23 => e = .ret ∧ ∃ S25 : Cx n, S25.m = m' ∧ S25.n = n' ∧ Cov l' [(2, .sc (.int .i64 b23))])) (by exact ⟨S18, rfl, rfl, (Cov.cons rfl (Cov.cons rfl (Cov.cons rfl (Cov.cons rfl (Cov.cons rfl (Cov.cons rfl (Cov.nil _))))))), hot0, ho20⟩) ?_ ?_
    · clear h
      rintro s21 q _ _ _ ⟨S26, rfl, rfl, hc27, hot0, ho20⟩ h
      unfold F29_l2 at h
      refine WC.cov hc27 ?_
      refine WC.seq ?_
      refine WC.region ?_
      refine WO.bin rfl rfl (by decide) (by decide) rfl ?_
      refine WO.nil ?_
      refine thenL_n ?_
      refine WC.seq ?_
      refine WC.cond rfl (fun q28 => ?_) (fun q28 => ?_)
      · have h := iteT q28 h
        refine WC.skip ?_
        refine thenL_n ?_
        refine WC.seq ?_
        refine WC.block ?_
        refine WC.seq ?_
        refine WC.region ?_
        refine WO.mv rfl ?_
        obtain ⟨L29, e30, h⟩ := bindS h
        refine WO.ixS rfl rfl hot0.slv (at?_lt e30) rfl ?_
        refine WO.ldS rfl hot0.ro (fun _ hi => hi) (at?_get e30) rfl rfl (fun v31 ho32 => ?_)
        have ho32 : Rd Y3 S26 v31 L29 := ho32
        refine WO.asg rfl ?_
        refine WO.asg rfl ?_
        refine WO.nil ?_
        refine thenL_n ?_
        refine WC.seq ?_
        refine WC.seq ?_
        refine WC.region ?_
        refine WO.mv rfl ?_
        refine WO.lenS rfl ho32.slv rfl ?_
        refine WO.bin rfl rfl (by decide) (by decide) rfl ?_
        refine WO.mv rfl ?_
        obtain ⟨y41, e42, h⟩ := bindS h
        refine WO.cutB (d := 53) 14 y41 (fun q40 => ?_) (fun q40 => ?_) ?_
        · have h := e42
          have h := iteT q40 h
          obtain rfl := someI h
          refine WO.gno rfl rfl ?_
          refine WO.gno rfl rfl ?_
          refine WO.gno rfl rfl ?_
          refine WO.gskip rfl rfl ?_
          refine WO.gskip rfl rfl ?_
          refine WO.gskip rfl rfl ?_
          refine WO.gskip rfl rfl ?_
          refine WO.gskip rfl rfl ?_
          refine WO.gskip rfl rfl ?_
          refine WO.gskip rfl rfl ?_
          refine WO.gskip rfl rfl ?_
          refine WO.gskip rfl rfl ?_
          refine WO.gno rfl rfl ?_
          refine WO.pickT rfl rfl ?_
          refine WO.nil ?_
          exact ⟨rfl, rfl, (Cov.cons rfl (Cov.skip rfl (Cov.skip rfl (Cov.skip rfl (Cov.skip rfl (Cov.skip rfl (Cov.skip rfl (Cov.skip rfl (Cov.skip rfl (Cov.skip rfl (Cov.skip rfl (Cov.skip rfl (Cov.skip rfl (Cov.skip rfl (Cov.skip rfl (Cov.skip rfl (Cov.refl _)))))))))))))))))⟩
        · have h := e42
          have h := iteF q40 h
          refine WO.gyes rfl rfl ?_
          refine WO.mv rfl ?_
          refine WO.gyes rfl rfl ?_
          refine WO.bin rfl rfl (by decide) (by decide) rfl ?_
          refine WO.gyes rfl rfl ?_
          refine WO.mv rfl ?_
          obtain ⟨y38, e39, h⟩ := bindS h
          refine WO.cutB (d := 52) 10 y38 (fun q37 => ?_) (fun q37 => ?_) ?_
          · have h := e39
            have h := iteT q37 h
            refine WO.gyes rfl rfl ?_
            refine WO.mv rfl ?_
            refine WO.gyes rfl rfl ?_
            refine WO.lenS rfl ho32.slv rfl ?_
            refine WO.gyes rfl rfl ?_
            refine WO.mv rfl ?_
            refine WO.gyes rfl rfl ?_
            refine WO.mv rfl ?_
            refine WO.gyes rfl rfl ?_
            refine WO.bin rfl rfl (by decide) (by decide) rfl ?_
            refine WO.gyes rfl rfl ?_
            obtain ⟨L33, e34, h⟩ := bindS h
            refine WO.ixS rfl rfl hot0.slv (at?_lt e34) rfl ?_
            refine WO.gyes rfl rfl ?_
            refine WO.ldS rfl hot0.ro (fun _ hi => hi) (at?_get e34) rfl rfl (fun v35 ho36 => ?_)
            have ho36 : Rd Y3 S26 v35 L33 := ho36
            refine WO.gyes rfl rfl ?_
            refine WO.lenS rfl ho36.slv rfl ?_
            refine WO.gyes rfl rfl ?_
            refine WO.bin rfl rfl (by decide) (by decide) rfl ?_
            obtain rfl := someI h
            refine WO.gyes rfl rfl ?_
            refine WO.pickT rfl rfl ?_
            refine WO.nil ?_
            exact ⟨rfl, rfl, (Cov.cons rfl (Cov.skip rfl (Cov.skip rfl (Cov.skip rfl (Cov.skip rfl (Cov.skip rfl (Cov.skip rfl (Cov.skip rfl (Cov.skip rfl (Cov.skip rfl (Cov.skip rfl (Cov.skip rfl (Cov.refl _)))))))))))))⟩
          · have h := e39
            have h := iteF q37 h
            obtain rfl := someI h
            refine WO.gno rfl rfl ?_
            refine WO.gno rfl rfl ?_
            refine WO.gno rfl rfl ?_
            refine WO.gno rfl rfl ?_
            refine WO.gno rfl rfl ?_
            refine WO.gno rfl rfl ?_
            refine WO.gno rfl rfl ?_
            refine WO.gno rfl rfl ?_
            refine WO.gno rfl rfl ?_
            refine WO.gyes rfl rfl ?_
            refine WO.pickF rfl rfl ?_
            refine WO.nil ?_
            exact ⟨rfl, rfl, (Cov.cons rfl (Cov.skip rfl (Cov.skip rfl (Cov.skip rfl (Cov.skip rfl (Cov.skip rfl (Cov.skip rfl (Cov.skip rfl (Cov.skip rfl (Cov.skip rfl (Cov.skip rfl (Cov.skip rfl (Cov.refl _)))))))))))))⟩
          obtain rfl := someI h
          refine WO.pickF rfl rfl ?_
          refine WO.nil ?_
          exact ⟨rfl, rfl, (Cov.cons rfl (Cov.skip rfl (Cov.skip rfl (Cov.skip rfl (Cov.skip rfl (Cov.skip rfl (Cov.refl _)))))))⟩
        refine WO.nil ?_
        refine thenL_n ?_
        refine WC.cond rfl (fun q43 => ?_) (fun q43 => ?_)
        · have h := iteT q43 h
          refine WC.seq ?_
          refine WC.region ?_
          refine WO.asg rfl ?_
          refine WO.nil ?_
          refine thenL_n ?_
          refine WC.ret ?_
          refine thenL_r ?_
          refine blockL_r ?_
          refine thenL_r ?_
          refine thenL_r ?_
          obtain rfl := someI h
          exact ⟨_, rfl, rfl, ⟨S26, rfl, rfl, (Cov.cons rfl (Cov.nil _))⟩⟩
        · have h := iteF q43 h
          refine WC.skip ?_
          refine thenL_n ?_
          refine WC.seq ?_
          refine WC.region ?_
          refine WO.mv rfl ?_
          refine WO.lenS rfl ho32.slv rfl ?_
          refine WO.mv rfl ?_
          refine WO.nil ?_
          refine thenL_n ?_
          refine WC.block ?_
          obtain ⟨b85, e86, h⟩ := bindS h
          refine WC.loopD e86 (fun s44 l' m' n' => ∃ S45 : Cx n, S45.m = m' ∧ S45.n = n' ∧ Cov l' [(0, .sc vt0), (3, .sc (.int .i64 b11)), (6, .sc v17), (7, .sc (.int .i64 s21.1)), (8, .sc v31), (29, .sc vt0), (30, .sc (.int .i64 ((t0.length : Int)))), (31, .sc (.int .i64 s21.1)), (54, .sc v31), (55, .sc (.int .i64 ((L29.length : Int)))), (56, .sc (.int .i64 s44.1))] ∧ Rd Y22 S45 vt0 t0 ∧ Bk Y130 S45 2 v17 s44.2 ∧ Rd Y3 S45 v31 L29) (fun b e l' m' n' => (match b with | .inl b46 => e = .exit 4 ∧ ∃ S47 : Cx n, S47.m = m' ∧ S47.n = n' ∧ Cov l' [(0, .sc vt0), (3, .sc (.int .i64 b11)), (6, .sc v17), (29, .sc vt0), (30, .sc (.int .i64 ((t0.length : Int)))), (31, .sc (.int .i64 s21.1))] ∧ Rd Y22 S47 vt0 t0 ∧ Bk Y130 S47 2 v17 b46 | .inr b46 => e = .ret ∧ ∃ S48 : Cx n, S48.m = m' ∧ S48.n = n' ∧ Cov l' [(2, .sc (.int .i64 b46))])) (by exact ⟨S26, rfl, rfl, (Cov.cons rfl (Cov.cons rfl (Cov.cons rfl (Cov.cons rfl (Cov.cons rfl (Cov.cons rfl (Cov.cons rfl (Cov.cons rfl (Cov.cons rfl (Cov.cons rfl (Cov.cons rfl (Cov.nil _)))))))))))), hot0, ho20, ho32⟩) ?_ ?_
          · clear h
            rintro s44 q _ _ _ ⟨S49, rfl, rfl, hc50, hot0, ho20, ho32⟩ h
            unfold F29_l1 at h
            refine WC.cov hc50 ?_
            refine WC.seq ?_
            refine WC.region ?_
            refine WO.bin rfl rfl (by decide) (by decide) rfl ?_
            refine WO.nil ?_
            refine thenL_n ?_
            refine WC.seq ?_
            refine WC.cond rfl (fun q51 => ?_) (fun q51 => ?_)
            · have h := iteT q51 h
              refine WC.skip ?_
              refine thenL_n ?_
              refine WC.seq ?_
              refine WC.block ?_
              refine WC.seq ?_
              refine WC.region ?_
              refine WO.mv rfl ?_
              obtain ⟨x52, e53, h⟩ := bindS h
              refine WO.ixS rfl rfl ho32.slv (at?_lt e53) rfl ?_
              refine WO.ldF rfl ho32.ro (fun _ hi => hi) (at?_get e53) rfl rfl rfl ?_
              refine WO.asg rfl ?_
              refine WO.asg rfl ?_
              refine WO.nil ?_
              refine thenL_n ?_
              refine WC.seq ?_
              refine WC.seq ?_
              refine WC.region ?_
              refine WO.mv rfl ?_
              refine WO.bin rfl rfl (by decide) (by decide) rfl ?_
              refine WO.mv rfl ?_
              refine WO.cutB (d := 67) 4 ((decide (x52 < 0)) || (decide (x52 ≥ b11))) (fun q54 => ?_) (fun q54 => ?_) ?_
              · refine WO.gno rfl rfl ?_
                refine WO.gno rfl rfl ?_
                refine WO.gno rfl rfl ?_
                refine WO.pickT rfl rfl ?_
                refine WO.nil ?_
                exact ⟨rfl, rfl, (Cov.any rfl (orT q54) (Cov.skip rfl (Cov.skip rfl (Cov.skip rfl (Cov.skip rfl (Cov.skip rfl (Cov.refl _)))))))⟩
              · skip
                refine WO.gyes rfl rfl ?_
                refine WO.mv rfl ?_
                refine WO.gyes rfl rfl ?_
                refine WO.mv rfl ?_
                refine WO.gyes rfl rfl ?_
                refine WO.bin rfl rfl (by decide) (by decide) rfl ?_
                refine WO.pickF rfl rfl ?_
                refine WO.nil ?_
                exact ⟨rfl, rfl, (Cov.any rfl (orF q54) (Cov.skip rfl (Cov.skip rfl (Cov.skip rfl (Cov.skip rfl (Cov.skip rfl (Cov.refl _)))))))⟩
              refine WO.mv rfl ?_
              obtain ⟨y58, e59, h⟩ := bindS h
              refine WO.cutB (d := 72) 4 y58 (fun q57 => ?_) (fun q57 => ?_) ?_
              · have h := e59
                have h := iteT q57 h
                obtain rfl := someI h
                refine WO.gno rfl rfl ?_
                refine WO.gno rfl rfl ?_
                refine WO.gno rfl rfl ?_
                refine WO.pickT rfl rfl ?_
                refine WO.nil ?_
                exact ⟨rfl, rfl, (Cov.cons rfl (Cov.skip rfl (Cov.skip rfl (Cov.skip rfl (Cov.skip rfl (Cov.skip rfl (Cov.refl _)))))))⟩
              · have h := e59
                have h := iteF q57 h
                refine WO.gyes rfl rfl ?_
                refine WO.mv rfl ?_
                refine WO.gyes rfl rfl ?_
                obtain ⟨x55, e56, h⟩ := bindS h
                refine WO.ixR rfl ho20 rfl (at?_lt e56) rfl ?_
                refine WO.gyes rfl rfl ?_
                refine WO.ldR rfl rfl ho20 (at?_get e56) rfl rfl ?_
                obtain rfl := someI h
                refine WO.pickF rfl rfl ?_
                refine WO.nil ?_
                exact ⟨rfl, rfl, (Cov.cons rfl (Cov.skip rfl (Cov.skip rfl (Cov.skip rfl (Cov.skip rfl (Cov.skip rfl (Cov.refl _)))))))⟩
              refine WO.mv rfl ?_
              obtain ⟨y66, e67, h⟩ := bindS h
              refine WO.cutB (d := 85) 12 y66 (fun q65 => ?_) (fun q65 => ?_) ?_
              · have h := e67
                have h := iteT q65 h
                obtain rfl := someI h
                refine WO.gno rfl rfl ?_
                refine WO.gno rfl rfl ?_
                refine WO.gno rfl rfl ?_
                refine WO.gskip rfl rfl ?_
                refine WO.gskip rfl rfl ?_
                refine WO.gskip rfl rfl ?_
                refine WO.gskip rfl rfl ?_
                refine WO.gskip rfl rfl ?_
                refine WO.gskip rfl rfl ?_
                refine WO.gskip rfl rfl ?_
                refine WO.gno rfl rfl ?_
                refine WO.pickT rfl rfl ?_
                refine WO.nil ?_
                exact ⟨rfl, rfl, (Cov.cons rfl (Cov.skip rfl (Cov.skip rfl (Cov.skip rfl (Cov.skip rfl (Cov.skip rfl (Cov.skip rfl (Cov.skip rfl (Cov.skip rfl (Cov.skip rfl (Cov.skip rfl (Cov.skip rfl (Cov.skip rfl (Cov.skip rfl (Cov.refl _)))))))))))))))⟩
              · have h := e67
                have h := iteF q65 h
                refine WO.gyes rfl rfl ?_
                refine WO.mv rfl ?_
                refine WO.gyes rfl rfl ?_
                refine WO.bin rfl rfl (by decide) (by decide) rfl ?_
                refine WO.gyes rfl rfl ?_
                refine WO.mv rfl ?_
                obtain ⟨y63, e64, h⟩ := bindS h
                refine WO.cutB (d := 84) 8 y63 (fun q62 => ?_) (fun q62 => ?_) ?_
                · have h := e64
                  have h := iteT q62 h
                  refine WO.gyes rfl rfl ?_
                  refine WO.mv rfl ?_
                  refine WO.gyes rfl rfl ?_
                  refine WO.mv rfl ?_
                  refine WO.gyes rfl rfl ?_
                  refine WO.mv rfl ?_
                  refine WO.gyes rfl rfl ?_
                  refine WO.bin rfl rfl (by decide) (by decide) rfl ?_
                  refine WO.gyes rfl rfl ?_
                  obtain ⟨x60, e61, h⟩ := bindS h
                  refine WO.ixS rfl rfl ho32.slv (at?_lt e61) rfl ?_
                  refine WO.gyes rfl rfl ?_
                  refine WO.ldF rfl ho32.ro (fun _ hi => hi) (at?_get e61) rfl rfl rfl ?_
                  refine WO.gyes rfl rfl ?_
                  refine WO.bin rfl rfl (by decide) (by decide) rfl ?_
                  obtain rfl := someI h
                  refine WO.gyes rfl rfl ?_
                  refine WO.pickT rfl rfl ?_
                  refine WO.nil ?_
                  exact ⟨rfl, rfl, (Cov.cons rfl (Cov.skip rfl (Cov.skip rfl (Cov.skip rfl (Cov.skip rfl (Cov.skip rfl (Cov.skip rfl (Cov.skip rfl (Cov.skip rfl (Cov.skip rfl (Cov.refl _)))))))))))⟩
                · have h := e64
                  have h := iteF q62 h
                  obtain rfl := someI h
                  refine WO.gno rfl rfl ?_
                  refine WO.gno rfl rfl ?_
                  refine WO.gno rfl rfl ?_
                  refine WO.gno rfl rfl ?_
                  refine WO.gno rfl rfl ?_
                  refine WO.gno rfl rfl ?_
                  refine WO.gno rfl rfl ?_
                  refine WO.gyes rfl rfl ?_
                  refine WO.pickF rfl rfl ?_
                  refine WO.nil ?_
                  exact ⟨rfl, rfl, (Cov.cons rfl (Cov.skip rfl (Cov.skip rfl (Cov.skip rfl (Cov.skip rfl (Cov.skip rfl (Cov.skip rfl (Cov.skip rfl (Cov.skip rfl (Cov.skip rfl (Cov.refl _)))))))))))⟩
                obtain rfl := someI h
                refine WO.pickF rfl rfl ?_
                refine WO.nil ?_
                exact ⟨rfl, rfl, (Cov.cons rfl (Cov.skip rfl (Cov.skip rfl (Cov.skip rfl (Cov.skip rfl (Cov.skip rfl (Cov.refl _)))))))⟩
              refine WO.mv rfl ?_
              obtain ⟨y78, e79, h⟩ := bindS h
              refine WO.cutB (d := 101) 15 y78 (fun q77 => ?_) (fun q77 => ?_) ?_
              · have h := e79
                have h := iteT q77 h
                obtain rfl := someI h
                refine WO.gno rfl rfl ?_
                refine WO.gno rfl rfl ?_
                refine WO.gno rfl rfl ?_
                refine WO.gskip rfl rfl ?_
                refine WO.gskip rfl rfl ?_
                refine WO.gskip rfl rfl ?_
                refine WO.gskip rfl rfl ?_
                refine WO.gskip rfl rfl ?_
                refine WO.gskip rfl rfl ?_
                refine WO.gskip rfl rfl ?_
                refine WO.gskip rfl rfl ?_
                refine WO.gskip rfl rfl ?_
                refine WO.gskip rfl rfl ?_
                refine WO.gno rfl rfl ?_
                refine WO.pickT rfl rfl ?_
                refine WO.nil ?_
                exact ⟨rfl, rfl, (Cov.cons rfl (Cov.skip rfl (Cov.skip rfl (Cov.skip rfl (Cov.skip rfl (Cov.skip rfl (Cov.skip rfl (Cov.skip rfl (Cov.skip rfl (Cov.skip rfl (Cov.skip rfl (Cov.skip rfl (Cov.skip rfl (Cov.skip rfl (Cov.skip rfl (Cov.skip rfl (Cov.skip rfl (Cov.refl _))))))))))))))))))⟩
              · have h := e79
                have h := iteF q77 h
                refine WO.gyes rfl rfl ?_
                refine WO.mv rfl ?_
                refine WO.gyes rfl rfl ?_
                refine WO.bin rfl rfl (by decide) (by decide) rfl ?_
                refine WO.gyes rfl rfl ?_
                refine WO.mv rfl ?_
                obtain ⟨y75, e76, h⟩ := bindS h
                refine WO.cutB (d := 100) 11 y75 (fun q74 => ?_) (fun q74 => ?_) ?_
                · have h := e76
                  have h := iteT q74 h
                  refine WO.gyes rfl rfl ?_
                  refine WO.mv rfl ?_
                  refine WO.gyes rfl rfl ?_
                  refine WO.mv rfl ?_
                  refine WO.gyes rfl rfl ?_
                  refine WO.mv rfl ?_
                  refine WO.gyes rfl rfl ?_
                  refine WO.bin rfl rfl (by decide) (by decide) rfl ?_
                  refine WO.gyes rfl rfl ?_
                  obtain ⟨L68, e69, h⟩ := bindS h
                  refine WO.ixS rfl rfl hot0.slv (at?_lt e69) rfl ?_
                  refine WO.gyes rfl rfl ?_
                  refine WO.ldS rfl hot0.ro (fun _ hi => hi) (at?_get e69) rfl rfl (fun v70 ho71 => ?_)
                  have ho71 : Rd Y3 S49 v70 L68 := ho71
                  refine WO.gyes rfl rfl ?_
                  refine WO.mv rfl ?_
                  refine WO.gyes rfl rfl ?_
                  obtain ⟨x72, e73, h⟩ := bindS h
                  refine WO.ixS rfl rfl ho71.slv (at?_lt e73) rfl ?_
                  refine WO.gyes rfl rfl ?_
                  refine WO.ldF rfl ho71.ro (fun _ hi => hi) (at?_get e73) rfl rfl rfl ?_
                  refine WO.gyes rfl rfl ?_
                  refine WO.bin rfl rfl (by decide) (by decide) rfl ?_
                  obtain rfl := someI h
                  refine WO.gyes rfl rfl ?_
                  refine WO.pickT rfl rfl ?_
                  refine WO.nil ?_
                  exact ⟨rfl, rfl, (Cov.cons rfl (Cov.skip rfl (Cov.skip rfl (Cov.skip rfl (Cov.skip rfl (Cov.skip rfl (Cov.skip rfl (Cov.skip rfl (Cov.skip rfl (Cov.skip rfl (Cov.skip rfl (Cov.skip rfl (Cov.skip rfl (Cov.refl _))))))))))))))⟩
                · have h := e76
                  have h := iteF q74 h
                  obtain rfl := someI h
                  refine WO.gno rfl rfl ?_
                  refine WO.gno rfl rfl ?_
                  refine WO.gno rfl rfl ?_
                  refine WO.gno rfl rfl ?_
                  refine WO.gno rfl rfl ?_
                  refine WO.gno rfl rfl ?_
                  refine WO.gno rfl rfl ?_
                  refine WO.gno rfl rfl ?_
                  refine WO.gno rfl rfl ?_
                  refine WO.gno rfl rfl ?_
                  refine WO.gyes rfl rfl ?_
                  refine WO.pickF rfl rfl ?_
                  refine WO.nil ?_
                  exact ⟨rfl, rfl, (Cov.cons rfl (Cov.skip rfl (Cov.skip rfl (Cov.skip rfl (Cov.skip rfl (Cov.skip rfl (Cov.skip rfl (Cov.skip rfl (Cov.skip rfl (Cov.skip rfl (Cov.skip rfl (Cov.skip rfl (Cov.skip rfl (Cov.refl _))))))))))))))⟩
                obtain rfl := someI h
                refine WO.pickF rfl rfl ?_
                refine WO.nil ?_
                exact ⟨rfl, rfl, (Cov.cons rfl (Cov.skip rfl (Cov.skip rfl (Cov.skip rfl (Cov.skip rfl (Cov.skip rfl (Cov.refl _)))))))⟩
              refine WO.nil ?_
              refine thenL_n ?_
              refine WC.cond rfl (fun q80 => ?_) (fun q80 => ?_)
              · have h := iteT q80 h
                refine WC.seq ?_
                refine WC.region ?_
                refine WO.asg rfl ?_
                refine WO.nil ?_
                refine thenL_n ?_
                refine WC.ret ?_
                refine thenL_r ?_
                refine blockL_r ?_
                refine thenL_r ?_
                refine thenL_r ?_
                obtain rfl := someI h
                exact ⟨_, rfl, rfl, ⟨S49, rfl, rfl, (Cov.cons rfl (Cov.nil _))⟩⟩
              · have h := iteF q80 h
                refine WC.skip ?_
                refine thenL_n ?_
                refine WC.region ?_
                refine WO.mv rfl ?_
                obtain ⟨u81, e82, h⟩ := bindS h
                refine WO.ixR rfl ho20 rfl (ck_some e82) rfl ?_
                refine WO.stR rfl rfl rfl ho20 (ck_nat e82) rfl rfl (fun S83 c84 ho20 => ?_)
                have hot0 := hot0.to c84
                have ho32 := ho32.to c84
                refine WO.nil ?_
                refine blockL_n ?_
                refine thenL_n ?_
                refine WC.region ?_
                refine WO.bin rfl rfl (by decide) (by decide) rfl ?_
                refine WO.mv rfl ?_
                refine WO.nil ?_
                refine thenL_n ?_
                obtain rfl := someI h
                exact ⟨_, rfl, ⟨S83, rfl, rfl, (Cov.cons rfl (Cov.cons rfl (Cov.cons rfl (Cov.cons rfl (Cov.cons rfl (Cov.cons rfl (Cov.cons rfl (Cov.cons rfl (Cov.cons rfl (Cov.cons rfl (Cov.cons rfl (Cov.nil _)))))))))))), hot0, ho20, ho32⟩⟩
            · have h := iteF q51 h
              refine WC.exit ?_
              refine thenL_e ?_
              refine thenL_e ?_
              obtain rfl := someI h
              exact ⟨_, rfl, rfl, ⟨S49, rfl, rfl, (Cov.cons rfl (Cov.cons rfl (Cov.cons rfl (Cov.cons rfl (Cov.cons rfl (Cov.cons rfl (Cov.nil _))))))), hot0, ho20⟩⟩
          cases b85 with
          | inl b87 =>
            simp only at h
            rintro _ _ _ _ ⟨rfl, ⟨S88, rfl, rfl, hc89, hot0, ho20⟩⟩
            refine blockL_s ?_
            refine blockL_n ?_
            refine thenL_n ?_
            refine WC.cov hc89 ?_
            refine WC.region ?_
            refine WO.bin rfl rfl (by decide) (by decide) rfl ?_
            refine WO.mv rfl ?_
            refine WO.nil ?_
            refine thenL_n ?_
            obtain rfl := someI h
            exact ⟨_, rfl, ⟨S88, rfl, rfl, (Cov.cons rfl (Cov.cons rfl (Cov.cons rfl (Cov.cons rfl (Cov.cons rfl (Cov.cons rfl (Cov.nil _))))))), hot0, ho20⟩⟩
          | inr b87 =>
            simp only at h
            rintro _ _ _ _ ⟨rfl, ⟨S90, rfl, rfl, hc91⟩⟩
            refine blockL_r ?_
            refine blockL_r ?_
            refine thenL_r ?_
            refine thenL_r ?_
            obtain rfl := someI h
            exact ⟨_, rfl, rfl, ⟨S90, rfl, rfl, (Cov.trans hc91 (Cov.cons rfl (Cov.nil _)))⟩⟩
      · have h := iteF q28 h
        refine WC.exit ?_
        refine thenL_e ?_
        refine thenL_e ?_
        obtain rfl := someI h
        exact ⟨_, rfl, rfl, ⟨S26, rfl, rfl, (Cov.nil _)⟩⟩
    cases b92 with
    | inl b94 =>
      simp only at h
      rintro _ _ _ _ ⟨rfl, ⟨S95, rfl, rfl, hc96⟩⟩
      refine blockL_s ?_
      refine thenL_n ?_
      refine WC.cov hc96 ?_
      refine WC.seq ?_
      refine WC.region ?_
      refine WO.asg rfl ?_
      refine WO.nil ?_
      refine thenL_n ?_
      refine WC.ret ?_
      obtain rfl := someI h
      exact ⟨.inr rfl, _, _, rfl, rfl, rfl⟩
    | inr b94 =>
      simp only at h
      rintro _ _ _ _ ⟨rfl, ⟨S97, rfl, rfl, hc98⟩⟩
      refine blockL_r ?_
      refine thenL_r ?_
      obtain rfl := someI h
      exact ⟨.inr rfl, _, _, (resK_cov hc98 rfl), rfl, rfl⟩
end Go.Proofs.Ytihmliblbhjlaaa

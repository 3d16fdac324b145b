/- The machine answers F80: printed by a program of ours (gen.py). -/
import Derived.Test.YtkfmedmanhcdeaaDef
import Derived.Test.YtkfmedmanhcdeaaEnv
import Derived.Test.YtkfmedmanhcdeaaF84
set_option linter.unusedVariables false
namespace Go.Proofs.Ytkfmedmanhcdeaa
open Go.Am
theorem F80.fn : E.fn 80 = some ⟨134, (Try.f80.body.getD .skip), Try.f80.results.toList, []⟩ := rfl
theorem F80_ok {F : Nat} {m : Mem} {n : Nat} {r : (List (Int × Int)) × Int} {t0 : List Int} {vt0 : SV} (h : F80 F t0 = some r) (kt0 : Vw Y3 n m vt0 t0) : Ret E n 80 [.sc vt0] m n (fun v m' n' => ∃ w, v = .tup [.sc w, .sc (.int .i64 r.2)] ∧ Fr Y90 n m' n' w r.1) := by
  unfold F80 at h
  refine Ret.walk F80.fn ?_
  refine WC.start fun S0 em en hz => ?_
  have hot0 := kt0.rdS em hz
  refine WC.seq ?_
  refine WC.region ?_
  refine WO.asg rfl ?_
  refine WO.asg rfl ?_
  refine WO.nil ?_
  refine thenL_n ?_
  refine WC.seq ?_
  refine WC.seq ?_
  refine WC.region ?_
  refine WO.mv rfl ?_
  obtain ⟨r1, e2, h⟩ := bindS h
  refine WO.callE (S := S0) rfl rfl (F84_ok e2 hot0.vw) (fun S3 c4 => ?_)
  have hot0 := hot0.to c4
  refine WO.asg rfl ?_
  refine WO.nil ?_
  refine thenL_n ?_
  refine WC.seq ?_
  refine WC.region ?_
  refine WO.mv rfl ?_
  refine WO.bin rfl rfl (by decide) (by decide) rfl ?_
  refine WO.nil ?_
  refine thenL_n ?_
  refine WC.cond rfl (fun q5 => ?_) (fun q5 => ?_)
  · have h := iteT q5 h
    refine WC.seq ?_
    refine WC.region ?_
    refine WO.mv rfl ?_
    refine WO.asg rfl ?_
    refine WO.asg rfl ?_
    refine WO.nil ?_
    refine thenL_n ?_
    refine WC.ret ?_
    refine thenL_r ?_
    obtain rfl := someI h
    exact ⟨.inr rfl, _, _, rfl, rfl, ⟨.nils, rfl, Fr.nil⟩⟩
  · have h := iteF q5 h
    refine WC.skip ?_
    refine thenL_n ?_
    refine WC.seq ?_
    refine WC.region ?_
    refine WO.mv rfl ?_
    refine WO.lenS rfl hot0.slv rfl ?_
    refine WO.asg rfl ?_
    refine WO.asg rfl ?_
    refine WO.nil ?_
    refine thenL_n ?_
    refine WC.seq ?_
    refine WC.seq ?_
    refine WC.region ?_
    refine WO.mv rfl ?_
    refine WO.lenS rfl hot0.slv rfl ?_
    refine WO.mv rfl ?_
    refine WO.nil ?_
    refine thenL_n ?_
    refine WC.block ?_
    obtain ⟨b14, e15, h⟩ := bindS h
    refine WC.loopD e15 (fun s6 l' m' n' => ∃ S7 : Cx n, S7.m = m' ∧ S7.n = n' ∧ Cov l' [(0, .sc vt0), (5, .sc (.int .i64 ((t0.length : Int)))), (6, .sc (.int .i64 s6.1)), (25, .sc vt0), (26, .sc (.int .i64 ((t0.length : Int)))), (27, .sc (.int .i64 s6.2))] ∧ Rd Y3 S7 vt0 t0) (fun b e l' m' n' => e = .exit 0 ∧ ∃ S8 : Cx n, S8.m = m' ∧ S8.n = n' ∧ Cov l' [(0, .sc vt0), (5, .sc (.int .i64 ((t0.length : Int)))), (6, .sc (.int .i64 b))] ∧ Rd Y3 S8 vt0 t0) (by exact ⟨S3, rfl, rfl, (Cov.cons rfl (Cov.cons rfl (Cov.cons rfl (Cov.cons rfl (Cov.cons rfl (Cov.cons rfl (Cov.nil _))))))), hot0⟩) ?_ ?_
    · clear h
      rintro s6 q _ _ _ ⟨S9, rfl, rfl, hc10, hot0⟩ h
      unfold F80_l0 at h
      refine WC.cov hc10 ?_
      refine WC.seq ?_
      refine WC.region ?_
      refine WO.bin rfl rfl (by decide) (by decide) rfl ?_
      refine WO.nil ?_
      refine thenL_n ?_
      refine WC.seq ?_
      refine WC.cond rfl (fun q11 => ?_) (fun q11 => ?_)
      · have h := iteT q11 h
        refine WC.skip ?_
        refine thenL_n ?_
        refine WC.seq ?_
        refine WC.block ?_
        refine WC.seq ?_
        refine WC.region ?_
        obtain ⟨x12, e13, h⟩ := bindS h
        refine WO.ixS rfl rfl hot0.slv (at?_lt e13) rfl ?_
        refine WO.ldF rfl hot0.ro (fun _ hi => hi) (at?_get e13) rfl rfl rfl ?_
        refine WO.asg rfl ?_
        refine WO.nil ?_
        refine thenL_n ?_
        refine WC.region ?_
        refine WO.mv rfl ?_
        refine WO.mv rfl ?_
        refine WO.bin rfl rfl (by decide) (by decide) rfl ?_
        refine WO.asg rfl ?_
        refine WO.nil ?_
        refine blockL_n ?_
        refine thenL_n ?_
        refine WC.region ?_
        refine WO.bin rfl rfl (by decide) (by decide) rfl ?_
        refine WO.mv rfl ?_
        refine WO.nil ?_
        refine thenL_n ?_
        obtain rfl := someI h
        exact ⟨_, rfl, ⟨S9, rfl, rfl, (Cov.cons rfl (Cov.cons rfl (Cov.cons rfl (Cov.cons rfl (Cov.cons rfl (Cov.cons rfl (Cov.nil _))))))), hot0⟩⟩
      · have h := iteF q11 h
        refine WC.exit ?_
        refine thenL_e ?_
        refine thenL_e ?_
        obtain rfl := someI h
        exact ⟨_, rfl, rfl, ⟨S9, rfl, rfl, (Cov.cons rfl (Cov.cons rfl (Cov.cons rfl (Cov.nil _)))), hot0⟩⟩
    rintro _ _ _ _ ⟨rfl, ⟨S16, rfl, rfl, hc17, hot0⟩⟩
    refine blockL_s ?_
    refine thenL_n ?_
    refine WC.cov hc17 ?_
    refine WC.seq ?_
    refine WC.region ?_
    refine WO.mv rfl ?_
    obtain ⟨L18, e19, h⟩ := bindS h
    refine WO.mkS (A := Y3) (S := S16) 2 rfl rfl e19 rfl rfl rfl (fun v20 S21 c22 ho23 => ?_)
    have hot0 := hot0.to c22
    refine WO.asg rfl ?_
    refine WO.nil ?_
    refine thenL_n ?_
    refine WC.seq ?_
    refine WC.seq ?_
    refine WC.region ?_
    refine WO.mv rfl ?_
    refine WO.lenS rfl hot0.slv rfl ?_
    refine WO.mv rfl ?_
    refine WO.nil ?_
    refine thenL_n ?_
    refine WC.block ?_
    obtain ⟨b36, e37, h⟩ := bindS h
    refine WC.loopD e37 (fun s24 l' m' n' => ∃ S25 : Cx n, S25.m = m' ∧ S25.n = n' ∧ Cov l' [(5, .sc (.int .i64 ((t0.length : Int)))), (6, .sc (.int .i64 b14)), (9, .sc v20), (37, .sc vt0), (38, .sc (.int .i64 ((t0.length : Int)))), (39, .sc (.int .i64 s24.1))] ∧ Ow Y3 S25 2 v20 s24.2 ∧ Rd Y3 S25 vt0 t0) (fun b e l' m' n' => e = .exit 2 ∧ ∃ S26 : Cx n, S26.m = m' ∧ S26.n = n' ∧ Cov l' [(5, .sc (.int .i64 ((t0.length : Int)))), (6, .sc (.int .i64 b14)), (9, .sc v20)] ∧ Ow Y3 S26 2 v20 b) (by exact ⟨S21, rfl, rfl, (Cov.cons rfl (Cov.cons rfl (Cov.cons rfl (Cov.cons rfl (Cov.cons rfl (Cov.cons rfl (Cov.nil _))))))), ho23, hot0⟩) ?_ ?_
    · clear h
      rintro s24 q _ _ _ ⟨S27, rfl, rfl, hc28, ho23, hot0⟩ h
      unfold F80_l1 at h
      refine WC.cov hc28 ?_
      refine WC.seq ?_
      refine WC.region ?_
      refine WO.bin rfl rfl (by decide) (by decide) rfl ?_
      refine WO.nil ?_
      refine thenL_n ?_
      refine WC.seq ?_
      refine WC.cond rfl (fun q29 => ?_) (fun q29 => ?_)
      · have h := iteT q29 h
        refine WC.skip ?_
        refine thenL_n ?_
        refine WC.seq ?_
        refine WC.block ?_
        refine WC.seq ?_
        refine WC.region ?_
        refine WO.mv rfl ?_
        obtain ⟨x30, e31, h⟩ := bindS h
        refine WO.ixS rfl rfl hot0.slv (at?_lt e31) rfl ?_
        refine WO.ldF rfl hot0.ro (fun _ hi => hi) (at?_get e31) rfl rfl rfl ?_
        refine WO.asg rfl ?_
        refine WO.asg rfl ?_
        refine WO.nil ?_
        refine thenL_n ?_
        refine WC.region ?_
        refine WO.mv rfl ?_
        refine WO.mv rfl ?_
        refine WO.mv rfl ?_
        refine WO.mv rfl ?_
        refine WO.bin rfl rfl (by decide) (by decide) rfl ?_
        obtain ⟨u32, e33, h⟩ := bindS h
        refine WO.ixS rfl rfl ho23.slv (ck_some e33) rfl ?_
        refine WO.st1 (u' := (wrapA .i64 (x30 * (t0.length : Int)))) rfl rfl ho23 (ck_nat e33) rfl rfl (fun S34 c35 ho23 => ?_)
        have hot0 := hot0.to c35
        refine WO.nil ?_
        refine blockL_n ?_
        refine thenL_n ?_
        refine WC.region ?_
        refine WO.bin rfl rfl (by decide) (by decide) rfl ?_
        refine WO.mv rfl ?_
        refine WO.nil ?_
        refine thenL_n ?_
        obtain rfl := someI h
        exact ⟨_, rfl, ⟨S34, rfl, rfl, (Cov.cons rfl (Cov.cons rfl (Cov.cons rfl (Cov.cons rfl (Cov.cons rfl (Cov.cons rfl (Cov.nil _))))))), ho23, hot0⟩⟩
      · have h := iteF q29 h
        refine WC.exit ?_
        refine thenL_e ?_
        refine thenL_e ?_
        obtain rfl := someI h
        exact ⟨_, rfl, rfl, ⟨S27, rfl, rfl, (Cov.cons rfl (Cov.cons rfl (Cov.cons rfl (Cov.nil _)))), ho23⟩⟩
    rintro _ _ _ _ ⟨rfl, ⟨S38, rfl, rfl, hc39, ho23⟩⟩
    refine blockL_s ?_
    refine thenL_n ?_
    refine WC.cov hc39 ?_
    refine WC.seq ?_
    refine WC.region ?_
    refine WO.mv rfl ?_
    obtain ⟨L40, e41, h⟩ := bindS h
    refine WO.mkS (A := Y90) (S := S38) 3 rfl rfl e41 rfl rfl rfl (fun v42 S43 c44 ho45 => ?_)
    have ho23 := ho23.to c44
    refine WO.asg rfl ?_
    refine WO.nil ?_
    refine thenL_n ?_
    refine WC.seq ?_
    refine WC.region ?_
    refine WO.mv rfl ?_
    obtain ⟨L46, e47, h⟩ := bindS h
    refine WO.mkS (A := Y3) (S := S43) 4 rfl rfl e47 rfl rfl rfl (fun v48 S49 c50 ho51 => ?_)
    have ho23 := ho23.to c50
    have ho45 := ho45.to c50
    refine WO.asg rfl ?_
    refine WO.nil ?_
    refine thenL_n ?_
    refine WC.seq ?_
    refine WC.seq ?_
    refine WC.region ?_
    refine WO.mv rfl ?_
    refine WO.mv rfl ?_
    refine WO.nil ?_
    refine thenL_n ?_
    refine WC.block ?_
    obtain ⟨b124, e125, h⟩ := bindS h
    refine WC.loopD e125 (fun s52 l' m' n' => ∃ S53 : Cx n, S53.m = m' ∧ S53.n = n' ∧ Cov l' [(6, .sc (.int .i64 b14)), (9, .sc v20), (12, .sc v42), (13, .sc v48), (55, .sc (.int .i64 ((t0.length : Int)))), (56, .sc (.int .i64 s52.1))] ∧ Ow Y3 S53 2 v20 s52.2.1 ∧ Ow Y90 S53 3 v42 s52.2.2.1 ∧ Ow Y3 S53 4 v48 s52.2.2.2) (fun b e l' m' n' => e = .exit 4 ∧ ∃ S54 : Cx n, S54.m = m' ∧ S54.n = n' ∧ Cov l' [(12, .sc v42)] ∧ Ow Y90 S54 3 v42 b) (by exact ⟨S49, rfl, rfl, (Cov.cons rfl (Cov.cons rfl (Cov.cons rfl (Cov.cons rfl (Cov.cons rfl (Cov.cons rfl (Cov.nil _))))))), ho23, ho45, ho51⟩) ?_ ?_
    · clear h
      rintro s52 q _ _ _ ⟨S55, rfl, rfl, hc56, ho23, ho45, ho51⟩ h
      unfold F80_l3 at h
      refine WC.cov hc56 ?_
      refine WC.seq ?_
      refine WC.region ?_
      refine WO.bin rfl rfl (by decide) (by decide) rfl ?_
      refine WO.nil ?_
      refine thenL_n ?_
      refine WC.seq ?_
      refine WC.cond rfl (fun q57 => ?_) (fun q57 => ?_)
      · have h := iteT q57 h
        refine WC.skip ?_
        refine thenL_n ?_
        refine WC.seq ?_
        refine WC.block ?_
        refine WC.seq ?_
        refine WC.region ?_
        refine WO.asg rfl ?_
        refine WO.asg rfl ?_
        refine WO.nil ?_
        refine thenL_n ?_
        refine WC.seq ?_
        refine WC.seq ?_
        refine WC.region ?_
        refine WO.mv rfl ?_
        refine WO.lenS rfl ho23.slv rfl ?_
        refine WO.mv rfl ?_
        refine WO.nil ?_
        refine thenL_n ?_
        refine WC.block ?_
        obtain ⟨b93, e94, h⟩ := bindS h
        refine WC.loopD e94 (fun s58 l' m' n' => ∃ S59 : Cx n, S59.m = m' ∧ S59.n = n' ∧ Cov l' [(6, .sc (.int .i64 b14)), (9, .sc v20), (12, .sc v42), (13, .sc v48), (14, .sc (.int .i64 s58.1)), (15, .sc (.int .i64 s58.2.1)), (55, .sc (.int .i64 ((t0.length : Int)))), (56, .sc (.int .i64 s52.1)), (58, .sc v20), (59, .sc (.int .i64 ((s52.2.1.length : Int)))), (60, .sc (.int .i64 s58.2.2))] ∧ Ow Y3 S59 2 v20 s52.2.1 ∧ Ow Y90 S59 3 v42 s52.2.2.1 ∧ Ow Y3 S59 4 v48 s52.2.2.2) (fun b e l' m' n' => e = .exit 6 ∧ ∃ S60 : Cx n, S60.m = m' ∧ S60.n = n' ∧ Cov l' [(6, .sc (.int .i64 b14)), (9, .sc v20), (12, .sc v42), (13, .sc v48), (14, .sc (.int .i64 b.1)), (15, .sc (.int .i64 b.2)), (55, .sc (.int .i64 ((t0.length : Int)))), (56, .sc (.int .i64 s52.1))] ∧ Ow Y3 S60 2 v20 s52.2.1 ∧ Ow Y90 S60 3 v42 s52.2.2.1 ∧ Ow Y3 S60 4 v48 s52.2.2.2) (by exact ⟨S55, rfl, rfl, (Cov.cons rfl (Cov.cons rfl (Cov.cons rfl (Cov.cons rfl (Cov.cons rfl (Cov.cons rfl (Cov.cons rfl (Cov.cons rfl (Cov.cons rfl (Cov.cons rfl (Cov.cons rfl (Cov.nil _)))))))))))), ho23, ho45, ho51⟩) ?_ ?_
        · clear h
          rintro s58 q _ _ _ ⟨S61, rfl, rfl, hc62, ho23, ho45, ho51⟩ h
          unfold F80_l2 at h
          refine WC.cov hc62 ?_
          refine WC.seq ?_
          refine WC.region ?_
          refine WO.bin rfl rfl (by decide) (by decide) rfl ?_
          refine WO.nil ?_
          refine thenL_n ?_
          refine WC.seq ?_
          refine WC.cond rfl (fun q63 => ?_) (fun q63 => ?_)
          · have h := iteT q63 h
            refine WC.skip ?_
            refine thenL_n ?_
            refine WC.seq ?_
            refine WC.block ?_
            refine WC.seq ?_
            refine WC.region ?_
            refine WO.mv rfl ?_
            obtain ⟨x64, e65, h⟩ := bindS h
            refine WO.ixS rfl rfl ho23.slv (at?_lt e65) rfl ?_
            refine WO.ldF rfl ho23.ro (fun _ hi => hi) (at?_get e65) rfl rfl rfl ?_
            refine WO.asg rfl ?_
            refine WO.asg rfl ?_
            refine WO.nil ?_
            refine thenL_n ?_
            refine WC.seq ?_
            refine WC.seq ?_
            refine WC.region ?_
            refine WO.mv rfl ?_
            refine WO.mv rfl ?_
            obtain ⟨x66, e67, h⟩ := bindS h
            refine WO.ixS rfl rfl ho51.slv (at?_lt e67) rfl ?_
            refine WO.ldF rfl ho51.ro (fun _ hi => hi) (at?_get e67) rfl rfl rfl ?_
            refine WO.bin rfl rfl (by decide) (by decide) rfl ?_
            refine WO.mv rfl ?_
            obtain ⟨y74, e75, h⟩ := bindS h
            refine WO.cutB (d := 81) 11 y74 (fun q73 => ?_) (fun q73 => ?_) ?_
            · have h := e75
              have h := iteT q73 h
              refine WO.gyes rfl rfl ?_
              refine WO.mv rfl ?_
              refine WO.gyes rfl rfl ?_
              refine WO.bin rfl rfl (by decide) (by decide) rfl ?_
              refine WO.gyes rfl rfl ?_
              refine WO.mv rfl ?_
              obtain ⟨y71, e72, h⟩ := bindS h
              refine WO.cutB (d := 80) 7 y71 (fun q70 => ?_) (fun q70 => ?_) ?_
              · have h := e72
                have h := iteT q70 h
                obtain rfl := someI h
                refine WO.gno rfl rfl ?_
                refine WO.gno rfl rfl ?_
                refine WO.gno rfl rfl ?_
                refine WO.gno rfl rfl ?_
                refine WO.gno rfl rfl ?_
                refine WO.gno rfl rfl ?_
                refine WO.gyes rfl rfl ?_
                refine WO.pickT rfl rfl ?_
                refine WO.nil ?_
                exact ⟨rfl, rfl, (Cov.cons rfl (Cov.skip rfl (Cov.skip rfl (Cov.skip rfl (Cov.skip rfl (Cov.skip rfl (Cov.skip rfl (Cov.skip rfl (Cov.skip rfl (Cov.refl _))))))))))⟩
              · have h := e72
                have h := iteF q70 h
                refine WO.gyes rfl rfl ?_
                refine WO.mv rfl ?_
                refine WO.gyes rfl rfl ?_
                refine WO.mv rfl ?_
                refine WO.gyes rfl rfl ?_
                refine WO.mv rfl ?_
                refine WO.gyes rfl rfl ?_
                obtain ⟨x68, e69, h⟩ := bindS h
                refine WO.ixS rfl rfl ho23.slv (at?_lt e69) rfl ?_
                refine WO.gyes rfl rfl ?_
                refine WO.ldF rfl ho23.ro (fun _ hi => hi) (at?_get e69) rfl rfl rfl ?_
                refine WO.gyes rfl rfl ?_
                refine WO.bin rfl rfl (by decide) (by decide) rfl ?_
                obtain rfl := someI h
                refine WO.gyes rfl rfl ?_
                refine WO.pickF rfl rfl ?_
                refine WO.nil ?_
                exact ⟨rfl, rfl, (Cov.cons rfl (Cov.skip rfl (Cov.skip rfl (Cov.skip rfl (Cov.skip rfl (Cov.skip rfl (Cov.skip rfl (Cov.skip rfl (Cov.skip rfl (Cov.refl _))))))))))⟩
              obtain rfl := someI h
              refine WO.pickT rfl rfl ?_
              refine WO.nil ?_
              exact ⟨rfl, rfl, (Cov.cons rfl (Cov.skip rfl (Cov.skip rfl (Cov.skip rfl (Cov.skip rfl (Cov.skip rfl (Cov.refl _)))))))⟩
            · have h := e75
              have h := iteF q73 h
              obtain rfl := someI h
              refine WO.gno rfl rfl ?_
              refine WO.gno rfl rfl ?_
              refine WO.gno rfl rfl ?_
              refine WO.gskip rfl rfl ?_
              refine WO.gskip rfl rfl ?_
              refine WO.gskip rfl rfl ?_
              refine WO.gskip rfl rfl ?_
              refine WO.gskip rfl rfl ?_
              refine WO.gskip rfl rfl ?_
              refine WO.gno rfl rfl ?_
              refine WO.pickF rfl rfl ?_
              refine WO.nil ?_
              exact ⟨rfl, rfl, (Cov.cons rfl (Cov.skip rfl (Cov.skip rfl (Cov.skip rfl (Cov.skip rfl (Cov.skip rfl (Cov.skip rfl (Cov.skip rfl (Cov.skip rfl (Cov.skip rfl (Cov.skip rfl (Cov.skip rfl (Cov.skip rfl (Cov.refl _))))))))))))))⟩
            refine WO.nil ?_
            refine thenL_n ?_
            obtain ⟨b77, e78, h⟩ := bindS h
            refine WC.mono (Q' := (fun b e l' m' n' => e = .normal ∧ ∃ S79 : Cx n, S79.m = m' ∧ S79.n = n' ∧ Cov l' [(6, .sc (.int .i64 b14)), (9, .sc v20), (12, .sc v42), (13, .sc v48), (14, .sc (.int .i64 b)), (15, .sc (.int .i64 s58.2.1)), (16, .sc (.int .i64 s58.2.2)), (17, .sc (.int .i64 x64)), (55, .sc (.int .i64 ((t0.length : Int)))), (56, .sc (.int .i64 s52.1)), (58, .sc v20), (59, .sc (.int .i64 ((s52.2.1.length : Int)))), (60, .sc (.int .i64 s58.2.2))] ∧ Ow Y3 S79 2 v20 s52.2.1 ∧ Ow Y90 S79 3 v42 s52.2.2.1 ∧ Ow Y3 S79 4 v48 s52.2.2.2) b77) ?_ ?_
            · have h := e78
              dsimp only at h ⊢
              refine WC.cond rfl (fun q76 => ?_) (fun q76 => ?_)
              · have h := iteT q76 h
                refine WC.region ?_
                refine WO.mv rfl ?_
                refine WO.asg rfl ?_
                refine WO.nil ?_
                obtain rfl := someI h
                exact ⟨rfl, ⟨S61, rfl, rfl, (Cov.cons rfl (Cov.cons rfl (Cov.cons rfl (Cov.cons rfl (Cov.cons rfl (Cov.cons rfl (Cov.cons rfl (Cov.cons rfl (Cov.cons rfl (Cov.cons rfl (Cov.cons rfl (Cov.cons rfl (Cov.cons rfl (Cov.nil _)))))))))))))), ho23, ho45, ho51⟩⟩
              · have h := iteF q76 h
                refine WC.skip ?_
                obtain rfl := someI h
                exact ⟨rfl, ⟨S61, rfl, rfl, (Cov.cons rfl (Cov.cons rfl (Cov.cons rfl (Cov.cons rfl (Cov.cons rfl (Cov.cons rfl (Cov.cons rfl (Cov.cons rfl (Cov.cons rfl (Cov.cons rfl (Cov.cons rfl (Cov.cons rfl (Cov.cons rfl (Cov.nil _)))))))))))))), ho23, ho45, ho51⟩⟩
            dsimp only
            rintro _ _ _ _ ⟨rfl, ⟨S80, rfl, rfl, hc81, ho23, ho45, ho51⟩⟩
            refine thenL_n ?_
            refine WC.cov hc81 ?_
            refine WC.seq ?_
            refine WC.region ?_
            refine WO.mv rfl ?_
            refine WO.mv rfl ?_
            obtain ⟨x82, e83, h⟩ := bindS h
            refine WO.ixS rfl rfl ho51.slv (at?_lt e83) rfl ?_
            refine WO.ldF rfl ho51.ro (fun _ hi => hi) (at?_get e83) rfl rfl rfl ?_
            refine WO.bin rfl rfl (by decide) (by decide) rfl ?_
            refine WO.mv rfl ?_
            obtain ⟨y90, e91, h⟩ := bindS h
            refine WO.cutB (d := 99) 11 y90 (fun q89 => ?_) (fun q89 => ?_) ?_
            · have h := e91
              have h := iteT q89 h
              refine WO.gyes rfl rfl ?_
              refine WO.mv rfl ?_
              refine WO.gyes rfl rfl ?_
              refine WO.bin rfl rfl (by decide) (by decide) rfl ?_
              refine WO.gyes rfl rfl ?_
              refine WO.mv rfl ?_
              obtain ⟨y87, e88, h⟩ := bindS h
              refine WO.cutB (d := 98) 7 y87 (fun q86 => ?_) (fun q86 => ?_) ?_
              · have h := e88
                have h := iteT q86 h
                obtain rfl := someI h
                refine WO.gno rfl rfl ?_
                refine WO.gno rfl rfl ?_
                refine WO.gno rfl rfl ?_
                refine WO.gno rfl rfl ?_
                refine WO.gno rfl rfl ?_
                refine WO.gno rfl rfl ?_
                refine WO.gyes rfl rfl ?_
                refine WO.pickT rfl rfl ?_
                refine WO.nil ?_
                exact ⟨rfl, rfl, (Cov.cons rfl (Cov.skip rfl (Cov.skip rfl (Cov.skip rfl (Cov.skip rfl (Cov.skip rfl (Cov.skip rfl (Cov.skip rfl (Cov.skip rfl (Cov.refl _))))))))))⟩
              · have h := e88
                have h := iteF q86 h
                refine WO.gyes rfl rfl ?_
                refine WO.mv rfl ?_
                refine WO.gyes rfl rfl ?_
                refine WO.mv rfl ?_
                refine WO.gyes rfl rfl ?_
                refine WO.mv rfl ?_
                refine WO.gyes rfl rfl ?_
                obtain ⟨x84, e85, h⟩ := bindS h
                refine WO.ixS rfl rfl ho23.slv (at?_lt e85) rfl ?_
                refine WO.gyes rfl rfl ?_
                refine WO.ldF rfl ho23.ro (fun _ hi => hi) (at?_get e85) rfl rfl rfl ?_
                refine WO.gyes rfl rfl ?_
                refine WO.bin rfl rfl (by decide) (by decide) rfl ?_
                obtain rfl := someI h
                refine WO.gyes rfl rfl ?_
                refine WO.pickF rfl rfl ?_
                refine WO.nil ?_
                exact ⟨rfl, rfl, (Cov.cons rfl (Cov.skip rfl (Cov.skip rfl (Cov.skip rfl (Cov.skip rfl (Cov.skip rfl (Cov.skip rfl (Cov.skip rfl (Cov.skip rfl (Cov.refl _))))))))))⟩
              obtain rfl := someI h
              refine WO.pickT rfl rfl ?_
              refine WO.nil ?_
              exact ⟨rfl, rfl, (Cov.cons rfl (Cov.skip rfl (Cov.skip rfl (Cov.skip rfl (Cov.skip rfl (Cov.skip rfl (Cov.refl _)))))))⟩
            · have h := e91
              have h := iteF q89 h
              obtain rfl := someI h
              refine WO.gno rfl rfl ?_
              refine WO.gno rfl rfl ?_
              refine WO.gno rfl rfl ?_
              refine WO.gskip rfl rfl ?_
              refine WO.gskip rfl rfl ?_
              refine WO.gskip rfl rfl ?_
              refine WO.gskip rfl rfl ?_
              refine WO.gskip rfl rfl ?_
              refine WO.gskip rfl rfl ?_
              refine WO.gno rfl rfl ?_
              refine WO.pickF rfl rfl ?_
              refine WO.nil ?_
              exact ⟨rfl, rfl, (Cov.cons rfl (Cov.skip rfl (Cov.skip rfl (Cov.skip rfl (Cov.skip rfl (Cov.skip rfl (Cov.skip rfl (Cov.skip rfl (Cov.skip rfl (Cov.skip rfl (Cov.skip rfl (Cov.skip rfl (Cov.skip rfl (Cov.refl _))))))))))))))⟩
            refine WO.nil ?_
            refine thenL_n ?_
            refine WC.cond rfl (fun q92 => ?_) (fun q92 => ?_)
            · have h := iteT q92 h
              refine WC.region ?_
              refine WO.mv rfl ?_
              refine WO.asg rfl ?_
              refine WO.nil ?_
              refine blockL_n ?_
              refine thenL_n ?_
              refine WC.region ?_
              refine WO.bin rfl rfl (by decide) (by decide) rfl ?_
              refine WO.mv rfl ?_
              refine WO.nil ?_
              refine thenL_n ?_
              obtain rfl := someI h
              exact ⟨_, rfl, ⟨S80, rfl, rfl, (Cov.cons rfl (Cov.cons rfl (Cov.cons rfl (Cov.cons rfl (Cov.cons rfl (Cov.cons rfl (Cov.cons rfl (Cov.cons rfl (Cov.cons rfl (Cov.cons rfl (Cov.cons rfl (Cov.nil _)))))))))))), ho23, ho45, ho51⟩⟩
            · have h := iteF q92 h
              refine WC.skip ?_
              refine blockL_n ?_
              refine thenL_n ?_
              refine WC.region ?_
              refine WO.bin rfl rfl (by decide) (by decide) rfl ?_
              refine WO.mv rfl ?_
              refine WO.nil ?_
              refine thenL_n ?_
              obtain rfl := someI h
              exact ⟨_, rfl, ⟨S80, rfl, rfl, (Cov.cons rfl (Cov.cons rfl (Cov.cons rfl (Cov.cons rfl (Cov.cons rfl (Cov.cons rfl (Cov.cons rfl (Cov.cons rfl (Cov.cons rfl (Cov.cons rfl (Cov.cons rfl (Cov.nil _)))))))))))), ho23, ho45, ho51⟩⟩
          · have h := iteF q63 h
            refine WC.exit ?_
            refine thenL_e ?_
            refine thenL_e ?_
            obtain rfl := someI h
            exact ⟨_, rfl, rfl, ⟨S61, rfl, rfl, (Cov.cons rfl (Cov.cons rfl (Cov.cons rfl (Cov.cons rfl (Cov.cons rfl (Cov.cons rfl (Cov.cons rfl (Cov.cons rfl (Cov.nil _))))))))), ho23, ho45, ho51⟩⟩
        rintro _ _ _ _ ⟨rfl, ⟨S95, rfl, rfl, hc96, ho23, ho45, ho51⟩⟩
        refine blockL_s ?_
        refine thenL_n ?_
        refine WC.cov hc96 ?_
        refine WC.seq ?_
        refine WC.region ?_
        refine WO.mv rfl ?_
        refine WO.mv rfl ?_
        refine WO.mv rfl ?_
        refine WO.mv rfl ?_
        obtain ⟨x97, e98, h⟩ := bindS h
        refine WO.ixS rfl rfl ho23.slv (at?_lt e98) rfl ?_
        refine WO.ldF rfl ho23.ro (fun _ hi => hi) (at?_get e98) rfl rfl rfl ?_
        refine WO.mv rfl ?_
        refine WO.do rfl rfl ?_
        obtain ⟨u99, e100, h⟩ := bindS h
        refine WO.ixS rfl rfl ho45.slv (ck_some e100) rfl ?_
        refine WO.stA (u' := (x97, b93.2)) rfl rfl ho45 (ck_nat e100) rfl rfl (fun S101 c102 ho45 => ?_)
        have ho23 := ho23.to c102
        have ho51 := ho51.to c102
        refine WO.nil ?_
        refine thenL_n ?_
        refine WC.seq ?_
        refine WC.drawN rfl ?_
        have ho23z := ho23.oz
        have ho45z := ho45.oz
        have ho51z := ho51.oz
        refine WO.mv rfl ?_
        refine WO.mv rfl ?_
        obtain ⟨x103, e104, h⟩ := bindS h
        refine WO.ixS rfl rfl ho23.slv (at?_lt e104) rfl ?_
        refine WO.ldF rfl ho23z (fun _ hi => hi.1) (at?_get e104) rfl rfl (limLe_self _) ?_
        refine WO.mv rfl ?_
        refine WO.mv rfl ?_
        refine WO.mv rfl ?_
        obtain ⟨x105, e106, h⟩ := bindS h
        refine WO.ixS rfl rfl ho23.slv (at?_lt e106) rfl ?_
        refine WO.ldF rfl ho23z (fun _ hi => hi.1) (at?_get e106) rfl rfl (limLe_self _) ?_
        refine WO.bin rfl rfl (by decide) (by decide) rfl ?_
        refine WO.bin rfl rfl (by decide) (by decide) rfl ?_
        obtain ⟨u107, e108, h⟩ := bindS h
        refine WO.ixS rfl rfl ho23.slv (ck_some e108) rfl ?_
        refine WO.st1 (u' := (wrapA .i64 (x103 - (wrapA .i64 (b14 - x105))))) rfl rfl ho23 (ck_nat e108) rfl rfl (fun S109 c110 ho23 => ?_)
        have ho45z := ho45z.tow c110
        have ho51z := ho51z.tow c110
        have ho45 := ho45.to c110
        have ho51 := ho51.to c110
        refine WO.nil ?_
        refine thenL_n ?_
        refine WC.seq ?_
        refine WC.seq ?_
        refine WC.region ?_
        refine WO.mv rfl ?_
        refine WO.mv rfl ?_
        refine WO.bin rfl rfl (by decide) (by decide) rfl ?_
        refine WO.nil ?_
        refine thenL_n ?_
        refine WC.cond rfl (fun q111 => ?_) (fun q111 => ?_)
        · have h := iteT q111 h
          refine WC.region ?_
          refine WO.mv rfl ?_
          refine WO.mv rfl ?_
          obtain ⟨u112, e113, h⟩ := bindS h
          refine WO.ixS rfl rfl ho23.slv (ck_some e113) rfl ?_
          refine WO.st1 (u' := 0) rfl rfl ho23 (ck_nat e113) rfl rfl (fun S114 c115 ho23 => ?_)
          have ho45 := ho45.to c115
          have ho51 := ho51.to c115
          refine WO.nil ?_
          refine thenL_n ?_
          refine WC.region ?_
          refine WO.mv rfl ?_
          refine WO.mv rfl ?_
          obtain ⟨u116, e117, h⟩ := bindS h
          refine WO.ixS rfl rfl ho51.slv (ck_some e117) rfl ?_
          refine WO.st1 (u' := 1) rfl rfl ho51 (ck_nat e117) rfl rfl (fun S118 c119 ho51 => ?_)
          have ho23 := ho23.to c119
          have ho45 := ho45.to c119
          refine WO.nil ?_
          refine blockL_n ?_
          refine thenL_n ?_
          refine WC.region ?_
          refine WO.bin rfl rfl (by decide) (by decide) rfl ?_
          refine WO.mv rfl ?_
          refine WO.nil ?_
          refine thenL_n ?_
          obtain rfl := someI h
          exact ⟨_, rfl, ⟨S118, rfl, rfl, (Cov.cons rfl (Cov.cons rfl (Cov.cons rfl (Cov.cons rfl (Cov.cons rfl (Cov.cons rfl (Cov.nil _))))))), ho23, ho45, ho51⟩⟩
        · have h := iteF q111 h
          refine WC.skip ?_
          refine thenL_n ?_
          refine WC.region ?_
          refine WO.mv rfl ?_
          refine WO.mv rfl ?_
          obtain ⟨u120, e121, h⟩ := bindS h
          refine WO.ixS rfl rfl ho51.slv (ck_some e121) rfl ?_
          refine WO.st1 (u' := 1) rfl rfl ho51 (ck_nat e121) rfl rfl (fun S122 c123 ho51 => ?_)
          have ho23 := ho23.to c123
          have ho45 := ho45.to c123
          refine WO.nil ?_
          refine blockL_n ?_
          refine thenL_n ?_
          refine WC.region ?_
          refine WO.bin rfl rfl (by decide) (by decide) rfl ?_
          refine WO.mv rfl ?_
          refine WO.nil ?_
          refine thenL_n ?_
          obtain rfl := someI h
          exact ⟨_, rfl, ⟨S122, rfl, rfl, (Cov.cons rfl (Cov.cons rfl (Cov.cons rfl (Cov.cons rfl (Cov.cons rfl (Cov.cons rfl (Cov.nil _))))))), ho23, ho45, ho51⟩⟩
      · have h := iteF q57 h
        refine WC.exit ?_
        refine thenL_e ?_
        refine thenL_e ?_
        obtain rfl := someI h
        exact ⟨_, rfl, rfl, ⟨S55, rfl, rfl, (Cov.cons rfl (Cov.nil _)), ho45⟩⟩
    rintro _ _ _ _ ⟨rfl, ⟨S126, rfl, rfl, hc127, ho45⟩⟩
    refine blockL_s ?_
    refine thenL_n ?_
    refine WC.cov hc127 ?_
    refine WC.seq ?_
    refine WC.region ?_
    refine WO.mv rfl ?_
    refine WO.asg rfl ?_
    refine WO.asg rfl ?_
    refine WO.nil ?_
    refine thenL_n ?_
    refine WC.ret ?_
    obtain rfl := someI h
    exact ⟨.inr rfl, _, _, rfl, rfl, ⟨v42, rfl, (ho45.fr Lay.flat_fl)⟩⟩
end Go.Proofs.Ytkfmedmanhcdeaa

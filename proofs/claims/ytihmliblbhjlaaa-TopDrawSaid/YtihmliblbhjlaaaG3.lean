/- The machine answers the functions' texts: printed by a program of ours (gen.py). -/
import Derived.Test.YtihmliblbhjlaaaG2
set_option linter.unusedVariables false
namespace Go.Proofs.Ytihmliblbhjlaaa
open Go.Am
theorem F83.fn : E.fn 83 = some ⟨134, (Try.f83.body.getD .skip), Try.f83.results.toList, []⟩ := rfl
theorem F83_ok {F : Nat} {m : Mem} {n : Nat} {r : (List (Int × Int)) × Int} {t0 : List Int} {vt0 : SV} (h : F83 F t0 = some r) (kt0 : Vw Y3 n m vt0 t0) : Ret E n 83 [.sc vt0] m n (fun v m' n' => ∃ w, v = .tup [.sc w, .sc (.int .i64 r.2)] ∧ Fr Y167 n m' n' w r.1) := by
  unfold F83 at h
  refine Ret.walk F83.fn ?_
  refine WC.start fun S0 em en hz => ?_
  have hot0 := kt0.rdS em hz
  refine WC.seq (WC.region (WO.asg rfl (WO.asg rfl (WO.nil (thenL_n (WC.seq (WC.seq (WC.region (WO.mv rfl ?_)))))))))
  obtain ⟨r1, e2, h⟩ := bindS h
  refine WO.callE (S := S0) rfl rfl (F146_ok e2 hot0.vw) (fun S3 c4 => ?_)
  have hot0 := hot0.to c4
  refine WO.asg rfl (WO.nil (thenL_n (WC.seq (WC.region (WO.mv rfl ?_)))))
  refine WO.bin rfl rfl (by decide) (by decide) rfl ?_
  refine WO.nil (thenL_n ?_)
  refine WC.cond rfl (fun q5 => ?_) (fun q5 => ?_)
  · have h := iteT q5 h
    refine WC.seq (WC.region (WO.mv rfl (WO.asg rfl (WO.asg rfl (WO.nil (thenL_n (WC.ret (thenL_r ?_))))))))
    obtain rfl := someI h
    exact ⟨.inr rfl, _, _, rfl, rfl, ⟨.nils, rfl, Fr.nil⟩⟩
  · have h := iteF q5 h
    refine WC.skip (thenL_n (WC.seq (WC.region (WO.mv rfl ?_))))
    refine WO.lenS rfl hot0.slv rfl ?_
    refine WO.asg rfl (WO.asg rfl (WO.nil (thenL_n (WC.seq (WC.seq (WC.region (WO.mv rfl ?_)))))))
    refine WO.lenS rfl hot0.slv rfl ?_
    refine WO.mv rfl (WO.nil (thenL_n (WC.block ?_)))
    obtain ⟨b14, e15, h⟩ := bindS h
    refine WC.loopD e15 (fun s6 l' m' n' => ∃ S7 : Cx n, S7.m = m' ∧ S7.n = n' ∧ Cov l' [(0, .sc vt0), (5, .sc (.int .i64 ((t0.length : Int)))), (6, .sc (.int .i64 s6.1)), (25, .sc vt0), (26, .sc (.int .i64 ((t0.length : Int)))), (27, .sc (.int .i64 s6.2))] ∧ Rd Y3 S7 vt0 t0) (fun b e l' m' n' => e = .exit 0 ∧ ∃ S8 : Cx n, S8.m = m' ∧ S8.n = n' ∧ Cov l' [(0, .sc vt0), (5, .sc (.int .i64 ((t0.length : Int)))), (6, .sc (.int .i64 b))] ∧ Rd Y3 S8 vt0 t0) (by exact ⟨S3, rfl, rfl, (Cov.cons rfl (Cov.cons rfl (Cov.cons rfl (Cov.cons rfl (Cov.cons rfl (Cov.cons rfl (Cov.nil _))))))), hot0⟩) ?_ ?_
    · clear h
      rintro s6 q _ _ _ ⟨S9, rfl, rfl, hc10, hot0⟩ h
      unfold F83_l0 at h
      refine WC.cov hc10 (WC.seq (WC.region ?_))
      refine WO.bin rfl rfl (by decide) (by decide) rfl ?_
      refine WO.nil (thenL_n (WC.seq ?_))
      refine WC.cond rfl (fun q11 => ?_) (fun q11 => ?_)
      · have h := iteT q11 h
        refine WC.skip (thenL_n (WC.seq (WC.block (WC.seq (WC.region ?_)))))
        obtain ⟨x12, e13, h⟩ := bindS h
        refine WO.ixS rfl rfl hot0.slv (at?_lt e13) rfl ?_
        refine WO.ldF rfl hot0.ro (fun _ hi => hi) (at?_get e13) rfl rfl rfl ?_
        refine WO.asg rfl (WO.nil (thenL_n (WC.region (WO.mv rfl (WO.mv rfl ?_)))))
        refine WO.bin rfl rfl (by decide) (by decide) rfl ?_
        refine WO.asg rfl (WO.nil (blockL_n (thenL_n (WC.region ?_))))
        refine WO.bin rfl rfl (by decide) (by decide) rfl ?_
        refine WO.mv rfl (WO.nil (thenL_n ?_))
        obtain rfl := someI h
        exact ⟨_, rfl, ⟨S9, rfl, rfl, (Cov.cons rfl (Cov.cons rfl (Cov.cons rfl (Cov.cons rfl (Cov.cons rfl (Cov.cons rfl (Cov.nil _))))))), hot0⟩⟩
      · have h := iteF q11 h
        refine WC.exit (thenL_e (thenL_e ?_))
        obtain rfl := someI h
        exact ⟨_, rfl, rfl, ⟨S9, rfl, rfl, (Cov.cons rfl (Cov.cons rfl (Cov.cons rfl (Cov.nil _)))), hot0⟩⟩
    rintro _ _ _ _ ⟨rfl, ⟨S16, rfl, rfl, hc17, hot0⟩⟩
    refine blockL_s (thenL_n (WC.cov hc17 (WC.seq (WC.region (WO.mv rfl ?_)))))
    obtain ⟨L18, e19, h⟩ := bindS h
    refine WO.mkS (A := Y3) (S := S16) 2 rfl rfl e19 rfl rfl rfl (fun v20 S21 c22 ho23 => ?_)
    have hot0 := hot0.to c22
    refine WO.asg rfl (WO.nil (thenL_n (WC.seq (WC.seq (WC.region (WO.mv rfl ?_))))))
    refine WO.lenS rfl hot0.slv rfl ?_
    refine WO.mv rfl (WO.nil (thenL_n (WC.block ?_)))
    obtain ⟨b36, e37, h⟩ := bindS h
    refine WC.loopD e37 (fun s24 l' m' n' => ∃ S25 : Cx n, S25.m = m' ∧ S25.n = n' ∧ Cov l' [(5, .sc (.int .i64 ((t0.length : Int)))), (6, .sc (.int .i64 b14)), (9, .sc v20), (37, .sc vt0), (38, .sc (.int .i64 ((t0.length : Int)))), (39, .sc (.int .i64 s24.1))] ∧ Ow Y3 S25 2 v20 s24.2 ∧ Rd Y3 S25 vt0 t0) (fun b e l' m' n' => e = .exit 2 ∧ ∃ S26 : Cx n, S26.m = m' ∧ S26.n = n' ∧ Cov l' [(5, .sc (.int .i64 ((t0.length : Int)))), (6, .sc (.int .i64 b14)), (9, .sc v20)] ∧ Ow Y3 S26 2 v20 b) (by exact ⟨S21, rfl, rfl, (Cov.cons rfl (Cov.cons rfl (Cov.cons rfl (Cov.cons rfl (Cov.cons rfl (Cov.cons rfl (Cov.nil _))))))), ho23, hot0⟩) ?_ ?_
    · clear h
      rintro s24 q _ _ _ ⟨S27, rfl, rfl, hc28, ho23, hot0⟩ h
      unfold F83_l1 at h
      refine WC.cov hc28 (WC.seq (WC.region ?_))
      refine WO.bin rfl rfl (by decide) (by decide) rfl ?_
      refine WO.nil (thenL_n (WC.seq ?_))
      refine WC.cond rfl (fun q29 => ?_) (fun q29 => ?_)
      · have h := iteT q29 h
        refine WC.skip (thenL_n (WC.seq (WC.block (WC.seq (WC.region (WO.mv rfl ?_))))))
        obtain ⟨x30, e31, h⟩ := bindS h
        refine WO.ixS rfl rfl hot0.slv (at?_lt e31) rfl ?_
        refine WO.ldF rfl hot0.ro (fun _ hi => hi) (at?_get e31) rfl rfl rfl ?_
        refine WO.asg rfl (WO.asg rfl (WO.nil (thenL_n (WC.region (WO.mv rfl (WO.mv rfl (WO.mv rfl (WO.mv rfl ?_))))))))
        refine WO.bin rfl rfl (by decide) (by decide) rfl ?_
        obtain ⟨u32, e33, h⟩ := bindS h
        refine WO.ixS rfl rfl ho23.slv (ck_some e33) rfl ?_
        refine WO.st1 (u' := (wrapA .i64 (x30 * (t0.length : Int)))) rfl rfl ho23 (ck_nat e33) rfl rfl (fun S34 c35 ho23 => ?_)
        have hot0 := hot0.to c35
        refine WO.nil (blockL_n (thenL_n (WC.region ?_)))
        refine WO.bin rfl rfl (by decide) (by decide) rfl ?_
        refine WO.mv rfl (WO.nil (thenL_n ?_))
        obtain rfl := someI h
        exact ⟨_, rfl, ⟨S34, rfl, rfl, (Cov.cons rfl (Cov.cons rfl (Cov.cons rfl (Cov.cons rfl (Cov.cons rfl (Cov.cons rfl (Cov.nil _))))))), ho23, hot0⟩⟩
      · have h := iteF q29 h
        refine WC.exit (thenL_e (thenL_e ?_))
        obtain rfl := someI h
        exact ⟨_, rfl, rfl, ⟨S27, rfl, rfl, (Cov.cons rfl (Cov.cons rfl (Cov.cons rfl (Cov.nil _)))), ho23⟩⟩
    rintro _ _ _ _ ⟨rfl, ⟨S38, rfl, rfl, hc39, ho23⟩⟩
    refine blockL_s (thenL_n (WC.cov hc39 (WC.seq (WC.region (WO.mv rfl ?_)))))
    obtain ⟨L40, e41, h⟩ := bindS h
    refine WO.mkS (A := Y167) (S := S38) 3 rfl rfl e41 rfl rfl rfl (fun v42 S43 c44 ho45 => ?_)
    have ho23 := ho23.to c44
    refine WO.asg rfl (WO.nil (thenL_n (WC.seq (WC.region (WO.mv rfl ?_)))))
    obtain ⟨L46, e47, h⟩ := bindS h
    refine WO.mkS (A := Y3) (S := S43) 4 rfl rfl e47 rfl rfl rfl (fun v48 S49 c50 ho51 => ?_)
    have ho23 := ho23.to c50
    have ho45 := ho45.to c50
    refine WO.asg rfl (WO.nil (thenL_n (WC.seq (WC.seq (WC.region (WO.mv rfl (WO.mv rfl (WO.nil (thenL_n ?_)))))))))
    refine WC.block ?_
    obtain ⟨b124, e125, h⟩ := bindS h
    refine WC.loopD e125 (fun s52 l' m' n' => ∃ S53 : Cx n, S53.m = m' ∧ S53.n = n' ∧ Cov l' [(6, .sc (.int .i64 b14)), (9, .sc v20), (12, .sc v42), (13, .sc v48), (55, .sc (.int .i64 ((t0.length : Int)))), (56, .sc (.int .i64 s52.1))] ∧ Ow Y3 S53 2 v20 s52.2.1 ∧ Ow Y167 S53 3 v42 s52.2.2.1 ∧ Ow Y3 S53 4 v48 s52.2.2.2) (fun b e l' m' n' => e = .exit 4 ∧ ∃ S54 : Cx n, S54.m = m' ∧ S54.n = n' ∧ Cov l' [(12, .sc v42)] ∧ Ow Y167 S54 3 v42 b) (by exact ⟨S49, rfl, rfl, (Cov.cons rfl (Cov.cons rfl (Cov.cons rfl (Cov.cons rfl (Cov.cons rfl (Cov.cons rfl (Cov.nil _))))))), ho23, ho45, ho51⟩) ?_ ?_
    · clear h
      rintro s52 q _ _ _ ⟨S55, rfl, rfl, hc56, ho23, ho45, ho51⟩ h
      unfold F83_l3 at h
      refine WC.cov hc56 (WC.seq (WC.region ?_))
      refine WO.bin rfl rfl (by decide) (by decide) rfl ?_
      refine WO.nil (thenL_n (WC.seq ?_))
      refine WC.cond rfl (fun q57 => ?_) (fun q57 => ?_)
      · have h := iteT q57 h
        refine WC.skip (thenL_n (WC.seq (WC.block (WC.seq (WC.region (WO.asg rfl (WO.asg rfl (WO.nil (thenL_n ?_)))))))))
        refine WC.seq (WC.seq (WC.region (WO.mv rfl ?_)))
        refine WO.lenS rfl ho23.slv rfl ?_
        refine WO.mv rfl (WO.nil (thenL_n (WC.block ?_)))
        obtain ⟨b93, e94, h⟩ := bindS h
        refine WC.loopD e94 (fun s58 l' m' n' => ∃ S59 : Cx n, S59.m = m' ∧ S59.n = n' ∧ Cov l' [(6, .sc (.int .i64 b14)), (9, .sc v20), (12, .sc v42), (13, .sc v48), (14, .sc (.int .i64 s58.1)), (15, .sc (.int .i64 s58.2.1)), (55, .sc (.int .i64 ((t0.length : Int)))), (56, .sc (.int .i64 s52.1)), (58, .sc v20), (59, .sc (.int .i64 ((s52.2.1.length : Int)))), (60, .sc (.int .i64 s58.2.2))] ∧ Ow Y3 S59 2 v20 s52.2.1 ∧ Ow Y167 S59 3 v42 s52.2.2.1 ∧ Ow Y3 S59 4 v48 s52.2.2.2) (fun b e l' m' n' => e = .exit 6 ∧ ∃ S60 : Cx n, S60.m = m' ∧ S60.n = n' ∧ Cov l' [(6, .sc (.int .i64 b14)), (9, .sc v20), (12, .sc v42), (13, .sc v48), (14, .sc (.int .i64 b.1)), (15, .sc (.int .i64 b.2)), (55, .sc (.int .i64 ((t0.length : Int)))), (56, .sc (.int .i64 s52.1))] ∧ Ow Y3 S60 2 v20 s52.2.1 ∧ Ow Y167 S60 3 v42 s52.2.2.1 ∧ Ow Y3 S60 4 v48 s52.2.2.2) (by exact ⟨S55, rfl, rfl, (Cov.cons rfl (Cov.cons rfl (Cov.cons rfl (Cov.cons rfl (Cov.cons rfl (Cov.cons rfl (Cov.cons rfl (Cov.cons rfl (Cov.cons rfl (Cov.cons rfl (Cov.cons rfl (Cov.nil _)))))))))))), ho23, ho45, ho51⟩) ?_ ?_
        · clear h
          rintro s58 q _ _ _ ⟨S61, rfl, rfl, hc62, ho23, ho45, ho51⟩ h
          unfold F83_l2 at h
          refine WC.cov hc62 (WC.seq (WC.region ?_))
          refine WO.bin rfl rfl (by decide) (by decide) rfl ?_
          refine WO.nil (thenL_n (WC.seq ?_))
          refine WC.cond rfl (fun q63 => ?_) (fun q63 => ?_)
          · have h := iteT q63 h
            refine WC.skip (thenL_n (WC.seq (WC.block (WC.seq (WC.region (WO.mv rfl ?_))))))
            obtain ⟨x64, e65, h⟩ := bindS h
            refine WO.ixS rfl rfl ho23.slv (at?_lt e65) rfl ?_
            refine WO.ldF rfl ho23.ro (fun _ hi => hi) (at?_get e65) rfl rfl rfl ?_
            refine WO.asg rfl (WO.asg rfl (WO.nil (thenL_n (WC.seq (WC.seq (WC.region (WO.mv rfl (WO.mv rfl ?_))))))))
            obtain ⟨x66, e67, h⟩ := bindS h
            refine WO.ixS rfl rfl ho51.slv (at?_lt e67) rfl ?_
            refine WO.ldF rfl ho51.ro (fun _ hi => hi) (at?_get e67) rfl rfl rfl ?_
            refine WO.bin rfl rfl (by decide) (by decide) rfl ?_
            refine WO.mv rfl ?_
            obtain ⟨y74, e75, h⟩ := bindS h
            refine WO.cutB (d := 81) 11 y74 (fun q73 => ?_) (fun q73 => ?_) ?_
            · have h := e75
              have h := iteT q73 h
              refine WO.gyes rfl rfl (WO.mv rfl (WO.gyes rfl rfl ?_))
              refine WO.bin rfl rfl (by decide) (by decide) rfl ?_
              refine WO.gyes rfl rfl (WO.mv rfl ?_)
              obtain ⟨y71, e72, h⟩ := bindS h
              refine WO.cutB (d := 80) 7 y71 (fun q70 => ?_) (fun q70 => ?_) ?_
              · have h := e72
                have h := iteT q70 h
                obtain rfl := someI h
                refine WO.gno rfl rfl (WO.gno rfl rfl (WO.gno rfl rfl (WO.gno rfl rfl (WO.gno rfl rfl (WO.gno rfl rfl (WO.gyes rfl rfl ?_))))))
                refine WO.pickT rfl rfl ?_
                refine WO.nil ?_
                exact ⟨rfl, rfl, (Cov.cons rfl (Cov.skip rfl (Cov.skip rfl (Cov.skip rfl (Cov.skip rfl (Cov.skip rfl (Cov.skip rfl (Cov.skip rfl (Cov.skip rfl (Cov.refl _))))))))))⟩
              · have h := e72
                have h := iteF q70 h
                refine WO.gyes rfl rfl (WO.mv rfl (WO.gyes rfl rfl (WO.mv rfl (WO.gyes rfl rfl (WO.mv rfl (WO.gyes rfl rfl ?_))))))
                obtain ⟨x68, e69, h⟩ := bindS h
                refine WO.ixS rfl rfl ho23.slv (at?_lt e69) rfl ?_
                refine WO.gyes rfl rfl ?_
                refine WO.ldF rfl ho23.ro (fun _ hi => hi) (at?_get e69) rfl rfl rfl ?_
                refine WO.gyes rfl rfl ?_
                refine WO.bin rfl rfl (by decide) (by decide) rfl ?_
                obtain rfl := someI h
                refine WO.gyes rfl rfl ?_
                refine WO.pickF rfl rfl ?_
                refine WO.nil ?_
                exact ⟨rfl, rfl, (Cov.cons rfl (Cov.skip rfl (Cov.skip rfl (Cov.skip rfl (Cov.skip rfl (Cov.skip rfl (Cov.skip rfl (Cov.skip rfl (Cov.skip rfl (Cov.refl _))))))))))⟩
              obtain rfl := someI h
              refine WO.pickT rfl rfl ?_
              refine WO.nil ?_
              exact ⟨rfl, rfl, (Cov.cons rfl (Cov.skip rfl (Cov.skip rfl (Cov.skip rfl (Cov.skip rfl (Cov.skip rfl (Cov.refl _)))))))⟩
            · have h := e75
              have h := iteF q73 h
              obtain rfl := someI h
              refine WO.gno rfl rfl (WO.gno rfl rfl (WO.gno rfl rfl (WO.gskip rfl rfl (WO.gskip rfl rfl (WO.gskip rfl rfl (WO.gskip rfl rfl (WO.gskip rfl rfl (WO.gskip rfl rfl (WO.gno rfl rfl ?_)))))))))
              refine WO.pickF rfl rfl ?_
              refine WO.nil ?_
              exact ⟨rfl, rfl, (Cov.cons rfl (Cov.skip rfl (Cov.skip rfl (Cov.skip rfl (Cov.skip rfl (Cov.skip rfl (Cov.skip rfl (Cov.skip rfl (Cov.skip rfl (Cov.skip rfl (Cov.skip rfl (Cov.skip rfl (Cov.skip rfl (Cov.refl _))))))))))))))⟩
            refine WO.nil (thenL_n ?_)
            obtain ⟨b77, e78, h⟩ := bindS h
            refine WC.mono (Q' := (fun b e l' m' n' => e = .normal ∧ ∃ S79 : Cx n, S79.m = m' ∧ S79.n = n' ∧ Cov l' [(6, .sc (.int .i64 b14)), (9, .sc v20), (12, .sc v42), (13, .sc v48), (14, .sc (.int .i64 b)), (15, .sc (.int .i64 s58.2.1)), (16, .sc (.int .i64 s58.2.2)), (17, .sc (.int .i64 x64)), (55, .sc (.int .i64 ((t0.length : Int)))), (56, .sc (.int .i64 s52.1)), (58, .sc v20), (59, .sc (.int .i64 ((s52.2.1.length : Int)))), (60, .sc (.int .i64 s58.2.2))] ∧ Ow Y3 S79 2 v20 s52.2.1 ∧ Ow Y167 S79 3 v42 s52.2.2.1 ∧ Ow Y3 S79 4 v48 s52.2.2.2) b77) ?_ ?_
            · have h := e78
              dsimp only at h ⊢
              refine WC.cond rfl (fun q76 => ?_) (fun q76 => ?_)
              · have h := iteT q76 h
                refine WC.region (WO.mv rfl (WO.asg rfl (WO.nil ?_)))
                obtain rfl := someI h
                exact ⟨rfl, ⟨S61, rfl, rfl, (Cov.cons rfl (Cov.cons rfl (Cov.cons rfl (Cov.cons rfl (Cov.cons rfl (Cov.cons rfl (Cov.cons rfl (Cov.cons rfl (Cov.cons rfl (Cov.cons rfl (Cov.cons rfl (Cov.cons rfl (Cov.cons rfl (Cov.nil _)))))))))))))), ho23, ho45, ho51⟩⟩
              · have h := iteF q76 h
                refine WC.skip ?_
                obtain rfl := someI h
                exact ⟨rfl, ⟨S61, rfl, rfl, (Cov.cons rfl (Cov.cons rfl (Cov.cons rfl (Cov.cons rfl (Cov.cons rfl (Cov.cons rfl (Cov.cons rfl (Cov.cons rfl (Cov.cons rfl (Cov.cons rfl (Cov.cons rfl (Cov.cons rfl (Cov.cons rfl (Cov.nil _)))))))))))))), ho23, ho45, ho51⟩⟩
            dsimp only
            rintro _ _ _ _ ⟨rfl, ⟨S80, rfl, rfl, hc81, ho23, ho45, ho51⟩⟩
            refine thenL_n (WC.cov hc81 (WC.seq (WC.region (WO.mv rfl (WO.mv rfl ?_)))))
            obtain ⟨x82, e83, h⟩ := bindS h
            refine WO.ixS rfl rfl ho51.slv (at?_lt e83) rfl ?_
            refine WO.ldF rfl ho51.ro (fun _ hi => hi) (at?_get e83) rfl rfl rfl ?_
            refine WO.bin rfl rfl (by decide) (by decide) rfl ?_
            refine WO.mv rfl ?_
            obtain ⟨y90, e91, h⟩ := bindS h
            refine WO.cutB (d := 99) 11 y90 (fun q89 => ?_) (fun q89 => ?_) ?_
            · have h := e91
              have h := iteT q89 h
              refine WO.gyes rfl rfl (WO.mv rfl (WO.gyes rfl rfl ?_))
              refine WO.bin rfl rfl (by decide) (by decide) rfl ?_
              refine WO.gyes rfl rfl (WO.mv rfl ?_)
              obtain ⟨y87, e88, h⟩ := bindS h
              refine WO.cutB (d := 98) 7 y87 (fun q86 => ?_) (fun q86 => ?_) ?_
              · have h := e88
                have h := iteT q86 h
                obtain rfl := someI h
                refine WO.gno rfl rfl (WO.gno rfl rfl (WO.gno rfl rfl (WO.gno rfl rfl (WO.gno rfl rfl (WO.gno rfl rfl (WO.gyes rfl rfl ?_))))))
                refine WO.pickT rfl rfl ?_
                refine WO.nil ?_
                exact ⟨rfl, rfl, (Cov.cons rfl (Cov.skip rfl (Cov.skip rfl (Cov.skip rfl (Cov.skip rfl (Cov.skip rfl (Cov.skip rfl (Cov.skip rfl (Cov.skip rfl (Cov.refl _))))))))))⟩
              · have h := e88
                have h := iteF q86 h
                refine WO.gyes rfl rfl (WO.mv rfl (WO.gyes rfl rfl (WO.mv rfl (WO.gyes rfl rfl (WO.mv rfl (WO.gyes rfl rfl ?_))))))
                obtain ⟨x84, e85, h⟩ := bindS h
                refine WO.ixS rfl rfl ho23.slv (at?_lt e85) rfl ?_
                refine WO.gyes rfl rfl ?_
                refine WO.ldF rfl ho23.ro (fun _ hi => hi) (at?_get e85) rfl rfl rfl ?_
                refine WO.gyes rfl rfl ?_
                refine WO.bin rfl rfl (by decide) (by decide) rfl ?_
                obtain rfl := someI h
                refine WO.gyes rfl rfl ?_
                refine WO.pickF rfl rfl ?_
                refine WO.nil ?_
                exact ⟨rfl, rfl, (Cov.cons rfl (Cov.skip rfl (Cov.skip rfl (Cov.skip rfl (Cov.skip rfl (Cov.skip rfl (Cov.skip rfl (Cov.skip rfl (Cov.skip rfl (Cov.refl _))))))))))⟩
              obtain rfl := someI h
              refine WO.pickT rfl rfl ?_
              refine WO.nil ?_
              exact ⟨rfl, rfl, (Cov.cons rfl (Cov.skip rfl (Cov.skip rfl (Cov.skip rfl (Cov.skip rfl (Cov.skip rfl (Cov.refl _)))))))⟩
            · have h := e91
              have h := iteF q89 h
              obtain rfl := someI h
              refine WO.gno rfl rfl (WO.gno rfl rfl (WO.gno rfl rfl (WO.gskip rfl rfl (WO.gskip rfl rfl (WO.gskip rfl rfl (WO.gskip rfl rfl (WO.gskip rfl rfl (WO.gskip rfl rfl (WO.gno rfl rfl ?_)))))))))
              refine WO.pickF rfl rfl ?_
              refine WO.nil ?_
              exact ⟨rfl, rfl, (Cov.cons rfl (Cov.skip rfl (Cov.skip rfl (Cov.skip rfl (Cov.skip rfl (Cov.skip rfl (Cov.skip rfl (Cov.skip rfl (Cov.skip rfl (Cov.skip rfl (Cov.skip rfl (Cov.skip rfl (Cov.skip rfl (Cov.refl _))))))))))))))⟩
            refine WO.nil (thenL_n ?_)
            refine WC.cond rfl (fun q92 => ?_) (fun q92 => ?_)
            · have h := iteT q92 h
              refine WC.region (WO.mv rfl (WO.asg rfl (WO.nil (blockL_n (thenL_n (WC.region ?_))))))
              refine WO.bin rfl rfl (by decide) (by decide) rfl ?_
              refine WO.mv rfl (WO.nil (thenL_n ?_))
              obtain rfl := someI h
              exact ⟨_, rfl, ⟨S80, rfl, rfl, (Cov.cons rfl (Cov.cons rfl (Cov.cons rfl (Cov.cons rfl (Cov.cons rfl (Cov.cons rfl (Cov.cons rfl (Cov.cons rfl (Cov.cons rfl (Cov.cons rfl (Cov.cons rfl (Cov.nil _)))))))))))), ho23, ho45, ho51⟩⟩
            · have h := iteF q92 h
              refine WC.skip (blockL_n (thenL_n (WC.region ?_)))
              refine WO.bin rfl rfl (by decide) (by decide) rfl ?_
              refine WO.mv rfl (WO.nil (thenL_n ?_))
              obtain rfl := someI h
              exact ⟨_, rfl, ⟨S80, rfl, rfl, (Cov.cons rfl (Cov.cons rfl (Cov.cons rfl (Cov.cons rfl (Cov.cons rfl (Cov.cons rfl (Cov.cons rfl (Cov.cons rfl (Cov.cons rfl (Cov.cons rfl (Cov.cons rfl (Cov.nil _)))))))))))), ho23, ho45, ho51⟩⟩
          · have h := iteF q63 h
            refine WC.exit (thenL_e (thenL_e ?_))
            obtain rfl := someI h
            exact ⟨_, rfl, rfl, ⟨S61, rfl, rfl, (Cov.cons rfl (Cov.cons rfl (Cov.cons rfl (Cov.cons rfl (Cov.cons rfl (Cov.cons rfl (Cov.cons rfl (Cov.cons rfl (Cov.nil _))))))))), ho23, ho45, ho51⟩⟩
        rintro _ _ _ _ ⟨rfl, ⟨S95, rfl, rfl, hc96, ho23, ho45, ho51⟩⟩
        refine blockL_s (thenL_n (WC.cov hc96 (WC.seq (WC.region (WO.mv rfl (WO.mv rfl (WO.mv rfl (WO.mv rfl ?_))))))))
        obtain ⟨x97, e98, h⟩ := bindS h
        refine WO.ixS rfl rfl ho23.slv (at?_lt e98) rfl ?_
        refine WO.ldF rfl ho23.ro (fun _ hi => hi) (at?_get e98) rfl rfl rfl ?_
        refine WO.mv rfl ?_
        refine WO.do rfl rfl ?_
        obtain ⟨u99, e100, h⟩ := bindS h
        refine WO.ixS rfl rfl ho45.slv (ck_some e100) rfl ?_
        refine WO.stA (u' := (x97, b93.2)) rfl rfl ho45 (ck_nat e100) rfl rfl (fun S101 c102 ho45 => ?_)
        have ho23 := ho23.to c102
        have ho51 := ho51.to c102
        refine WO.nil (thenL_n (WC.seq ?_))
        refine WC.drawN rfl rfl ?_
        have ho23z := ho23.oz
        have ho45z := ho45.oz
        have ho51z := ho51.oz
        refine WO.mv rfl (WO.mv rfl ?_)
        obtain ⟨x103, e104, h⟩ := bindS h
        refine WO.ixS rfl rfl ho23.slv (at?_lt e104) rfl ?_
        refine WO.ldF rfl ho23z (fun _ hi => hi.1) (at?_get e104) rfl rfl (limLe_self _) ?_
        refine WO.mv rfl (WO.mv rfl (WO.mv rfl ?_))
        obtain ⟨x105, e106, h⟩ := bindS h
        refine WO.ixS rfl rfl ho23.slv (at?_lt e106) rfl ?_
        refine WO.ldF rfl ho23z (fun _ hi => hi.1) (at?_get e106) rfl rfl (limLe_self _) ?_
        refine WO.bin rfl rfl (by decide) (by decide) rfl ?_
        refine WO.bin rfl rfl (by decide) (by decide) rfl ?_
        obtain ⟨u107, e108, h⟩ := bindS h
        refine WO.ixS rfl rfl ho23.slv (ck_some e108) rfl ?_
        refine WO.st1 (u' := (wrapA .i64 (x103 - (wrapA .i64 (b14 - x105))))) rfl rfl ho23 (ck_nat e108) rfl rfl (fun S109 c110 ho23 => ?_)
        have ho45z := ho45z.tow c110
        have ho51z := ho51z.tow c110
        have ho45 := ho45.to c110
        have ho51 := ho51.to c110
        refine WO.nil (thenL_n (WC.seq (WC.seq (WC.region (WO.mv rfl (WO.mv rfl ?_))))))
        refine WO.bin rfl rfl (by decide) (by decide) rfl ?_
        refine WO.nil (thenL_n ?_)
        refine WC.cond rfl (fun q111 => ?_) (fun q111 => ?_)
        · have h := iteT q111 h
          refine WC.region (WO.mv rfl (WO.mv rfl ?_))
          obtain ⟨u112, e113, h⟩ := bindS h
          refine WO.ixS rfl rfl ho23.slv (ck_some e113) rfl ?_
          refine WO.st1 (u' := 0) rfl rfl ho23 (ck_nat e113) rfl rfl (fun S114 c115 ho23 => ?_)
          have ho45 := ho45.to c115
          have ho51 := ho51.to c115
          refine WO.nil (thenL_n (WC.region (WO.mv rfl (WO.mv rfl ?_))))
          obtain ⟨u116, e117, h⟩ := bindS h
          refine WO.ixS rfl rfl ho51.slv (ck_some e117) rfl ?_
          refine WO.st1 (u' := 1) rfl rfl ho51 (ck_nat e117) rfl rfl (fun S118 c119 ho51 => ?_)
          have ho23 := ho23.to c119
          have ho45 := ho45.to c119
          refine WO.nil (blockL_n (thenL_n (WC.region ?_)))
          refine WO.bin rfl rfl (by decide) (by decide) rfl ?_
          refine WO.mv rfl (WO.nil (thenL_n ?_))
          obtain rfl := someI h
          exact ⟨_, rfl, ⟨S118, rfl, rfl, (Cov.cons rfl (Cov.cons rfl (Cov.cons rfl (Cov.cons rfl (Cov.cons rfl (Cov.cons rfl (Cov.nil _))))))), ho23, ho45, ho51⟩⟩
        · have h := iteF q111 h
          refine WC.skip (thenL_n (WC.region (WO.mv rfl (WO.mv rfl ?_))))
          obtain ⟨u120, e121, h⟩ := bindS h
          refine WO.ixS rfl rfl ho51.slv (ck_some e121) rfl ?_
          refine WO.st1 (u' := 1) rfl rfl ho51 (ck_nat e121) rfl rfl (fun S122 c123 ho51 => ?_)
          have ho23 := ho23.to c123
          have ho45 := ho45.to c123
          refine WO.nil (blockL_n (thenL_n (WC.region ?_)))
          refine WO.bin rfl rfl (by decide) (by decide) rfl ?_
          refine WO.mv rfl (WO.nil (thenL_n ?_))
          obtain rfl := someI h
          exact ⟨_, rfl, ⟨S122, rfl, rfl, (Cov.cons rfl (Cov.cons rfl (Cov.cons rfl (Cov.cons rfl (Cov.cons rfl (Cov.cons rfl (Cov.nil _))))))), ho23, ho45, ho51⟩⟩
      · have h := iteF q57 h
        refine WC.exit (thenL_e (thenL_e ?_))
        obtain rfl := someI h
        exact ⟨_, rfl, rfl, ⟨S55, rfl, rfl, (Cov.cons rfl (Cov.nil _)), ho45⟩⟩
    rintro _ _ _ _ ⟨rfl, ⟨S126, rfl, rfl, hc127, ho45⟩⟩
    refine blockL_s (thenL_n (WC.cov hc127 (WC.seq (WC.region (WO.mv rfl (WO.asg rfl (WO.asg rfl (WO.nil (thenL_n ?_)))))))))
    refine WC.ret ?_
    obtain rfl := someI h
    exact ⟨.inr rfl, _, _, rfl, rfl, ⟨v42, rfl, (ho45.fr Lay.flat_fl)⟩⟩
end Go.Proofs.Ytihmliblbhjlaaa

namespace Go.Proofs.Ytihmliblbhjlaaa
open Go.Am
theorem F147.fn : E.fn 147 = some ⟨17, (Try.f147.body.getD .skip), Try.f147.results.toList, []⟩ := rfl
theorem F147_ok {F : Nat} {m : Mem} {n : Nat} {r : Int} {t0 : List Int} {vt0 : SV} (h : F147 F t0 = some r) (kt0 : Vw Y5 n m vt0 t0) : Ret E n 147 [.sc vt0] m n (fun v m' n' => v = .sc (.int .i64 r)) := by
  unfold F147 at h
  refine Ret.walk F147.fn ?_
  refine WC.start fun S0 em en hz => ?_
  have hot0 := kt0.rdS em hz
  refine WC.seq (WC.region (WO.asg rfl (WO.nil (thenL_n (WC.seq (WC.seq (WC.region (WO.mv rfl ?_))))))))
  refine WO.lenS rfl hot0.slv rfl ?_
  refine WO.bin rfl rfl (by decide) (by decide) rfl ?_
  refine WO.nil (thenL_n ?_)
  refine WC.cond rfl (fun q1 => ?_) (fun q1 => ?_)
  · have h := iteT q1 h
    refine WC.seq (WC.region (WO.asg rfl (WO.nil (thenL_n (WC.ret (thenL_r ?_))))))
    obtain rfl := someI h
    exact ⟨.inr rfl, _, _, rfl, rfl, rfl⟩
  · have h := iteF q1 h
    refine WC.skip (thenL_n (WC.seq (WC.seq (WC.region (WO.mv rfl ?_)))))
    refine WO.lenS rfl hot0.slv rfl ?_
    refine WO.mv rfl (WO.nil (thenL_n (WC.block ?_)))
    obtain ⟨b13, e14, h⟩ := bindS h
    refine WC.loopD e14 (fun s2 l' m' n' => ∃ S3 : Cx n, S3.m = m' ∧ S3.n = n' ∧ Cov l' [(8, .sc vt0), (9, .sc (.int .i64 ((t0.length : Int)))), (10, .sc (.int .i64 s2))] ∧ Rd Y5 S3 vt0 t0) (fun b e l' m' n' => (match b with | .inl b4 => e = .exit 0 ∧ ∃ S5 : Cx n, S5.m = m' ∧ S5.n = n' ∧ Cov l' [] | .inr b4 => e = .ret ∧ ∃ S6 : Cx n, S6.m = m' ∧ S6.n = n' ∧ Cov l' [(2, .sc (.int .i64 b4))])) (by exact ⟨S0, rfl, rfl, (Cov.cons rfl (Cov.cons rfl (Cov.cons rfl (Cov.nil _)))), hot0⟩) ?_ ?_
    · clear h
      rintro s2 q _ _ _ ⟨S7, rfl, rfl, hc8, hot0⟩ h
      unfold F147_l0 at h
      refine WC.cov hc8 (WC.seq (WC.region ?_))
      refine WO.bin rfl rfl (by decide) (by decide) rfl ?_
      refine WO.nil (thenL_n (WC.seq ?_))
      refine WC.cond rfl (fun q9 => ?_) (fun q9 => ?_)
      · have h := iteT q9 h
        refine WC.skip (thenL_n (WC.seq (WC.block (WC.seq (WC.region ?_)))))
        obtain ⟨x10, e11, h⟩ := bindS h
        refine WO.ixS rfl rfl hot0.slv (at?_lt e11) rfl ?_
        refine WO.ldF rfl hot0.ro (fun _ hi => hi) (at?_get e11) rfl rfl rfl ?_
        refine WO.asg rfl (WO.nil (thenL_n (WC.seq (WC.region (WO.mv rfl ?_)))))
        refine WO.bin rfl rfl (by decide) (by decide) rfl ?_
        refine WO.nil (thenL_n ?_)
        refine WC.cond rfl (fun q12 => ?_) (fun q12 => ?_)
        · have h := iteT q12 h
          refine WC.seq (WC.region (WO.asg rfl (WO.nil (thenL_n (WC.ret (blockL_r (thenL_r (thenL_r ?_))))))))
          obtain rfl := someI h
          exact ⟨_, rfl, rfl, ⟨S7, rfl, rfl, (Cov.cons rfl (Cov.nil _))⟩⟩
        · have h := iteF q12 h
          refine WC.skip (blockL_n (thenL_n (WC.region ?_)))
          refine WO.bin rfl rfl (by decide) (by decide) rfl ?_
          refine WO.mv rfl (WO.nil (thenL_n ?_))
          obtain rfl := someI h
          exact ⟨_, rfl, ⟨S7, rfl, rfl, (Cov.cons rfl (Cov.cons rfl (Cov.cons rfl (Cov.nil _)))), hot0⟩⟩
      · have h := iteF q9 h
        refine WC.exit (thenL_e (thenL_e ?_))
        obtain rfl := someI h
        exact ⟨_, rfl, rfl, ⟨S7, rfl, rfl, (Cov.nil _)⟩⟩
    cases b13 with
    | inl b15 =>
      simp only at h
      rintro _ _ _ _ ⟨rfl, ⟨S16, rfl, rfl, hc17⟩⟩
      refine blockL_s (thenL_n (WC.cov hc17 (WC.seq (WC.region (WO.asg rfl (WO.nil (thenL_n (WC.ret ?_))))))))
      obtain rfl := someI h
      exact ⟨.inr rfl, _, _, rfl, rfl, rfl⟩
    | inr b15 =>
      simp only at h
      rintro _ _ _ _ ⟨rfl, ⟨S18, rfl, rfl, hc19⟩⟩
      refine blockL_r (thenL_r ?_)
      obtain rfl := someI h
      exact ⟨.inr rfl, _, _, (resK_cov hc19 rfl), rfl, rfl⟩
end Go.Proofs.Ytihmliblbhjlaaa

namespace Go.Proofs.Ytihmliblbhjlaaa
open Go.Am
theorem F165.fn : E.fn 165 = some ⟨18, (Try.f165.body.getD .skip), Try.f165.results.toList, []⟩ := rfl
theorem F165_ok {F : Nat} {m : Mem} {n : Nat} {r : Int × Int} {t0 : Int} (h : F165 F t0 = some r)  : Ret E n 165 [.sc (.int .i64 t0)] m n (fun v m' n' => v = .tup [.sc (.int .i64 r.1), .sc (.int .i64 r.2)]) := by
  unfold F165 at h
  refine Ret.walk F165.fn ?_
  refine WC.start fun S0 em en hz => ?_
  refine WC.seq (WC.region (WO.asg rfl (WO.asg rfl (WO.nil (thenL_n (WC.seq (WC.seq (WC.region (WO.mv rfl ?_)))))))))
  refine WO.bin rfl rfl (by decide) (by decide) rfl ?_
  refine WO.mv rfl ?_
  refine WO.cutB (d := 10) 3 ((decide (t0 < 1)) || (decide (t0 > 1024))) (fun q1 => ?_) (fun q1 => ?_) ?_
  · refine WO.gno rfl rfl (WO.gno rfl rfl ?_)
    refine WO.pickT rfl rfl ?_
    refine WO.nil ?_
    exact ⟨rfl, rfl, (Cov.any rfl (orT q1) (Cov.skip rfl (Cov.skip rfl (Cov.skip rfl (Cov.skip rfl (Cov.refl _))))))⟩
  · skip
    refine WO.gyes rfl rfl (WO.mv rfl (WO.gyes rfl rfl ?_))
    refine WO.bin rfl rfl (by decide) (by decide) rfl ?_
    refine WO.pickF rfl rfl ?_
    refine WO.nil ?_
    exact ⟨rfl, rfl, (Cov.any rfl (orF q1) (Cov.skip rfl (Cov.skip rfl (Cov.skip rfl (Cov.skip rfl (Cov.refl _))))))⟩
  refine WO.nil (thenL_n ?_)
  refine WC.cond rfl (fun q2 => ?_) (fun q2 => ?_)
  · have h := iteT q2 h
    refine WC.seq (WC.region (WO.asg rfl (WO.asg rfl (WO.nil (thenL_n (WC.ret (thenL_r ?_)))))))
    obtain rfl := someI h
    exact ⟨.inr rfl, _, _, rfl, rfl, rfl⟩
  · have h := iteF q2 h
    refine WC.skip (thenL_n (WC.seq (WC.region (WO.asg rfl (WO.nil (thenL_n (WC.seq (WC.block ?_))))))))
    obtain ⟨b11, e12, h⟩ := bindS h
    refine WC.loopD e12 (fun s3 l' m' n' => ∃ S4 : Cx n, S4.m = m' ∧ S4.n = n' ∧ Cov l' [(0, .sc (.int .i64 t0)), (4, .sc (.int .i64 s3))]) (fun b e l' m' n' => e = .exit 0 ∧ ∃ S5 : Cx n, S5.m = m' ∧ S5.n = n' ∧ Cov l' [(4, .sc (.int .i64 b))]) (by exact ⟨S0, rfl, rfl, (Cov.cons rfl (Cov.cons rfl (Cov.nil _)))⟩) ?_ ?_
    · clear h
      rintro s3 q _ _ _ ⟨S6, rfl, rfl, hc7⟩ h
      unfold F165_l0 at h
      refine WC.cov hc7 (WC.seq (WC.seq (WC.region (WO.mv rfl ?_))))
      obtain ⟨x8, e9, h⟩ := bindS h
      refine WO.shlD rfl rfl e9 ?_
      refine WO.mv rfl ?_
      refine WO.bin rfl rfl (by decide) (by decide) rfl ?_
      refine WO.nil (thenL_n ?_)
      refine WC.cond rfl (fun q10 => ?_) (fun q10 => ?_)
      · have h := iteT q10 h
        refine WC.skip (thenL_n (WC.block (WC.region (WO.mv rfl ?_))))
        refine WO.bin rfl rfl (by decide) (by decide) rfl ?_
        refine WO.asg rfl (WO.nil (blockL_n (thenL_n ?_)))
        obtain rfl := someI h
        exact ⟨_, rfl, ⟨S6, rfl, rfl, (Cov.cons rfl (Cov.cons rfl (Cov.nil _)))⟩⟩
      · have h := iteF q10 h
        refine WC.exit (thenL_e (thenL_e ?_))
        obtain rfl := someI h
        exact ⟨_, rfl, rfl, ⟨S6, rfl, rfl, (Cov.cons rfl (Cov.nil _))⟩⟩
    rintro _ _ _ _ ⟨rfl, ⟨S13, rfl, rfl, hc14⟩⟩
    refine blockL_s (thenL_n (WC.cov hc14 (WC.seq (WC.region (WO.mv rfl (WO.asg rfl (WO.asg rfl (WO.nil (thenL_n ?_)))))))))
    refine WC.ret ?_
    obtain rfl := someI h
    exact ⟨.inr rfl, _, _, rfl, rfl, rfl⟩
end Go.Proofs.Ytihmliblbhjlaaa

namespace Go.Proofs.Ytihmliblbhjlaaa
open Go.Am
theorem F148.fn : E.fn 148 = some ⟨60, (Try.f148.body.getD .skip), Try.f148.results.toList, []⟩ := rfl
theorem F148_ok {F : Nat} {m : Mem} {n : Nat} {r : Int × Int × Int} {t0 : List Int} {t1 : Int} {vt0 : SV} (h : F148 F t0 t1 = some r) (kt0 : Vw Y5 n m vt0 t0) : Ret E n 148 [.sc vt0, .sc (.int .i64 t1)] m n (fun v m' n' => v = .tup [.sc (.int .i64 r.1), .sc (.int .i64 r.2.1), .sc (.int .i64 r.2.2)]) := by
  unfold F148 at h
  refine Ret.walk F148.fn ?_
  refine WC.start fun S0 em en hz => ?_
  have hot0 := kt0.rdS em hz
  refine WC.seq (WC.region (WO.asg rfl (WO.asg rfl (WO.asg rfl (WO.nil (thenL_n (WC.seq (WC.seq (WC.region ?_)))))))))
  refine WO.mv rfl ?_
  obtain ⟨r1, e2, h⟩ := bindS h
  refine WO.callE (S := S0) rfl rfl (F147_ok e2 hot0.vw) (fun S3 c4 => ?_)
  have hot0 := hot0.to c4
  refine WO.asg rfl (WO.nil (thenL_n (WC.seq (WC.region (WO.mv rfl ?_)))))
  refine WO.bin rfl rfl (by decide) (by decide) rfl ?_
  refine WO.nil (thenL_n ?_)
  refine WC.cond rfl (fun q5 => ?_) (fun q5 => ?_)
  · have h := iteT q5 h
    refine WC.seq (WC.region (WO.mv rfl (WO.asg rfl (WO.asg rfl (WO.asg rfl (WO.nil (thenL_n (WC.ret (thenL_r ?_)))))))))
    obtain rfl := someI h
    exact ⟨.inr rfl, _, _, rfl, rfl, rfl⟩
  · have h := iteF q5 h
    refine WC.skip (thenL_n (WC.seq (WC.region (WO.mv rfl ?_))))
    obtain ⟨r6, e7, h⟩ := bindS h
    refine WO.callE (S := S3) rfl rfl (F165_ok e7) (fun S8 c9 => ?_)
    have hot0 := hot0.to c9
    refine WO.mv rfl ?_
    refine WO.do rfl rfl ?_
    refine WO.do rfl rfl ?_
    refine WO.asg rfl (WO.asg rfl (WO.nil (thenL_n (WC.seq (WC.seq (WC.region (WO.mv rfl ?_)))))))
    refine WO.bin rfl rfl (by decide) (by decide) rfl ?_
    refine WO.nil (thenL_n ?_)
    refine WC.cond rfl (fun q10 => ?_) (fun q10 => ?_)
    · have h := iteT q10 h
      refine WC.seq (WC.region (WO.mv rfl (WO.asg rfl (WO.asg rfl (WO.asg rfl (WO.nil (thenL_n (WC.ret (thenL_r ?_)))))))))
      obtain rfl := someI h
      exact ⟨.inr rfl, _, _, rfl, rfl, rfl⟩
    · have h := iteF q10 h
      refine WC.skip (thenL_n (WC.seq (WC.seq (WC.region (WO.asg rfl (WO.nil (thenL_n (WC.block ?_))))))))
      obtain ⟨b36, e37, h⟩ := bindS h
      refine WC.loopD e37 (fun s11 l' m' n' => ∃ S12 : Cx n, S12.m = m' ∧ S12.n = n' ∧ Cov l' [(0, .sc vt0), (1, .sc (.int .i64 t1)), (8, .sc (.int .i64 r6.1)), (10, .sc (.int .i64 s11))] ∧ Rd Y5 S12 vt0 t0) (fun b e l' m' n' => (match b with | .inl b13 => e = .exit 0 ∧ ∃ S14 : Cx n, S14.m = m' ∧ S14.n = n' ∧ Cov l' [] | .inr b13 => e = .ret ∧ ∃ S15 : Cx n, S15.m = m' ∧ S15.n = n' ∧ Cov l' [(4, .sc (.int .i64 b13.1)), (5, .sc (.int .i64 b13.2.1)), (6, .sc (.int .i64 b13.2.2))])) (by exact ⟨S8, rfl, rfl, (Cov.cons rfl (Cov.cons rfl (Cov.cons rfl (Cov.cons rfl (Cov.nil _))))), hot0⟩) ?_ ?_
      · clear h
        rintro s11 q _ _ _ ⟨S16, rfl, rfl, hc17, hot0⟩ h
        unfold F148_l1 at h
        refine WC.cov hc17 (WC.seq (WC.seq (WC.region (WO.mv rfl (WO.mv rfl ?_)))))
        refine WO.bin rfl rfl (by decide) (by decide) rfl ?_
        refine WO.mv rfl ?_
        refine WO.lenS rfl hot0.slv rfl ?_
        refine WO.bin rfl rfl (by decide) (by decide) rfl ?_
        refine WO.nil (thenL_n ?_)
        refine WC.cond rfl (fun q18 => ?_) (fun q18 => ?_)
        · have h := iteT q18 h
          refine WC.skip (thenL_n (WC.seq (WC.block (WC.seq (WC.region (WO.asg rfl (WO.nil (thenL_n (WC.seq ?_)))))))))
          refine WC.seq (WC.region (WO.mv rfl (WO.mv rfl (WO.mv rfl (WO.mv rfl ?_)))))
          refine WO.bin rfl rfl (by decide) (by decide) rfl ?_
          obtain ⟨L19, e20, h⟩ := bindS h
          refine WO.slc  rfl (.inl ⟨_, rfl, rfl⟩) (.inl ⟨_, rfl, rfl⟩) hot0 e20 rfl (fun v21 ho22 => ?_)
          have ho22 : Rd Y5 S16 v21 L19 := ho22
          refine WO.lenS rfl ho22.slv rfl ?_
          refine WO.mv rfl (WO.nil (thenL_n (WC.block ?_)))
          obtain ⟨b31, e32, h⟩ := bindS h
          refine WC.loopD e32 (fun s23 l' m' n' => ∃ S24 : Cx n, S24.m = m' ∧ S24.n = n' ∧ Cov l' [(0, .sc vt0), (1, .sc (.int .i64 t1)), (8, .sc (.int .i64 r6.1)), (10, .sc (.int .i64 s11)), (11, .sc (.int .i64 s23.1)), (41, .sc v21), (42, .sc (.int .i64 ((L19.length : Int)))), (43, .sc (.int .i64 s23.2))] ∧ Rd Y5 S24 vt0 t0 ∧ Rd Y5 S24 v21 L19) (fun b e l' m' n' => e = .exit 2 ∧ ∃ S25 : Cx n, S25.m = m' ∧ S25.n = n' ∧ Cov l' [(0, .sc vt0), (1, .sc (.int .i64 t1)), (8, .sc (.int .i64 r6.1)), (10, .sc (.int .i64 s11)), (11, .sc (.int .i64 b))] ∧ Rd Y5 S25 vt0 t0) (by exact ⟨S16, rfl, rfl, (Cov.cons rfl (Cov.cons rfl (Cov.cons rfl (Cov.cons rfl (Cov.cons rfl (Cov.cons rfl (Cov.cons rfl (Cov.cons rfl (Cov.nil _))))))))), hot0, ho22⟩) ?_ ?_
          · clear h
            rintro s23 q _ _ _ ⟨S26, rfl, rfl, hc27, hot0, ho22⟩ h
            unfold F148_l0 at h
            refine WC.cov hc27 (WC.seq (WC.region ?_))
            refine WO.bin rfl rfl (by decide) (by decide) rfl ?_
            refine WO.nil (thenL_n (WC.seq ?_))
            refine WC.cond rfl (fun q28 => ?_) (fun q28 => ?_)
            · have h := iteT q28 h
              refine WC.skip (thenL_n (WC.seq (WC.block (WC.seq (WC.region ?_)))))
              obtain ⟨x29, e30, h⟩ := bindS h
              refine WO.ixS rfl rfl ho22.slv (at?_lt e30) rfl ?_
              refine WO.ldF rfl ho22.ro (fun _ hi => hi) (at?_get e30) rfl rfl rfl ?_
              refine WO.asg rfl (WO.nil (thenL_n (WC.region (WO.mv rfl ?_))))
              refine WO.bin rfl rfl (by decide) (by decide) rfl ?_
              refine WO.mv rfl ?_
              refine WO.conv rfl rfl rfl rfl ?_
              refine WO.bin rfl rfl (by decide) (by decide) rfl ?_
              refine WO.asg rfl (WO.nil (blockL_n (thenL_n (WC.region ?_))))
              refine WO.bin rfl rfl (by decide) (by decide) rfl ?_
              refine WO.mv rfl (WO.nil (thenL_n ?_))
              obtain rfl := someI h
              exact ⟨_, rfl, ⟨S26, rfl, rfl, (Cov.cons rfl (Cov.cons rfl (Cov.cons rfl (Cov.cons rfl (Cov.cons rfl (Cov.cons rfl (Cov.cons rfl (Cov.cons rfl (Cov.nil _))))))))), hot0, ho22⟩⟩
            · have h := iteF q28 h
              refine WC.exit (thenL_e (thenL_e ?_))
              obtain rfl := someI h
              exact ⟨_, rfl, rfl, ⟨S26, rfl, rfl, (Cov.cons rfl (Cov.cons rfl (Cov.cons rfl (Cov.cons rfl (Cov.cons rfl (Cov.nil _)))))), hot0⟩⟩
          rintro _ _ _ _ ⟨rfl, ⟨S33, rfl, rfl, hc34, hot0⟩⟩
          refine blockL_s (thenL_n (WC.cov hc34 (WC.seq (WC.region (WO.mv rfl (WO.mv rfl ?_))))))
          refine WO.bin rfl rfl (by decide) (by decide) rfl ?_
          refine WO.nil (thenL_n ?_)
          refine WC.cond rfl (fun q35 => ?_) (fun q35 => ?_)
          · have h := iteT q35 h
            refine WC.seq (WC.region (WO.mv rfl (WO.mv rfl (WO.mv rfl ?_))))
            refine WO.bin rfl rfl (by decide) (by decide) rfl ?_
            refine WO.asg rfl (WO.asg rfl (WO.asg rfl (WO.nil (thenL_n (WC.ret (blockL_r (thenL_r (thenL_r ?_))))))))
            obtain rfl := someI h
            exact ⟨_, rfl, rfl, ⟨S33, rfl, rfl, (Cov.cons rfl (Cov.cons rfl (Cov.cons rfl (Cov.nil _))))⟩⟩
          · have h := iteF q35 h
            refine WC.skip (blockL_n (thenL_n (WC.region (WO.mv rfl (WO.mv rfl ?_)))))
            refine WO.bin rfl rfl (by decide) (by decide) rfl ?_
            refine WO.asg rfl (WO.nil (thenL_n ?_))
            obtain rfl := someI h
            exact ⟨_, rfl, ⟨S33, rfl, rfl, (Cov.cons rfl (Cov.cons rfl (Cov.cons rfl (Cov.cons rfl (Cov.nil _))))), hot0⟩⟩
        · have h := iteF q18 h
          refine WC.exit (thenL_e (thenL_e ?_))
          obtain rfl := someI h
          exact ⟨_, rfl, rfl, ⟨S16, rfl, rfl, (Cov.nil _)⟩⟩
      cases b36 with
      | inl b38 =>
        simp only at h
        rintro _ _ _ _ ⟨rfl, ⟨S39, rfl, rfl, hc40⟩⟩
        refine blockL_s (thenL_n (WC.cov hc40 (WC.seq (WC.region (WO.asg rfl (WO.asg rfl (WO.asg rfl (WO.nil (thenL_n ?_)))))))))
        refine WC.ret ?_
        obtain rfl := someI h
        exact ⟨.inr rfl, _, _, rfl, rfl, rfl⟩
      | inr b38 =>
        simp only at h
        rintro _ _ _ _ ⟨rfl, ⟨S41, rfl, rfl, hc42⟩⟩
        refine blockL_r (thenL_r ?_)
        obtain rfl := someI h
        exact ⟨.inr rfl, _, _, (resK_cov hc42 rfl), rfl, rfl⟩
end Go.Proofs.Ytihmliblbhjlaaa

namespace Go.Proofs.Ytihmliblbhjlaaa
open Go.Am
theorem F84.fn : E.fn 84 = some ⟨51, (Try.f84.body.getD .skip), Try.f84.results.toList, []⟩ := rfl
theorem F84_ok {F : Nat} {m : Mem} {n : Nat} {r : (List Int) × Int × Int} {t0 : List Int} {t1 : List Int} {vt0 : SV} {vt1 : SV} (h : F84 F t0 t1 = some r) (kt0 : Vw Y5 n m vt0 t0) (kt1 : Vw Y3 n m vt1 t1) : Ret E n 84 [.sc vt0, .sc vt1] m n (fun v m' n' => ∃ w, v = .tup [.sc w, .sc (.int .i64 r.2.1), .sc (.int .i64 r.2.2)] ∧ Fr Y3 n m' n' w r.1) := by
  unfold F84 at h
  refine Ret.walk F84.fn ?_
  refine WC.start fun S0 em en hz => ?_
  have hot0 := kt0.rdS em hz
  have hot1 := kt1.rdS em hz
  refine WC.seq (WC.region (WO.asg rfl (WO.asg rfl (WO.asg rfl (WO.nil (thenL_n (WC.seq (WC.seq (WC.region ?_)))))))))
  refine WO.mv rfl ?_
  obtain ⟨r1, e2, h⟩ := bindS h
  refine WO.callE (S := S0) rfl rfl (F147_ok e2 hot0.vw) (fun S3 c4 => ?_)
  have hot0 := hot0.to c4
  have hot1 := hot1.to c4
  refine WO.asg rfl (WO.nil (thenL_n (WC.seq (WC.region (WO.mv rfl ?_)))))
  refine WO.bin rfl rfl (by decide) (by decide) rfl ?_
  refine WO.nil (thenL_n ?_)
  refine WC.cond rfl (fun q5 => ?_) (fun q5 => ?_)
  · have h := iteT q5 h
    refine WC.seq (WC.region (WO.mv rfl (WO.asg rfl (WO.asg rfl (WO.asg rfl (WO.nil (thenL_n (WC.ret (thenL_r ?_)))))))))
    obtain rfl := someI h
    exact ⟨.inr rfl, _, _, rfl, rfl, ⟨.nils, rfl, Fr.nil⟩⟩
  · have h := iteF q5 h
    refine WC.skip (thenL_n (WC.seq (WC.seq (WC.region (WO.mv rfl ?_)))))
    refine WO.lenS rfl hot1.slv rfl ?_
    refine WO.bin rfl rfl (by decide) (by decide) rfl ?_
    refine WO.nil (thenL_n ?_)
    refine WC.cond rfl (fun q6 => ?_) (fun q6 => ?_)
    · have h := iteT q6 h
      refine WC.seq (WC.region (WO.asg rfl (WO.asg rfl (WO.asg rfl (WO.nil (thenL_n (WC.ret (thenL_r ?_))))))))
      obtain rfl := someI h
      exact ⟨.inr rfl, _, _, rfl, rfl, ⟨.nils, rfl, Fr.nil⟩⟩
    · have h := iteF q6 h
      refine WC.skip (thenL_n (WC.seq (WC.region (WO.asg rfl (WO.nil (thenL_n (WC.seq (WC.region (WO.asg rfl ?_)))))))))
      refine WO.nil (thenL_n (WC.seq (WC.seq (WC.region (WO.mv rfl ?_)))))
      refine WO.lenS rfl hot1.slv rfl ?_
      refine WO.mv rfl (WO.nil (thenL_n (WC.block ?_)))
      obtain ⟨b41, e42, h⟩ := bindS h
      refine WC.loopD e42 (fun s7 l' m' n' => ∃ S9 : Cx n, ∃ v10 : SV, S9.m = m' ∧ S9.n = n' ∧ Cov l' [(0, .sc vt0), (8, .sc v10), (9, .sc (.int .i64 s7.2.1)), (23, .sc vt1), (24, .sc (.int .i64 ((t1.length : Int)))), (25, .sc (.int .i64 s7.2.2))] ∧ Rd Y5 S9 vt0 t0 ∧ Rd Y3 S9 vt1 t1 ∧ Ow Y3 S9 2 v10 s7.1) (fun b e l' m' n' => (match b with | .inl b11 => e = .exit 0 ∧ ∃ S12 : Cx n, ∃ v13 : SV, S12.m = m' ∧ S12.n = n' ∧ Cov l' [(8, .sc v13), (9, .sc (.int .i64 b11.2))] ∧ Ow Y3 S12 2 v13 b11.1 | .inr b11 => e = .ret ∧ ∃ S14 : Cx n, ∃ v15 : SV, S14.m = m' ∧ S14.n = n' ∧ Cov l' [(4, .sc v15), (5, .sc (.int .i64 b11.2.1)), (6, .sc (.int .i64 b11.2.2))] ∧ Ow Y3 S14 3 v15 b11.1)) (by exact ⟨S3, .nils, rfl, rfl, (Cov.cons rfl (Cov.cons rfl (Cov.cons rfl (Cov.cons rfl (Cov.cons rfl (Cov.cons rfl (Cov.nil _))))))), hot0, hot1, Ow.nil⟩) ?_ ?_
      · clear h
        rintro s7 q _ _ _ ⟨S16, v17, rfl, rfl, hc18, hot0, hot1, ho8⟩ h
        unfold F84_l0 at h
        refine WC.cov hc18 (WC.seq (WC.region ?_))
        refine WO.bin rfl rfl (by decide) (by decide) rfl ?_
        refine WO.nil (thenL_n (WC.seq ?_))
        refine WC.cond rfl (fun q19 => ?_) (fun q19 => ?_)
        · have h := iteT q19 h
          refine WC.skip (thenL_n (WC.seq (WC.block (WC.seq (WC.region ?_)))))
          obtain ⟨x20, e21, h⟩ := bindS h
          refine WO.ixS rfl rfl hot1.slv (at?_lt e21) rfl ?_
          refine WO.ldF rfl hot1.ro (fun _ hi => hi) (at?_get e21) rfl rfl rfl ?_
          refine WO.asg rfl (WO.nil (thenL_n (WC.seq (WC.region (WO.mv rfl (WO.mv rfl ?_))))))
          obtain ⟨L22, e23, h⟩ := bindS h
          refine WO.slc (k' := .i64) rfl (.inl ⟨_, rfl, rfl⟩) (.inr ⟨rfl, rfl⟩) hot0 e23 rfl (fun v24 ho25 => ?_)
          have ho25 : Rd Y5 S16 v24 L22 := ho25
          refine WO.mv rfl ?_
          obtain ⟨r26, e27, h⟩ := bindS h
          refine WO.callE (S := S16) rfl rfl (F148_ok e27 ho25.vw) (fun S28 c29 => ?_)
          have hot0 := hot0.to c29
          have hot1 := hot1.to c29
          have ho8 := ho8.to c29
          have ho25 := ho25.to c29
          refine WO.mv rfl ?_
          refine WO.do rfl rfl ?_
          refine WO.do rfl rfl ?_
          refine WO.do rfl rfl ?_
          refine WO.asg rfl (WO.asg rfl (WO.asg rfl (WO.nil (thenL_n (WC.seq (WC.seq (WC.region (WO.mv rfl ?_))))))))
          refine WO.bin rfl rfl (by decide) (by decide) rfl ?_
          refine WO.nil (thenL_n ?_)
          refine WC.cond rfl (fun q30 => ?_) (fun q30 => ?_)
          · have h := iteT q30 h
            refine WC.seq (WC.region (WO.mv rfl (WO.asg rfl (WO.asg rfl (WO.asg rfl (WO.nil (thenL_n (WC.ret (thenL_r ?_)))))))))
            refine blockL_r (thenL_r (thenL_r ?_))
            obtain rfl := someI h
            exact ⟨_, rfl, rfl, ⟨S28, .nils, rfl, rfl, (Cov.cons rfl (Cov.cons rfl (Cov.cons rfl (Cov.nil _)))), Ow.nil⟩⟩
          · have h := iteF q30 h
            refine WC.skip (thenL_n (WC.region (WO.mv rfl (WO.mv rfl ?_))))
            refine WO.bsS (A := Y3) (S := S28) (M := [r26.1]) (cs := [.int .i64 r26.1]) 4 rfl rfl rfl ⟨[.int .i64 r26.1], _, rfl, rfl, rfl⟩ rfl (fun v31 S32 c33 ho34 => ?_)
            have hot0 := hot0.to c33
            have hot1 := hot1.to c33
            have ho8 := ho8.to c33
            have ho25 := ho25.to c33
            obtain ⟨L35, e36, h⟩ := bindS h
            refine WO.appS rfl rfl ho8 ho34.ro e36 rfl rfl (fun v37 S38 c39 ho40 => ?_)
            have hot0 := hot0.to c39
            have hot1 := hot1.to c39
            have ho25 := ho25.to c39
            have ho34 := ho34.to c39
            refine WO.mv rfl (WO.mv rfl ?_)
            refine WO.bin rfl rfl (by decide) (by decide) rfl ?_
            refine WO.asg rfl (WO.asg rfl (WO.nil (blockL_n (thenL_n (WC.region ?_)))))
            refine WO.bin rfl rfl (by decide) (by decide) rfl ?_
            refine WO.mv rfl (WO.nil (thenL_n ?_))
            obtain rfl := someI h
            exact ⟨_, rfl, ⟨S38, v37, rfl, rfl, (Cov.cons rfl (Cov.cons rfl (Cov.cons rfl (Cov.cons rfl (Cov.cons rfl (Cov.cons rfl (Cov.nil _))))))), hot0, hot1, ho40⟩⟩
        · have h := iteF q19 h
          refine WC.exit (thenL_e (thenL_e ?_))
          obtain rfl := someI h
          exact ⟨_, rfl, rfl, ⟨S16, v17, rfl, rfl, (Cov.cons rfl (Cov.cons rfl (Cov.nil _))), ho8⟩⟩
      cases b41 with
      | inl b43 =>
        simp only at h
        rintro _ _ _ _ ⟨rfl, ⟨S44, v45, rfl, rfl, hc46, ho8⟩⟩
        refine blockL_s (thenL_n (WC.cov hc46 (WC.seq (WC.region (WO.mv rfl (WO.mv rfl (WO.asg rfl (WO.asg rfl (WO.asg rfl ?_)))))))))
        refine WO.nil (thenL_n (WC.ret ?_))
        obtain rfl := someI h
        exact ⟨.inr rfl, _, _, rfl, rfl, ⟨v45, rfl, (ho8.fr Lay.flat_fl)⟩⟩
      | inr b43 =>
        simp only at h
        rintro _ _ _ _ ⟨rfl, ⟨S47, v48, rfl, rfl, hc49, ho4⟩⟩
        refine blockL_r (thenL_r ?_)
        obtain rfl := someI h
        exact ⟨.inr rfl, _, _, (resK_cov hc49 rfl), rfl, ⟨v48, rfl, (ho4.fr Lay.flat_fl)⟩⟩
end Go.Proofs.Ytihmliblbhjlaaa

namespace Go.Proofs.Ytihmliblbhjlaaa
open Go.Am
theorem F85.fn : E.fn 85 = some ⟨37, (Try.f85.body.getD .skip), Try.f85.results.toList, []⟩ := rfl
theorem F85_ok {F : Nat} {m : Mem} {n : Nat} {r : Int × Int} {t0 : List (Int × Int)} {t1 : Int} {t2 : Int} {vt0 : SV} (h : F85 F t0 t1 t2 = some r) (kt0 : Vw Y167 n m vt0 t0) : Ret E n 85 [.sc vt0, .sc (.int .i64 t1), .sc (.int .i64 t2)] m n (fun v m' n' => v = .tup [.sc (.int .i64 r.1), .sc (.int .i64 r.2)]) := by
  unfold F85 at h
  refine Ret.walk F85.fn ?_
  refine WC.start fun S0 em en hz => ?_
  have hot0 := kt0.rdS em hz
  refine WC.seq (WC.region (WO.asg rfl (WO.asg rfl (WO.nil (thenL_n (WC.seq (WC.seq (WC.region (WO.mv rfl ?_)))))))))
  refine WO.lenS rfl hot0.slv rfl ?_
  refine WO.bin rfl rfl (by decide) (by decide) rfl ?_
  refine WO.mv rfl ?_
  refine WO.cutB (d := 15) 4 ((decide ((t0.length : Int) < 1)) || (decide ((t0.length : Int) > 12))) (fun q1 => ?_) (fun q1 => ?_) ?_
  · refine WO.gno rfl rfl (WO.gno rfl rfl (WO.gno rfl rfl ?_))
    refine WO.pickT rfl rfl ?_
    refine WO.nil ?_
    exact ⟨rfl, rfl, (Cov.any rfl (orT q1) (Cov.skip rfl (Cov.skip rfl (Cov.skip rfl (Cov.skip rfl (Cov.skip rfl (Cov.refl _)))))))⟩
  · skip
    refine WO.gyes rfl rfl (WO.mv rfl (WO.gyes rfl rfl ?_))
    refine WO.lenS rfl hot0.slv rfl ?_
    refine WO.gyes rfl rfl ?_
    refine WO.bin rfl rfl (by decide) (by decide) rfl ?_
    refine WO.pickF rfl rfl ?_
    refine WO.nil ?_
    exact ⟨rfl, rfl, (Cov.any rfl (orF q1) (Cov.skip rfl (Cov.skip rfl (Cov.skip rfl (Cov.skip rfl (Cov.skip rfl (Cov.refl _)))))))⟩
  refine WO.nil (thenL_n ?_)
  refine WC.cond rfl (fun q2 => ?_) (fun q2 => ?_)
  · have h := iteT q2 h
    refine WC.seq (WC.region (WO.asg rfl (WO.asg rfl (WO.nil (thenL_n (WC.ret (thenL_r ?_)))))))
    obtain rfl := someI h
    exact ⟨.inr rfl, _, _, rfl, rfl, rfl⟩
  · have h := iteF q2 h
    refine WC.skip (thenL_n (WC.seq (WC.seq (WC.region (WO.mv rfl ?_)))))
    refine WO.bin rfl rfl (by decide) (by decide) rfl ?_
    refine WO.mv rfl ?_
    refine WO.cutB (d := 23) 5 ((decide (t1 < 0)) || (decide (t1 ≥ (t0.length : Int)))) (fun q3 => ?_) (fun q3 => ?_) ?_
    · refine WO.gno rfl rfl (WO.gno rfl rfl (WO.gno rfl rfl (WO.gno rfl rfl ?_)))
      refine WO.pickT rfl rfl ?_
      refine WO.nil ?_
      exact ⟨rfl, rfl, (Cov.any rfl (orT q3) (Cov.skip rfl (Cov.skip rfl (Cov.skip rfl (Cov.skip rfl (Cov.skip rfl (Cov.skip rfl (Cov.refl _))))))))⟩
    · skip
      refine WO.gyes rfl rfl (WO.mv rfl (WO.gyes rfl rfl (WO.mv rfl (WO.gyes rfl rfl ?_))))
      refine WO.lenS rfl hot0.slv rfl ?_
      refine WO.gyes rfl rfl ?_
      refine WO.bin rfl rfl (by decide) (by decide) rfl ?_
      refine WO.pickF rfl rfl ?_
      refine WO.nil ?_
      exact ⟨rfl, rfl, (Cov.any rfl (orF q3) (Cov.skip rfl (Cov.skip rfl (Cov.skip rfl (Cov.skip rfl (Cov.skip rfl (Cov.skip rfl (Cov.refl _))))))))⟩
    refine WO.nil (thenL_n ?_)
    refine WC.cond rfl (fun q4 => ?_) (fun q4 => ?_)
    · have h := iteT q4 h
      refine WC.seq (WC.region (WO.asg rfl (WO.asg rfl (WO.nil (thenL_n (WC.ret (thenL_r ?_)))))))
      obtain rfl := someI h
      exact ⟨.inr rfl, _, _, rfl, rfl, rfl⟩
    · have h := iteF q4 h
      refine WC.skip (thenL_n (WC.seq (WC.seq (WC.region (WO.mv rfl (WO.mv rfl (WO.mv rfl ?_)))))))
      obtain ⟨x5, e6, h⟩ := bindS h
      refine WO.ixS rfl rfl hot0.slv (at?_lt e6) rfl ?_
      refine WO.fldS rfl rfl (SlV.ptr hot0.slv (at?_nat e6)) rfl rfl rfl (by decide) ?_
      refine WO.ldF rfl hot0.ro (fun _ hi => hi) (at?_get e6) rfl rfl rfl ?_
      refine WO.bin rfl rfl (by decide) (by decide) rfl ?_
      refine WO.nil (thenL_n ?_)
      refine WC.cond rfl (fun q7 => ?_) (fun q7 => ?_)
      · have h := iteT q7 h
        refine WC.seq (WC.region (WO.mv rfl (WO.asg rfl (WO.asg rfl (WO.nil (thenL_n (WC.ret (thenL_r ?_))))))))
        obtain rfl := someI h
        exact ⟨.inr rfl, _, _, rfl, rfl, rfl⟩
      · have h := iteF q7 h
        refine WC.skip (thenL_n (WC.seq (WC.region (WO.mv rfl (WO.mv rfl ?_)))))
        obtain ⟨x8, e9, h⟩ := bindS h
        refine WO.ixS rfl rfl hot0.slv (at?_lt e9) rfl ?_
        refine WO.fldS rfl rfl (SlV.ptr hot0.slv (at?_nat e9)) rfl rfl rfl (by decide) ?_
        refine WO.ldF rfl hot0.ro (fun _ hi => hi) (at?_get e9) rfl rfl rfl ?_
        refine WO.asg rfl (WO.asg rfl (WO.nil (thenL_n (WC.ret ?_))))
        obtain rfl := someI h
        exact ⟨.inr rfl, _, _, rfl, rfl, rfl⟩
end Go.Proofs.Ytihmliblbhjlaaa

namespace Go.Proofs.Ytihmliblbhjlaaa
open Go.Am
theorem F11.fn : E.fn 11 = some ⟨219, (Try.f11.body.getD .skip), Try.f11.results.toList, []⟩ := rfl
theorem F11_ok {F : Nat} {m : Mem} {n : Nat} {r : Bool} {t0 : List Int} {t1 : List Int} {t2 : List (List UInt8)} {vt0 : SV} {vt1 : SV} {vt2 : SV} (h : F11 F t0 t1 t2 = some r) (kt0 : Vw Y5 n m vt0 t0) (kt1 : Vw Y3 n m vt1 t1) (kt2 : Vw Y9 n m vt2 t2) : Ret E n 11 [.sc vt0, .sc vt1, .sc vt2] m n (fun v m' n' => v = .sc (.bool r)) := by
  unfold F11 at h
  refine Ret.walk F11.fn ?_
  refine WC.start fun S0 em en hz => ?_
  have hot0 := kt0.rdS em hz
  have hot1 := kt1.rdS em hz
  have hot2 := kt2.rdS em hz
  refine WC.seq (WC.region (WO.asg rfl (WO.nil (thenL_n (WC.seq (WC.region (WO.asg rfl (WO.nil (thenL_n ?_)))))))))
  refine WC.seq (WC.seq (WC.region (WO.mv rfl (WO.mv rfl ?_))))
  refine WO.lenS rfl hot0.slv rfl ?_
  refine WO.minD rfl rfl ?_
  obtain ⟨L1, e2, h⟩ := bindS h
  refine WO.slc (k := .i64) rfl (.inr ⟨rfl, rfl⟩) (.inl ⟨_, rfl, rfl⟩) hot0 e2 rfl (fun v3 ho4 => ?_)
  have ho4 : Rd Y5 S0 v3 L1 := ho4
  refine WO.lenS rfl ho4.slv rfl ?_
  refine WO.mv rfl (WO.nil (thenL_n (WC.block ?_)))
  obtain ⟨b27, e28, h⟩ := bindS h
  refine WC.loopD e28 (fun s5 l' m' n' => ∃ S7 : Cx n, ∃ v8 : SV, S7.m = m' ∧ S7.n = n' ∧ Cov l' [(1, .sc vt1), (2, .sc vt2), (7, .sc v8), (36, .sc v3), (37, .sc (.int .i64 ((L1.length : Int)))), (38, .sc (.int .i64 s5.2))] ∧ Rd Y3 S7 vt1 t1 ∧ Rd Y9 S7 vt2 t2 ∧ Rd Y5 S7 v3 L1 ∧ Ow Y5 S7 2 v8 s5.1) (fun b e l' m' n' => e = .exit 0 ∧ ∃ S9 : Cx n, ∃ v10 : SV, S9.m = m' ∧ S9.n = n' ∧ Cov l' [(1, .sc vt1), (2, .sc vt2), (7, .sc v10)] ∧ Rd Y3 S9 vt1 t1 ∧ Rd Y9 S9 vt2 t2 ∧ Ow Y5 S9 2 v10 b) (by exact ⟨S0, .nils, rfl, rfl, (Cov.cons rfl (Cov.cons rfl (Cov.cons rfl (Cov.cons rfl (Cov.cons rfl (Cov.cons rfl (Cov.nil _))))))), hot1, hot2, ho4, Ow.nil⟩) ?_ ?_
  · clear h
    rintro s5 q _ _ _ ⟨S11, v12, rfl, rfl, hc13, hot1, hot2, ho4, ho7⟩ h
    unfold F11_l0 at h
    refine WC.cov hc13 (WC.seq (WC.region ?_))
    refine WO.bin rfl rfl (by decide) (by decide) rfl ?_
    refine WO.nil (thenL_n (WC.seq ?_))
    refine WC.cond rfl (fun q14 => ?_) (fun q14 => ?_)
    · have h := iteT q14 h
      refine WC.skip (thenL_n (WC.seq (WC.block (WC.seq (WC.region ?_)))))
      obtain ⟨x15, e16, h⟩ := bindS h
      refine WO.ixS rfl rfl ho4.slv (at?_lt e16) rfl ?_
      refine WO.ldF rfl ho4.ro (fun _ hi => hi) (at?_get e16) rfl rfl rfl ?_
      refine WO.asg rfl (WO.nil (thenL_n (WC.region (WO.mv rfl (WO.mv rfl ?_)))))
      refine WO.bin rfl rfl (by decide) (by decide) rfl ?_
      refine WO.bsS (A := Y5) (S := S11) (M := [(Int.tmod x15 2)]) (cs := [.int .u8 ((Int.tmod x15 2))]) 3 rfl rfl rfl ⟨[.int .u8 ((Int.tmod x15 2))], _, rfl, rfl, rfl⟩ rfl (fun v17 S18 c19 ho20 => ?_)
      have hot1 := hot1.to c19
      have hot2 := hot2.to c19
      have ho4 := ho4.to c19
      have ho7 := ho7.to c19
      obtain ⟨L21, e22, h⟩ := bindS h
      refine WO.appS rfl rfl ho7 ho20.ro e22 rfl rfl (fun v23 S24 c25 ho26 => ?_)
      have hot1 := hot1.to c25
      have hot2 := hot2.to c25
      have ho4 := ho4.to c25
      have ho20 := ho20.to c25
      refine WO.asg rfl (WO.nil (blockL_n (thenL_n (WC.region ?_))))
      refine WO.bin rfl rfl (by decide) (by decide) rfl ?_
      refine WO.mv rfl (WO.nil (thenL_n ?_))
      obtain rfl := someI h
      exact ⟨_, rfl, ⟨S24, v23, rfl, rfl, (Cov.cons rfl (Cov.cons rfl (Cov.cons rfl (Cov.cons rfl (Cov.cons rfl (Cov.cons rfl (Cov.nil _))))))), hot1, hot2, ho4, ho26⟩⟩
    · have h := iteF q14 h
      refine WC.exit (thenL_e (thenL_e ?_))
      obtain rfl := someI h
      exact ⟨_, rfl, rfl, ⟨S11, v12, rfl, rfl, (Cov.cons rfl (Cov.cons rfl (Cov.cons rfl (Cov.nil _)))), hot1, hot2, ho7⟩⟩
  rintro _ _ _ _ ⟨rfl, ⟨S29, v30, rfl, rfl, hc31, hot1, hot2, ho7⟩⟩
  refine blockL_s (thenL_n (WC.cov hc31 (WC.seq (WC.region (WO.mv rfl ?_)))))
  obtain ⟨r32, e33, h⟩ := bindS h
  refine WO.callF (S := S29) 4 rfl rfl (F83_ok e33 hot1.vw) Lay.flat_fl (fun v34 S36 c37 ho35 => ?_)
  have hot1 := hot1.to c37
  have hot2 := hot2.to c37
  have ho7 := ho7.to c37
  refine WO.mv rfl ?_
  refine WO.do rfl rfl ?_
  refine WO.do rfl rfl ?_
  refine WO.asg rfl (WO.asg rfl (WO.nil (thenL_n (WC.seq (WC.seq (WC.region ?_))))))
  obtain ⟨r38, e39, h⟩ := bindS h
  refine WO.callE (S := S36) rfl rfl (F73_ok e39) (fun S40 c41 => ?_)
  have hot1 := hot1.to c41
  have hot2 := hot2.to c41
  have ho7 := ho7.to c41
  have ho35 := ho35.to c41
  refine WO.do rfl rfl ?_
  refine WO.mv rfl ?_
  refine WO.cutB (d := 58) 3 ((!r38) || (r32.2 != 0)) (fun q42 => ?_) (fun q42 => ?_) ?_
  · refine WO.gno rfl rfl (WO.gno rfl rfl ?_)
    refine WO.pickT rfl rfl ?_
    refine WO.nil ?_
    exact ⟨rfl, rfl, (Cov.any rfl (orT q42) (Cov.skip rfl (Cov.skip rfl (Cov.skip rfl (Cov.skip rfl (Cov.refl _))))))⟩
  · skip
    refine WO.gyes rfl rfl (WO.mv rfl (WO.gyes rfl rfl ?_))
    refine WO.bin rfl rfl (by decide) (by decide) rfl ?_
    refine WO.pickF rfl rfl ?_
    refine WO.nil ?_
    exact ⟨rfl, rfl, (Cov.any rfl (orF q42) (Cov.skip rfl (Cov.skip rfl (Cov.skip rfl (Cov.skip rfl (Cov.refl _))))))⟩
  refine WO.mv rfl ?_
  refine WO.cutB (d := 65) 6 (((!r38) || (r32.2 != 0)) || ((r32.1.length : Int) != (t1.length : Int))) (fun q43 => ?_) (fun q43 => ?_) ?_
  · refine WO.gno rfl rfl (WO.gno rfl rfl (WO.gno rfl rfl (WO.gno rfl rfl (WO.gno rfl rfl ?_))))
    refine WO.pickT rfl rfl ?_
    refine WO.nil ?_
    exact ⟨rfl, rfl, (Cov.any rfl (orT q43) (Cov.skip rfl (Cov.skip rfl (Cov.skip rfl (Cov.skip rfl (Cov.skip rfl (Cov.skip rfl (Cov.skip rfl (Cov.refl _)))))))))⟩
  · skip
    refine WO.gyes rfl rfl (WO.mv rfl (WO.gyes rfl rfl ?_))
    refine WO.lenS rfl ho35.slv rfl ?_
    refine WO.gyes rfl rfl (WO.mv rfl (WO.gyes rfl rfl ?_))
    refine WO.lenS rfl hot1.slv rfl ?_
    refine WO.gyes rfl rfl ?_
    refine WO.bin rfl rfl (by decide) (by decide) rfl ?_
    refine WO.pickF rfl rfl ?_
    refine WO.nil ?_
    exact ⟨rfl, rfl, (Cov.any rfl (orF q43) (Cov.skip rfl (Cov.skip rfl (Cov.skip rfl (Cov.skip rfl (Cov.skip rfl (Cov.skip rfl (Cov.skip rfl (Cov.refl _)))))))))⟩
  refine WO.nil (thenL_n ?_)
  refine WC.cond rfl (fun q44 => ?_) (fun q44 => ?_)
  · have h := iteT q44 h
    refine WC.seq (WC.region ?_)
    obtain ⟨r45, e46, h⟩ := bindS h
    refine WO.callE (S := S40) rfl rfl (F73_ok e46) (fun S47 c48 => ?_)
    have hot1 := hot1.to c48
    have hot2 := hot2.to c48
    have ho7 := ho7.to c48
    have ho35 := ho35.to c48
    refine WO.mv rfl ?_
    refine WO.cutB (d := 70) 3 (r45 && (r32.2 != 0)) (fun q49 => ?_) (fun q49 => ?_) ?_
    · skip
      refine WO.gyes rfl rfl (WO.mv rfl (WO.gyes rfl rfl ?_))
      refine WO.bin rfl rfl (by decide) (by decide) rfl ?_
      refine WO.pickT rfl rfl ?_
      refine WO.nil ?_
      exact ⟨rfl, rfl, (Cov.any rfl (andT q49) (Cov.skip rfl (Cov.skip rfl (Cov.skip rfl (Cov.skip rfl (Cov.refl _))))))⟩
    · refine WO.gno rfl rfl (WO.gno rfl rfl ?_)
      refine WO.pickF rfl rfl ?_
      refine WO.nil ?_
      exact ⟨rfl, rfl, (Cov.any rfl (andF q49) (Cov.skip rfl (Cov.skip rfl (Cov.skip rfl (Cov.skip rfl (Cov.refl _))))))⟩
    refine WO.mv rfl ?_
    refine WO.cutB (d := 75) 4 ((r45 && (r32.2 != 0)) && ((r32.1.length : Int) == 0)) (fun q50 => ?_) (fun q50 => ?_) ?_
    · skip
      refine WO.gyes rfl rfl (WO.mv rfl (WO.gyes rfl rfl ?_))
      refine WO.lenS rfl ho35.slv rfl ?_
      refine WO.gyes rfl rfl ?_
      refine WO.bin rfl rfl (by decide) (by decide) rfl ?_
      refine WO.pickT rfl rfl ?_
      refine WO.nil ?_
      exact ⟨rfl, rfl, (Cov.any rfl (andT q50) (Cov.skip rfl (Cov.skip rfl (Cov.skip rfl (Cov.skip rfl (Cov.skip rfl (Cov.refl _)))))))⟩
    · refine WO.gno rfl rfl (WO.gno rfl rfl (WO.gno rfl rfl ?_))
      refine WO.pickF rfl rfl ?_
      refine WO.nil ?_
      exact ⟨rfl, rfl, (Cov.any rfl (andF q50) (Cov.skip rfl (Cov.skip rfl (Cov.skip rfl (Cov.skip rfl (Cov.skip rfl (Cov.refl _)))))))⟩
    refine WO.asg rfl (WO.nil (thenL_n (WC.ret (thenL_r ?_))))
    obtain rfl := someI h
    exact ⟨.inr rfl, _, _, rfl, rfl, rfl⟩
  · have h := iteF q44 h
    refine WC.skip (thenL_n (WC.seq (WC.region (WO.asg rfl (WO.nil (thenL_n (WC.seq (WC.seq (WC.region ?_)))))))))
    refine WO.mv rfl ?_
    refine WO.lenS rfl hot1.slv rfl ?_
    refine WO.mv rfl (WO.nil (thenL_n (WC.block ?_)))
    obtain ⟨b59, e60, h⟩ := bindS h
    refine WC.loopD e60 (fun s51 l' m' n' => ∃ S52 : Cx n, S52.m = m' ∧ S52.n = n' ∧ Cov l' [(1, .sc vt1), (2, .sc vt2), (7, .sc v30), (10, .sc v34), (12, .sc (.int .i64 s51.1)), (76, .sc vt1), (77, .sc (.int .i64 ((t1.length : Int)))), (78, .sc (.int .i64 s51.2))] ∧ Rd Y3 S52 vt1 t1 ∧ Rd Y9 S52 vt2 t2 ∧ Ow Y5 S52 2 v30 b27 ∧ Ow Y167 S52 4 v34 r32.1) (fun b e l' m' n' => e = .exit 2 ∧ ∃ S53 : Cx n, S53.m = m' ∧ S53.n = n' ∧ Cov l' [(1, .sc vt1), (2, .sc vt2), (7, .sc v30), (10, .sc v34), (12, .sc (.int .i64 b))] ∧ Rd Y3 S53 vt1 t1 ∧ Rd Y9 S53 vt2 t2 ∧ Ow Y5 S53 2 v30 b27 ∧ Ow Y167 S53 4 v34 r32.1) (by exact ⟨S40, rfl, rfl, (Cov.cons rfl (Cov.cons rfl (Cov.cons rfl (Cov.cons rfl (Cov.cons rfl (Cov.cons rfl (Cov.cons rfl (Cov.cons rfl (Cov.nil _))))))))), hot1, hot2, ho7, ho35⟩) ?_ ?_
    · clear h
      rintro s51 q _ _ _ ⟨S54, rfl, rfl, hc55, hot1, hot2, ho7, ho35⟩ h
      unfold F11_l1 at h
      refine WC.cov hc55 (WC.seq (WC.region ?_))
      refine WO.bin rfl rfl (by decide) (by decide) rfl ?_
      refine WO.nil (thenL_n (WC.seq ?_))
      refine WC.cond rfl (fun q56 => ?_) (fun q56 => ?_)
      · have h := iteT q56 h
        refine WC.skip (thenL_n (WC.seq (WC.block (WC.seq (WC.region ?_)))))
        obtain ⟨x57, e58, h⟩ := bindS h
        refine WO.ixS rfl rfl hot1.slv (at?_lt e58) rfl ?_
        refine WO.ldF rfl hot1.ro (fun _ hi => hi) (at?_get e58) rfl rfl rfl ?_
        refine WO.asg rfl (WO.nil (thenL_n (WC.region (WO.mv rfl (WO.mv rfl ?_)))))
        refine WO.bin rfl rfl (by decide) (by decide) rfl ?_
        refine WO.asg rfl (WO.nil (blockL_n (thenL_n (WC.region ?_))))
        refine WO.bin rfl rfl (by decide) (by decide) rfl ?_
        refine WO.mv rfl (WO.nil (thenL_n ?_))
        obtain rfl := someI h
        exact ⟨_, rfl, ⟨S54, rfl, rfl, (Cov.cons rfl (Cov.cons rfl (Cov.cons rfl (Cov.cons rfl (Cov.cons rfl (Cov.cons rfl (Cov.cons rfl (Cov.cons rfl (Cov.nil _))))))))), hot1, hot2, ho7, ho35⟩⟩
      · have h := iteF q56 h
        refine WC.exit (thenL_e (thenL_e ?_))
        obtain rfl := someI h
        exact ⟨_, rfl, rfl, ⟨S54, rfl, rfl, (Cov.cons rfl (Cov.cons rfl (Cov.cons rfl (Cov.cons rfl (Cov.cons rfl (Cov.nil _)))))), hot1, hot2, ho7, ho35⟩⟩
    rintro _ _ _ _ ⟨rfl, ⟨S61, rfl, rfl, hc62, hot1, hot2, ho7, ho35⟩⟩
    refine blockL_s (thenL_n (WC.cov hc62 (WC.seq (WC.region (WO.asg rfl (WO.asg rfl (WO.asg rfl (WO.nil (thenL_n ?_)))))))))
    refine WC.seq (WC.seq (WC.region (WO.asg rfl (WO.nil (thenL_n (WC.block ?_))))))
    obtain ⟨b162, e163, h⟩ := bindS h
    have hot1 := hot1.drop 2
    have hot2 := hot2.drop 2
    have ho7 := ho7.freeze
    have ho35 := ho35.drop 2
    refine WC.loopD e163 (fun s63 l' m' n' => ∃ S68 : Cx n, ∃ v69 v70 v71 v72 : SV, S68.m = m' ∧ S68.n = n' ∧ Cov l' [(1, .sc vt1), (2, .sc vt2), (7, .sc v69), (10, .sc v34), (12, .sc (.int .i64 b59)), (15, .sc v70), (16, .sc v71), (17, .sc v72), (18, .sc (.int .i64 s63.2.2.2.2))] ∧ Rd Y3 S68 vt1 t1 ∧ Rd Y9 S68 vt2 t2 ∧ Ow Y167 S68 4 v34 r32.1 ∧ Rd Y5 S68 v69 s63.1 ∧ Ow Y9 S68 5 v70 s63.2.1 ∧ Ow Y9 S68 6 v71 s63.2.2.1 ∧ Ow Y9 S68 7 v72 s63.2.2.2.1) (fun b e l' m' n' => (match b with | .inl b73 => e = .exit 4 ∧ ∃ S74 : Cx n, ∃ v75 v76 v77 : SV, S74.m = m' ∧ S74.n = n' ∧ Cov l' [(15, .sc v75), (16, .sc v76), (17, .sc v77)] ∧ Ow Y9 S74 5 v75 b73.1 ∧ Ow Y9 S74 6 v76 b73.2.1 ∧ Ow Y9 S74 7 v77 b73.2.2 | .inr b73 => e = .ret ∧ ∃ S78 : Cx n, S78.m = m' ∧ S78.n = n' ∧ Cov l' [(6, .sc (.bool b73))])) (by exact ⟨(S61.drop 2), v30, .nils, .nils, .nils, rfl, rfl, (Cov.cons rfl (Cov.cons rfl (Cov.cons rfl (Cov.cons rfl (Cov.cons rfl (Cov.cons rfl (Cov.cons rfl (Cov.cons rfl (Cov.cons rfl (Cov.nil _)))))))))), hot1, hot2, ho35, ho7, Ow.nil, Ow.nil, Ow.nil⟩) ?_ ?_
    · clear h
      rintro s63 q _ _ _ ⟨S79, v80, v81, v82, v83, rfl, rfl, hc84, hot1, hot2, ho35, ho7, ho15, ho16, ho17⟩ h
      unfold F11_l2 at h
      refine WC.cov hc84 (WC.seq (WC.block (WC.seq (WC.region (WO.mv rfl (WO.mv rfl ?_))))))
      refine WO.lenS rfl hot1.slv rfl ?_
      refine WO.mv rfl ?_
      refine WO.minD rfl rfl ?_
      refine WO.bsS (A := Y3) (S := S79) (M := [(t1.length : Int), (minI b59 1024)]) (cs := [.int .i64 ((t1.length : Int)), .int .i64 ((minI b59 1024))]) 8 rfl rfl rfl ⟨[.int .i64 ((t1.length : Int))], _, rfl, rfl, ⟨[.int .i64 ((minI b59 1024))], _, rfl, rfl, rfl⟩⟩ rfl (fun v85 S86 c87 ho88 => ?_)
      have hot1 := hot1.to c87
      have hot2 := hot2.to c87
      have ho35 := ho35.to c87
      have ho7 := ho7.to c87
      have ho15 := ho15.to c87
      have ho16 := ho16.to c87
      have ho17 := ho17.to c87
      obtain ⟨r89, e90, h⟩ := bindS h
      refine WO.callF (S := S86) 9 rfl rfl (F84_ok e90 ho7.vw ho88.vw) Lay.flat_fl (fun v91 S93 c94 ho92 => ?_)
      have hot1 := hot1.to c94
      have hot2 := hot2.to c94
      have ho35 := ho35.to c94
      have ho7 := ho7.to c94
      have ho15 := ho15.to c94
      have ho16 := ho16.to c94
      have ho17 := ho17.to c94
      have ho88 := ho88.to c94
      refine WO.mv rfl ?_
      refine WO.do rfl rfl ?_
      refine WO.do rfl rfl ?_
      refine WO.do rfl rfl ?_
      refine WO.asg rfl (WO.asg rfl (WO.asg rfl (WO.nil (thenL_n (WC.seq (WC.seq (WC.region (WO.mv rfl ?_))))))))
      refine WO.bin rfl rfl (by decide) (by decide) rfl ?_
      refine WO.mv rfl ?_
      refine WO.cutB (d := 105) 4 ((r89.2.2 != 0) || ((r89.1.length : Int) != 2)) (fun q95 => ?_) (fun q95 => ?_) ?_
      · refine WO.gno rfl rfl (WO.gno rfl rfl (WO.gno rfl rfl ?_))
        refine WO.pickT rfl rfl ?_
        refine WO.nil ?_
        exact ⟨rfl, rfl, (Cov.any rfl (orT q95) (Cov.skip rfl (Cov.skip rfl (Cov.skip rfl (Cov.skip rfl (Cov.skip rfl (Cov.refl _)))))))⟩
      · skip
        refine WO.gyes rfl rfl (WO.mv rfl (WO.gyes rfl rfl ?_))
        refine WO.lenS rfl ho92.slv rfl ?_
        refine WO.gyes rfl rfl ?_
        refine WO.bin rfl rfl (by decide) (by decide) rfl ?_
        refine WO.pickF rfl rfl ?_
        refine WO.nil ?_
        exact ⟨rfl, rfl, (Cov.any rfl (orF q95) (Cov.skip rfl (Cov.skip rfl (Cov.skip rfl (Cov.skip rfl (Cov.skip rfl (Cov.refl _)))))))⟩
      refine WO.mv rfl ?_
      refine WO.cutB (d := 109) 3 (((r89.2.2 != 0) || ((r89.1.length : Int) != 2)) || (decide (r89.2.1 < 1))) (fun q96 => ?_) (fun q96 => ?_) ?_
      · refine WO.gno rfl rfl (WO.gno rfl rfl ?_)
        refine WO.pickT rfl rfl ?_
        refine WO.nil ?_
        exact ⟨rfl, rfl, (Cov.any rfl (orT q96) (Cov.skip rfl (Cov.skip rfl (Cov.skip rfl (Cov.skip rfl (Cov.refl _))))))⟩
      · skip
        refine WO.gyes rfl rfl (WO.mv rfl (WO.gyes rfl rfl ?_))
        refine WO.bin rfl rfl (by decide) (by decide) rfl ?_
        refine WO.pickF rfl rfl ?_
        refine WO.nil ?_
        exact ⟨rfl, rfl, (Cov.any rfl (orF q96) (Cov.skip rfl (Cov.skip rfl (Cov.skip rfl (Cov.skip rfl (Cov.refl _))))))⟩
      refine WO.mv rfl ?_
      refine WO.cutB (d := 115) 5 ((((r89.2.2 != 0) || ((r89.1.length : Int) != 2)) || (decide (r89.2.1 < 1))) || (decide (r89.2.1 > (s63.1.length : Int)))) (fun q97 => ?_) (fun q97 => ?_) ?_
      · refine WO.gno rfl rfl (WO.gno rfl rfl (WO.gno rfl rfl (WO.gno rfl rfl ?_)))
        refine WO.pickT rfl rfl ?_
        refine WO.nil ?_
        exact ⟨rfl, rfl, (Cov.any rfl (orT q97) (Cov.skip rfl (Cov.skip rfl (Cov.skip rfl (Cov.skip rfl (Cov.skip rfl (Cov.skip rfl (Cov.refl _))))))))⟩
      · skip
        refine WO.gyes rfl rfl (WO.mv rfl (WO.gyes rfl rfl (WO.mv rfl (WO.gyes rfl rfl ?_))))
        refine WO.lenS rfl ho7.slv rfl ?_
        refine WO.gyes rfl rfl ?_
        refine WO.bin rfl rfl (by decide) (by decide) rfl ?_
        refine WO.pickF rfl rfl ?_
        refine WO.nil ?_
        exact ⟨rfl, rfl, (Cov.any rfl (orF q97) (Cov.skip rfl (Cov.skip rfl (Cov.skip rfl (Cov.skip rfl (Cov.skip rfl (Cov.skip rfl (Cov.refl _))))))))⟩
      refine WO.nil (thenL_n ?_)
      refine WC.cond rfl (fun q98 => ?_) (fun q98 => ?_)
      · have h := iteT q98 h
        refine WC.exit (thenL_e (blockL_e rfl (thenL_e (thenL_e ?_))))
        obtain rfl := someI h
        exact ⟨_, rfl, rfl, ⟨S93, v81, v82, v83, rfl, rfl, (Cov.cons rfl (Cov.cons rfl (Cov.cons rfl (Cov.nil _)))), ho15, ho16, ho17⟩⟩
      · have h := iteF q98 h
        refine WC.skip (thenL_n (WC.seq (WC.region (WO.mv rfl (WO.mv rfl ?_)))))
        obtain ⟨L99, e100, h⟩ := bindS h
        refine WO.slc (k' := .i64) rfl (.inl ⟨_, rfl, rfl⟩) (.inr ⟨rfl, rfl⟩) ho7 e100 rfl (fun v101 ho102 => ?_)
        have ho102 : Rd Y5 S93 v101 L99 := ho102
        refine WO.asg rfl (WO.nil (thenL_n (WC.seq ?_)))
        refine WC.drawN rfl rfl ?_
        have hot1z := hot1.oz
        have hot2z := hot2.oz
        have ho35z := ho35.oz
        have ho7z := ho7.oz
        have ho15z := ho15.oz
        have ho16z := ho16.oz
        have ho17z := ho17.oz
        have ho88z := ho88.oz
        have ho92z := ho92.oz
        have ho102z := ho102.oz
        refine WO.mv rfl (WO.mv rfl ?_)
        obtain ⟨x103, e104, h⟩ := bindS h
        refine WO.ixS rfl rfl ho92.slv (at?_lt e104) rfl ?_
        refine WO.ldF rfl ho92z (fun _ hi => hi.1) (at?_get e104) rfl rfl (limLe_self _) ?_
        refine WO.mv rfl ?_
        obtain ⟨x105, e106, h⟩ := bindS h
        refine WO.ixS rfl rfl ho92.slv (at?_lt e106) rfl ?_
        refine WO.ldF rfl ho92z (fun _ hi => hi.1) (at?_get e106) rfl rfl (limLe_self _) ?_
        obtain ⟨r107, e108, h⟩ := bindS h
        refine WO.callE (S := S93) rfl rfl (F85_ok e108 ho35.vw) (fun S109 c110 => ?_)
        have hot1z := hot1z.toz c110
        have hot2z := hot2z.toz c110
        have ho35z := ho35z.tow c110
        have ho7z := ho7z.toz c110
        have ho15z := ho15z.tow c110
        have ho16z := ho16z.tow c110
        have ho17z := ho17z.tow c110
        have ho88z := ho88z.tow c110
        have ho92z := ho92z.tow c110
        have ho102z := ho102z.toz c110
        have hot1 := hot1.to c110
        have hot2 := hot2.to c110
        have ho35 := ho35.to c110
        have ho7 := ho7.to c110
        have ho15 := ho15.to c110
        have ho16 := ho16.to c110
        have ho17 := ho17.to c110
        have ho88 := ho88.to c110
        have ho92 := ho92.to c110
        have ho102 := ho102.to c110
        refine WO.mv rfl ?_
        refine WO.do rfl rfl ?_
        refine WO.do rfl rfl ?_
        refine WO.asg rfl (WO.asg rfl (WO.nil (thenL_n (WC.seq (WC.seq (WC.region (WO.mv rfl ?_)))))))
        refine WO.bin rfl rfl (by decide) (by decide) rfl ?_
        refine WO.mv rfl ?_
        refine WO.cutB (d := 135) 3 ((r107.2 != 0) || (decide (r107.1 < 0))) (fun q111 => ?_) (fun q111 => ?_) ?_
        · refine WO.gno rfl rfl (WO.gno rfl rfl ?_)
          refine WO.pickT rfl rfl ?_
          refine WO.nil ?_
          exact ⟨rfl, rfl, (Cov.any rfl (orT q111) (Cov.skip rfl (Cov.skip rfl (Cov.skip rfl (Cov.skip rfl (Cov.refl _))))))⟩
        · skip
          refine WO.gyes rfl rfl (WO.mv rfl (WO.gyes rfl rfl ?_))
          refine WO.bin rfl rfl (by decide) (by decide) rfl ?_
          refine WO.pickF rfl rfl ?_
          refine WO.nil ?_
          exact ⟨rfl, rfl, (Cov.any rfl (orF q111) (Cov.skip rfl (Cov.skip rfl (Cov.skip rfl (Cov.skip rfl (Cov.refl _))))))⟩
        refine WO.mv rfl ?_
        refine WO.cutB (d := 141) 5 (((r107.2 != 0) || (decide (r107.1 < 0))) || (decide (r107.1 ≥ (t1.length : Int)))) (fun q112 => ?_) (fun q112 => ?_) ?_
        · refine WO.gno rfl rfl (WO.gno rfl rfl (WO.gno rfl rfl (WO.gno rfl rfl ?_)))
          refine WO.pickT rfl rfl ?_
          refine WO.nil ?_
          exact ⟨rfl, rfl, (Cov.any rfl (orT q112) (Cov.skip rfl (Cov.skip rfl (Cov.skip rfl (Cov.skip rfl (Cov.skip rfl (Cov.skip rfl (Cov.refl _))))))))⟩
        · skip
          refine WO.gyes rfl rfl (WO.mv rfl (WO.gyes rfl rfl (WO.mv rfl (WO.gyes rfl rfl ?_))))
          refine WO.lenS rfl hot1.slv rfl ?_
          refine WO.gyes rfl rfl ?_
          refine WO.bin rfl rfl (by decide) (by decide) rfl ?_
          refine WO.pickF rfl rfl ?_
          refine WO.nil ?_
          exact ⟨rfl, rfl, (Cov.any rfl (orF q112) (Cov.skip rfl (Cov.skip rfl (Cov.skip rfl (Cov.skip rfl (Cov.skip rfl (Cov.skip rfl (Cov.refl _))))))))⟩
        refine WO.mv rfl ?_
        obtain ⟨y116, e117, h⟩ := bindS h
        refine WO.cutB (d := 148) 6 y116 (fun q115 => ?_) (fun q115 => ?_) ?_
        · have h := e117
          have h := iteT q115 h
          obtain rfl := someI h
          refine WO.gno rfl rfl (WO.gno rfl rfl (WO.gno rfl rfl (WO.gno rfl rfl (WO.gno rfl rfl ?_))))
          refine WO.pickT rfl rfl ?_
          refine WO.nil ?_
          exact ⟨rfl, rfl, (Cov.cons rfl (Cov.skip rfl (Cov.skip rfl (Cov.skip rfl (Cov.skip rfl (Cov.skip rfl (Cov.skip rfl (Cov.skip rfl (Cov.refl _)))))))))⟩
        · have h := e117
          have h := iteF q115 h
          refine WO.gyes rfl rfl (WO.mv rfl (WO.gyes rfl rfl (WO.mv rfl (WO.gyes rfl rfl ?_))))
          obtain ⟨x113, e114, h⟩ := bindS h
          refine WO.ixS rfl rfl hot1.slv (at?_lt e114) rfl ?_
          refine WO.gyes rfl rfl ?_
          refine WO.ldF rfl hot1.ro (fun _ hi => hi) (at?_get e114) rfl rfl rfl ?_
          refine WO.gyes rfl rfl ?_
          refine WO.bin rfl rfl (by decide) (by decide) rfl ?_
          obtain rfl := someI h
          refine WO.pickF rfl rfl ?_
          refine WO.nil ?_
          exact ⟨rfl, rfl, (Cov.cons rfl (Cov.skip rfl (Cov.skip rfl (Cov.skip rfl (Cov.skip rfl (Cov.skip rfl (Cov.skip rfl (Cov.skip rfl (Cov.refl _)))))))))⟩
        refine WO.nil (thenL_n ?_)
        refine WC.cond rfl (fun q118 => ?_) (fun q118 => ?_)
        · have h := iteT q118 h
          refine WC.seq (WC.region (WO.asg rfl (WO.nil (thenL_n (WC.ret (thenL_r (blockL_r (thenL_r (thenL_r ?_)))))))))
          obtain rfl := someI h
          exact ⟨_, rfl, rfl, ⟨S109, rfl, rfl, (Cov.cons rfl (Cov.nil _))⟩⟩
        · have h := iteF q118 h
          refine WC.skip (thenL_n (WC.seq (WC.region (WO.mv rfl (WO.mv rfl ?_)))))
          refine WO.lenS rfl hot2.slv rfl ?_
          refine WO.bin rfl rfl (by decide) (by decide) rfl ?_
          refine WO.mv rfl ?_
          obtain ⟨y122, e123, h⟩ := bindS h
          refine WO.cutB (d := 160) 7 y122 (fun q121 => ?_) (fun q121 => ?_) ?_
          · have h := e123
            have h := iteT q121 h
            refine WO.gyes rfl rfl (WO.mv rfl (WO.gyes rfl rfl (WO.mv rfl (WO.gyes rfl rfl ?_))))
            obtain ⟨x119, e120, h⟩ := bindS h
            refine WO.ixS rfl rfl hot2.slv (at?_lt e120) rfl ?_
            refine WO.gyes rfl rfl ?_
            refine WO.ldF rfl hot2.ro (fun _ hi => hi) (at?_get e120) rfl rfl rfl ?_
            refine WO.gyes rfl rfl ?_
            refine WO.lenT rfl rfl rfl ?_
            refine WO.gyes rfl rfl ?_
            refine WO.bin rfl rfl (by decide) (by decide) rfl ?_
            obtain rfl := someI h
            refine WO.pickT rfl rfl ?_
            refine WO.nil ?_
            exact ⟨rfl, rfl, (Cov.cons rfl (Cov.skip rfl (Cov.skip rfl (Cov.skip rfl (Cov.skip rfl (Cov.skip rfl (Cov.skip rfl (Cov.skip rfl (Cov.skip rfl (Cov.refl _))))))))))⟩
          · have h := e123
            have h := iteF q121 h
            obtain rfl := someI h
            refine WO.gno rfl rfl (WO.gno rfl rfl (WO.gno rfl rfl (WO.gno rfl rfl (WO.gno rfl rfl (WO.gno rfl rfl ?_)))))
            refine WO.pickF rfl rfl ?_
            refine WO.nil ?_
            exact ⟨rfl, rfl, (Cov.cons rfl (Cov.skip rfl (Cov.skip rfl (Cov.skip rfl (Cov.skip rfl (Cov.skip rfl (Cov.skip rfl (Cov.skip rfl (Cov.skip rfl (Cov.refl _))))))))))⟩
          refine WO.nil (thenL_n ?_)
          refine WC.cond rfl (fun q124 => ?_) (fun q124 => ?_)
          · have h := iteT q124 h
            refine WC.seq (WC.region (WO.mv rfl (WO.mv rfl (WO.mv rfl ?_))))
            obtain ⟨x125, e126, h⟩ := bindS h
            refine WO.ixS rfl rfl hot2.slv (at?_lt e126) rfl ?_
            refine WO.ldF rfl hot2.ro (fun _ hi => hi) (at?_get e126) rfl rfl rfl ?_
            refine WO.bsS (A := Y9) (S := S109) (M := [x125]) (cs := [.str x125]) 10 rfl rfl rfl ⟨[.str x125], _, rfl, rfl, rfl⟩ rfl (fun v127 S128 c129 ho130 => ?_)
            have hot1 := hot1.to c129
            have hot2 := hot2.to c129
            have ho35 := ho35.to c129
            have ho7 := ho7.to c129
            have ho15 := ho15.to c129
            have ho16 := ho16.to c129
            have ho17 := ho17.to c129
            have ho88 := ho88.to c129
            have ho92 := ho92.to c129
            have ho102 := ho102.to c129
            obtain ⟨L131, e132, h⟩ := bindS h
            refine WO.appS rfl rfl ho15 ho130.ro e132 rfl rfl (fun v133 S134 c135 ho136 => ?_)
            have hot1 := hot1.to c135
            have hot2 := hot2.to c135
            have ho35 := ho35.to c135
            have ho7 := ho7.to c135
            have ho16 := ho16.to c135
            have ho17 := ho17.to c135
            have ho88 := ho88.to c135
            have ho92 := ho92.to c135
            have ho102 := ho102.to c135
            have ho130 := ho130.to c135
            refine WO.asg rfl (WO.nil (thenL_n (WC.seq (WC.region (WO.mv rfl ?_)))))
            refine WO.bin rfl rfl (by decide) (by decide) rfl ?_
            refine WO.bin rfl rfl (by decide) (by decide) rfl ?_
            refine WO.nil (thenL_n ?_)
            refine WC.cond rfl (fun q137 => ?_) (fun q137 => ?_)
            · have h := iteT q137 h
              refine WC.region (WO.mv rfl (WO.mv rfl (WO.mv rfl ?_)))
              obtain ⟨x138, e139, h⟩ := bindS h
              refine WO.ixS rfl rfl hot2.slv (at?_lt e139) rfl ?_
              refine WO.ldF rfl hot2.ro (fun _ hi => hi) (at?_get e139) rfl rfl rfl ?_
              refine WO.bsS (A := Y9) (S := S134) (M := [x138]) (cs := [.str x138]) 11 rfl rfl rfl ⟨[.str x138], _, rfl, rfl, rfl⟩ rfl (fun v140 S141 c142 ho143 => ?_)
              have hot1 := hot1.to c142
              have hot2 := hot2.to c142
              have ho35 := ho35.to c142
              have ho7 := ho7.to c142
              have ho16 := ho16.to c142
              have ho17 := ho17.to c142
              have ho88 := ho88.to c142
              have ho92 := ho92.to c142
              have ho102 := ho102.to c142
              have ho130 := ho130.to c142
              have ho136 := ho136.to c142
              obtain ⟨L144, e145, h⟩ := bindS h
              refine WO.appS rfl rfl ho17 ho143.ro e145 rfl rfl (fun v146 S147 c148 ho149 => ?_)
              have hot1 := hot1.to c148
              have hot2 := hot2.to c148
              have ho35 := ho35.to c148
              have ho7 := ho7.to c148
              have ho16 := ho16.to c148
              have ho88 := ho88.to c148
              have ho92 := ho92.to c148
              have ho102 := ho102.to c148
              have ho130 := ho130.to c148
              have ho136 := ho136.to c148
              have ho143 := ho143.to c148
              refine WO.asg rfl (WO.nil (blockL_n (thenL_n (WC.region (WO.mv rfl ?_)))))
              refine WO.bin rfl rfl (by decide) (by decide) rfl ?_
              refine WO.asg rfl (WO.nil (thenL_n ?_))
              obtain rfl := someI h
              exact ⟨_, rfl, ⟨S147, v101, v133, v82, v146, rfl, rfl, (Cov.cons rfl (Cov.cons rfl (Cov.cons rfl (Cov.cons rfl (Cov.cons rfl (Cov.cons rfl (Cov.cons rfl (Cov.cons rfl (Cov.cons rfl (Cov.nil _)))))))))), hot1, hot2, ho35, ho102, ho136, ho16, ho149⟩⟩
            · have h := iteF q137 h
              refine WC.region (WO.mv rfl (WO.mv rfl (WO.mv rfl ?_)))
              obtain ⟨x150, e151, h⟩ := bindS h
              refine WO.ixS rfl rfl hot2.slv (at?_lt e151) rfl ?_
              refine WO.ldF rfl hot2.ro (fun _ hi => hi) (at?_get e151) rfl rfl rfl ?_
              refine WO.bsS (A := Y9) (S := S134) (M := [x150]) (cs := [.str x150]) 12 rfl rfl rfl ⟨[.str x150], _, rfl, rfl, rfl⟩ rfl (fun v152 S153 c154 ho155 => ?_)
              have hot1 := hot1.to c154
              have hot2 := hot2.to c154
              have ho35 := ho35.to c154
              have ho7 := ho7.to c154
              have ho16 := ho16.to c154
              have ho17 := ho17.to c154
              have ho88 := ho88.to c154
              have ho92 := ho92.to c154
              have ho102 := ho102.to c154
              have ho130 := ho130.to c154
              have ho136 := ho136.to c154
              obtain ⟨L156, e157, h⟩ := bindS h
              refine WO.appS rfl rfl ho16 ho155.ro e157 rfl rfl (fun v158 S159 c160 ho161 => ?_)
              have hot1 := hot1.to c160
              have hot2 := hot2.to c160
              have ho35 := ho35.to c160
              have ho7 := ho7.to c160
              have ho17 := ho17.to c160
              have ho88 := ho88.to c160
              have ho92 := ho92.to c160
              have ho102 := ho102.to c160
              have ho130 := ho130.to c160
              have ho136 := ho136.to c160
              have ho155 := ho155.to c160
              refine WO.asg rfl (WO.nil (blockL_n (thenL_n (WC.region (WO.mv rfl ?_)))))
              refine WO.bin rfl rfl (by decide) (by decide) rfl ?_
              refine WO.asg rfl (WO.nil (thenL_n ?_))
              obtain rfl := someI h
              exact ⟨_, rfl, ⟨S159, v101, v133, v158, v83, rfl, rfl, (Cov.cons rfl (Cov.cons rfl (Cov.cons rfl (Cov.cons rfl (Cov.cons rfl (Cov.cons rfl (Cov.cons rfl (Cov.cons rfl (Cov.cons rfl (Cov.nil _)))))))))), hot1, hot2, ho35, ho102, ho136, ho161, ho17⟩⟩
          · have h := iteF q124 h
            refine WC.skip (blockL_n (thenL_n (WC.region (WO.mv rfl ?_))))
            refine WO.bin rfl rfl (by decide) (by decide) rfl ?_
            refine WO.asg rfl (WO.nil (thenL_n ?_))
            obtain rfl := someI h
            exact ⟨_, rfl, ⟨S109, v101, v81, v82, v83, rfl, rfl, (Cov.cons rfl (Cov.cons rfl (Cov.cons rfl (Cov.cons rfl (Cov.cons rfl (Cov.cons rfl (Cov.cons rfl (Cov.cons rfl (Cov.cons rfl (Cov.nil _)))))))))), hot1, hot2, ho35, ho102, ho15, ho16, ho17⟩⟩
    cases b162 with
    | inl b164 =>
      simp only at h
      rintro _ _ _ _ ⟨rfl, ⟨S165, v166, v167, v168, rfl, rfl, hc169, ho15, ho16, ho17⟩⟩
      refine blockL_s (thenL_n (WC.cov hc169 (WC.seq (WC.region (WO.mv rfl ?_)))))
      have ho15 := ho15.freeze
      have ho16 := ho16.drop 5
      have ho17 := ho17.drop 5
      obtain ⟨r170, e171, h⟩ := bindS h
      refine WO.callG (S := (S165.drop 5)) [] [] rfl rfl (F58_ok (S0 := (S165.drop 5).mp []) e171 ho15.mp) (fun _ S174 S175 hb hR => ?_)
      obtain ⟨v172, rfl, hR0⟩ := hR
      have c176 : Ch 1 (S165.drop 5) S175 := hb.ch [] 1
      have ho15 := ho15.to c176
      have ho16 := ho16.to c176
      have ho17 := ho17.to c176
      have ho173 := hR0.bkS hb rfl
      refine WO.mv rfl ?_
      refine WO.do rfl rfl ?_
      refine WO.do rfl rfl ?_
      refine WO.alW (S := S175) (cs := [.int .i64 0, .nils]) 13 rfl rfl rfl (fun b177 S178 c179 ho180 => ?_)
      have ho15 := ho15.to c179
      have ho16 := ho16.to c179
      have ho17 := ho17.to c179
      have ho173 := ho173.to c179
      refine WO.stW (S := S178) (r := [.int .i64 r170.1.1, v172]) rfl ho180.at0 rfl rfl ho180 rfl rfl rfl rfl rfl (fun S181 c182 ho180 => ?_)
      have ho15 := ho15.to c182
      have ho16 := ho16.to c182
      have ho17 := ho17.to c182
      have ho173 := ho173.to c182
      refine WO.asg rfl (WO.nil (thenL_n (WC.seq (WC.region (WO.mv rfl ?_)))))
      have ho15 := ho15.drop 7
      have ho16 := ho16.drop 7
      have ho17 := ho17.freeze
      have ho173 := ho173.drop 7
      have ho180 := ho180.drop 7
      obtain ⟨r183, e184, h⟩ := bindS h
      refine WO.callG (S := (S181.drop 7)) [] [] rfl rfl (F58_ok (S0 := (S181.drop 7).mp []) e184 ho17.mp) (fun _ S187 S188 hb hR => ?_)
      obtain ⟨v185, rfl, hR0⟩ := hR
      have c189 : Ch 1 (S181.drop 7) S188 := hb.ch [] 1
      have ho15 := ho15.to c189
      have ho16 := ho16.to c189
      have ho17 := ho17.to c189
      have ho173 := ho173.to c189
      have ho180 := ho180.to c189
      have ho186 := hR0.bkS hb rfl
      refine WO.mv rfl ?_
      refine WO.do rfl rfl ?_
      refine WO.do rfl rfl ?_
      refine WO.alW (S := S188) (cs := [.int .i64 0, .nils]) 14 rfl rfl rfl (fun b190 S191 c192 ho193 => ?_)
      have ho15 := ho15.to c192
      have ho16 := ho16.to c192
      have ho17 := ho17.to c192
      have ho173 := ho173.to c192
      have ho180 := ho180.to c192
      have ho186 := ho186.to c192
      refine WO.stW (S := S191) (r := [.int .i64 r183.1.1, v185]) rfl ho193.at0 rfl rfl ho193 rfl rfl rfl rfl rfl (fun S194 c195 ho193 => ?_)
      have ho15 := ho15.to c195
      have ho16 := ho16.to c195
      have ho17 := ho17.to c195
      have ho173 := ho173.to c195
      have ho180 := ho180.to c195
      have ho186 := ho186.to c195
      refine WO.asg rfl (WO.nil (thenL_n (WC.seq (WC.region (WO.mv rfl ?_)))))
      have ho15 := ho15.drop 6
      have ho16 := ho16.freeze
      have ho17 := ho17.drop 6
      have ho173 := ho173.drop 6
      have ho180 := ho180.drop 6
      have ho186 := ho186.drop 6
      have ho193 := ho193.drop 6
      obtain ⟨r196, e197, h⟩ := bindS h
      refine WO.callG (S := (S194.drop 6)) [] [] rfl rfl (F58_ok (S0 := (S194.drop 6).mp []) e197 ho16.mp) (fun _ S200 S201 hb hR => ?_)
      obtain ⟨v198, rfl, hR0⟩ := hR
      have c202 : Ch 1 (S194.drop 6) S201 := hb.ch [] 1
      have ho15 := ho15.to c202
      have ho16 := ho16.to c202
      have ho17 := ho17.to c202
      have ho173 := ho173.to c202
      have ho180 := ho180.to c202
      have ho186 := ho186.to c202
      have ho193 := ho193.to c202
      have ho199 := hR0.bkS hb rfl
      refine WO.mv rfl ?_
      refine WO.do rfl rfl ?_
      refine WO.do rfl rfl ?_
      refine WO.alW (S := S201) (cs := [.int .i64 0, .nils]) 15 rfl rfl rfl (fun b203 S204 c205 ho206 => ?_)
      have ho15 := ho15.to c205
      have ho16 := ho16.to c205
      have ho17 := ho17.to c205
      have ho173 := ho173.to c205
      have ho180 := ho180.to c205
      have ho186 := ho186.to c205
      have ho193 := ho193.to c205
      have ho199 := ho199.to c205
      refine WO.stW (S := S204) (r := [.int .i64 r196.1.1, v198]) rfl ho206.at0 rfl rfl ho206 rfl rfl rfl rfl rfl (fun S207 c208 ho206 => ?_)
      have ho15 := ho15.to c208
      have ho16 := ho16.to c208
      have ho17 := ho17.to c208
      have ho173 := ho173.to c208
      have ho180 := ho180.to c208
      have ho186 := ho186.to c208
      have ho193 := ho193.to c208
      have ho199 := ho199.to c208
      refine WO.asg rfl (WO.nil (thenL_n (WC.seq (WC.region ?_))))
      refine WO.ldWA (sz := 2) (r := [.int .i64 r183.1.1, v185]) rfl ho193.at0 ho193 rfl rfl rfl ho193.lt rfl ?_
      refine WO.ldWA (sz := 2) (r := [.int .i64 r196.1.1, v198]) rfl ho206.at0 ho206 rfl rfl rfl ho206.lt rfl ?_
      obtain ⟨r209, e210, h⟩ := bindS h
      refine WO.callG (S := S207) [] [(902, 16)] rfl rfl (F59_ok (S0 := S207.mp []) e210 ho186.mp ho199.mp) (fun _ S213 S214 hb hR => ?_)
      obtain ⟨v211, rfl, hR0⟩ := hR
      have c215 : Ch 1 S207 S214 := hb.ch [] 1
      have ho15 := ho15.to c215
      have ho16 := ho16.to c215
      have ho17 := ho17.to c215
      have ho173 := ho173.to c215
      have ho180 := ho180.to c215
      have ho186 := ho186.to c215
      have ho193 := ho193.to c215
      have ho199 := ho199.to c215
      have ho206 := ho206.to c215
      have ho212 := hR0.bkF hb rfl Lay.flat_fl
      refine WO.mv rfl ?_
      refine WO.do rfl rfl ?_
      refine WO.do rfl rfl ?_
      refine WO.alW (S := S214) (cs := [.int .i64 0, .nils]) 17 rfl rfl rfl (fun b216 S217 c218 ho219 => ?_)
      have ho15 := ho15.to c218
      have ho16 := ho16.to c218
      have ho17 := ho17.to c218
      have ho173 := ho173.to c218
      have ho180 := ho180.to c218
      have ho186 := ho186.to c218
      have ho193 := ho193.to c218
      have ho199 := ho199.to c218
      have ho206 := ho206.to c218
      have ho212 := ho212.to c218
      refine WO.stW (S := S217) (r := [.int .i64 r209.1.1, v211]) rfl ho219.at0 rfl rfl ho219 rfl rfl rfl rfl rfl (fun S220 c221 ho219 => ?_)
      have ho15 := ho15.to c221
      have ho16 := ho16.to c221
      have ho17 := ho17.to c221
      have ho173 := ho173.to c221
      have ho180 := ho180.to c221
      have ho186 := ho186.to c221
      have ho193 := ho193.to c221
      have ho199 := ho199.to c221
      have ho206 := ho206.to c221
      have ho212 := ho212.to c221
      refine WO.asg rfl (WO.nil (thenL_n (WC.seq (WC.region (WO.mv rfl (WO.mv rfl (WO.mv rfl (WO.mv rfl ?_))))))))
      refine WO.bsS (A := Y27) (S := S220) (M := [r170.2, r183.2, r196.2, r209.2]) (cs := [.int .i64 r170.2, .int .i64 r183.2, .int .i64 r196.2, .int .i64 r209.2]) 18 rfl rfl rfl ⟨[.int .i64 r170.2], _, rfl, rfl, ⟨[.int .i64 r183.2], _, rfl, rfl, ⟨[.int .i64 r196.2], _, rfl, rfl, ⟨[.int .i64 r209.2], _, rfl, rfl, rfl⟩⟩⟩⟩ rfl (fun v222 S223 c224 ho225 => ?_)
      have ho15 := ho15.to c224
      have ho16 := ho16.to c224
      have ho17 := ho17.to c224
      have ho173 := ho173.to c224
      have ho180 := ho180.to c224
      have ho186 := ho186.to c224
      have ho193 := ho193.to c224
      have ho199 := ho199.to c224
      have ho206 := ho206.to c224
      have ho212 := ho212.to c224
      have ho219 := ho219.to c224
      obtain ⟨r226, e227, h⟩ := bindS h
      refine WO.callE (S := S223) rfl rfl (F76_ok e227 ho225.vw) (fun S228 c229 => ?_)
      have ho15 := ho15.to c229
      have ho16 := ho16.to c229
      have ho17 := ho17.to c229
      have ho173 := ho173.to c229
      have ho180 := ho180.to c229
      have ho186 := ho186.to c229
      have ho193 := ho193.to c229
      have ho199 := ho199.to c229
      have ho206 := ho206.to c229
      have ho212 := ho212.to c229
      have ho219 := ho219.to c229
      have ho225 := ho225.to c229
      refine WO.mv rfl ?_
      obtain ⟨y235, e236, h⟩ := bindS h
      refine WO.cutS (d := 218) (S := S228) 6 y235 (fun q234 => ?_) (fun q234 => ?_) (fun S237 c238 => ?_)
      · have h := e236
        have h := iteT q234 h
        refine WO.gyes rfl rfl ?_
        refine WO.fldS (j := 0) (q := 0) rfl ho180.at0 ho180.ptr rfl rfl rfl (by decide) ?_
        refine WO.gyes rfl rfl ?_
        refine WO.ldW rfl rfl ho180 rfl rfl ho180.lt rfl ?_
        refine WO.gyes rfl rfl ?_
        refine WO.fldS (j := 0) (q := 0) rfl ho219.at0 ho219.ptr rfl rfl rfl (by decide) ?_
        refine WO.gyes rfl rfl ?_
        refine WO.ldW rfl rfl ho219 rfl rfl ho219.lt rfl ?_
        refine WO.gyes rfl rfl ?_
        obtain ⟨r230, e231, h⟩ := bindS h
        refine WO.callE (S := S228) rfl rfl (F86_ok e231 ho173.vw ho212.vw) (fun S232 c233 => ?_)
        have ho15 := ho15.to c233
        have ho16 := ho16.to c233
        have ho17 := ho17.to c233
        have ho173 := ho173.to c233
        have ho180 := ho180.to c233
        have ho186 := ho186.to c233
        have ho193 := ho193.to c233
        have ho199 := ho199.to c233
        have ho206 := ho206.to c233
        have ho212 := ho212.to c233
        have ho219 := ho219.to c233
        have ho225 := ho225.to c233
        obtain rfl := someI h
        refine WO.pickT rfl rfl ?_
        refine WO.nil ?_
        exact ⟨S232, rfl, rfl, c233, (Cov.cons rfl (Cov.skip rfl (Cov.skip rfl (Cov.skip rfl (Cov.skip rfl (Cov.skip rfl (Cov.skip rfl (Cov.skip rfl (Cov.refl _)))))))))⟩
      · have h := e236
        have h := iteF q234 h
        obtain rfl := someI h
        refine WO.gno rfl rfl (WO.gno rfl rfl (WO.gno rfl rfl (WO.gno rfl rfl (WO.gno rfl rfl ?_))))
        refine WO.pickF rfl rfl ?_
        refine WO.nil ?_
        exact ⟨S228, rfl, rfl, Ch.refl _ _, (Cov.cons rfl (Cov.skip rfl (Cov.skip rfl (Cov.skip rfl (Cov.skip rfl (Cov.skip rfl (Cov.skip rfl (Cov.skip rfl (Cov.refl _)))))))))⟩
      have ho15 := ho15.to c238
      have ho16 := ho16.to c238
      have ho17 := ho17.to c238
      have ho173 := ho173.to c238
      have ho180 := ho180.to c238
      have ho186 := ho186.to c238
      have ho193 := ho193.to c238
      have ho199 := ho199.to c238
      have ho206 := ho206.to c238
      have ho212 := ho212.to c238
      have ho219 := ho219.to c238
      have ho225 := ho225.to c238
      refine WO.asg rfl (WO.nil (thenL_n (WC.ret ?_)))
      obtain rfl := someI h
      exact ⟨.inr rfl, _, _, rfl, rfl, rfl⟩
    | inr b164 =>
      simp only at h
      rintro _ _ _ _ ⟨rfl, ⟨S239, rfl, rfl, hc240⟩⟩
      refine blockL_r (thenL_r ?_)
      obtain rfl := someI h
      exact ⟨.inr rfl, _, _, (resK_cov hc240 rfl), rfl, rfl⟩
end Go.Proofs.Ytihmliblbhjlaaa

/- The machine answers F144_145: printed by a program of ours (gen.py). -/
import Derived.Test.YtihmliblbhjlaaaDef
import Derived.Test.YtihmliblbhjlaaaEnv
import Derived.Test.YtihmliblbhjlaaaF145
import Derived.Test.YtihmliblbhjlaaaF45
set_option linter.unusedVariables false
namespace Go.Proofs.Ytihmliblbhjlaaa
open Go.Am
theorem F144_145.fn : E.fn 144 = some ⟨81, (Try.f144.body.getD .skip), Try.f144.results.toList, []⟩ := rfl
theorem F144_145_ok {F : Nat} {m : Mem} {n : Nat} {r : (List Int)} {t0 : List Int} {vt0 : SV} (h : F144_145 F t0 = some r) (kt0 : Vw Y3 n m vt0 t0) : Ret E n 144 [.sc vt0, .sc (.fn 145 [])] m n (fun v m' n' => ∃ w, v = .sc w ∧ Fr Y3 n m' n' w r) := by
  unfold F144_145 at h
  refine Ret.walk F144_145.fn ?_
  refine WC.start fun S0 em en hz => ?_
  have hot0 := kt0.rdS em hz
  refine WC.seq ?_
  refine WC.region ?_
  refine WO.asg rfl ?_
  refine WO.nil ?_
  refine thenL_n ?_
  refine WC.seq ?_
  refine WC.region ?_
  refine WO.asg rfl ?_
  refine WO.nil ?_
  refine thenL_n ?_
  refine WC.seq ?_
  refine WC.region ?_
  refine WO.mv rfl ?_
  refine WO.lenS rfl hot0.slv rfl ?_
  obtain ⟨L1, e2, h⟩ := bindS h
  refine WO.mkS (A := Y22) (S := S0) 2 rfl rfl e2 ⟨.nils, rfl, .inl ⟨.inl rfl, rfl⟩⟩ rfl rfl (fun v3 S4 c5 ho6 => ?_)
  have hot0 := hot0.to c5
  refine WO.asg rfl ?_
  refine WO.nil ?_
  refine thenL_n ?_
  refine WC.seq ?_
  refine WC.seq ?_
  refine WC.region ?_
  refine WO.mv rfl ?_
  refine WO.lenS rfl hot0.slv rfl ?_
  refine WO.mv rfl ?_
  refine WO.nil ?_
  refine thenL_n ?_
  refine WC.block ?_
  obtain ⟨b92, e93, h⟩ := bindS h
  refine WC.loopD e93 (fun s7 l' m' n' => ∃ S9 : Cx n, ∃ v10 : SV, S9.m = m' ∧ S9.n = n' ∧ Cov l' [(0, .sc vt0), (1, .sc (.fn 145 [])), (5, .sc v10), (6, .sc v3), (14, .sc vt0), (15, .sc (.int .i64 ((t0.length : Int)))), (16, .sc (.int .i64 s7.2.1))] ∧ Rd Y3 S9 vt0 t0 ∧ Ow Y22 S9 2 v3 s7.2.2 ∧ Rd Y3 S9 v10 s7.1) (fun b e l' m' n' => e = .exit 0 ∧ ∃ S11 : Cx n, ∃ v12 : SV, S11.m = m' ∧ S11.n = n' ∧ Cov l' [(5, .sc v12)] ∧ Rd Y3 S11 v12 b) (by exact ⟨S4, .nils, rfl, rfl, (Cov.cons rfl (Cov.cons rfl (Cov.cons rfl (Cov.cons rfl (Cov.cons rfl (Cov.cons rfl (Cov.cons rfl (Cov.nil _)))))))), hot0, ho6, Rd.nil⟩) ?_ ?_
  · clear h
    rintro s7 q _ _ _ ⟨S13, v14, rfl, rfl, hc15, hot0, ho6, ho5⟩ h
    unfold F144_145_l1 at h
    refine WC.cov hc15 ?_
    refine WC.seq ?_
    refine WC.region ?_
    refine WO.bin rfl rfl (by decide) (by decide) rfl ?_
    refine WO.nil ?_
    refine thenL_n ?_
    refine WC.seq ?_
    refine WC.cond rfl (fun q16 => ?_) (fun q16 => ?_)
    · have h := iteT q16 h
      refine WC.skip ?_
      refine thenL_n ?_
      refine WC.seq ?_
      refine WC.block ?_
      refine WC.seq ?_
      refine WC.region ?_
      refine WO.mv rfl ?_
      obtain ⟨x17, e18, h⟩ := bindS h
      refine WO.ixS rfl rfl hot0.slv (at?_lt e18) rfl ?_
      refine WO.ldF rfl hot0.ro (fun _ hi => hi) (at?_get e18) rfl rfl rfl ?_
      refine WO.asg rfl ?_
      refine WO.asg rfl ?_
      refine WO.nil ?_
      refine thenL_n ?_
      refine WC.seq ?_
      refine WC.seq ?_
      refine WC.region ?_
      refine WO.mv rfl ?_
      refine WO.mv rfl ?_
      obtain ⟨L19, e20, h⟩ := bindS h
      refine WO.slc (k := .i64) rfl (.inr ⟨rfl, rfl⟩) (.inl ⟨_, rfl, rfl⟩) hot0 e20 rfl (fun v21 ho22 => ?_)
      have ho22 : Rd Y3 S13 v21 L19 := ho22
      refine WO.lenS rfl ho22.slv rfl ?_
      refine WO.mv rfl ?_
      refine WO.nil ?_
      refine thenL_n ?_
      refine WC.block ?_
      obtain ⟨b55, e56, h⟩ := bindS h
      refine WC.loopD e56 (fun s23 l' m' n' => ∃ S24 : Cx n, S24.m = m' ∧ S24.n = n' ∧ Cov l' [(0, .sc vt0), (1, .sc (.fn 145 [])), (5, .sc v14), (6, .sc v3), (7, .sc (.int .i64 s7.2.1)), (8, .sc (.int .i64 x17)), (14, .sc vt0), (15, .sc (.int .i64 ((t0.length : Int)))), (16, .sc (.int .i64 s7.2.1)), (23, .sc v21), (24, .sc (.int .i64 ((L19.length : Int)))), (25, .sc (.int .i64 s23.1))] ∧ Rd Y3 S24 vt0 t0 ∧ Rd Y3 S24 v14 s7.1 ∧ Ow Y22 S24 2 v3 s23.2 ∧ Rd Y3 S24 v21 L19) (fun b e l' m' n' => e = .exit 2 ∧ ∃ S25 : Cx n, S25.m = m' ∧ S25.n = n' ∧ Cov l' [(0, .sc vt0), (1, .sc (.fn 145 [])), (5, .sc v14), (6, .sc v3), (7, .sc (.int .i64 s7.2.1)), (14, .sc vt0), (15, .sc (.int .i64 ((t0.length : Int)))), (16, .sc (.int .i64 s7.2.1))] ∧ Rd Y3 S25 vt0 t0 ∧ Rd Y3 S25 v14 s7.1 ∧ Ow Y22 S25 2 v3 b) (by exact ⟨S13, rfl, rfl, (Cov.cons rfl (Cov.cons rfl (Cov.cons rfl (Cov.cons rfl (Cov.cons rfl (Cov.cons rfl (Cov.cons rfl (Cov.cons rfl (Cov.cons rfl (Cov.cons rfl (Cov.cons rfl (Cov.cons rfl (Cov.nil _))))))))))))), hot0, ho5, ho6, ho22⟩) ?_ ?_
      · clear h
        rintro s23 q _ _ _ ⟨S26, rfl, rfl, hc27, hot0, ho5, ho6, ho22⟩ h
        unfold F144_145_l0 at h
        refine WC.cov hc27 ?_
        refine WC.seq ?_
        refine WC.region ?_
        refine WO.bin rfl rfl (by decide) (by decide) rfl ?_
        refine WO.nil ?_
        refine thenL_n ?_
        refine WC.seq ?_
        refine WC.cond rfl (fun q28 => ?_) (fun q28 => ?_)
        · have h := iteT q28 h
          refine WC.skip ?_
          refine thenL_n ?_
          refine WC.seq ?_
          refine WC.block ?_
          refine WC.seq ?_
          refine WC.region ?_
          refine WO.mv rfl ?_
          obtain ⟨x29, e30, h⟩ := bindS h
          refine WO.ixS rfl rfl ho22.slv (at?_lt e30) rfl ?_
          refine WO.ldF rfl ho22.ro (fun _ hi => hi) (at?_get e30) rfl rfl rfl ?_
          refine WO.asg rfl ?_
          refine WO.asg rfl ?_
          refine WO.nil ?_
          refine thenL_n ?_
          refine WC.seq ?_
          refine WC.drawN rfl rfl ?_
          have hot0z := hot0.oz
          have ho5z := ho5.oz
          have ho6z := ho6.oz
          have ho22z := ho22.oz
          refine WO.mv rfl ?_
          refine WO.mv rfl ?_
          refine WO.mv rfl ?_
          obtain ⟨r31, e32, h⟩ := bindS h
          refine WO.callE (S := S26) rfl rfl (F145_ok e32) (fun S33 c34 => ?_)
          have hot0z := hot0z.toz c34
          have ho5z := ho5z.toz c34
          have ho6z := ho6z.tow c34
          have ho22z := ho22z.toz c34
          have hot0 := hot0.to c34
          have ho5 := ho5.to c34
          have ho6 := ho6.to c34
          have ho22 := ho22.to c34
          refine WO.mv rfl ?_
          obtain ⟨y44, e45, h⟩ := bindS h
          refine WO.cutB (d := 46) 12 y44 (fun q43 => ?_) (fun q43 => ?_) ?_
          · have h := e45
            have h := iteT q43 h
            refine WO.gyes rfl rfl ?_
            refine WO.mv rfl ?_
            refine WO.gyes rfl rfl ?_
            refine WO.mv rfl ?_
            refine WO.gyes rfl rfl ?_
            obtain ⟨L35, e36, h⟩ := bindS h
            refine WO.ixS rfl rfl ho6.slv (at?_lt e36) rfl ?_
            refine WO.gyes rfl rfl ?_
            refine WO.ldS rfl ho6z (fun _ hi => hi.1) (at?_get e36) rfl (limLe_self _) (fun v37 ho38 => ?_)
            have ho38 : Rd Y3 S33 v37 L35 := ho38
            refine WO.gyes rfl rfl ?_
            refine WO.lenS rfl ho38.slv rfl ?_
            refine WO.gyes rfl rfl ?_
            refine WO.mv rfl ?_
            refine WO.gyes rfl rfl ?_
            refine WO.mv rfl ?_
            refine WO.gyes rfl rfl ?_
            obtain ⟨L39, e40, h⟩ := bindS h
            refine WO.ixS rfl rfl ho6.slv (at?_lt e40) rfl ?_
            refine WO.gyes rfl rfl ?_
            refine WO.ldS rfl ho6z (fun _ hi => hi.1) (at?_get e40) rfl (limLe_self _) (fun v41 ho42 => ?_)
            have ho42 : Rd Y3 S33 v41 L39 := ho42
            refine WO.gyes rfl rfl ?_
            refine WO.lenS rfl ho42.slv rfl ?_
            refine WO.gyes rfl rfl ?_
            refine WO.bin rfl rfl (by decide) (by decide) rfl ?_
            obtain rfl := someI h
            refine WO.pickT rfl rfl ?_
            refine WO.nil ?_
            exact ⟨rfl, rfl, (Cov.cons rfl (Cov.skip rfl (Cov.skip rfl (Cov.skip rfl (Cov.skip rfl (Cov.skip rfl (Cov.skip rfl (Cov.skip rfl (Cov.skip rfl (Cov.skip rfl (Cov.skip rfl (Cov.skip rfl (Cov.skip rfl (Cov.skip rfl (Cov.refl _)))))))))))))))⟩
          · have h := e45
            have h := iteF q43 h
            obtain rfl := someI h
            refine WO.gno rfl rfl ?_
            refine WO.gno rfl rfl ?_
            refine WO.gno rfl rfl ?_
            refine WO.gno rfl rfl ?_
            refine WO.gno rfl rfl ?_
            refine WO.gno rfl rfl ?_
            refine WO.gno rfl rfl ?_
            refine WO.gno rfl rfl ?_
            refine WO.gno rfl rfl ?_
            refine WO.gno rfl rfl ?_
            refine WO.gno rfl rfl ?_
            refine WO.pickF rfl rfl ?_
            refine WO.nil ?_
            exact ⟨rfl, rfl, (Cov.cons rfl (Cov.skip rfl (Cov.skip rfl (Cov.skip rfl (Cov.skip rfl (Cov.skip rfl (Cov.skip rfl (Cov.skip rfl (Cov.skip rfl (Cov.skip rfl (Cov.skip rfl (Cov.skip rfl (Cov.skip rfl (Cov.skip rfl (Cov.refl _)))))))))))))))⟩
          refine WO.nil ?_
          refine thenL_n ?_
          refine WC.cond rfl (fun q46 => ?_) (fun q46 => ?_)
          · have h := iteT q46 h
            refine WC.region ?_
            refine WO.mv rfl ?_
            refine WO.mv rfl ?_
            refine WO.mv rfl ?_
            refine WO.mv rfl ?_
            obtain ⟨L47, e48, h⟩ := bindS h
            refine WO.ixS rfl rfl ho6.slv (at?_lt e48) rfl ?_
            refine WO.ldS rfl ho6.ro (fun _ hi => hi) (at?_get e48) rfl rfl (fun v49 ho50 => ?_)
            have ho50 : Rd Y3 S33 v49 L47 := ho50
            obtain ⟨u51, e52, h⟩ := bindS h
            refine WO.ixS rfl rfl ho6.slv (ck_some e52) rfl ?_
            refine WO.stS (S := S33) rfl rfl ho6 (ck_nat e52) ho50 rfl rfl (fun S53 c54 ho6 => ?_)
            have hot0 := hot0.to c54
            have ho5 := ho5.to c54
            have ho22 := ho22.to c54
            have ho50 := ho50.to c54
            refine WO.nil ?_
            refine blockL_n ?_
            refine thenL_n ?_
            refine WC.region ?_
            refine WO.bin rfl rfl (by decide) (by decide) rfl ?_
            refine WO.mv rfl ?_
            refine WO.nil ?_
            refine thenL_n ?_
            obtain rfl := someI h
            exact ⟨_, rfl, ⟨S53, rfl, rfl, (Cov.cons rfl (Cov.cons rfl (Cov.cons rfl (Cov.cons rfl (Cov.cons rfl (Cov.cons rfl (Cov.cons rfl (Cov.cons rfl (Cov.cons rfl (Cov.cons rfl (Cov.cons rfl (Cov.cons rfl (Cov.nil _))))))))))))), hot0, ho5, ho6, ho22⟩⟩
          · have h := iteF q46 h
            refine WC.skip ?_
            refine blockL_n ?_
            refine thenL_n ?_
            refine WC.region ?_
            refine WO.bin rfl rfl (by decide) (by decide) rfl ?_
            refine WO.mv rfl ?_
            refine WO.nil ?_
            refine thenL_n ?_
            obtain rfl := someI h
            exact ⟨_, rfl, ⟨S33, rfl, rfl, (Cov.cons rfl (Cov.cons rfl (Cov.cons rfl (Cov.cons rfl (Cov.cons rfl (Cov.cons rfl (Cov.cons rfl (Cov.cons rfl (Cov.cons rfl (Cov.cons rfl (Cov.cons rfl (Cov.cons rfl (Cov.nil _))))))))))))), hot0, ho5, ho6, ho22⟩⟩
        · have h := iteF q28 h
          refine WC.exit ?_
          refine thenL_e ?_
          refine thenL_e ?_
          obtain rfl := someI h
          exact ⟨_, rfl, rfl, ⟨S26, rfl, rfl, (Cov.cons rfl (Cov.cons rfl (Cov.cons rfl (Cov.cons rfl (Cov.cons rfl (Cov.cons rfl (Cov.cons rfl (Cov.cons rfl (Cov.nil _))))))))), hot0, ho5, ho6⟩⟩
      rintro _ _ _ _ ⟨rfl, ⟨S57, rfl, rfl, hc58, hot0, ho5, ho6⟩⟩
      refine blockL_s ?_
      refine thenL_n ?_
      refine WC.cov hc58 ?_
      refine WC.seq ?_
      refine WC.region ?_
      refine WO.mv rfl ?_
      refine WO.mv rfl ?_
      refine WO.mv rfl ?_
      refine WO.mv rfl ?_
      obtain ⟨L59, e60, h⟩ := bindS h
      refine WO.ixS rfl rfl ho6.slv (at?_lt e60) rfl ?_
      refine WO.ldS rfl ho6.ro (fun _ hi => hi) (at?_get e60) rfl rfl (fun v61 ho62 => ?_)
      have ho62 : Rd Y3 S57 v61 L59 := ho62
      obtain ⟨r63, e64, h⟩ := bindS h
      refine WO.callF (S := S57) 3 rfl rfl (F45_ok e64 ho62.vw) Lay.flat_fl (fun v65 S67 c68 ho66 => ?_)
      have hot0 := hot0.to c68
      have ho5 := ho5.to c68
      have ho6 := ho6.to c68
      have ho62 := ho62.to c68
      refine WO.mv rfl ?_
      refine WO.bsS (A := Y3) (S := S67) (M := [s7.2.1]) (cs := [.int .i64 s7.2.1]) 4 rfl rfl rfl ⟨[.int .i64 s7.2.1], _, rfl, rfl, rfl⟩ rfl (fun v69 S70 c71 ho72 => ?_)
      have hot0 := hot0.to c71
      have ho5 := ho5.to c71
      have ho6 := ho6.to c71
      have ho62 := ho62.to c71
      have ho66 := ho66.to c71
      obtain ⟨L73, e74, h⟩ := bindS h
      refine WO.appS rfl rfl ho66 ho72.ro e74 rfl rfl (fun v75 S76 c77 ho78 => ?_)
      have hot0 := hot0.to c77
      have ho5 := ho5.to c77
      have ho6 := ho6.to c77
      have ho62 := ho62.to c77
      have ho72 := ho72.to c77
      obtain ⟨u79, e80, h⟩ := bindS h
      refine WO.ixS rfl rfl ho6.slv (ck_some e80) rfl ?_
      have hot0 := hot0.drop 3
      have ho5 := ho5.drop 3
      have ho6 := ho6.drop 3
      have ho62 := ho62.drop 3
      have ho72 := ho72.drop 3
      have ho78 := ho78.freeze
      refine WO.stS (S := (S76.drop 3)) rfl rfl ho6 (ck_nat e80) ho78 rfl rfl (fun S81 c82 ho6 => ?_)
      have hot0 := hot0.to c82
      have ho5 := ho5.to c82
      have ho62 := ho62.to c82
      have ho72 := ho72.to c82
      have ho78 := ho78.to c82
      refine WO.nil ?_
      refine thenL_n ?_
      refine WC.seq ?_
      refine WC.region ?_
      refine WO.mv rfl ?_
      refine WO.mv rfl ?_
      obtain ⟨L83, e84, h⟩ := bindS h
      refine WO.ixS rfl rfl ho6.slv (at?_lt e84) rfl ?_
      refine WO.ldS rfl ho6.ro (fun _ hi => hi) (at?_get e84) rfl rfl (fun v85 ho86 => ?_)
      have ho86 : Rd Y3 S81 v85 L83 := ho86
      refine WO.lenS rfl ho86.slv rfl ?_
      refine WO.mv rfl ?_
      refine WO.lenS rfl ho5.slv rfl ?_
      refine WO.bin rfl rfl (by decide) (by decide) rfl ?_
      refine WO.nil ?_
      refine thenL_n ?_
      refine WC.cond rfl (fun q87 => ?_) (fun q87 => ?_)
      · have h := iteT q87 h
        refine WC.region ?_
        refine WO.mv rfl ?_
        refine WO.mv rfl ?_
        obtain ⟨L88, e89, h⟩ := bindS h
        refine WO.ixS rfl rfl ho6.slv (at?_lt e89) rfl ?_
        refine WO.ldS rfl ho6.ro (fun _ hi => hi) (at?_get e89) rfl rfl (fun v90 ho91 => ?_)
        have ho91 : Rd Y3 S81 v90 L88 := ho91
        refine WO.asg rfl ?_
        refine WO.nil ?_
        refine blockL_n ?_
        refine thenL_n ?_
        refine WC.region ?_
        refine WO.bin rfl rfl (by decide) (by decide) rfl ?_
        refine WO.mv rfl ?_
        refine WO.nil ?_
        refine thenL_n ?_
        obtain rfl := someI h
        exact ⟨_, rfl, ⟨S81, v90, rfl, rfl, (Cov.cons rfl (Cov.cons rfl (Cov.cons rfl (Cov.cons rfl (Cov.cons rfl (Cov.cons rfl (Cov.cons rfl (Cov.nil _)))))))), hot0, ho6, ho91⟩⟩
      · have h := iteF q87 h
        refine WC.skip ?_
        refine blockL_n ?_
        refine thenL_n ?_
        refine WC.region ?_
        refine WO.bin rfl rfl (by decide) (by decide) rfl ?_
        refine WO.mv rfl ?_
        refine WO.nil ?_
        refine thenL_n ?_
        obtain rfl := someI h
        exact ⟨_, rfl, ⟨S81, v14, rfl, rfl, (Cov.cons rfl (Cov.cons rfl (Cov.cons rfl (Cov.cons rfl (Cov.cons rfl (Cov.cons rfl (Cov.cons rfl (Cov.nil _)))))))), hot0, ho6, ho5⟩⟩
    · have h := iteF q16 h
      refine WC.exit ?_
      refine thenL_e ?_
      refine thenL_e ?_
      obtain rfl := someI h
      exact ⟨_, rfl, rfl, ⟨S13, v14, rfl, rfl, (Cov.cons rfl (Cov.nil _)), ho5⟩⟩
  rintro _ _ _ _ ⟨rfl, ⟨S94, v95, rfl, rfl, hc96, ho5⟩⟩
  refine blockL_s ?_
  refine thenL_n ?_
  refine WC.cov hc96 ?_
  refine WC.seq ?_
  refine WC.region ?_
  refine WO.mv rfl ?_
  obtain ⟨r97, e98, h⟩ := bindS h
  refine WO.callF (S := S94) 5 rfl rfl (F45_ok e98 ho5.vw) Lay.flat_fl (fun v99 S101 c102 ho100 => ?_)
  have ho5 := ho5.to c102
  refine WO.asg rfl ?_
  refine WO.nil ?_
  refine thenL_n ?_
  refine WC.ret ?_
  obtain rfl := someI h
  exact ⟨.inr rfl, _, _, rfl, rfl, ⟨v99, rfl, (ho100.fr Lay.flat_fl)⟩⟩
end Go.Proofs.Ytihmliblbhjlaaa

/- The machine answers F81: printed by a program of ours (gen.py). -/
import Derived.Test.YtkfmedmanhcdeaaDef
import Derived.Test.YtkfmedmanhcdeaaEnv
import Derived.Test.YtkfmedmanhcdeaaF84
set_option linter.unusedVariables false
namespace Go.Proofs.Ytkfmedmanhcdeaa
open Go.Am
theorem F81.fn : E.fn 81 = some ⟨103, (Try.f81.body.getD .skip), Try.f81.results.toList, []⟩ := rfl
theorem F81_ok {F : Nat} {m : Mem} {n : Nat} {r : Bool × Int} {t0 : List Int} {t1 : List (Int × Int)} {vt0 : SV} {vt1 : SV} (h : F81 F t0 t1 = some r) (kt0 : Vw Y3 n m vt0 t0) (kt1 : Vw Y90 n m vt1 t1) : Ret E n 81 [.sc vt0, .sc vt1] m n (fun v m' n' => v = .tup [.sc (.bool r.1), .sc (.int .i64 r.2)]) := by
  unfold F81 at h
  refine Ret.walk F81.fn ?_
  refine WC.start fun S0 em en hz => ?_
  have hot0 := kt0.rdS em hz
  have hot1 := kt1.rdS em hz
  refine WC.seq ?_
  refine WC.region ?_
  refine WO.asg rfl ?_
  refine WO.asg rfl ?_
  refine WO.nil ?_
  refine thenL_n ?_
  refine WC.seq ?_
  refine WC.seq ?_
  refine WC.region ?_
  refine WO.mv rfl ?_
  obtain ⟨r1, e2, h⟩ := bindS h
  refine WO.callE (S := S0) rfl rfl (F84_ok e2 hot0.vw) (fun S3 c4 => ?_)
  have hot0 := hot0.to c4
  have hot1 := hot1.to c4
  refine WO.asg rfl ?_
  refine WO.nil ?_
  refine thenL_n ?_
  refine WC.seq ?_
  refine WC.region ?_
  refine WO.mv rfl ?_
  refine WO.bin rfl rfl (by decide) (by decide) rfl ?_
  refine WO.nil ?_
  refine thenL_n ?_
  refine WC.cond rfl (fun q5 => ?_) (fun q5 => ?_)
  · have h := iteT q5 h
    refine WC.seq ?_
    refine WC.region ?_
    refine WO.mv rfl ?_
    refine WO.asg rfl ?_
    refine WO.asg rfl ?_
    refine WO.nil ?_
    refine thenL_n ?_
    refine WC.ret ?_
    refine thenL_r ?_
    obtain rfl := someI h
    exact ⟨.inr rfl, _, _, rfl, rfl, rfl⟩
  · have h := iteF q5 h
    refine WC.skip ?_
    refine thenL_n ?_
    refine WC.seq ?_
    refine WC.seq ?_
    refine WC.region ?_
    refine WO.mv rfl ?_
    refine WO.lenS rfl hot1.slv rfl ?_
    refine WO.mv rfl ?_
    refine WO.lenS rfl hot0.slv rfl ?_
    refine WO.bin rfl rfl (by decide) (by decide) rfl ?_
    refine WO.nil ?_
    refine thenL_n ?_
    refine WC.cond rfl (fun q6 => ?_) (fun q6 => ?_)
    · have h := iteT q6 h
      refine WC.seq ?_
      refine WC.region ?_
      refine WO.asg rfl ?_
      refine WO.asg rfl ?_
      refine WO.nil ?_
      refine thenL_n ?_
      refine WC.ret ?_
      refine thenL_r ?_
      obtain rfl := someI h
      exact ⟨.inr rfl, _, _, rfl, rfl, rfl⟩
    · have h := iteF q6 h
      refine WC.skip ?_
      refine thenL_n ?_
      refine WC.seq ?_
      refine WC.region ?_
      refine WO.asg rfl ?_
      refine WO.nil ?_
      refine thenL_n ?_
      refine WC.seq ?_
      refine WC.seq ?_
      refine WC.region ?_
      refine WO.mv rfl ?_
      refine WO.lenS rfl hot0.slv rfl ?_
      refine WO.mv rfl ?_
      refine WO.nil ?_
      refine thenL_n ?_
      refine WC.block ?_
      obtain ⟨b15, e16, h⟩ := bindS h
      refine WC.loopD e16 (fun s7 l' m' n' => ∃ S8 : Cx n, S8.m = m' ∧ S8.n = n' ∧ Cov l' [(0, .sc vt0), (1, .sc vt1), (7, .sc (.int .i64 s7.1)), (25, .sc vt0), (26, .sc (.int .i64 ((t0.length : Int)))), (27, .sc (.int .i64 s7.2))] ∧ Rd Y3 S8 vt0 t0 ∧ Rd Y90 S8 vt1 t1) (fun b e l' m' n' => e = .exit 0 ∧ ∃ S9 : Cx n, S9.m = m' ∧ S9.n = n' ∧ Cov l' [(0, .sc vt0), (1, .sc vt1), (7, .sc (.int .i64 b))] ∧ Rd Y3 S9 vt0 t0 ∧ Rd Y90 S9 vt1 t1) (by exact ⟨S3, rfl, rfl, (Cov.cons rfl (Cov.cons rfl (Cov.cons rfl (Cov.cons rfl (Cov.cons rfl (Cov.cons rfl (Cov.nil _))))))), hot0, hot1⟩) ?_ ?_
      · clear h
        rintro s7 q _ _ _ ⟨S10, rfl, rfl, hc11, hot0, hot1⟩ h
        unfold F81_l0 at h
        refine WC.cov hc11 ?_
        refine WC.seq ?_
        refine WC.region ?_
        refine WO.bin rfl rfl (by decide) (by decide) rfl ?_
        refine WO.nil ?_
        refine thenL_n ?_
        refine WC.seq ?_
        refine WC.cond rfl (fun q12 => ?_) (fun q12 => ?_)
        · have h := iteT q12 h
          refine WC.skip ?_
          refine thenL_n ?_
          refine WC.seq ?_
          refine WC.block ?_
          refine WC.seq ?_
          refine WC.region ?_
          obtain ⟨x13, e14, h⟩ := bindS h
          refine WO.ixS rfl rfl hot0.slv (at?_lt e14) rfl ?_
          refine WO.ldF rfl hot0.ro (fun _ hi => hi) (at?_get e14) rfl rfl rfl ?_
          refine WO.asg rfl ?_
          refine WO.nil ?_
          refine thenL_n ?_
          refine WC.region ?_
          refine WO.mv rfl ?_
          refine WO.mv rfl ?_
          refine WO.bin rfl rfl (by decide) (by decide) rfl ?_
          refine WO.asg rfl ?_
          refine WO.nil ?_
          refine blockL_n ?_
          refine thenL_n ?_
          refine WC.region ?_
          refine WO.bin rfl rfl (by decide) (by decide) rfl ?_
          refine WO.mv rfl ?_
          refine WO.nil ?_
          refine thenL_n ?_
          obtain rfl := someI h
          exact ⟨_, rfl, ⟨S10, rfl, rfl, (Cov.cons rfl (Cov.cons rfl (Cov.cons rfl (Cov.cons rfl (Cov.cons rfl (Cov.cons rfl (Cov.nil _))))))), hot0, hot1⟩⟩
        · have h := iteF q12 h
          refine WC.exit ?_
          refine thenL_e ?_
          refine thenL_e ?_
          obtain rfl := someI h
          exact ⟨_, rfl, rfl, ⟨S10, rfl, rfl, (Cov.cons rfl (Cov.cons rfl (Cov.cons rfl (Cov.nil _)))), hot0, hot1⟩⟩
      rintro _ _ _ _ ⟨rfl, ⟨S17, rfl, rfl, hc18, hot0, hot1⟩⟩
      refine blockL_s ?_
      refine thenL_n ?_
      refine WC.cov hc18 ?_
      refine WC.seq ?_
      refine WC.region ?_
      refine WO.mv rfl ?_
      refine WO.lenS rfl hot0.slv rfl ?_
      obtain ⟨L19, e20, h⟩ := bindS h
      refine WO.mkS (A := Y3) (S := S17) 2 rfl rfl e20 rfl rfl rfl (fun v21 S22 c23 ho24 => ?_)
      have hot0 := hot0.to c23
      have hot1 := hot1.to c23
      refine WO.asg rfl ?_
      refine WO.nil ?_
      refine thenL_n ?_
      refine WC.seq ?_
      refine WC.seq ?_
      refine WC.region ?_
      refine WO.mv rfl ?_
      refine WO.lenS rfl hot1.slv rfl ?_
      refine WO.mv rfl ?_
      refine WO.nil ?_
      refine thenL_n ?_
      refine WC.block ?_
      obtain ⟨b57, e58, h⟩ := bindS h
      refine WC.loopD e58 (fun s25 l' m' n' => ∃ S26 : Cx n, S26.m = m' ∧ S26.n = n' ∧ Cov l' [(0, .sc vt0), (7, .sc (.int .i64 b15)), (10, .sc v21), (38, .sc vt1), (39, .sc (.int .i64 ((t1.length : Int)))), (40, .sc (.int .i64 s25.1))] ∧ Rd Y3 S26 vt0 t0 ∧ Ow Y3 S26 2 v21 s25.2 ∧ Rd Y90 S26 vt1 t1) (fun b e l' m' n' => (match b with | .inl b27 => e = .exit 2 ∧ ∃ S28 : Cx n, S28.m = m' ∧ S28.n = n' ∧ Cov l' [(0, .sc vt0), (10, .sc v21)] ∧ Rd Y3 S28 vt0 t0 ∧ Ow Y3 S28 2 v21 b27 | .inr b27 => e = .ret ∧ ∃ S29 : Cx n, S29.m = m' ∧ S29.n = n' ∧ Cov l' [(4, .sc (.bool b27.1)), (5, .sc (.int .i64 b27.2))])) (by exact ⟨S22, rfl, rfl, (Cov.cons rfl (Cov.cons rfl (Cov.cons rfl (Cov.cons rfl (Cov.cons rfl (Cov.cons rfl (Cov.nil _))))))), hot0, ho24, hot1⟩) ?_ ?_
      · clear h
        rintro s25 q _ _ _ ⟨S30, rfl, rfl, hc31, hot0, ho24, hot1⟩ h
        unfold F81_l1 at h
        refine WC.cov hc31 ?_
        refine WC.seq ?_
        refine WC.region ?_
        refine WO.bin rfl rfl (by decide) (by decide) rfl ?_
        refine WO.nil ?_
        refine thenL_n ?_
        refine WC.seq ?_
        refine WC.cond rfl (fun q32 => ?_) (fun q32 => ?_)
        · have h := iteT q32 h
          refine WC.skip ?_
          refine thenL_n ?_
          refine WC.seq ?_
          refine WC.block ?_
          refine WC.seq ?_
          refine WC.region ?_
          refine WO.mv rfl ?_
          obtain ⟨x33, e34, h⟩ := bindS h
          refine WO.ixS rfl rfl hot1.slv (at?_lt e34) rfl ?_
          refine WO.ldA rfl hot1.ro (fun _ hi => hi) (at?_get e34) rfl rfl ?_
          refine WO.alS (A := Y90) (S := S30) (z0 := (0, 0)) 3 rfl rfl rfl (fun v35 S36 c37 ho38 => ?_)
          have hot0 := hot0.to c37
          have ho24 := ho24.to c37
          have hot1 := hot1.to c37
          refine WO.asg rfl ?_
          refine WO.stBA (u' := (x33.1, x33.2)) rfl ho38.at0 rfl ho38 rfl rfl (fun S39 c40 ho38 => ?_)
          have hot0 := hot0.to c40
          have ho24 := ho24.to c40
          have hot1 := hot1.to c40
          refine WO.nil ?_
          refine thenL_n ?_
          refine WC.seq ?_
          refine WC.seq ?_
          refine WC.region ?_
          refine WO.fldS (j := 0) (q := 0) rfl ho38.at0 ho38.ptr rfl rfl rfl (by decide) ?_
          refine WO.ldB (j := 0) (q := 0) rfl rfl ho38 rfl rfl rfl ?_
          refine WO.bin rfl rfl (by decide) (by decide) rfl ?_
          refine WO.mv rfl ?_
          refine WO.cutB (d := 53) 5 ((decide (((x33.1, x33.2)).1 < 0)) || (decide (((x33.1, x33.2)).1 > b15))) (fun q41 => ?_) (fun q41 => ?_) ?_
          · refine WO.gno rfl rfl ?_
            refine WO.gno rfl rfl ?_
            refine WO.gno rfl rfl ?_
            refine WO.gno rfl rfl ?_
            refine WO.pickT rfl rfl ?_
            refine WO.nil ?_
            exact ⟨rfl, rfl, (Cov.any rfl (orT q41) (Cov.skip rfl (Cov.skip rfl (Cov.skip rfl (Cov.skip rfl (Cov.skip rfl (Cov.skip rfl (Cov.refl _))))))))⟩
          · skip
            refine WO.gyes rfl rfl ?_
            refine WO.fldS (j := 0) (q := 0) rfl ho38.at0 ho38.ptr rfl rfl rfl (by decide) ?_
            refine WO.gyes rfl rfl ?_
            refine WO.ldB (j := 0) (q := 0) rfl rfl ho38 rfl rfl rfl ?_
            refine WO.gyes rfl rfl ?_
            refine WO.mv rfl ?_
            refine WO.gyes rfl rfl ?_
            refine WO.bin rfl rfl (by decide) (by decide) rfl ?_
            refine WO.pickF rfl rfl ?_
            refine WO.nil ?_
            exact ⟨rfl, rfl, (Cov.any rfl (orF q41) (Cov.skip rfl (Cov.skip rfl (Cov.skip rfl (Cov.skip rfl (Cov.skip rfl (Cov.skip rfl (Cov.refl _))))))))⟩
          refine WO.mv rfl ?_
          refine WO.cutB (d := 58) 4 (((decide (((x33.1, x33.2)).1 < 0)) || (decide (((x33.1, x33.2)).1 > b15))) || (decide (((x33.1, x33.2)).2 < 0))) (fun q42 => ?_) (fun q42 => ?_) ?_
          · refine WO.gno rfl rfl ?_
            refine WO.gno rfl rfl ?_
            refine WO.gno rfl rfl ?_
            refine WO.pickT rfl rfl ?_
            refine WO.nil ?_
            exact ⟨rfl, rfl, (Cov.any rfl (orT q42) (Cov.skip rfl (Cov.skip rfl (Cov.skip rfl (Cov.skip rfl (Cov.skip rfl (Cov.refl _)))))))⟩
          · skip
            refine WO.gyes rfl rfl ?_
            refine WO.fldS (j := 0) (q := 0) rfl ho38.at0 ho38.ptr rfl rfl rfl (by decide) ?_
            refine WO.gyes rfl rfl ?_
            refine WO.ldB (j := 0) (q := 1) rfl rfl ho38 rfl rfl rfl ?_
            refine WO.gyes rfl rfl ?_
            refine WO.bin rfl rfl (by decide) (by decide) rfl ?_
            refine WO.pickF rfl rfl ?_
            refine WO.nil ?_
            exact ⟨rfl, rfl, (Cov.any rfl (orF q42) (Cov.skip rfl (Cov.skip rfl (Cov.skip rfl (Cov.skip rfl (Cov.skip rfl (Cov.refl _)))))))⟩
          refine WO.mv rfl ?_
          refine WO.cutB (d := 65) 6 ((((decide (((x33.1, x33.2)).1 < 0)) || (decide (((x33.1, x33.2)).1 > b15))) || (decide (((x33.1, x33.2)).2 < 0))) || (decide (((x33.1, x33.2)).2 ≥ (t0.length : Int)))) (fun q43 => ?_) (fun q43 => ?_) ?_
          · refine WO.gno rfl rfl ?_
            refine WO.gno rfl rfl ?_
            refine WO.gno rfl rfl ?_
            refine WO.gno rfl rfl ?_
            refine WO.gno rfl rfl ?_
            refine WO.pickT rfl rfl ?_
            refine WO.nil ?_
            exact ⟨rfl, rfl, (Cov.any rfl (orT q43) (Cov.skip rfl (Cov.skip rfl (Cov.skip rfl (Cov.skip rfl (Cov.skip rfl (Cov.skip rfl (Cov.skip rfl (Cov.refl _)))))))))⟩
          · skip
            refine WO.gyes rfl rfl ?_
            refine WO.fldS (j := 0) (q := 0) rfl ho38.at0 ho38.ptr rfl rfl rfl (by decide) ?_
            refine WO.gyes rfl rfl ?_
            refine WO.ldB (j := 0) (q := 1) rfl rfl ho38 rfl rfl rfl ?_
            refine WO.gyes rfl rfl ?_
            refine WO.mv rfl ?_
            refine WO.gyes rfl rfl ?_
            refine WO.lenS rfl hot0.slv rfl ?_
            refine WO.gyes rfl rfl ?_
            refine WO.bin rfl rfl (by decide) (by decide) rfl ?_
            refine WO.pickF rfl rfl ?_
            refine WO.nil ?_
            exact ⟨rfl, rfl, (Cov.any rfl (orF q43) (Cov.skip rfl (Cov.skip rfl (Cov.skip rfl (Cov.skip rfl (Cov.skip rfl (Cov.skip rfl (Cov.skip rfl (Cov.refl _)))))))))⟩
          refine WO.nil ?_
          refine thenL_n ?_
          refine WC.cond rfl (fun q44 => ?_) (fun q44 => ?_)
          · have h := iteT q44 h
            refine WC.seq ?_
            refine WC.region ?_
            refine WO.asg rfl ?_
            refine WO.asg rfl ?_
            refine WO.nil ?_
            refine thenL_n ?_
            refine WC.ret ?_
            refine thenL_r ?_
            refine blockL_r ?_
            refine thenL_r ?_
            refine thenL_r ?_
            obtain rfl := someI h
            exact ⟨_, rfl, rfl, ⟨S39, rfl, rfl, (Cov.cons rfl (Cov.cons rfl (Cov.nil _)))⟩⟩
          · have h := iteF q44 h
            refine WC.skip ?_
            refine thenL_n ?_
            refine WC.seq ?_
            refine WC.drawN rfl ?_
            have hot0z := hot0.oz
            have ho24z := ho24.oz
            have hot1z := hot1.oz
            refine WO.mv rfl ?_
            refine WO.mv rfl ?_
            obtain ⟨x45, e46, h⟩ := bindS h
            refine WO.ixS rfl rfl ho24.slv (at?_lt e46) rfl ?_
            refine WO.ldF rfl ho24z (fun _ hi => hi.1) (at?_get e46) rfl rfl (limLe_self _) ?_
            refine WO.fldS (j := 0) (q := 0) rfl ho38.at0 ho38.ptr rfl rfl rfl (by decide) ?_
            refine WO.ldB (j := 0) (q := 0) rfl rfl ho38 rfl rfl (limLe_self _) ?_
            refine WO.bin rfl rfl (by decide) (by decide) rfl ?_
            obtain ⟨u47, e48, h⟩ := bindS h
            refine WO.ixS rfl rfl ho24.slv (ck_some e48) rfl ?_
            refine WO.st1 (u' := (wrapA .i64 (x45 + ((x33.1, x33.2)).1))) rfl rfl ho24 (ck_nat e48) rfl rfl (fun S49 c50 ho24 => ?_)
            have hot0z := hot0z.toz c50
            have hot1z := hot1z.toz c50
            have hot0 := hot0.to c50
            have hot1 := hot1.to c50
            have ho38 := ho38.to c50
            refine WO.nil ?_
            refine thenL_n ?_
            refine WC.drawN rfl ?_
            have hot0z := hot0.oz
            have ho24z := ho24.oz
            have hot1z := hot1.oz
            refine WO.mv rfl ?_
            refine WO.fldS (j := 0) (q := 0) rfl ho38.at0 ho38.ptr rfl rfl rfl (by decide) ?_
            refine WO.ldB (j := 0) (q := 1) rfl rfl ho38 rfl rfl (limLe_self _) ?_
            obtain ⟨x51, e52, h⟩ := bindS h
            refine WO.ixS rfl rfl ho24.slv (at?_lt e52) rfl ?_
            refine WO.ldF rfl ho24z (fun _ hi => hi.1) (at?_get e52) rfl rfl (limLe_self _) ?_
            refine WO.mv rfl ?_
            refine WO.fldS (j := 0) (q := 0) rfl ho38.at0 ho38.ptr rfl rfl rfl (by decide) ?_
            refine WO.ldB (j := 0) (q := 0) rfl rfl ho38 rfl rfl (limLe_self _) ?_
            refine WO.bin rfl rfl (by decide) (by decide) rfl ?_
            refine WO.bin rfl rfl (by decide) (by decide) rfl ?_
            obtain ⟨u53, e54, h⟩ := bindS h
            refine WO.ixS rfl rfl ho24.slv (ck_some e54) rfl ?_
            refine WO.st1 (u' := (wrapA .i64 (x51 + (wrapA .i64 (b15 - ((x33.1, x33.2)).1))))) rfl rfl ho24 (ck_nat e54) rfl rfl (fun S55 c56 ho24 => ?_)
            have hot0z := hot0z.toz c56
            have hot1z := hot1z.toz c56
            have hot0 := hot0.to c56
            have hot1 := hot1.to c56
            have ho38 := ho38.to c56
            refine WO.nil ?_
            refine blockL_n ?_
            refine thenL_n ?_
            refine WC.region ?_
            refine WO.bin rfl rfl (by decide) (by decide) rfl ?_
            refine WO.mv rfl ?_
            refine WO.nil ?_
            refine thenL_n ?_
            obtain rfl := someI h
            exact ⟨_, rfl, ⟨S55, rfl, rfl, (Cov.cons rfl (Cov.cons rfl (Cov.cons rfl (Cov.cons rfl (Cov.cons rfl (Cov.cons rfl (Cov.nil _))))))), hot0, ho24, hot1⟩⟩
        · have h := iteF q32 h
          refine WC.exit ?_
          refine thenL_e ?_
          refine thenL_e ?_
          obtain rfl := someI h
          exact ⟨_, rfl, rfl, ⟨S30, rfl, rfl, (Cov.cons rfl (Cov.cons rfl (Cov.nil _))), hot0, ho24⟩⟩
      cases b57 with
      | inl b59 =>
        simp only at h
        rintro _ _ _ _ ⟨rfl, ⟨S60, rfl, rfl, hc61, hot0, ho24⟩⟩
        refine blockL_s ?_
        refine thenL_n ?_
        refine WC.cov hc61 ?_
        refine WC.seq ?_
        refine WC.seq ?_
        refine WC.region ?_
        refine WO.mv rfl ?_
        refine WO.lenS rfl hot0.slv rfl ?_
        refine WO.mv rfl ?_
        refine WO.nil ?_
        refine thenL_n ?_
        refine WC.block ?_
        obtain ⟨b75, e76, h⟩ := bindS h
        refine WC.loopD e76 (fun s62 l' m' n' => ∃ S63 : Cx n, S63.m = m' ∧ S63.n = n' ∧ Cov l' [(0, .sc vt0), (10, .sc v21), (86, .sc vt0), (87, .sc (.int .i64 ((t0.length : Int)))), (88, .sc (.int .i64 s62))] ∧ Rd Y3 S63 vt0 t0 ∧ Ow Y3 S63 2 v21 b59) (fun b e l' m' n' => (match b with | .inl b64 => e = .exit 4 ∧ ∃ S65 : Cx n, S65.m = m' ∧ S65.n = n' ∧ Cov l' [] | .inr b64 => e = .ret ∧ ∃ S66 : Cx n, S66.m = m' ∧ S66.n = n' ∧ Cov l' [(4, .sc (.bool b64.1)), (5, .sc (.int .i64 b64.2))])) (by exact ⟨S60, rfl, rfl, (Cov.cons rfl (Cov.cons rfl (Cov.cons rfl (Cov.cons rfl (Cov.cons rfl (Cov.nil _)))))), hot0, ho24⟩) ?_ ?_
        · clear h
          rintro s62 q _ _ _ ⟨S67, rfl, rfl, hc68, hot0, ho24⟩ h
          unfold F81_l2 at h
          refine WC.cov hc68 ?_
          refine WC.seq ?_
          refine WC.region ?_
          refine WO.bin rfl rfl (by decide) (by decide) rfl ?_
          refine WO.nil ?_
          refine thenL_n ?_
          refine WC.seq ?_
          refine WC.cond rfl (fun q69 => ?_) (fun q69 => ?_)
          · have h := iteT q69 h
            refine WC.skip ?_
            refine thenL_n ?_
            refine WC.seq ?_
            refine WC.block ?_
            refine WC.seq ?_
            refine WC.region ?_
            refine WO.mv rfl ?_
            obtain ⟨x70, e71, h⟩ := bindS h
            refine WO.ixS rfl rfl hot0.slv (at?_lt e71) rfl ?_
            refine WO.ldF rfl hot0.ro (fun _ hi => hi) (at?_get e71) rfl rfl rfl ?_
            refine WO.asg rfl ?_
            refine WO.asg rfl ?_
            refine WO.nil ?_
            refine thenL_n ?_
            refine WC.seq ?_
            refine WC.region ?_
            refine WO.mv rfl ?_
            refine WO.mv rfl ?_
            obtain ⟨x72, e73, h⟩ := bindS h
            refine WO.ixS rfl rfl ho24.slv (at?_lt e73) rfl ?_
            refine WO.ldF rfl ho24.ro (fun _ hi => hi) (at?_get e73) rfl rfl rfl ?_
            refine WO.mv rfl ?_
            refine WO.mv rfl ?_
            refine WO.lenS rfl hot0.slv rfl ?_
            refine WO.bin rfl rfl (by decide) (by decide) rfl ?_
            refine WO.bin rfl rfl (by decide) (by decide) rfl ?_
            refine WO.nil ?_
            refine thenL_n ?_
            refine WC.cond rfl (fun q74 => ?_) (fun q74 => ?_)
            · have h := iteT q74 h
              refine WC.seq ?_
              refine WC.region ?_
              refine WO.asg rfl ?_
              refine WO.asg rfl ?_
              refine WO.nil ?_
              refine thenL_n ?_
              refine WC.ret ?_
              refine blockL_r ?_
              refine thenL_r ?_
              refine thenL_r ?_
              obtain rfl := someI h
              exact ⟨_, rfl, rfl, ⟨S67, rfl, rfl, (Cov.cons rfl (Cov.cons rfl (Cov.nil _)))⟩⟩
            · have h := iteF q74 h
              refine WC.skip ?_
              refine blockL_n ?_
              refine thenL_n ?_
              refine WC.region ?_
              refine WO.bin rfl rfl (by decide) (by decide) rfl ?_
              refine WO.mv rfl ?_
              refine WO.nil ?_
              refine thenL_n ?_
              obtain rfl := someI h
              exact ⟨_, rfl, ⟨S67, rfl, rfl, (Cov.cons rfl (Cov.cons rfl (Cov.cons rfl (Cov.cons rfl (Cov.cons rfl (Cov.nil _)))))), hot0, ho24⟩⟩
          · have h := iteF q69 h
            refine WC.exit ?_
            refine thenL_e ?_
            refine thenL_e ?_
            obtain rfl := someI h
            exact ⟨_, rfl, rfl, ⟨S67, rfl, rfl, (Cov.nil _)⟩⟩
        cases b75 with
        | inl b77 =>
          simp only at h
          rintro _ _ _ _ ⟨rfl, ⟨S78, rfl, rfl, hc79⟩⟩
          refine blockL_s ?_
          refine thenL_n ?_
          refine WC.cov hc79 ?_
          refine WC.seq ?_
          refine WC.region ?_
          refine WO.asg rfl ?_
          refine WO.asg rfl ?_
          refine WO.nil ?_
          refine thenL_n ?_
          refine WC.ret ?_
          obtain rfl := someI h
          exact ⟨.inr rfl, _, _, rfl, rfl, rfl⟩
        | inr b77 =>
          simp only at h
          rintro _ _ _ _ ⟨rfl, ⟨S80, rfl, rfl, hc81⟩⟩
          refine blockL_r ?_
          refine thenL_r ?_
          obtain rfl := someI h
          exact ⟨.inr rfl, _, _, (resK_cov hc81 rfl), rfl, rfl⟩
      | inr b59 =>
        simp only at h
        rintro _ _ _ _ ⟨rfl, ⟨S82, rfl, rfl, hc83⟩⟩
        refine blockL_r ?_
        refine thenL_r ?_
        obtain rfl := someI h
        exact ⟨.inr rfl, _, _, (resK_cov hc83 rfl), rfl, rfl⟩
end Go.Proofs.Ytkfmedmanhcdeaa

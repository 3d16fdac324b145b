/- The machine answers F96: printed by a program of ours (gen.py). -/
import Derived.Test.YtihmliblbhjlaaaDef
import Derived.Test.YtihmliblbhjlaaaEnv
set_option linter.unusedVariables false
namespace Go.Proofs.Ytihmliblbhjlaaa
open Go.Am
theorem F96.fn : E.fn 96 = some ⟨76, (Try.f96.body.getD .skip), Try.f96.results.toList, []⟩ := rfl
theorem F96_ok {F : Nat} {m : Mem} {n : Nat} {r : (List ((Int × Int × Bool × Bool) × Int))} {t0 : List ((Int × Int × Bool × Bool) × Int)} {t1 : Int × Int × Int} {vt0 : SV} {fl : Nat} {bw : Nat} (h : F96 F t0 t1 = some r) (hfl : fl ≤ n) (kt0 : Iv Y117 fl n bw m vt0 t0) : Ret E fl 96 [.sc vt0, .agg [.int .i64 t1.1, .int .i64 t1.2.1, .int .i64 t1.2.2]] m n (fun v m' n' => v = .tup [] ∧ Ip Y117 n bw m m' vt0 r) := by
  unfold F96 at h
  refine Ret.walk F96.fn ?_
  refine WC.startI (b := bw) hfl fun S0 em en hz hbw => ?_
  have hot0 := kt0.iw em en hz hbw
  refine WC.seq ?_
  refine WC.region ?_
  refine WO.bxS (A := Y119) (S := S0) (u := (t1.1, t1.2.1, t1.2.2)) 3 rfl rfl rfl rfl (fun v1 S2 c3 ho4 => ?_)
  have hot0 := hot0.to c3
  refine WO.nil ?_
  refine thenL_n ?_
  refine WC.seq ?_
  refine WC.region ?_
  refine WO.mv rfl ?_
  refine WO.fldS (j := 0) (q := 0) rfl ho4.at0 ho4.ptr rfl rfl rfl (by decide) ?_
  refine WO.ldB (j := 0) (q := 1) rfl rfl ho4 rfl rfl rfl ?_
  obtain ⟨u5, e6, h⟩ := bindS h
  refine WO.ixS rfl rfl hot0.slv (ck_some e6) rfl ?_
  refine WO.asg rfl ?_
  refine WO.nil ?_
  refine thenL_n ?_
  refine WC.seq ?_
  refine WC.region ?_
  refine WO.fldS (j := 0) (q := 0) rfl ho4.at0 ho4.ptr rfl rfl rfl (by decide) ?_
  refine WO.ldB (j := 0) (q := 2) rfl rfl ho4 rfl rfl rfl ?_
  refine WO.nil ?_
  refine thenL_n ?_
  refine WC.block ?_
  refine WC.seq ?_
  refine WC.region ?_
  refine WO.bin rfl rfl (by decide) (by decide) rfl ?_
  refine WO.asg rfl ?_
  refine WO.nil ?_
  refine thenL_n ?_
  refine WC.cond rfl (fun q7 => ?_) (fun q7 => ?_)
  · have h := iteT q7 h
    refine WC.region ?_
    refine WO.mv rfl ?_
    refine WO.nckE rfl (SlV.ptr hot0.slv (ck_nat e6)) ?_
    refine WO.fldS rfl rfl (SlV.ptr hot0.slv (ck_nat e6)) rfl rfl rfl (by decide) ?_
    refine WO.fldS rfl rfl (SlV.ptr hot0.slv (ck_nat e6)) rfl rfl rfl (by decide) ?_
    obtain ⟨x10, e11, h⟩ := bindS h
    refine WO.stIF (q := 2) (u' := ((x10.1.1, x10.1.2.1, false, x10.1.2.2.2), x10.2)) rfl rfl hot0 (at?_get e11) rfl (by decide) rfl rfl (fun S8 c9 hot0 => ?_)
    have ho4 := ho4.to c9
    refine WO.nil ?_
    refine blockL_n ?_
    obtain rfl := someI h
    exact ⟨.inl rfl, _, _, rfl, rfl, ⟨rfl, hot0.ip Lay.flat_fl⟩⟩
  · have h := iteF q7 h
    refine WC.seq ?_
    refine WC.region ?_
    refine WO.bin rfl rfl (by decide) (by decide) rfl ?_
    refine WO.asg rfl ?_
    refine WO.nil ?_
    refine thenL_n ?_
    refine WC.cond rfl (fun q12 => ?_) (fun q12 => ?_)
    · have h := iteT q12 h
      refine WC.seq ?_
      refine WC.seq ?_
      refine WC.region ?_
      refine WO.mv rfl ?_
      refine WO.nckE rfl (SlV.ptr hot0.slv (ck_nat e6)) ?_
      refine WO.fldS rfl rfl (SlV.ptr hot0.slv (ck_nat e6)) rfl rfl rfl (by decide) ?_
      refine WO.fldS rfl rfl (SlV.ptr hot0.slv (ck_nat e6)) rfl rfl rfl (by decide) ?_
      obtain ⟨x13, e14, h⟩ := bindS h
      refine WO.ldF rfl hot0.ro (fun _ hi => hi) (at?_get e14) rfl rfl rfl ?_
      refine WO.nil ?_
      refine thenL_n ?_
      refine WC.cond rfl (fun q15 => ?_) (fun q15 => ?_)
      · have h := iteT q15 h
        refine WC.ret ?_
        refine thenL_r ?_
        refine blockL_r ?_
        obtain rfl := someI h
        exact ⟨.inr rfl, _, _, rfl, rfl, ⟨rfl, hot0.ip Lay.flat_fl⟩⟩
      · have h := iteF q15 h
        refine WC.skip ?_
        refine thenL_n ?_
        refine WC.seq ?_
        refine WC.region ?_
        refine WO.asg rfl ?_
        refine WO.asg rfl ?_
        refine WO.nil ?_
        refine thenL_n ?_
        refine WC.seq ?_
        refine WC.seq ?_
        refine WC.region ?_
        refine WO.mv rfl ?_
        refine WO.lenS rfl hot0.slv rfl ?_
        refine WO.mv rfl ?_
        refine WO.nil ?_
        refine thenL_n ?_
        refine WC.block ?_
        obtain ⟨b33, e34, h⟩ := bindS h
        refine WC.loopD e34 (fun s16 l' m' n' => ∃ S17 : Cx fl, S17.m = m' ∧ S17.n = n' ∧ Cov l' [(0, .sc vt0), (4, .sc (ptrAt vt0 ((Int.toNat ((t1.1, t1.2.1, t1.2.2)).2.1)) 0)), (5, .sc (.int .i64 s16.1)), (6, .sc (.bool s16.2.1)), (28, .sc vt0), (29, .sc (.int .i64 ((t0.length : Int)))), (30, .sc (.int .i64 s16.2.2))] ∧ Iw Y117 S17 2 n bw m vt0 t0) (fun b e l' m' n' => e = .exit 1 ∧ ∃ S18 : Cx fl, S18.m = m' ∧ S18.n = n' ∧ Cov l' [(0, .sc vt0), (4, .sc (ptrAt vt0 ((Int.toNat ((t1.1, t1.2.1, t1.2.2)).2.1)) 0)), (5, .sc (.int .i64 b.1)), (6, .sc (.bool b.2))] ∧ Iw Y117 S18 2 n bw m vt0 t0) (by exact ⟨S2, rfl, rfl, (Cov.cons rfl (Cov.cons rfl (Cov.cons rfl (Cov.cons rfl (Cov.cons rfl (Cov.cons rfl (Cov.cons rfl (Cov.nil _)))))))), hot0⟩) ?_ ?_
        · clear h
          rintro s16 q _ _ _ ⟨S19, rfl, rfl, hc20, hot0⟩ h
          unfold F96_l0 at h
          refine WC.cov hc20 ?_
          refine WC.seq ?_
          refine WC.region ?_
          refine WO.bin rfl rfl (by decide) (by decide) rfl ?_
          refine WO.nil ?_
          refine thenL_n ?_
          refine WC.seq ?_
          refine WC.cond rfl (fun q21 => ?_) (fun q21 => ?_)
          · have h := iteT q21 h
            refine WC.skip ?_
            refine thenL_n ?_
            refine WC.seq ?_
            refine WC.block ?_
            refine WC.seq ?_
            refine WC.region ?_
            obtain ⟨x22, e23, h⟩ := bindS h
            refine WO.ixS rfl rfl hot0.slv (at?_lt e23) rfl ?_
            refine WO.ldA rfl hot0.ro (fun _ hi => hi) (at?_get e23) rfl rfl ?_
            refine WO.alS (A := Y117) (S := S19) (z0 := ((0, 0, false, false), 0)) 4 rfl rfl rfl (fun v24 S25 c26 ho27 => ?_)
            have hot0 := hot0.to c26
            refine WO.stBA (u' := ((x22.1.1, x22.1.2.1, x22.1.2.2.1, x22.1.2.2.2), x22.2)) rfl ho27.at0 rfl ho27 rfl rfl (fun S28 c29 ho27 => ?_)
            have hot0 := hot0.to c29
            refine WO.nil ?_
            refine thenL_n ?_
            refine WC.seq ?_
            refine WC.region ?_
            refine WO.fldS (j := 0) (q := 0) rfl ho27.at0 ho27.ptr rfl rfl rfl (by decide) ?_
            refine WO.fldS (j := 0) (q := 0) rfl rfl ho27.ptr rfl rfl rfl (by decide) ?_
            refine WO.ldB (j := 0) (q := 2) rfl rfl ho27 rfl rfl rfl ?_
            refine WO.mv rfl ?_
            refine WO.cutB (d := 46) 9 ((((x22.1.1, x22.1.2.1, x22.1.2.2.1, x22.1.2.2.2), x22.2)).1.2.2.1 && ((!s16.2.1) || (decide ((((x22.1.1, x22.1.2.1, x22.1.2.2.1, x22.1.2.2.2), x22.2)).2 < s16.1)))) (fun q31 => ?_) (fun q31 => ?_) ?_
            · skip
              refine WO.gyes rfl rfl ?_
              refine WO.mv rfl ?_
              refine WO.gyes rfl rfl ?_
              refine WO.do rfl rfl ?_
              refine WO.gyes rfl rfl ?_
              refine WO.mv rfl ?_
              refine WO.cutB (d := 45) 5 ((!s16.2.1) || (decide ((((x22.1.1, x22.1.2.1, x22.1.2.2.1, x22.1.2.2.2), x22.2)).2 < s16.1))) (fun q30 => ?_) (fun q30 => ?_) ?_
              · refine WO.gno rfl rfl ?_
                refine WO.gno rfl rfl ?_
                refine WO.gno rfl rfl ?_
                refine WO.gno rfl rfl ?_
                refine WO.gyes rfl rfl ?_
                refine WO.pickT rfl rfl ?_
                refine WO.nil ?_
                exact ⟨rfl, rfl, (Cov.any rfl (orT q30) (Cov.skip rfl (Cov.skip rfl (Cov.skip rfl (Cov.skip rfl (Cov.skip rfl (Cov.skip rfl (Cov.refl _))))))))⟩
              · skip
                refine WO.gyes rfl rfl ?_
                refine WO.fldS (j := 0) (q := 0) rfl ho27.at0 ho27.ptr rfl rfl rfl (by decide) ?_
                refine WO.gyes rfl rfl ?_
                refine WO.ldB (j := 0) (q := 4) rfl rfl ho27 rfl rfl rfl ?_
                refine WO.gyes rfl rfl ?_
                refine WO.mv rfl ?_
                refine WO.gyes rfl rfl ?_
                refine WO.bin rfl rfl (by decide) (by decide) rfl ?_
                refine WO.gyes rfl rfl ?_
                refine WO.pickF rfl rfl ?_
                refine WO.nil ?_
                exact ⟨rfl, rfl, (Cov.any rfl (orF q30) (Cov.skip rfl (Cov.skip rfl (Cov.skip rfl (Cov.skip rfl (Cov.skip rfl (Cov.skip rfl (Cov.refl _))))))))⟩
              refine WO.pickT rfl rfl ?_
              refine WO.nil ?_
              exact ⟨rfl, rfl, (Cov.any rfl (andT q31) (Cov.skip rfl (Cov.skip rfl (Cov.skip rfl (Cov.skip rfl (Cov.skip rfl (Cov.refl _)))))))⟩
            · refine WO.gno rfl rfl ?_
              refine WO.gno rfl rfl ?_
              refine WO.gno rfl rfl ?_
              refine WO.gskip rfl rfl ?_
              refine WO.gskip rfl rfl ?_
              refine WO.gskip rfl rfl ?_
              refine WO.gskip rfl rfl ?_
              refine WO.gno rfl rfl ?_
              refine WO.pickF rfl rfl ?_
              refine WO.nil ?_
              exact ⟨rfl, rfl, (Cov.any rfl (andF q31) (Cov.skip rfl (Cov.skip rfl (Cov.skip rfl (Cov.skip rfl (Cov.skip rfl (Cov.skip rfl (Cov.skip rfl (Cov.skip rfl (Cov.skip rfl (Cov.skip rfl (Cov.refl _))))))))))))⟩
            refine WO.nil ?_
            refine thenL_n ?_
            refine WC.cond rfl (fun q32 => ?_) (fun q32 => ?_)
            · have h := iteT q32 h
              refine WC.region ?_
              refine WO.fldS (j := 0) (q := 0) rfl ho27.at0 ho27.ptr rfl rfl rfl (by decide) ?_
              refine WO.ldB (j := 0) (q := 4) rfl rfl ho27 rfl rfl rfl ?_
              refine WO.asg rfl ?_
              refine WO.asg rfl ?_
              refine WO.nil ?_
              refine blockL_n ?_
              refine thenL_n ?_
              refine WC.region ?_
              refine WO.bin rfl rfl (by decide) (by decide) rfl ?_
              refine WO.mv rfl ?_
              refine WO.nil ?_
              refine thenL_n ?_
              obtain rfl := someI h
              exact ⟨_, rfl, ⟨S28, rfl, rfl, (Cov.cons rfl (Cov.cons rfl (Cov.cons rfl (Cov.cons rfl (Cov.cons rfl (Cov.cons rfl (Cov.cons rfl (Cov.nil _)))))))), hot0⟩⟩
            · have h := iteF q32 h
              refine WC.skip ?_
              refine blockL_n ?_
              refine thenL_n ?_
              refine WC.region ?_
              refine WO.bin rfl rfl (by decide) (by decide) rfl ?_
              refine WO.mv rfl ?_
              refine WO.nil ?_
              refine thenL_n ?_
              obtain rfl := someI h
              exact ⟨_, rfl, ⟨S28, rfl, rfl, (Cov.cons rfl (Cov.cons rfl (Cov.cons rfl (Cov.cons rfl (Cov.cons rfl (Cov.cons rfl (Cov.cons rfl (Cov.nil _)))))))), hot0⟩⟩
          · have h := iteF q21 h
            refine WC.exit ?_
            refine thenL_e ?_
            refine thenL_e ?_
            obtain rfl := someI h
            exact ⟨_, rfl, rfl, ⟨S19, rfl, rfl, (Cov.cons rfl (Cov.cons rfl (Cov.cons rfl (Cov.cons rfl (Cov.nil _))))), hot0⟩⟩
        rintro _ _ _ _ ⟨rfl, ⟨S35, rfl, rfl, hc36, hot0⟩⟩
        refine blockL_s ?_
        refine thenL_n ?_
        refine WC.cov hc36 ?_
        refine WC.seq ?_
        refine WC.seq ?_
        refine WC.region ?_
        refine WO.mv rfl ?_
        refine WO.nil ?_
        refine thenL_n ?_
        refine WC.cond rfl (fun q37 => ?_) (fun q37 => ?_)
        · have h := iteT q37 h
          refine WC.region ?_
          refine WO.mv rfl ?_
          refine WO.mv rfl ?_
          refine WO.nckE rfl (SlV.ptr hot0.slv (ck_nat e6)) ?_
          refine WO.fldS rfl rfl (SlV.ptr hot0.slv (ck_nat e6)) rfl rfl rfl (by decide) ?_
          obtain ⟨x38, e39, h⟩ := bindS h
          refine WO.ldF rfl hot0.ro (fun _ hi => hi) (at?_get e39) rfl rfl rfl ?_
          refine WO.mv rfl ?_
          refine WO.maxD rfl rfl ?_
          refine WO.nckE rfl (SlV.ptr hot0.slv (ck_nat e6)) ?_
          refine WO.fldS rfl rfl (SlV.ptr hot0.slv (ck_nat e6)) rfl rfl rfl (by decide) ?_
          obtain ⟨x42, e43, h⟩ := bindS h
          refine WO.stIF (q := 4) (u' := ((x42.1.1, x42.1.2.1, x42.1.2.2.1, x42.1.2.2.2), (maxI x38.2 b33.1))) rfl rfl hot0 (at?_get e43) rfl (by decide) rfl rfl (fun S40 c41 hot0 => ?_)
          refine WO.nil ?_
          refine thenL_n ?_
          refine WC.region ?_
          refine WO.mv rfl ?_
          obtain ⟨u44, e45, h⟩ := bindS h
          refine WO.nckE rfl (SlV.ptr hot0.slv (ck_nat e45)) ?_
          refine WO.fldS rfl rfl (SlV.ptr hot0.slv (ck_nat e45)) rfl rfl rfl (by decide) ?_
          refine WO.fldS rfl rfl (SlV.ptr hot0.slv (ck_nat e45)) rfl rfl rfl (by decide) ?_
          obtain ⟨x48, e49, h⟩ := bindS h
          refine WO.stIF (q := 2) (u' := ((x48.1.1, x48.1.2.1, true, x48.1.2.2.2), x48.2)) rfl rfl hot0 (at?_get e49) rfl (by decide) rfl rfl (fun S46 c47 hot0 => ?_)
          refine WO.nil ?_
          refine blockL_n ?_
          obtain rfl := someI h
          exact ⟨.inl rfl, _, _, rfl, rfl, ⟨rfl, hot0.ip Lay.flat_fl⟩⟩
        · have h := iteF q37 h
          refine WC.skip ?_
          refine thenL_n ?_
          refine WC.region ?_
          refine WO.mv rfl ?_
          refine WO.nckE rfl (SlV.ptr hot0.slv (ck_nat e6)) ?_
          refine WO.fldS rfl rfl (SlV.ptr hot0.slv (ck_nat e6)) rfl rfl rfl (by decide) ?_
          refine WO.fldS rfl rfl (SlV.ptr hot0.slv (ck_nat e6)) rfl rfl rfl (by decide) ?_
          obtain ⟨x52, e53, h⟩ := bindS h
          refine WO.stIF (q := 2) (u' := ((x52.1.1, x52.1.2.1, true, x52.1.2.2.2), x52.2)) rfl rfl hot0 (at?_get e53) rfl (by decide) rfl rfl (fun S50 c51 hot0 => ?_)
          refine WO.nil ?_
          refine blockL_n ?_
          obtain rfl := someI h
          exact ⟨.inl rfl, _, _, rfl, rfl, ⟨rfl, hot0.ip Lay.flat_fl⟩⟩
    · have h := iteF q12 h
      refine WC.seq ?_
      refine WC.region ?_
      refine WO.bin rfl rfl (by decide) (by decide) rfl ?_
      refine WO.asg rfl ?_
      refine WO.nil ?_
      refine thenL_n ?_
      refine WC.cond rfl (fun q54 => ?_) (fun q54 => ?_)
      · have h := iteT q54 h
        refine WC.region ?_
        refine WO.mv rfl ?_
        refine WO.nckE rfl (SlV.ptr hot0.slv (ck_nat e6)) ?_
        refine WO.fldS rfl rfl (SlV.ptr hot0.slv (ck_nat e6)) rfl rfl rfl (by decide) ?_
        refine WO.fldS rfl rfl (SlV.ptr hot0.slv (ck_nat e6)) rfl rfl rfl (by decide) ?_
        obtain ⟨x57, e58, h⟩ := bindS h
        refine WO.stIF (q := 3) (u' := ((x57.1.1, x57.1.2.1, x57.1.2.2.1, true), x57.2)) rfl rfl hot0 (at?_get e58) rfl (by decide) rfl rfl (fun S55 c56 hot0 => ?_)
        have ho4 := ho4.to c56
        refine WO.nil ?_
        refine blockL_n ?_
        obtain rfl := someI h
        exact ⟨.inl rfl, _, _, rfl, rfl, ⟨rfl, hot0.ip Lay.flat_fl⟩⟩
      · have h := iteF q54 h
        refine WC.seq ?_
        refine WC.region ?_
        refine WO.bin rfl rfl (by decide) (by decide) rfl ?_
        refine WO.asg rfl ?_
        refine WO.nil ?_
        refine thenL_n ?_
        refine WC.cond rfl (fun q59 => ?_) (fun q59 => ?_)
        · have h := iteT q59 h
          refine WC.region ?_
          refine WO.mv rfl ?_
          refine WO.nckE rfl (SlV.ptr hot0.slv (ck_nat e6)) ?_
          refine WO.fldS rfl rfl (SlV.ptr hot0.slv (ck_nat e6)) rfl rfl rfl (by decide) ?_
          refine WO.fldS rfl rfl (SlV.ptr hot0.slv (ck_nat e6)) rfl rfl rfl (by decide) ?_
          obtain ⟨x62, e63, h⟩ := bindS h
          refine WO.stIF (q := 3) (u' := ((x62.1.1, x62.1.2.1, x62.1.2.2.1, false), x62.2)) rfl rfl hot0 (at?_get e63) rfl (by decide) rfl rfl (fun S60 c61 hot0 => ?_)
          have ho4 := ho4.to c61
          refine WO.nil ?_
          refine blockL_n ?_
          obtain rfl := someI h
          exact ⟨.inl rfl, _, _, rfl, rfl, ⟨rfl, hot0.ip Lay.flat_fl⟩⟩
        · have h := iteF q59 h
          refine WC.skip ?_
          refine blockL_n ?_
          obtain rfl := someI h
          exact ⟨.inl rfl, _, _, rfl, rfl, ⟨rfl, hot0.ip Lay.flat_fl⟩⟩
end Go.Proofs.Ytihmliblbhjlaaa

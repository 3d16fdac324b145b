/- The machine answers F28: printed by a program of ours (gen.py). -/
import Derived.Test.YtihmliblbhjlaaaDef
import Derived.Test.YtihmliblbhjlaaaEnv
import Derived.Test.YtihmliblbhjlaaaF103
import Derived.Test.YtihmliblbhjlaaaF104_105
import Derived.Test.YtihmliblbhjlaaaF29
set_option linter.unusedVariables false
namespace Go.Proofs.Ytihmliblbhjlaaa
open Go.Am
theorem F28.fn : E.fn 28 = some ⟨149, (Try.f28.body.getD .skip), Try.f28.results.toList, [17]⟩ := rfl
theorem F28_ok {F : Nat} {m : Mem} {n : Nat} {r : (List Int) × Int} {t0 : (List (List Int)) × (List (List Int))} {vt0_0 : SV} {vt0_1 : SV} (h : F28 F t0 = some r) (kt0_0 : Vw Y22 n m vt0_0 t0.1) (kt0_1 : Vw Y22 n m vt0_1 t0.2) : Ret E n 28 [.agg [vt0_0, vt0_1]] m n (fun v m' n' => ∃ w, v = .tup [.sc w, .sc (.int .i64 r.2)] ∧ Fr Y3 n m' n' w r.1) := by
  unfold F28 at h
  refine Ret.walk F28.fn ?_
  refine WC.start fun S0 em en hz => ?_
  have hot0_0 := kt0_0.rdS em hz
  have hot0_1 := kt0_1.rdS em hz
  refine WC.seq ?_
  refine WC.region ?_
  refine WO.bxW (S := S0) (cs := [vt0_0, vt0_1]) 2 rfl rfl rfl (fun b1 S2 c3 ho4 => ?_)
  have hot0_0 := hot0_0.to c3
  have hot0_1 := hot0_1.to c3
  refine WO.asg rfl ?_
  refine WO.asg rfl ?_
  refine WO.nil ?_
  refine thenL_n ?_
  refine WC.seq ?_
  refine WC.seq ?_
  refine WC.region ?_
  refine WO.fldS (j := 0) (q := 0) rfl ho4.at0 ho4.ptr rfl rfl rfl (by decide) ?_
  refine WO.ldW rfl rfl ho4 rfl rfl ho4.lt rfl ?_
  obtain ⟨r5, e6, h⟩ := bindS h
  refine WO.callE (S := S2) rfl rfl (F29_ok e6 hot0_0.vw) (fun S7 c8 => ?_)
  have hot0_0 := hot0_0.to c8
  have hot0_1 := hot0_1.to c8
  have ho4 := ho4.to c8
  refine WO.asg rfl ?_
  refine WO.nil ?_
  refine thenL_n ?_
  refine WC.seq ?_
  refine WC.region ?_
  refine WO.mv rfl ?_
  refine WO.bin rfl rfl (by decide) (by decide) rfl ?_
  refine WO.nil ?_
  refine thenL_n ?_
  refine WC.cond rfl (fun q9 => ?_) (fun q9 => ?_)
  · have h := iteT q9 h
    refine WC.seq ?_
    refine WC.region ?_
    refine WO.mv rfl ?_
    refine WO.asg rfl ?_
    refine WO.asg rfl ?_
    refine WO.nil ?_
    refine thenL_n ?_
    refine WC.ret ?_
    refine thenL_r ?_
    obtain rfl := someI h
    exact ⟨.inr rfl, _, _, rfl, rfl, ⟨.nils, rfl, Fr.nil⟩⟩
  · have h := iteF q9 h
    refine WC.skip ?_
    refine thenL_n ?_
    refine WC.seq ?_
    refine WC.seq ?_
    refine WC.region ?_
    refine WO.fldS (j := 0) (q := 0) rfl ho4.at0 ho4.ptr rfl rfl rfl (by decide) ?_
    refine WO.ldW rfl rfl ho4 rfl rfl ho4.lt rfl ?_
    obtain ⟨r10, e11, h⟩ := bindS h
    refine WO.callE (S := S7) rfl rfl (F29_ok e11 hot0_1.vw) (fun S12 c13 => ?_)
    have hot0_0 := hot0_0.to c13
    have hot0_1 := hot0_1.to c13
    have ho4 := ho4.to c13
    refine WO.asg rfl ?_
    refine WO.nil ?_
    refine thenL_n ?_
    refine WC.seq ?_
    refine WC.region ?_
    refine WO.mv rfl ?_
    refine WO.bin rfl rfl (by decide) (by decide) rfl ?_
    refine WO.nil ?_
    refine thenL_n ?_
    refine WC.cond rfl (fun q14 => ?_) (fun q14 => ?_)
    · have h := iteT q14 h
      refine WC.seq ?_
      refine WC.region ?_
      refine WO.mv rfl ?_
      refine WO.asg rfl ?_
      refine WO.asg rfl ?_
      refine WO.nil ?_
      refine thenL_n ?_
      refine WC.ret ?_
      refine thenL_r ?_
      obtain rfl := someI h
      exact ⟨.inr rfl, _, _, rfl, rfl, ⟨.nils, rfl, Fr.nil⟩⟩
    · have h := iteF q14 h
      refine WC.skip ?_
      refine thenL_n ?_
      refine WC.seq ?_
      refine WC.seq ?_
      refine WC.region ?_
      refine WO.fldS (j := 0) (q := 0) rfl ho4.at0 ho4.ptr rfl rfl rfl (by decide) ?_
      refine WO.ldW rfl rfl ho4 rfl rfl ho4.lt rfl ?_
      refine WO.lenS rfl hot0_0.slv rfl ?_
      refine WO.fldS (j := 0) (q := 0) rfl ho4.at0 ho4.ptr rfl rfl rfl (by decide) ?_
      refine WO.ldW rfl rfl ho4 rfl rfl ho4.lt rfl ?_
      refine WO.lenS rfl hot0_1.slv rfl ?_
      refine WO.bin rfl rfl (by decide) (by decide) rfl ?_
      refine WO.nil ?_
      refine thenL_n ?_
      refine WC.cond rfl (fun q15 => ?_) (fun q15 => ?_)
      · have h := iteT q15 h
        refine WC.seq ?_
        refine WC.region ?_
        refine WO.asg rfl ?_
        refine WO.asg rfl ?_
        refine WO.nil ?_
        refine thenL_n ?_
        refine WC.ret ?_
        refine thenL_r ?_
        obtain rfl := someI h
        exact ⟨.inr rfl, _, _, rfl, rfl, ⟨.nils, rfl, Fr.nil⟩⟩
      · have h := iteF q15 h
        refine WC.skip ?_
        refine thenL_n ?_
        refine WC.seq ?_
        refine WC.region ?_
        refine WO.asg rfl ?_
        refine WO.nil ?_
        refine thenL_n ?_
        refine WC.seq ?_
        refine WC.seq ?_
        refine WC.region ?_
        refine WO.fldS (j := 0) (q := 0) rfl ho4.at0 ho4.ptr rfl rfl rfl (by decide) ?_
        refine WO.ldW rfl rfl ho4 rfl rfl ho4.lt rfl ?_
        refine WO.lenS rfl hot0_0.slv rfl ?_
        refine WO.mv rfl ?_
        refine WO.nil ?_
        refine thenL_n ?_
        refine WC.block ?_
        obtain ⟨b34, e35, h⟩ := bindS h
        refine WC.loopD e35 (fun s16 l' m' n' => ∃ S17 : Cx n, S17.m = m' ∧ S17.n = n' ∧ Cov l' [(1, .sc ((.ptr b1 0))), (6, .sc (.int .i64 s16.1)), (37, .sc vt0_0), (38, .sc (.int .i64 ((t0.1.length : Int)))), (39, .sc (.int .i64 s16.2))] ∧ Bw S17 2 (.ptr b1 0) [vt0_0, vt0_1] ∧ Rd Y22 S17 vt0_0 t0.1 ∧ Rd Y22 S17 vt0_1 t0.2) (fun b e l' m' n' => (match b with | .inl b18 => e = .exit 0 ∧ ∃ S19 : Cx n, S19.m = m' ∧ S19.n = n' ∧ Cov l' [(1, .sc ((.ptr b1 0))), (6, .sc (.int .i64 b18))] ∧ Bw S19 2 (.ptr b1 0) [vt0_0, vt0_1] ∧ Rd Y22 S19 vt0_0 t0.1 ∧ Rd Y22 S19 vt0_1 t0.2 | .inr b18 => e = .ret ∧ ∃ S20 : Cx n, ∃ v21 : SV, S20.m = m' ∧ S20.n = n' ∧ Cov l' [(2, .sc v21), (3, .sc (.int .i64 b18.2))] ∧ Ow Y3 S20 3 v21 b18.1)) (by exact ⟨S12, rfl, rfl, (Cov.cons rfl (Cov.cons rfl (Cov.cons rfl (Cov.cons rfl (Cov.cons rfl (Cov.nil _)))))), ho4, hot0_0, hot0_1⟩) ?_ ?_
        · clear h
          rintro s16 q _ _ _ ⟨S22, rfl, rfl, hc23, ho4, hot0_0, hot0_1⟩ h
          unfold F28_l0 at h
          refine WC.cov hc23 ?_
          refine WC.seq ?_
          refine WC.region ?_
          refine WO.bin rfl rfl (by decide) (by decide) rfl ?_
          refine WO.nil ?_
          refine thenL_n ?_
          refine WC.seq ?_
          refine WC.cond rfl (fun q24 => ?_) (fun q24 => ?_)
          · have h := iteT q24 h
            refine WC.skip ?_
            refine thenL_n ?_
            refine WC.seq ?_
            refine WC.block ?_
            refine WC.seq ?_
            refine WC.region ?_
            refine WO.mv rfl ?_
            obtain ⟨L25, e26, h⟩ := bindS h
            refine WO.ixS rfl rfl hot0_0.slv (at?_lt e26) rfl ?_
            refine WO.ldS rfl hot0_0.ro (fun _ hi => hi) (at?_get e26) rfl rfl (fun v27 ho28 => ?_)
            have ho28 : Rd Y3 S22 v27 L25 := ho28
            refine WO.asg rfl ?_
            refine WO.asg rfl ?_
            refine WO.nil ?_
            refine thenL_n ?_
            refine WC.seq ?_
            refine WC.seq ?_
            refine WC.region ?_
            refine WO.mv rfl ?_
            refine WO.lenS rfl ho28.slv rfl ?_
            refine WO.fldS (j := 0) (q := 0) rfl ho4.at0 ho4.ptr rfl rfl rfl (by decide) ?_
            refine WO.ldW rfl rfl ho4 rfl rfl ho4.lt rfl ?_
            refine WO.mv rfl ?_
            obtain ⟨L29, e30, h⟩ := bindS h
            refine WO.ixS rfl rfl hot0_1.slv (at?_lt e30) rfl ?_
            refine WO.ldS rfl hot0_1.ro (fun _ hi => hi) (at?_get e30) rfl rfl (fun v31 ho32 => ?_)
            have ho32 : Rd Y3 S22 v31 L29 := ho32
            refine WO.lenS rfl ho32.slv rfl ?_
            refine WO.bin rfl rfl (by decide) (by decide) rfl ?_
            refine WO.nil ?_
            refine thenL_n ?_
            refine WC.cond rfl (fun q33 => ?_) (fun q33 => ?_)
            · have h := iteT q33 h
              refine WC.seq ?_
              refine WC.region ?_
              refine WO.asg rfl ?_
              refine WO.asg rfl ?_
              refine WO.nil ?_
              refine thenL_n ?_
              refine WC.ret ?_
              refine thenL_r ?_
              refine blockL_r ?_
              refine thenL_r ?_
              refine thenL_r ?_
              obtain rfl := someI h
              exact ⟨_, rfl, rfl, ⟨S22, .nils, rfl, rfl, (Cov.cons rfl (Cov.cons rfl (Cov.nil _))), Ow.nil⟩⟩
            · have h := iteF q33 h
              refine WC.skip ?_
              refine thenL_n ?_
              refine WC.region ?_
              refine WO.mv rfl ?_
              refine WO.mv rfl ?_
              refine WO.lenS rfl ho28.slv rfl ?_
              refine WO.bin rfl rfl (by decide) (by decide) rfl ?_
              refine WO.asg rfl ?_
              refine WO.nil ?_
              refine blockL_n ?_
              refine thenL_n ?_
              refine WC.region ?_
              refine WO.bin rfl rfl (by decide) (by decide) rfl ?_
              refine WO.mv rfl ?_
              refine WO.nil ?_
              refine thenL_n ?_
              obtain rfl := someI h
              exact ⟨_, rfl, ⟨S22, rfl, rfl, (Cov.cons rfl (Cov.cons rfl (Cov.cons rfl (Cov.cons rfl (Cov.cons rfl (Cov.nil _)))))), ho4, hot0_0, hot0_1⟩⟩
          · have h := iteF q24 h
            refine WC.exit ?_
            refine thenL_e ?_
            refine thenL_e ?_
            obtain rfl := someI h
            exact ⟨_, rfl, rfl, ⟨S22, rfl, rfl, (Cov.cons rfl (Cov.cons rfl (Cov.nil _))), ho4, hot0_0, hot0_1⟩⟩
        cases b34 with
        | inl b36 =>
          simp only at h
          rintro _ _ _ _ ⟨rfl, ⟨S37, rfl, rfl, hc38, ho4, hot0_0, hot0_1⟩⟩
          refine blockL_s ?_
          refine thenL_n ?_
          refine WC.cov hc38 ?_
          refine WC.seq ?_
          refine WC.drawN rfl rfl ?_
          have ho4z := ho4.lt
          have hot0_0z := hot0_0.oz
          have hot0_1z := hot0_1.oz
          refine WO.fldS (j := 0) (q := 0) rfl ho4.at0 ho4.ptr rfl rfl rfl (by decide) ?_
          refine WO.ldW rfl rfl ho4 rfl rfl ho4z (limLe_self _) ?_
          obtain ⟨r39, e40, h⟩ := bindS h
          refine WO.callG0 (S := S37) [] [(902, 4), (903, 5)] rfl rfl (F103_ok (S0 := S37.up []) e40 hot0_0.up) (fun _ S43 S44 hb hR => ?_)
          obtain ⟨v41, rfl, hR0⟩ := hR
          have c45 : Ch 1 S37 S44 := hb.ch [] 1
          have hot0_0z := hot0_0z.toz c45
          have hot0_1z := hot0_1z.toz c45
          have ho4 := ho4.to c45
          have hot0_0 := hot0_0.to c45
          have hot0_1 := hot0_1.to c45
          have ho42 := hR0.low.bkF hb rfl rfl Lay.flat_fl
          refine WO.fldS (j := 0) (q := 0) rfl ho4.at0 ho4.ptr rfl rfl rfl (by decide) ?_
          refine WO.ldW rfl rfl ho4 rfl rfl ho4z (limLe_self _) ?_
          obtain ⟨r46, e47, h⟩ := bindS h
          refine WO.callG0 (S := S44) [] [(902, 6), (903, 7)] rfl rfl (F103_ok (S0 := S44.up []) e47 hot0_1.up) (fun _ S50 S51 hb hR => ?_)
          obtain ⟨v48, rfl, hR0⟩ := hR
          have c52 : Ch 1 S44 S51 := hb.ch [] 1
          have hot0_0z := hot0_0z.toz c52
          have hot0_1z := hot0_1z.toz c52
          have ho4 := ho4.to c52
          have hot0_0 := hot0_0.to c52
          have hot0_1 := hot0_1.to c52
          have ho42 := ho42.to c52
          have ho49 := hR0.low.bkF hb rfl rfl Lay.flat_fl
          refine WO.asg rfl ?_
          refine WO.asg rfl ?_
          refine WO.nil ?_
          refine thenL_n ?_
          refine WC.seq ?_
          refine WC.region ?_
          refine WO.mv rfl ?_
          obtain ⟨L53, e54, h⟩ := bindS h
          refine WO.mkS (A := Y3) (S := S51) 8 rfl rfl e54 rfl rfl rfl (fun v55 S56 c57 ho58 => ?_)
          have ho4 := ho4.to c57
          have hot0_0 := hot0_0.to c57
          have hot0_1 := hot0_1.to c57
          have ho42 := ho42.to c57
          have ho49 := ho49.to c57
          refine WO.asg rfl ?_
          refine WO.nil ?_
          refine thenL_n ?_
          refine WC.seq ?_
          refine WC.seq ?_
          refine WC.region ?_
          refine WO.mv rfl ?_
          refine WO.bin rfl rfl (by decide) (by decide) rfl ?_
          refine WO.alS (A := Y3) (S := S56) (z0 := 0) 9 rfl rfl rfl (fun v59 S60 c61 ho62 => ?_)
          have ho4 := ho4.to c61
          have hot0_0 := hot0_0.to c61
          have hot0_1 := hot0_1.to c61
          have ho42 := ho42.to c61
          have ho49 := ho49.to c61
          have ho58 := ho58.to c61
          refine WO.stB (j := 0) (q := 0) (u' := (wrapA .i64 (b36 - 1))) rfl ho62.at0 rfl ho62 rfl (by decide) rfl rfl (fun S63 c64 ho62 => ?_)
          have ho4 := ho4.to c64
          have hot0_0 := hot0_0.to c64
          have hot0_1 := hot0_1.to c64
          have ho42 := ho42.to c64
          have ho49 := ho49.to c64
          have ho58 := ho58.to c64
          refine WO.nil ?_
          refine thenL_n ?_
          refine WC.block ?_
          obtain ⟨b180, e181, h⟩ := bindS h
          refine WC.loopD e181 (fun s65 l' m' n' => ∃ S67 : Cx n, ∃ v68 : SV, S67.m = m' ∧ S67.n = n' ∧ Cov l' [(9, .sc v41), (10, .sc v48), (11, .sc v55), (12, .sc v68)] ∧ Tw Y3 S67 4 5 v41 s65.2.1 ∧ Tw Y3 S67 6 7 v48 s65.2.2.1 ∧ Ow Y3 S67 8 v55 s65.2.2.2 ∧ Bk Y3 S67 9 v68 s65.1) (fun b e l' m' n' => e = .exit 2 ∧ ∃ S69 : Cx n, S69.m = m' ∧ S69.n = n' ∧ Cov l' [(11, .sc v55)] ∧ Ow Y3 S69 8 v55 b) (by exact ⟨S63, v59, rfl, rfl, (Cov.cons rfl (Cov.cons rfl (Cov.cons rfl (Cov.cons rfl (Cov.nil _))))), ho42, ho49, ho58, ho62⟩) ?_ ?_
          · clear h
            rintro s65 q _ _ _ ⟨S70, v71, rfl, rfl, hc72, ho42, ho49, ho58, hp12⟩ h
            unfold F28_l3 at h
            refine WC.cov hc72 ?_
            refine WC.seq ?_
            refine WC.seq ?_
            refine WC.region ?_
            refine WO.ldB (j := 0) (q := 0) rfl hp12.at0 hp12 rfl rfl rfl ?_
            refine WO.bin rfl rfl (by decide) (by decide) rfl ?_
            refine WO.nil ?_
            refine thenL_n ?_
            refine WC.cond rfl (fun q73 => ?_) (fun q73 => ?_)
            · have h := iteT q73 h
              refine WC.skip ?_
              refine thenL_n ?_
              refine WC.seq ?_
              refine WC.block ?_
              refine WC.seq ?_
              refine WC.region ?_
              refine WO.mv rfl ?_
              obtain ⟨b74, rfl⟩ := hp12.isp
              refine WO.do rfl rfl ?_
              obtain ⟨r75, e76, h⟩ := bindS h
              refine WO.callE (S := S70) rfl rfl (F104_105_ok e76 ho49.vw hp12.pv) (fun S77 c78 => ?_)
              have ho42 := ho42.to c78
              have ho49 := ho49.to c78
              have ho58 := ho58.to c78
              have hp12 := hp12.to c78
              refine WO.asg rfl ?_
              refine WO.nil ?_
              refine thenL_n ?_
              refine WC.seq ?_
              refine WC.region ?_
              refine WO.mv rfl ?_
              refine WO.mv rfl ?_
              obtain ⟨L79, e80, h⟩ := bindS h
              refine WO.ixS rfl rfl ho42.slv (at?_lt e80) rfl ?_
              refine WO.ldTv rfl ho42 (at?_get e80) rfl ho42.lt rfl (fun v81 ho82 => ?_)
              refine WO.lenS rfl ho82.slv rfl ?_
              refine WO.bin rfl rfl (by decide) (by decide) rfl ?_
              refine WO.asg rfl ?_
              refine WO.nil ?_
              refine thenL_n ?_
              refine WC.seq ?_
              refine WC.region ?_
              refine WO.mv rfl ?_
              refine WO.mv rfl ?_
              obtain ⟨L83, e84, h⟩ := bindS h
              refine WO.ixS rfl rfl ho42.slv (at?_lt e84) rfl ?_
              refine WO.ldTv rfl ho42 (at?_get e84) rfl ho42.lt rfl (fun v85 ho86 => ?_)
              refine WO.mv rfl ?_
              obtain ⟨x87, e88, h⟩ := bindS h
              refine WO.ixS rfl rfl ho86.slv (at?_lt e88) rfl ?_
              refine WO.ldF rfl ho86.ro (fun _ hi => hi) (at?_get e88) rfl rfl rfl ?_
              refine WO.asg rfl ?_
              refine WO.nil ?_
              refine thenL_n ?_
              refine WC.seq ?_
              refine WC.drawN rfl rfl ?_
              have ho42z := ho42.lt
              have ho49z := ho49.lt
              have ho58z := ho58.oz
              have hp12z := hp12.lt
              have ho82z := ho82.oz
              have ho86z := ho86.oz
              refine WO.mv rfl ?_
              refine WO.mv rfl ?_
              refine WO.mv rfl ?_
              refine WO.mv rfl ?_
              refine WO.mv rfl ?_
              refine WO.mv rfl ?_
              obtain ⟨L89, e90, h⟩ := bindS h
              refine WO.ixS rfl rfl ho42.slv (at?_lt e90) rfl ?_
              refine WO.ldTn 10 rfl ho42 (at?_get e90) rfl ho42z (limLe_self _) rfl rfl rfl rfl (fun v91 S93 c94 ho42 ho92 hn95 ho92z => ?_)
              have ho58z := ho58z.tow c94
              have ho49 := ho49.to c94
              have ho58 := ho58.to c94
              have hp12 := hp12.to c94
              refine WO.mv rfl ?_
              obtain ⟨L96, e97, h⟩ := bindS h
              refine WO.slcO rfl rfl ho92 e97 rfl (fun v98 ho99 => ?_)
              refine WO.mv rfl ?_
              refine WO.mv rfl ?_
              obtain ⟨L100, e101, h⟩ := bindS h
              refine WO.ixS rfl rfl ho49.slv (at?_lt e101) rfl ?_
              refine WO.ldTn 11 rfl ho49 (at?_get e101) rfl ho49z (limLe_self _) hn95 rfl rfl rfl (fun v102 S104 c105 ho49 ho103 hn106 ho103z => ?_)
              have ho58z := ho58z.tow c105
              have ho42 := ho42.to c105
              have ho58 := ho58.to c105
              have hp12 := hp12.to c105
              have ho99 := ho99.to c105
              refine WO.mv rfl ?_
              obtain ⟨L107, e108, h⟩ := bindS h
              refine WO.slcO rfl rfl ho103 e108 rfl (fun v109 ho110 => ?_)
              obtain ⟨u111, e112, h⟩ := bindS h
              refine WO.ixS rfl rfl ho42.slv (ck_some e112) rfl ?_
              refine WO.stT (S := S104) rfl rfl ho42 (ck_nat e112) ho99 rfl rfl rfl rfl rfl rfl rfl (fun S113 S115 c114 c116 ho42 => ?_)
              have ho58z := ho58z.tow c114
              have ho49 := ho49.to c114
              have ho58 := ho58.to c114
              have hp12 := hp12.to c114
              have ho110 := ho110.to c114
              have ho58z := ho58z.tow c116
              have ho49 := ho49.to c116
              have ho58 := ho58.to c116
              have hp12 := hp12.to c116
              have ho110 := ho110.to c116
              obtain ⟨u117, e118, h⟩ := bindS h
              refine WO.ixS rfl rfl ho49.slv (ck_some e118) rfl ?_
              refine WO.stT (S := S115) rfl rfl ho49 (ck_nat e118) ho110 rfl rfl rfl rfl rfl rfl rfl (fun S119 S121 c120 c122 ho49 => ?_)
              have ho58z := ho58z.tow c120
              have ho42 := ho42.to c120
              have ho58 := ho58.to c120
              have hp12 := hp12.to c120
              have ho58z := ho58z.tow c122
              have ho42 := ho42.to c122
              have ho58 := ho58.to c122
              have hp12 := hp12.to c122
              refine WO.nil ?_
              refine thenL_n ?_
              refine WC.seq ?_
              refine WC.seq ?_
              refine WC.region ?_
              refine WO.mv rfl ?_
              refine WO.bin rfl rfl (by decide) (by decide) rfl ?_
              refine WO.asg rfl ?_
              refine WO.nil ?_
              refine thenL_n ?_
              refine WC.block ?_
              obtain ⟨b164, e165, h⟩ := bindS h
              refine WC.loopD e165 (fun s123 l' m' n' => ∃ S124 : Cx n, S124.m = m' ∧ S124.n = n' ∧ Cov l' [(9, .sc v41), (10, .sc v48), (11, .sc v55), (12, .sc ((.ptr b74 0))), (13, .sc (.int .i64 s123.1)), (15, .sc (.int .i64 s123.2.1))] ∧ Tw Y3 S124 4 5 v41 s123.2.2 ∧ Tw Y3 S124 6 7 v48 ((s65.2.2.1.set ((Int.toNat r75)) L107)) ∧ Ow Y3 S124 8 v55 s65.2.2.2 ∧ Bk Y3 S124 9 (.ptr b74 0) s65.1) (fun b e l' m' n' => e = .exit 4 ∧ ∃ S125 : Cx n, S125.m = m' ∧ S125.n = n' ∧ Cov l' [(9, .sc v41), (10, .sc v48), (11, .sc v55), (12, .sc ((.ptr b74 0))), (15, .sc (.int .i64 b.1))] ∧ Tw Y3 S125 4 5 v41 b.2 ∧ Tw Y3 S125 6 7 v48 ((s65.2.2.1.set ((Int.toNat r75)) L107)) ∧ Ow Y3 S125 8 v55 s65.2.2.2 ∧ Bk Y3 S125 9 (.ptr b74 0) s65.1) (by exact ⟨S121, rfl, rfl, (Cov.cons rfl (Cov.cons rfl (Cov.cons rfl (Cov.cons rfl (Cov.cons rfl (Cov.cons rfl (Cov.nil _))))))), ho42, ho49, ho58, hp12⟩) ?_ ?_
              · clear h
                rintro s123 q _ _ _ ⟨S126, rfl, rfl, hc127, ho42, ho49, ho58, hp12⟩ h
                unfold F28_l2 at h
                refine WC.cov hc127 ?_
                refine WC.seq ?_
                refine WC.seq ?_
                refine WC.region ?_
                refine WO.mv rfl ?_
                refine WO.bin rfl rfl (by decide) (by decide) rfl ?_
                refine WO.nil ?_
                refine thenL_n ?_
                refine WC.cond rfl (fun q128 => ?_) (fun q128 => ?_)
                · have h := iteT q128 h
                  refine WC.skip ?_
                  refine thenL_n ?_
                  refine WC.seq ?_
                  refine WC.block ?_
                  refine WC.seq ?_
                  refine WC.region ?_
                  refine WO.mv rfl ?_
                  refine WO.mv rfl ?_
                  obtain ⟨L129, e130, h⟩ := bindS h
                  refine WO.ixS rfl rfl ho42.slv (at?_lt e130) rfl ?_
                  refine WO.ldTv rfl ho42 (at?_get e130) rfl ho42.lt rfl (fun v131 ho132 => ?_)
                  refine WO.lenS rfl ho132.slv rfl ?_
                  refine WO.bin rfl rfl (by decide) (by decide) rfl ?_
                  refine WO.asg rfl ?_
                  refine WO.nil ?_
                  refine thenL_n ?_
                  refine WC.seq ?_
                  refine WC.block ?_
                  obtain ⟨b145, e146, h⟩ := bindS h
                  refine WC.loopD e146 (fun s133 l' m' n' => ∃ S134 : Cx n, S134.m = m' ∧ S134.n = n' ∧ Cov l' [(9, .sc v41), (10, .sc v48), (11, .sc v55), (12, .sc ((.ptr b74 0))), (13, .sc (.int .i64 s123.1)), (15, .sc (.int .i64 s123.2.1)), (16, .sc (.int .i64 s133))] ∧ Tw Y3 S134 4 5 v41 s123.2.2 ∧ Tw Y3 S134 6 7 v48 ((s65.2.2.1.set ((Int.toNat r75)) L107)) ∧ Ow Y3 S134 8 v55 s65.2.2.2 ∧ Bk Y3 S134 9 (.ptr b74 0) s65.1) (fun b e l' m' n' => e = .exit 6 ∧ ∃ S135 : Cx n, S135.m = m' ∧ S135.n = n' ∧ Cov l' [(9, .sc v41), (10, .sc v48), (11, .sc v55), (12, .sc ((.ptr b74 0))), (13, .sc (.int .i64 s123.1)), (15, .sc (.int .i64 s123.2.1)), (16, .sc (.int .i64 b))] ∧ Tw Y3 S135 4 5 v41 s123.2.2 ∧ Tw Y3 S135 6 7 v48 ((s65.2.2.1.set ((Int.toNat r75)) L107)) ∧ Ow Y3 S135 8 v55 s65.2.2.2 ∧ Bk Y3 S135 9 (.ptr b74 0) s65.1) (by exact ⟨S126, rfl, rfl, (Cov.cons rfl (Cov.cons rfl (Cov.cons rfl (Cov.cons rfl (Cov.cons rfl (Cov.cons rfl (Cov.cons rfl (Cov.nil _)))))))), ho42, ho49, ho58, hp12⟩) ?_ ?_
                  · clear h
                    rintro s133 q _ _ _ ⟨S136, rfl, rfl, hc137, ho42, ho49, ho58, hp12⟩ h
                    unfold F28_l1 at h
                    refine WC.cov hc137 ?_
                    refine WC.seq ?_
                    refine WC.seq ?_
                    refine WC.region ?_
                    refine WO.mv rfl ?_
                    refine WO.mv rfl ?_
                    obtain ⟨L138, e139, h⟩ := bindS h
                    refine WO.ixS rfl rfl ho42.slv (at?_lt e139) rfl ?_
                    refine WO.ldTv rfl ho42 (at?_get e139) rfl ho42.lt rfl (fun v140 ho141 => ?_)
                    refine WO.mv rfl ?_
                    obtain ⟨x142, e143, h⟩ := bindS h
                    refine WO.ixS rfl rfl ho141.slv (at?_lt e143) rfl ?_
                    refine WO.ldF rfl ho141.ro (fun _ hi => hi) (at?_get e143) rfl rfl rfl ?_
                    refine WO.mv rfl ?_
                    refine WO.bin rfl rfl (by decide) (by decide) rfl ?_
                    refine WO.nil ?_
                    refine thenL_n ?_
                    refine WC.cond rfl (fun q144 => ?_) (fun q144 => ?_)
                    · have h := iteT q144 h
                      refine WC.skip ?_
                      refine thenL_n ?_
                      refine WC.block ?_
                      refine WC.region ?_
                      refine WO.mv rfl ?_
                      refine WO.bin rfl rfl (by decide) (by decide) rfl ?_
                      refine WO.asg rfl ?_
                      refine WO.nil ?_
                      refine blockL_n ?_
                      refine thenL_n ?_
                      obtain rfl := someI h
                      exact ⟨_, rfl, ⟨S136, rfl, rfl, (Cov.cons rfl (Cov.cons rfl (Cov.cons rfl (Cov.cons rfl (Cov.cons rfl (Cov.cons rfl (Cov.cons rfl (Cov.nil _)))))))), ho42, ho49, ho58, hp12⟩⟩
                    · have h := iteF q144 h
                      refine WC.exit ?_
                      refine thenL_e ?_
                      refine thenL_e ?_
                      obtain rfl := someI h
                      exact ⟨_, rfl, rfl, ⟨S136, rfl, rfl, (Cov.cons rfl (Cov.cons rfl (Cov.cons rfl (Cov.cons rfl (Cov.cons rfl (Cov.cons rfl (Cov.cons rfl (Cov.nil _)))))))), ho42, ho49, ho58, hp12⟩⟩
                  rintro _ _ _ _ ⟨rfl, ⟨S147, rfl, rfl, hc148, ho42, ho49, ho58, hp12⟩⟩
                  refine blockL_s ?_
                  refine thenL_n ?_
                  refine WC.cov hc148 ?_
                  refine WC.drawN rfl rfl ?_
                  have ho42z := ho42.lt
                  have ho49z := ho49.lt
                  have ho58z := ho58.oz
                  have hp12z := hp12.lt
                  refine WO.mv rfl ?_
                  refine WO.mv rfl ?_
                  obtain ⟨L149, e150, h⟩ := bindS h
                  refine WO.ixS rfl rfl ho42.slv (at?_lt e150) rfl ?_
                  refine WO.ldTn 12 rfl ho42 (at?_get e150) rfl ho42z (limLe_self _) rfl rfl rfl rfl (fun v151 S153 c154 ho42 ho152 hn155 ho152z => ?_)
                  have ho58z := ho58z.tow c154
                  have ho49 := ho49.to c154
                  have ho58 := ho58.to c154
                  have hp12 := hp12.to c154
                  refine WO.mv rfl ?_
                  refine WO.mv rfl ?_
                  refine WO.mv rfl ?_
                  refine WO.mv rfl ?_
                  obtain ⟨u156, e157, h⟩ := bindS h
                  refine WO.ixS rfl rfl ho42.slv (ck_some e157) rfl ?_
                  refine WO.ldTh rfl ho42 rfl ho42z (limLe_self _) ?_
                  refine WO.mv rfl ?_
                  obtain ⟨x158, e159, h⟩ := bindS h
                  refine WO.ixS rfl rfl ho152.slv (at?_lt e159) rfl ?_
                  refine WO.ldF rfl ho152z (fun _ hi => hi.1) (at?_get e159) rfl rfl (limLe_self _) ?_
                  obtain ⟨u160, e161, h⟩ := bindS h
                  refine WO.ixS rfl rfl ho152.slv (ck_some e161) rfl ?_
                  refine WO.st1 (u' := s123.2.1) rfl rfl ho152 (ck_nat e161) rfl rfl (fun S162 c163 ho152 => ?_)
                  have ho58z := ho58z.tow c163
                  have ho42 := ho42.to c163
                  have ho49 := ho49.to c163
                  have ho58 := ho58.to c163
                  have hp12 := hp12.to c163
                  refine WO.asg rfl ?_
                  refine WO.nil ?_
                  refine blockL_n ?_
                  refine thenL_n ?_
                  refine WC.region ?_
                  refine WO.mv rfl ?_
                  refine WO.bin rfl rfl (by decide) (by decide) rfl ?_
                  refine WO.asg rfl ?_
                  refine WO.nil ?_
                  refine thenL_n ?_
                  have ho42 := ho42.back ho152
                  have ho49 := ho49.to (Cx.mg_ch S162 12 5)
                  have ho58 := ho58.to (Cx.mg_ch S162 12 5)
                  have hp12 := hp12.to (Cx.mg_ch S162 12 5)
                  obtain rfl := someI h
                  exact ⟨_, rfl, ⟨(S162.mg 12 5), rfl, rfl, (Cov.cons rfl (Cov.cons rfl (Cov.cons rfl (Cov.cons rfl (Cov.cons rfl (Cov.cons rfl (Cov.nil _))))))), ho42, ho49, ho58, hp12⟩⟩
                · have h := iteF q128 h
                  refine WC.exit ?_
                  refine thenL_e ?_
                  refine thenL_e ?_
                  obtain rfl := someI h
                  exact ⟨_, rfl, rfl, ⟨S126, rfl, rfl, (Cov.cons rfl (Cov.cons rfl (Cov.cons rfl (Cov.cons rfl (Cov.cons rfl (Cov.nil _)))))), ho42, ho49, ho58, hp12⟩⟩
              rintro _ _ _ _ ⟨rfl, ⟨S166, rfl, rfl, hc167, ho42, ho49, ho58, hp12⟩⟩
              refine blockL_s ?_
              refine thenL_n ?_
              refine WC.cov hc167 ?_
              refine WC.region ?_
              refine WO.mv rfl ?_
              refine WO.ldB (j := 0) (q := 0) rfl hp12.at0 hp12 rfl rfl rfl ?_
              refine WO.mv rfl ?_
              obtain ⟨u168, e169, h⟩ := bindS h
              refine WO.ixS rfl rfl ho58.slv (ck_some e169) rfl ?_
              refine WO.st1 (u' := b164.1) rfl rfl ho58 (ck_nat e169) rfl rfl (fun S170 c171 ho58 => ?_)
              have ho42 := ho42.to c171
              have ho49 := ho49.to c171
              have hp12 := hp12.to c171
              refine WO.nil ?_
              refine blockL_n ?_
              refine thenL_n ?_
              refine WC.seq ?_
              refine WC.seq ?_
              refine WC.region ?_
              refine WO.ldB (j := 0) (q := 0) rfl hp12.at0 hp12 rfl rfl rfl ?_
              refine WO.nil ?_
              refine thenL_n ?_
              refine WC.region ?_
              refine WO.alS (A := Y3) (S := S170) (z0 := 0) 13 rfl rfl rfl (fun v172 S173 c174 ho175 => ?_)
              have ho42 := ho42.to c174
              have ho49 := ho49.to c174
              have ho58 := ho58.to c174
              have hp12 := hp12.to c174
              refine WO.stB (j := 0) (q := 0) (u' := s65.1) rfl ho175.at0 rfl ho175 rfl (by decide) rfl rfl (fun S176 c177 ho175 => ?_)
              have ho42 := ho42.to c177
              have ho49 := ho49.to c177
              have ho58 := ho58.to c177
              have hp12 := hp12.to c177
              refine WO.nil ?_
              refine thenL_n ?_
              refine WC.region ?_
              refine WO.ldB (j := 0) (q := 0) rfl ho175.at0 ho175 rfl rfl rfl ?_
              refine WO.bin rfl rfl (by decide) (by decide) rfl ?_
              refine WO.stB (j := 0) (q := 0) (u' := (wrapA .i64 (s65.1 - 1))) rfl ho175.at0 rfl ho175 rfl (by decide) rfl rfl (fun S178 c179 ho175 => ?_)
              have ho42 := ho42.to c179
              have ho49 := ho49.to c179
              have ho58 := ho58.to c179
              have hp12 := hp12.to c179
              refine WO.nil ?_
              refine thenL_n ?_
              have ho42 := ho42.renO 13 9
              have ho49 := ho49.renO 13 9
              have ho58 := ho58.renO 13 9
              have ho175 := ho175.ren (j := 9)
              obtain rfl := someI h
              exact ⟨_, rfl, ⟨(S178.ren 13 9), v172, rfl, rfl, (Cov.cons rfl (Cov.cons rfl (Cov.cons rfl (Cov.cons rfl (Cov.nil _))))), ho42, ho49, ho58, ho175⟩⟩
            · have h := iteF q73 h
              refine WC.exit ?_
              refine thenL_e ?_
              refine thenL_e ?_
              obtain rfl := someI h
              exact ⟨_, rfl, rfl, ⟨S70, rfl, rfl, (Cov.cons rfl (Cov.nil _)), ho58⟩⟩
          rintro _ _ _ _ ⟨rfl, ⟨S182, rfl, rfl, hc183, ho58⟩⟩
          refine blockL_s ?_
          refine thenL_n ?_
          refine WC.cov hc183 ?_
          refine WC.seq ?_
          refine WC.region ?_
          refine WO.mv rfl ?_
          refine WO.asg rfl ?_
          refine WO.asg rfl ?_
          refine WO.nil ?_
          refine thenL_n ?_
          refine WC.ret ?_
          obtain rfl := someI h
          exact ⟨.inr rfl, _, _, rfl, rfl, ⟨v55, rfl, (ho58.fr Lay.flat_fl)⟩⟩
        | inr b36 =>
          simp only at h
          rintro _ _ _ _ ⟨rfl, ⟨S184, v185, rfl, rfl, hc186, ho2⟩⟩
          refine blockL_r ?_
          refine thenL_r ?_
          obtain rfl := someI h
          exact ⟨.inr rfl, _, _, (resK_cov hc186 rfl), rfl, ⟨v185, rfl, (ho2.fr Lay.flat_fl)⟩⟩
end Go.Proofs.Ytihmliblbhjlaaa

/- The machine answers F15: printed by a program of ours (gen.py). -/
import Derived.Test.YtihmliblbhjlaaaDef
import Derived.Test.YtihmliblbhjlaaaEnv
import Derived.Test.YtihmliblbhjlaaaF17
set_option linter.unusedVariables false
namespace Go.Proofs.Ytihmliblbhjlaaa
open Go.Am
theorem F15.fn : E.fn 15 = some ⟨72, (Try.f15.body.getD .skip), Try.f15.results.toList, [1000014]⟩ := rfl
theorem F15_ok {F : Nat} {fl : Nat} {S0 : Cx fl} {r : ((List Int) × (List Int)) × Int} {t0 : (List Int) × (List Int)} {t1 : (List Int) × (List Int)} {vt0_0 : SV} {vt0_1 : SV} {vt1_0 : SV} {vt1_1 : SV} (h : F15 F t0 t1 = some r) (hot0_0 : Rd Y3 S0 vt0_0 t0.1) (hot0_1 : Rd Y3 S0 vt0_1 t0.2) (hot1_0 : Rd Y3 S0 vt1_0 t1.1) (hot1_1 : Rd Y3 S0 vt1_1 t1.2) : Ret E fl 15 [.agg [vt0_0, vt0_1], .agg [vt1_0, vt1_1]] S0.m S0.n (fun v m' n' => ∃ S' : Cx fl, S'.m = m' ∧ S'.n = n' ∧ ChM S0 S' ∧ (∃ w286 w287 : SV, v = .tup [.agg [w286, w287], .sc (.int .i64 r.2)] ∧ Ow Y3 S' 902 w286 r.1.1 ∧ Ow Y3 S' 904 w287 r.1.2)) := by
  unfold F15 at h
  refine Ret.walk F15.fn ?_
  have hM := ChM.refl S0
  refine WC.seq ?_
  refine WC.region ?_
  refine WO.bxW (S := S0) (cs := [vt0_0, vt0_1]) 2 rfl rfl rfl (fun b1 S2 c3 ho4 => ?_)
  have hot0_0 := hot0_0.to c3
  have hot0_1 := hot0_1.to c3
  have hot1_0 := hot1_0.to c3
  have hot1_1 := hot1_1.to c3
  have hM := hM.to c3
  refine WO.bxW (S := S2) (cs := [vt1_0, vt1_1]) 3 rfl rfl rfl (fun b5 S6 c7 ho8 => ?_)
  have hot0_0 := hot0_0.to c7
  have hot0_1 := hot0_1.to c7
  have hot1_0 := hot1_0.to c7
  have hot1_1 := hot1_1.to c7
  have hM := hM.to c7
  have ho4 := ho4.to c7
  refine WO.alW (S := S6) (cs := [.nils, .nils]) 4 rfl rfl rfl (fun b9 S10 c11 ho12 => ?_)
  have hot0_0 := hot0_0.to c11
  have hot0_1 := hot0_1.to c11
  have hot1_0 := hot1_0.to c11
  have hot1_1 := hot1_1.to c11
  have hM := hM.to c11
  have ho4 := ho4.to c11
  have ho8 := ho8.to c11
  refine WO.asg rfl ?_
  refine WO.nil ?_
  refine thenL_n ?_
  refine WC.seq ?_
  refine WC.seq ?_
  refine WC.region ?_
  refine WO.ldWA (sz := 2) (r := [vt0_0, vt0_1]) rfl ho4.at0 ho4 rfl rfl rfl ho4.lt rfl ?_
  obtain ⟨r13, e14, h⟩ := bindS h
  refine WO.callE (S := S10) rfl rfl (F17_ok e14 hot0_0.vw hot0_1.vw) (fun S15 c16 => ?_)
  have hot0_0 := hot0_0.to c16
  have hot0_1 := hot0_1.to c16
  have hot1_0 := hot1_0.to c16
  have hot1_1 := hot1_1.to c16
  have hM := hM.to c16
  have ho4 := ho4.to c16
  have ho8 := ho8.to c16
  have ho12 := ho12.to c16
  refine WO.asg rfl ?_
  refine WO.nil ?_
  refine thenL_n ?_
  refine WC.seq ?_
  refine WC.region ?_
  refine WO.mv rfl ?_
  refine WO.bin rfl rfl (by decide) (by decide) rfl ?_
  refine WO.nil ?_
  refine thenL_n ?_
  refine WC.cond rfl (fun q17 => ?_) (fun q17 => ?_)
  · have h := iteT q17 h
    refine WC.seq ?_
    refine WC.region ?_
    refine WO.do rfl rfl ?_
    refine WO.mv rfl ?_
    refine WO.stW (S := S15) (r := [.nils, .nils]) rfl ho12.at0 rfl rfl ho12 rfl rfl rfl rfl rfl (fun S18 c19 ho12 => ?_)
    have hot0_0 := hot0_0.to c19
    have hot0_1 := hot0_1.to c19
    have hot1_0 := hot1_0.to c19
    have hot1_1 := hot1_1.to c19
    have hM := hM.to c19
    have ho4 := ho4.to c19
    have ho8 := ho8.to c19
    refine WO.asg rfl ?_
    refine WO.nil ?_
    refine thenL_n ?_
    refine WC.ret ?_
    refine thenL_r ?_
    have hcell20 := ho12
    obtain rfl := someI h
    exact ⟨.inr rfl, _, _, (resK_w (sz := 2) hcell20 (Cov.refl _) rfl rfl rfl (resK_t (Cov.refl _) rfl rfl)), rfl, ⟨S18, rfl, rfl, hM, .nils, .nils, rfl, Ow.nil, Ow.nil⟩⟩
  · have h := iteF q17 h
    refine WC.skip ?_
    refine thenL_n ?_
    refine WC.seq ?_
    refine WC.seq ?_
    refine WC.region ?_
    refine WO.ldWA (sz := 2) (r := [vt1_0, vt1_1]) rfl ho8.at0 ho8 rfl rfl rfl ho8.lt rfl ?_
    obtain ⟨r21, e22, h⟩ := bindS h
    refine WO.callE (S := S15) rfl rfl (F17_ok e22 hot1_0.vw hot1_1.vw) (fun S23 c24 => ?_)
    have hot0_0 := hot0_0.to c24
    have hot0_1 := hot0_1.to c24
    have hot1_0 := hot1_0.to c24
    have hot1_1 := hot1_1.to c24
    have hM := hM.to c24
    have ho4 := ho4.to c24
    have ho8 := ho8.to c24
    have ho12 := ho12.to c24
    refine WO.asg rfl ?_
    refine WO.nil ?_
    refine thenL_n ?_
    refine WC.seq ?_
    refine WC.region ?_
    refine WO.mv rfl ?_
    refine WO.bin rfl rfl (by decide) (by decide) rfl ?_
    refine WO.nil ?_
    refine thenL_n ?_
    refine WC.cond rfl (fun q25 => ?_) (fun q25 => ?_)
    · have h := iteT q25 h
      refine WC.seq ?_
      refine WC.region ?_
      refine WO.do rfl rfl ?_
      refine WO.mv rfl ?_
      refine WO.stW (S := S23) (r := [.nils, .nils]) rfl ho12.at0 rfl rfl ho12 rfl rfl rfl rfl rfl (fun S26 c27 ho12 => ?_)
      have hot0_0 := hot0_0.to c27
      have hot0_1 := hot0_1.to c27
      have hot1_0 := hot1_0.to c27
      have hot1_1 := hot1_1.to c27
      have hM := hM.to c27
      have ho4 := ho4.to c27
      have ho8 := ho8.to c27
      refine WO.asg rfl ?_
      refine WO.nil ?_
      refine thenL_n ?_
      refine WC.ret ?_
      refine thenL_r ?_
      have hcell28 := ho12
      obtain rfl := someI h
      exact ⟨.inr rfl, _, _, (resK_w (sz := 2) hcell28 (Cov.refl _) rfl rfl rfl (resK_t (Cov.refl _) rfl rfl)), rfl, ⟨S26, rfl, rfl, hM, .nils, .nils, rfl, Ow.nil, Ow.nil⟩⟩
    · have h := iteF q25 h
      refine WC.skip ?_
      refine thenL_n ?_
      refine WC.seq ?_
      refine WC.region ?_
      refine WO.alW (S := S23) (cs := [.nils, .nils]) 5 rfl rfl rfl (fun b29 S30 c31 ho32 => ?_)
      have hot0_0 := hot0_0.to c31
      have hot0_1 := hot0_1.to c31
      have hot1_0 := hot1_0.to c31
      have hot1_1 := hot1_1.to c31
      have hM := hM.to c31
      have ho4 := ho4.to c31
      have ho8 := ho8.to c31
      have ho12 := ho12.to c31
      refine WO.nil ?_
      refine thenL_n ?_
      refine WC.seq ?_
      refine WC.seq ?_
      refine WC.region ?_
      refine WO.fldS (j := 0) (q := 0) rfl ho4.at0 ho4.ptr rfl rfl rfl (by decide) ?_
      refine WO.ldW rfl rfl ho4 rfl rfl ho4.lt rfl ?_
      refine WO.lenS rfl hot0_0.slv rfl ?_
      refine WO.mv rfl ?_
      refine WO.nil ?_
      refine thenL_n ?_
      refine WC.block ?_
      obtain ⟨b269, e270, h⟩ := bindS h
      refine WC.loopD e270 (fun s33 l' m' n' => ∃ S36 : Cx fl, ∃ v37 v38 : SV, S36.m = m' ∧ S36.n = n' ∧ Cov l' [(2, .sc ((.ptr b1 0))), (3, .sc ((.ptr b5 0))), (4, .sc ((.ptr b9 0))), (8, .sc ((.ptr b29 0))), (26, .sc vt0_0), (27, .sc (.int .i64 ((t0.1.length : Int)))), (28, .sc (.int .i64 s33.1))] ∧ ChM S0 S36 ∧ Bw S36 2 (.ptr b1 0) [vt0_0, vt0_1] ∧ Rd Y3 S36 vt0_0 t0.1 ∧ Rd Y3 S36 vt0_1 t0.2 ∧ Bw S36 3 (.ptr b5 0) [vt1_0, vt1_1] ∧ Rd Y3 S36 vt1_0 t1.1 ∧ Rd Y3 S36 vt1_1 t1.2 ∧ Bw S36 4 (.ptr b9 0) [.nils, .nils] ∧ Bw S36 5 (.ptr b29 0) [v37, v38] ∧ Ow Y3 S36 6 v37 s33.2.1 ∧ Ow Y3 S36 7 v38 s33.2.2) (fun b e l' m' n' => e = .exit 0 ∧ ∃ S39 : Cx fl, ∃ v40 v41 : SV, S39.m = m' ∧ S39.n = n' ∧ Cov l' [(4, .sc ((.ptr b9 0))), (8, .sc ((.ptr b29 0)))] ∧ ChM S0 S39 ∧ Bw S39 4 (.ptr b9 0) [.nils, .nils] ∧ Bw S39 5 (.ptr b29 0) [v40, v41] ∧ Ow Y3 S39 6 v40 b.1 ∧ Ow Y3 S39 7 v41 b.2) (by exact ⟨S30, .nils, .nils, rfl, rfl, (Cov.cons rfl (Cov.cons rfl (Cov.cons rfl (Cov.cons rfl (Cov.cons rfl (Cov.cons rfl (Cov.cons rfl (Cov.nil _)))))))), hM, ho4, hot0_0, hot0_1, ho8, hot1_0, hot1_1, ho12, ho32, Ow.nil, Ow.nil⟩) ?_ ?_
      · clear h
        rintro s33 q _ _ _ ⟨S42, v43, v44, rfl, rfl, hc45, hM, ho4, hot0_0, hot0_1, ho8, hot1_0, hot1_1, ho12, ho32, ho32c0, ho32c1⟩ h
        unfold F15_l1 at h
        refine WC.cov hc45 ?_
        refine WC.seq ?_
        refine WC.region ?_
        refine WO.bin rfl rfl (by decide) (by decide) rfl ?_
        refine WO.nil ?_
        refine thenL_n ?_
        refine WC.seq ?_
        refine WC.cond rfl (fun q46 => ?_) (fun q46 => ?_)
        · have h := iteT q46 h
          refine WC.skip ?_
          refine thenL_n ?_
          refine WC.seq ?_
          refine WC.block ?_
          refine WC.seq ?_
          refine WC.region ?_
          refine WO.mv rfl ?_
          obtain ⟨x47, e48, h⟩ := bindS h
          refine WO.ixS rfl rfl hot0_0.slv (at?_lt e48) rfl ?_
          refine WO.ldF rfl hot0_0.ro (fun _ hi => hi) (at?_get e48) rfl rfl rfl ?_
          refine WO.asg rfl ?_
          refine WO.asg rfl ?_
          refine WO.nil ?_
          refine thenL_n ?_
          refine WC.seq ?_
          refine WC.region ?_
          refine WO.fldS (j := 0) (q := 0) rfl ho8.at0 ho8.ptr rfl rfl rfl (by decide) ?_
          refine WO.ldW rfl rfl ho8 rfl rfl ho8.lt rfl ?_
          refine WO.lenS rfl hot1_0.slv rfl ?_
          refine WO.mv rfl ?_
          refine WO.nil ?_
          refine thenL_n ?_
          refine WC.block ?_
          obtain ⟨b263, e264, h⟩ := bindS h
          refine WC.loopD e264 (fun s49 l' m' n' => ∃ S52 : Cx fl, ∃ v53 v54 : SV, S52.m = m' ∧ S52.n = n' ∧ Cov l' [(2, .sc ((.ptr b1 0))), (3, .sc ((.ptr b5 0))), (4, .sc ((.ptr b9 0))), (8, .sc ((.ptr b29 0))), (9, .sc (.int .i64 s33.1)), (10, .sc (.int .i64 x47)), (26, .sc vt0_0), (27, .sc (.int .i64 ((t0.1.length : Int)))), (28, .sc (.int .i64 s33.1)), (34, .sc vt1_0), (35, .sc (.int .i64 ((t1.1.length : Int)))), (36, .sc (.int .i64 s49.1))] ∧ ChM S0 S52 ∧ Bw S52 2 (.ptr b1 0) [vt0_0, vt0_1] ∧ Rd Y3 S52 vt0_0 t0.1 ∧ Rd Y3 S52 vt0_1 t0.2 ∧ Bw S52 3 (.ptr b5 0) [vt1_0, vt1_1] ∧ Rd Y3 S52 vt1_0 t1.1 ∧ Rd Y3 S52 vt1_1 t1.2 ∧ Bw S52 4 (.ptr b9 0) [.nils, .nils] ∧ Bw S52 5 (.ptr b29 0) [v53, v54] ∧ Ow Y3 S52 6 v53 s49.2.1 ∧ Ow Y3 S52 7 v54 s49.2.2) (fun b e l' m' n' => e = .exit 2 ∧ ∃ S55 : Cx fl, ∃ v56 v57 : SV, S55.m = m' ∧ S55.n = n' ∧ Cov l' [(2, .sc ((.ptr b1 0))), (3, .sc ((.ptr b5 0))), (4, .sc ((.ptr b9 0))), (8, .sc ((.ptr b29 0))), (26, .sc vt0_0), (27, .sc (.int .i64 ((t0.1.length : Int)))), (28, .sc (.int .i64 s33.1))] ∧ ChM S0 S55 ∧ Bw S55 2 (.ptr b1 0) [vt0_0, vt0_1] ∧ Rd Y3 S55 vt0_0 t0.1 ∧ Rd Y3 S55 vt0_1 t0.2 ∧ Bw S55 3 (.ptr b5 0) [vt1_0, vt1_1] ∧ Rd Y3 S55 vt1_0 t1.1 ∧ Rd Y3 S55 vt1_1 t1.2 ∧ Bw S55 4 (.ptr b9 0) [.nils, .nils] ∧ Bw S55 5 (.ptr b29 0) [v56, v57] ∧ Ow Y3 S55 6 v56 b.1 ∧ Ow Y3 S55 7 v57 b.2) (by exact ⟨S42, v43, v44, rfl, rfl, (Cov.cons rfl (Cov.cons rfl (Cov.cons rfl (Cov.cons rfl (Cov.cons rfl (Cov.cons rfl (Cov.cons rfl (Cov.cons rfl (Cov.cons rfl (Cov.cons rfl (Cov.cons rfl (Cov.cons rfl (Cov.nil _))))))))))))), hM, ho4, hot0_0, hot0_1, ho8, hot1_0, hot1_1, ho12, ho32, ho32c0, ho32c1⟩) ?_ ?_
          · clear h
            rintro s49 q _ _ _ ⟨S58, v59, v60, rfl, rfl, hc61, hM, ho4, hot0_0, hot0_1, ho8, hot1_0, hot1_1, ho12, ho32, ho32c0, ho32c1⟩ h
            unfold F15_l0 at h
            refine WC.cov hc61 ?_
            refine WC.seq ?_
            refine WC.region ?_
            refine WO.bin rfl rfl (by decide) (by decide) rfl ?_
            refine WO.nil ?_
            refine thenL_n ?_
            refine WC.seq ?_
            refine WC.cond rfl (fun q62 => ?_) (fun q62 => ?_)
            · have h := iteT q62 h
              refine WC.skip ?_
              refine thenL_n ?_
              refine WC.seq ?_
              refine WC.block ?_
              refine WC.seq ?_
              refine WC.region ?_
              refine WO.mv rfl ?_
              obtain ⟨x63, e64, h⟩ := bindS h
              refine WO.ixS rfl rfl hot1_0.slv (at?_lt e64) rfl ?_
              refine WO.ldF rfl hot1_0.ro (fun _ hi => hi) (at?_get e64) rfl rfl rfl ?_
              refine WO.asg rfl ?_
              refine WO.asg rfl ?_
              refine WO.nil ?_
              refine thenL_n ?_
              refine WC.drawDN rfl ?_
              have ho4z := ho4.lt
              have hot0_0z := hot0_0.oz
              have hot0_1z := hot0_1.oz
              have ho8z := ho8.lt
              have hot1_0z := hot1_0.oz
              have hot1_1z := hot1_1.oz
              have ho12z := ho12.lt
              have ho32z := ho32.lt
              have ho32c0z := ho32c0.oz
              have ho32c1z := ho32c1.oz
              have k65 := ho4.bko
              have k66 := hot0_0.bko
              have k67 := hot0_1.bko
              have k68 := ho8.bko
              have k69 := hot1_0.bko
              have k70 := hot1_1.bko
              have k71 := ho12.bko
              have k72 := ho32.bko
              have k73 := ho32c0.bko
              have k74 := ho32c1.bko
              refine WO.fldS (j := 0) (q := 0) rfl ho32.at0 ho32.ptr rfl rfl rfl (by decide) ?_
              refine WO.ldW rfl rfl ho32 rfl rfl ho32z (limLe_self _) ?_
              refine WO.mv rfl ?_
              refine WO.mv rfl ?_
              refine WO.bin rfl rfl (by decide) (by decide) rfl ?_
              refine WO.bsD (A := Y3) (S := S58) (M := [(wrapA .i64 (x47 + x63))]) (cs := [.int .i64 ((wrapA .i64 (x47 + x63)))]) 8 rfl rfl rfl ⟨[.int .i64 ((wrapA .i64 (x47 + x63)))], _, rfl, rfl, rfl⟩ rfl (fun v75 S76 ge79 c77 ho78 => ?_)
              have hot0_0z := hot0_0z.toz c77
              have hot0_1z := hot0_1z.toz c77
              have hot1_0z := hot1_0z.toz c77
              have hot1_1z := hot1_1z.toz c77
              have ho32c0z := ho32c0z.tow c77
              have ho32c1z := ho32c1z.tow c77
              have hM := hM.to c77
              have ho4 := ho4.to c77
              have hot0_0 := hot0_0.to c77
              have hot0_1 := hot0_1.to c77
              have ho8 := ho8.to c77
              have hot1_0 := hot1_0.to c77
              have hot1_1 := hot1_1.to c77
              have ho12 := ho12.to c77
              have ho32 := ho32.to c77
              have ho32c0 := ho32c0.to c77
              have ho32c1 := ho32c1.to c77
              have n80 := c77.n
              have k81 := ho4.bko
              have k82 := hot0_0.bko
              have k83 := hot0_1.bko
              have k84 := ho8.bko
              have k85 := hot1_0.bko
              have k86 := hot1_1.bko
              have k87 := ho12.bko
              have k88 := ho32.bko
              have k89 := ho32c0.bko
              have k90 := ho32c1.bko
              have k91 := ho78.bko
              obtain ⟨L92, e93, h⟩ := bindS h
              refine WO.appS rfl rfl ho32c0 ho78.ro e93 rfl rfl (fun v94 S95 c96 ho97 => ?_)
              have hot0_0z := hot0_0z.toz c96
              have hot0_1z := hot0_1z.toz c96
              have hot1_0z := hot1_0z.toz c96
              have hot1_1z := hot1_1z.toz c96
              have ho32c1z := ho32c1z.tow c96
              have hM := hM.to c96
              have ho4 := ho4.to c96
              have hot0_0 := hot0_0.to c96
              have hot0_1 := hot0_1.to c96
              have ho8 := ho8.to c96
              have hot1_0 := hot1_0.to c96
              have hot1_1 := hot1_1.to c96
              have ho12 := ho12.to c96
              have ho32 := ho32.to c96
              have ho32c1 := ho32c1.to c96
              have ho78 := ho78.to c96
              have n98 := c96.n
              have k99 := ho4.bko
              have k100 := hot0_0.bko
              have k101 := hot0_1.bko
              have k102 := ho8.bko
              have k103 := hot1_0.bko
              have k104 := hot1_1.bko
              have k105 := ho12.bko
              have k106 := ho32.bko
              have k107 := ho32c1.bko
              have k108 := ho78.bko
              have k109 := ho97.bko
              refine WO.fldS (j := 0) (q := 0) rfl ho32.at0 ho32.ptr rfl rfl rfl (by decide) ?_
              refine WO.ldW rfl rfl ho32 rfl rfl ho32z (limLe_self _) ?_
              refine WO.fldS (j := 0) (q := 0) rfl ho4.at0 ho4.ptr rfl rfl rfl (by decide) ?_
              refine WO.ldW rfl rfl ho4 rfl rfl ho4z (limLe_self _) ?_
              refine WO.mv rfl ?_
              obtain ⟨x110, e111, h⟩ := bindS h
              refine WO.ixS rfl rfl hot0_1.slv (at?_lt e111) rfl ?_
              refine WO.ldF rfl hot0_1z (fun _ hi => hi.1) (at?_get e111) rfl rfl (limLe_self _) ?_
              refine WO.fldS (j := 0) (q := 0) rfl ho8.at0 ho8.ptr rfl rfl rfl (by decide) ?_
              refine WO.ldW rfl rfl ho8 rfl rfl ho8z (limLe_self _) ?_
              refine WO.mv rfl ?_
              obtain ⟨x112, e113, h⟩ := bindS h
              refine WO.ixS rfl rfl hot1_1.slv (at?_lt e113) rfl ?_
              refine WO.ldF rfl hot1_1z (fun _ hi => hi.1) (at?_get e113) rfl rfl (limLe_self _) ?_
              refine WO.bin rfl rfl (by decide) (by decide) rfl ?_
              refine WO.bsD (A := Y3) (S := S95) (M := [(wrapA .i64 (x110 * x112))]) (cs := [.int .i64 ((wrapA .i64 (x110 * x112)))]) 9 rfl rfl rfl ⟨[.int .i64 ((wrapA .i64 (x110 * x112)))], _, rfl, rfl, rfl⟩ rfl (fun v114 S115 ge118 c116 ho117 => ?_)
              have hot0_0z := hot0_0z.toz c116
              have hot0_1z := hot0_1z.toz c116
              have hot1_0z := hot1_0z.toz c116
              have hot1_1z := hot1_1z.toz c116
              have ho32c1z := ho32c1z.tow c116
              have hM := hM.to c116
              have ho4 := ho4.to c116
              have hot0_0 := hot0_0.to c116
              have hot0_1 := hot0_1.to c116
              have ho8 := ho8.to c116
              have hot1_0 := hot1_0.to c116
              have hot1_1 := hot1_1.to c116
              have ho12 := ho12.to c116
              have ho32 := ho32.to c116
              have ho32c1 := ho32c1.to c116
              have ho78 := ho78.to c116
              have ho97 := ho97.to c116
              have n119 := c116.n
              have k120 := ho4.bko
              have k121 := hot0_0.bko
              have k122 := hot0_1.bko
              have k123 := ho8.bko
              have k124 := hot1_0.bko
              have k125 := hot1_1.bko
              have k126 := ho12.bko
              have k127 := ho32.bko
              have k128 := ho32c1.bko
              have k129 := ho78.bko
              have k130 := ho97.bko
              have k131 := ho117.bko
              obtain ⟨L132, e133, h⟩ := bindS h
              refine WO.appS rfl rfl ho32c1 ho117.ro e133 rfl rfl (fun v134 S135 c136 ho137 => ?_)
              have hot0_0z := hot0_0z.toz c136
              have hot0_1z := hot0_1z.toz c136
              have hot1_0z := hot1_0z.toz c136
              have hot1_1z := hot1_1z.toz c136
              have hM := hM.to c136
              have ho4 := ho4.to c136
              have hot0_0 := hot0_0.to c136
              have hot0_1 := hot0_1.to c136
              have ho8 := ho8.to c136
              have hot1_0 := hot1_0.to c136
              have hot1_1 := hot1_1.to c136
              have ho12 := ho12.to c136
              have ho32 := ho32.to c136
              have ho78 := ho78.to c136
              have ho97 := ho97.to c136
              have ho117 := ho117.to c136
              have n138 := c136.n
              have k139 := ho4.bko
              have k140 := hot0_0.bko
              have k141 := hot0_1.bko
              have k142 := ho8.bko
              have k143 := hot1_0.bko
              have k144 := hot1_1.bko
              have k145 := ho12.bko
              have k146 := ho32.bko
              have k147 := ho78.bko
              have k148 := ho97.bko
              have k149 := ho117.bko
              have k150 := ho137.bko
              refine WO.fldS (j := 0) (q := 0) rfl ho32.at0 ho32.ptr rfl rfl rfl (by decide) ?_
              refine WO.stW (S := S135) (r := [v94, v60]) rfl rfl rfl rfl ho32 rfl rfl rfl rfl rfl (fun S151 c152 ho32 => ?_)
              have hot0_0z := hot0_0z.toz c152
              have hot0_1z := hot0_1z.toz c152
              have hot1_0z := hot1_0z.toz c152
              have hot1_1z := hot1_1z.toz c152
              have hM := hM.to c152
              have ho4 := ho4.to c152
              have hot0_0 := hot0_0.to c152
              have hot0_1 := hot0_1.to c152
              have ho8 := ho8.to c152
              have hot1_0 := hot1_0.to c152
              have hot1_1 := hot1_1.to c152
              have ho12 := ho12.to c152
              have ho78 := ho78.to c152
              have ho97 := ho97.to c152
              have ho117 := ho117.to c152
              have ho137 := ho137.to c152
              have n153 := c152.n
              have k154 := ho4.bko
              have k155 := hot0_0.bko
              have k156 := hot0_1.bko
              have k157 := ho8.bko
              have k158 := hot1_0.bko
              have k159 := hot1_1.bko
              have k160 := ho12.bko
              have k161 := ho32.bko
              have k162 := ho78.bko
              have k163 := ho97.bko
              have k164 := ho117.bko
              have k165 := ho137.bko
              refine WO.fldS (j := 0) (q := 0) rfl ho32.at0 ho32.ptr rfl rfl rfl (by decide) ?_
              refine WO.stW (S := S151) (r := [v94, v134]) rfl rfl rfl rfl ho32 rfl rfl rfl rfl rfl (fun S166 c167 ho32 => ?_)
              have hot0_0z := hot0_0z.toz c167
              have hot0_1z := hot0_1z.toz c167
              have hot1_0z := hot1_0z.toz c167
              have hot1_1z := hot1_1z.toz c167
              have hM := hM.to c167
              have ho4 := ho4.to c167
              have hot0_0 := hot0_0.to c167
              have hot0_1 := hot0_1.to c167
              have ho8 := ho8.to c167
              have hot1_0 := hot1_0.to c167
              have hot1_1 := hot1_1.to c167
              have ho12 := ho12.to c167
              have ho78 := ho78.to c167
              have ho97 := ho97.to c167
              have ho117 := ho117.to c167
              have ho137 := ho137.to c167
              have n168 := c167.n
              have k169 := ho4.bko
              have k170 := hot0_0.bko
              have k171 := hot0_1.bko
              have k172 := ho8.bko
              have k173 := hot1_0.bko
              have k174 := hot1_1.bko
              have k175 := ho12.bko
              have k176 := ho32.bko
              have k177 := ho78.bko
              have k178 := ho97.bko
              have k179 := ho117.bko
              have k180 := ho137.bko
              refine WO.nil ?_
              refine ⟨fun tt hs => dynOk_of [(6, 8), (6, 10), (6, 13), (6, 15), (6, 18), (6, 20)] (by kernel_rfl) ⟨?_, ?_, ?_, ?_, ?_, ?_, trivial⟩, ?_⟩
              · show djT tt _ _ = true
                have nb181 := k65.nb k66
                have nb182 := k65.nb k67
                have nb183 := k65.nb k68
                have nb184 := k65.nb k69
                have nb185 := k65.nb k70
                have nb186 := k65.nb k71
                have nb187 := k65.nb k72
                have nb188 := k65.nb k73
                have nb189 := k65.nb k74
                have nb190 := k81.nb k91
                have nb191 := k99.nb k109
                have nb192 := k120.nb k131
                have nb193 := k139.nb k150
                have nb194 := k66.nb k68
                have nb195 := k66.nb k71
                have nb196 := k66.nb k72
                have nb197 := k66.nb k73
                have nb198 := k66.nb k74
                have nb199 := k82.nb k91
                have nb200 := k100.nb k109
                have nb201 := k121.nb k131
                have nb202 := k140.nb k150
                have nb203 := k67.nb k68
                have nb204 := k67.nb k71
                have nb205 := k67.nb k72
                have nb206 := k67.nb k73
                have nb207 := k67.nb k74
                have nb208 := k83.nb k91
                have nb209 := k101.nb k109
                have nb210 := k122.nb k131
                have nb211 := k141.nb k150
                have nb212 := k68.nb k69
                have nb213 := k68.nb k70
                have nb214 := k68.nb k71
                have nb215 := k68.nb k72
                have nb216 := k68.nb k73
                have nb217 := k68.nb k74
                have nb218 := k84.nb k91
                have nb219 := k102.nb k109
                have nb220 := k123.nb k131
                have nb221 := k142.nb k150
                have nb222 := k69.nb k71
                have nb223 := k69.nb k72
                have nb224 := k69.nb k73
                have nb225 := k69.nb k74
                have nb226 := k85.nb k91
                have nb227 := k103.nb k109
                have nb228 := k124.nb k131
                have nb229 := k143.nb k150
                have nb230 := k70.nb k71
                have nb231 := k70.nb k72
                have nb232 := k70.nb k73
                have nb233 := k70.nb k74
                have nb234 := k86.nb k91
                have nb235 := k104.nb k109
                have nb236 := k125.nb k131
                have nb237 := k144.nb k150
                have nb238 := k71.nb k72
                have nb239 := k71.nb k73
                have nb240 := k71.nb k74
                have nb241 := k87.nb k91
                have nb242 := k105.nb k109
                have nb243 := k126.nb k131
                have nb244 := k145.nb k150
                have nb245 := k72.nb k73
                have nb246 := k72.nb k74
                have nb247 := k88.nb k91
                have nb248 := k106.nb k109
                have nb249 := k127.nb k131
                have nb250 := k146.nb k150
                have nb251 := k73.nb k74
                have nb252 := k89.nb k91
                have nb253 := k73.ge ge118 (by omega)
                have nb254 := k90.nb k91
                have nb255 := k107.nb k109
                have nb256 := k128.nb k131
                have nb257 := k108.nb k109
                have nb258 := k129.nb k131
                have nb259 := k147.nb k150
                have nb260 := k130.nb k131
                have nb261 := k148.nb k150
                have nb262 := k149.nb k150
                refine djT_of hs rfl rfl rfl rfl rfl ?_ ?_ ?_ <;> simp only [NBs, NB1, and_true, true_and] <;> (repeat' apply And.intro) <;> (first | assumption | (apply NB.symm; assumption) | exact NB.none rfl | exact NB.noneR rfl | (apply NB.pt; first | assumption | (apply NB.symm; assumption)) | (apply NB.symm; apply NB.pt; first | assumption | (apply NB.symm; assumption) | (apply NB.symm; apply NB.pt; first | assumption | (apply NB.symm; assumption))))
              · show djT tt _ _ = true
                have nb181 := k65.nb k66
                have nb182 := k65.nb k67
                have nb183 := k65.nb k68
                have nb184 := k65.nb k69
                have nb185 := k65.nb k70
                have nb186 := k65.nb k71
                have nb187 := k65.nb k72
                have nb188 := k65.nb k73
                have nb189 := k65.nb k74
                have nb190 := k81.nb k91
                have nb191 := k99.nb k109
                have nb192 := k120.nb k131
                have nb193 := k139.nb k150
                have nb194 := k66.nb k68
                have nb195 := k66.nb k71
                have nb196 := k66.nb k72
                have nb197 := k66.nb k73
                have nb198 := k66.nb k74
                have nb199 := k82.nb k91
                have nb200 := k100.nb k109
                have nb201 := k121.nb k131
                have nb202 := k140.nb k150
                have nb203 := k67.nb k68
                have nb204 := k67.nb k71
                have nb205 := k67.nb k72
                have nb206 := k67.nb k73
                have nb207 := k67.nb k74
                have nb208 := k83.nb k91
                have nb209 := k101.nb k109
                have nb210 := k122.nb k131
                have nb211 := k141.nb k150
                have nb212 := k68.nb k69
                have nb213 := k68.nb k70
                have nb214 := k68.nb k71
                have nb215 := k68.nb k72
                have nb216 := k68.nb k73
                have nb217 := k68.nb k74
                have nb218 := k84.nb k91
                have nb219 := k102.nb k109
                have nb220 := k123.nb k131
                have nb221 := k142.nb k150
                have nb222 := k69.nb k71
                have nb223 := k69.nb k72
                have nb224 := k69.nb k73
                have nb225 := k69.nb k74
                have nb226 := k85.nb k91
                have nb227 := k103.nb k109
                have nb228 := k124.nb k131
                have nb229 := k143.nb k150
                have nb230 := k70.nb k71
                have nb231 := k70.nb k72
                have nb232 := k70.nb k73
                have nb233 := k70.nb k74
                have nb234 := k86.nb k91
                have nb235 := k104.nb k109
                have nb236 := k125.nb k131
                have nb237 := k144.nb k150
                have nb238 := k71.nb k72
                have nb239 := k71.nb k73
                have nb240 := k71.nb k74
                have nb241 := k87.nb k91
                have nb242 := k105.nb k109
                have nb243 := k126.nb k131
                have nb244 := k145.nb k150
                have nb245 := k72.nb k73
                have nb246 := k72.nb k74
                have nb247 := k88.nb k91
                have nb248 := k106.nb k109
                have nb249 := k127.nb k131
                have nb250 := k146.nb k150
                have nb251 := k73.nb k74
                have nb252 := k89.nb k91
                have nb253 := k73.ge ge118 (by omega)
                have nb254 := k90.nb k91
                have nb255 := k107.nb k109
                have nb256 := k128.nb k131
                have nb257 := k108.nb k109
                have nb258 := k129.nb k131
                have nb259 := k147.nb k150
                have nb260 := k130.nb k131
                have nb261 := k148.nb k150
                have nb262 := k149.nb k150
                refine djT_of hs rfl rfl rfl rfl rfl ?_ ?_ ?_ <;> simp only [NBs, NB1, and_true, true_and] <;> (repeat' apply And.intro) <;> (first | assumption | (apply NB.symm; assumption) | exact NB.none rfl | exact NB.noneR rfl | (apply NB.pt; first | assumption | (apply NB.symm; assumption)) | (apply NB.symm; apply NB.pt; first | assumption | (apply NB.symm; assumption) | (apply NB.symm; apply NB.pt; first | assumption | (apply NB.symm; assumption))))
              · show djT tt _ _ = true
                have nb181 := k65.nb k66
                have nb182 := k65.nb k67
                have nb183 := k65.nb k68
                have nb184 := k65.nb k69
                have nb185 := k65.nb k70
                have nb186 := k65.nb k71
                have nb187 := k65.nb k72
                have nb188 := k65.nb k73
                have nb189 := k65.nb k74
                have nb190 := k81.nb k91
                have nb191 := k99.nb k109
                have nb192 := k120.nb k131
                have nb193 := k139.nb k150
                have nb194 := k66.nb k68
                have nb195 := k66.nb k71
                have nb196 := k66.nb k72
                have nb197 := k66.nb k73
                have nb198 := k66.nb k74
                have nb199 := k82.nb k91
                have nb200 := k100.nb k109
                have nb201 := k121.nb k131
                have nb202 := k140.nb k150
                have nb203 := k67.nb k68
                have nb204 := k67.nb k71
                have nb205 := k67.nb k72
                have nb206 := k67.nb k73
                have nb207 := k67.nb k74
                have nb208 := k83.nb k91
                have nb209 := k101.nb k109
                have nb210 := k122.nb k131
                have nb211 := k141.nb k150
                have nb212 := k68.nb k69
                have nb213 := k68.nb k70
                have nb214 := k68.nb k71
                have nb215 := k68.nb k72
                have nb216 := k68.nb k73
                have nb217 := k68.nb k74
                have nb218 := k84.nb k91
                have nb219 := k102.nb k109
                have nb220 := k123.nb k131
                have nb221 := k142.nb k150
                have nb222 := k69.nb k71
                have nb223 := k69.nb k72
                have nb224 := k69.nb k73
                have nb225 := k69.nb k74
                have nb226 := k85.nb k91
                have nb227 := k103.nb k109
                have nb228 := k124.nb k131
                have nb229 := k143.nb k150
                have nb230 := k70.nb k71
                have nb231 := k70.nb k72
                have nb232 := k70.nb k73
                have nb233 := k70.nb k74
                have nb234 := k86.nb k91
                have nb235 := k104.nb k109
                have nb236 := k125.nb k131
                have nb237 := k144.nb k150
                have nb238 := k71.nb k72
                have nb239 := k71.nb k73
                have nb240 := k71.nb k74
                have nb241 := k87.nb k91
                have nb242 := k105.nb k109
                have nb243 := k126.nb k131
                have nb244 := k145.nb k150
                have nb245 := k72.nb k73
                have nb246 := k72.nb k74
                have nb247 := k88.nb k91
                have nb248 := k106.nb k109
                have nb249 := k127.nb k131
                have nb250 := k146.nb k150
                have nb251 := k73.nb k74
                have nb252 := k89.nb k91
                have nb253 := k73.ge ge118 (by omega)
                have nb254 := k90.nb k91
                have nb255 := k107.nb k109
                have nb256 := k128.nb k131
                have nb257 := k108.nb k109
                have nb258 := k129.nb k131
                have nb259 := k147.nb k150
                have nb260 := k130.nb k131
                have nb261 := k148.nb k150
                have nb262 := k149.nb k150
                refine djT_of hs rfl rfl rfl rfl rfl ?_ ?_ ?_ <;> simp only [NBs, NB1, and_true, true_and] <;> (repeat' apply And.intro) <;> (first | assumption | (apply NB.symm; assumption) | exact NB.none rfl | exact NB.noneR rfl | (apply NB.pt; first | assumption | (apply NB.symm; assumption)) | (apply NB.symm; apply NB.pt; first | assumption | (apply NB.symm; assumption) | (apply NB.symm; apply NB.pt; first | assumption | (apply NB.symm; assumption))))
              · show djT tt _ _ = true
                have nb181 := k65.nb k66
                have nb182 := k65.nb k67
                have nb183 := k65.nb k68
                have nb184 := k65.nb k69
                have nb185 := k65.nb k70
                have nb186 := k65.nb k71
                have nb187 := k65.nb k72
                have nb188 := k65.nb k73
                have nb189 := k65.nb k74
                have nb190 := k81.nb k91
                have nb191 := k99.nb k109
                have nb192 := k120.nb k131
                have nb193 := k139.nb k150
                have nb194 := k66.nb k68
                have nb195 := k66.nb k71
                have nb196 := k66.nb k72
                have nb197 := k66.nb k73
                have nb198 := k66.nb k74
                have nb199 := k82.nb k91
                have nb200 := k100.nb k109
                have nb201 := k121.nb k131
                have nb202 := k140.nb k150
                have nb203 := k67.nb k68
                have nb204 := k67.nb k71
                have nb205 := k67.nb k72
                have nb206 := k67.nb k73
                have nb207 := k67.nb k74
                have nb208 := k83.nb k91
                have nb209 := k101.nb k109
                have nb210 := k122.nb k131
                have nb211 := k141.nb k150
                have nb212 := k68.nb k69
                have nb213 := k68.nb k70
                have nb214 := k68.nb k71
                have nb215 := k68.nb k72
                have nb216 := k68.nb k73
                have nb217 := k68.nb k74
                have nb218 := k84.nb k91
                have nb219 := k102.nb k109
                have nb220 := k123.nb k131
                have nb221 := k142.nb k150
                have nb222 := k69.nb k71
                have nb223 := k69.nb k72
                have nb224 := k69.nb k73
                have nb225 := k69.nb k74
                have nb226 := k85.nb k91
                have nb227 := k103.nb k109
                have nb228 := k124.nb k131
                have nb229 := k143.nb k150
                have nb230 := k70.nb k71
                have nb231 := k70.nb k72
                have nb232 := k70.nb k73
                have nb233 := k70.nb k74
                have nb234 := k86.nb k91
                have nb235 := k104.nb k109
                have nb236 := k125.nb k131
                have nb237 := k144.nb k150
                have nb238 := k71.nb k72
                have nb239 := k71.nb k73
                have nb240 := k71.nb k74
                have nb241 := k87.nb k91
                have nb242 := k105.nb k109
                have nb243 := k126.nb k131
                have nb244 := k145.nb k150
                have nb245 := k72.nb k73
                have nb246 := k72.nb k74
                have nb247 := k88.nb k91
                have nb248 := k106.nb k109
                have nb249 := k127.nb k131
                have nb250 := k146.nb k150
                have nb251 := k73.nb k74
                have nb252 := k89.nb k91
                have nb253 := k73.ge ge118 (by omega)
                have nb254 := k90.nb k91
                have nb255 := k107.nb k109
                have nb256 := k128.nb k131
                have nb257 := k108.nb k109
                have nb258 := k129.nb k131
                have nb259 := k147.nb k150
                have nb260 := k130.nb k131
                have nb261 := k148.nb k150
                have nb262 := k149.nb k150
                refine djT_of hs rfl rfl rfl rfl rfl ?_ ?_ ?_ <;> simp only [NBs, NB1, and_true, true_and] <;> (repeat' apply And.intro) <;> (first | assumption | (apply NB.symm; assumption) | exact NB.none rfl | exact NB.noneR rfl | (apply NB.pt; first | assumption | (apply NB.symm; assumption)) | (apply NB.symm; apply NB.pt; first | assumption | (apply NB.symm; assumption) | (apply NB.symm; apply NB.pt; first | assumption | (apply NB.symm; assumption))))
              · show djT tt _ _ = true
                have nb181 := k65.nb k66
                have nb182 := k65.nb k67
                have nb183 := k65.nb k68
                have nb184 := k65.nb k69
                have nb185 := k65.nb k70
                have nb186 := k65.nb k71
                have nb187 := k65.nb k72
                have nb188 := k65.nb k73
                have nb189 := k65.nb k74
                have nb190 := k81.nb k91
                have nb191 := k99.nb k109
                have nb192 := k120.nb k131
                have nb193 := k139.nb k150
                have nb194 := k66.nb k68
                have nb195 := k66.nb k71
                have nb196 := k66.nb k72
                have nb197 := k66.nb k73
                have nb198 := k66.nb k74
                have nb199 := k82.nb k91
                have nb200 := k100.nb k109
                have nb201 := k121.nb k131
                have nb202 := k140.nb k150
                have nb203 := k67.nb k68
                have nb204 := k67.nb k71
                have nb205 := k67.nb k72
                have nb206 := k67.nb k73
                have nb207 := k67.nb k74
                have nb208 := k83.nb k91
                have nb209 := k101.nb k109
                have nb210 := k122.nb k131
                have nb211 := k141.nb k150
                have nb212 := k68.nb k69
                have nb213 := k68.nb k70
                have nb214 := k68.nb k71
                have nb215 := k68.nb k72
                have nb216 := k68.nb k73
                have nb217 := k68.nb k74
                have nb218 := k84.nb k91
                have nb219 := k102.nb k109
                have nb220 := k123.nb k131
                have nb221 := k142.nb k150
                have nb222 := k69.nb k71
                have nb223 := k69.nb k72
                have nb224 := k69.nb k73
                have nb225 := k69.nb k74
                have nb226 := k85.nb k91
                have nb227 := k103.nb k109
                have nb228 := k124.nb k131
                have nb229 := k143.nb k150
                have nb230 := k70.nb k71
                have nb231 := k70.nb k72
                have nb232 := k70.nb k73
                have nb233 := k70.nb k74
                have nb234 := k86.nb k91
                have nb235 := k104.nb k109
                have nb236 := k125.nb k131
                have nb237 := k144.nb k150
                have nb238 := k71.nb k72
                have nb239 := k71.nb k73
                have nb240 := k71.nb k74
                have nb241 := k87.nb k91
                have nb242 := k105.nb k109
                have nb243 := k126.nb k131
                have nb244 := k145.nb k150
                have nb245 := k72.nb k73
                have nb246 := k72.nb k74
                have nb247 := k88.nb k91
                have nb248 := k106.nb k109
                have nb249 := k127.nb k131
                have nb250 := k146.nb k150
                have nb251 := k73.nb k74
                have nb252 := k89.nb k91
                have nb253 := k73.ge ge118 (by omega)
                have nb254 := k90.nb k91
                have nb255 := k107.nb k109
                have nb256 := k128.nb k131
                have nb257 := k108.nb k109
                have nb258 := k129.nb k131
                have nb259 := k147.nb k150
                have nb260 := k130.nb k131
                have nb261 := k148.nb k150
                have nb262 := k149.nb k150
                refine djT_of hs rfl rfl rfl rfl rfl ?_ ?_ ?_ <;> simp only [NBs, NB1, and_true, true_and] <;> (repeat' apply And.intro) <;> (first | assumption | (apply NB.symm; assumption) | exact NB.none rfl | exact NB.noneR rfl | (apply NB.pt; first | assumption | (apply NB.symm; assumption)) | (apply NB.symm; apply NB.pt; first | assumption | (apply NB.symm; assumption) | (apply NB.symm; apply NB.pt; first | assumption | (apply NB.symm; assumption))))
              · show djT tt _ _ = true
                have nb181 := k65.nb k66
                have nb182 := k65.nb k67
                have nb183 := k65.nb k68
                have nb184 := k65.nb k69
                have nb185 := k65.nb k70
                have nb186 := k65.nb k71
                have nb187 := k65.nb k72
                have nb188 := k65.nb k73
                have nb189 := k65.nb k74
                have nb190 := k81.nb k91
                have nb191 := k99.nb k109
                have nb192 := k120.nb k131
                have nb193 := k139.nb k150
                have nb194 := k66.nb k68
                have nb195 := k66.nb k71
                have nb196 := k66.nb k72
                have nb197 := k66.nb k73
                have nb198 := k66.nb k74
                have nb199 := k82.nb k91
                have nb200 := k100.nb k109
                have nb201 := k121.nb k131
                have nb202 := k140.nb k150
                have nb203 := k67.nb k68
                have nb204 := k67.nb k71
                have nb205 := k67.nb k72
                have nb206 := k67.nb k73
                have nb207 := k67.nb k74
                have nb208 := k83.nb k91
                have nb209 := k101.nb k109
                have nb210 := k122.nb k131
                have nb211 := k141.nb k150
                have nb212 := k68.nb k69
                have nb213 := k68.nb k70
                have nb214 := k68.nb k71
                have nb215 := k68.nb k72
                have nb216 := k68.nb k73
                have nb217 := k68.nb k74
                have nb218 := k84.nb k91
                have nb219 := k102.nb k109
                have nb220 := k123.nb k131
                have nb221 := k142.nb k150
                have nb222 := k69.nb k71
                have nb223 := k69.nb k72
                have nb224 := k69.nb k73
                have nb225 := k69.nb k74
                have nb226 := k85.nb k91
                have nb227 := k103.nb k109
                have nb228 := k124.nb k131
                have nb229 := k143.nb k150
                have nb230 := k70.nb k71
                have nb231 := k70.nb k72
                have nb232 := k70.nb k73
                have nb233 := k70.nb k74
                have nb234 := k86.nb k91
                have nb235 := k104.nb k109
                have nb236 := k125.nb k131
                have nb237 := k144.nb k150
                have nb238 := k71.nb k72
                have nb239 := k71.nb k73
                have nb240 := k71.nb k74
                have nb241 := k87.nb k91
                have nb242 := k105.nb k109
                have nb243 := k126.nb k131
                have nb244 := k145.nb k150
                have nb245 := k72.nb k73
                have nb246 := k72.nb k74
                have nb247 := k88.nb k91
                have nb248 := k106.nb k109
                have nb249 := k127.nb k131
                have nb250 := k146.nb k150
                have nb251 := k73.nb k74
                have nb252 := k89.nb k91
                have nb253 := k73.ge ge118 (by omega)
                have nb254 := k90.nb k91
                have nb255 := k107.nb k109
                have nb256 := k128.nb k131
                have nb257 := k108.nb k109
                have nb258 := k129.nb k131
                have nb259 := k147.nb k150
                have nb260 := k130.nb k131
                have nb261 := k148.nb k150
                have nb262 := k149.nb k150
                refine djT_of hs rfl rfl rfl rfl rfl ?_ ?_ ?_ <;> simp only [NBs, NB1, and_true, true_and] <;> (repeat' apply And.intro) <;> (first | assumption | (apply NB.symm; assumption) | exact NB.none rfl | exact NB.noneR rfl | (apply NB.pt; first | assumption | (apply NB.symm; assumption)) | (apply NB.symm; apply NB.pt; first | assumption | (apply NB.symm; assumption) | (apply NB.symm; apply NB.pt; first | assumption | (apply NB.symm; assumption))))
              clear k65 k66 k67 k68 k69 k70 k71 k72 k73 k74 k81 k82 k83 k84 k85 k86 k87 k88 k89 k90 k91 k99 k100 k101 k102 k103 k104 k105 k106 k107 k108 k109 k120 k121 k122 k123 k124 k125 k126 k127 k128 k129 k130 k131 k139 k140 k141 k142 k143 k144 k145 k146 k147 k148 k149 k150 k154 k155 k156 k157 k158 k159 k160 k161 k162 k163 k164 k165 k169 k170 k171 k172 k173 k174 k175 k176 k177 k178 k179 k180 ge79 ge118 n80 n98 n119 n138 n153 n168
              refine blockL_n ?_
              refine thenL_n ?_
              refine WC.region ?_
              refine WO.bin rfl rfl (by decide) (by decide) rfl ?_
              refine WO.mv rfl ?_
              refine WO.nil ?_
              refine thenL_n ?_
              obtain rfl := someI h
              exact ⟨_, rfl, ⟨S166, v94, v134, rfl, rfl, (Cov.cons rfl (Cov.cons rfl (Cov.cons rfl (Cov.cons rfl (Cov.cons rfl (Cov.cons rfl (Cov.cons rfl (Cov.cons rfl (Cov.cons rfl (Cov.cons rfl (Cov.cons rfl (Cov.cons rfl (Cov.nil _))))))))))))), hM, ho4, hot0_0, hot0_1, ho8, hot1_0, hot1_1, ho12, ho32, ho97, ho137⟩⟩
            · have h := iteF q62 h
              refine WC.exit ?_
              refine thenL_e ?_
              refine thenL_e ?_
              obtain rfl := someI h
              exact ⟨_, rfl, rfl, ⟨S58, v59, v60, rfl, rfl, (Cov.cons rfl (Cov.cons rfl (Cov.cons rfl (Cov.cons rfl (Cov.cons rfl (Cov.cons rfl (Cov.cons rfl (Cov.nil _)))))))), hM, ho4, hot0_0, hot0_1, ho8, hot1_0, hot1_1, ho12, ho32, ho32c0, ho32c1⟩⟩
          rintro _ _ _ _ ⟨rfl, ⟨S265, v266, v267, rfl, rfl, hc268, hM, ho4, hot0_0, hot0_1, ho8, hot1_0, hot1_1, ho12, ho32, ho32c0, ho32c1⟩⟩
          refine blockL_s ?_
          refine blockL_n ?_
          refine thenL_n ?_
          refine WC.cov hc268 ?_
          refine WC.region ?_
          refine WO.bin rfl rfl (by decide) (by decide) rfl ?_
          refine WO.mv rfl ?_
          refine WO.nil ?_
          refine thenL_n ?_
          obtain rfl := someI h
          exact ⟨_, rfl, ⟨S265, v266, v267, rfl, rfl, (Cov.cons rfl (Cov.cons rfl (Cov.cons rfl (Cov.cons rfl (Cov.cons rfl (Cov.cons rfl (Cov.cons rfl (Cov.nil _)))))))), hM, ho4, hot0_0, hot0_1, ho8, hot1_0, hot1_1, ho12, ho32, ho32c0, ho32c1⟩⟩
        · have h := iteF q46 h
          refine WC.exit ?_
          refine thenL_e ?_
          refine thenL_e ?_
          obtain rfl := someI h
          exact ⟨_, rfl, rfl, ⟨S42, v43, v44, rfl, rfl, (Cov.cons rfl (Cov.cons rfl (Cov.nil _))), hM, ho12, ho32, ho32c0, ho32c1⟩⟩
      rintro _ _ _ _ ⟨rfl, ⟨S271, v272, v273, rfl, rfl, hc274, hM, ho12, ho32, ho32c0, ho32c1⟩⟩
      refine blockL_s ?_
      refine thenL_n ?_
      refine WC.cov hc274 ?_
      refine WC.seq ?_
      refine WC.seq ?_
      refine WC.region ?_
      refine WO.ldWA (sz := 2) (r := [v272, v273]) rfl ho32.at0 ho32 rfl rfl rfl ho32.lt rfl ?_
      obtain ⟨r275, e276, h⟩ := bindS h
      refine WO.callE (S := S271) rfl rfl (F17_ok e276 ho32c0.vw ho32c1.vw) (fun S277 c278 => ?_)
      have hM := hM.to c278
      have ho12 := ho12.to c278
      have ho32 := ho32.to c278
      have ho32c0 := ho32c0.to c278
      have ho32c1 := ho32c1.to c278
      refine WO.bin rfl rfl (by decide) (by decide) rfl ?_
      refine WO.nil ?_
      refine thenL_n ?_
      refine WC.cond rfl (fun q279 => ?_) (fun q279 => ?_)
      · have h := iteT q279 h
        refine WC.seq ?_
        refine WC.region ?_
        refine WO.do rfl rfl ?_
        refine WO.stW (S := S277) (r := [.nils, .nils]) rfl ho12.at0 rfl rfl ho12 rfl rfl rfl rfl rfl (fun S280 c281 ho12 => ?_)
        have hM := hM.to c281
        have ho32 := ho32.to c281
        have ho32c0 := ho32c0.to c281
        have ho32c1 := ho32c1.to c281
        refine WO.asg rfl ?_
        refine WO.nil ?_
        refine thenL_n ?_
        refine WC.ret ?_
        refine thenL_r ?_
        have hcell282 := ho12
        obtain rfl := someI h
        exact ⟨.inr rfl, _, _, (resK_w (sz := 2) hcell282 (Cov.refl _) rfl rfl rfl (resK_t (Cov.refl _) rfl rfl)), rfl, ⟨S280, rfl, rfl, hM, .nils, .nils, rfl, Ow.nil, Ow.nil⟩⟩
      · have h := iteF q279 h
        refine WC.skip ?_
        refine thenL_n ?_
        refine WC.seq ?_
        refine WC.region ?_
        refine WO.ldWA (sz := 2) (r := [v272, v273]) rfl ho32.at0 ho32 rfl rfl rfl ho32.lt rfl ?_
        refine WO.stW (S := S277) (r := [v272, v273]) rfl ho12.at0 rfl rfl ho12 rfl rfl rfl rfl rfl (fun S283 c284 ho12 => ?_)
        have hM := hM.to c284
        have ho32 := ho32.to c284
        have ho32c0 := ho32c0.to c284
        have ho32c1 := ho32c1.to c284
        refine WO.asg rfl ?_
        refine WO.nil ?_
        refine thenL_n ?_
        refine WC.ret ?_
        have hcell285 := ho12
        have hM := hM.renO 6 902
        have ho32c0 := ho32c0.ren (j := 902)
        have ho32c1 := ho32c1.renO 6 902
        have hM := hM.renO 7 904
        have ho32c0 := ho32c0.renO 7 904
        have ho32c1 := ho32c1.ren (j := 904)
        obtain rfl := someI h
        exact ⟨.inr rfl, _, _, (resK_w (sz := 2) hcell285 (Cov.refl _) rfl rfl rfl (resK_t (Cov.refl _) rfl rfl)), rfl, ⟨((S283.ren 6 902).ren 7 904), rfl, rfl, hM, v272, v273, rfl, ho32c0, ho32c1⟩⟩
end Go.Proofs.Ytihmliblbhjlaaa

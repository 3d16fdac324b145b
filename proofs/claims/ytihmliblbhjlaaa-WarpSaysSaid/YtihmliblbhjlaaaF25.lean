/- The machine answers F25: printed by a program of ours (gen.py). -/
import Derived.Test.YtihmliblbhjlaaaDef
import Derived.Test.YtihmliblbhjlaaaEnv
import Derived.Test.YtihmliblbhjlaaaF100
import Derived.Test.YtihmliblbhjlaaaF98
import Derived.Test.YtihmliblbhjlaaaF99
set_option linter.unusedVariables false
namespace Go.Proofs.Ytihmliblbhjlaaa
open Go.Am
theorem F25.fn : E.fn 25 = some ⟨153, (Try.f25.body.getD .skip), Try.f25.results.toList, [24]⟩ := rfl
theorem F25_ok {F : Nat} {fl : Nat} {S0 : Cx fl} {r : (List Int) × (List Int)} {t0 : List (Int × Int × Bool × Bool)} {t1 : List (Int × Int × Int)} {t2 : Int} {vt0 : SV} {vt1 : SV} (h : F25 F t0 t1 t2 = some r) (hot0 : Rd Y115 S0 vt0 t0) (hot1 : Rd Y119 S0 vt1 t1) : Ret E fl 25 [.sc vt0, .sc vt1, .sc (.int .i64 t2)] S0.m S0.n (fun v m' n' => ∃ S' : Cx fl, S'.m = m' ∧ S'.n = n' ∧ ChM S0 S' ∧ (∃ w211 w212 : SV, v = .tup [.sc w211, .sc w212] ∧ Ow Y3 S' 902 w211 r.1 ∧ Ow Y3 S' 904 w212 r.2)) := by
  unfold F25 at h
  refine Ret.walk F25.fn ?_
  have hM := ChM.refl S0
  refine WC.seq ?_
  refine WC.region ?_
  refine WO.bxW (S := S0) (cs := [vt0]) 2 rfl rfl rfl (fun b1 S2 c3 ho4 => ?_)
  have hot0 := hot0.to c3
  have hot1 := hot1.to c3
  have hM := hM.to c3
  refine WO.asg rfl ?_
  refine WO.asg rfl ?_
  refine WO.nil ?_
  refine thenL_n ?_
  refine WC.seq ?_
  refine WC.region ?_
  refine WO.ldW rfl ho4.at0 ho4 rfl rfl ho4.lt rfl ?_
  obtain ⟨r5, e6, h⟩ := bindS h
  refine WO.callF (S := S2) 3 rfl rfl (F98_ok e6 hot0.vw) Lay.flat_fl (fun v7 S9 c10 ho8 => ?_)
  have hot0 := hot0.to c10
  have hot1 := hot1.to c10
  have hM := hM.to c10
  have ho4 := ho4.to c10
  refine WO.stW (S := S9) (r := [v7]) rfl ho4.at0 rfl rfl ho4 rfl rfl rfl rfl rfl (fun S11 c12 ho4 => ?_)
  have hot0 := hot0.to c12
  have hot1 := hot1.to c12
  have hM := hM.to c12
  have ho8 := ho8.to c12
  refine WO.nil ?_
  refine thenL_n ?_
  refine WC.seq ?_
  refine WC.region ?_
  refine WO.ldW rfl ho4.at0 ho4 rfl rfl ho4.lt rfl ?_
  refine WO.lenS rfl ho8.slv rfl ?_
  obtain ⟨L13, e14, h⟩ := bindS h
  refine WO.mkS (A := Y3) (S := S11) 4 rfl rfl e14 rfl rfl rfl (fun v15 S16 c17 ho18 => ?_)
  have hot0 := hot0.to c17
  have hot1 := hot1.to c17
  have hM := hM.to c17
  have ho4 := ho4.to c17
  have ho8 := ho8.to c17
  refine WO.alW (S := S16) (cs := [.nils]) 5 rfl rfl rfl (fun b19 S20 c21 ho22 => ?_)
  have hot0 := hot0.to c21
  have hot1 := hot1.to c21
  have hM := hM.to c21
  have ho4 := ho4.to c21
  have ho8 := ho8.to c21
  have ho18 := ho18.to c21
  refine WO.stW (S := S20) (r := [v15]) rfl ho22.at0 rfl rfl ho22 rfl rfl rfl rfl rfl (fun S23 c24 ho22 => ?_)
  have hot0 := hot0.to c24
  have hot1 := hot1.to c24
  have hM := hM.to c24
  have ho4 := ho4.to c24
  have ho8 := ho8.to c24
  have ho18 := ho18.to c24
  refine WO.nil ?_
  refine thenL_n ?_
  refine WC.seq ?_
  refine WC.region ?_
  refine WO.asg rfl ?_
  refine WO.nil ?_
  refine thenL_n ?_
  refine WC.seq ?_
  refine WC.seq ?_
  refine WC.region ?_
  refine WO.mv rfl ?_
  refine WO.mv rfl ?_
  refine WO.nil ?_
  refine thenL_n ?_
  refine WC.block ?_
  obtain ⟨b205, e206, h⟩ := bindS h
  refine WC.loopD e206 (fun s25 l' m' n' => ∃ S29 : Cx fl, ∃ v30 v31 v32 : SV, S29.m = m' ∧ S29.n = n' ∧ Cov l' [(1, .sc vt1), (3, .sc ((.ptr b1 0))), (8, .sc ((.ptr b19 0))), (9, .sc v30), (24, .sc (.int .i64 t2)), (25, .sc (.int .i64 s25.2.1))] ∧ ChM S0 S29 ∧ Rd Y119 S29 vt1 t1 ∧ Bw S29 2 (.ptr b1 0) [v31] ∧ Bw S29 5 (.ptr b19 0) [v32] ∧ Ow Y3 S29 6 v30 s25.1 ∧ Ow Y115 S29 3 v31 s25.2.2.1 ∧ Ow Y3 S29 4 v32 s25.2.2.2) (fun b e l' m' n' => e = .exit 0 ∧ ∃ S33 : Cx fl, ∃ v34 v35 : SV, S33.m = m' ∧ S33.n = n' ∧ Cov l' [(8, .sc ((.ptr b19 0))), (9, .sc v34)] ∧ ChM S0 S33 ∧ Bw S33 5 (.ptr b19 0) [v35] ∧ Ow Y3 S33 6 v34 b.1 ∧ Ow Y3 S33 4 v35 b.2) (by exact ⟨S23, .nils, v7, v15, rfl, rfl, (Cov.cons rfl (Cov.cons rfl (Cov.cons rfl (Cov.cons rfl (Cov.cons rfl (Cov.cons rfl (Cov.nil _))))))), hM, hot1, ho4, ho22, Ow.nil, ho8, ho18⟩) ?_ ?_
  · clear h
    rintro s25 q _ _ _ ⟨S36, v37, v38, v39, rfl, rfl, hc40, hM, hot1, ho4, ho22, ho9, ho4c0, ho22c0⟩ h
    unfold F25_l3 at h
    refine WC.cov hc40 ?_
    refine WC.seq ?_
    refine WC.region ?_
    refine WO.bin rfl rfl (by decide) (by decide) rfl ?_
    refine WO.nil ?_
    refine thenL_n ?_
    refine WC.seq ?_
    refine WC.cond rfl (fun q41 => ?_) (fun q41 => ?_)
    · have h := iteT q41 h
      refine WC.skip ?_
      refine thenL_n ?_
      refine WC.seq ?_
      refine WC.block ?_
      refine WC.seq ?_
      refine WC.region ?_
      refine WO.mv rfl ?_
      refine WO.asg rfl ?_
      refine WO.nil ?_
      refine thenL_n ?_
      refine WC.seq ?_
      refine WC.seq ?_
      refine WC.region ?_
      refine WO.mv rfl ?_
      refine WO.lenS rfl hot1.slv rfl ?_
      refine WO.mv rfl ?_
      refine WO.nil ?_
      refine thenL_n ?_
      refine WC.block ?_
      obtain ⟨b135, e136, h⟩ := bindS h
      refine WC.loopD e136 (fun s42 l' m' n' => ∃ S45 : Cx fl, ∃ v46 v47 : SV, S45.m = m' ∧ S45.n = n' ∧ Cov l' [(1, .sc vt1), (3, .sc ((.ptr b1 0))), (8, .sc ((.ptr b19 0))), (9, .sc v37), (10, .sc (.int .i64 s25.2.1)), (24, .sc (.int .i64 t2)), (25, .sc (.int .i64 s25.2.1)), (28, .sc vt1), (29, .sc (.int .i64 ((t1.length : Int)))), (30, .sc (.int .i64 s42.1))] ∧ ChM S0 S45 ∧ Rd Y119 S45 vt1 t1 ∧ Bw S45 2 (.ptr b1 0) [v46] ∧ Bw S45 5 (.ptr b19 0) [v47] ∧ Ow Y3 S45 6 v37 s25.1 ∧ Ow Y115 S45 3 v46 s42.2.1 ∧ Ow Y3 S45 4 v47 s42.2.2) (fun b e l' m' n' => e = .exit 2 ∧ ∃ S48 : Cx fl, ∃ v49 v50 : SV, S48.m = m' ∧ S48.n = n' ∧ Cov l' [(1, .sc vt1), (3, .sc ((.ptr b1 0))), (8, .sc ((.ptr b19 0))), (9, .sc v37), (24, .sc (.int .i64 t2)), (25, .sc (.int .i64 s25.2.1))] ∧ ChM S0 S48 ∧ Rd Y119 S48 vt1 t1 ∧ Bw S48 2 (.ptr b1 0) [v49] ∧ Bw S48 5 (.ptr b19 0) [v50] ∧ Ow Y3 S48 6 v37 s25.1 ∧ Ow Y115 S48 3 v49 b.1 ∧ Ow Y3 S48 4 v50 b.2) (by exact ⟨S36, v38, v39, rfl, rfl, (Cov.cons rfl (Cov.cons rfl (Cov.cons rfl (Cov.cons rfl (Cov.cons rfl (Cov.cons rfl (Cov.cons rfl (Cov.cons rfl (Cov.cons rfl (Cov.cons rfl (Cov.nil _))))))))))), hM, hot1, ho4, ho22, ho9, ho4c0, ho22c0⟩) ?_ ?_
      · clear h
        rintro s42 q _ _ _ ⟨S51, v52, v53, rfl, rfl, hc54, hM, hot1, ho4, ho22, ho9, ho4c0, ho22c0⟩ h
        unfold F25_l1 at h
        refine WC.cov hc54 ?_
        refine WC.seq ?_
        refine WC.region ?_
        refine WO.bin rfl rfl (by decide) (by decide) rfl ?_
        refine WO.nil ?_
        refine thenL_n ?_
        refine WC.seq ?_
        refine WC.cond rfl (fun q55 => ?_) (fun q55 => ?_)
        · have h := iteT q55 h
          refine WC.skip ?_
          refine thenL_n ?_
          refine WC.seq ?_
          refine WC.block ?_
          refine WC.seq ?_
          refine WC.region ?_
          obtain ⟨x56, e57, h⟩ := bindS h
          refine WO.ixS rfl rfl hot1.slv (at?_lt e57) rfl ?_
          refine WO.ldA rfl hot1.ro (fun _ hi => hi) (at?_get e57) rfl rfl ?_
          refine WO.alS (A := Y119) (S := S51) (z0 := (0, 0, 0)) 7 rfl rfl rfl (fun v58 S59 c60 ho61 => ?_)
          have hM := hM.to c60
          have hot1 := hot1.to c60
          have ho4 := ho4.to c60
          have ho22 := ho22.to c60
          have ho9 := ho9.to c60
          have ho4c0 := ho4c0.to c60
          have ho22c0 := ho22c0.to c60
          refine WO.stBA (u' := (x56.1, x56.2.1, x56.2.2)) rfl ho61.at0 rfl ho61 rfl rfl (fun S62 c63 ho61 => ?_)
          have hM := hM.to c63
          have hot1 := hot1.to c63
          have ho4 := ho4.to c63
          have ho22 := ho22.to c63
          have ho9 := ho9.to c63
          have ho4c0 := ho4c0.to c63
          have ho22c0 := ho22c0.to c63
          refine WO.nil ?_
          refine thenL_n ?_
          refine WC.seq ?_
          refine WC.seq ?_
          refine WC.region ?_
          refine WO.fldS (j := 0) (q := 0) rfl ho61.at0 ho61.ptr rfl rfl rfl (by decide) ?_
          refine WO.ldB (j := 0) (q := 0) rfl rfl ho61 rfl rfl rfl ?_
          refine WO.mv rfl ?_
          refine WO.bin rfl rfl (by decide) (by decide) rfl ?_
          refine WO.nil ?_
          refine thenL_n ?_
          refine WC.cond rfl (fun q64 => ?_) (fun q64 => ?_)
          · have h := iteT q64 h
            refine WC.exit ?_
            refine thenL_e ?_
            refine blockL_s ?_
            refine thenL_n ?_
            refine WC.region ?_
            refine WO.bin rfl rfl (by decide) (by decide) rfl ?_
            refine WO.mv rfl ?_
            refine WO.nil ?_
            refine thenL_n ?_
            obtain rfl := someI h
            exact ⟨_, rfl, ⟨S62, v52, v53, rfl, rfl, (Cov.cons rfl (Cov.cons rfl (Cov.cons rfl (Cov.cons rfl (Cov.cons rfl (Cov.cons rfl (Cov.cons rfl (Cov.cons rfl (Cov.cons rfl (Cov.cons rfl (Cov.nil _))))))))))), hM, hot1, ho4, ho22, ho9, ho4c0, ho22c0⟩⟩
          · have h := iteF q64 h
            refine WC.skip ?_
            refine thenL_n ?_
            refine WC.seq ?_
            refine WC.region ?_
            refine WO.ldW rfl ho4.at0 ho4 rfl rfl ho4.lt rfl ?_
            refine WO.fldS (j := 0) (q := 0) rfl ho61.at0 ho61.ptr rfl rfl rfl (by decide) ?_
            refine WO.ldB (j := 0) (q := 1) rfl rfl ho61 rfl rfl rfl ?_
            obtain ⟨u65, e66, h⟩ := bindS h
            refine WO.ixS rfl rfl ho4c0.slv (ck_some e66) rfl ?_
            refine WO.asg rfl ?_
            refine WO.nil ?_
            refine thenL_n ?_
            refine WC.seq ?_
            refine WC.region ?_
            refine WO.fldS (j := 0) (q := 0) rfl ho61.at0 ho61.ptr rfl rfl rfl (by decide) ?_
            refine WO.ldB (j := 0) (q := 2) rfl rfl ho61 rfl rfl rfl ?_
            refine WO.nil ?_
            refine thenL_n ?_
            refine WC.block ?_
            refine WC.seq ?_
            refine WC.region ?_
            refine WO.bin rfl rfl (by decide) (by decide) rfl ?_
            refine WO.asg rfl ?_
            refine WO.nil ?_
            refine thenL_n ?_
            refine WC.cond rfl (fun q67 => ?_) (fun q67 => ?_)
            · have h := iteT q67 h
              refine WC.region ?_
              refine WO.mv rfl ?_
              refine WO.nckE rfl (SlV.ptr ho4c0.slv (ck_nat e66)) ?_
              refine WO.fldS rfl rfl (SlV.ptr ho4c0.slv (ck_nat e66)) rfl rfl rfl (by decide) ?_
              obtain ⟨x70, e71, h⟩ := bindS h
              refine WO.stF (q := 2) (u' := (x70.1, x70.2.1, false, x70.2.2.2)) rfl rfl ho4c0 (at?_get e71) rfl (by decide) rfl rfl (fun S68 c69 ho4c0 => ?_)
              have hM := hM.to c69
              have hot1 := hot1.to c69
              have ho4 := ho4.to c69
              have ho22 := ho22.to c69
              have ho9 := ho9.to c69
              have ho22c0 := ho22c0.to c69
              have ho61 := ho61.to c69
              refine WO.nil ?_
              refine blockL_n ?_
              refine blockL_n ?_
              refine thenL_n ?_
              refine WC.region ?_
              refine WO.bin rfl rfl (by decide) (by decide) rfl ?_
              refine WO.mv rfl ?_
              refine WO.nil ?_
              refine thenL_n ?_
              obtain rfl := someI h
              exact ⟨_, rfl, ⟨S68, v52, v53, rfl, rfl, (Cov.cons rfl (Cov.cons rfl (Cov.cons rfl (Cov.cons rfl (Cov.cons rfl (Cov.cons rfl (Cov.cons rfl (Cov.cons rfl (Cov.cons rfl (Cov.cons rfl (Cov.nil _))))))))))), hM, hot1, ho4, ho22, ho9, ho4c0, ho22c0⟩⟩
            · have h := iteF q67 h
              refine WC.seq ?_
              refine WC.region ?_
              refine WO.bin rfl rfl (by decide) (by decide) rfl ?_
              refine WO.asg rfl ?_
              refine WO.nil ?_
              refine thenL_n ?_
              refine WC.cond rfl (fun q72 => ?_) (fun q72 => ?_)
              · have h := iteT q72 h
                refine WC.seq ?_
                refine WC.region ?_
                refine WO.asg rfl ?_
                refine WO.nil ?_
                refine thenL_n ?_
                refine WC.seq ?_
                refine WC.seq ?_
                refine WC.region ?_
                refine WO.ldW rfl ho4.at0 ho4 rfl rfl ho4.lt rfl ?_
                refine WO.lenS rfl ho4c0.slv rfl ?_
                refine WO.mv rfl ?_
                refine WO.nil ?_
                refine thenL_n ?_
                refine WC.block ?_
                obtain ⟨b98, e99, h⟩ := bindS h
                refine WC.loopD e99 (fun s73 l' m' n' => ∃ S75 : Cx fl, ∃ v76 : SV, S75.m = m' ∧ S75.n = n' ∧ Cov l' [(1, .sc vt1), (3, .sc ((.ptr b1 0))), (8, .sc ((.ptr b19 0))), (9, .sc v37), (10, .sc (.int .i64 s25.2.1)), (12, .sc v58), (13, .sc (ptrAt v52 ((Int.toNat ((x56.1, x56.2.1, x56.2.2)).2.1)) 0)), (14, .sc v76), (24, .sc (.int .i64 t2)), (25, .sc (.int .i64 s25.2.1)), (28, .sc vt1), (29, .sc (.int .i64 ((t1.length : Int)))), (30, .sc (.int .i64 s42.1)), (52, .sc (.int .i64 ((s42.2.1.length : Int)))), (53, .sc (.int .i64 s73.2))] ∧ ChM S0 S75 ∧ Rd Y119 S75 vt1 t1 ∧ Bw S75 2 (.ptr b1 0) [v52] ∧ Ow Y115 S75 3 v52 s42.2.1 ∧ Bw S75 5 (.ptr b19 0) [v53] ∧ Ow Y3 S75 4 v53 s42.2.2 ∧ Ow Y3 S75 6 v37 s25.1 ∧ Bk Y119 S75 7 v58 ((x56.1, x56.2.1, x56.2.2)) ∧ Ow Y3 S75 8 v76 s73.1) (fun b e l' m' n' => e = .exit 5 ∧ ∃ S77 : Cx fl, ∃ v78 : SV, S77.m = m' ∧ S77.n = n' ∧ Cov l' [(1, .sc vt1), (3, .sc ((.ptr b1 0))), (8, .sc ((.ptr b19 0))), (9, .sc v37), (10, .sc (.int .i64 s25.2.1)), (12, .sc v58), (13, .sc (ptrAt v52 ((Int.toNat ((x56.1, x56.2.1, x56.2.2)).2.1)) 0)), (14, .sc v78), (24, .sc (.int .i64 t2)), (25, .sc (.int .i64 s25.2.1)), (28, .sc vt1), (29, .sc (.int .i64 ((t1.length : Int)))), (30, .sc (.int .i64 s42.1))] ∧ ChM S0 S77 ∧ Rd Y119 S77 vt1 t1 ∧ Bw S77 2 (.ptr b1 0) [v52] ∧ Ow Y115 S77 3 v52 s42.2.1 ∧ Bw S77 5 (.ptr b19 0) [v53] ∧ Ow Y3 S77 4 v53 s42.2.2 ∧ Ow Y3 S77 6 v37 s25.1 ∧ Bk Y119 S77 7 v58 ((x56.1, x56.2.1, x56.2.2)) ∧ Ow Y3 S77 8 v78 b) (by exact ⟨S62, .nils, rfl, rfl, (Cov.cons rfl (Cov.cons rfl (Cov.cons rfl (Cov.cons rfl (Cov.cons rfl (Cov.cons rfl (Cov.cons rfl (Cov.cons rfl (Cov.cons rfl (Cov.cons rfl (Cov.cons rfl (Cov.cons rfl (Cov.cons rfl (Cov.cons rfl (Cov.cons rfl (Cov.nil _)))))))))))))))), hM, hot1, ho4, ho4c0, ho22, ho22c0, ho9, ho61, Ow.nil⟩) ?_ ?_
                · clear h
                  rintro s73 q _ _ _ ⟨S79, v80, rfl, rfl, hc81, hM, hot1, ho4, ho4c0, ho22, ho22c0, ho9, ho61, ho14⟩ h
                  unfold F25_l0 at h
                  refine WC.cov hc81 ?_
                  refine WC.seq ?_
                  refine WC.region ?_
                  refine WO.bin rfl rfl (by decide) (by decide) rfl ?_
                  refine WO.nil ?_
                  refine thenL_n ?_
                  refine WC.seq ?_
                  refine WC.cond rfl (fun q82 => ?_) (fun q82 => ?_)
                  · have h := iteT q82 h
                    refine WC.skip ?_
                    refine thenL_n ?_
                    refine WC.seq ?_
                    refine WC.block ?_
                    refine WC.seq ?_
                    refine WC.region ?_
                    refine WO.mv rfl ?_
                    refine WO.asg rfl ?_
                    refine WO.nil ?_
                    refine thenL_n ?_
                    refine WC.seq ?_
                    refine WC.region ?_
                    refine WO.ldW rfl ho4.at0 ho4 rfl rfl ho4.lt rfl ?_
                    refine WO.mv rfl ?_
                    obtain ⟨x83, e84, h⟩ := bindS h
                    refine WO.ixS rfl rfl ho4c0.slv (at?_lt e84) rfl ?_
                    refine WO.fldS rfl rfl (SlV.ptr ho4c0.slv (at?_nat e84)) rfl rfl rfl (by decide) ?_
                    refine WO.ldF rfl ho4c0.ro (fun _ hi => hi) (at?_get e84) rfl rfl rfl ?_
                    refine WO.nil ?_
                    refine thenL_n ?_
                    refine WC.cond rfl (fun q85 => ?_) (fun q85 => ?_)
                    · have h := iteT q85 h
                      refine WC.region ?_
                      refine WO.mv rfl ?_
                      refine WO.ldW rfl ho22.at0 ho22 rfl rfl ho22.lt rfl ?_
                      refine WO.mv rfl ?_
                      obtain ⟨x86, e87, h⟩ := bindS h
                      refine WO.ixS rfl rfl ho22c0.slv (at?_lt e87) rfl ?_
                      refine WO.ldF rfl ho22c0.ro (fun _ hi => hi) (at?_get e87) rfl rfl rfl ?_
                      refine WO.bsS (A := Y3) (S := S79) (M := [x86]) (cs := [.int .i64 x86]) 9 rfl rfl rfl ⟨[.int .i64 x86], _, rfl, rfl, rfl⟩ rfl (fun v88 S89 c90 ho91 => ?_)
                      have hM := hM.to c90
                      have hot1 := hot1.to c90
                      have ho4 := ho4.to c90
                      have ho4c0 := ho4c0.to c90
                      have ho22 := ho22.to c90
                      have ho22c0 := ho22c0.to c90
                      have ho9 := ho9.to c90
                      have ho61 := ho61.to c90
                      have ho14 := ho14.to c90
                      obtain ⟨L92, e93, h⟩ := bindS h
                      refine WO.appS rfl rfl ho14 ho91.ro e93 rfl rfl (fun v94 S95 c96 ho97 => ?_)
                      have hM := hM.to c96
                      have hot1 := hot1.to c96
                      have ho4 := ho4.to c96
                      have ho4c0 := ho4c0.to c96
                      have ho22 := ho22.to c96
                      have ho22c0 := ho22c0.to c96
                      have ho9 := ho9.to c96
                      have ho61 := ho61.to c96
                      have ho91 := ho91.to c96
                      refine WO.asg rfl ?_
                      refine WO.nil ?_
                      refine blockL_n ?_
                      refine thenL_n ?_
                      refine WC.region ?_
                      refine WO.bin rfl rfl (by decide) (by decide) rfl ?_
                      refine WO.mv rfl ?_
                      refine WO.nil ?_
                      refine thenL_n ?_
                      obtain rfl := someI h
                      exact ⟨_, rfl, ⟨S95, v94, rfl, rfl, (Cov.cons rfl (Cov.cons rfl (Cov.cons rfl (Cov.cons rfl (Cov.cons rfl (Cov.cons rfl (Cov.cons rfl (Cov.cons rfl (Cov.cons rfl (Cov.cons rfl (Cov.cons rfl (Cov.cons rfl (Cov.cons rfl (Cov.cons rfl (Cov.cons rfl (Cov.nil _)))))))))))))))), hM, hot1, ho4, ho4c0, ho22, ho22c0, ho9, ho61, ho97⟩⟩
                    · have h := iteF q85 h
                      refine WC.skip ?_
                      refine blockL_n ?_
                      refine thenL_n ?_
                      refine WC.region ?_
                      refine WO.bin rfl rfl (by decide) (by decide) rfl ?_
                      refine WO.mv rfl ?_
                      refine WO.nil ?_
                      refine thenL_n ?_
                      obtain rfl := someI h
                      exact ⟨_, rfl, ⟨S79, v80, rfl, rfl, (Cov.cons rfl (Cov.cons rfl (Cov.cons rfl (Cov.cons rfl (Cov.cons rfl (Cov.cons rfl (Cov.cons rfl (Cov.cons rfl (Cov.cons rfl (Cov.cons rfl (Cov.cons rfl (Cov.cons rfl (Cov.cons rfl (Cov.cons rfl (Cov.cons rfl (Cov.nil _)))))))))))))))), hM, hot1, ho4, ho4c0, ho22, ho22c0, ho9, ho61, ho14⟩⟩
                  · have h := iteF q82 h
                    refine WC.exit ?_
                    refine thenL_e ?_
                    refine thenL_e ?_
                    obtain rfl := someI h
                    exact ⟨_, rfl, rfl, ⟨S79, v80, rfl, rfl, (Cov.cons rfl (Cov.cons rfl (Cov.cons rfl (Cov.cons rfl (Cov.cons rfl (Cov.cons rfl (Cov.cons rfl (Cov.cons rfl (Cov.cons rfl (Cov.cons rfl (Cov.cons rfl (Cov.cons rfl (Cov.cons rfl (Cov.nil _)))))))))))))), hM, hot1, ho4, ho4c0, ho22, ho22c0, ho9, ho61, ho14⟩⟩
                rintro _ _ _ _ ⟨rfl, ⟨S100, v101, rfl, rfl, hc102, hM, hot1, ho4, ho4c0, ho22, ho22c0, ho9, ho61, ho14⟩⟩
                refine blockL_s ?_
                refine thenL_n ?_
                refine WC.cov hc102 ?_
                refine WC.seq ?_
                refine WC.seq ?_
                refine WC.region ?_
                refine WO.mv rfl ?_
                refine WO.nckE rfl (SlV.ptr ho4c0.slv (ck_nat e66)) ?_
                refine WO.fldS rfl rfl (SlV.ptr ho4c0.slv (ck_nat e66)) rfl rfl rfl (by decide) ?_
                obtain ⟨x103, e104, h⟩ := bindS h
                refine WO.ldF rfl ho4c0.ro (fun _ hi => hi) (at?_get e104) rfl rfl rfl ?_
                refine WO.do rfl rfl ?_
                refine WO.mv rfl ?_
                refine WO.cutB (d := 78) 4 ((!x103.2.2.1) && (decide ((b98.length : Int) > 0))) (fun q105 => ?_) (fun q105 => ?_) ?_
                · skip
                  refine WO.gyes rfl rfl ?_
                  refine WO.mv rfl ?_
                  refine WO.gyes rfl rfl ?_
                  refine WO.lenS rfl ho14.slv rfl ?_
                  refine WO.gyes rfl rfl ?_
                  refine WO.bin rfl rfl (by decide) (by decide) rfl ?_
                  refine WO.pickT rfl rfl ?_
                  refine WO.nil ?_
                  exact ⟨rfl, rfl, (Cov.any rfl (andT q105) (Cov.skip rfl (Cov.skip rfl (Cov.skip rfl (Cov.skip rfl (Cov.skip rfl (Cov.refl _)))))))⟩
                · refine WO.gno rfl rfl ?_
                  refine WO.gno rfl rfl ?_
                  refine WO.gno rfl rfl ?_
                  refine WO.pickF rfl rfl ?_
                  refine WO.nil ?_
                  exact ⟨rfl, rfl, (Cov.any rfl (andF q105) (Cov.skip rfl (Cov.skip rfl (Cov.skip rfl (Cov.skip rfl (Cov.skip rfl (Cov.refl _)))))))⟩
                refine WO.nil ?_
                refine thenL_n ?_
                refine WC.cond rfl (fun q106 => ?_) (fun q106 => ?_)
                · have h := iteT q106 h
                  refine WC.drawN rfl rfl ?_
                  have hot1z := hot1.oz
                  have ho4z := ho4.lt
                  have ho4c0z := ho4c0.oz
                  have ho22z := ho22.lt
                  have ho22c0z := ho22c0.oz
                  have ho9z := ho9.oz
                  have ho61z := ho61.lt
                  have ho14z := ho14.oz
                  refine WO.ldW rfl ho22.at0 ho22 rfl rfl ho22z (limLe_self _) ?_
                  refine WO.fldS (j := 0) (q := 0) rfl ho61.at0 ho61.ptr rfl rfl rfl (by decide) ?_
                  refine WO.ldBz (j := 0) (q := 1) rfl rfl ho61 rfl rfl ho61z (limLe_self _) ?_
                  refine WO.ldW rfl ho22.at0 ho22 rfl rfl ho22z (limLe_self _) ?_
                  refine WO.fldS (j := 0) (q := 0) rfl ho61.at0 ho61.ptr rfl rfl rfl (by decide) ?_
                  refine WO.ldBz (j := 0) (q := 1) rfl rfl ho61 rfl rfl ho61z (limLe_self _) ?_
                  obtain ⟨x107, e108, h⟩ := bindS h
                  refine WO.ixS rfl rfl ho22c0.slv (at?_lt e108) rfl ?_
                  refine WO.ldF rfl ho22c0z (fun _ hi => hi.1) (at?_get e108) rfl rfl (limLe_self _) ?_
                  refine WO.mv rfl ?_
                  obtain ⟨r109, e110, h⟩ := bindS h
                  refine WO.callE (S := S100) rfl rfl (F99_ok e110 ho14.vw) (fun S111 c112 => ?_)
                  have hot1z := hot1z.toz c112
                  have ho4c0z := ho4c0z.tow c112
                  have ho22c0z := ho22c0z.tow c112
                  have ho9z := ho9z.tow c112
                  have ho14z := ho14z.tow c112
                  have hM := hM.to c112
                  have hot1 := hot1.to c112
                  have ho4 := ho4.to c112
                  have ho4c0 := ho4c0.to c112
                  have ho22 := ho22.to c112
                  have ho22c0 := ho22c0.to c112
                  have ho9 := ho9.to c112
                  have ho61 := ho61.to c112
                  have ho14 := ho14.to c112
                  refine WO.maxD rfl rfl ?_
                  obtain ⟨u113, e114, h⟩ := bindS h
                  refine WO.ixS rfl rfl ho22c0.slv (ck_some e114) rfl ?_
                  refine WO.st1 (u' := (maxI x107 r109)) rfl rfl ho22c0 (ck_nat e114) rfl rfl (fun S115 c116 ho22c0 => ?_)
                  have hot1z := hot1z.toz c116
                  have ho4c0z := ho4c0z.tow c116
                  have ho9z := ho9z.tow c116
                  have ho14z := ho14z.tow c116
                  have hM := hM.to c116
                  have hot1 := hot1.to c116
                  have ho4 := ho4.to c116
                  have ho4c0 := ho4c0.to c116
                  have ho22 := ho22.to c116
                  have ho9 := ho9.to c116
                  have ho61 := ho61.to c116
                  have ho14 := ho14.to c116
                  refine WO.nil ?_
                  refine thenL_n ?_
                  refine WC.region ?_
                  refine WO.mv rfl ?_
                  refine WO.nckE rfl (SlV.ptr ho4c0.slv (ck_nat e66)) ?_
                  refine WO.fldS rfl rfl (SlV.ptr ho4c0.slv (ck_nat e66)) rfl rfl rfl (by decide) ?_
                  obtain ⟨x119, e120, h⟩ := bindS h
                  refine WO.stF (q := 2) (u' := (x119.1, x119.2.1, true, x119.2.2.2)) rfl rfl ho4c0 (at?_get e120) rfl (by decide) rfl rfl (fun S117 c118 ho4c0 => ?_)
                  have hM := hM.to c118
                  have hot1 := hot1.to c118
                  have ho4 := ho4.to c118
                  have ho22 := ho22.to c118
                  have ho22c0 := ho22c0.to c118
                  have ho9 := ho9.to c118
                  have ho61 := ho61.to c118
                  have ho14 := ho14.to c118
                  refine WO.nil ?_
                  refine blockL_n ?_
                  refine blockL_n ?_
                  refine thenL_n ?_
                  refine WC.region ?_
                  refine WO.bin rfl rfl (by decide) (by decide) rfl ?_
                  refine WO.mv rfl ?_
                  refine WO.nil ?_
                  refine thenL_n ?_
                  obtain rfl := someI h
                  exact ⟨_, rfl, ⟨S117, v52, v53, rfl, rfl, (Cov.cons rfl (Cov.cons rfl (Cov.cons rfl (Cov.cons rfl (Cov.cons rfl (Cov.cons rfl (Cov.cons rfl (Cov.cons rfl (Cov.cons rfl (Cov.cons rfl (Cov.nil _))))))))))), hM, hot1, ho4, ho22, ho9, ho4c0, ho22c0⟩⟩
                · have h := iteF q106 h
                  refine WC.skip ?_
                  refine thenL_n ?_
                  refine WC.region ?_
                  refine WO.mv rfl ?_
                  refine WO.nckE rfl (SlV.ptr ho4c0.slv (ck_nat e66)) ?_
                  refine WO.fldS rfl rfl (SlV.ptr ho4c0.slv (ck_nat e66)) rfl rfl rfl (by decide) ?_
                  obtain ⟨x123, e124, h⟩ := bindS h
                  refine WO.stF (q := 2) (u' := (x123.1, x123.2.1, true, x123.2.2.2)) rfl rfl ho4c0 (at?_get e124) rfl (by decide) rfl rfl (fun S121 c122 ho4c0 => ?_)
                  have hM := hM.to c122
                  have hot1 := hot1.to c122
                  have ho4 := ho4.to c122
                  have ho22 := ho22.to c122
                  have ho22c0 := ho22c0.to c122
                  have ho9 := ho9.to c122
                  have ho61 := ho61.to c122
                  have ho14 := ho14.to c122
                  refine WO.nil ?_
                  refine blockL_n ?_
                  refine blockL_n ?_
                  refine thenL_n ?_
                  refine WC.region ?_
                  refine WO.bin rfl rfl (by decide) (by decide) rfl ?_
                  refine WO.mv rfl ?_
                  refine WO.nil ?_
                  refine thenL_n ?_
                  obtain rfl := someI h
                  exact ⟨_, rfl, ⟨S121, v52, v53, rfl, rfl, (Cov.cons rfl (Cov.cons rfl (Cov.cons rfl (Cov.cons rfl (Cov.cons rfl (Cov.cons rfl (Cov.cons rfl (Cov.cons rfl (Cov.cons rfl (Cov.cons rfl (Cov.nil _))))))))))), hM, hot1, ho4, ho22, ho9, ho4c0, ho22c0⟩⟩
              · have h := iteF q72 h
                refine WC.seq ?_
                refine WC.region ?_
                refine WO.bin rfl rfl (by decide) (by decide) rfl ?_
                refine WO.asg rfl ?_
                refine WO.nil ?_
                refine thenL_n ?_
                refine WC.cond rfl (fun q125 => ?_) (fun q125 => ?_)
                · have h := iteT q125 h
                  refine WC.region ?_
                  refine WO.mv rfl ?_
                  refine WO.nckE rfl (SlV.ptr ho4c0.slv (ck_nat e66)) ?_
                  refine WO.fldS rfl rfl (SlV.ptr ho4c0.slv (ck_nat e66)) rfl rfl rfl (by decide) ?_
                  obtain ⟨x128, e129, h⟩ := bindS h
                  refine WO.stF (q := 3) (u' := (x128.1, x128.2.1, x128.2.2.1, true)) rfl rfl ho4c0 (at?_get e129) rfl (by decide) rfl rfl (fun S126 c127 ho4c0 => ?_)
                  have hM := hM.to c127
                  have hot1 := hot1.to c127
                  have ho4 := ho4.to c127
                  have ho22 := ho22.to c127
                  have ho9 := ho9.to c127
                  have ho22c0 := ho22c0.to c127
                  have ho61 := ho61.to c127
                  refine WO.nil ?_
                  refine blockL_n ?_
                  refine blockL_n ?_
                  refine thenL_n ?_
                  refine WC.region ?_
                  refine WO.bin rfl rfl (by decide) (by decide) rfl ?_
                  refine WO.mv rfl ?_
                  refine WO.nil ?_
                  refine thenL_n ?_
                  obtain rfl := someI h
                  exact ⟨_, rfl, ⟨S126, v52, v53, rfl, rfl, (Cov.cons rfl (Cov.cons rfl (Cov.cons rfl (Cov.cons rfl (Cov.cons rfl (Cov.cons rfl (Cov.cons rfl (Cov.cons rfl (Cov.cons rfl (Cov.cons rfl (Cov.nil _))))))))))), hM, hot1, ho4, ho22, ho9, ho4c0, ho22c0⟩⟩
                · have h := iteF q125 h
                  refine WC.seq ?_
                  refine WC.region ?_
                  refine WO.bin rfl rfl (by decide) (by decide) rfl ?_
                  refine WO.asg rfl ?_
                  refine WO.nil ?_
                  refine thenL_n ?_
                  refine WC.cond rfl (fun q130 => ?_) (fun q130 => ?_)
                  · have h := iteT q130 h
                    refine WC.region ?_
                    refine WO.mv rfl ?_
                    refine WO.nckE rfl (SlV.ptr ho4c0.slv (ck_nat e66)) ?_
                    refine WO.fldS rfl rfl (SlV.ptr ho4c0.slv (ck_nat e66)) rfl rfl rfl (by decide) ?_
                    obtain ⟨x133, e134, h⟩ := bindS h
                    refine WO.stF (q := 3) (u' := (x133.1, x133.2.1, x133.2.2.1, false)) rfl rfl ho4c0 (at?_get e134) rfl (by decide) rfl rfl (fun S131 c132 ho4c0 => ?_)
                    have hM := hM.to c132
                    have hot1 := hot1.to c132
                    have ho4 := ho4.to c132
                    have ho22 := ho22.to c132
                    have ho9 := ho9.to c132
                    have ho22c0 := ho22c0.to c132
                    have ho61 := ho61.to c132
                    refine WO.nil ?_
                    refine blockL_n ?_
                    refine blockL_n ?_
                    refine thenL_n ?_
                    refine WC.region ?_
                    refine WO.bin rfl rfl (by decide) (by decide) rfl ?_
                    refine WO.mv rfl ?_
                    refine WO.nil ?_
                    refine thenL_n ?_
                    obtain rfl := someI h
                    exact ⟨_, rfl, ⟨S131, v52, v53, rfl, rfl, (Cov.cons rfl (Cov.cons rfl (Cov.cons rfl (Cov.cons rfl (Cov.cons rfl (Cov.cons rfl (Cov.cons rfl (Cov.cons rfl (Cov.cons rfl (Cov.cons rfl (Cov.nil _))))))))))), hM, hot1, ho4, ho22, ho9, ho4c0, ho22c0⟩⟩
                  · have h := iteF q130 h
                    refine WC.skip ?_
                    refine blockL_n ?_
                    refine blockL_n ?_
                    refine thenL_n ?_
                    refine WC.region ?_
                    refine WO.bin rfl rfl (by decide) (by decide) rfl ?_
                    refine WO.mv rfl ?_
                    refine WO.nil ?_
                    refine thenL_n ?_
                    obtain rfl := someI h
                    exact ⟨_, rfl, ⟨S62, v52, v53, rfl, rfl, (Cov.cons rfl (Cov.cons rfl (Cov.cons rfl (Cov.cons rfl (Cov.cons rfl (Cov.cons rfl (Cov.cons rfl (Cov.cons rfl (Cov.cons rfl (Cov.cons rfl (Cov.nil _))))))))))), hM, hot1, ho4, ho22, ho9, ho4c0, ho22c0⟩⟩
        · have h := iteF q55 h
          refine WC.exit ?_
          refine thenL_e ?_
          refine thenL_e ?_
          obtain rfl := someI h
          exact ⟨_, rfl, rfl, ⟨S51, v52, v53, rfl, rfl, (Cov.cons rfl (Cov.cons rfl (Cov.cons rfl (Cov.cons rfl (Cov.cons rfl (Cov.cons rfl (Cov.nil _))))))), hM, hot1, ho4, ho22, ho9, ho4c0, ho22c0⟩⟩
      rintro _ _ _ _ ⟨rfl, ⟨S137, v138, v139, rfl, rfl, hc140, hM, hot1, ho4, ho22, ho9, ho4c0, ho22c0⟩⟩
      refine blockL_s ?_
      refine thenL_n ?_
      refine WC.cov hc140 ?_
      refine WC.seq ?_
      refine WC.region ?_
      refine WO.asg rfl ?_
      refine WO.nil ?_
      refine thenL_n ?_
      refine WC.seq ?_
      refine WC.region ?_
      refine WO.do rfl rfl ?_
      refine WO.asg rfl ?_
      refine WO.nil ?_
      refine thenL_n ?_
      refine WC.seq ?_
      refine WC.seq ?_
      refine WC.region ?_
      refine WO.ldW rfl ho4.at0 ho4 rfl rfl ho4.lt rfl ?_
      refine WO.lenS rfl ho4c0.slv rfl ?_
      refine WO.bin rfl rfl (by decide) (by decide) rfl ?_
      refine WO.asg rfl ?_
      refine WO.nil ?_
      refine thenL_n ?_
      refine WC.block ?_
      obtain ⟨b170, e171, h⟩ := bindS h
      refine WC.loopD e171 (fun s141 l' m' n' => ∃ S142 : Cx fl, S142.m = m' ∧ S142.n = n' ∧ Cov l' [(1, .sc vt1), (3, .sc ((.ptr b1 0))), (8, .sc ((.ptr b19 0))), (9, .sc v37), (16, .sc (.int .i64 s141.1)), (17, .sc (.fn 100 [(b1, 0), (b19, 0)])), (18, .sc (.int .i64 s141.2)), (24, .sc (.int .i64 t2)), (25, .sc (.int .i64 s25.2.1))] ∧ ChM S0 S142 ∧ Rd Y119 S142 vt1 t1 ∧ Bw S142 2 (.ptr b1 0) [v138] ∧ Ow Y115 S142 3 v138 b135.1 ∧ Bw S142 5 (.ptr b19 0) [v139] ∧ Ow Y3 S142 4 v139 b135.2 ∧ Ow Y3 S142 6 v37 s25.1) (fun b e l' m' n' => e = .exit 7 ∧ ∃ S143 : Cx fl, S143.m = m' ∧ S143.n = n' ∧ Cov l' [(1, .sc vt1), (3, .sc ((.ptr b1 0))), (8, .sc ((.ptr b19 0))), (9, .sc v37), (16, .sc (.int .i64 b)), (24, .sc (.int .i64 t2)), (25, .sc (.int .i64 s25.2.1))] ∧ ChM S0 S143 ∧ Rd Y119 S143 vt1 t1 ∧ Bw S143 2 (.ptr b1 0) [v138] ∧ Ow Y115 S143 3 v138 b135.1 ∧ Bw S143 5 (.ptr b19 0) [v139] ∧ Ow Y3 S143 4 v139 b135.2 ∧ Ow Y3 S143 6 v37 s25.1) (by exact ⟨S137, rfl, rfl, (Cov.cons rfl (Cov.cons rfl (Cov.cons rfl (Cov.cons rfl (Cov.cons rfl (Cov.cons rfl (Cov.cons rfl (Cov.cons rfl (Cov.cons rfl (Cov.nil _)))))))))), hM, hot1, ho4, ho4c0, ho22, ho22c0, ho9⟩) ?_ ?_
      · clear h
        rintro s141 q _ _ _ ⟨S144, rfl, rfl, hc145, hM, hot1, ho4, ho4c0, ho22, ho22c0, ho9⟩ h
        unfold F25_l2 at h
        refine WC.cov hc145 ?_
        refine WC.seq ?_
        refine WC.seq ?_
        refine WC.region ?_
        refine WO.mv rfl ?_
        refine WO.bin rfl rfl (by decide) (by decide) rfl ?_
        refine WO.nil ?_
        refine thenL_n ?_
        refine WC.cond rfl (fun q146 => ?_) (fun q146 => ?_)
        · have h := iteT q146 h
          refine WC.skip ?_
          refine thenL_n ?_
          refine WC.seq ?_
          refine WC.block ?_
          refine WC.seq ?_
          refine WC.region ?_
          refine WO.ldW rfl ho4.at0 ho4 rfl rfl ho4.lt rfl ?_
          refine WO.mv rfl ?_
          obtain ⟨x147, e148, h⟩ := bindS h
          refine WO.ixS rfl rfl ho4c0.slv (at?_lt e148) rfl ?_
          refine WO.fldS rfl rfl (SlV.ptr ho4c0.slv (at?_nat e148)) rfl rfl rfl (by decide) ?_
          refine WO.ldF rfl ho4c0.ro (fun _ hi => hi) (at?_get e148) rfl rfl rfl ?_
          refine WO.mv rfl ?_
          obtain ⟨y165, e166, h⟩ := bindS h
          refine WO.cutS (d := 130) (S := S144) 12 y165 (fun q164 => ?_) (fun q164 => ?_) (fun S167 c168 => ?_)
          · have h := e166
            have h := iteT q164 h
            refine WO.gyes rfl rfl ?_
            refine WO.mv rfl ?_
            refine WO.gyes rfl rfl ?_
            refine WO.bin rfl rfl (by decide) (by decide) rfl ?_
            refine WO.gyes rfl rfl ?_
            refine WO.mv rfl ?_
            obtain ⟨y160, e161, h⟩ := bindS h
            refine WO.cutS (d := 129) (S := S144) 8 y160 (fun q159 => ?_) (fun q159 => ?_) (fun S162 c163 => ?_)
            · have h := e161
              have h := iteT q159 h
              obtain rfl := someI h
              refine WO.gno rfl rfl ?_
              refine WO.gno rfl rfl ?_
              refine WO.gno rfl rfl ?_
              refine WO.gno rfl rfl ?_
              refine WO.gno rfl rfl ?_
              refine WO.gno rfl rfl ?_
              refine WO.gno rfl rfl ?_
              refine WO.gyes rfl rfl ?_
              refine WO.pickT rfl rfl ?_
              refine WO.nil ?_
              exact ⟨S144, rfl, rfl, Ch.refl _ _, (Cov.cons rfl (Cov.skip rfl (Cov.skip rfl (Cov.skip rfl (Cov.skip rfl (Cov.skip rfl (Cov.skip rfl (Cov.skip rfl (Cov.skip rfl (Cov.skip rfl (Cov.refl _)))))))))))⟩
            · have h := e161
              have h := iteF q159 h
              refine WO.gyes rfl rfl ?_
              refine WO.mv rfl ?_
              refine WO.gyes rfl rfl ?_
              refine WO.mv rfl ?_
              refine WO.gyes rfl rfl ?_
              obtain ⟨r149, e150, h⟩ := bindS h
              refine WO.callG (S := S144) [(2, 0), (3, 0), (5, 0), (4, 0)] [] rfl rfl (F100_ok (S0 := S144.mp [(2, 0), (3, 0), (5, 0), (4, 0)]) e150 (ho4.mp0 rfl) (ho4c0.mp0 rfl) (ho22.mp0 rfl) (ho22c0.mp0 rfl)) (fun _ S151 S152 hb hR => ?_)
              obtain rfl := hR
              have c153 : Ch 1 S144 S152 := hb.ch [] 1
              have hM := hM.to c153
              have hot1 := hot1.to c153
              have ho4 := ho4.to c153
              have ho4c0 := ho4c0.to c153
              have ho22 := ho22.to c153
              have ho22c0 := ho22c0.to c153
              have ho9 := ho9.to c153
              refine WO.gyes rfl rfl ?_
              refine WO.mv rfl ?_
              refine WO.gyes rfl rfl ?_
              refine WO.mv rfl ?_
              refine WO.gyes rfl rfl ?_
              obtain ⟨r154, e155, h⟩ := bindS h
              refine WO.callG (S := S152) [(2, 0), (3, 0), (5, 0), (4, 0)] [] rfl rfl (F100_ok (S0 := S152.mp [(2, 0), (3, 0), (5, 0), (4, 0)]) e155 (ho4.mp0 rfl) (ho4c0.mp0 rfl) (ho22.mp0 rfl) (ho22c0.mp0 rfl)) (fun _ S156 S157 hb hR => ?_)
              obtain rfl := hR
              have c158 : Ch 1 S152 S157 := hb.ch [] 1
              have hM := hM.to c158
              have hot1 := hot1.to c158
              have ho4 := ho4.to c158
              have ho4c0 := ho4c0.to c158
              have ho22 := ho22.to c158
              have ho22c0 := ho22c0.to c158
              have ho9 := ho9.to c158
              refine WO.gyes rfl rfl ?_
              refine WO.bin rfl rfl (by decide) (by decide) rfl ?_
              obtain rfl := someI h
              refine WO.gyes rfl rfl ?_
              refine WO.pickF rfl rfl ?_
              refine WO.nil ?_
              exact ⟨S157, rfl, rfl, (c153.trans c158), (Cov.cons rfl (Cov.skip rfl (Cov.skip rfl (Cov.skip rfl (Cov.skip rfl (Cov.skip rfl (Cov.skip rfl (Cov.skip rfl (Cov.skip rfl (Cov.skip rfl (Cov.refl _)))))))))))⟩
            have hM := hM.to c163
            have hot1 := hot1.to c163
            have ho4 := ho4.to c163
            have ho4c0 := ho4c0.to c163
            have ho22 := ho22.to c163
            have ho22c0 := ho22c0.to c163
            have ho9 := ho9.to c163
            obtain rfl := someI h
            refine WO.pickT rfl rfl ?_
            refine WO.nil ?_
            exact ⟨S162, rfl, rfl, c163, (Cov.cons rfl (Cov.skip rfl (Cov.skip rfl (Cov.skip rfl (Cov.skip rfl (Cov.skip rfl (Cov.refl _)))))))⟩
          · have h := e166
            have h := iteF q164 h
            obtain rfl := someI h
            refine WO.gno rfl rfl ?_
            refine WO.gno rfl rfl ?_
            refine WO.gno rfl rfl ?_
            refine WO.gskip rfl rfl ?_
            refine WO.gskip rfl rfl ?_
            refine WO.gskip rfl rfl ?_
            refine WO.gskip rfl rfl ?_
            refine WO.gskip rfl rfl ?_
            refine WO.gskip rfl rfl ?_
            refine WO.gskip rfl rfl ?_
            refine WO.gno rfl rfl ?_
            refine WO.pickF rfl rfl ?_
            refine WO.nil ?_
            exact ⟨S144, rfl, rfl, Ch.refl _ _, (Cov.cons rfl (Cov.skip rfl (Cov.skip rfl (Cov.skip rfl (Cov.skip rfl (Cov.skip rfl (Cov.skip rfl (Cov.skip rfl (Cov.skip rfl (Cov.skip rfl (Cov.skip rfl (Cov.skip rfl (Cov.skip rfl (Cov.skip rfl (Cov.refl _)))))))))))))))⟩
          have hM := hM.to c168
          have hot1 := hot1.to c168
          have ho4 := ho4.to c168
          have ho4c0 := ho4c0.to c168
          have ho22 := ho22.to c168
          have ho22c0 := ho22c0.to c168
          have ho9 := ho9.to c168
          refine WO.nil ?_
          refine thenL_n ?_
          refine WC.cond rfl (fun q169 => ?_) (fun q169 => ?_)
          · have h := iteT q169 h
            refine WC.region ?_
            refine WO.mv rfl ?_
            refine WO.asg rfl ?_
            refine WO.nil ?_
            refine blockL_n ?_
            refine thenL_n ?_
            refine WC.region ?_
            refine WO.mv rfl ?_
            refine WO.bin rfl rfl (by decide) (by decide) rfl ?_
            refine WO.asg rfl ?_
            refine WO.nil ?_
            refine thenL_n ?_
            obtain rfl := someI h
            exact ⟨_, rfl, ⟨S167, rfl, rfl, (Cov.cons rfl (Cov.cons rfl (Cov.cons rfl (Cov.cons rfl (Cov.cons rfl (Cov.cons rfl (Cov.cons rfl (Cov.cons rfl (Cov.cons rfl (Cov.nil _)))))))))), hM, hot1, ho4, ho4c0, ho22, ho22c0, ho9⟩⟩
          · have h := iteF q169 h
            refine WC.skip ?_
            refine blockL_n ?_
            refine thenL_n ?_
            refine WC.region ?_
            refine WO.mv rfl ?_
            refine WO.bin rfl rfl (by decide) (by decide) rfl ?_
            refine WO.asg rfl ?_
            refine WO.nil ?_
            refine thenL_n ?_
            obtain rfl := someI h
            exact ⟨_, rfl, ⟨S167, rfl, rfl, (Cov.cons rfl (Cov.cons rfl (Cov.cons rfl (Cov.cons rfl (Cov.cons rfl (Cov.cons rfl (Cov.cons rfl (Cov.cons rfl (Cov.cons rfl (Cov.nil _)))))))))), hM, hot1, ho4, ho4c0, ho22, ho22c0, ho9⟩⟩
        · have h := iteF q146 h
          refine WC.exit ?_
          refine thenL_e ?_
          refine thenL_e ?_
          obtain rfl := someI h
          exact ⟨_, rfl, rfl, ⟨S144, rfl, rfl, (Cov.cons rfl (Cov.cons rfl (Cov.cons rfl (Cov.cons rfl (Cov.cons rfl (Cov.cons rfl (Cov.cons rfl (Cov.nil _)))))))), hM, hot1, ho4, ho4c0, ho22, ho22c0, ho9⟩⟩
      rintro _ _ _ _ ⟨rfl, ⟨S172, rfl, rfl, hc173, hM, hot1, ho4, ho4c0, ho22, ho22c0, ho9⟩⟩
      refine blockL_s ?_
      refine thenL_n ?_
      refine WC.cov hc173 ?_
      refine WC.seq ?_
      refine WC.seq ?_
      refine WC.region ?_
      refine WO.mv rfl ?_
      refine WO.bin rfl rfl (by decide) (by decide) rfl ?_
      refine WO.nil ?_
      refine thenL_n ?_
      refine WC.cond rfl (fun q174 => ?_) (fun q174 => ?_)
      · have h := iteT q174 h
        refine WC.drawN rfl rfl ?_
        have hot1z := hot1.oz
        have ho4z := ho4.lt
        have ho4c0z := ho4c0.oz
        have ho22z := ho22.lt
        have ho22c0z := ho22c0.oz
        have ho9z := ho9.oz
        refine WO.ldW rfl ho22.at0 ho22 rfl rfl ho22z (limLe_self _) ?_
        refine WO.mv rfl ?_
        obtain ⟨x175, e176, h⟩ := bindS h
        refine WO.ixS rfl rfl ho22c0.slv (at?_lt e176) rfl ?_
        refine WO.ldF rfl ho22c0z (fun _ hi => hi.1) (at?_get e176) rfl rfl (limLe_self _) ?_
        refine WO.ldW rfl ho4.at0 ho4 rfl rfl ho4z (limLe_self _) ?_
        refine WO.mv rfl ?_
        obtain ⟨x177, e178, h⟩ := bindS h
        refine WO.ixS rfl rfl ho4c0.slv (at?_lt e178) rfl ?_
        refine WO.fldS rfl rfl (SlV.ptr ho4c0.slv (at?_nat e178)) rfl rfl rfl (by decide) ?_
        refine WO.ldF rfl ho4c0z (fun _ hi => hi.1) (at?_get e178) rfl rfl (limLe_self _) ?_
        obtain ⟨x179, e180, h⟩ := bindS h
        refine WO.quoD rfl rfl e180 ?_
        refine WO.bin rfl rfl (by decide) (by decide) rfl ?_
        obtain ⟨u181, e182, h⟩ := bindS h
        refine WO.ixS rfl rfl ho22c0.slv (ck_some e182) rfl ?_
        refine WO.st1 (u' := (wrapA .i64 (x175 + x179))) rfl rfl ho22c0 (ck_nat e182) rfl rfl (fun S183 c184 ho22c0 => ?_)
        have hot1z := hot1z.toz c184
        have ho4c0z := ho4c0z.tow c184
        have ho9z := ho9z.tow c184
        have hM := hM.to c184
        have hot1 := hot1.to c184
        have ho4 := ho4.to c184
        have ho4c0 := ho4c0.to c184
        have ho22 := ho22.to c184
        have ho9 := ho9.to c184
        refine WO.nil ?_
        refine thenL_n ?_
        refine WC.region ?_
        refine WO.mv rfl ?_
        refine WO.mv rfl ?_
        refine WO.bsS (A := Y3) (S := S183) (M := [b170]) (cs := [.int .i64 b170]) 10 rfl rfl rfl ⟨[.int .i64 b170], _, rfl, rfl, rfl⟩ rfl (fun v185 S186 c187 ho188 => ?_)
        have hM := hM.to c187
        have hot1 := hot1.to c187
        have ho4 := ho4.to c187
        have ho4c0 := ho4c0.to c187
        have ho22 := ho22.to c187
        have ho22c0 := ho22c0.to c187
        have ho9 := ho9.to c187
        obtain ⟨L189, e190, h⟩ := bindS h
        refine WO.appS rfl rfl ho9 ho188.ro e190 rfl rfl (fun v191 S192 c193 ho194 => ?_)
        have hM := hM.to c193
        have hot1 := hot1.to c193
        have ho4 := ho4.to c193
        have ho4c0 := ho4c0.to c193
        have ho22 := ho22.to c193
        have ho22c0 := ho22c0.to c193
        have ho188 := ho188.to c193
        refine WO.asg rfl ?_
        refine WO.nil ?_
        refine blockL_n ?_
        refine thenL_n ?_
        refine WC.region ?_
        refine WO.bin rfl rfl (by decide) (by decide) rfl ?_
        refine WO.mv rfl ?_
        refine WO.nil ?_
        refine thenL_n ?_
        obtain rfl := someI h
        exact ⟨_, rfl, ⟨S192, v191, v138, v139, rfl, rfl, (Cov.cons rfl (Cov.cons rfl (Cov.cons rfl (Cov.cons rfl (Cov.cons rfl (Cov.cons rfl (Cov.nil _))))))), hM, hot1, ho4, ho22, ho194, ho4c0, ho22c0⟩⟩
      · have h := iteF q174 h
        refine WC.skip ?_
        refine thenL_n ?_
        refine WC.region ?_
        refine WO.mv rfl ?_
        refine WO.mv rfl ?_
        refine WO.bsS (A := Y3) (S := S172) (M := [b170]) (cs := [.int .i64 b170]) 11 rfl rfl rfl ⟨[.int .i64 b170], _, rfl, rfl, rfl⟩ rfl (fun v195 S196 c197 ho198 => ?_)
        have hM := hM.to c197
        have hot1 := hot1.to c197
        have ho4 := ho4.to c197
        have ho4c0 := ho4c0.to c197
        have ho22 := ho22.to c197
        have ho22c0 := ho22c0.to c197
        have ho9 := ho9.to c197
        obtain ⟨L199, e200, h⟩ := bindS h
        refine WO.appS rfl rfl ho9 ho198.ro e200 rfl rfl (fun v201 S202 c203 ho204 => ?_)
        have hM := hM.to c203
        have hot1 := hot1.to c203
        have ho4 := ho4.to c203
        have ho4c0 := ho4c0.to c203
        have ho22 := ho22.to c203
        have ho22c0 := ho22c0.to c203
        have ho198 := ho198.to c203
        refine WO.asg rfl ?_
        refine WO.nil ?_
        refine blockL_n ?_
        refine thenL_n ?_
        refine WC.region ?_
        refine WO.bin rfl rfl (by decide) (by decide) rfl ?_
        refine WO.mv rfl ?_
        refine WO.nil ?_
        refine thenL_n ?_
        obtain rfl := someI h
        exact ⟨_, rfl, ⟨S202, v201, v138, v139, rfl, rfl, (Cov.cons rfl (Cov.cons rfl (Cov.cons rfl (Cov.cons rfl (Cov.cons rfl (Cov.cons rfl (Cov.nil _))))))), hM, hot1, ho4, ho22, ho204, ho4c0, ho22c0⟩⟩
    · have h := iteF q41 h
      refine WC.exit ?_
      refine thenL_e ?_
      refine thenL_e ?_
      obtain rfl := someI h
      exact ⟨_, rfl, rfl, ⟨S36, v37, v39, rfl, rfl, (Cov.cons rfl (Cov.cons rfl (Cov.nil _))), hM, ho22, ho9, ho22c0⟩⟩
  rintro _ _ _ _ ⟨rfl, ⟨S207, v208, v209, rfl, rfl, hc210, hM, ho22, ho9, ho22c0⟩⟩
  refine blockL_s ?_
  refine thenL_n ?_
  refine WC.cov hc210 ?_
  refine WC.seq ?_
  refine WC.drawP rfl rfl ?_
  refine WO.mv rfl ?_
  refine WO.ldW rfl ho22.at0 ho22 rfl rfl ho22.lt rfl ?_
  refine WO.asg rfl ?_
  refine WO.asg rfl ?_
  refine WO.nil ?_
  refine thenL_n ?_
  refine WC.ret ?_
  have hM := hM.renO 6 902
  have ho9 := ho9.ren (j := 902)
  have ho22c0 := ho22c0.renO 6 902
  have hM := hM.renO 4 904
  have ho9 := ho9.renO 4 904
  have ho22c0 := ho22c0.ren (j := 904)
  obtain rfl := someI h
  exact ⟨.inr rfl, _, _, rfl, rfl, ⟨((S207.ren 6 902).ren 4 904), rfl, rfl, hM, v208, v209, rfl, ho9, ho22c0⟩⟩
end Go.Proofs.Ytihmliblbhjlaaa

/- The machine answers the functions' texts: printed by a program of ours (gen.py). -/
import Derived.Test.YtaphdnpjpmnaeabDoorG2
set_option linter.unusedVariables false
set_option maxRecDepth 20000
set_option maxHeartbeats 4000000
namespace Go.Proofs.YtaphdnpjpmnaeabDoor
open Go.Am
theorem F7.fn : E.fn 7 = some ⟨364, (Tryd.f7.body.getD .skip), Tryd.f7.results.toList, [1, 1000004, 1000016, 1000018, 1000020, 1000024, 1000026, 1000028, 1000030, 1000032, 1000039, 1000045, 1000047, 1000049, 1000051, 1000068, 1000070, 1000071]⟩ := rfl
theorem F7_ok {F : Nat} {fl : Nat} {S0 : Cx fl} {r : ((List ((List UInt8) × Int × Int)) × (List ((List UInt8) × (List UInt8) × Int))) × ((List UInt8) × Int) × Int} {t0 : (List ((List UInt8) × Int × Int)) × (List ((List UInt8) × (List UInt8) × Int))} {t1 : Int × Int × (List UInt8) × (List UInt8)} {vt0_0 : SV} {vt0_1 : SV} (h : F7 F t0 t1 = some r) (hot0_0 : Rd Y41 S0 vt0_0 t0.1) (hot0_1 : Rd Y65 S0 vt0_1 t0.2) : Ret E fl 7 [.agg [vt0_0, vt0_1], .agg [.int .i64 t1.1, .int .i64 t1.2.1, .str t1.2.2.1, .str t1.2.2.2]] S0.m S0.n (fun v m' n' => ∃ S' : Cx fl, S'.m = m' ∧ S'.n = n' ∧ ChM S0 S' ∧ (∃ w1894 w1895 : SV, v = .tup [.agg [w1894, w1895], .agg [.str r.2.1.1, .int .i64 r.2.1.2], .sc (.int .i64 r.2.2)] ∧ Rd Y41 S' w1894 r.1.1 ∧ Rd Y65 S' w1895 r.1.2)) := by
  unfold F7 at h
  refine Ret.walk F7.fn ?_
  have hM := ChM.refl S0
  refine WC.seq (WC.region ?_)
  refine WO.bxW (S := S0) (cs := [vt0_0, vt0_1]) 2 rfl rfl rfl (fun b1 S2 c3 ho4 => ?_)
  have hot0_0 := hot0_0.to c3
  have hot0_1 := hot0_1.to c3
  have hM := hM.to c3
  refine WO.bxS (A := Y32) (S := S2) (u := (t1.1, t1.2.1, t1.2.2.1, t1.2.2.2)) 3 rfl rfl rfl rfl (fun v5 S6 c7 ho8 => ?_)
  have hot0_0 := hot0_0.to c7
  have hot0_1 := hot0_1.to c7
  have hM := hM.to c7
  have ho4 := ho4.to c7
  refine WO.alW (S := S6) (cs := [.nils, .nils]) 4 rfl rfl rfl (fun b9 S10 c11 ho12 => ?_)
  have hot0_0 := hot0_0.to c11
  have hot0_1 := hot0_1.to c11
  have hM := hM.to c11
  have ho4 := ho4.to c11
  have ho8 := ho8.to c11
  refine WO.alS (A := Y34) (S := S10) (z0 := (([], 0) : (List UInt8) × Int)) 5 rfl rfl rfl (fun v13 S14 c15 ho16 => ?_)
  have hot0_0 := hot0_0.to c15
  have hot0_1 := hot0_1.to c15
  have hM := hM.to c15
  have ho4 := ho4.to c15
  have ho8 := ho8.to c15
  have ho12 := ho12.to c15
  refine WO.asg rfl (WO.nil (thenL_n (WC.seq ?_)))
  refine WC.drawN rfl rfl ?_
  have hot0_0z := hot0_0.oz
  have hot0_1z := hot0_1.oz
  have ho4z := ho4.lt
  have ho8z := ho8.lt
  have ho12z := ho12.lt
  have ho16z := ho16.lt
  refine WO.fldS (j := 0) (q := 0) rfl ho4.at0 ho4.ptr rfl rfl rfl (by decide) ?_
  refine WO.ldW rfl rfl ho4 rfl rfl ho4z (limLe_self _) ?_
  obtain ⟨r17, e18, h⟩ := bindS h
  refine WO.callF (S := S14) 6 rfl rfl (F21_ok e18 hot0_0.vw) Lay.flat_fl (fun v19 S21 c22 ho20 => ?_)
  have hot0_0z := hot0_0z.toz c22
  have hot0_1z := hot0_1z.toz c22
  have hot0_0 := hot0_0.to c22
  have hot0_1 := hot0_1.to c22
  have hM := hM.to c22
  have ho4 := ho4.to c22
  have ho8 := ho8.to c22
  have ho12 := ho12.to c22
  have ho16 := ho16.to c22
  refine WO.fldS (j := 0) (q := 0) rfl ho4.at0 ho4.ptr rfl rfl rfl (by decide) ?_
  refine WO.ldW rfl rfl ho4 rfl rfl ho4z (limLe_self _) ?_
  obtain ⟨r23, e24, h⟩ := bindS h
  refine WO.callF (S := S21) 7 rfl rfl (F22_ok e24 hot0_1.vw) Lay.flat_fl (fun v25 S27 c28 ho26 => ?_)
  have hot0_0z := hot0_0z.toz c28
  have hot0_1z := hot0_1z.toz c28
  have hot0_0 := hot0_0.to c28
  have hot0_1 := hot0_1.to c28
  have hM := hM.to c28
  have ho4 := ho4.to c28
  have ho8 := ho8.to c28
  have ho12 := ho12.to c28
  have ho16 := ho16.to c28
  have ho20 := ho20.to c28
  refine WO.fldS (j := 0) (q := 0) rfl ho4.at0 ho4.ptr rfl rfl rfl (by decide) ?_
  refine WO.stW (S := S27) (r := [v19, vt0_1]) rfl rfl rfl rfl ho4 rfl rfl rfl rfl rfl (fun S29 c30 ho4 => ?_)
  have hot0_0z := hot0_0z.toz c30
  have hot0_1z := hot0_1z.toz c30
  have hot0_0 := hot0_0.to c30
  have hot0_1 := hot0_1.to c30
  have hM := hM.to c30
  have ho8 := ho8.to c30
  have ho12 := ho12.to c30
  have ho16 := ho16.to c30
  have ho20 := ho20.to c30
  have ho26 := ho26.to c30
  refine WO.fldS (j := 0) (q := 0) rfl ho4.at0 ho4.ptr rfl rfl rfl (by decide) ?_
  refine WO.stW (S := S29) (r := [v19, v25]) rfl rfl rfl rfl ho4 rfl rfl rfl rfl rfl (fun S31 c32 ho4 => ?_)
  have hot0_0z := hot0_0z.toz c32
  have hot0_1z := hot0_1z.toz c32
  have hot0_0 := hot0_0.to c32
  have hot0_1 := hot0_1.to c32
  have hM := hM.to c32
  have ho8 := ho8.to c32
  have ho12 := ho12.to c32
  have ho16 := ho16.to c32
  have ho20 := ho20.to c32
  have ho26 := ho26.to c32
  refine WO.nil (thenL_n (WC.seq (WC.region ?_)))
  refine WO.do rfl rfl ?_
  refine WO.alS (A := Y34) (S := S31) (z0 := (([], 0) : (List UInt8) × Int)) 8 rfl rfl rfl (fun v33 S34 c35 ho36 => ?_)
  have hot0_0 := hot0_0.to c35
  have hot0_1 := hot0_1.to c35
  have hM := hM.to c35
  have ho4 := ho4.to c35
  have ho8 := ho8.to c35
  have ho12 := ho12.to c35
  have ho16 := ho16.to c35
  have ho20 := ho20.to c35
  have ho26 := ho26.to c35
  refine WO.stBA (u' := (([], 0) : (List UInt8) × Int)) rfl ho36.at0 rfl ho36 rfl rfl (fun S37 c38 ho36 => ?_)
  have hot0_0 := hot0_0.to c38
  have hot0_1 := hot0_1.to c38
  have hM := hM.to c38
  have ho4 := ho4.to c38
  have ho8 := ho8.to c38
  have ho12 := ho12.to c38
  have ho16 := ho16.to c38
  have ho20 := ho20.to c38
  have ho26 := ho26.to c38
  refine WO.nil (thenL_n (WC.seq (WC.seq (WC.region ?_))))
  refine WO.fldS (j := 0) (q := 0) rfl ho8.at0 ho8.ptr rfl rfl rfl (by decide) ?_
  refine WO.ldB (j := 0) (q := 0) rfl rfl ho8 rfl rfl rfl ?_
  refine WO.bin rfl rfl (by decide) (by decide) rfl ?_
  refine WO.mv rfl ?_
  refine WO.cutB (d := 35) 4 ((decide (((t1.1, t1.2.1, t1.2.2.1, t1.2.2.2)).1 < 1)) || (decide (((t1.1, t1.2.1, t1.2.2.1, t1.2.2.2)).1 > 7))) (fun q39 => ?_) (fun q39 => ?_) ?_
  · refine WO.gno rfl rfl (WO.gno rfl rfl (WO.gno rfl rfl ?_))
    refine WO.pickT rfl rfl ?_
    refine WO.nil ?_
    exact ⟨rfl, rfl, (Cov.any rfl (orT q39) (Cov.skip rfl (Cov.skip rfl (Cov.skip rfl (Cov.skip rfl (Cov.skip rfl (Cov.refl _)))))))⟩
  · skip
    refine WO.gyes rfl rfl ?_
    refine WO.fldS (j := 0) (q := 0) rfl ho8.at0 ho8.ptr rfl rfl rfl (by decide) ?_
    refine WO.gyes rfl rfl ?_
    refine WO.ldB (j := 0) (q := 0) rfl rfl ho8 rfl rfl rfl ?_
    refine WO.gyes rfl rfl ?_
    refine WO.bin rfl rfl (by decide) (by decide) rfl ?_
    refine WO.pickF rfl rfl ?_
    refine WO.nil ?_
    exact ⟨rfl, rfl, (Cov.any rfl (orF q39) (Cov.skip rfl (Cov.skip rfl (Cov.skip rfl (Cov.skip rfl (Cov.skip rfl (Cov.refl _)))))))⟩
  refine WO.nil (thenL_n ?_)
  refine WC.cond rfl (fun q40 => ?_) (fun q40 => ?_)
  · have h := iteT q40 h
    refine WC.seq ?_
    refine WC.drawDN rfl ?_
    have hot0_0z := hot0_0.oz
    have hot0_1z := hot0_1.oz
    have ho4z := ho4.lt
    have ho8z := ho8.lt
    have ho12z := ho12.lt
    have ho16z := ho16.lt
    have ho20z := ho20.oz
    have ho26z := ho26.oz
    have ho36z := ho36.lt
    have k41 := hot0_0.bko
    have k42 := hot0_1.bko
    have k43 := ho4.bko
    have k44 := ho8.bko
    have k45 := ho12.bko
    have k46 := ho16.bko
    have k47 := ho20.bko
    have k48 := ho26.bko
    have k49 := ho36.bko
    refine WO.ldWA (sz := 2) (r := [v19, v25]) rfl ho4.at0 ho4 rfl rfl rfl ho4z (limLe_self _) ?_
    refine WO.ldBAz (j := 0) rfl ho36.at0 ho36 rfl ho36z (limLe_self _) ?_
    refine WO.stW (S := S37) (r := [v19, v25]) rfl ho12.at0 rfl rfl ho12 rfl rfl rfl rfl rfl (fun S50 c51 ho12 => ?_)
    have hot0_0z := hot0_0z.toz c51
    have hot0_1z := hot0_1z.toz c51
    have ho20z := ho20z.tow c51
    have ho26z := ho26z.tow c51
    have hot0_0 := hot0_0.to c51
    have hot0_1 := hot0_1.to c51
    have hM := hM.to c51
    have ho4 := ho4.to c51
    have ho8 := ho8.to c51
    have ho16 := ho16.to c51
    have ho20 := ho20.to c51
    have ho26 := ho26.to c51
    have ho36 := ho36.to c51
    have n52 := c51.n
    have k53 := hot0_0.bko
    have k54 := hot0_1.bko
    have k55 := ho4.bko
    have k56 := ho8.bko
    have k57 := ho12.bko
    have k58 := ho16.bko
    have k59 := ho20.bko
    have k60 := ho26.bko
    have k61 := ho36.bko
    refine WO.stBA (u' := ((((([], 0) : (List UInt8) × Int)).1, ((([], 0) : (List UInt8) × Int)).2) : (List UInt8) × Int)) rfl ho16.at0 rfl ho16 rfl rfl (fun S62 c63 ho16 => ?_)
    have hot0_0z := hot0_0z.toz c63
    have hot0_1z := hot0_1z.toz c63
    have ho20z := ho20z.tow c63
    have ho26z := ho26z.tow c63
    have hot0_0 := hot0_0.to c63
    have hot0_1 := hot0_1.to c63
    have hM := hM.to c63
    have ho4 := ho4.to c63
    have ho8 := ho8.to c63
    have ho12 := ho12.to c63
    have ho20 := ho20.to c63
    have ho26 := ho26.to c63
    have ho36 := ho36.to c63
    have n64 := c63.n
    have k65 := hot0_0.bko
    have k66 := hot0_1.bko
    have k67 := ho4.bko
    have k68 := ho8.bko
    have k69 := ho12.bko
    have k70 := ho16.bko
    have k71 := ho20.bko
    have k72 := ho26.bko
    have k73 := ho36.bko
    refine WO.asg rfl (WO.nil ?_)
    refine ⟨fun tt hs => dynOk_of [(1, 2)] (by kernel_rfl) ⟨?_, trivial⟩, ?_⟩
    · show djT tt _ _ = true
      have nb74 := k41.nb k43
      have nb75 := k41.nb k44
      have nb76 := k41.nb k45
      have nb77 := k41.nb k46
      have nb78 := k41.nb k47
      have nb79 := k41.nb k48
      have nb80 := k41.nb k49
      have nb81 := k42.nb k43
      have nb82 := k42.nb k44
      have nb83 := k42.nb k45
      have nb84 := k42.nb k46
      have nb85 := k42.nb k47
      have nb86 := k42.nb k48
      have nb87 := k42.nb k49
      have nb88 := k43.nb k44
      have nb89 := k43.nb k45
      have nb90 := k43.nb k46
      have nb91 := k43.nb k47
      have nb92 := k43.nb k48
      have nb93 := k43.nb k49
      have nb94 := k44.nb k45
      have nb95 := k44.nb k46
      have nb96 := k44.nb k47
      have nb97 := k44.nb k48
      have nb98 := k44.nb k49
      have nb99 := k45.nb k46
      have nb100 := k45.nb k47
      have nb101 := k45.nb k48
      have nb102 := k45.nb k49
      have nb103 := k46.nb k47
      have nb104 := k46.nb k48
      have nb105 := k46.nb k49
      have nb106 := k47.nb k48
      have nb107 := k47.nb k49
      have nb108 := k48.nb k49
      refine djT_of hs rfl rfl rfl rfl rfl ?_ ?_ ?_ <;> simp only [NBs, NB1, and_true, true_and] <;> (repeat' apply And.intro) <;> (first | assumption | (apply NB.symm; assumption) | exact NB.none rfl | exact NB.noneR rfl | (apply NB.pt; first | assumption | (apply NB.symm; assumption)) | (apply NB.symm; apply NB.pt; first | assumption | (apply NB.symm; assumption) | (apply NB.symm; apply NB.pt; first | assumption | (apply NB.symm; assumption))))
    clear k41 k42 k43 k44 k45 k46 k47 k48 k49 k53 k54 k55 k56 k57 k58 k59 k60 k61 k65 k66 k67 k68 k69 k70 k71 k72 k73 n52 n64
    refine thenL_n (WC.ret (thenL_r ?_))
    have hcell109 := ho12
    have hcell110 := ho16
    have hot0_0 := hot0_0.drop 6
    have hot0_1 := hot0_1.drop 6
    have hM := hM.drop 6
    have ho4 := ho4.drop 6
    have ho8 := ho8.drop 6
    have ho12 := ho12.drop 6
    have ho16 := ho16.drop 6
    have ho20 := ho20.freeze
    have ho26 := ho26.drop 6
    have ho36 := ho36.drop 6
    have hot0_0 := hot0_0.drop 7
    have hot0_1 := hot0_1.drop 7
    have hM := hM.drop 7
    have ho4 := ho4.drop 7
    have ho8 := ho8.drop 7
    have ho12 := ho12.drop 7
    have ho16 := ho16.drop 7
    have ho20 := ho20.drop 7
    have ho26 := ho26.freeze
    have ho36 := ho36.drop 7
    obtain rfl := someI h
    exact ⟨.inr rfl, _, _, (resK_w (sz := 2) hcell109 (Cov.refl _) rfl rfl rfl (resK_b hcell110 (Cov.refl _) rfl rfl (resK_t (Cov.refl _) rfl rfl))), rfl, ⟨((S62.drop 6).drop 7), rfl, rfl, hM, v19, v25, rfl, ho20, ho26⟩⟩
  · have h := iteF q40 h
    refine WC.skip (thenL_n (WC.seq (WC.region ?_)))
    refine WO.ldWA (sz := 2) (r := [v19, v25]) rfl ho4.at0 ho4 rfl rfl rfl ho4.lt rfl ?_
    obtain ⟨r111, e112, h⟩ := bindS h
    refine WO.callG (S := S37) [(6, 0), (7, 0)] [(902, 9), (904, 10)] rfl rfl (F23_ok (S0 := S37.mp [(6, 0), (7, 0)]) e112 (ho20.mp0 rfl) (ho26.mp0 rfl)) (fun _ S117 S118 hb hR => ?_)
    obtain ⟨v113, v115, rfl, hR0, hR1⟩ := hR
    have c119 : Ch 1 S37 S118 := hb.ch [] 1
    have hot0_0 := hot0_0.to c119
    have hot0_1 := hot0_1.to c119
    have hM := hM.to c119
    have ho4 := ho4.to c119
    have ho8 := ho8.to c119
    have ho12 := ho12.to c119
    have ho16 := ho16.to c119
    have ho20 := ho20.to c119
    have ho26 := ho26.to c119
    have ho36 := ho36.to c119
    have ho114 := hR0.bkF hb rfl Lay.flat_fl
    have ho116 := hR1.bkF hb rfl Lay.flat_fl
    refine WO.mv rfl ?_
    refine WO.do rfl rfl ?_
    refine WO.do rfl rfl ?_
    refine WO.asg rfl (WO.asg rfl (WO.nil (thenL_n (WC.seq (WC.seq (WC.region ?_))))))
    refine WO.fldS (j := 0) (q := 0) rfl ho8.at0 ho8.ptr rfl rfl rfl (by decide) ?_
    refine WO.ldB (j := 0) (q := 0) rfl rfl ho8 rfl rfl rfl ?_
    refine WO.bin rfl rfl (by decide) (by decide) rfl ?_
    refine WO.mv rfl ?_
    refine WO.cutB (d := 50) 4 ((((t1.1, t1.2.1, t1.2.2.1, t1.2.2.2)).1 == 5) || (((t1.1, t1.2.1, t1.2.2.1, t1.2.2.2)).1 == 7)) (fun q120 => ?_) (fun q120 => ?_) ?_
    · refine WO.gno rfl rfl (WO.gno rfl rfl (WO.gno rfl rfl ?_))
      refine WO.pickT rfl rfl ?_
      refine WO.nil ?_
      exact ⟨rfl, rfl, (Cov.any rfl (orT q120) (Cov.skip rfl (Cov.skip rfl (Cov.skip rfl (Cov.skip rfl (Cov.skip rfl (Cov.refl _)))))))⟩
    · skip
      refine WO.gyes rfl rfl ?_
      refine WO.fldS (j := 0) (q := 0) rfl ho8.at0 ho8.ptr rfl rfl rfl (by decide) ?_
      refine WO.gyes rfl rfl ?_
      refine WO.ldB (j := 0) (q := 0) rfl rfl ho8 rfl rfl rfl ?_
      refine WO.gyes rfl rfl ?_
      refine WO.bin rfl rfl (by decide) (by decide) rfl ?_
      refine WO.pickF rfl rfl ?_
      refine WO.nil ?_
      exact ⟨rfl, rfl, (Cov.any rfl (orF q120) (Cov.skip rfl (Cov.skip rfl (Cov.skip rfl (Cov.skip rfl (Cov.skip rfl (Cov.refl _)))))))⟩
    refine WO.nil (thenL_n ?_)
    refine WC.cond rfl (fun q121 => ?_) (fun q121 => ?_)
    · have h := iteT q121 h
      refine WC.seq (WC.region (WO.asg rfl (WO.asg rfl (WO.nil (thenL_n (WC.seq (WC.seq (WC.region ?_))))))))
      refine WO.fldS (j := 0) (q := 0) rfl ho8.at0 ho8.ptr rfl rfl rfl (by decide) ?_
      refine WO.ldB (j := 0) (q := 0) rfl rfl ho8 rfl rfl rfl ?_
      refine WO.bin rfl rfl (by decide) (by decide) rfl ?_
      refine WO.nil (thenL_n ?_)
      obtain ⟨b137, e138, h⟩ := bindS h
      refine WC.mono (Q' := (fun b e l' m' n' => e = .normal ∧ ∃ S139 : Cx fl, S139.m = m' ∧ S139.n = n' ∧ Cov l' [(2, .sc ((.ptr b1 0))), (4, .sc ((.ptr b9 0))), (5, .sc v13), (7, .sc v33), (10, .sc (.int .i64 b.1)), (11, .sc (.int .i64 b.2))] ∧ ChM S0 S139 ∧ Bw S139 2 (.ptr b1 0) [v19, v25] ∧ Ow Y41 S139 6 v19 r17 ∧ Ow Y65 S139 7 v25 r23 ∧ Bw S139 4 (.ptr b9 0) [.nils, .nils] ∧ Bk Y34 S139 5 v13 ((([], 0) : (List UInt8) × Int)) ∧ Bk Y34 S139 8 v33 ((([], 0) : (List UInt8) × Int))) b137) ?_ ?_
      · have h := e138
        dsimp only at h ⊢
        refine WC.cond rfl (fun q122 => ?_) (fun q122 => ?_)
        · have h := iteT q122 h
          refine WC.region (WO.mv rfl ?_)
          refine WO.fldS (j := 0) (q := 0) rfl ho8.at0 ho8.ptr rfl rfl rfl (by decide) ?_
          refine WO.ldB (j := 0) (q := 1) rfl rfl ho8 rfl rfl rfl ?_
          obtain ⟨r123, e124, h⟩ := bindS h
          refine WO.callE (S := S118) rfl rfl (F24_ok e124 ho114.vw) (fun S125 c126 => ?_)
          have hot0_0 := hot0_0.to c126
          have hot0_1 := hot0_1.to c126
          have hM := hM.to c126
          have ho4 := ho4.to c126
          have ho8 := ho8.to c126
          have ho12 := ho12.to c126
          have ho16 := ho16.to c126
          have ho20 := ho20.to c126
          have ho26 := ho26.to c126
          have ho36 := ho36.to c126
          have ho114 := ho114.to c126
          have ho116 := ho116.to c126
          refine WO.mv rfl ?_
          refine WO.do rfl rfl ?_
          refine WO.do rfl rfl ?_
          refine WO.asg rfl (WO.asg rfl (WO.nil ?_))
          obtain rfl := someI h
          exact ⟨rfl, ⟨S125, rfl, rfl, (Cov.cons rfl (Cov.cons rfl (Cov.cons rfl (Cov.cons rfl (Cov.cons rfl (Cov.cons rfl (Cov.nil _))))))), hM, ho4, ho20, ho26, ho12, ho16, ho36⟩⟩
        · have h := iteF q122 h
          refine WC.seq (WC.region (WO.mv rfl ?_))
          obtain ⟨r127, e128, h⟩ := bindS h
          refine WO.callE (S := S118) rfl rfl (F25_26_ok e128 ho116.vw) (fun S129 c130 => ?_)
          have hot0_0 := hot0_0.to c130
          have hot0_1 := hot0_1.to c130
          have hM := hM.to c130
          have ho4 := ho4.to c130
          have ho8 := ho8.to c130
          have ho12 := ho12.to c130
          have ho16 := ho16.to c130
          have ho20 := ho20.to c130
          have ho26 := ho26.to c130
          have ho36 := ho36.to c130
          have ho114 := ho114.to c130
          have ho116 := ho116.to c130
          refine WO.nil (thenL_n ?_)
          refine WC.cond rfl (fun q131 => ?_) (fun q131 => ?_)
          · have h := iteT q131 h
            refine WC.region (WO.asg rfl (WO.nil ?_))
            obtain rfl := someI h
            exact ⟨rfl, ⟨S129, rfl, rfl, (Cov.cons rfl (Cov.cons rfl (Cov.cons rfl (Cov.cons rfl (Cov.cons rfl (Cov.cons rfl (Cov.nil _))))))), hM, ho4, ho20, ho26, ho12, ho16, ho36⟩⟩
          · have h := iteF q131 h
            refine WC.seq (WC.region (WO.mv rfl (WO.mv rfl ?_)))
            obtain ⟨r132, e133, h⟩ := bindS h
            refine WO.callE (S := S129) rfl rfl (F27_ok e133 ho114.vw ho116.vw) (fun S134 c135 => ?_)
            have hot0_0 := hot0_0.to c135
            have hot0_1 := hot0_1.to c135
            have hM := hM.to c135
            have ho4 := ho4.to c135
            have ho8 := ho8.to c135
            have ho12 := ho12.to c135
            have ho16 := ho16.to c135
            have ho20 := ho20.to c135
            have ho26 := ho26.to c135
            have ho36 := ho36.to c135
            have ho114 := ho114.to c135
            have ho116 := ho116.to c135
            refine WO.asg rfl (WO.nil (thenL_n (WC.seq (WC.region (WO.mv rfl ?_)))))
            refine WO.bin rfl rfl (by decide) (by decide) rfl ?_
            refine WO.nil (thenL_n ?_)
            refine WC.cond rfl (fun q136 => ?_) (fun q136 => ?_)
            · have h := iteT q136 h
              refine WC.region (WO.asg rfl (WO.nil ?_))
              obtain rfl := someI h
              exact ⟨rfl, ⟨S134, rfl, rfl, (Cov.cons rfl (Cov.cons rfl (Cov.cons rfl (Cov.cons rfl (Cov.cons rfl (Cov.cons rfl (Cov.nil _))))))), hM, ho4, ho20, ho26, ho12, ho16, ho36⟩⟩
            · have h := iteF q136 h
              refine WC.skip ?_
              obtain rfl := someI h
              exact ⟨rfl, ⟨S134, rfl, rfl, (Cov.cons rfl (Cov.cons rfl (Cov.cons rfl (Cov.cons rfl (Cov.cons rfl (Cov.cons rfl (Cov.nil _))))))), hM, ho4, ho20, ho26, ho12, ho16, ho36⟩⟩
      dsimp only
      rintro _ _ _ _ ⟨rfl, ⟨S140, rfl, rfl, hc141, hM, ho4, ho20, ho26, ho12, ho16, ho36⟩⟩
      refine thenL_n (WC.cov hc141 (WC.seq (WC.seq (WC.region (WO.mv rfl ?_)))))
      refine WO.bin rfl rfl (by decide) (by decide) rfl ?_
      refine WO.nil (thenL_n ?_)
      refine WC.cond rfl (fun q142 => ?_) (fun q142 => ?_)
      · have h := iteT q142 h
        refine WC.seq ?_
        refine WC.drawDN rfl ?_
        have ho4z := ho4.lt
        have ho20z := ho20.oz
        have ho26z := ho26.oz
        have ho12z := ho12.lt
        have ho16z := ho16.lt
        have ho36z := ho36.lt
        have k143 := ho4.bko
        have k144 := ho20.bko
        have k145 := ho26.bko
        have k146 := ho12.bko
        have k147 := ho16.bko
        have k148 := ho36.bko
        refine WO.ldWA (sz := 2) (r := [v19, v25]) rfl ho4.at0 ho4 rfl rfl rfl ho4z (limLe_self _) ?_
        refine WO.ldBAz (j := 0) rfl ho36.at0 ho36 rfl ho36z (limLe_self _) ?_
        refine WO.mv rfl ?_
        refine WO.stW (S := S140) (r := [v19, v25]) rfl ho12.at0 rfl rfl ho12 rfl rfl rfl rfl rfl (fun S149 c150 ho12 => ?_)
        have ho20z := ho20z.tow c150
        have ho26z := ho26z.tow c150
        have hM := hM.to c150
        have ho4 := ho4.to c150
        have ho20 := ho20.to c150
        have ho26 := ho26.to c150
        have ho16 := ho16.to c150
        have ho36 := ho36.to c150
        have n151 := c150.n
        have k152 := ho4.bko
        have k153 := ho20.bko
        have k154 := ho26.bko
        have k155 := ho12.bko
        have k156 := ho16.bko
        have k157 := ho36.bko
        refine WO.stBA (u' := ((((([], 0) : (List UInt8) × Int)).1, ((([], 0) : (List UInt8) × Int)).2) : (List UInt8) × Int)) rfl ho16.at0 rfl ho16 rfl rfl (fun S158 c159 ho16 => ?_)
        have ho20z := ho20z.tow c159
        have ho26z := ho26z.tow c159
        have hM := hM.to c159
        have ho4 := ho4.to c159
        have ho20 := ho20.to c159
        have ho26 := ho26.to c159
        have ho12 := ho12.to c159
        have ho36 := ho36.to c159
        have n160 := c159.n
        have k161 := ho4.bko
        have k162 := ho20.bko
        have k163 := ho26.bko
        have k164 := ho12.bko
        have k165 := ho16.bko
        have k166 := ho36.bko
        refine WO.asg rfl (WO.nil ?_)
        refine ⟨fun tt hs => dynOk_of [(1, 3)] (by kernel_rfl) ⟨?_, trivial⟩, ?_⟩
        · show djT tt _ _ = true
          have nb167 := k143.nb k144
          have nb168 := k143.nb k145
          have nb169 := k143.nb k146
          have nb170 := k143.nb k147
          have nb171 := k143.nb k148
          have nb172 := k144.nb k145
          have nb173 := k144.nb k146
          have nb174 := k144.nb k147
          have nb175 := k144.nb k148
          have nb176 := k145.nb k146
          have nb177 := k145.nb k147
          have nb178 := k145.nb k148
          have nb179 := k146.nb k147
          have nb180 := k146.nb k148
          have nb181 := k147.nb k148
          refine djT_of hs rfl rfl rfl rfl rfl ?_ ?_ ?_ <;> simp only [NBs, NB1, and_true, true_and] <;> (repeat' apply And.intro) <;> (first | assumption | (apply NB.symm; assumption) | exact NB.none rfl | exact NB.noneR rfl | (apply NB.pt; first | assumption | (apply NB.symm; assumption)) | (apply NB.symm; apply NB.pt; first | assumption | (apply NB.symm; assumption) | (apply NB.symm; apply NB.pt; first | assumption | (apply NB.symm; assumption))))
        clear k143 k144 k145 k146 k147 k148 k152 k153 k154 k155 k156 k157 k161 k162 k163 k164 k165 k166 n151 n160
        refine thenL_n (WC.ret (thenL_r (thenL_r ?_)))
        have hcell182 := ho12
        have hcell183 := ho16
        have hM := hM.drop 6
        have ho4 := ho4.drop 6
        have ho20 := ho20.freeze
        have ho26 := ho26.drop 6
        have ho12 := ho12.drop 6
        have ho16 := ho16.drop 6
        have ho36 := ho36.drop 6
        have hM := hM.drop 7
        have ho4 := ho4.drop 7
        have ho20 := ho20.drop 7
        have ho26 := ho26.freeze
        have ho12 := ho12.drop 7
        have ho16 := ho16.drop 7
        have ho36 := ho36.drop 7
        obtain rfl := someI h
        exact ⟨.inr rfl, _, _, (resK_w (sz := 2) hcell182 (Cov.refl _) rfl rfl rfl (resK_b hcell183 (Cov.refl _) rfl rfl (resK_t (Cov.refl _) rfl rfl))), rfl, ⟨((S158.drop 6).drop 7), rfl, rfl, hM, v19, v25, rfl, ho20, ho26⟩⟩
      · have h := iteF q142 h
        refine WC.skip (thenL_n (WC.seq (WC.region ?_)))
        refine WO.fldS (j := 0) (q := 0) rfl ho4.at0 ho4.ptr rfl rfl rfl (by decide) ?_
        refine WO.ldW rfl rfl ho4 rfl rfl ho4.lt rfl ?_
        refine WO.mv rfl ?_
        obtain ⟨x184, e185, h⟩ := bindS h
        refine WO.ixS rfl rfl ho20.slv (at?_lt e185) rfl ?_
        refine WO.fldS rfl rfl (SlV.ptr ho20.slv (at?_nat e185)) rfl rfl rfl (by decide) ?_
        refine WO.ldF rfl ho20.ro (fun _ hi => hi) (at?_get e185) rfl rfl rfl ?_
        refine WO.bin rfl rfl (by decide) (by decide) rfl ?_
        obtain ⟨x186, e187, h⟩ := bindS h
        refine WO.ixS rfl rfl ho20.slv (at?_lt e187) rfl ?_
        refine WO.fldS rfl rfl (SlV.ptr ho20.slv (at?_nat e187)) rfl rfl rfl (by decide) ?_
        refine WO.stF (q := 2) (u' := (x186.1, x186.2.1, (wrapA .i64 (x184.2.2 + 1)))) rfl rfl ho20 (at?_get e187) rfl (by decide) rfl rfl (fun S188 c189 ho20 => ?_)
        have hM := hM.to c189
        have ho4 := ho4.to c189
        have ho26 := ho26.to c189
        have ho12 := ho12.to c189
        have ho16 := ho16.to c189
        have ho36 := ho36.to c189
        refine WO.nil (thenL_n (WC.seq ?_))
        refine WC.drawDN rfl ?_
        have ho4z := ho4.lt
        have ho20z := ho20.oz
        have ho26z := ho26.oz
        have ho12z := ho12.lt
        have ho16z := ho16.lt
        have ho36z := ho36.lt
        have k190 := ho4.bko
        have k191 := ho20.bko
        have k192 := ho26.bko
        have k193 := ho12.bko
        have k194 := ho16.bko
        have k195 := ho36.bko
        refine WO.ldWA (sz := 2) (r := [v19, v25]) rfl ho4.at0 ho4 rfl rfl rfl ho4z (limLe_self _) ?_
        refine WO.fldS (j := 0) (q := 0) rfl ho4.at0 ho4.ptr rfl rfl rfl (by decide) ?_
        refine WO.ldW rfl rfl ho4 rfl rfl ho4z (limLe_self _) ?_
        refine WO.mv rfl ?_
        obtain ⟨x196, e197, h⟩ := bindS h
        refine WO.ixS rfl rfl ho20.slv (at?_lt e197) rfl ?_
        refine WO.fldS rfl rfl (SlV.ptr ho20.slv (at?_nat e197)) rfl rfl rfl (by decide) ?_
        refine WO.ldF rfl ho20z (fun _ hi => hi.1) (at?_get e197) rfl rfl (limLe_self _) ?_
        refine WO.fldS (j := 0) (q := 0) rfl ho4.at0 ho4.ptr rfl rfl rfl (by decide) ?_
        refine WO.ldW rfl rfl ho4 rfl rfl ho4z (limLe_self _) ?_
        refine WO.mv rfl ?_
        obtain ⟨x198, e199, h⟩ := bindS h
        refine WO.ixS rfl rfl ho20.slv (at?_lt e199) rfl ?_
        refine WO.fldS rfl rfl (SlV.ptr ho20.slv (at?_nat e199)) rfl rfl rfl (by decide) ?_
        refine WO.ldF rfl ho20z (fun _ hi => hi.1) (at?_get e199) rfl rfl (limLe_self _) ?_
        refine WO.do rfl rfl ?_
        refine WO.stW (S := S188) (r := [v19, v25]) rfl ho12.at0 rfl rfl ho12 rfl rfl rfl rfl rfl (fun S200 c201 ho12 => ?_)
        have ho20z := ho20z.tow c201
        have ho26z := ho26z.tow c201
        have hM := hM.to c201
        have ho4 := ho4.to c201
        have ho20 := ho20.to c201
        have ho26 := ho26.to c201
        have ho16 := ho16.to c201
        have ho36 := ho36.to c201
        have n202 := c201.n
        have k203 := ho4.bko
        have k204 := ho20.bko
        have k205 := ho26.bko
        have k206 := ho12.bko
        have k207 := ho16.bko
        have k208 := ho36.bko
        refine WO.stBA (u' := (x196.1, x198.2.2)) rfl ho16.at0 rfl ho16 rfl rfl (fun S209 c210 ho16 => ?_)
        have ho20z := ho20z.tow c210
        have ho26z := ho26z.tow c210
        have hM := hM.to c210
        have ho4 := ho4.to c210
        have ho20 := ho20.to c210
        have ho26 := ho26.to c210
        have ho12 := ho12.to c210
        have ho36 := ho36.to c210
        have n211 := c210.n
        have k212 := ho4.bko
        have k213 := ho20.bko
        have k214 := ho26.bko
        have k215 := ho12.bko
        have k216 := ho16.bko
        have k217 := ho36.bko
        refine WO.asg rfl (WO.nil ?_)
        refine ⟨fun tt hs => dynOk_of [(2, 14), (6, 14), (8, 14), (12, 14)] (by kernel_rfl) ⟨?_, ?_, ?_, ?_, trivial⟩, ?_⟩
        · show djT tt _ _ = true
          have nb218 := k190.nb k191
          have nb219 := k190.nb k192
          have nb220 := k190.nb k193
          have nb221 := k190.nb k194
          have nb222 := k190.nb k195
          have nb223 := k191.nb k192
          have nb224 := k191.nb k193
          have nb225 := k191.nb k194
          have nb226 := k191.nb k195
          have nb227 := k192.nb k193
          have nb228 := k192.nb k194
          have nb229 := k192.nb k195
          have nb230 := k193.nb k194
          have nb231 := k193.nb k195
          have nb232 := k194.nb k195
          refine djT_of hs rfl rfl rfl rfl rfl ?_ ?_ ?_ <;> simp only [NBs, NB1, and_true, true_and] <;> (repeat' apply And.intro) <;> (first | assumption | (apply NB.symm; assumption) | exact NB.none rfl | exact NB.noneR rfl | (apply NB.pt; first | assumption | (apply NB.symm; assumption)) | (apply NB.symm; apply NB.pt; first | assumption | (apply NB.symm; assumption) | (apply NB.symm; apply NB.pt; first | assumption | (apply NB.symm; assumption))))
        · show djT tt _ _ = true
          have nb218 := k190.nb k191
          have nb219 := k190.nb k192
          have nb220 := k190.nb k193
          have nb221 := k190.nb k194
          have nb222 := k190.nb k195
          have nb223 := k191.nb k192
          have nb224 := k191.nb k193
          have nb225 := k191.nb k194
          have nb226 := k191.nb k195
          have nb227 := k192.nb k193
          have nb228 := k192.nb k194
          have nb229 := k192.nb k195
          have nb230 := k193.nb k194
          have nb231 := k193.nb k195
          have nb232 := k194.nb k195
          refine djT_of hs rfl rfl rfl rfl rfl ?_ ?_ ?_ <;> simp only [NBs, NB1, and_true, true_and] <;> (repeat' apply And.intro) <;> (first | assumption | (apply NB.symm; assumption) | exact NB.none rfl | exact NB.noneR rfl | (apply NB.pt; first | assumption | (apply NB.symm; assumption)) | (apply NB.symm; apply NB.pt; first | assumption | (apply NB.symm; assumption) | (apply NB.symm; apply NB.pt; first | assumption | (apply NB.symm; assumption))))
        · show djT tt _ _ = true
          have nb218 := k190.nb k191
          have nb219 := k190.nb k192
          have nb220 := k190.nb k193
          have nb221 := k190.nb k194
          have nb222 := k190.nb k195
          have nb223 := k191.nb k192
          have nb224 := k191.nb k193
          have nb225 := k191.nb k194
          have nb226 := k191.nb k195
          have nb227 := k192.nb k193
          have nb228 := k192.nb k194
          have nb229 := k192.nb k195
          have nb230 := k193.nb k194
          have nb231 := k193.nb k195
          have nb232 := k194.nb k195
          refine djT_of hs rfl rfl rfl rfl rfl ?_ ?_ ?_ <;> simp only [NBs, NB1, and_true, true_and] <;> (repeat' apply And.intro) <;> (first | assumption | (apply NB.symm; assumption) | exact NB.none rfl | exact NB.noneR rfl | (apply NB.pt; first | assumption | (apply NB.symm; assumption)) | (apply NB.symm; apply NB.pt; first | assumption | (apply NB.symm; assumption) | (apply NB.symm; apply NB.pt; first | assumption | (apply NB.symm; assumption))))
        · show djT tt _ _ = true
          have nb218 := k190.nb k191
          have nb219 := k190.nb k192
          have nb220 := k190.nb k193
          have nb221 := k190.nb k194
          have nb222 := k190.nb k195
          have nb223 := k191.nb k192
          have nb224 := k191.nb k193
          have nb225 := k191.nb k194
          have nb226 := k191.nb k195
          have nb227 := k192.nb k193
          have nb228 := k192.nb k194
          have nb229 := k192.nb k195
          have nb230 := k193.nb k194
          have nb231 := k193.nb k195
          have nb232 := k194.nb k195
          refine djT_of hs rfl rfl rfl rfl rfl ?_ ?_ ?_ <;> simp only [NBs, NB1, and_true, true_and] <;> (repeat' apply And.intro) <;> (first | assumption | (apply NB.symm; assumption) | exact NB.none rfl | exact NB.noneR rfl | (apply NB.pt; first | assumption | (apply NB.symm; assumption)) | (apply NB.symm; apply NB.pt; first | assumption | (apply NB.symm; assumption) | (apply NB.symm; apply NB.pt; first | assumption | (apply NB.symm; assumption))))
        clear k190 k191 k192 k193 k194 k195 k203 k204 k205 k206 k207 k208 k212 k213 k214 k215 k216 k217 n202 n211
        refine thenL_n (WC.ret (thenL_r ?_))
        have hcell233 := ho12
        have hcell234 := ho16
        have hM := hM.drop 6
        have ho4 := ho4.drop 6
        have ho20 := ho20.freeze
        have ho26 := ho26.drop 6
        have ho12 := ho12.drop 6
        have ho16 := ho16.drop 6
        have ho36 := ho36.drop 6
        have hM := hM.drop 7
        have ho4 := ho4.drop 7
        have ho20 := ho20.drop 7
        have ho26 := ho26.freeze
        have ho12 := ho12.drop 7
        have ho16 := ho16.drop 7
        have ho36 := ho36.drop 7
        obtain rfl := someI h
        exact ⟨.inr rfl, _, _, (resK_w (sz := 2) hcell233 (Cov.refl _) rfl rfl rfl (resK_b hcell234 (Cov.refl _) rfl rfl (resK_t (Cov.refl _) rfl rfl))), rfl, ⟨((S209.drop 6).drop 7), rfl, rfl, hM, v19, v25, rfl, ho20, ho26⟩⟩
    · have h := iteF q121 h
      refine WC.skip (thenL_n (WC.seq (WC.seq (WC.region ?_))))
      refine WO.fldS (j := 0) (q := 0) rfl ho8.at0 ho8.ptr rfl rfl rfl (by decide) ?_
      refine WO.ldB (j := 0) (q := 2) rfl rfl ho8 rfl rfl rfl ?_
      obtain ⟨r235, e236, h⟩ := bindS h
      refine WO.callE (S := S118) rfl rfl (F28_ok e236) (fun S237 c238 => ?_)
      have hot0_0 := hot0_0.to c238
      have hot0_1 := hot0_1.to c238
      have hM := hM.to c238
      have ho4 := ho4.to c238
      have ho8 := ho8.to c238
      have ho12 := ho12.to c238
      have ho16 := ho16.to c238
      have ho20 := ho20.to c238
      have ho26 := ho26.to c238
      have ho36 := ho36.to c238
      have ho114 := ho114.to c238
      have ho116 := ho116.to c238
      refine WO.do rfl rfl ?_
      refine WO.nil (thenL_n ?_)
      refine WC.cond rfl (fun q239 => ?_) (fun q239 => ?_)
      · have h := iteT q239 h
        refine WC.seq ?_
        refine WC.drawDN rfl ?_
        have hot0_0z := hot0_0.oz
        have hot0_1z := hot0_1.oz
        have ho4z := ho4.lt
        have ho8z := ho8.lt
        have ho12z := ho12.lt
        have ho16z := ho16.lt
        have ho20z := ho20.oz
        have ho26z := ho26.oz
        have ho36z := ho36.lt
        have ho114z := ho114.oz
        have ho116z := ho116.oz
        have k240 := hot0_0.bko
        have k241 := hot0_1.bko
        have k242 := ho4.bko
        have k243 := ho8.bko
        have k244 := ho12.bko
        have k245 := ho16.bko
        have k246 := ho20.bko
        have k247 := ho26.bko
        have k248 := ho36.bko
        have k249 := ho114.bko
        have k250 := ho116.bko
        refine WO.ldWA (sz := 2) (r := [v19, v25]) rfl ho4.at0 ho4 rfl rfl rfl ho4z (limLe_self _) ?_
        refine WO.ldBAz (j := 0) rfl ho36.at0 ho36 rfl ho36z (limLe_self _) ?_
        refine WO.stW (S := S237) (r := [v19, v25]) rfl ho12.at0 rfl rfl ho12 rfl rfl rfl rfl rfl (fun S251 c252 ho12 => ?_)
        have hot0_0z := hot0_0z.toz c252
        have hot0_1z := hot0_1z.toz c252
        have ho20z := ho20z.tow c252
        have ho26z := ho26z.tow c252
        have ho114z := ho114z.tow c252
        have ho116z := ho116z.tow c252
        have hot0_0 := hot0_0.to c252
        have hot0_1 := hot0_1.to c252
        have hM := hM.to c252
        have ho4 := ho4.to c252
        have ho8 := ho8.to c252
        have ho16 := ho16.to c252
        have ho20 := ho20.to c252
        have ho26 := ho26.to c252
        have ho36 := ho36.to c252
        have ho114 := ho114.to c252
        have ho116 := ho116.to c252
        have n253 := c252.n
        have k254 := hot0_0.bko
        have k255 := hot0_1.bko
        have k256 := ho4.bko
        have k257 := ho8.bko
        have k258 := ho12.bko
        have k259 := ho16.bko
        have k260 := ho20.bko
        have k261 := ho26.bko
        have k262 := ho36.bko
        have k263 := ho114.bko
        have k264 := ho116.bko
        refine WO.stBA (u' := ((((([], 0) : (List UInt8) × Int)).1, ((([], 0) : (List UInt8) × Int)).2) : (List UInt8) × Int)) rfl ho16.at0 rfl ho16 rfl rfl (fun S265 c266 ho16 => ?_)
        have hot0_0z := hot0_0z.toz c266
        have hot0_1z := hot0_1z.toz c266
        have ho20z := ho20z.tow c266
        have ho26z := ho26z.tow c266
        have ho114z := ho114z.tow c266
        have ho116z := ho116z.tow c266
        have hot0_0 := hot0_0.to c266
        have hot0_1 := hot0_1.to c266
        have hM := hM.to c266
        have ho4 := ho4.to c266
        have ho8 := ho8.to c266
        have ho12 := ho12.to c266
        have ho20 := ho20.to c266
        have ho26 := ho26.to c266
        have ho36 := ho36.to c266
        have ho114 := ho114.to c266
        have ho116 := ho116.to c266
        have n267 := c266.n
        have k268 := hot0_0.bko
        have k269 := hot0_1.bko
        have k270 := ho4.bko
        have k271 := ho8.bko
        have k272 := ho12.bko
        have k273 := ho16.bko
        have k274 := ho20.bko
        have k275 := ho26.bko
        have k276 := ho36.bko
        have k277 := ho114.bko
        have k278 := ho116.bko
        refine WO.asg rfl (WO.nil ?_)
        refine ⟨fun tt hs => dynOk_of [(1, 2)] (by kernel_rfl) ⟨?_, trivial⟩, ?_⟩
        · show djT tt _ _ = true
          have nb279 := k240.nb k242
          have nb280 := k240.nb k243
          have nb281 := k240.nb k244
          have nb282 := k240.nb k245
          have nb283 := k240.nb k246
          have nb284 := k240.nb k247
          have nb285 := k240.nb k248
          have nb286 := k240.nb k249
          have nb287 := k240.nb k250
          have nb288 := k241.nb k242
          have nb289 := k241.nb k243
          have nb290 := k241.nb k244
          have nb291 := k241.nb k245
          have nb292 := k241.nb k246
          have nb293 := k241.nb k247
          have nb294 := k241.nb k248
          have nb295 := k241.nb k249
          have nb296 := k241.nb k250
          have nb297 := k242.nb k243
          have nb298 := k242.nb k244
          have nb299 := k242.nb k245
          have nb300 := k242.nb k246
          have nb301 := k242.nb k247
          have nb302 := k242.nb k248
          have nb303 := k242.nb k249
          have nb304 := k242.nb k250
          have nb305 := k243.nb k244
          have nb306 := k243.nb k245
          have nb307 := k243.nb k246
          have nb308 := k243.nb k247
          have nb309 := k243.nb k248
          have nb310 := k243.nb k249
          have nb311 := k243.nb k250
          have nb312 := k244.nb k245
          have nb313 := k244.nb k246
          have nb314 := k244.nb k247
          have nb315 := k244.nb k248
          have nb316 := k244.nb k249
          have nb317 := k244.nb k250
          have nb318 := k245.nb k246
          have nb319 := k245.nb k247
          have nb320 := k245.nb k248
          have nb321 := k245.nb k249
          have nb322 := k245.nb k250
          have nb323 := k246.nb k247
          have nb324 := k246.nb k248
          have nb325 := k246.nb k249
          have nb326 := k246.nb k250
          have nb327 := k247.nb k248
          have nb328 := k247.nb k249
          have nb329 := k247.nb k250
          have nb330 := k248.nb k249
          have nb331 := k248.nb k250
          have nb332 := k249.nb k250
          refine djT_of hs rfl rfl rfl rfl rfl ?_ ?_ ?_ <;> simp only [NBs, NB1, and_true, true_and] <;> (repeat' apply And.intro) <;> (first | assumption | (apply NB.symm; assumption) | exact NB.none rfl | exact NB.noneR rfl | (apply NB.pt; first | assumption | (apply NB.symm; assumption)) | (apply NB.symm; apply NB.pt; first | assumption | (apply NB.symm; assumption) | (apply NB.symm; apply NB.pt; first | assumption | (apply NB.symm; assumption))))
        clear k240 k241 k242 k243 k244 k245 k246 k247 k248 k249 k250 k254 k255 k256 k257 k258 k259 k260 k261 k262 k263 k264 k268 k269 k270 k271 k272 k273 k274 k275 k276 k277 k278 n253 n267
        refine thenL_n (WC.ret (thenL_r ?_))
        have hcell333 := ho12
        have hcell334 := ho16
        have hot0_0 := hot0_0.drop 6
        have hot0_1 := hot0_1.drop 6
        have hM := hM.drop 6
        have ho4 := ho4.drop 6
        have ho8 := ho8.drop 6
        have ho12 := ho12.drop 6
        have ho16 := ho16.drop 6
        have ho20 := ho20.freeze
        have ho26 := ho26.drop 6
        have ho36 := ho36.drop 6
        have ho114 := ho114.drop 6
        have ho116 := ho116.drop 6
        have hot0_0 := hot0_0.drop 7
        have hot0_1 := hot0_1.drop 7
        have hM := hM.drop 7
        have ho4 := ho4.drop 7
        have ho8 := ho8.drop 7
        have ho12 := ho12.drop 7
        have ho16 := ho16.drop 7
        have ho20 := ho20.drop 7
        have ho26 := ho26.freeze
        have ho36 := ho36.drop 7
        have ho114 := ho114.drop 7
        have ho116 := ho116.drop 7
        obtain rfl := someI h
        exact ⟨.inr rfl, _, _, (resK_w (sz := 2) hcell333 (Cov.refl _) rfl rfl rfl (resK_b hcell334 (Cov.refl _) rfl rfl (resK_t (Cov.refl _) rfl rfl))), rfl, ⟨((S265.drop 6).drop 7), rfl, rfl, hM, v19, v25, rfl, ho20, ho26⟩⟩
      · have h := iteF q239 h
        refine WC.skip (thenL_n (WC.seq (WC.region ?_)))
        refine WO.ldWA (sz := 2) (r := [v19, v25]) rfl ho4.at0 ho4 rfl rfl rfl ho4.lt rfl ?_
        refine WO.fldS (j := 0) (q := 0) rfl ho8.at0 ho8.ptr rfl rfl rfl (by decide) ?_
        refine WO.ldB (j := 0) (q := 2) rfl rfl ho8 rfl rfl rfl ?_
        obtain ⟨r335, e336, h⟩ := bindS h
        refine WO.callE (S := S237) rfl rfl (F10_ok e336 ho20.vw ho26.vw) (fun S337 c338 => ?_)
        have hot0_0 := hot0_0.to c338
        have hot0_1 := hot0_1.to c338
        have hM := hM.to c338
        have ho4 := ho4.to c338
        have ho8 := ho8.to c338
        have ho12 := ho12.to c338
        have ho16 := ho16.to c338
        have ho20 := ho20.to c338
        have ho26 := ho26.to c338
        have ho36 := ho36.to c338
        have ho114 := ho114.to c338
        have ho116 := ho116.to c338
        refine WO.asg rfl (WO.nil (thenL_n (WC.seq (WC.seq (WC.region ?_)))))
        refine WO.fldS (j := 0) (q := 0) rfl ho8.at0 ho8.ptr rfl rfl rfl (by decide) ?_
        refine WO.ldB (j := 0) (q := 0) rfl rfl ho8 rfl rfl rfl ?_
        refine WO.bin rfl rfl (by decide) (by decide) rfl ?_
        refine WO.nil (thenL_n ?_)
        refine WC.cond rfl (fun q339 => ?_) (fun q339 => ?_)
        · have h := iteT q339 h
          refine WC.seq (WC.block (WC.seq (WC.region (WO.mv rfl ?_))))
          refine WO.bin rfl rfl (by decide) (by decide) rfl ?_
          refine WO.asg rfl (WO.nil (thenL_n ?_))
          refine WC.cond rfl (fun q340 => ?_) (fun q340 => ?_)
          · have h := iteT q340 h
            refine WC.seq ?_
            refine WC.drawDN rfl ?_
            have hot0_0z := hot0_0.oz
            have hot0_1z := hot0_1.oz
            have ho4z := ho4.lt
            have ho8z := ho8.lt
            have ho12z := ho12.lt
            have ho16z := ho16.lt
            have ho20z := ho20.oz
            have ho26z := ho26.oz
            have ho36z := ho36.lt
            have ho114z := ho114.oz
            have ho116z := ho116.oz
            have k341 := hot0_0.bko
            have k342 := hot0_1.bko
            have k343 := ho4.bko
            have k344 := ho8.bko
            have k345 := ho12.bko
            have k346 := ho16.bko
            have k347 := ho20.bko
            have k348 := ho26.bko
            have k349 := ho36.bko
            have k350 := ho114.bko
            have k351 := ho116.bko
            refine WO.ldWA (sz := 2) (r := [v19, v25]) rfl ho4.at0 ho4 rfl rfl rfl ho4z (limLe_self _) ?_
            refine WO.ldBAz (j := 0) rfl ho36.at0 ho36 rfl ho36z (limLe_self _) ?_
            refine WO.stW (S := S337) (r := [v19, v25]) rfl ho12.at0 rfl rfl ho12 rfl rfl rfl rfl rfl (fun S352 c353 ho12 => ?_)
            have hot0_0z := hot0_0z.toz c353
            have hot0_1z := hot0_1z.toz c353
            have ho20z := ho20z.tow c353
            have ho26z := ho26z.tow c353
            have ho114z := ho114z.tow c353
            have ho116z := ho116z.tow c353
            have hot0_0 := hot0_0.to c353
            have hot0_1 := hot0_1.to c353
            have hM := hM.to c353
            have ho4 := ho4.to c353
            have ho8 := ho8.to c353
            have ho16 := ho16.to c353
            have ho20 := ho20.to c353
            have ho26 := ho26.to c353
            have ho36 := ho36.to c353
            have ho114 := ho114.to c353
            have ho116 := ho116.to c353
            have n354 := c353.n
            have k355 := hot0_0.bko
            have k356 := hot0_1.bko
            have k357 := ho4.bko
            have k358 := ho8.bko
            have k359 := ho12.bko
            have k360 := ho16.bko
            have k361 := ho20.bko
            have k362 := ho26.bko
            have k363 := ho36.bko
            have k364 := ho114.bko
            have k365 := ho116.bko
            refine WO.stBA (u' := ((((([], 0) : (List UInt8) × Int)).1, ((([], 0) : (List UInt8) × Int)).2) : (List UInt8) × Int)) rfl ho16.at0 rfl ho16 rfl rfl (fun S366 c367 ho16 => ?_)
            have hot0_0z := hot0_0z.toz c367
            have hot0_1z := hot0_1z.toz c367
            have ho20z := ho20z.tow c367
            have ho26z := ho26z.tow c367
            have ho114z := ho114z.tow c367
            have ho116z := ho116z.tow c367
            have hot0_0 := hot0_0.to c367
            have hot0_1 := hot0_1.to c367
            have hM := hM.to c367
            have ho4 := ho4.to c367
            have ho8 := ho8.to c367
            have ho12 := ho12.to c367
            have ho20 := ho20.to c367
            have ho26 := ho26.to c367
            have ho36 := ho36.to c367
            have ho114 := ho114.to c367
            have ho116 := ho116.to c367
            have n368 := c367.n
            have k369 := hot0_0.bko
            have k370 := hot0_1.bko
            have k371 := ho4.bko
            have k372 := ho8.bko
            have k373 := ho12.bko
            have k374 := ho16.bko
            have k375 := ho20.bko
            have k376 := ho26.bko
            have k377 := ho36.bko
            have k378 := ho114.bko
            have k379 := ho116.bko
            refine WO.asg rfl (WO.nil ?_)
            refine ⟨fun tt hs => dynOk_of [(1, 2)] (by kernel_rfl) ⟨?_, trivial⟩, ?_⟩
            · show djT tt _ _ = true
              have nb380 := k341.nb k343
              have nb381 := k341.nb k344
              have nb382 := k341.nb k345
              have nb383 := k341.nb k346
              have nb384 := k341.nb k347
              have nb385 := k341.nb k348
              have nb386 := k341.nb k349
              have nb387 := k341.nb k350
              have nb388 := k341.nb k351
              have nb389 := k342.nb k343
              have nb390 := k342.nb k344
              have nb391 := k342.nb k345
              have nb392 := k342.nb k346
              have nb393 := k342.nb k347
              have nb394 := k342.nb k348
              have nb395 := k342.nb k349
              have nb396 := k342.nb k350
              have nb397 := k342.nb k351
              have nb398 := k343.nb k344
              have nb399 := k343.nb k345
              have nb400 := k343.nb k346
              have nb401 := k343.nb k347
              have nb402 := k343.nb k348
              have nb403 := k343.nb k349
              have nb404 := k343.nb k350
              have nb405 := k343.nb k351
              have nb406 := k344.nb k345
              have nb407 := k344.nb k346
              have nb408 := k344.nb k347
              have nb409 := k344.nb k348
              have nb410 := k344.nb k349
              have nb411 := k344.nb k350
              have nb412 := k344.nb k351
              have nb413 := k345.nb k346
              have nb414 := k345.nb k347
              have nb415 := k345.nb k348
              have nb416 := k345.nb k349
              have nb417 := k345.nb k350
              have nb418 := k345.nb k351
              have nb419 := k346.nb k347
              have nb420 := k346.nb k348
              have nb421 := k346.nb k349
              have nb422 := k346.nb k350
              have nb423 := k346.nb k351
              have nb424 := k347.nb k348
              have nb425 := k347.nb k349
              have nb426 := k347.nb k350
              have nb427 := k347.nb k351
              have nb428 := k348.nb k349
              have nb429 := k348.nb k350
              have nb430 := k348.nb k351
              have nb431 := k349.nb k350
              have nb432 := k349.nb k351
              have nb433 := k350.nb k351
              refine djT_of hs rfl rfl rfl rfl rfl ?_ ?_ ?_ <;> simp only [NBs, NB1, and_true, true_and] <;> (repeat' apply And.intro) <;> (first | assumption | (apply NB.symm; assumption) | exact NB.none rfl | exact NB.noneR rfl | (apply NB.pt; first | assumption | (apply NB.symm; assumption)) | (apply NB.symm; apply NB.pt; first | assumption | (apply NB.symm; assumption) | (apply NB.symm; apply NB.pt; first | assumption | (apply NB.symm; assumption))))
            clear k341 k342 k343 k344 k345 k346 k347 k348 k349 k350 k351 k355 k356 k357 k358 k359 k360 k361 k362 k363 k364 k365 k369 k370 k371 k372 k373 k374 k375 k376 k377 k378 k379 n354 n368
            refine thenL_n (WC.ret (blockL_r (thenL_r (thenL_r ?_))))
            have hcell434 := ho12
            have hcell435 := ho16
            have hot0_0 := hot0_0.drop 6
            have hot0_1 := hot0_1.drop 6
            have hM := hM.drop 6
            have ho4 := ho4.drop 6
            have ho8 := ho8.drop 6
            have ho12 := ho12.drop 6
            have ho16 := ho16.drop 6
            have ho20 := ho20.freeze
            have ho26 := ho26.drop 6
            have ho36 := ho36.drop 6
            have ho114 := ho114.drop 6
            have ho116 := ho116.drop 6
            have hot0_0 := hot0_0.drop 7
            have hot0_1 := hot0_1.drop 7
            have hM := hM.drop 7
            have ho4 := ho4.drop 7
            have ho8 := ho8.drop 7
            have ho12 := ho12.drop 7
            have ho16 := ho16.drop 7
            have ho20 := ho20.drop 7
            have ho26 := ho26.freeze
            have ho36 := ho36.drop 7
            have ho114 := ho114.drop 7
            have ho116 := ho116.drop 7
            obtain rfl := someI h
            exact ⟨.inr rfl, _, _, (resK_w (sz := 2) hcell434 (Cov.refl _) rfl rfl rfl (resK_b hcell435 (Cov.refl _) rfl rfl (resK_t (Cov.refl _) rfl rfl))), rfl, ⟨((S366.drop 6).drop 7), rfl, rfl, hM, v19, v25, rfl, ho20, ho26⟩⟩
          · have h := iteF q340 h
            refine WC.seq (WC.region ?_)
            refine WO.fldS (j := 0) (q := 0) rfl ho8.at0 ho8.ptr rfl rfl rfl (by decide) ?_
            refine WO.ldB (j := 0) (q := 1) rfl rfl ho8 rfl rfl rfl ?_
            refine WO.bin rfl rfl (by decide) (by decide) rfl ?_
            refine WO.mv rfl ?_
            refine WO.cutB (d := 122) 4 ((decide (((t1.1, t1.2.1, t1.2.2.1, t1.2.2.2)).2.1 < 0)) || (decide (((t1.1, t1.2.1, t1.2.2.1, t1.2.2.2)).2.1 > 100))) (fun q436 => ?_) (fun q436 => ?_) ?_
            · refine WO.gno rfl rfl (WO.gno rfl rfl (WO.gno rfl rfl ?_))
              refine WO.pickT rfl rfl ?_
              refine WO.nil ?_
              exact ⟨rfl, rfl, (Cov.any rfl (orT q436) (Cov.skip rfl (Cov.skip rfl (Cov.skip rfl (Cov.skip rfl (Cov.skip rfl (Cov.refl _)))))))⟩
            · skip
              refine WO.gyes rfl rfl ?_
              refine WO.fldS (j := 0) (q := 0) rfl ho8.at0 ho8.ptr rfl rfl rfl (by decide) ?_
              refine WO.gyes rfl rfl ?_
              refine WO.ldB (j := 0) (q := 1) rfl rfl ho8 rfl rfl rfl ?_
              refine WO.gyes rfl rfl ?_
              refine WO.bin rfl rfl (by decide) (by decide) rfl ?_
              refine WO.pickF rfl rfl ?_
              refine WO.nil ?_
              exact ⟨rfl, rfl, (Cov.any rfl (orF q436) (Cov.skip rfl (Cov.skip rfl (Cov.skip rfl (Cov.skip rfl (Cov.skip rfl (Cov.refl _)))))))⟩
            refine WO.asg rfl (WO.nil (thenL_n ?_))
            refine WC.cond rfl (fun q437 => ?_) (fun q437 => ?_)
            · have h := iteT q437 h
              refine WC.seq ?_
              refine WC.drawDN rfl ?_
              have hot0_0z := hot0_0.oz
              have hot0_1z := hot0_1.oz
              have ho4z := ho4.lt
              have ho8z := ho8.lt
              have ho12z := ho12.lt
              have ho16z := ho16.lt
              have ho20z := ho20.oz
              have ho26z := ho26.oz
              have ho36z := ho36.lt
              have ho114z := ho114.oz
              have ho116z := ho116.oz
              have k438 := hot0_0.bko
              have k439 := hot0_1.bko
              have k440 := ho4.bko
              have k441 := ho8.bko
              have k442 := ho12.bko
              have k443 := ho16.bko
              have k444 := ho20.bko
              have k445 := ho26.bko
              have k446 := ho36.bko
              have k447 := ho114.bko
              have k448 := ho116.bko
              refine WO.ldWA (sz := 2) (r := [v19, v25]) rfl ho4.at0 ho4 rfl rfl rfl ho4z (limLe_self _) ?_
              refine WO.ldBAz (j := 0) rfl ho36.at0 ho36 rfl ho36z (limLe_self _) ?_
              refine WO.stW (S := S337) (r := [v19, v25]) rfl ho12.at0 rfl rfl ho12 rfl rfl rfl rfl rfl (fun S449 c450 ho12 => ?_)
              have hot0_0z := hot0_0z.toz c450
              have hot0_1z := hot0_1z.toz c450
              have ho20z := ho20z.tow c450
              have ho26z := ho26z.tow c450
              have ho114z := ho114z.tow c450
              have ho116z := ho116z.tow c450
              have hot0_0 := hot0_0.to c450
              have hot0_1 := hot0_1.to c450
              have hM := hM.to c450
              have ho4 := ho4.to c450
              have ho8 := ho8.to c450
              have ho16 := ho16.to c450
              have ho20 := ho20.to c450
              have ho26 := ho26.to c450
              have ho36 := ho36.to c450
              have ho114 := ho114.to c450
              have ho116 := ho116.to c450
              have n451 := c450.n
              have k452 := hot0_0.bko
              have k453 := hot0_1.bko
              have k454 := ho4.bko
              have k455 := ho8.bko
              have k456 := ho12.bko
              have k457 := ho16.bko
              have k458 := ho20.bko
              have k459 := ho26.bko
              have k460 := ho36.bko
              have k461 := ho114.bko
              have k462 := ho116.bko
              refine WO.stBA (u' := ((((([], 0) : (List UInt8) × Int)).1, ((([], 0) : (List UInt8) × Int)).2) : (List UInt8) × Int)) rfl ho16.at0 rfl ho16 rfl rfl (fun S463 c464 ho16 => ?_)
              have hot0_0z := hot0_0z.toz c464
              have hot0_1z := hot0_1z.toz c464
              have ho20z := ho20z.tow c464
              have ho26z := ho26z.tow c464
              have ho114z := ho114z.tow c464
              have ho116z := ho116z.tow c464
              have hot0_0 := hot0_0.to c464
              have hot0_1 := hot0_1.to c464
              have hM := hM.to c464
              have ho4 := ho4.to c464
              have ho8 := ho8.to c464
              have ho12 := ho12.to c464
              have ho20 := ho20.to c464
              have ho26 := ho26.to c464
              have ho36 := ho36.to c464
              have ho114 := ho114.to c464
              have ho116 := ho116.to c464
              have n465 := c464.n
              have k466 := hot0_0.bko
              have k467 := hot0_1.bko
              have k468 := ho4.bko
              have k469 := ho8.bko
              have k470 := ho12.bko
              have k471 := ho16.bko
              have k472 := ho20.bko
              have k473 := ho26.bko
              have k474 := ho36.bko
              have k475 := ho114.bko
              have k476 := ho116.bko
              refine WO.asg rfl (WO.nil ?_)
              refine ⟨fun tt hs => dynOk_of [(1, 2)] (by kernel_rfl) ⟨?_, trivial⟩, ?_⟩
              · show djT tt _ _ = true
                have nb477 := k438.nb k440
                have nb478 := k438.nb k441
                have nb479 := k438.nb k442
                have nb480 := k438.nb k443
                have nb481 := k438.nb k444
                have nb482 := k438.nb k445
                have nb483 := k438.nb k446
                have nb484 := k438.nb k447
                have nb485 := k438.nb k448
                have nb486 := k439.nb k440
                have nb487 := k439.nb k441
                have nb488 := k439.nb k442
                have nb489 := k439.nb k443
                have nb490 := k439.nb k444
                have nb491 := k439.nb k445
                have nb492 := k439.nb k446
                have nb493 := k439.nb k447
                have nb494 := k439.nb k448
                have nb495 := k440.nb k441
                have nb496 := k440.nb k442
                have nb497 := k440.nb k443
                have nb498 := k440.nb k444
                have nb499 := k440.nb k445
                have nb500 := k440.nb k446
                have nb501 := k440.nb k447
                have nb502 := k440.nb k448
                have nb503 := k441.nb k442
                have nb504 := k441.nb k443
                have nb505 := k441.nb k444
                have nb506 := k441.nb k445
                have nb507 := k441.nb k446
                have nb508 := k441.nb k447
                have nb509 := k441.nb k448
                have nb510 := k442.nb k443
                have nb511 := k442.nb k444
                have nb512 := k442.nb k445
                have nb513 := k442.nb k446
                have nb514 := k442.nb k447
                have nb515 := k442.nb k448
                have nb516 := k443.nb k444
                have nb517 := k443.nb k445
                have nb518 := k443.nb k446
                have nb519 := k443.nb k447
                have nb520 := k443.nb k448
                have nb521 := k444.nb k445
                have nb522 := k444.nb k446
                have nb523 := k444.nb k447
                have nb524 := k444.nb k448
                have nb525 := k445.nb k446
                have nb526 := k445.nb k447
                have nb527 := k445.nb k448
                have nb528 := k446.nb k447
                have nb529 := k446.nb k448
                have nb530 := k447.nb k448
                refine djT_of hs rfl rfl rfl rfl rfl ?_ ?_ ?_ <;> simp only [NBs, NB1, and_true, true_and] <;> (repeat' apply And.intro) <;> (first | assumption | (apply NB.symm; assumption) | exact NB.none rfl | exact NB.noneR rfl | (apply NB.pt; first | assumption | (apply NB.symm; assumption)) | (apply NB.symm; apply NB.pt; first | assumption | (apply NB.symm; assumption) | (apply NB.symm; apply NB.pt; first | assumption | (apply NB.symm; assumption))))
              clear k438 k439 k440 k441 k442 k443 k444 k445 k446 k447 k448 k452 k453 k454 k455 k456 k457 k458 k459 k460 k461 k462 k466 k467 k468 k469 k470 k471 k472 k473 k474 k475 k476 n451 n465
              refine thenL_n (WC.ret (blockL_r (thenL_r (thenL_r ?_))))
              have hcell531 := ho12
              have hcell532 := ho16
              have hot0_0 := hot0_0.drop 6
              have hot0_1 := hot0_1.drop 6
              have hM := hM.drop 6
              have ho4 := ho4.drop 6
              have ho8 := ho8.drop 6
              have ho12 := ho12.drop 6
              have ho16 := ho16.drop 6
              have ho20 := ho20.freeze
              have ho26 := ho26.drop 6
              have ho36 := ho36.drop 6
              have ho114 := ho114.drop 6
              have ho116 := ho116.drop 6
              have hot0_0 := hot0_0.drop 7
              have hot0_1 := hot0_1.drop 7
              have hM := hM.drop 7
              have ho4 := ho4.drop 7
              have ho8 := ho8.drop 7
              have ho12 := ho12.drop 7
              have ho16 := ho16.drop 7
              have ho20 := ho20.drop 7
              have ho26 := ho26.freeze
              have ho36 := ho36.drop 7
              have ho114 := ho114.drop 7
              have ho116 := ho116.drop 7
              obtain rfl := someI h
              exact ⟨.inr rfl, _, _, (resK_w (sz := 2) hcell531 (Cov.refl _) rfl rfl rfl (resK_b hcell532 (Cov.refl _) rfl rfl (resK_t (Cov.refl _) rfl rfl))), rfl, ⟨((S463.drop 6).drop 7), rfl, rfl, hM, v19, v25, rfl, ho20, ho26⟩⟩
            · have h := iteF q437 h
              refine WC.seq (WC.region ?_)
              refine WO.fldS (j := 0) (q := 0) rfl ho4.at0 ho4.ptr rfl rfl rfl (by decide) ?_
              refine WO.ldW rfl rfl ho4 rfl rfl ho4.lt rfl ?_
              refine WO.lenS rfl ho20.slv rfl ?_
              refine WO.bin rfl rfl (by decide) (by decide) rfl ?_
              refine WO.asg rfl (WO.nil (thenL_n ?_))
              refine WC.cond rfl (fun q533 => ?_) (fun q533 => ?_)
              · have h := iteT q533 h
                refine WC.seq ?_
                refine WC.drawDN rfl ?_
                have hot0_0z := hot0_0.oz
                have hot0_1z := hot0_1.oz
                have ho4z := ho4.lt
                have ho8z := ho8.lt
                have ho12z := ho12.lt
                have ho16z := ho16.lt
                have ho20z := ho20.oz
                have ho26z := ho26.oz
                have ho36z := ho36.lt
                have ho114z := ho114.oz
                have ho116z := ho116.oz
                have k534 := hot0_0.bko
                have k535 := hot0_1.bko
                have k536 := ho4.bko
                have k537 := ho8.bko
                have k538 := ho12.bko
                have k539 := ho16.bko
                have k540 := ho20.bko
                have k541 := ho26.bko
                have k542 := ho36.bko
                have k543 := ho114.bko
                have k544 := ho116.bko
                refine WO.ldWA (sz := 2) (r := [v19, v25]) rfl ho4.at0 ho4 rfl rfl rfl ho4z (limLe_self _) ?_
                refine WO.ldBAz (j := 0) rfl ho36.at0 ho36 rfl ho36z (limLe_self _) ?_
                refine WO.stW (S := S337) (r := [v19, v25]) rfl ho12.at0 rfl rfl ho12 rfl rfl rfl rfl rfl (fun S545 c546 ho12 => ?_)
                have hot0_0z := hot0_0z.toz c546
                have hot0_1z := hot0_1z.toz c546
                have ho20z := ho20z.tow c546
                have ho26z := ho26z.tow c546
                have ho114z := ho114z.tow c546
                have ho116z := ho116z.tow c546
                have hot0_0 := hot0_0.to c546
                have hot0_1 := hot0_1.to c546
                have hM := hM.to c546
                have ho4 := ho4.to c546
                have ho8 := ho8.to c546
                have ho16 := ho16.to c546
                have ho20 := ho20.to c546
                have ho26 := ho26.to c546
                have ho36 := ho36.to c546
                have ho114 := ho114.to c546
                have ho116 := ho116.to c546
                have n547 := c546.n
                have k548 := hot0_0.bko
                have k549 := hot0_1.bko
                have k550 := ho4.bko
                have k551 := ho8.bko
                have k552 := ho12.bko
                have k553 := ho16.bko
                have k554 := ho20.bko
                have k555 := ho26.bko
                have k556 := ho36.bko
                have k557 := ho114.bko
                have k558 := ho116.bko
                refine WO.stBA (u' := ((((([], 0) : (List UInt8) × Int)).1, ((([], 0) : (List UInt8) × Int)).2) : (List UInt8) × Int)) rfl ho16.at0 rfl ho16 rfl rfl (fun S559 c560 ho16 => ?_)
                have hot0_0z := hot0_0z.toz c560
                have hot0_1z := hot0_1z.toz c560
                have ho20z := ho20z.tow c560
                have ho26z := ho26z.tow c560
                have ho114z := ho114z.tow c560
                have ho116z := ho116z.tow c560
                have hot0_0 := hot0_0.to c560
                have hot0_1 := hot0_1.to c560
                have hM := hM.to c560
                have ho4 := ho4.to c560
                have ho8 := ho8.to c560
                have ho12 := ho12.to c560
                have ho20 := ho20.to c560
                have ho26 := ho26.to c560
                have ho36 := ho36.to c560
                have ho114 := ho114.to c560
                have ho116 := ho116.to c560
                have n561 := c560.n
                have k562 := hot0_0.bko
                have k563 := hot0_1.bko
                have k564 := ho4.bko
                have k565 := ho8.bko
                have k566 := ho12.bko
                have k567 := ho16.bko
                have k568 := ho20.bko
                have k569 := ho26.bko
                have k570 := ho36.bko
                have k571 := ho114.bko
                have k572 := ho116.bko
                refine WO.asg rfl (WO.nil ?_)
                refine ⟨fun tt hs => dynOk_of [(1, 2)] (by kernel_rfl) ⟨?_, trivial⟩, ?_⟩
                · show djT tt _ _ = true
                  have nb573 := k534.nb k536
                  have nb574 := k534.nb k537
                  have nb575 := k534.nb k538
                  have nb576 := k534.nb k539
                  have nb577 := k534.nb k540
                  have nb578 := k534.nb k541
                  have nb579 := k534.nb k542
                  have nb580 := k534.nb k543
                  have nb581 := k534.nb k544
                  have nb582 := k535.nb k536
                  have nb583 := k535.nb k537
                  have nb584 := k535.nb k538
                  have nb585 := k535.nb k539
                  have nb586 := k535.nb k540
                  have nb587 := k535.nb k541
                  have nb588 := k535.nb k542
                  have nb589 := k535.nb k543
                  have nb590 := k535.nb k544
                  have nb591 := k536.nb k537
                  have nb592 := k536.nb k538
                  have nb593 := k536.nb k539
                  have nb594 := k536.nb k540
                  have nb595 := k536.nb k541
                  have nb596 := k536.nb k542
                  have nb597 := k536.nb k543
                  have nb598 := k536.nb k544
                  have nb599 := k537.nb k538
                  have nb600 := k537.nb k539
                  have nb601 := k537.nb k540
                  have nb602 := k537.nb k541
                  have nb603 := k537.nb k542
                  have nb604 := k537.nb k543
                  have nb605 := k537.nb k544
                  have nb606 := k538.nb k539
                  have nb607 := k538.nb k540
                  have nb608 := k538.nb k541
                  have nb609 := k538.nb k542
                  have nb610 := k538.nb k543
                  have nb611 := k538.nb k544
                  have nb612 := k539.nb k540
                  have nb613 := k539.nb k541
                  have nb614 := k539.nb k542
                  have nb615 := k539.nb k543
                  have nb616 := k539.nb k544
                  have nb617 := k540.nb k541
                  have nb618 := k540.nb k542
                  have nb619 := k540.nb k543
                  have nb620 := k540.nb k544
                  have nb621 := k541.nb k542
                  have nb622 := k541.nb k543
                  have nb623 := k541.nb k544
                  have nb624 := k542.nb k543
                  have nb625 := k542.nb k544
                  have nb626 := k543.nb k544
                  refine djT_of hs rfl rfl rfl rfl rfl ?_ ?_ ?_ <;> simp only [NBs, NB1, and_true, true_and] <;> (repeat' apply And.intro) <;> (first | assumption | (apply NB.symm; assumption) | exact NB.none rfl | exact NB.noneR rfl | (apply NB.pt; first | assumption | (apply NB.symm; assumption)) | (apply NB.symm; apply NB.pt; first | assumption | (apply NB.symm; assumption) | (apply NB.symm; apply NB.pt; first | assumption | (apply NB.symm; assumption))))
                clear k534 k535 k536 k537 k538 k539 k540 k541 k542 k543 k544 k548 k549 k550 k551 k552 k553 k554 k555 k556 k557 k558 k562 k563 k564 k565 k566 k567 k568 k569 k570 k571 k572 n547 n561
                refine thenL_n (WC.ret (blockL_r (thenL_r (thenL_r ?_))))
                have hcell627 := ho12
                have hcell628 := ho16
                have hot0_0 := hot0_0.drop 6
                have hot0_1 := hot0_1.drop 6
                have hM := hM.drop 6
                have ho4 := ho4.drop 6
                have ho8 := ho8.drop 6
                have ho12 := ho12.drop 6
                have ho16 := ho16.drop 6
                have ho20 := ho20.freeze
                have ho26 := ho26.drop 6
                have ho36 := ho36.drop 6
                have ho114 := ho114.drop 6
                have ho116 := ho116.drop 6
                have hot0_0 := hot0_0.drop 7
                have hot0_1 := hot0_1.drop 7
                have hM := hM.drop 7
                have ho4 := ho4.drop 7
                have ho8 := ho8.drop 7
                have ho12 := ho12.drop 7
                have ho16 := ho16.drop 7
                have ho20 := ho20.drop 7
                have ho26 := ho26.freeze
                have ho36 := ho36.drop 7
                have ho114 := ho114.drop 7
                have ho116 := ho116.drop 7
                obtain rfl := someI h
                exact ⟨.inr rfl, _, _, (resK_w (sz := 2) hcell627 (Cov.refl _) rfl rfl rfl (resK_b hcell628 (Cov.refl _) rfl rfl (resK_t (Cov.refl _) rfl rfl))), rfl, ⟨((S559.drop 6).drop 7), rfl, rfl, hM, v19, v25, rfl, ho20, ho26⟩⟩
              · have h := iteF q533 h
                refine WC.skip (blockL_n (thenL_n (WC.seq (WC.region ?_))))
                refine WO.fldS (j := 0) (q := 0) rfl ho4.at0 ho4.ptr rfl rfl rfl (by decide) ?_
                refine WO.ldW rfl rfl ho4 rfl rfl ho4.lt rfl ?_
                refine WO.fldS (j := 0) (q := 0) rfl ho8.at0 ho8.ptr rfl rfl rfl (by decide) ?_
                refine WO.ldB (j := 0) (q := 2) rfl rfl ho8 rfl rfl rfl ?_
                refine WO.fldS (j := 0) (q := 0) rfl ho8.at0 ho8.ptr rfl rfl rfl (by decide) ?_
                refine WO.ldB (j := 0) (q := 1) rfl rfl ho8 rfl rfl rfl ?_
                refine WO.do rfl rfl ?_
                refine WO.bsS (A := Y41) (S := S337) (M := [(((t1.1, t1.2.1, t1.2.2.1, t1.2.2.2)).2.2.1, ((t1.1, t1.2.1, t1.2.2.1, t1.2.2.2)).2.1, 0)]) (cs := [.str (((t1.1, t1.2.1, t1.2.2.1, t1.2.2.2)).2.2.1), .int .i64 (((t1.1, t1.2.1, t1.2.2.1, t1.2.2.2)).2.1), .int .i64 0]) 11 rfl rfl rfl ⟨[.str (((t1.1, t1.2.1, t1.2.2.1, t1.2.2.2)).2.2.1), .int .i64 (((t1.1, t1.2.1, t1.2.2.1, t1.2.2.2)).2.1), .int .i64 0], _, rfl, rfl, rfl⟩ rfl (fun v629 S630 c631 ho632 => ?_)
                have hot0_0 := hot0_0.to c631
                have hot0_1 := hot0_1.to c631
                have hM := hM.to c631
                have ho4 := ho4.to c631
                have ho8 := ho8.to c631
                have ho12 := ho12.to c631
                have ho16 := ho16.to c631
                have ho20 := ho20.to c631
                have ho26 := ho26.to c631
                have ho36 := ho36.to c631
                have ho114 := ho114.to c631
                have ho116 := ho116.to c631
                obtain ⟨L633, e634, h⟩ := bindS h
                refine WO.appSB rfl rfl ho20 ho632.ro e634 rfl rfl rfl (fun v635 S636 c637 ho638 => ?_)
                have hot0_0 := hot0_0.to c637
                have hot0_1 := hot0_1.to c637
                have hM := hM.to c637
                have ho4 := ho4.to c637
                have ho8 := ho8.to c637
                have ho12 := ho12.to c637
                have ho16 := ho16.to c637
                have ho26 := ho26.to c637
                have ho36 := ho36.to c637
                have ho114 := ho114.to c637
                have ho116 := ho116.to c637
                have ho632 := ho632.to c637
                refine WO.fldS (j := 0) (q := 0) rfl ho4.at0 ho4.ptr rfl rfl rfl (by decide) ?_
                refine WO.stW (S := S636) (r := [v635, v25]) rfl rfl rfl rfl ho4 rfl rfl rfl rfl rfl (fun S639 c640 ho4 => ?_)
                have hot0_0 := hot0_0.to c640
                have hot0_1 := hot0_1.to c640
                have hM := hM.to c640
                have ho8 := ho8.to c640
                have ho12 := ho12.to c640
                have ho16 := ho16.to c640
                have ho26 := ho26.to c640
                have ho36 := ho36.to c640
                have ho114 := ho114.to c640
                have ho116 := ho116.to c640
                have ho632 := ho632.to c640
                have ho638 := ho638.to c640
                refine WO.nil (thenL_n (WC.seq ?_))
                refine WC.drawDN rfl ?_
                have hot0_0z := hot0_0.oz
                have hot0_1z := hot0_1.oz
                have ho4z := ho4.lt
                have ho8z := ho8.lt
                have ho12z := ho12.lt
                have ho16z := ho16.lt
                have ho26z := ho26.oz
                have ho36z := ho36.lt
                have ho114z := ho114.oz
                have ho116z := ho116.oz
                have ho632z := ho632.oz
                have ho638z := ho638.oz
                have k641 := hot0_0.bko
                have k642 := hot0_1.bko
                have k643 := ho4.bko
                have k644 := ho8.bko
                have k645 := ho12.bko
                have k646 := ho16.bko
                have k647 := ho26.bko
                have k648 := ho36.bko
                have k649 := ho114.bko
                have k650 := ho116.bko
                have k651 := ho632.bko
                have k652 := ho638.bko
                refine WO.ldWA (sz := 2) (r := [v635, v25]) rfl ho4.at0 ho4 rfl rfl rfl ho4z (limLe_self _) ?_
                refine WO.ldBAz (j := 0) rfl ho36.at0 ho36 rfl ho36z (limLe_self _) ?_
                refine WO.stW (S := S639) (r := [v635, v25]) rfl ho12.at0 rfl rfl ho12 rfl rfl rfl rfl rfl (fun S653 c654 ho12 => ?_)
                have hot0_0z := hot0_0z.toz c654
                have hot0_1z := hot0_1z.toz c654
                have ho26z := ho26z.tow c654
                have ho114z := ho114z.tow c654
                have ho116z := ho116z.tow c654
                have ho632z := ho632z.tow c654
                have ho638z := ho638z.tow c654
                have hot0_0 := hot0_0.to c654
                have hot0_1 := hot0_1.to c654
                have hM := hM.to c654
                have ho4 := ho4.to c654
                have ho8 := ho8.to c654
                have ho16 := ho16.to c654
                have ho26 := ho26.to c654
                have ho36 := ho36.to c654
                have ho114 := ho114.to c654
                have ho116 := ho116.to c654
                have ho632 := ho632.to c654
                have ho638 := ho638.to c654
                have n655 := c654.n
                have k656 := hot0_0.bko
                have k657 := hot0_1.bko
                have k658 := ho4.bko
                have k659 := ho8.bko
                have k660 := ho12.bko
                have k661 := ho16.bko
                have k662 := ho26.bko
                have k663 := ho36.bko
                have k664 := ho114.bko
                have k665 := ho116.bko
                have k666 := ho632.bko
                have k667 := ho638.bko
                refine WO.stBA (u' := ((((([], 0) : (List UInt8) × Int)).1, ((([], 0) : (List UInt8) × Int)).2) : (List UInt8) × Int)) rfl ho16.at0 rfl ho16 rfl rfl (fun S668 c669 ho16 => ?_)
                have hot0_0z := hot0_0z.toz c669
                have hot0_1z := hot0_1z.toz c669
                have ho26z := ho26z.tow c669
                have ho114z := ho114z.tow c669
                have ho116z := ho116z.tow c669
                have ho632z := ho632z.tow c669
                have ho638z := ho638z.tow c669
                have hot0_0 := hot0_0.to c669
                have hot0_1 := hot0_1.to c669
                have hM := hM.to c669
                have ho4 := ho4.to c669
                have ho8 := ho8.to c669
                have ho12 := ho12.to c669
                have ho26 := ho26.to c669
                have ho36 := ho36.to c669
                have ho114 := ho114.to c669
                have ho116 := ho116.to c669
                have ho632 := ho632.to c669
                have ho638 := ho638.to c669
                have n670 := c669.n
                have k671 := hot0_0.bko
                have k672 := hot0_1.bko
                have k673 := ho4.bko
                have k674 := ho8.bko
                have k675 := ho12.bko
                have k676 := ho16.bko
                have k677 := ho26.bko
                have k678 := ho36.bko
                have k679 := ho114.bko
                have k680 := ho116.bko
                have k681 := ho632.bko
                have k682 := ho638.bko
                refine WO.asg rfl (WO.nil ?_)
                refine ⟨fun tt hs => dynOk_of [(1, 2)] (by kernel_rfl) ⟨?_, trivial⟩, ?_⟩
                · show djT tt _ _ = true
                  have nb683 := k641.nb k643
                  have nb684 := k641.nb k644
                  have nb685 := k641.nb k645
                  have nb686 := k641.nb k646
                  have nb687 := k641.nb k647
                  have nb688 := k641.nb k648
                  have nb689 := k641.nb k649
                  have nb690 := k641.nb k650
                  have nb691 := k641.nb k651
                  have nb692 := k641.nb k652
                  have nb693 := k642.nb k643
                  have nb694 := k642.nb k644
                  have nb695 := k642.nb k645
                  have nb696 := k642.nb k646
                  have nb697 := k642.nb k647
                  have nb698 := k642.nb k648
                  have nb699 := k642.nb k649
                  have nb700 := k642.nb k650
                  have nb701 := k642.nb k651
                  have nb702 := k642.nb k652
                  have nb703 := k643.nb k644
                  have nb704 := k643.nb k645
                  have nb705 := k643.nb k646
                  have nb706 := k643.nb k647
                  have nb707 := k643.nb k648
                  have nb708 := k643.nb k649
                  have nb709 := k643.nb k650
                  have nb710 := k643.nb k651
                  have nb711 := k643.nb k652
                  have nb712 := k644.nb k645
                  have nb713 := k644.nb k646
                  have nb714 := k644.nb k647
                  have nb715 := k644.nb k648
                  have nb716 := k644.nb k649
                  have nb717 := k644.nb k650
                  have nb718 := k644.nb k651
                  have nb719 := k644.nb k652
                  have nb720 := k645.nb k646
                  have nb721 := k645.nb k647
                  have nb722 := k645.nb k648
                  have nb723 := k645.nb k649
                  have nb724 := k645.nb k650
                  have nb725 := k645.nb k651
                  have nb726 := k645.nb k652
                  have nb727 := k646.nb k647
                  have nb728 := k646.nb k648
                  have nb729 := k646.nb k649
                  have nb730 := k646.nb k650
                  have nb731 := k646.nb k651
                  have nb732 := k646.nb k652
                  have nb733 := k647.nb k648
                  have nb734 := k647.nb k649
                  have nb735 := k647.nb k650
                  have nb736 := k647.nb k651
                  have nb737 := k647.nb k652
                  have nb738 := k648.nb k649
                  have nb739 := k648.nb k650
                  have nb740 := k648.nb k651
                  have nb741 := k648.nb k652
                  have nb742 := k649.nb k650
                  have nb743 := k649.nb k651
                  have nb744 := k649.nb k652
                  have nb745 := k650.nb k651
                  have nb746 := k650.nb k652
                  have nb747 := k651.nb k652
                  refine djT_of hs rfl rfl rfl rfl rfl ?_ ?_ ?_ <;> simp only [NBs, NB1, and_true, true_and] <;> (repeat' apply And.intro) <;> (first | assumption | (apply NB.symm; assumption) | exact NB.none rfl | exact NB.noneR rfl | (apply NB.pt; first | assumption | (apply NB.symm; assumption)) | (apply NB.symm; apply NB.pt; first | assumption | (apply NB.symm; assumption) | (apply NB.symm; apply NB.pt; first | assumption | (apply NB.symm; assumption))))
                clear k641 k642 k643 k644 k645 k646 k647 k648 k649 k650 k651 k652 k656 k657 k658 k659 k660 k661 k662 k663 k664 k665 k666 k667 k671 k672 k673 k674 k675 k676 k677 k678 k679 k680 k681 k682 n655 n670
                refine thenL_n (WC.ret (thenL_r ?_))
                have hcell748 := ho12
                have hcell749 := ho16
                have hot0_0 := hot0_0.drop 6
                have hot0_1 := hot0_1.drop 6
                have hM := hM.drop 6
                have ho4 := ho4.drop 6
                have ho8 := ho8.drop 6
                have ho12 := ho12.drop 6
                have ho16 := ho16.drop 6
                have ho26 := ho26.drop 6
                have ho36 := ho36.drop 6
                have ho114 := ho114.drop 6
                have ho116 := ho116.drop 6
                have ho632 := ho632.drop 6
                have ho638 := ho638.freeze
                have hot0_0 := hot0_0.drop 7
                have hot0_1 := hot0_1.drop 7
                have hM := hM.drop 7
                have ho4 := ho4.drop 7
                have ho8 := ho8.drop 7
                have ho12 := ho12.drop 7
                have ho16 := ho16.drop 7
                have ho26 := ho26.freeze
                have ho36 := ho36.drop 7
                have ho114 := ho114.drop 7
                have ho116 := ho116.drop 7
                have ho632 := ho632.drop 7
                have ho638 := ho638.drop 7
                obtain rfl := someI h
                exact ⟨.inr rfl, _, _, (resK_w (sz := 2) hcell748 (Cov.refl _) rfl rfl rfl (resK_b hcell749 (Cov.refl _) rfl rfl (resK_t (Cov.refl _) rfl rfl))), rfl, ⟨((S668.drop 6).drop 7), rfl, rfl, hM, v635, v25, rfl, ho638, ho26⟩⟩
        · have h := iteF q339 h
          refine WC.skip (thenL_n (WC.seq (WC.seq (WC.region (WO.mv rfl ?_)))))
          refine WO.bin rfl rfl (by decide) (by decide) rfl ?_
          refine WO.nil (thenL_n ?_)
          refine WC.cond rfl (fun q750 => ?_) (fun q750 => ?_)
          · have h := iteT q750 h
            refine WC.seq ?_
            refine WC.drawDN rfl ?_
            have hot0_0z := hot0_0.oz
            have hot0_1z := hot0_1.oz
            have ho4z := ho4.lt
            have ho8z := ho8.lt
            have ho12z := ho12.lt
            have ho16z := ho16.lt
            have ho20z := ho20.oz
            have ho26z := ho26.oz
            have ho36z := ho36.lt
            have ho114z := ho114.oz
            have ho116z := ho116.oz
            have k751 := hot0_0.bko
            have k752 := hot0_1.bko
            have k753 := ho4.bko
            have k754 := ho8.bko
            have k755 := ho12.bko
            have k756 := ho16.bko
            have k757 := ho20.bko
            have k758 := ho26.bko
            have k759 := ho36.bko
            have k760 := ho114.bko
            have k761 := ho116.bko
            refine WO.ldWA (sz := 2) (r := [v19, v25]) rfl ho4.at0 ho4 rfl rfl rfl ho4z (limLe_self _) ?_
            refine WO.ldBAz (j := 0) rfl ho36.at0 ho36 rfl ho36z (limLe_self _) ?_
            refine WO.stW (S := S337) (r := [v19, v25]) rfl ho12.at0 rfl rfl ho12 rfl rfl rfl rfl rfl (fun S762 c763 ho12 => ?_)
            have hot0_0z := hot0_0z.toz c763
            have hot0_1z := hot0_1z.toz c763
            have ho20z := ho20z.tow c763
            have ho26z := ho26z.tow c763
            have ho114z := ho114z.tow c763
            have ho116z := ho116z.tow c763
            have hot0_0 := hot0_0.to c763
            have hot0_1 := hot0_1.to c763
            have hM := hM.to c763
            have ho4 := ho4.to c763
            have ho8 := ho8.to c763
            have ho16 := ho16.to c763
            have ho20 := ho20.to c763
            have ho26 := ho26.to c763
            have ho36 := ho36.to c763
            have ho114 := ho114.to c763
            have ho116 := ho116.to c763
            have n764 := c763.n
            have k765 := hot0_0.bko
            have k766 := hot0_1.bko
            have k767 := ho4.bko
            have k768 := ho8.bko
            have k769 := ho12.bko
            have k770 := ho16.bko
            have k771 := ho20.bko
            have k772 := ho26.bko
            have k773 := ho36.bko
            have k774 := ho114.bko
            have k775 := ho116.bko
            refine WO.stBA (u' := ((((([], 0) : (List UInt8) × Int)).1, ((([], 0) : (List UInt8) × Int)).2) : (List UInt8) × Int)) rfl ho16.at0 rfl ho16 rfl rfl (fun S776 c777 ho16 => ?_)
            have hot0_0z := hot0_0z.toz c777
            have hot0_1z := hot0_1z.toz c777
            have ho20z := ho20z.tow c777
            have ho26z := ho26z.tow c777
            have ho114z := ho114z.tow c777
            have ho116z := ho116z.tow c777
            have hot0_0 := hot0_0.to c777
            have hot0_1 := hot0_1.to c777
            have hM := hM.to c777
            have ho4 := ho4.to c777
            have ho8 := ho8.to c777
            have ho12 := ho12.to c777
            have ho20 := ho20.to c777
            have ho26 := ho26.to c777
            have ho36 := ho36.to c777
            have ho114 := ho114.to c777
            have ho116 := ho116.to c777
            have n778 := c777.n
            have k779 := hot0_0.bko
            have k780 := hot0_1.bko
            have k781 := ho4.bko
            have k782 := ho8.bko
            have k783 := ho12.bko
            have k784 := ho16.bko
            have k785 := ho20.bko
            have k786 := ho26.bko
            have k787 := ho36.bko
            have k788 := ho114.bko
            have k789 := ho116.bko
            refine WO.asg rfl (WO.nil ?_)
            refine ⟨fun tt hs => dynOk_of [(1, 2)] (by kernel_rfl) ⟨?_, trivial⟩, ?_⟩
            · show djT tt _ _ = true
              have nb790 := k751.nb k753
              have nb791 := k751.nb k754
              have nb792 := k751.nb k755
              have nb793 := k751.nb k756
              have nb794 := k751.nb k757
              have nb795 := k751.nb k758
              have nb796 := k751.nb k759
              have nb797 := k751.nb k760
              have nb798 := k751.nb k761
              have nb799 := k752.nb k753
              have nb800 := k752.nb k754
              have nb801 := k752.nb k755
              have nb802 := k752.nb k756
              have nb803 := k752.nb k757
              have nb804 := k752.nb k758
              have nb805 := k752.nb k759
              have nb806 := k752.nb k760
              have nb807 := k752.nb k761
              have nb808 := k753.nb k754
              have nb809 := k753.nb k755
              have nb810 := k753.nb k756
              have nb811 := k753.nb k757
              have nb812 := k753.nb k758
              have nb813 := k753.nb k759
              have nb814 := k753.nb k760
              have nb815 := k753.nb k761
              have nb816 := k754.nb k755
              have nb817 := k754.nb k756
              have nb818 := k754.nb k757
              have nb819 := k754.nb k758
              have nb820 := k754.nb k759
              have nb821 := k754.nb k760
              have nb822 := k754.nb k761
              have nb823 := k755.nb k756
              have nb824 := k755.nb k757
              have nb825 := k755.nb k758
              have nb826 := k755.nb k759
              have nb827 := k755.nb k760
              have nb828 := k755.nb k761
              have nb829 := k756.nb k757
              have nb830 := k756.nb k758
              have nb831 := k756.nb k759
              have nb832 := k756.nb k760
              have nb833 := k756.nb k761
              have nb834 := k757.nb k758
              have nb835 := k757.nb k759
              have nb836 := k757.nb k760
              have nb837 := k757.nb k761
              have nb838 := k758.nb k759
              have nb839 := k758.nb k760
              have nb840 := k758.nb k761
              have nb841 := k759.nb k760
              have nb842 := k759.nb k761
              have nb843 := k760.nb k761
              refine djT_of hs rfl rfl rfl rfl rfl ?_ ?_ ?_ <;> simp only [NBs, NB1, and_true, true_and] <;> (repeat' apply And.intro) <;> (first | assumption | (apply NB.symm; assumption) | exact NB.none rfl | exact NB.noneR rfl | (apply NB.pt; first | assumption | (apply NB.symm; assumption)) | (apply NB.symm; apply NB.pt; first | assumption | (apply NB.symm; assumption) | (apply NB.symm; apply NB.pt; first | assumption | (apply NB.symm; assumption))))
            clear k751 k752 k753 k754 k755 k756 k757 k758 k759 k760 k761 k765 k766 k767 k768 k769 k770 k771 k772 k773 k774 k775 k779 k780 k781 k782 k783 k784 k785 k786 k787 k788 k789 n764 n778
            refine thenL_n (WC.ret (thenL_r ?_))
            have hcell844 := ho12
            have hcell845 := ho16
            have hot0_0 := hot0_0.drop 6
            have hot0_1 := hot0_1.drop 6
            have hM := hM.drop 6
            have ho4 := ho4.drop 6
            have ho8 := ho8.drop 6
            have ho12 := ho12.drop 6
            have ho16 := ho16.drop 6
            have ho20 := ho20.freeze
            have ho26 := ho26.drop 6
            have ho36 := ho36.drop 6
            have ho114 := ho114.drop 6
            have ho116 := ho116.drop 6
            have hot0_0 := hot0_0.drop 7
            have hot0_1 := hot0_1.drop 7
            have hM := hM.drop 7
            have ho4 := ho4.drop 7
            have ho8 := ho8.drop 7
            have ho12 := ho12.drop 7
            have ho16 := ho16.drop 7
            have ho20 := ho20.drop 7
            have ho26 := ho26.freeze
            have ho36 := ho36.drop 7
            have ho114 := ho114.drop 7
            have ho116 := ho116.drop 7
            obtain rfl := someI h
            exact ⟨.inr rfl, _, _, (resK_w (sz := 2) hcell844 (Cov.refl _) rfl rfl rfl (resK_b hcell845 (Cov.refl _) rfl rfl (resK_t (Cov.refl _) rfl rfl))), rfl, ⟨((S776.drop 6).drop 7), rfl, rfl, hM, v19, v25, rfl, ho20, ho26⟩⟩
          · have h := iteF q750 h
            refine WC.skip (thenL_n (WC.seq (WC.seq (WC.region ?_))))
            refine WO.fldS (j := 0) (q := 0) rfl ho8.at0 ho8.ptr rfl rfl rfl (by decide) ?_
            refine WO.ldB (j := 0) (q := 0) rfl rfl ho8 rfl rfl rfl ?_
            refine WO.nil (thenL_n (WC.block (WC.seq (WC.region ?_))))
            refine WO.bin rfl rfl (by decide) (by decide) rfl ?_
            refine WO.asg rfl (WO.nil (thenL_n ?_))
            refine WC.cond rfl (fun q846 => ?_) (fun q846 => ?_)
            · have h := iteT q846 h
              refine WC.seq (WC.seq (WC.region ?_))
              refine WO.fldS (j := 0) (q := 0) rfl ho4.at0 ho4.ptr rfl rfl rfl (by decide) ?_
              refine WO.ldW rfl rfl ho4 rfl rfl ho4.lt rfl ?_
              refine WO.lenS rfl ho26.slv rfl ?_
              refine WO.mv rfl (WO.nil (thenL_n (WC.block ?_)))
              obtain ⟨b955, e956, h⟩ := bindS h
              refine WC.loopD e956 (fun s847 l' m' n' => ∃ S850 : Cx fl, ∃ v851 v852 : SV, S850.m = m' ∧ S850.n = n' ∧ Cov l' [(2, .sc ((.ptr b1 0))), (3, .sc v5), (4, .sc ((.ptr b9 0))), (5, .sc v13), (7, .sc v33), (12, .sc (.int .i64 r335)), (153, .sc v25), (154, .sc (.int .i64 ((r23.length : Int)))), (155, .sc (.int .i64 s847.1))] ∧ ChM S0 S850 ∧ Bw S850 2 (.ptr b1 0) [v19, v25] ∧ Ow Y41 S850 6 v19 r17 ∧ Ow Y65 S850 7 v25 r23 ∧ Bk Y32 S850 3 v5 ((t1.1, t1.2.1, t1.2.2.1, t1.2.2.2)) ∧ Bw S850 4 (.ptr b9 0) [v851, v852] ∧ Bk Y34 S850 5 v13 s847.2.2.2 ∧ Bk Y34 S850 8 v33 ((([], 0) : (List UInt8) × Int)) ∧ Rd Y41 S850 v851 s847.2.1 ∧ Rd Y65 S850 v852 s847.2.2.1) (fun b e l' m' n' => (match b with | .inl b853 => e = .exit 2 ∧ ∃ S854 : Cx fl, ∃ v855 v856 : SV, S854.m = m' ∧ S854.n = n' ∧ Cov l' [(2, .sc ((.ptr b1 0))), (4, .sc ((.ptr b9 0))), (5, .sc v13), (7, .sc v33), (12, .sc (.int .i64 r335))] ∧ ChM S0 S854 ∧ Bw S854 2 (.ptr b1 0) [v19, v25] ∧ Ow Y41 S854 6 v19 r17 ∧ Ow Y65 S854 7 v25 r23 ∧ Bw S854 4 (.ptr b9 0) [v855, v856] ∧ Bk Y34 S854 5 v13 b853.2.2 ∧ Bk Y34 S854 8 v33 ((([], 0) : (List UInt8) × Int)) ∧ Rd Y41 S854 v855 b853.1 ∧ Rd Y65 S854 v856 b853.2.1 | .inr b853 => e = .ret ∧ ∃ S857 : Cx fl, ∃ v858 v859 : SV, S857.m = m' ∧ S857.n = n' ∧ Cov l' [(4, .sc ((.ptr b9 0))), (5, .sc v13), (6, .sc (.int .i64 b853.1))] ∧ ChM S0 S857 ∧ Bw S857 4 (.ptr b9 0) [v858, v859] ∧ Bk Y34 S857 5 v13 b853.2.2.2 ∧ Rd Y41 S857 v858 b853.2.1 ∧ Rd Y65 S857 v859 b853.2.2.1)) (by exact ⟨S337, .nils, .nils, rfl, rfl, (Cov.cons rfl (Cov.cons rfl (Cov.cons rfl (Cov.cons rfl (Cov.cons rfl (Cov.cons rfl (Cov.cons rfl (Cov.cons rfl (Cov.cons rfl (Cov.nil _)))))))))), hM, ho4, ho20, ho26, ho8, ho12, ho16, ho36, Rd.nil, Rd.nil⟩) ?_ ?_
              · clear h
                rintro s847 q _ _ _ ⟨S860, v861, v862, rfl, rfl, hc863, hM, ho4, ho20, ho26, ho8, ho12, ho16, ho36, ho12c0, ho12c1⟩ h
                unfold F7_l0 at h
                refine WC.cov hc863 (WC.seq (WC.region ?_))
                refine WO.bin rfl rfl (by decide) (by decide) rfl ?_
                refine WO.nil (thenL_n (WC.seq ?_))
                refine WC.cond rfl (fun q864 => ?_) (fun q864 => ?_)
                · have h := iteT q864 h
                  refine WC.skip (thenL_n (WC.seq (WC.block (WC.seq (WC.region ?_)))))
                  obtain ⟨x865, e866, h⟩ := bindS h
                  refine WO.ixS rfl rfl ho26.slv (at?_lt e866) rfl ?_
                  refine WO.ldA rfl ho26.ro (fun _ hi => hi) (at?_get e866) rfl rfl ?_
                  refine WO.alS (A := Y65) (S := S860) (z0 := (([], [], 0) : (List UInt8) × (List UInt8) × Int)) 12 rfl rfl rfl (fun v867 S868 c869 ho870 => ?_)
                  have hM := hM.to c869
                  have ho4 := ho4.to c869
                  have ho20 := ho20.to c869
                  have ho26 := ho26.to c869
                  have ho8 := ho8.to c869
                  have ho12 := ho12.to c869
                  have ho16 := ho16.to c869
                  have ho36 := ho36.to c869
                  have ho12c0 := ho12c0.to c869
                  have ho12c1 := ho12c1.to c869
                  refine WO.stBA (u' := (x865.1, x865.2.1, x865.2.2)) rfl ho870.at0 rfl ho870 rfl rfl (fun S871 c872 ho870 => ?_)
                  have hM := hM.to c872
                  have ho4 := ho4.to c872
                  have ho20 := ho20.to c872
                  have ho26 := ho26.to c872
                  have ho8 := ho8.to c872
                  have ho12 := ho12.to c872
                  have ho16 := ho16.to c872
                  have ho36 := ho36.to c872
                  have ho12c0 := ho12c0.to c872
                  have ho12c1 := ho12c1.to c872
                  refine WO.nil (thenL_n (WC.seq (WC.region ?_)))
                  refine WO.fldS (j := 0) (q := 0) rfl ho870.at0 ho870.ptr rfl rfl rfl (by decide) ?_
                  refine WO.ldB (j := 0) (q := 0) rfl rfl ho870 rfl rfl rfl ?_
                  refine WO.fldS (j := 0) (q := 0) rfl ho8.at0 ho8.ptr rfl rfl rfl (by decide) ?_
                  refine WO.ldB (j := 0) (q := 2) rfl rfl ho8 rfl rfl rfl ?_
                  refine WO.do rfl rfl ?_
                  refine WO.mv rfl ?_
                  refine WO.cutB (d := 170) 6 ((((x865.1, x865.2.1, x865.2.2)).1 == ((t1.1, t1.2.1, t1.2.2.1, t1.2.2.2)).2.2.1) || (((x865.1, x865.2.1, x865.2.2)).2.1 == ((t1.1, t1.2.1, t1.2.2.1, t1.2.2.2)).2.2.1)) (fun q873 => ?_) (fun q873 => ?_) ?_
                  · refine WO.gno rfl rfl (WO.gno rfl rfl (WO.gno rfl rfl (WO.gno rfl rfl (WO.gno rfl rfl ?_))))
                    refine WO.pickT rfl rfl ?_
                    refine WO.nil ?_
                    exact ⟨rfl, rfl, (Cov.any rfl (orT q873) (Cov.skip rfl (Cov.skip rfl (Cov.skip rfl (Cov.skip rfl (Cov.skip rfl (Cov.skip rfl (Cov.skip rfl (Cov.refl _)))))))))⟩
                  · skip
                    refine WO.gyes rfl rfl ?_
                    refine WO.fldS (j := 0) (q := 0) rfl ho870.at0 ho870.ptr rfl rfl rfl (by decide) ?_
                    refine WO.gyes rfl rfl ?_
                    refine WO.ldB (j := 0) (q := 1) rfl rfl ho870 rfl rfl rfl ?_
                    refine WO.gyes rfl rfl ?_
                    refine WO.fldS (j := 0) (q := 0) rfl ho8.at0 ho8.ptr rfl rfl rfl (by decide) ?_
                    refine WO.gyes rfl rfl ?_
                    refine WO.ldB (j := 0) (q := 2) rfl rfl ho8 rfl rfl rfl ?_
                    refine WO.gyes rfl rfl ?_
                    refine WO.do rfl rfl ?_
                    refine WO.pickF rfl rfl ?_
                    refine WO.nil ?_
                    exact ⟨rfl, rfl, (Cov.any rfl (orF q873) (Cov.skip rfl (Cov.skip rfl (Cov.skip rfl (Cov.skip rfl (Cov.skip rfl (Cov.skip rfl (Cov.skip rfl (Cov.refl _)))))))))⟩
                  refine WO.nil (thenL_n ?_)
                  refine WC.cond rfl (fun q874 => ?_) (fun q874 => ?_)
                  · have h := iteT q874 h
                    refine WC.seq ?_
                    refine WC.drawDN rfl ?_
                    have ho4z := ho4.lt
                    have ho20z := ho20.oz
                    have ho26z := ho26.oz
                    have ho8z := ho8.lt
                    have ho12z := ho12.lt
                    have ho16z := ho16.lt
                    have ho36z := ho36.lt
                    have ho12c0z := ho12c0.oz
                    have ho12c1z := ho12c1.oz
                    have ho870z := ho870.lt
                    have k875 := ho4.bko
                    have k876 := ho20.bko
                    have k877 := ho26.bko
                    have k878 := ho8.bko
                    have k879 := ho12.bko
                    have k880 := ho16.bko
                    have k881 := ho36.bko
                    have k882 := ho12c0.bko
                    have k883 := ho12c1.bko
                    have k884 := ho870.bko
                    refine WO.ldWA (sz := 2) (r := [v19, v25]) rfl ho4.at0 ho4 rfl rfl rfl ho4z (limLe_self _) ?_
                    refine WO.ldBAz (j := 0) rfl ho36.at0 ho36 rfl ho36z (limLe_self _) ?_
                    refine WO.stW (S := S871) (r := [v19, v25]) rfl ho12.at0 rfl rfl ho12 rfl rfl rfl rfl rfl (fun S885 c886 ho12 => ?_)
                    have ho20z := ho20z.tow c886
                    have ho26z := ho26z.tow c886
                    have ho12c0z := ho12c0z.toz c886
                    have ho12c1z := ho12c1z.toz c886
                    have hM := hM.to c886
                    have ho4 := ho4.to c886
                    have ho20 := ho20.to c886
                    have ho26 := ho26.to c886
                    have ho8 := ho8.to c886
                    have ho16 := ho16.to c886
                    have ho36 := ho36.to c886
                    have ho12c0 := ho12c0.to c886
                    have ho12c1 := ho12c1.to c886
                    have ho870 := ho870.to c886
                    have n887 := c886.n
                    have k888 := ho4.bko
                    have k889 := ho20.bko
                    have k890 := ho26.bko
                    have k891 := ho8.bko
                    have k892 := ho12.bko
                    have k893 := ho16.bko
                    have k894 := ho36.bko
                    have k895 := ho12c0.bko
                    have k896 := ho12c1.bko
                    have k897 := ho870.bko
                    refine WO.stBA (u' := ((((([], 0) : (List UInt8) × Int)).1, ((([], 0) : (List UInt8) × Int)).2) : (List UInt8) × Int)) rfl ho16.at0 rfl ho16 rfl rfl (fun S898 c899 ho16 => ?_)
                    have ho20z := ho20z.tow c899
                    have ho26z := ho26z.tow c899
                    have ho12c0z := ho12c0z.toz c899
                    have ho12c1z := ho12c1z.toz c899
                    have hM := hM.to c899
                    have ho4 := ho4.to c899
                    have ho20 := ho20.to c899
                    have ho26 := ho26.to c899
                    have ho8 := ho8.to c899
                    have ho12 := ho12.to c899
                    have ho36 := ho36.to c899
                    have ho12c0 := ho12c0.to c899
                    have ho12c1 := ho12c1.to c899
                    have ho870 := ho870.to c899
                    have n900 := c899.n
                    have k901 := ho4.bko
                    have k902 := ho20.bko
                    have k903 := ho26.bko
                    have k904 := ho8.bko
                    have k905 := ho12.bko
                    have k906 := ho16.bko
                    have k907 := ho36.bko
                    have k908 := ho12c0.bko
                    have k909 := ho12c1.bko
                    have k910 := ho870.bko
                    refine WO.asg rfl (WO.nil ?_)
                    refine ⟨fun tt hs => dynOk_of [(1, 2)] (by kernel_rfl) ⟨?_, trivial⟩, ?_⟩
                    · show djT tt _ _ = true
                      have nb911 := k875.nb k876
                      have nb912 := k875.nb k877
                      have nb913 := k875.nb k878
                      have nb914 := k875.nb k879
                      have nb915 := k875.nb k880
                      have nb916 := k875.nb k881
                      have nb917 := k875.nb k882
                      have nb918 := k875.nb k883
                      have nb919 := k875.nb k884
                      have nb920 := k876.nb k877
                      have nb921 := k876.nb k878
                      have nb922 := k876.nb k879
                      have nb923 := k876.nb k880
                      have nb924 := k876.nb k881
                      have nb925 := k876.nb k882
                      have nb926 := k876.nb k883
                      have nb927 := k876.nb k884
                      have nb928 := k877.nb k878
                      have nb929 := k877.nb k879
                      have nb930 := k877.nb k880
                      have nb931 := k877.nb k881
                      have nb932 := k877.nb k882
                      have nb933 := k877.nb k883
                      have nb934 := k877.nb k884
                      have nb935 := k878.nb k879
                      have nb936 := k878.nb k880
                      have nb937 := k878.nb k881
                      have nb938 := k878.nb k882
                      have nb939 := k878.nb k883
                      have nb940 := k878.nb k884
                      have nb941 := k879.nb k880
                      have nb942 := k879.nb k881
                      have nb943 := k879.nb k882
                      have nb944 := k879.nb k883
                      have nb945 := k879.nb k884
                      have nb946 := k880.nb k881
                      have nb947 := k880.nb k882
                      have nb948 := k880.nb k883
                      have nb949 := k880.nb k884
                      have nb950 := k881.nb k882
                      have nb951 := k881.nb k883
                      have nb952 := k881.nb k884
                      have nb953 := k882.nb k884
                      have nb954 := k883.nb k884
                      refine djT_of hs rfl rfl rfl rfl rfl ?_ ?_ ?_ <;> simp only [NBs, NB1, and_true, true_and] <;> (repeat' apply And.intro) <;> (first | assumption | (apply NB.symm; assumption) | exact NB.none rfl | exact NB.noneR rfl | (apply NB.pt; first | assumption | (apply NB.symm; assumption)) | (apply NB.symm; apply NB.pt; first | assumption | (apply NB.symm; assumption) | (apply NB.symm; apply NB.pt; first | assumption | (apply NB.symm; assumption))))
                    clear k875 k876 k877 k878 k879 k880 k881 k882 k883 k884 k888 k889 k890 k891 k892 k893 k894 k895 k896 k897 k901 k902 k903 k904 k905 k906 k907 k908 k909 k910 n887 n900
                    refine thenL_n (WC.ret (blockL_r (thenL_r (thenL_r ?_))))
                    have hM := hM.drop 6
                    have ho20 := ho20.freeze
                    have ho26 := ho26.drop 6
                    have ho12 := ho12.drop 6
                    have ho16 := ho16.drop 6
                    have hM := hM.drop 7
                    have ho20 := ho20.drop 7
                    have ho26 := ho26.freeze
                    have ho12 := ho12.drop 7
                    have ho16 := ho16.drop 7
                    obtain rfl := someI h
                    exact ⟨_, rfl, rfl, ⟨((S898.drop 6).drop 7), v19, v25, rfl, rfl, (Cov.cons rfl (Cov.cons rfl (Cov.cons rfl (Cov.nil _)))), hM, ho12, ho16, ho20, ho26⟩⟩
                  · have h := iteF q874 h
                    refine WC.skip (blockL_n (thenL_n (WC.region ?_)))
                    refine WO.bin rfl rfl (by decide) (by decide) rfl ?_
                    refine WO.mv rfl (WO.nil (thenL_n ?_))
                    obtain rfl := someI h
                    exact ⟨_, rfl, ⟨S871, v861, v862, rfl, rfl, (Cov.cons rfl (Cov.cons rfl (Cov.cons rfl (Cov.cons rfl (Cov.cons rfl (Cov.cons rfl (Cov.cons rfl (Cov.cons rfl (Cov.cons rfl (Cov.nil _)))))))))), hM, ho4, ho20, ho26, ho8, ho12, ho16, ho36, ho12c0, ho12c1⟩⟩
                · have h := iteF q864 h
                  refine WC.exit (thenL_e (thenL_e ?_))
                  obtain rfl := someI h
                  exact ⟨_, rfl, rfl, ⟨S860, v861, v862, rfl, rfl, (Cov.cons rfl (Cov.cons rfl (Cov.cons rfl (Cov.cons rfl (Cov.cons rfl (Cov.nil _)))))), hM, ho4, ho20, ho26, ho12, ho16, ho36, ho12c0, ho12c1⟩⟩
              cases b955 with
              | inl b957 =>
                simp only at h
                rintro _ _ _ _ ⟨rfl, ⟨S958, v959, v960, rfl, rfl, hc961, hM, ho4, ho20, ho26, ho12, ho16, ho36, ho12c0, ho12c1⟩⟩
                refine blockL_s (thenL_n (WC.cov hc961 ?_))
                refine WC.drawN rfl rfl ?_
                have ho4z := ho4.lt
                have ho20z := ho20.oz
                have ho26z := ho26.oz
                have ho12z := ho12.lt
                have ho16z := ho16.lt
                have ho36z := ho36.lt
                have ho12c0z := ho12c0.oz
                have ho12c1z := ho12c1.oz
                refine WO.fldS (j := 0) (q := 0) rfl ho4.at0 ho4.ptr rfl rfl rfl (by decide) ?_
                refine WO.ldW rfl rfl ho4 rfl rfl ho4z (limLe_self _) ?_
                refine WO.mv rfl ?_
                obtain ⟨L962, e963, h⟩ := bindS h
                refine WO.slcP rfl rfl ho20 e963 rfl (fun v964 ho965 hO966 => ?_)
                refine WO.fldS (j := 0) (q := 0) rfl ho4.at0 ho4.ptr rfl rfl rfl (by decide) ?_
                refine WO.ldW rfl rfl ho4 rfl rfl ho4z (limLe_self _) ?_
                refine WO.mv rfl ?_
                refine WO.bin rfl rfl (by decide) (by decide) rfl ?_
                obtain ⟨L967, e968, h⟩ := bindS h
                refine WO.slc (k' := .i64) rfl (.inl ⟨_, rfl, rfl⟩) (.inr ⟨rfl, rfl⟩) ho20.wk e968 rfl (fun v969 ho970 => ?_)
                have ho970 : Wk Y41 S958 6 v969 L967 := ho970
                obtain ⟨L971, e972, h⟩ := bindS h
                refine WO.appSB rfl rfl hO966 ho970.ro e972 rfl rfl rfl (fun v973 S974 c975 ho976 => ?_)
                have ho26z := ho26z.tow c975
                have ho12c0z := ho12c0z.toz c975
                have ho12c1z := ho12c1z.toz c975
                have hM := hM.to c975
                have ho4 := ho4.to c975
                have ho26 := ho26.to c975
                have ho12 := ho12.to c975
                have ho16 := ho16.to c975
                have ho36 := ho36.to c975
                have ho12c0 := ho12c0.to c975
                have ho12c1 := ho12c1.to c975
                refine WO.fldS (j := 0) (q := 0) rfl ho4.at0 ho4.ptr rfl rfl rfl (by decide) ?_
                refine WO.stW (S := S974) (r := [v973, v25]) rfl rfl rfl rfl ho4 rfl rfl rfl rfl rfl (fun S977 c978 ho4 => ?_)
                have ho26z := ho26z.tow c978
                have ho12c0z := ho12c0z.toz c978
                have ho12c1z := ho12c1z.toz c978
                have hM := hM.to c978
                have ho26 := ho26.to c978
                have ho12 := ho12.to c978
                have ho16 := ho16.to c978
                have ho36 := ho36.to c978
                have ho12c0 := ho12c0.to c978
                have ho12c1 := ho12c1.to c978
                have ho976 := ho976.to c978
                refine WO.nil (blockL_n (thenL_n (WC.seq ?_)))
                refine WC.drawDN rfl ?_
                have ho4z := ho4.lt
                have ho26z := ho26.oz
                have ho12z := ho12.lt
                have ho16z := ho16.lt
                have ho36z := ho36.lt
                have ho12c0z := ho12c0.oz
                have ho12c1z := ho12c1.oz
                have ho976z := ho976.oz
                have k979 := ho4.bko
                have k980 := ho26.bko
                have k981 := ho12.bko
                have k982 := ho16.bko
                have k983 := ho36.bko
                have k984 := ho12c0.bko
                have k985 := ho12c1.bko
                have k986 := ho976.bko
                refine WO.ldWA (sz := 2) (r := [v973, v25]) rfl ho4.at0 ho4 rfl rfl rfl ho4z (limLe_self _) ?_
                refine WO.ldBAz (j := 0) rfl ho36.at0 ho36 rfl ho36z (limLe_self _) ?_
                refine WO.stW (S := S977) (r := [v973, v25]) rfl ho12.at0 rfl rfl ho12 rfl rfl rfl rfl rfl (fun S987 c988 ho12 => ?_)
                have ho26z := ho26z.tow c988
                have ho12c0z := ho12c0z.toz c988
                have ho12c1z := ho12c1z.toz c988
                have ho976z := ho976z.tow c988
                have hM := hM.to c988
                have ho4 := ho4.to c988
                have ho26 := ho26.to c988
                have ho16 := ho16.to c988
                have ho36 := ho36.to c988
                have ho12c0 := ho12c0.to c988
                have ho12c1 := ho12c1.to c988
                have ho976 := ho976.to c988
                have n989 := c988.n
                have k990 := ho4.bko
                have k991 := ho26.bko
                have k992 := ho12.bko
                have k993 := ho16.bko
                have k994 := ho36.bko
                have k995 := ho12c0.bko
                have k996 := ho12c1.bko
                have k997 := ho976.bko
                refine WO.stBA (u' := ((((([], 0) : (List UInt8) × Int)).1, ((([], 0) : (List UInt8) × Int)).2) : (List UInt8) × Int)) rfl ho16.at0 rfl ho16 rfl rfl (fun S998 c999 ho16 => ?_)
                have ho26z := ho26z.tow c999
                have ho12c0z := ho12c0z.toz c999
                have ho12c1z := ho12c1z.toz c999
                have ho976z := ho976z.tow c999
                have hM := hM.to c999
                have ho4 := ho4.to c999
                have ho26 := ho26.to c999
                have ho12 := ho12.to c999
                have ho36 := ho36.to c999
                have ho12c0 := ho12c0.to c999
                have ho12c1 := ho12c1.to c999
                have ho976 := ho976.to c999
                have n1000 := c999.n
                have k1001 := ho4.bko
                have k1002 := ho26.bko
                have k1003 := ho12.bko
                have k1004 := ho16.bko
                have k1005 := ho36.bko
                have k1006 := ho12c0.bko
                have k1007 := ho12c1.bko
                have k1008 := ho976.bko
                refine WO.asg rfl (WO.nil ?_)
                refine ⟨fun tt hs => dynOk_of [(1, 2)] (by kernel_rfl) ⟨?_, trivial⟩, ?_⟩
                · show djT tt _ _ = true
                  have nb1009 := k979.nb k980
                  have nb1010 := k979.nb k981
                  have nb1011 := k979.nb k982
                  have nb1012 := k979.nb k983
                  have nb1013 := k979.nb k984
                  have nb1014 := k979.nb k985
                  have nb1015 := k979.nb k986
                  have nb1016 := k980.nb k981
                  have nb1017 := k980.nb k982
                  have nb1018 := k980.nb k983
                  have nb1019 := k980.nb k984
                  have nb1020 := k980.nb k985
                  have nb1021 := k980.nb k986
                  have nb1022 := k981.nb k982
                  have nb1023 := k981.nb k983
                  have nb1024 := k981.nb k984
                  have nb1025 := k981.nb k985
                  have nb1026 := k981.nb k986
                  have nb1027 := k982.nb k983
                  have nb1028 := k982.nb k984
                  have nb1029 := k982.nb k985
                  have nb1030 := k982.nb k986
                  have nb1031 := k983.nb k984
                  have nb1032 := k983.nb k985
                  have nb1033 := k983.nb k986
                  have nb1034 := k984.nb k986
                  have nb1035 := k985.nb k986
                  refine djT_of hs rfl rfl rfl rfl rfl ?_ ?_ ?_ <;> simp only [NBs, NB1, and_true, true_and] <;> (repeat' apply And.intro) <;> (first | assumption | (apply NB.symm; assumption) | exact NB.none rfl | exact NB.noneR rfl | (apply NB.pt; first | assumption | (apply NB.symm; assumption)) | (apply NB.symm; apply NB.pt; first | assumption | (apply NB.symm; assumption) | (apply NB.symm; apply NB.pt; first | assumption | (apply NB.symm; assumption))))
                clear k979 k980 k981 k982 k983 k984 k985 k986 k990 k991 k992 k993 k994 k995 k996 k997 k1001 k1002 k1003 k1004 k1005 k1006 k1007 k1008 n989 n1000
                refine thenL_n (WC.ret ?_)
                have hcell1036 := ho12
                have hcell1037 := ho16
                have hM := hM.drop 6
                have ho4 := ho4.drop 6
                have ho26 := ho26.drop 6
                have ho12 := ho12.drop 6
                have ho16 := ho16.drop 6
                have ho36 := ho36.drop 6
                have ho12c0 := ho12c0.drop 6
                have ho12c1 := ho12c1.drop 6
                have ho976 := ho976.freeze
                have hM := hM.drop 7
                have ho4 := ho4.drop 7
                have ho26 := ho26.freeze
                have ho12 := ho12.drop 7
                have ho16 := ho16.drop 7
                have ho36 := ho36.drop 7
                have ho12c0 := ho12c0.drop 7
                have ho12c1 := ho12c1.drop 7
                have ho976 := ho976.drop 7
                obtain rfl := someI h
                exact ⟨.inr rfl, _, _, (resK_w (sz := 2) hcell1036 (Cov.refl _) rfl rfl rfl (resK_b hcell1037 (Cov.refl _) rfl rfl (resK_t (Cov.refl _) rfl rfl))), rfl, ⟨((S998.drop 6).drop 7), rfl, rfl, hM, v973, v25, rfl, ho976, ho26⟩⟩
              | inr b957 =>
                simp only at h
                rintro _ _ _ _ ⟨rfl, ⟨S1038, v1039, v1040, rfl, rfl, hc1041, hM, ho12, ho16, ho12c0, ho12c1⟩⟩
                refine blockL_r (thenL_r (blockL_r (thenL_r ?_)))
                have hcell1042 := ho12
                have hcell1043 := ho16
                obtain rfl := someI h
                exact ⟨.inr rfl, _, _, (resK_w (sz := 2) hcell1042 hc1041 rfl rfl rfl (resK_b hcell1043 hc1041 rfl rfl (resK_t hc1041 rfl rfl))), rfl, ⟨S1038, rfl, rfl, hM, v1039, v1040, rfl, ho12c0, ho12c1⟩⟩
            · have h := iteF q846 h
              refine WC.seq (WC.region ?_)
              refine WO.bin rfl rfl (by decide) (by decide) rfl ?_
              refine WO.asg rfl (WO.nil (thenL_n ?_))
              refine WC.cond rfl (fun q1044 => ?_) (fun q1044 => ?_)
              · have h := iteT q1044 h
                refine WC.seq (WC.region ?_)
                refine WO.ldWA (sz := 2) (r := [v19, v25]) rfl ho4.at0 ho4 rfl rfl rfl ho4.lt rfl ?_
                refine WO.fldS (j := 0) (q := 0) rfl ho8.at0 ho8.ptr rfl rfl rfl (by decide) ?_
                refine WO.ldB (j := 0) (q := 3) rfl rfl ho8 rfl rfl rfl ?_
                obtain ⟨r1045, e1046, h⟩ := bindS h
                refine WO.callE (S := S337) rfl rfl (F10_ok e1046 ho20.vw ho26.vw) (fun S1047 c1048 => ?_)
                have hot0_0 := hot0_0.to c1048
                have hot0_1 := hot0_1.to c1048
                have hM := hM.to c1048
                have ho4 := ho4.to c1048
                have ho8 := ho8.to c1048
                have ho12 := ho12.to c1048
                have ho16 := ho16.to c1048
                have ho20 := ho20.to c1048
                have ho26 := ho26.to c1048
                have ho36 := ho36.to c1048
                have ho114 := ho114.to c1048
                have ho116 := ho116.to c1048
                refine WO.asg rfl (WO.nil (thenL_n (WC.seq (WC.block (WC.seq (WC.region (WO.mv rfl ?_)))))))
                refine WO.bin rfl rfl (by decide) (by decide) rfl ?_
                refine WO.asg rfl (WO.nil (thenL_n ?_))
                refine WC.cond rfl (fun q1049 => ?_) (fun q1049 => ?_)
                · have h := iteT q1049 h
                  refine WC.seq ?_
                  refine WC.drawDN rfl ?_
                  have hot0_0z := hot0_0.oz
                  have hot0_1z := hot0_1.oz
                  have ho4z := ho4.lt
                  have ho8z := ho8.lt
                  have ho12z := ho12.lt
                  have ho16z := ho16.lt
                  have ho20z := ho20.oz
                  have ho26z := ho26.oz
                  have ho36z := ho36.lt
                  have ho114z := ho114.oz
                  have ho116z := ho116.oz
                  have k1050 := hot0_0.bko
                  have k1051 := hot0_1.bko
                  have k1052 := ho4.bko
                  have k1053 := ho8.bko
                  have k1054 := ho12.bko
                  have k1055 := ho16.bko
                  have k1056 := ho20.bko
                  have k1057 := ho26.bko
                  have k1058 := ho36.bko
                  have k1059 := ho114.bko
                  have k1060 := ho116.bko
                  refine WO.ldWA (sz := 2) (r := [v19, v25]) rfl ho4.at0 ho4 rfl rfl rfl ho4z (limLe_self _) ?_
                  refine WO.ldBAz (j := 0) rfl ho36.at0 ho36 rfl ho36z (limLe_self _) ?_
                  refine WO.stW (S := S1047) (r := [v19, v25]) rfl ho12.at0 rfl rfl ho12 rfl rfl rfl rfl rfl (fun S1061 c1062 ho12 => ?_)
                  have hot0_0z := hot0_0z.toz c1062
                  have hot0_1z := hot0_1z.toz c1062
                  have ho20z := ho20z.tow c1062
                  have ho26z := ho26z.tow c1062
                  have ho114z := ho114z.tow c1062
                  have ho116z := ho116z.tow c1062
                  have hot0_0 := hot0_0.to c1062
                  have hot0_1 := hot0_1.to c1062
                  have hM := hM.to c1062
                  have ho4 := ho4.to c1062
                  have ho8 := ho8.to c1062
                  have ho16 := ho16.to c1062
                  have ho20 := ho20.to c1062
                  have ho26 := ho26.to c1062
                  have ho36 := ho36.to c1062
                  have ho114 := ho114.to c1062
                  have ho116 := ho116.to c1062
                  have n1063 := c1062.n
                  have k1064 := hot0_0.bko
                  have k1065 := hot0_1.bko
                  have k1066 := ho4.bko
                  have k1067 := ho8.bko
                  have k1068 := ho12.bko
                  have k1069 := ho16.bko
                  have k1070 := ho20.bko
                  have k1071 := ho26.bko
                  have k1072 := ho36.bko
                  have k1073 := ho114.bko
                  have k1074 := ho116.bko
                  refine WO.stBA (u' := ((((([], 0) : (List UInt8) × Int)).1, ((([], 0) : (List UInt8) × Int)).2) : (List UInt8) × Int)) rfl ho16.at0 rfl ho16 rfl rfl (fun S1075 c1076 ho16 => ?_)
                  have hot0_0z := hot0_0z.toz c1076
                  have hot0_1z := hot0_1z.toz c1076
                  have ho20z := ho20z.tow c1076
                  have ho26z := ho26z.tow c1076
                  have ho114z := ho114z.tow c1076
                  have ho116z := ho116z.tow c1076
                  have hot0_0 := hot0_0.to c1076
                  have hot0_1 := hot0_1.to c1076
                  have hM := hM.to c1076
                  have ho4 := ho4.to c1076
                  have ho8 := ho8.to c1076
                  have ho12 := ho12.to c1076
                  have ho20 := ho20.to c1076
                  have ho26 := ho26.to c1076
                  have ho36 := ho36.to c1076
                  have ho114 := ho114.to c1076
                  have ho116 := ho116.to c1076
                  have n1077 := c1076.n
                  have k1078 := hot0_0.bko
                  have k1079 := hot0_1.bko
                  have k1080 := ho4.bko
                  have k1081 := ho8.bko
                  have k1082 := ho12.bko
                  have k1083 := ho16.bko
                  have k1084 := ho20.bko
                  have k1085 := ho26.bko
                  have k1086 := ho36.bko
                  have k1087 := ho114.bko
                  have k1088 := ho116.bko
                  refine WO.asg rfl (WO.nil ?_)
                  refine ⟨fun tt hs => dynOk_of [(1, 2)] (by kernel_rfl) ⟨?_, trivial⟩, ?_⟩
                  · show djT tt _ _ = true
                    have nb1089 := k1050.nb k1052
                    have nb1090 := k1050.nb k1053
                    have nb1091 := k1050.nb k1054
                    have nb1092 := k1050.nb k1055
                    have nb1093 := k1050.nb k1056
                    have nb1094 := k1050.nb k1057
                    have nb1095 := k1050.nb k1058
                    have nb1096 := k1050.nb k1059
                    have nb1097 := k1050.nb k1060
                    have nb1098 := k1051.nb k1052
                    have nb1099 := k1051.nb k1053
                    have nb1100 := k1051.nb k1054
                    have nb1101 := k1051.nb k1055
                    have nb1102 := k1051.nb k1056
                    have nb1103 := k1051.nb k1057
                    have nb1104 := k1051.nb k1058
                    have nb1105 := k1051.nb k1059
                    have nb1106 := k1051.nb k1060
                    have nb1107 := k1052.nb k1053
                    have nb1108 := k1052.nb k1054
                    have nb1109 := k1052.nb k1055
                    have nb1110 := k1052.nb k1056
                    have nb1111 := k1052.nb k1057
                    have nb1112 := k1052.nb k1058
                    have nb1113 := k1052.nb k1059
                    have nb1114 := k1052.nb k1060
                    have nb1115 := k1053.nb k1054
                    have nb1116 := k1053.nb k1055
                    have nb1117 := k1053.nb k1056
                    have nb1118 := k1053.nb k1057
                    have nb1119 := k1053.nb k1058
                    have nb1120 := k1053.nb k1059
                    have nb1121 := k1053.nb k1060
                    have nb1122 := k1054.nb k1055
                    have nb1123 := k1054.nb k1056
                    have nb1124 := k1054.nb k1057
                    have nb1125 := k1054.nb k1058
                    have nb1126 := k1054.nb k1059
                    have nb1127 := k1054.nb k1060
                    have nb1128 := k1055.nb k1056
                    have nb1129 := k1055.nb k1057
                    have nb1130 := k1055.nb k1058
                    have nb1131 := k1055.nb k1059
                    have nb1132 := k1055.nb k1060
                    have nb1133 := k1056.nb k1057
                    have nb1134 := k1056.nb k1058
                    have nb1135 := k1056.nb k1059
                    have nb1136 := k1056.nb k1060
                    have nb1137 := k1057.nb k1058
                    have nb1138 := k1057.nb k1059
                    have nb1139 := k1057.nb k1060
                    have nb1140 := k1058.nb k1059
                    have nb1141 := k1058.nb k1060
                    have nb1142 := k1059.nb k1060
                    refine djT_of hs rfl rfl rfl rfl rfl ?_ ?_ ?_ <;> simp only [NBs, NB1, and_true, true_and] <;> (repeat' apply And.intro) <;> (first | assumption | (apply NB.symm; assumption) | exact NB.none rfl | exact NB.noneR rfl | (apply NB.pt; first | assumption | (apply NB.symm; assumption)) | (apply NB.symm; apply NB.pt; first | assumption | (apply NB.symm; assumption) | (apply NB.symm; apply NB.pt; first | assumption | (apply NB.symm; assumption))))
                  clear k1050 k1051 k1052 k1053 k1054 k1055 k1056 k1057 k1058 k1059 k1060 k1064 k1065 k1066 k1067 k1068 k1069 k1070 k1071 k1072 k1073 k1074 k1078 k1079 k1080 k1081 k1082 k1083 k1084 k1085 k1086 k1087 k1088 n1063 n1077
                  refine thenL_n (WC.ret (blockL_r (thenL_r (blockL_r (thenL_r ?_)))))
                  have hcell1143 := ho12
                  have hcell1144 := ho16
                  have hot0_0 := hot0_0.drop 6
                  have hot0_1 := hot0_1.drop 6
                  have hM := hM.drop 6
                  have ho4 := ho4.drop 6
                  have ho8 := ho8.drop 6
                  have ho12 := ho12.drop 6
                  have ho16 := ho16.drop 6
                  have ho20 := ho20.freeze
                  have ho26 := ho26.drop 6
                  have ho36 := ho36.drop 6
                  have ho114 := ho114.drop 6
                  have ho116 := ho116.drop 6
                  have hot0_0 := hot0_0.drop 7
                  have hot0_1 := hot0_1.drop 7
                  have hM := hM.drop 7
                  have ho4 := ho4.drop 7
                  have ho8 := ho8.drop 7
                  have ho12 := ho12.drop 7
                  have ho16 := ho16.drop 7
                  have ho20 := ho20.drop 7
                  have ho26 := ho26.freeze
                  have ho36 := ho36.drop 7
                  have ho114 := ho114.drop 7
                  have ho116 := ho116.drop 7
                  obtain rfl := someI h
                  exact ⟨.inr rfl, _, _, (resK_w (sz := 2) hcell1143 (Cov.refl _) rfl rfl rfl (resK_b hcell1144 (Cov.refl _) rfl rfl (resK_t (Cov.refl _) rfl rfl))), rfl, ⟨((S1075.drop 6).drop 7), rfl, rfl, hM, v19, v25, rfl, ho20, ho26⟩⟩
                · have h := iteF q1049 h
                  refine WC.seq (WC.region (WO.mv rfl (WO.mv rfl ?_)))
                  refine WO.bin rfl rfl (by decide) (by decide) rfl ?_
                  refine WO.mv rfl ?_
                  refine WO.cutB (d := 204) 4 ((r1045 == r335) || (decide (((t1.1, t1.2.1, t1.2.2.1, t1.2.2.2)).2.1 < 1))) (fun q1145 => ?_) (fun q1145 => ?_) ?_
                  · refine WO.gno rfl rfl (WO.gno rfl rfl (WO.gno rfl rfl ?_))
                    refine WO.pickT rfl rfl ?_
                    refine WO.nil ?_
                    exact ⟨rfl, rfl, (Cov.any rfl (orT q1145) (Cov.skip rfl (Cov.skip rfl (Cov.skip rfl (Cov.skip rfl (Cov.skip rfl (Cov.refl _)))))))⟩
                  · skip
                    refine WO.gyes rfl rfl ?_
                    refine WO.fldS (j := 0) (q := 0) rfl ho8.at0 ho8.ptr rfl rfl rfl (by decide) ?_
                    refine WO.gyes rfl rfl ?_
                    refine WO.ldB (j := 0) (q := 1) rfl rfl ho8 rfl rfl rfl ?_
                    refine WO.gyes rfl rfl ?_
                    refine WO.bin rfl rfl (by decide) (by decide) rfl ?_
                    refine WO.pickF rfl rfl ?_
                    refine WO.nil ?_
                    exact ⟨rfl, rfl, (Cov.any rfl (orF q1145) (Cov.skip rfl (Cov.skip rfl (Cov.skip rfl (Cov.skip rfl (Cov.skip rfl (Cov.refl _)))))))⟩
                  refine WO.asg rfl (WO.nil (thenL_n ?_))
                  refine WC.cond rfl (fun q1146 => ?_) (fun q1146 => ?_)
                  · have h := iteT q1146 h
                    refine WC.seq ?_
                    refine WC.drawDN rfl ?_
                    have hot0_0z := hot0_0.oz
                    have hot0_1z := hot0_1.oz
                    have ho4z := ho4.lt
                    have ho8z := ho8.lt
                    have ho12z := ho12.lt
                    have ho16z := ho16.lt
                    have ho20z := ho20.oz
                    have ho26z := ho26.oz
                    have ho36z := ho36.lt
                    have ho114z := ho114.oz
                    have ho116z := ho116.oz
                    have k1147 := hot0_0.bko
                    have k1148 := hot0_1.bko
                    have k1149 := ho4.bko
                    have k1150 := ho8.bko
                    have k1151 := ho12.bko
                    have k1152 := ho16.bko
                    have k1153 := ho20.bko
                    have k1154 := ho26.bko
                    have k1155 := ho36.bko
                    have k1156 := ho114.bko
                    have k1157 := ho116.bko
                    refine WO.ldWA (sz := 2) (r := [v19, v25]) rfl ho4.at0 ho4 rfl rfl rfl ho4z (limLe_self _) ?_
                    refine WO.ldBAz (j := 0) rfl ho36.at0 ho36 rfl ho36z (limLe_self _) ?_
                    refine WO.stW (S := S1047) (r := [v19, v25]) rfl ho12.at0 rfl rfl ho12 rfl rfl rfl rfl rfl (fun S1158 c1159 ho12 => ?_)
                    have hot0_0z := hot0_0z.toz c1159
                    have hot0_1z := hot0_1z.toz c1159
                    have ho20z := ho20z.tow c1159
                    have ho26z := ho26z.tow c1159
                    have ho114z := ho114z.tow c1159
                    have ho116z := ho116z.tow c1159
                    have hot0_0 := hot0_0.to c1159
                    have hot0_1 := hot0_1.to c1159
                    have hM := hM.to c1159
                    have ho4 := ho4.to c1159
                    have ho8 := ho8.to c1159
                    have ho16 := ho16.to c1159
                    have ho20 := ho20.to c1159
                    have ho26 := ho26.to c1159
                    have ho36 := ho36.to c1159
                    have ho114 := ho114.to c1159
                    have ho116 := ho116.to c1159
                    have n1160 := c1159.n
                    have k1161 := hot0_0.bko
                    have k1162 := hot0_1.bko
                    have k1163 := ho4.bko
                    have k1164 := ho8.bko
                    have k1165 := ho12.bko
                    have k1166 := ho16.bko
                    have k1167 := ho20.bko
                    have k1168 := ho26.bko
                    have k1169 := ho36.bko
                    have k1170 := ho114.bko
                    have k1171 := ho116.bko
                    refine WO.stBA (u' := ((((([], 0) : (List UInt8) × Int)).1, ((([], 0) : (List UInt8) × Int)).2) : (List UInt8) × Int)) rfl ho16.at0 rfl ho16 rfl rfl (fun S1172 c1173 ho16 => ?_)
                    have hot0_0z := hot0_0z.toz c1173
                    have hot0_1z := hot0_1z.toz c1173
                    have ho20z := ho20z.tow c1173
                    have ho26z := ho26z.tow c1173
                    have ho114z := ho114z.tow c1173
                    have ho116z := ho116z.tow c1173
                    have hot0_0 := hot0_0.to c1173
                    have hot0_1 := hot0_1.to c1173
                    have hM := hM.to c1173
                    have ho4 := ho4.to c1173
                    have ho8 := ho8.to c1173
                    have ho12 := ho12.to c1173
                    have ho20 := ho20.to c1173
                    have ho26 := ho26.to c1173
                    have ho36 := ho36.to c1173
                    have ho114 := ho114.to c1173
                    have ho116 := ho116.to c1173
                    have n1174 := c1173.n
                    have k1175 := hot0_0.bko
                    have k1176 := hot0_1.bko
                    have k1177 := ho4.bko
                    have k1178 := ho8.bko
                    have k1179 := ho12.bko
                    have k1180 := ho16.bko
                    have k1181 := ho20.bko
                    have k1182 := ho26.bko
                    have k1183 := ho36.bko
                    have k1184 := ho114.bko
                    have k1185 := ho116.bko
                    refine WO.asg rfl (WO.nil ?_)
                    refine ⟨fun tt hs => dynOk_of [(1, 2)] (by kernel_rfl) ⟨?_, trivial⟩, ?_⟩
                    · show djT tt _ _ = true
                      have nb1186 := k1147.nb k1149
                      have nb1187 := k1147.nb k1150
                      have nb1188 := k1147.nb k1151
                      have nb1189 := k1147.nb k1152
                      have nb1190 := k1147.nb k1153
                      have nb1191 := k1147.nb k1154
                      have nb1192 := k1147.nb k1155
                      have nb1193 := k1147.nb k1156
                      have nb1194 := k1147.nb k1157
                      have nb1195 := k1148.nb k1149
                      have nb1196 := k1148.nb k1150
                      have nb1197 := k1148.nb k1151
                      have nb1198 := k1148.nb k1152
                      have nb1199 := k1148.nb k1153
                      have nb1200 := k1148.nb k1154
                      have nb1201 := k1148.nb k1155
                      have nb1202 := k1148.nb k1156
                      have nb1203 := k1148.nb k1157
                      have nb1204 := k1149.nb k1150
                      have nb1205 := k1149.nb k1151
                      have nb1206 := k1149.nb k1152
                      have nb1207 := k1149.nb k1153
                      have nb1208 := k1149.nb k1154
                      have nb1209 := k1149.nb k1155
                      have nb1210 := k1149.nb k1156
                      have nb1211 := k1149.nb k1157
                      have nb1212 := k1150.nb k1151
                      have nb1213 := k1150.nb k1152
                      have nb1214 := k1150.nb k1153
                      have nb1215 := k1150.nb k1154
                      have nb1216 := k1150.nb k1155
                      have nb1217 := k1150.nb k1156
                      have nb1218 := k1150.nb k1157
                      have nb1219 := k1151.nb k1152
                      have nb1220 := k1151.nb k1153
                      have nb1221 := k1151.nb k1154
                      have nb1222 := k1151.nb k1155
                      have nb1223 := k1151.nb k1156
                      have nb1224 := k1151.nb k1157
                      have nb1225 := k1152.nb k1153
                      have nb1226 := k1152.nb k1154
                      have nb1227 := k1152.nb k1155
                      have nb1228 := k1152.nb k1156
                      have nb1229 := k1152.nb k1157
                      have nb1230 := k1153.nb k1154
                      have nb1231 := k1153.nb k1155
                      have nb1232 := k1153.nb k1156
                      have nb1233 := k1153.nb k1157
                      have nb1234 := k1154.nb k1155
                      have nb1235 := k1154.nb k1156
                      have nb1236 := k1154.nb k1157
                      have nb1237 := k1155.nb k1156
                      have nb1238 := k1155.nb k1157
                      have nb1239 := k1156.nb k1157
                      refine djT_of hs rfl rfl rfl rfl rfl ?_ ?_ ?_ <;> simp only [NBs, NB1, and_true, true_and] <;> (repeat' apply And.intro) <;> (first | assumption | (apply NB.symm; assumption) | exact NB.none rfl | exact NB.noneR rfl | (apply NB.pt; first | assumption | (apply NB.symm; assumption)) | (apply NB.symm; apply NB.pt; first | assumption | (apply NB.symm; assumption) | (apply NB.symm; apply NB.pt; first | assumption | (apply NB.symm; assumption))))
                    clear k1147 k1148 k1149 k1150 k1151 k1152 k1153 k1154 k1155 k1156 k1157 k1161 k1162 k1163 k1164 k1165 k1166 k1167 k1168 k1169 k1170 k1171 k1175 k1176 k1177 k1178 k1179 k1180 k1181 k1182 k1183 k1184 k1185 n1160 n1174
                    refine thenL_n (WC.ret (blockL_r (thenL_r (blockL_r (thenL_r ?_)))))
                    have hcell1240 := ho12
                    have hcell1241 := ho16
                    have hot0_0 := hot0_0.drop 6
                    have hot0_1 := hot0_1.drop 6
                    have hM := hM.drop 6
                    have ho4 := ho4.drop 6
                    have ho8 := ho8.drop 6
                    have ho12 := ho12.drop 6
                    have ho16 := ho16.drop 6
                    have ho20 := ho20.freeze
                    have ho26 := ho26.drop 6
                    have ho36 := ho36.drop 6
                    have ho114 := ho114.drop 6
                    have ho116 := ho116.drop 6
                    have hot0_0 := hot0_0.drop 7
                    have hot0_1 := hot0_1.drop 7
                    have hM := hM.drop 7
                    have ho4 := ho4.drop 7
                    have ho8 := ho8.drop 7
                    have ho12 := ho12.drop 7
                    have ho16 := ho16.drop 7
                    have ho20 := ho20.drop 7
                    have ho26 := ho26.freeze
                    have ho36 := ho36.drop 7
                    have ho114 := ho114.drop 7
                    have ho116 := ho116.drop 7
                    obtain rfl := someI h
                    exact ⟨.inr rfl, _, _, (resK_w (sz := 2) hcell1240 (Cov.refl _) rfl rfl rfl (resK_b hcell1241 (Cov.refl _) rfl rfl (resK_t (Cov.refl _) rfl rfl))), rfl, ⟨((S1172.drop 6).drop 7), rfl, rfl, hM, v19, v25, rfl, ho20, ho26⟩⟩
                  · have h := iteF q1146 h
                    refine WC.seq ?_
                    refine WC.drawP rfl rfl ?_
                    refine WO.fldS (j := 0) (q := 0) rfl ho8.at0 ho8.ptr rfl rfl rfl (by decide) ?_
                    refine WO.ldB (j := 0) (q := 1) rfl rfl ho8 rfl rfl (limLe_self _) ?_
                    refine WO.mv rfl (WO.mv rfl ?_)
                    obtain ⟨x1242, e1243, h⟩ := bindS h
                    refine WO.ixS rfl rfl ho114.slv (at?_lt e1243) rfl ?_
                    refine WO.ldF rfl ho114.ro (fun _ hi => hi) (at?_get e1243) rfl rfl (limLe_self _) ?_
                    refine WO.bin rfl rfl (by decide) (by decide) rfl ?_
                    refine WO.asg rfl (WO.nil (thenL_n ?_))
                    refine WC.cond rfl (fun q1244 => ?_) (fun q1244 => ?_)
                    · have h := iteT q1244 h
                      refine WC.seq ?_
                      refine WC.drawDN rfl ?_
                      have hot0_0z := hot0_0.oz
                      have hot0_1z := hot0_1.oz
                      have ho4z := ho4.lt
                      have ho8z := ho8.lt
                      have ho12z := ho12.lt
                      have ho16z := ho16.lt
                      have ho20z := ho20.oz
                      have ho26z := ho26.oz
                      have ho36z := ho36.lt
                      have ho114z := ho114.oz
                      have ho116z := ho116.oz
                      have k1245 := hot0_0.bko
                      have k1246 := hot0_1.bko
                      have k1247 := ho4.bko
                      have k1248 := ho8.bko
                      have k1249 := ho12.bko
                      have k1250 := ho16.bko
                      have k1251 := ho20.bko
                      have k1252 := ho26.bko
                      have k1253 := ho36.bko
                      have k1254 := ho114.bko
                      have k1255 := ho116.bko
                      refine WO.ldWA (sz := 2) (r := [v19, v25]) rfl ho4.at0 ho4 rfl rfl rfl ho4z (limLe_self _) ?_
                      refine WO.ldBAz (j := 0) rfl ho36.at0 ho36 rfl ho36z (limLe_self _) ?_
                      refine WO.stW (S := S1047) (r := [v19, v25]) rfl ho12.at0 rfl rfl ho12 rfl rfl rfl rfl rfl (fun S1256 c1257 ho12 => ?_)
                      have hot0_0z := hot0_0z.toz c1257
                      have hot0_1z := hot0_1z.toz c1257
                      have ho20z := ho20z.tow c1257
                      have ho26z := ho26z.tow c1257
                      have ho114z := ho114z.tow c1257
                      have ho116z := ho116z.tow c1257
                      have hot0_0 := hot0_0.to c1257
                      have hot0_1 := hot0_1.to c1257
                      have hM := hM.to c1257
                      have ho4 := ho4.to c1257
                      have ho8 := ho8.to c1257
                      have ho16 := ho16.to c1257
                      have ho20 := ho20.to c1257
                      have ho26 := ho26.to c1257
                      have ho36 := ho36.to c1257
                      have ho114 := ho114.to c1257
                      have ho116 := ho116.to c1257
                      have n1258 := c1257.n
                      have k1259 := hot0_0.bko
                      have k1260 := hot0_1.bko
                      have k1261 := ho4.bko
                      have k1262 := ho8.bko
                      have k1263 := ho12.bko
                      have k1264 := ho16.bko
                      have k1265 := ho20.bko
                      have k1266 := ho26.bko
                      have k1267 := ho36.bko
                      have k1268 := ho114.bko
                      have k1269 := ho116.bko
                      refine WO.stBA (u' := ((((([], 0) : (List UInt8) × Int)).1, ((([], 0) : (List UInt8) × Int)).2) : (List UInt8) × Int)) rfl ho16.at0 rfl ho16 rfl rfl (fun S1270 c1271 ho16 => ?_)
                      have hot0_0z := hot0_0z.toz c1271
                      have hot0_1z := hot0_1z.toz c1271
                      have ho20z := ho20z.tow c1271
                      have ho26z := ho26z.tow c1271
                      have ho114z := ho114z.tow c1271
                      have ho116z := ho116z.tow c1271
                      have hot0_0 := hot0_0.to c1271
                      have hot0_1 := hot0_1.to c1271
                      have hM := hM.to c1271
                      have ho4 := ho4.to c1271
                      have ho8 := ho8.to c1271
                      have ho12 := ho12.to c1271
                      have ho20 := ho20.to c1271
                      have ho26 := ho26.to c1271
                      have ho36 := ho36.to c1271
                      have ho114 := ho114.to c1271
                      have ho116 := ho116.to c1271
                      have n1272 := c1271.n
                      have k1273 := hot0_0.bko
                      have k1274 := hot0_1.bko
                      have k1275 := ho4.bko
                      have k1276 := ho8.bko
                      have k1277 := ho12.bko
                      have k1278 := ho16.bko
                      have k1279 := ho20.bko
                      have k1280 := ho26.bko
                      have k1281 := ho36.bko
                      have k1282 := ho114.bko
                      have k1283 := ho116.bko
                      refine WO.asg rfl (WO.nil ?_)
                      refine ⟨fun tt hs => dynOk_of [(1, 2)] (by kernel_rfl) ⟨?_, trivial⟩, ?_⟩
                      · show djT tt _ _ = true
                        have nb1284 := k1245.nb k1247
                        have nb1285 := k1245.nb k1248
                        have nb1286 := k1245.nb k1249
                        have nb1287 := k1245.nb k1250
                        have nb1288 := k1245.nb k1251
                        have nb1289 := k1245.nb k1252
                        have nb1290 := k1245.nb k1253
                        have nb1291 := k1245.nb k1254
                        have nb1292 := k1245.nb k1255
                        have nb1293 := k1246.nb k1247
                        have nb1294 := k1246.nb k1248
                        have nb1295 := k1246.nb k1249
                        have nb1296 := k1246.nb k1250
                        have nb1297 := k1246.nb k1251
                        have nb1298 := k1246.nb k1252
                        have nb1299 := k1246.nb k1253
                        have nb1300 := k1246.nb k1254
                        have nb1301 := k1246.nb k1255
                        have nb1302 := k1247.nb k1248
                        have nb1303 := k1247.nb k1249
                        have nb1304 := k1247.nb k1250
                        have nb1305 := k1247.nb k1251
                        have nb1306 := k1247.nb k1252
                        have nb1307 := k1247.nb k1253
                        have nb1308 := k1247.nb k1254
                        have nb1309 := k1247.nb k1255
                        have nb1310 := k1248.nb k1249
                        have nb1311 := k1248.nb k1250
                        have nb1312 := k1248.nb k1251
                        have nb1313 := k1248.nb k1252
                        have nb1314 := k1248.nb k1253
                        have nb1315 := k1248.nb k1254
                        have nb1316 := k1248.nb k1255
                        have nb1317 := k1249.nb k1250
                        have nb1318 := k1249.nb k1251
                        have nb1319 := k1249.nb k1252
                        have nb1320 := k1249.nb k1253
                        have nb1321 := k1249.nb k1254
                        have nb1322 := k1249.nb k1255
                        have nb1323 := k1250.nb k1251
                        have nb1324 := k1250.nb k1252
                        have nb1325 := k1250.nb k1253
                        have nb1326 := k1250.nb k1254
                        have nb1327 := k1250.nb k1255
                        have nb1328 := k1251.nb k1252
                        have nb1329 := k1251.nb k1253
                        have nb1330 := k1251.nb k1254
                        have nb1331 := k1251.nb k1255
                        have nb1332 := k1252.nb k1253
                        have nb1333 := k1252.nb k1254
                        have nb1334 := k1252.nb k1255
                        have nb1335 := k1253.nb k1254
                        have nb1336 := k1253.nb k1255
                        have nb1337 := k1254.nb k1255
                        refine djT_of hs rfl rfl rfl rfl rfl ?_ ?_ ?_ <;> simp only [NBs, NB1, and_true, true_and] <;> (repeat' apply And.intro) <;> (first | assumption | (apply NB.symm; assumption) | exact NB.none rfl | exact NB.noneR rfl | (apply NB.pt; first | assumption | (apply NB.symm; assumption)) | (apply NB.symm; apply NB.pt; first | assumption | (apply NB.symm; assumption) | (apply NB.symm; apply NB.pt; first | assumption | (apply NB.symm; assumption))))
                      clear k1245 k1246 k1247 k1248 k1249 k1250 k1251 k1252 k1253 k1254 k1255 k1259 k1260 k1261 k1262 k1263 k1264 k1265 k1266 k1267 k1268 k1269 k1273 k1274 k1275 k1276 k1277 k1278 k1279 k1280 k1281 k1282 k1283 n1258 n1272
                      refine thenL_n (WC.ret (blockL_r (thenL_r (blockL_r (thenL_r ?_)))))
                      have hcell1338 := ho12
                      have hcell1339 := ho16
                      have hot0_0 := hot0_0.drop 6
                      have hot0_1 := hot0_1.drop 6
                      have hM := hM.drop 6
                      have ho4 := ho4.drop 6
                      have ho8 := ho8.drop 6
                      have ho12 := ho12.drop 6
                      have ho16 := ho16.drop 6
                      have ho20 := ho20.freeze
                      have ho26 := ho26.drop 6
                      have ho36 := ho36.drop 6
                      have ho114 := ho114.drop 6
                      have ho116 := ho116.drop 6
                      have hot0_0 := hot0_0.drop 7
                      have hot0_1 := hot0_1.drop 7
                      have hM := hM.drop 7
                      have ho4 := ho4.drop 7
                      have ho8 := ho8.drop 7
                      have ho12 := ho12.drop 7
                      have ho16 := ho16.drop 7
                      have ho20 := ho20.drop 7
                      have ho26 := ho26.freeze
                      have ho36 := ho36.drop 7
                      have ho114 := ho114.drop 7
                      have ho116 := ho116.drop 7
                      obtain rfl := someI h
                      exact ⟨.inr rfl, _, _, (resK_w (sz := 2) hcell1338 (Cov.refl _) rfl rfl rfl (resK_b hcell1339 (Cov.refl _) rfl rfl (resK_t (Cov.refl _) rfl rfl))), rfl, ⟨((S1270.drop 6).drop 7), rfl, rfl, hM, v19, v25, rfl, ho20, ho26⟩⟩
                    · have h := iteF q1244 h
                      refine WC.seq ?_
                      refine WC.drawP rfl rfl ?_
                      refine WO.mv rfl (WO.mv rfl ?_)
                      obtain ⟨x1340, e1341, h⟩ := bindS h
                      refine WO.ixS rfl rfl ho114.slv (at?_lt e1341) rfl ?_
                      refine WO.ldF rfl ho114.ro (fun _ hi => hi) (at?_get e1341) rfl rfl (limLe_self _) ?_
                      refine WO.fldS (j := 0) (q := 0) rfl ho8.at0 ho8.ptr rfl rfl rfl (by decide) ?_
                      refine WO.ldB (j := 0) (q := 1) rfl rfl ho8 rfl rfl (limLe_self _) ?_
                      refine WO.bin rfl rfl (by decide) (by decide) rfl ?_
                      refine WO.bin rfl rfl (by decide) (by decide) rfl ?_
                      refine WO.asg rfl (WO.nil (thenL_n ?_))
                      refine WC.cond rfl (fun q1342 => ?_) (fun q1342 => ?_)
                      · have h := iteT q1342 h
                        refine WC.seq ?_
                        refine WC.drawDN rfl ?_
                        have hot0_0z := hot0_0.oz
                        have hot0_1z := hot0_1.oz
                        have ho4z := ho4.lt
                        have ho8z := ho8.lt
                        have ho12z := ho12.lt
                        have ho16z := ho16.lt
                        have ho20z := ho20.oz
                        have ho26z := ho26.oz
                        have ho36z := ho36.lt
                        have ho114z := ho114.oz
                        have ho116z := ho116.oz
                        have k1343 := hot0_0.bko
                        have k1344 := hot0_1.bko
                        have k1345 := ho4.bko
                        have k1346 := ho8.bko
                        have k1347 := ho12.bko
                        have k1348 := ho16.bko
                        have k1349 := ho20.bko
                        have k1350 := ho26.bko
                        have k1351 := ho36.bko
                        have k1352 := ho114.bko
                        have k1353 := ho116.bko
                        refine WO.ldWA (sz := 2) (r := [v19, v25]) rfl ho4.at0 ho4 rfl rfl rfl ho4z (limLe_self _) ?_
                        refine WO.ldBAz (j := 0) rfl ho36.at0 ho36 rfl ho36z (limLe_self _) ?_
                        refine WO.stW (S := S1047) (r := [v19, v25]) rfl ho12.at0 rfl rfl ho12 rfl rfl rfl rfl rfl (fun S1354 c1355 ho12 => ?_)
                        have hot0_0z := hot0_0z.toz c1355
                        have hot0_1z := hot0_1z.toz c1355
                        have ho20z := ho20z.tow c1355
                        have ho26z := ho26z.tow c1355
                        have ho114z := ho114z.tow c1355
                        have ho116z := ho116z.tow c1355
                        have hot0_0 := hot0_0.to c1355
                        have hot0_1 := hot0_1.to c1355
                        have hM := hM.to c1355
                        have ho4 := ho4.to c1355
                        have ho8 := ho8.to c1355
                        have ho16 := ho16.to c1355
                        have ho20 := ho20.to c1355
                        have ho26 := ho26.to c1355
                        have ho36 := ho36.to c1355
                        have ho114 := ho114.to c1355
                        have ho116 := ho116.to c1355
                        have n1356 := c1355.n
                        have k1357 := hot0_0.bko
                        have k1358 := hot0_1.bko
                        have k1359 := ho4.bko
                        have k1360 := ho8.bko
                        have k1361 := ho12.bko
                        have k1362 := ho16.bko
                        have k1363 := ho20.bko
                        have k1364 := ho26.bko
                        have k1365 := ho36.bko
                        have k1366 := ho114.bko
                        have k1367 := ho116.bko
                        refine WO.stBA (u' := ((((([], 0) : (List UInt8) × Int)).1, ((([], 0) : (List UInt8) × Int)).2) : (List UInt8) × Int)) rfl ho16.at0 rfl ho16 rfl rfl (fun S1368 c1369 ho16 => ?_)
                        have hot0_0z := hot0_0z.toz c1369
                        have hot0_1z := hot0_1z.toz c1369
                        have ho20z := ho20z.tow c1369
                        have ho26z := ho26z.tow c1369
                        have ho114z := ho114z.tow c1369
                        have ho116z := ho116z.tow c1369
                        have hot0_0 := hot0_0.to c1369
                        have hot0_1 := hot0_1.to c1369
                        have hM := hM.to c1369
                        have ho4 := ho4.to c1369
                        have ho8 := ho8.to c1369
                        have ho12 := ho12.to c1369
                        have ho20 := ho20.to c1369
                        have ho26 := ho26.to c1369
                        have ho36 := ho36.to c1369
                        have ho114 := ho114.to c1369
                        have ho116 := ho116.to c1369
                        have n1370 := c1369.n
                        have k1371 := hot0_0.bko
                        have k1372 := hot0_1.bko
                        have k1373 := ho4.bko
                        have k1374 := ho8.bko
                        have k1375 := ho12.bko
                        have k1376 := ho16.bko
                        have k1377 := ho20.bko
                        have k1378 := ho26.bko
                        have k1379 := ho36.bko
                        have k1380 := ho114.bko
                        have k1381 := ho116.bko
                        refine WO.asg rfl (WO.nil ?_)
                        refine ⟨fun tt hs => dynOk_of [(1, 2)] (by kernel_rfl) ⟨?_, trivial⟩, ?_⟩
                        · show djT tt _ _ = true
                          have nb1382 := k1343.nb k1345
                          have nb1383 := k1343.nb k1346
                          have nb1384 := k1343.nb k1347
                          have nb1385 := k1343.nb k1348
                          have nb1386 := k1343.nb k1349
                          have nb1387 := k1343.nb k1350
                          have nb1388 := k1343.nb k1351
                          have nb1389 := k1343.nb k1352
                          have nb1390 := k1343.nb k1353
                          have nb1391 := k1344.nb k1345
                          have nb1392 := k1344.nb k1346
                          have nb1393 := k1344.nb k1347
                          have nb1394 := k1344.nb k1348
                          have nb1395 := k1344.nb k1349
                          have nb1396 := k1344.nb k1350
                          have nb1397 := k1344.nb k1351
                          have nb1398 := k1344.nb k1352
                          have nb1399 := k1344.nb k1353
                          have nb1400 := k1345.nb k1346
                          have nb1401 := k1345.nb k1347
                          have nb1402 := k1345.nb k1348
                          have nb1403 := k1345.nb k1349
                          have nb1404 := k1345.nb k1350
                          have nb1405 := k1345.nb k1351
                          have nb1406 := k1345.nb k1352
                          have nb1407 := k1345.nb k1353
                          have nb1408 := k1346.nb k1347
                          have nb1409 := k1346.nb k1348
                          have nb1410 := k1346.nb k1349
                          have nb1411 := k1346.nb k1350
                          have nb1412 := k1346.nb k1351
                          have nb1413 := k1346.nb k1352
                          have nb1414 := k1346.nb k1353
                          have nb1415 := k1347.nb k1348
                          have nb1416 := k1347.nb k1349
                          have nb1417 := k1347.nb k1350
                          have nb1418 := k1347.nb k1351
                          have nb1419 := k1347.nb k1352
                          have nb1420 := k1347.nb k1353
                          have nb1421 := k1348.nb k1349
                          have nb1422 := k1348.nb k1350
                          have nb1423 := k1348.nb k1351
                          have nb1424 := k1348.nb k1352
                          have nb1425 := k1348.nb k1353
                          have nb1426 := k1349.nb k1350
                          have nb1427 := k1349.nb k1351
                          have nb1428 := k1349.nb k1352
                          have nb1429 := k1349.nb k1353
                          have nb1430 := k1350.nb k1351
                          have nb1431 := k1350.nb k1352
                          have nb1432 := k1350.nb k1353
                          have nb1433 := k1351.nb k1352
                          have nb1434 := k1351.nb k1353
                          have nb1435 := k1352.nb k1353
                          refine djT_of hs rfl rfl rfl rfl rfl ?_ ?_ ?_ <;> simp only [NBs, NB1, and_true, true_and] <;> (repeat' apply And.intro) <;> (first | assumption | (apply NB.symm; assumption) | exact NB.none rfl | exact NB.noneR rfl | (apply NB.pt; first | assumption | (apply NB.symm; assumption)) | (apply NB.symm; apply NB.pt; first | assumption | (apply NB.symm; assumption) | (apply NB.symm; apply NB.pt; first | assumption | (apply NB.symm; assumption))))
                        clear k1343 k1344 k1345 k1346 k1347 k1348 k1349 k1350 k1351 k1352 k1353 k1357 k1358 k1359 k1360 k1361 k1362 k1363 k1364 k1365 k1366 k1367 k1371 k1372 k1373 k1374 k1375 k1376 k1377 k1378 k1379 k1380 k1381 n1356 n1370
                        refine thenL_n (WC.ret (blockL_r (thenL_r (blockL_r (thenL_r ?_)))))
                        have hcell1436 := ho12
                        have hcell1437 := ho16
                        have hot0_0 := hot0_0.drop 6
                        have hot0_1 := hot0_1.drop 6
                        have hM := hM.drop 6
                        have ho4 := ho4.drop 6
                        have ho8 := ho8.drop 6
                        have ho12 := ho12.drop 6
                        have ho16 := ho16.drop 6
                        have ho20 := ho20.freeze
                        have ho26 := ho26.drop 6
                        have ho36 := ho36.drop 6
                        have ho114 := ho114.drop 6
                        have ho116 := ho116.drop 6
                        have hot0_0 := hot0_0.drop 7
                        have hot0_1 := hot0_1.drop 7
                        have hM := hM.drop 7
                        have ho4 := ho4.drop 7
                        have ho8 := ho8.drop 7
                        have ho12 := ho12.drop 7
                        have ho16 := ho16.drop 7
                        have ho20 := ho20.drop 7
                        have ho26 := ho26.freeze
                        have ho36 := ho36.drop 7
                        have ho114 := ho114.drop 7
                        have ho116 := ho116.drop 7
                        obtain rfl := someI h
                        exact ⟨.inr rfl, _, _, (resK_w (sz := 2) hcell1436 (Cov.refl _) rfl rfl rfl (resK_b hcell1437 (Cov.refl _) rfl rfl (resK_t (Cov.refl _) rfl rfl))), rfl, ⟨((S1368.drop 6).drop 7), rfl, rfl, hM, v19, v25, rfl, ho20, ho26⟩⟩
                      · have h := iteF q1342 h
                        refine WC.skip (blockL_n (thenL_n (WC.seq ?_)))
                        refine WC.drawN rfl rfl ?_
                        have hot0_0z := hot0_0.oz
                        have hot0_1z := hot0_1.oz
                        have ho4z := ho4.lt
                        have ho8z := ho8.lt
                        have ho12z := ho12.lt
                        have ho16z := ho16.lt
                        have ho20z := ho20.oz
                        have ho26z := ho26.oz
                        have ho36z := ho36.lt
                        have ho114z := ho114.oz
                        have ho116z := ho116.oz
                        refine WO.fldS (j := 0) (q := 0) rfl ho4.at0 ho4.ptr rfl rfl rfl (by decide) ?_
                        refine WO.ldW rfl rfl ho4 rfl rfl ho4z (limLe_self _) ?_
                        refine WO.mv rfl ?_
                        obtain ⟨x1438, e1439, h⟩ := bindS h
                        refine WO.ixS rfl rfl ho20.slv (at?_lt e1439) rfl ?_
                        refine WO.fldS rfl rfl (SlV.ptr ho20.slv (at?_nat e1439)) rfl rfl rfl (by decide) ?_
                        refine WO.ldF rfl ho20z (fun _ hi => hi.1) (at?_get e1439) rfl rfl (limLe_self _) ?_
                        refine WO.fldS (j := 0) (q := 0) rfl ho8.at0 ho8.ptr rfl rfl rfl (by decide) ?_
                        refine WO.ldBz (j := 0) (q := 1) rfl rfl ho8 rfl rfl ho8z (limLe_self _) ?_
                        refine WO.bin rfl rfl (by decide) (by decide) rfl ?_
                        obtain ⟨x1440, e1441, h⟩ := bindS h
                        refine WO.ixS rfl rfl ho20.slv (at?_lt e1441) rfl ?_
                        refine WO.fldS rfl rfl (SlV.ptr ho20.slv (at?_nat e1441)) rfl rfl rfl (by decide) ?_
                        refine WO.stF (q := 1) (u' := (x1440.1, (wrapA .i64 (x1438.2.1 - ((t1.1, t1.2.1, t1.2.2.1, t1.2.2.2)).2.1)), x1440.2.2)) rfl rfl ho20 (at?_get e1441) rfl (by decide) rfl rfl (fun S1442 c1443 ho20 => ?_)
                        have hot0_0z := hot0_0z.toz c1443
                        have hot0_1z := hot0_1z.toz c1443
                        have ho26z := ho26z.tow c1443
                        have ho114z := ho114z.tow c1443
                        have ho116z := ho116z.tow c1443
                        have hot0_0 := hot0_0.to c1443
                        have hot0_1 := hot0_1.to c1443
                        have hM := hM.to c1443
                        have ho4 := ho4.to c1443
                        have ho8 := ho8.to c1443
                        have ho12 := ho12.to c1443
                        have ho16 := ho16.to c1443
                        have ho26 := ho26.to c1443
                        have ho36 := ho36.to c1443
                        have ho114 := ho114.to c1443
                        have ho116 := ho116.to c1443
                        refine WO.nil (thenL_n (WC.seq ?_))
                        refine WC.drawN rfl rfl ?_
                        have hot0_0z := hot0_0.oz
                        have hot0_1z := hot0_1.oz
                        have ho4z := ho4.lt
                        have ho8z := ho8.lt
                        have ho12z := ho12.lt
                        have ho16z := ho16.lt
                        have ho20z := ho20.oz
                        have ho26z := ho26.oz
                        have ho36z := ho36.lt
                        have ho114z := ho114.oz
                        have ho116z := ho116.oz
                        refine WO.fldS (j := 0) (q := 0) rfl ho4.at0 ho4.ptr rfl rfl rfl (by decide) ?_
                        refine WO.ldW rfl rfl ho4 rfl rfl ho4z (limLe_self _) ?_
                        refine WO.mv rfl ?_
                        obtain ⟨x1444, e1445, h⟩ := bindS h
                        refine WO.ixS rfl rfl ho20.slv (at?_lt e1445) rfl ?_
                        refine WO.fldS rfl rfl (SlV.ptr ho20.slv (at?_nat e1445)) rfl rfl rfl (by decide) ?_
                        refine WO.ldF rfl ho20z (fun _ hi => hi.1) (at?_get e1445) rfl rfl (limLe_self _) ?_
                        refine WO.fldS (j := 0) (q := 0) rfl ho8.at0 ho8.ptr rfl rfl rfl (by decide) ?_
                        refine WO.ldBz (j := 0) (q := 1) rfl rfl ho8 rfl rfl ho8z (limLe_self _) ?_
                        refine WO.bin rfl rfl (by decide) (by decide) rfl ?_
                        obtain ⟨x1446, e1447, h⟩ := bindS h
                        refine WO.ixS rfl rfl ho20.slv (at?_lt e1447) rfl ?_
                        refine WO.fldS rfl rfl (SlV.ptr ho20.slv (at?_nat e1447)) rfl rfl rfl (by decide) ?_
                        refine WO.stF (q := 1) (u' := (x1446.1, (wrapA .i64 (x1444.2.1 + ((t1.1, t1.2.1, t1.2.2.1, t1.2.2.2)).2.1)), x1446.2.2)) rfl rfl ho20 (at?_get e1447) rfl (by decide) rfl rfl (fun S1448 c1449 ho20 => ?_)
                        have hot0_0z := hot0_0z.toz c1449
                        have hot0_1z := hot0_1z.toz c1449
                        have ho26z := ho26z.tow c1449
                        have ho114z := ho114z.tow c1449
                        have ho116z := ho116z.tow c1449
                        have hot0_0 := hot0_0.to c1449
                        have hot0_1 := hot0_1.to c1449
                        have hM := hM.to c1449
                        have ho4 := ho4.to c1449
                        have ho8 := ho8.to c1449
                        have ho12 := ho12.to c1449
                        have ho16 := ho16.to c1449
                        have ho26 := ho26.to c1449
                        have ho36 := ho36.to c1449
                        have ho114 := ho114.to c1449
                        have ho116 := ho116.to c1449
                        refine WO.nil (thenL_n (WC.region ?_))
                        refine WO.fldS (j := 0) (q := 0) rfl ho4.at0 ho4.ptr rfl rfl rfl (by decide) ?_
                        refine WO.ldW rfl rfl ho4 rfl rfl ho4.lt rfl ?_
                        refine WO.fldS (j := 0) (q := 0) rfl ho8.at0 ho8.ptr rfl rfl rfl (by decide) ?_
                        refine WO.ldB (j := 0) (q := 2) rfl rfl ho8 rfl rfl rfl ?_
                        refine WO.fldS (j := 0) (q := 0) rfl ho8.at0 ho8.ptr rfl rfl rfl (by decide) ?_
                        refine WO.ldB (j := 0) (q := 3) rfl rfl ho8 rfl rfl rfl ?_
                        refine WO.fldS (j := 0) (q := 0) rfl ho8.at0 ho8.ptr rfl rfl rfl (by decide) ?_
                        refine WO.ldB (j := 0) (q := 1) rfl rfl ho8 rfl rfl rfl ?_
                        refine WO.do rfl rfl ?_
                        refine WO.bsS (A := Y65) (S := S1448) (M := [(((t1.1, t1.2.1, t1.2.2.1, t1.2.2.2)).2.2.1, ((t1.1, t1.2.1, t1.2.2.1, t1.2.2.2)).2.2.2, ((t1.1, t1.2.1, t1.2.2.1, t1.2.2.2)).2.1)]) (cs := [.str (((t1.1, t1.2.1, t1.2.2.1, t1.2.2.2)).2.2.1), .str (((t1.1, t1.2.1, t1.2.2.1, t1.2.2.2)).2.2.2), .int .i64 (((t1.1, t1.2.1, t1.2.2.1, t1.2.2.2)).2.1)]) 13 rfl rfl rfl ⟨[.str (((t1.1, t1.2.1, t1.2.2.1, t1.2.2.2)).2.2.1), .str (((t1.1, t1.2.1, t1.2.2.1, t1.2.2.2)).2.2.2), .int .i64 (((t1.1, t1.2.1, t1.2.2.1, t1.2.2.2)).2.1)], _, rfl, rfl, rfl⟩ rfl (fun v1450 S1451 c1452 ho1453 => ?_)
                        have hot0_0 := hot0_0.to c1452
                        have hot0_1 := hot0_1.to c1452
                        have hM := hM.to c1452
                        have ho4 := ho4.to c1452
                        have ho8 := ho8.to c1452
                        have ho12 := ho12.to c1452
                        have ho16 := ho16.to c1452
                        have ho20 := ho20.to c1452
                        have ho26 := ho26.to c1452
                        have ho36 := ho36.to c1452
                        have ho114 := ho114.to c1452
                        have ho116 := ho116.to c1452
                        obtain ⟨L1454, e1455, h⟩ := bindS h
                        refine WO.appSB rfl rfl ho26 ho1453.ro e1455 rfl rfl rfl (fun v1456 S1457 c1458 ho1459 => ?_)
                        have hot0_0 := hot0_0.to c1458
                        have hot0_1 := hot0_1.to c1458
                        have hM := hM.to c1458
                        have ho4 := ho4.to c1458
                        have ho8 := ho8.to c1458
                        have ho12 := ho12.to c1458
                        have ho16 := ho16.to c1458
                        have ho20 := ho20.to c1458
                        have ho36 := ho36.to c1458
                        have ho114 := ho114.to c1458
                        have ho116 := ho116.to c1458
                        have ho1453 := ho1453.to c1458
                        refine WO.fldS (j := 0) (q := 0) rfl ho4.at0 ho4.ptr rfl rfl rfl (by decide) ?_
                        refine WO.stW (S := S1457) (r := [v19, v1456]) rfl rfl rfl rfl ho4 rfl rfl rfl rfl rfl (fun S1460 c1461 ho4 => ?_)
                        have hot0_0 := hot0_0.to c1461
                        have hot0_1 := hot0_1.to c1461
                        have hM := hM.to c1461
                        have ho8 := ho8.to c1461
                        have ho12 := ho12.to c1461
                        have ho16 := ho16.to c1461
                        have ho20 := ho20.to c1461
                        have ho36 := ho36.to c1461
                        have ho114 := ho114.to c1461
                        have ho116 := ho116.to c1461
                        have ho1453 := ho1453.to c1461
                        have ho1459 := ho1459.to c1461
                        refine WO.nil (blockL_n (thenL_n (WC.seq ?_)))
                        refine WC.drawDN rfl ?_
                        have hot0_0z := hot0_0.oz
                        have hot0_1z := hot0_1.oz
                        have ho4z := ho4.lt
                        have ho8z := ho8.lt
                        have ho12z := ho12.lt
                        have ho16z := ho16.lt
                        have ho20z := ho20.oz
                        have ho36z := ho36.lt
                        have ho114z := ho114.oz
                        have ho116z := ho116.oz
                        have ho1453z := ho1453.oz
                        have ho1459z := ho1459.oz
                        have k1462 := hot0_0.bko
                        have k1463 := hot0_1.bko
                        have k1464 := ho4.bko
                        have k1465 := ho8.bko
                        have k1466 := ho12.bko
                        have k1467 := ho16.bko
                        have k1468 := ho20.bko
                        have k1469 := ho36.bko
                        have k1470 := ho114.bko
                        have k1471 := ho116.bko
                        have k1472 := ho1453.bko
                        have k1473 := ho1459.bko
                        refine WO.ldWA (sz := 2) (r := [v19, v1456]) rfl ho4.at0 ho4 rfl rfl rfl ho4z (limLe_self _) ?_
                        refine WO.ldBAz (j := 0) rfl ho36.at0 ho36 rfl ho36z (limLe_self _) ?_
                        refine WO.stW (S := S1460) (r := [v19, v1456]) rfl ho12.at0 rfl rfl ho12 rfl rfl rfl rfl rfl (fun S1474 c1475 ho12 => ?_)
                        have hot0_0z := hot0_0z.toz c1475
                        have hot0_1z := hot0_1z.toz c1475
                        have ho20z := ho20z.tow c1475
                        have ho114z := ho114z.tow c1475
                        have ho116z := ho116z.tow c1475
                        have ho1453z := ho1453z.tow c1475
                        have ho1459z := ho1459z.tow c1475
                        have hot0_0 := hot0_0.to c1475
                        have hot0_1 := hot0_1.to c1475
                        have hM := hM.to c1475
                        have ho4 := ho4.to c1475
                        have ho8 := ho8.to c1475
                        have ho16 := ho16.to c1475
                        have ho20 := ho20.to c1475
                        have ho36 := ho36.to c1475
                        have ho114 := ho114.to c1475
                        have ho116 := ho116.to c1475
                        have ho1453 := ho1453.to c1475
                        have ho1459 := ho1459.to c1475
                        have n1476 := c1475.n
                        have k1477 := hot0_0.bko
                        have k1478 := hot0_1.bko
                        have k1479 := ho4.bko
                        have k1480 := ho8.bko
                        have k1481 := ho12.bko
                        have k1482 := ho16.bko
                        have k1483 := ho20.bko
                        have k1484 := ho36.bko
                        have k1485 := ho114.bko
                        have k1486 := ho116.bko
                        have k1487 := ho1453.bko
                        have k1488 := ho1459.bko
                        refine WO.stBA (u' := ((((([], 0) : (List UInt8) × Int)).1, ((([], 0) : (List UInt8) × Int)).2) : (List UInt8) × Int)) rfl ho16.at0 rfl ho16 rfl rfl (fun S1489 c1490 ho16 => ?_)
                        have hot0_0z := hot0_0z.toz c1490
                        have hot0_1z := hot0_1z.toz c1490
                        have ho20z := ho20z.tow c1490
                        have ho114z := ho114z.tow c1490
                        have ho116z := ho116z.tow c1490
                        have ho1453z := ho1453z.tow c1490
                        have ho1459z := ho1459z.tow c1490
                        have hot0_0 := hot0_0.to c1490
                        have hot0_1 := hot0_1.to c1490
                        have hM := hM.to c1490
                        have ho4 := ho4.to c1490
                        have ho8 := ho8.to c1490
                        have ho12 := ho12.to c1490
                        have ho20 := ho20.to c1490
                        have ho36 := ho36.to c1490
                        have ho114 := ho114.to c1490
                        have ho116 := ho116.to c1490
                        have ho1453 := ho1453.to c1490
                        have ho1459 := ho1459.to c1490
                        have n1491 := c1490.n
                        have k1492 := hot0_0.bko
                        have k1493 := hot0_1.bko
                        have k1494 := ho4.bko
                        have k1495 := ho8.bko
                        have k1496 := ho12.bko
                        have k1497 := ho16.bko
                        have k1498 := ho20.bko
                        have k1499 := ho36.bko
                        have k1500 := ho114.bko
                        have k1501 := ho116.bko
                        have k1502 := ho1453.bko
                        have k1503 := ho1459.bko
                        refine WO.asg rfl (WO.nil ?_)
                        refine ⟨fun tt hs => dynOk_of [(1, 2)] (by kernel_rfl) ⟨?_, trivial⟩, ?_⟩
                        · show djT tt _ _ = true
                          have nb1504 := k1462.nb k1464
                          have nb1505 := k1462.nb k1465
                          have nb1506 := k1462.nb k1466
                          have nb1507 := k1462.nb k1467
                          have nb1508 := k1462.nb k1468
                          have nb1509 := k1462.nb k1469
                          have nb1510 := k1462.nb k1470
                          have nb1511 := k1462.nb k1471
                          have nb1512 := k1462.nb k1472
                          have nb1513 := k1462.nb k1473
                          have nb1514 := k1463.nb k1464
                          have nb1515 := k1463.nb k1465
                          have nb1516 := k1463.nb k1466
                          have nb1517 := k1463.nb k1467
                          have nb1518 := k1463.nb k1468
                          have nb1519 := k1463.nb k1469
                          have nb1520 := k1463.nb k1470
                          have nb1521 := k1463.nb k1471
                          have nb1522 := k1463.nb k1472
                          have nb1523 := k1463.nb k1473
                          have nb1524 := k1464.nb k1465
                          have nb1525 := k1464.nb k1466
                          have nb1526 := k1464.nb k1467
                          have nb1527 := k1464.nb k1468
                          have nb1528 := k1464.nb k1469
                          have nb1529 := k1464.nb k1470
                          have nb1530 := k1464.nb k1471
                          have nb1531 := k1464.nb k1472
                          have nb1532 := k1464.nb k1473
                          have nb1533 := k1465.nb k1466
                          have nb1534 := k1465.nb k1467
                          have nb1535 := k1465.nb k1468
                          have nb1536 := k1465.nb k1469
                          have nb1537 := k1465.nb k1470
                          have nb1538 := k1465.nb k1471
                          have nb1539 := k1465.nb k1472
                          have nb1540 := k1465.nb k1473
                          have nb1541 := k1466.nb k1467
                          have nb1542 := k1466.nb k1468
                          have nb1543 := k1466.nb k1469
                          have nb1544 := k1466.nb k1470
                          have nb1545 := k1466.nb k1471
                          have nb1546 := k1466.nb k1472
                          have nb1547 := k1466.nb k1473
                          have nb1548 := k1467.nb k1468
                          have nb1549 := k1467.nb k1469
                          have nb1550 := k1467.nb k1470
                          have nb1551 := k1467.nb k1471
                          have nb1552 := k1467.nb k1472
                          have nb1553 := k1467.nb k1473
                          have nb1554 := k1468.nb k1469
                          have nb1555 := k1468.nb k1470
                          have nb1556 := k1468.nb k1471
                          have nb1557 := k1468.nb k1472
                          have nb1558 := k1468.nb k1473
                          have nb1559 := k1469.nb k1470
                          have nb1560 := k1469.nb k1471
                          have nb1561 := k1469.nb k1472
                          have nb1562 := k1469.nb k1473
                          have nb1563 := k1470.nb k1471
                          have nb1564 := k1470.nb k1472
                          have nb1565 := k1470.nb k1473
                          have nb1566 := k1471.nb k1472
                          have nb1567 := k1471.nb k1473
                          have nb1568 := k1472.nb k1473
                          refine djT_of hs rfl rfl rfl rfl rfl ?_ ?_ ?_ <;> simp only [NBs, NB1, and_true, true_and] <;> (repeat' apply And.intro) <;> (first | assumption | (apply NB.symm; assumption) | exact NB.none rfl | exact NB.noneR rfl | (apply NB.pt; first | assumption | (apply NB.symm; assumption)) | (apply NB.symm; apply NB.pt; first | assumption | (apply NB.symm; assumption) | (apply NB.symm; apply NB.pt; first | assumption | (apply NB.symm; assumption))))
                        clear k1462 k1463 k1464 k1465 k1466 k1467 k1468 k1469 k1470 k1471 k1472 k1473 k1477 k1478 k1479 k1480 k1481 k1482 k1483 k1484 k1485 k1486 k1487 k1488 k1492 k1493 k1494 k1495 k1496 k1497 k1498 k1499 k1500 k1501 k1502 k1503 n1476 n1491
                        refine thenL_n (WC.ret ?_)
                        have hcell1569 := ho12
                        have hcell1570 := ho16
                        have hot0_0 := hot0_0.drop 6
                        have hot0_1 := hot0_1.drop 6
                        have hM := hM.drop 6
                        have ho4 := ho4.drop 6
                        have ho8 := ho8.drop 6
                        have ho12 := ho12.drop 6
                        have ho16 := ho16.drop 6
                        have ho20 := ho20.freeze
                        have ho36 := ho36.drop 6
                        have ho114 := ho114.drop 6
                        have ho116 := ho116.drop 6
                        have ho1453 := ho1453.drop 6
                        have ho1459 := ho1459.drop 6
                        have hot0_0 := hot0_0.drop 7
                        have hot0_1 := hot0_1.drop 7
                        have hM := hM.drop 7
                        have ho4 := ho4.drop 7
                        have ho8 := ho8.drop 7
                        have ho12 := ho12.drop 7
                        have ho16 := ho16.drop 7
                        have ho20 := ho20.drop 7
                        have ho36 := ho36.drop 7
                        have ho114 := ho114.drop 7
                        have ho116 := ho116.drop 7
                        have ho1453 := ho1453.drop 7
                        have ho1459 := ho1459.freeze
                        obtain rfl := someI h
                        exact ⟨.inr rfl, _, _, (resK_w (sz := 2) hcell1569 (Cov.refl _) rfl rfl rfl (resK_b hcell1570 (Cov.refl _) rfl rfl (resK_t (Cov.refl _) rfl rfl))), rfl, ⟨((S1489.drop 6).drop 7), rfl, rfl, hM, v19, v1456, rfl, ho20, ho1459⟩⟩
              · have h := iteF q1044 h
                refine WC.seq (WC.region ?_)
                refine WO.bin rfl rfl (by decide) (by decide) rfl ?_
                refine WO.asg rfl (WO.nil (thenL_n ?_))
                refine WC.cond rfl (fun q1571 => ?_) (fun q1571 => ?_)
                · have h := iteT q1571 h
                  refine WC.seq (WC.region (WO.asg rfl (WO.nil (thenL_n (WC.seq (WC.seq (WC.region ?_)))))))
                  refine WO.fldS (j := 0) (q := 0) rfl ho4.at0 ho4.ptr rfl rfl rfl (by decide) ?_
                  refine WO.ldW rfl rfl ho4 rfl rfl ho4.lt rfl ?_
                  refine WO.lenS rfl ho26.slv rfl ?_
                  refine WO.bin rfl rfl (by decide) (by decide) rfl ?_
                  refine WO.asg rfl (WO.nil (thenL_n (WC.block ?_)))
                  obtain ⟨b1645, e1646, h⟩ := bindS h
                  refine WC.loopD e1646 (fun s1572 l' m' n' => ∃ S1575 : Cx fl, ∃ v1576 v1577 : SV, S1575.m = m' ∧ S1575.n = n' ∧ Cov l' [(2, .sc ((.ptr b1 0))), (3, .sc v5), (4, .sc ((.ptr b9 0))), (5, .sc v13), (12, .sc (.int .i64 r335)), (16, .sc (.int .i64 s1572.1)), (17, .sc (.int .i64 s1572.2.1))] ∧ ChM S0 S1575 ∧ Bw S1575 2 (.ptr b1 0) [v1576, v1577] ∧ Bk Y32 S1575 3 v5 ((t1.1, t1.2.1, t1.2.2.1, t1.2.2.2)) ∧ Bw S1575 4 (.ptr b9 0) [.nils, .nils] ∧ Bk Y34 S1575 5 v13 ((([], 0) : (List UInt8) × Int)) ∧ Ow Y41 S1575 6 v1576 s1572.2.2.1 ∧ Ow Y65 S1575 7 v1577 s1572.2.2.2) (fun b e l' m' n' => e = .exit 5 ∧ ∃ S1578 : Cx fl, ∃ v1579 v1580 : SV, S1578.m = m' ∧ S1578.n = n' ∧ Cov l' [(2, .sc ((.ptr b1 0))), (3, .sc v5), (4, .sc ((.ptr b9 0))), (5, .sc v13), (16, .sc (.int .i64 b.1))] ∧ ChM S0 S1578 ∧ Bw S1578 2 (.ptr b1 0) [v1579, v1580] ∧ Bk Y32 S1578 3 v5 ((t1.1, t1.2.1, t1.2.2.1, t1.2.2.2)) ∧ Bw S1578 4 (.ptr b9 0) [.nils, .nils] ∧ Bk Y34 S1578 5 v13 ((([], 0) : (List UInt8) × Int)) ∧ Ow Y41 S1578 6 v1579 b.2.1 ∧ Ow Y65 S1578 7 v1580 b.2.2) (by exact ⟨S337, v19, v25, rfl, rfl, (Cov.cons rfl (Cov.cons rfl (Cov.cons rfl (Cov.cons rfl (Cov.cons rfl (Cov.cons rfl (Cov.cons rfl (Cov.nil _)))))))), hM, ho4, ho8, ho12, ho16, ho20, ho26⟩) ?_ ?_
                  · clear h
                    rintro s1572 q _ _ _ ⟨S1581, v1582, v1583, rfl, rfl, hc1584, hM, ho4, ho8, ho12, ho16, ho4c0, ho4c1⟩ h
                    unfold F7_l2 at h
                    refine WC.cov hc1584 (WC.seq (WC.seq (WC.region (WO.mv rfl ?_))))
                    refine WO.bin rfl rfl (by decide) (by decide) rfl ?_
                    refine WO.nil (thenL_n ?_)
                    refine WC.cond rfl (fun q1585 => ?_) (fun q1585 => ?_)
                    · have h := iteT q1585 h
                      refine WC.skip (thenL_n (WC.seq (WC.block (WC.seq (WC.seq ?_)))))
                      refine WC.drawP rfl rfl ?_
                      refine WO.fldS (j := 0) (q := 0) rfl ho4.at0 ho4.ptr rfl rfl rfl (by decide) ?_
                      refine WO.ldW rfl rfl ho4 rfl rfl ho4.lt (limLe_self _) ?_
                      refine WO.mv rfl ?_
                      obtain ⟨x1586, e1587, h⟩ := bindS h
                      refine WO.ixS rfl rfl ho4c1.slv (at?_lt e1587) rfl ?_
                      refine WO.fldS rfl rfl (SlV.ptr ho4c1.slv (at?_nat e1587)) rfl rfl rfl (by decide) ?_
                      refine WO.ldF rfl ho4c1.ro (fun _ hi => hi) (at?_get e1587) rfl rfl (limLe_self _) ?_
                      refine WO.fldS (j := 0) (q := 0) rfl ho8.at0 ho8.ptr rfl rfl rfl (by decide) ?_
                      refine WO.ldB (j := 0) (q := 2) rfl rfl ho8 rfl rfl (limLe_self _) ?_
                      refine WO.do rfl rfl ?_
                      refine WO.nil (thenL_n ?_)
                      refine WC.cond rfl (fun q1588 => ?_) (fun q1588 => ?_)
                      · have h := iteT q1588 h
                        refine WC.exit (thenL_e (blockL_s (thenL_n (WC.region (WO.mv rfl ?_)))))
                        refine WO.bin rfl rfl (by decide) (by decide) rfl ?_
                        refine WO.asg rfl (WO.nil (thenL_n ?_))
                        obtain rfl := someI h
                        exact ⟨_, rfl, ⟨S1581, v1582, v1583, rfl, rfl, (Cov.cons rfl (Cov.cons rfl (Cov.cons rfl (Cov.cons rfl (Cov.cons rfl (Cov.cons rfl (Cov.cons rfl (Cov.nil _)))))))), hM, ho4, ho8, ho12, ho16, ho4c0, ho4c1⟩⟩
                      · have h := iteF q1588 h
                        refine WC.skip (thenL_n (WC.seq ?_))
                        refine WC.drawN rfl rfl ?_
                        have ho4z := ho4.lt
                        have ho8z := ho8.lt
                        have ho12z := ho12.lt
                        have ho16z := ho16.lt
                        have ho4c0z := ho4c0.oz
                        have ho4c1z := ho4c1.oz
                        refine WO.ldWA (sz := 2) (r := [v1582, v1583]) rfl ho4.at0 ho4 rfl rfl rfl ho4z (limLe_self _) ?_
                        refine WO.fldS (j := 0) (q := 0) rfl ho4.at0 ho4.ptr rfl rfl rfl (by decide) ?_
                        refine WO.ldW rfl rfl ho4 rfl rfl ho4z (limLe_self _) ?_
                        refine WO.mv rfl ?_
                        obtain ⟨x1589, e1590, h⟩ := bindS h
                        refine WO.ixS rfl rfl ho4c1.slv (at?_lt e1590) rfl ?_
                        refine WO.fldS rfl rfl (SlV.ptr ho4c1.slv (at?_nat e1590)) rfl rfl rfl (by decide) ?_
                        refine WO.ldF rfl ho4c1z (fun _ hi => hi.1) (at?_get e1590) rfl rfl (limLe_self _) ?_
                        obtain ⟨r1591, e1592, h⟩ := bindS h
                        refine WO.callE (S := S1581) rfl rfl (F10_ok e1592 ho4c0.vw ho4c1.vw) (fun S1593 c1594 => ?_)
                        have ho4c0z := ho4c0z.tow c1594
                        have ho4c1z := ho4c1z.tow c1594
                        have hM := hM.to c1594
                        have ho4 := ho4.to c1594
                        have ho8 := ho8.to c1594
                        have ho12 := ho12.to c1594
                        have ho16 := ho16.to c1594
                        have ho4c0 := ho4c0.to c1594
                        have ho4c1 := ho4c1.to c1594
                        refine WO.asg rfl (WO.nil (thenL_n (WC.block ?_)))
                        obtain ⟨b1639, e1640, h⟩ := bindS h
                        refine WC.loopD e1640 (fun s1595 l' m' n' => ∃ S1598 : Cx fl, ∃ v1599 v1600 : SV, S1598.m = m' ∧ S1598.n = n' ∧ Cov l' [(2, .sc ((.ptr b1 0))), (3, .sc v5), (4, .sc ((.ptr b9 0))), (5, .sc v13), (12, .sc (.int .i64 r335)), (16, .sc (.int .i64 s1595.1)), (17, .sc (.int .i64 s1572.2.1)), (18, .sc (.int .i64 r1591))] ∧ ChM S0 S1598 ∧ Bw S1598 2 (.ptr b1 0) [v1599, v1600] ∧ Bk Y32 S1598 3 v5 ((t1.1, t1.2.1, t1.2.2.1, t1.2.2.2)) ∧ Bw S1598 4 (.ptr b9 0) [.nils, .nils] ∧ Bk Y34 S1598 5 v13 ((([], 0) : (List UInt8) × Int)) ∧ Ow Y41 S1598 6 v1599 s1595.2.1 ∧ Ow Y65 S1598 7 v1600 s1595.2.2) (fun b e l' m' n' => e = .exit 7 ∧ ∃ S1601 : Cx fl, ∃ v1602 v1603 : SV, S1601.m = m' ∧ S1601.n = n' ∧ Cov l' [(2, .sc ((.ptr b1 0))), (3, .sc v5), (4, .sc ((.ptr b9 0))), (5, .sc v13), (12, .sc (.int .i64 r335)), (16, .sc (.int .i64 b.1)), (17, .sc (.int .i64 s1572.2.1))] ∧ ChM S0 S1601 ∧ Bw S1601 2 (.ptr b1 0) [v1602, v1603] ∧ Bk Y32 S1601 3 v5 ((t1.1, t1.2.1, t1.2.2.1, t1.2.2.2)) ∧ Bw S1601 4 (.ptr b9 0) [.nils, .nils] ∧ Bk Y34 S1601 5 v13 ((([], 0) : (List UInt8) × Int)) ∧ Ow Y41 S1601 6 v1602 b.2.1 ∧ Ow Y65 S1601 7 v1603 b.2.2) (by exact ⟨S1593, v1582, v1583, rfl, rfl, (Cov.cons rfl (Cov.cons rfl (Cov.cons rfl (Cov.cons rfl (Cov.cons rfl (Cov.cons rfl (Cov.cons rfl (Cov.cons rfl (Cov.nil _))))))))), hM, ho4, ho8, ho12, ho16, ho4c0, ho4c1⟩) ?_ ?_
                        · clear h
                          rintro s1595 q _ _ _ ⟨S1604, v1605, v1606, rfl, rfl, hc1607, hM, ho4, ho8, ho12, ho16, ho4c0, ho4c1⟩ h
                          unfold F7_l1 at h
                          refine WC.cov hc1607 (WC.seq (WC.seq (WC.region ?_)))
                          refine WO.fldS (j := 0) (q := 0) rfl ho4.at0 ho4.ptr rfl rfl rfl (by decide) ?_
                          refine WO.ldW rfl rfl ho4 rfl rfl ho4.lt rfl ?_
                          refine WO.mv rfl ?_
                          obtain ⟨x1608, e1609, h⟩ := bindS h
                          refine WO.ixS rfl rfl ho4c1.slv (at?_lt e1609) rfl ?_
                          refine WO.fldS rfl rfl (SlV.ptr ho4c1.slv (at?_nat e1609)) rfl rfl rfl (by decide) ?_
                          refine WO.ldF rfl ho4c1.ro (fun _ hi => hi) (at?_get e1609) rfl rfl rfl ?_
                          refine WO.bin rfl rfl (by decide) (by decide) rfl ?_
                          refine WO.mv rfl ?_
                          obtain ⟨y1613, e1614, h⟩ := bindS h
                          refine WO.cutB (d := 304) 8 y1613 (fun q1612 => ?_) (fun q1612 => ?_) ?_
                          · have h := e1614
                            have h := iteT q1612 h
                            refine WO.gyes rfl rfl ?_
                            refine WO.fldS (j := 0) (q := 0) rfl ho4.at0 ho4.ptr rfl rfl rfl (by decide) ?_
                            refine WO.gyes rfl rfl ?_
                            refine WO.ldW rfl rfl ho4 rfl rfl ho4.lt rfl ?_
                            refine WO.gyes rfl rfl (WO.mv rfl (WO.gyes rfl rfl ?_))
                            obtain ⟨x1610, e1611, h⟩ := bindS h
                            refine WO.ixS rfl rfl ho4c0.slv (at?_lt e1611) rfl ?_
                            refine WO.gyes rfl rfl ?_
                            refine WO.fldS rfl rfl (SlV.ptr ho4c0.slv (at?_nat e1611)) rfl rfl rfl (by decide) ?_
                            refine WO.gyes rfl rfl ?_
                            refine WO.ldF rfl ho4c0.ro (fun _ hi => hi) (at?_get e1611) rfl rfl rfl ?_
                            refine WO.gyes rfl rfl ?_
                            refine WO.bin rfl rfl (by decide) (by decide) rfl ?_
                            obtain rfl := someI h
                            refine WO.pickT rfl rfl ?_
                            refine WO.nil ?_
                            exact ⟨rfl, rfl, (Cov.cons rfl (Cov.skip rfl (Cov.skip rfl (Cov.skip rfl (Cov.skip rfl (Cov.skip rfl (Cov.skip rfl (Cov.skip rfl (Cov.skip rfl (Cov.skip rfl (Cov.refl _)))))))))))⟩
                          · have h := e1614
                            have h := iteF q1612 h
                            obtain rfl := someI h
                            refine WO.gno rfl rfl (WO.gno rfl rfl (WO.gno rfl rfl (WO.gno rfl rfl (WO.gno rfl rfl (WO.gno rfl rfl (WO.gno rfl rfl ?_))))))
                            refine WO.pickF rfl rfl ?_
                            refine WO.nil ?_
                            exact ⟨rfl, rfl, (Cov.cons rfl (Cov.skip rfl (Cov.skip rfl (Cov.skip rfl (Cov.skip rfl (Cov.skip rfl (Cov.skip rfl (Cov.skip rfl (Cov.skip rfl (Cov.skip rfl (Cov.refl _)))))))))))⟩
                          refine WO.mv rfl ?_
                          obtain ⟨y1618, e1619, h⟩ := bindS h
                          refine WO.cutB (d := 313) 8 y1618 (fun q1617 => ?_) (fun q1617 => ?_) ?_
                          · have h := e1619
                            have h := iteT q1617 h
                            refine WO.gyes rfl rfl ?_
                            refine WO.fldS (j := 0) (q := 0) rfl ho4.at0 ho4.ptr rfl rfl rfl (by decide) ?_
                            refine WO.gyes rfl rfl ?_
                            refine WO.ldW rfl rfl ho4 rfl rfl ho4.lt rfl ?_
                            refine WO.gyes rfl rfl (WO.mv rfl (WO.gyes rfl rfl ?_))
                            obtain ⟨x1615, e1616, h⟩ := bindS h
                            refine WO.ixS rfl rfl ho4c0.slv (at?_lt e1616) rfl ?_
                            refine WO.gyes rfl rfl ?_
                            refine WO.fldS rfl rfl (SlV.ptr ho4c0.slv (at?_nat e1616)) rfl rfl rfl (by decide) ?_
                            refine WO.gyes rfl rfl ?_
                            refine WO.ldF rfl ho4c0.ro (fun _ hi => hi) (at?_get e1616) rfl rfl rfl ?_
                            refine WO.gyes rfl rfl ?_
                            refine WO.bin rfl rfl (by decide) (by decide) rfl ?_
                            obtain rfl := someI h
                            refine WO.pickT rfl rfl ?_
                            refine WO.nil ?_
                            exact ⟨rfl, rfl, (Cov.cons rfl (Cov.skip rfl (Cov.skip rfl (Cov.skip rfl (Cov.skip rfl (Cov.skip rfl (Cov.skip rfl (Cov.skip rfl (Cov.skip rfl (Cov.skip rfl (Cov.refl _)))))))))))⟩
                          · have h := e1619
                            have h := iteF q1617 h
                            obtain rfl := someI h
                            refine WO.gno rfl rfl (WO.gno rfl rfl (WO.gno rfl rfl (WO.gno rfl rfl (WO.gno rfl rfl (WO.gno rfl rfl (WO.gno rfl rfl ?_))))))
                            refine WO.pickF rfl rfl ?_
                            refine WO.nil ?_
                            exact ⟨rfl, rfl, (Cov.cons rfl (Cov.skip rfl (Cov.skip rfl (Cov.skip rfl (Cov.skip rfl (Cov.skip rfl (Cov.skip rfl (Cov.skip rfl (Cov.skip rfl (Cov.skip rfl (Cov.refl _)))))))))))⟩
                          refine WO.nil (thenL_n ?_)
                          refine WC.cond rfl (fun q1620 => ?_) (fun q1620 => ?_)
                          · have h := iteT q1620 h
                            refine WC.skip (thenL_n (WC.block (WC.seq (WC.region ?_))))
                            refine WO.fldS (j := 0) (q := 0) rfl ho4.at0 ho4.ptr rfl rfl rfl (by decide) ?_
                            refine WO.ldW rfl rfl ho4 rfl rfl ho4.lt rfl ?_
                            refine WO.mv rfl ?_
                            obtain ⟨x1621, e1622, h⟩ := bindS h
                            refine WO.ixS rfl rfl ho4c1.slv (at?_lt e1622) rfl ?_
                            refine WO.fldS rfl rfl (SlV.ptr ho4c1.slv (at?_nat e1622)) rfl rfl rfl (by decide) ?_
                            refine WO.ldF rfl ho4c1.ro (fun _ hi => hi) (at?_get e1622) rfl rfl rfl ?_
                            refine WO.bin rfl rfl (by decide) (by decide) rfl ?_
                            obtain ⟨x1623, e1624, h⟩ := bindS h
                            refine WO.ixS rfl rfl ho4c1.slv (at?_lt e1624) rfl ?_
                            refine WO.fldS rfl rfl (SlV.ptr ho4c1.slv (at?_nat e1624)) rfl rfl rfl (by decide) ?_
                            refine WO.stF (q := 2) (u' := (x1623.1, x1623.2.1, (wrapA .i64 (x1621.2.2 - 1)))) rfl rfl ho4c1 (at?_get e1624) rfl (by decide) rfl rfl (fun S1625 c1626 ho4c1 => ?_)
                            have hM := hM.to c1626
                            have ho4 := ho4.to c1626
                            have ho8 := ho8.to c1626
                            have ho12 := ho12.to c1626
                            have ho16 := ho16.to c1626
                            have ho4c0 := ho4c0.to c1626
                            refine WO.nil (thenL_n (WC.seq (WC.region ?_)))
                            refine WO.fldS (j := 0) (q := 0) rfl ho4.at0 ho4.ptr rfl rfl rfl (by decide) ?_
                            refine WO.ldW rfl rfl ho4 rfl rfl ho4.lt rfl ?_
                            refine WO.mv rfl ?_
                            obtain ⟨x1627, e1628, h⟩ := bindS h
                            refine WO.ixS rfl rfl ho4c0.slv (at?_lt e1628) rfl ?_
                            refine WO.fldS rfl rfl (SlV.ptr ho4c0.slv (at?_nat e1628)) rfl rfl rfl (by decide) ?_
                            refine WO.ldF rfl ho4c0.ro (fun _ hi => hi) (at?_get e1628) rfl rfl rfl ?_
                            refine WO.bin rfl rfl (by decide) (by decide) rfl ?_
                            obtain ⟨x1629, e1630, h⟩ := bindS h
                            refine WO.ixS rfl rfl ho4c0.slv (at?_lt e1630) rfl ?_
                            refine WO.fldS rfl rfl (SlV.ptr ho4c0.slv (at?_nat e1630)) rfl rfl rfl (by decide) ?_
                            refine WO.stF (q := 1) (u' := (x1629.1, (wrapA .i64 (x1627.2.1 - 1)), x1629.2.2)) rfl rfl ho4c0 (at?_get e1630) rfl (by decide) rfl rfl (fun S1631 c1632 ho4c0 => ?_)
                            have hM := hM.to c1632
                            have ho4 := ho4.to c1632
                            have ho8 := ho8.to c1632
                            have ho12 := ho12.to c1632
                            have ho16 := ho16.to c1632
                            have ho4c1 := ho4c1.to c1632
                            refine WO.nil (thenL_n (WC.seq (WC.region ?_)))
                            refine WO.fldS (j := 0) (q := 0) rfl ho4.at0 ho4.ptr rfl rfl rfl (by decide) ?_
                            refine WO.ldW rfl rfl ho4 rfl rfl ho4.lt rfl ?_
                            refine WO.mv rfl ?_
                            obtain ⟨x1633, e1634, h⟩ := bindS h
                            refine WO.ixS rfl rfl ho4c0.slv (at?_lt e1634) rfl ?_
                            refine WO.fldS rfl rfl (SlV.ptr ho4c0.slv (at?_nat e1634)) rfl rfl rfl (by decide) ?_
                            refine WO.ldF rfl ho4c0.ro (fun _ hi => hi) (at?_get e1634) rfl rfl rfl ?_
                            refine WO.bin rfl rfl (by decide) (by decide) rfl ?_
                            obtain ⟨x1635, e1636, h⟩ := bindS h
                            refine WO.ixS rfl rfl ho4c0.slv (at?_lt e1636) rfl ?_
                            refine WO.fldS rfl rfl (SlV.ptr ho4c0.slv (at?_nat e1636)) rfl rfl rfl (by decide) ?_
                            refine WO.stF (q := 1) (u' := (x1635.1, (wrapA .i64 (x1633.2.1 + 1)), x1635.2.2)) rfl rfl ho4c0 (at?_get e1636) rfl (by decide) rfl rfl (fun S1637 c1638 ho4c0 => ?_)
                            have hM := hM.to c1638
                            have ho4 := ho4.to c1638
                            have ho8 := ho8.to c1638
                            have ho12 := ho12.to c1638
                            have ho16 := ho16.to c1638
                            have ho4c1 := ho4c1.to c1638
                            refine WO.nil (thenL_n (WC.region (WO.mv rfl ?_)))
                            refine WO.bin rfl rfl (by decide) (by decide) rfl ?_
                            refine WO.asg rfl (WO.nil (blockL_n (thenL_n ?_)))
                            obtain rfl := someI h
                            exact ⟨_, rfl, ⟨S1637, v1605, v1606, rfl, rfl, (Cov.cons rfl (Cov.cons rfl (Cov.cons rfl (Cov.cons rfl (Cov.cons rfl (Cov.cons rfl (Cov.cons rfl (Cov.cons rfl (Cov.nil _))))))))), hM, ho4, ho8, ho12, ho16, ho4c0, ho4c1⟩⟩
                          · have h := iteF q1620 h
                            refine WC.exit (thenL_e (thenL_e ?_))
                            obtain rfl := someI h
                            exact ⟨_, rfl, rfl, ⟨S1604, v1605, v1606, rfl, rfl, (Cov.cons rfl (Cov.cons rfl (Cov.cons rfl (Cov.cons rfl (Cov.cons rfl (Cov.cons rfl (Cov.cons rfl (Cov.nil _)))))))), hM, ho4, ho8, ho12, ho16, ho4c0, ho4c1⟩⟩
                        rintro _ _ _ _ ⟨rfl, ⟨S1641, v1642, v1643, rfl, rfl, hc1644, hM, ho4, ho8, ho12, ho16, ho4c0, ho4c1⟩⟩
                        refine blockL_s (blockL_n (thenL_n (WC.cov hc1644 (WC.region (WO.mv rfl ?_)))))
                        refine WO.bin rfl rfl (by decide) (by decide) rfl ?_
                        refine WO.asg rfl (WO.nil (thenL_n ?_))
                        obtain rfl := someI h
                        exact ⟨_, rfl, ⟨S1641, v1642, v1643, rfl, rfl, (Cov.cons rfl (Cov.cons rfl (Cov.cons rfl (Cov.cons rfl (Cov.cons rfl (Cov.cons rfl (Cov.cons rfl (Cov.nil _)))))))), hM, ho4, ho8, ho12, ho16, ho4c0, ho4c1⟩⟩
                    · have h := iteF q1585 h
                      refine WC.exit (thenL_e (thenL_e ?_))
                      obtain rfl := someI h
                      exact ⟨_, rfl, rfl, ⟨S1581, v1582, v1583, rfl, rfl, (Cov.cons rfl (Cov.cons rfl (Cov.cons rfl (Cov.cons rfl (Cov.cons rfl (Cov.nil _)))))), hM, ho4, ho8, ho12, ho16, ho4c0, ho4c1⟩⟩
                  rintro _ _ _ _ ⟨rfl, ⟨S1647, v1648, v1649, rfl, rfl, hc1650, hM, ho4, ho8, ho12, ho16, ho4c0, ho4c1⟩⟩
                  refine blockL_s (thenL_n (WC.cov hc1650 (WC.seq (WC.region ?_))))
                  refine WO.fldS (j := 0) (q := 0) rfl ho4.at0 ho4.ptr rfl rfl rfl (by decide) ?_
                  refine WO.ldW rfl rfl ho4 rfl rfl ho4.lt rfl ?_
                  obtain ⟨r1651, e1652, h⟩ := bindS h
                  refine WO.callG (S := S1647) [(7, 2)] [(902, 14)] rfl rfl (F29_30_ok (S0 := S1647.mp [(7, 2)]) e1652 (ho4c1.mp rfl)) (fun _ S1655 S1656 hb hR => ?_)
                  obtain ⟨v1653, rfl, hR0⟩ := hR
                  have c1657 : Ch 7 S1647 S1656 := hb.ch [] 7
                  have hM := hM.to c1657
                  have ho4 := ho4.to c1657
                  have ho8 := ho8.to c1657
                  have ho12 := ho12.to c1657
                  have ho16 := ho16.to c1657
                  have ho4c0 := ho4c0.to c1657
                  have ho1654 := hR0.bkF hb rfl Lay.flat_fl
                  refine WO.fldS (j := 0) (q := 0) rfl ho4.at0 ho4.ptr rfl rfl rfl (by decide) ?_
                  refine WO.stW (S := S1656) (r := [v1648, v1653]) rfl rfl rfl rfl ho4 rfl rfl rfl rfl rfl (fun S1658 c1659 ho4 => ?_)
                  have hM := hM.to c1659
                  have ho8 := ho8.to c1659
                  have ho12 := ho12.to c1659
                  have ho16 := ho16.to c1659
                  have ho4c0 := ho4c0.to c1659
                  have ho1654 := ho1654.to c1659
                  refine WO.nil (thenL_n (WC.seq ?_))
                  refine WC.drawDN rfl ?_
                  have ho4z := ho4.lt
                  have ho8z := ho8.lt
                  have ho12z := ho12.lt
                  have ho16z := ho16.lt
                  have ho4c0z := ho4c0.oz
                  have ho1654z := ho1654.oz
                  have k1660 := ho4.bko
                  have k1661 := ho8.bko
                  have k1662 := ho12.bko
                  have k1663 := ho16.bko
                  have k1664 := ho4c0.bko
                  have k1665 := ho1654.bko
                  refine WO.ldWA (sz := 2) (r := [v1648, v1653]) rfl ho4.at0 ho4 rfl rfl rfl ho4z (limLe_self _) ?_
                  refine WO.fldS (j := 0) (q := 0) rfl ho8.at0 ho8.ptr rfl rfl rfl (by decide) ?_
                  refine WO.ldBz (j := 0) (q := 2) rfl rfl ho8 rfl rfl ho8z (limLe_self _) ?_
                  refine WO.mv rfl ?_
                  refine WO.do rfl rfl ?_
                  refine WO.stW (S := S1658) (r := [v1648, v1653]) rfl ho12.at0 rfl rfl ho12 rfl rfl rfl rfl rfl (fun S1666 c1667 ho12 => ?_)
                  have ho4c0z := ho4c0z.tow c1667
                  have ho1654z := ho1654z.tow c1667
                  have hM := hM.to c1667
                  have ho4 := ho4.to c1667
                  have ho8 := ho8.to c1667
                  have ho16 := ho16.to c1667
                  have ho4c0 := ho4c0.to c1667
                  have ho1654 := ho1654.to c1667
                  have n1668 := c1667.n
                  have k1669 := ho4.bko
                  have k1670 := ho8.bko
                  have k1671 := ho12.bko
                  have k1672 := ho16.bko
                  have k1673 := ho4c0.bko
                  have k1674 := ho1654.bko
                  refine WO.stBA (u' := (((t1.1, t1.2.1, t1.2.2.1, t1.2.2.2)).2.2.1, b1645.1)) rfl ho16.at0 rfl ho16 rfl rfl (fun S1675 c1676 ho16 => ?_)
                  have ho4c0z := ho4c0z.tow c1676
                  have ho1654z := ho1654z.tow c1676
                  have hM := hM.to c1676
                  have ho4 := ho4.to c1676
                  have ho8 := ho8.to c1676
                  have ho12 := ho12.to c1676
                  have ho4c0 := ho4c0.to c1676
                  have ho1654 := ho1654.to c1676
                  have n1677 := c1676.n
                  have k1678 := ho4.bko
                  have k1679 := ho8.bko
                  have k1680 := ho12.bko
                  have k1681 := ho16.bko
                  have k1682 := ho4c0.bko
                  have k1683 := ho1654.bko
                  refine WO.asg rfl (WO.nil ?_)
                  refine ⟨fun tt hs => dynOk_of [(2, 5)] (by kernel_rfl) ⟨?_, trivial⟩, ?_⟩
                  · show djT tt _ _ = true
                    have nb1684 := k1660.nb k1661
                    have nb1685 := k1660.nb k1662
                    have nb1686 := k1660.nb k1663
                    have nb1687 := k1660.nb k1664
                    have nb1688 := k1660.nb k1665
                    have nb1689 := k1661.nb k1662
                    have nb1690 := k1661.nb k1663
                    have nb1691 := k1661.nb k1664
                    have nb1692 := k1661.nb k1665
                    have nb1693 := k1662.nb k1663
                    have nb1694 := k1662.nb k1664
                    have nb1695 := k1662.nb k1665
                    have nb1696 := k1663.nb k1664
                    have nb1697 := k1663.nb k1665
                    have nb1698 := k1664.nb k1665
                    refine djT_of hs rfl rfl rfl rfl rfl ?_ ?_ ?_ <;> simp only [NBs, NB1, and_true, true_and] <;> (repeat' apply And.intro) <;> (first | assumption | (apply NB.symm; assumption) | exact NB.none rfl | exact NB.noneR rfl | (apply NB.pt; first | assumption | (apply NB.symm; assumption)) | (apply NB.symm; apply NB.pt; first | assumption | (apply NB.symm; assumption) | (apply NB.symm; apply NB.pt; first | assumption | (apply NB.symm; assumption))))
                  clear k1660 k1661 k1662 k1663 k1664 k1665 k1669 k1670 k1671 k1672 k1673 k1674 k1678 k1679 k1680 k1681 k1682 k1683 n1668 n1677
                  refine thenL_n (WC.ret (blockL_r (thenL_r ?_)))
                  have hcell1699 := ho12
                  have hcell1700 := ho16
                  have hM := hM.drop 6
                  have ho4 := ho4.drop 6
                  have ho8 := ho8.drop 6
                  have ho12 := ho12.drop 6
                  have ho16 := ho16.drop 6
                  have ho4c0 := ho4c0.freeze
                  have ho1654 := ho1654.drop 6
                  have hM := hM.drop 14
                  have ho4 := ho4.drop 14
                  have ho8 := ho8.drop 14
                  have ho12 := ho12.drop 14
                  have ho16 := ho16.drop 14
                  have ho4c0 := ho4c0.drop 14
                  have ho1654 := ho1654.freeze
                  obtain rfl := someI h
                  exact ⟨.inr rfl, _, _, (resK_w (sz := 2) hcell1699 (Cov.refl _) rfl rfl rfl (resK_b hcell1700 (Cov.refl _) rfl rfl (resK_t (Cov.refl _) rfl rfl))), rfl, ⟨((S1675.drop 6).drop 14), rfl, rfl, hM, v1648, v1653, rfl, ho4c0, ho1654⟩⟩
                · have h := iteF q1571 h
                  refine WC.seq (WC.region ?_)
                  refine WO.bin rfl rfl (by decide) (by decide) rfl ?_
                  refine WO.asg rfl (WO.nil (thenL_n ?_))
                  refine WC.cond rfl (fun q1701 => ?_) (fun q1701 => ?_)
                  · have h := iteT q1701 h
                    refine WC.seq ?_
                    refine WC.drawDN rfl ?_
                    have hot0_0z := hot0_0.oz
                    have hot0_1z := hot0_1.oz
                    have ho4z := ho4.lt
                    have ho8z := ho8.lt
                    have ho12z := ho12.lt
                    have ho16z := ho16.lt
                    have ho20z := ho20.oz
                    have ho26z := ho26.oz
                    have ho36z := ho36.lt
                    have ho114z := ho114.oz
                    have ho116z := ho116.oz
                    have k1702 := hot0_0.bko
                    have k1703 := hot0_1.bko
                    have k1704 := ho4.bko
                    have k1705 := ho8.bko
                    have k1706 := ho12.bko
                    have k1707 := ho16.bko
                    have k1708 := ho20.bko
                    have k1709 := ho26.bko
                    have k1710 := ho36.bko
                    have k1711 := ho114.bko
                    have k1712 := ho116.bko
                    refine WO.ldWA (sz := 2) (r := [v19, v25]) rfl ho4.at0 ho4 rfl rfl rfl ho4z (limLe_self _) ?_
                    refine WO.fldS (j := 0) (q := 0) rfl ho8.at0 ho8.ptr rfl rfl rfl (by decide) ?_
                    refine WO.ldBz (j := 0) (q := 2) rfl rfl ho8 rfl rfl ho8z (limLe_self _) ?_
                    refine WO.mv rfl (WO.mv rfl ?_)
                    obtain ⟨x1713, e1714, h⟩ := bindS h
                    refine WO.ixS rfl rfl ho116.slv (at?_lt e1714) rfl ?_
                    refine WO.ldF rfl ho116z (fun _ hi => hi.1) (at?_get e1714) rfl rfl (limLe_self _) ?_
                    refine WO.do rfl rfl ?_
                    refine WO.stW (S := S337) (r := [v19, v25]) rfl ho12.at0 rfl rfl ho12 rfl rfl rfl rfl rfl (fun S1715 c1716 ho12 => ?_)
                    have hot0_0z := hot0_0z.toz c1716
                    have hot0_1z := hot0_1z.toz c1716
                    have ho20z := ho20z.tow c1716
                    have ho26z := ho26z.tow c1716
                    have ho114z := ho114z.tow c1716
                    have ho116z := ho116z.tow c1716
                    have hot0_0 := hot0_0.to c1716
                    have hot0_1 := hot0_1.to c1716
                    have hM := hM.to c1716
                    have ho4 := ho4.to c1716
                    have ho8 := ho8.to c1716
                    have ho16 := ho16.to c1716
                    have ho20 := ho20.to c1716
                    have ho26 := ho26.to c1716
                    have ho36 := ho36.to c1716
                    have ho114 := ho114.to c1716
                    have ho116 := ho116.to c1716
                    have n1717 := c1716.n
                    have k1718 := hot0_0.bko
                    have k1719 := hot0_1.bko
                    have k1720 := ho4.bko
                    have k1721 := ho8.bko
                    have k1722 := ho12.bko
                    have k1723 := ho16.bko
                    have k1724 := ho20.bko
                    have k1725 := ho26.bko
                    have k1726 := ho36.bko
                    have k1727 := ho114.bko
                    have k1728 := ho116.bko
                    refine WO.stBA (u' := (((t1.1, t1.2.1, t1.2.2.1, t1.2.2.2)).2.2.1, x1713)) rfl ho16.at0 rfl ho16 rfl rfl (fun S1729 c1730 ho16 => ?_)
                    have hot0_0z := hot0_0z.toz c1730
                    have hot0_1z := hot0_1z.toz c1730
                    have ho20z := ho20z.tow c1730
                    have ho26z := ho26z.tow c1730
                    have ho114z := ho114z.tow c1730
                    have ho116z := ho116z.tow c1730
                    have hot0_0 := hot0_0.to c1730
                    have hot0_1 := hot0_1.to c1730
                    have hM := hM.to c1730
                    have ho4 := ho4.to c1730
                    have ho8 := ho8.to c1730
                    have ho12 := ho12.to c1730
                    have ho20 := ho20.to c1730
                    have ho26 := ho26.to c1730
                    have ho36 := ho36.to c1730
                    have ho114 := ho114.to c1730
                    have ho116 := ho116.to c1730
                    have n1731 := c1730.n
                    have k1732 := hot0_0.bko
                    have k1733 := hot0_1.bko
                    have k1734 := ho4.bko
                    have k1735 := ho8.bko
                    have k1736 := ho12.bko
                    have k1737 := ho16.bko
                    have k1738 := ho20.bko
                    have k1739 := ho26.bko
                    have k1740 := ho36.bko
                    have k1741 := ho114.bko
                    have k1742 := ho116.bko
                    refine WO.asg rfl (WO.nil ?_)
                    refine ⟨fun tt hs => dynOk_of [(2, 8), (6, 8)] (by kernel_rfl) ⟨?_, ?_, trivial⟩, ?_⟩
                    · show djT tt _ _ = true
                      have nb1743 := k1702.nb k1704
                      have nb1744 := k1702.nb k1705
                      have nb1745 := k1702.nb k1706
                      have nb1746 := k1702.nb k1707
                      have nb1747 := k1702.nb k1708
                      have nb1748 := k1702.nb k1709
                      have nb1749 := k1702.nb k1710
                      have nb1750 := k1702.nb k1711
                      have nb1751 := k1702.nb k1712
                      have nb1752 := k1703.nb k1704
                      have nb1753 := k1703.nb k1705
                      have nb1754 := k1703.nb k1706
                      have nb1755 := k1703.nb k1707
                      have nb1756 := k1703.nb k1708
                      have nb1757 := k1703.nb k1709
                      have nb1758 := k1703.nb k1710
                      have nb1759 := k1703.nb k1711
                      have nb1760 := k1703.nb k1712
                      have nb1761 := k1704.nb k1705
                      have nb1762 := k1704.nb k1706
                      have nb1763 := k1704.nb k1707
                      have nb1764 := k1704.nb k1708
                      have nb1765 := k1704.nb k1709
                      have nb1766 := k1704.nb k1710
                      have nb1767 := k1704.nb k1711
                      have nb1768 := k1704.nb k1712
                      have nb1769 := k1705.nb k1706
                      have nb1770 := k1705.nb k1707
                      have nb1771 := k1705.nb k1708
                      have nb1772 := k1705.nb k1709
                      have nb1773 := k1705.nb k1710
                      have nb1774 := k1705.nb k1711
                      have nb1775 := k1705.nb k1712
                      have nb1776 := k1706.nb k1707
                      have nb1777 := k1706.nb k1708
                      have nb1778 := k1706.nb k1709
                      have nb1779 := k1706.nb k1710
                      have nb1780 := k1706.nb k1711
                      have nb1781 := k1706.nb k1712
                      have nb1782 := k1707.nb k1708
                      have nb1783 := k1707.nb k1709
                      have nb1784 := k1707.nb k1710
                      have nb1785 := k1707.nb k1711
                      have nb1786 := k1707.nb k1712
                      have nb1787 := k1708.nb k1709
                      have nb1788 := k1708.nb k1710
                      have nb1789 := k1708.nb k1711
                      have nb1790 := k1708.nb k1712
                      have nb1791 := k1709.nb k1710
                      have nb1792 := k1709.nb k1711
                      have nb1793 := k1709.nb k1712
                      have nb1794 := k1710.nb k1711
                      have nb1795 := k1710.nb k1712
                      have nb1796 := k1711.nb k1712
                      refine djT_of hs rfl rfl rfl rfl rfl ?_ ?_ ?_ <;> simp only [NBs, NB1, and_true, true_and] <;> (repeat' apply And.intro) <;> (first | assumption | (apply NB.symm; assumption) | exact NB.none rfl | exact NB.noneR rfl | (apply NB.pt; first | assumption | (apply NB.symm; assumption)) | (apply NB.symm; apply NB.pt; first | assumption | (apply NB.symm; assumption) | (apply NB.symm; apply NB.pt; first | assumption | (apply NB.symm; assumption))))
                    · show djT tt _ _ = true
                      have nb1743 := k1702.nb k1704
                      have nb1744 := k1702.nb k1705
                      have nb1745 := k1702.nb k1706
                      have nb1746 := k1702.nb k1707
                      have nb1747 := k1702.nb k1708
                      have nb1748 := k1702.nb k1709
                      have nb1749 := k1702.nb k1710
                      have nb1750 := k1702.nb k1711
                      have nb1751 := k1702.nb k1712
                      have nb1752 := k1703.nb k1704
                      have nb1753 := k1703.nb k1705
                      have nb1754 := k1703.nb k1706
                      have nb1755 := k1703.nb k1707
                      have nb1756 := k1703.nb k1708
                      have nb1757 := k1703.nb k1709
                      have nb1758 := k1703.nb k1710
                      have nb1759 := k1703.nb k1711
                      have nb1760 := k1703.nb k1712
                      have nb1761 := k1704.nb k1705
                      have nb1762 := k1704.nb k1706
                      have nb1763 := k1704.nb k1707
                      have nb1764 := k1704.nb k1708
                      have nb1765 := k1704.nb k1709
                      have nb1766 := k1704.nb k1710
                      have nb1767 := k1704.nb k1711
                      have nb1768 := k1704.nb k1712
                      have nb1769 := k1705.nb k1706
                      have nb1770 := k1705.nb k1707
                      have nb1771 := k1705.nb k1708
                      have nb1772 := k1705.nb k1709
                      have nb1773 := k1705.nb k1710
                      have nb1774 := k1705.nb k1711
                      have nb1775 := k1705.nb k1712
                      have nb1776 := k1706.nb k1707
                      have nb1777 := k1706.nb k1708
                      have nb1778 := k1706.nb k1709
                      have nb1779 := k1706.nb k1710
                      have nb1780 := k1706.nb k1711
                      have nb1781 := k1706.nb k1712
                      have nb1782 := k1707.nb k1708
                      have nb1783 := k1707.nb k1709
                      have nb1784 := k1707.nb k1710
                      have nb1785 := k1707.nb k1711
                      have nb1786 := k1707.nb k1712
                      have nb1787 := k1708.nb k1709
                      have nb1788 := k1708.nb k1710
                      have nb1789 := k1708.nb k1711
                      have nb1790 := k1708.nb k1712
                      have nb1791 := k1709.nb k1710
                      have nb1792 := k1709.nb k1711
                      have nb1793 := k1709.nb k1712
                      have nb1794 := k1710.nb k1711
                      have nb1795 := k1710.nb k1712
                      have nb1796 := k1711.nb k1712
                      refine djT_of hs rfl rfl rfl rfl rfl ?_ ?_ ?_ <;> simp only [NBs, NB1, and_true, true_and] <;> (repeat' apply And.intro) <;> (first | assumption | (apply NB.symm; assumption) | exact NB.none rfl | exact NB.noneR rfl | (apply NB.pt; first | assumption | (apply NB.symm; assumption)) | (apply NB.symm; apply NB.pt; first | assumption | (apply NB.symm; assumption) | (apply NB.symm; apply NB.pt; first | assumption | (apply NB.symm; assumption))))
                    clear k1702 k1703 k1704 k1705 k1706 k1707 k1708 k1709 k1710 k1711 k1712 k1718 k1719 k1720 k1721 k1722 k1723 k1724 k1725 k1726 k1727 k1728 k1732 k1733 k1734 k1735 k1736 k1737 k1738 k1739 k1740 k1741 k1742 n1717 n1731
                    refine thenL_n (WC.ret (blockL_r (thenL_r ?_)))
                    have hcell1797 := ho12
                    have hcell1798 := ho16
                    have hot0_0 := hot0_0.drop 6
                    have hot0_1 := hot0_1.drop 6
                    have hM := hM.drop 6
                    have ho4 := ho4.drop 6
                    have ho8 := ho8.drop 6
                    have ho12 := ho12.drop 6
                    have ho16 := ho16.drop 6
                    have ho20 := ho20.freeze
                    have ho26 := ho26.drop 6
                    have ho36 := ho36.drop 6
                    have ho114 := ho114.drop 6
                    have ho116 := ho116.drop 6
                    have hot0_0 := hot0_0.drop 7
                    have hot0_1 := hot0_1.drop 7
                    have hM := hM.drop 7
                    have ho4 := ho4.drop 7
                    have ho8 := ho8.drop 7
                    have ho12 := ho12.drop 7
                    have ho16 := ho16.drop 7
                    have ho20 := ho20.drop 7
                    have ho26 := ho26.freeze
                    have ho36 := ho36.drop 7
                    have ho114 := ho114.drop 7
                    have ho116 := ho116.drop 7
                    obtain rfl := someI h
                    exact ⟨.inr rfl, _, _, (resK_w (sz := 2) hcell1797 (Cov.refl _) rfl rfl rfl (resK_b hcell1798 (Cov.refl _) rfl rfl (resK_t (Cov.refl _) rfl rfl))), rfl, ⟨((S1729.drop 6).drop 7), rfl, rfl, hM, v19, v25, rfl, ho20, ho26⟩⟩
                  · have h := iteF q1701 h
                    refine WC.skip (blockL_n (thenL_n (WC.seq ?_)))
                    refine WC.drawDN rfl ?_
                    have hot0_0z := hot0_0.oz
                    have hot0_1z := hot0_1.oz
                    have ho4z := ho4.lt
                    have ho8z := ho8.lt
                    have ho12z := ho12.lt
                    have ho16z := ho16.lt
                    have ho20z := ho20.oz
                    have ho26z := ho26.oz
                    have ho36z := ho36.lt
                    have ho114z := ho114.oz
                    have ho116z := ho116.oz
                    have k1799 := hot0_0.bko
                    have k1800 := hot0_1.bko
                    have k1801 := ho4.bko
                    have k1802 := ho8.bko
                    have k1803 := ho12.bko
                    have k1804 := ho16.bko
                    have k1805 := ho20.bko
                    have k1806 := ho26.bko
                    have k1807 := ho36.bko
                    have k1808 := ho114.bko
                    have k1809 := ho116.bko
                    refine WO.ldWA (sz := 2) (r := [v19, v25]) rfl ho4.at0 ho4 rfl rfl rfl ho4z (limLe_self _) ?_
                    refine WO.ldBAz (j := 0) rfl ho36.at0 ho36 rfl ho36z (limLe_self _) ?_
                    refine WO.stW (S := S337) (r := [v19, v25]) rfl ho12.at0 rfl rfl ho12 rfl rfl rfl rfl rfl (fun S1810 c1811 ho12 => ?_)
                    have hot0_0z := hot0_0z.toz c1811
                    have hot0_1z := hot0_1z.toz c1811
                    have ho20z := ho20z.tow c1811
                    have ho26z := ho26z.tow c1811
                    have ho114z := ho114z.tow c1811
                    have ho116z := ho116z.tow c1811
                    have hot0_0 := hot0_0.to c1811
                    have hot0_1 := hot0_1.to c1811
                    have hM := hM.to c1811
                    have ho4 := ho4.to c1811
                    have ho8 := ho8.to c1811
                    have ho16 := ho16.to c1811
                    have ho20 := ho20.to c1811
                    have ho26 := ho26.to c1811
                    have ho36 := ho36.to c1811
                    have ho114 := ho114.to c1811
                    have ho116 := ho116.to c1811
                    have n1812 := c1811.n
                    have k1813 := hot0_0.bko
                    have k1814 := hot0_1.bko
                    have k1815 := ho4.bko
                    have k1816 := ho8.bko
                    have k1817 := ho12.bko
                    have k1818 := ho16.bko
                    have k1819 := ho20.bko
                    have k1820 := ho26.bko
                    have k1821 := ho36.bko
                    have k1822 := ho114.bko
                    have k1823 := ho116.bko
                    refine WO.stBA (u' := ((((([], 0) : (List UInt8) × Int)).1, ((([], 0) : (List UInt8) × Int)).2) : (List UInt8) × Int)) rfl ho16.at0 rfl ho16 rfl rfl (fun S1824 c1825 ho16 => ?_)
                    have hot0_0z := hot0_0z.toz c1825
                    have hot0_1z := hot0_1z.toz c1825
                    have ho20z := ho20z.tow c1825
                    have ho26z := ho26z.tow c1825
                    have ho114z := ho114z.tow c1825
                    have ho116z := ho116z.tow c1825
                    have hot0_0 := hot0_0.to c1825
                    have hot0_1 := hot0_1.to c1825
                    have hM := hM.to c1825
                    have ho4 := ho4.to c1825
                    have ho8 := ho8.to c1825
                    have ho12 := ho12.to c1825
                    have ho20 := ho20.to c1825
                    have ho26 := ho26.to c1825
                    have ho36 := ho36.to c1825
                    have ho114 := ho114.to c1825
                    have ho116 := ho116.to c1825
                    have n1826 := c1825.n
                    have k1827 := hot0_0.bko
                    have k1828 := hot0_1.bko
                    have k1829 := ho4.bko
                    have k1830 := ho8.bko
                    have k1831 := ho12.bko
                    have k1832 := ho16.bko
                    have k1833 := ho20.bko
                    have k1834 := ho26.bko
                    have k1835 := ho36.bko
                    have k1836 := ho114.bko
                    have k1837 := ho116.bko
                    refine WO.asg rfl (WO.nil ?_)
                    refine ⟨fun tt hs => dynOk_of [(1, 2)] (by kernel_rfl) ⟨?_, trivial⟩, ?_⟩
                    · show djT tt _ _ = true
                      have nb1838 := k1799.nb k1801
                      have nb1839 := k1799.nb k1802
                      have nb1840 := k1799.nb k1803
                      have nb1841 := k1799.nb k1804
                      have nb1842 := k1799.nb k1805
                      have nb1843 := k1799.nb k1806
                      have nb1844 := k1799.nb k1807
                      have nb1845 := k1799.nb k1808
                      have nb1846 := k1799.nb k1809
                      have nb1847 := k1800.nb k1801
                      have nb1848 := k1800.nb k1802
                      have nb1849 := k1800.nb k1803
                      have nb1850 := k1800.nb k1804
                      have nb1851 := k1800.nb k1805
                      have nb1852 := k1800.nb k1806
                      have nb1853 := k1800.nb k1807
                      have nb1854 := k1800.nb k1808
                      have nb1855 := k1800.nb k1809
                      have nb1856 := k1801.nb k1802
                      have nb1857 := k1801.nb k1803
                      have nb1858 := k1801.nb k1804
                      have nb1859 := k1801.nb k1805
                      have nb1860 := k1801.nb k1806
                      have nb1861 := k1801.nb k1807
                      have nb1862 := k1801.nb k1808
                      have nb1863 := k1801.nb k1809
                      have nb1864 := k1802.nb k1803
                      have nb1865 := k1802.nb k1804
                      have nb1866 := k1802.nb k1805
                      have nb1867 := k1802.nb k1806
                      have nb1868 := k1802.nb k1807
                      have nb1869 := k1802.nb k1808
                      have nb1870 := k1802.nb k1809
                      have nb1871 := k1803.nb k1804
                      have nb1872 := k1803.nb k1805
                      have nb1873 := k1803.nb k1806
                      have nb1874 := k1803.nb k1807
                      have nb1875 := k1803.nb k1808
                      have nb1876 := k1803.nb k1809
                      have nb1877 := k1804.nb k1805
                      have nb1878 := k1804.nb k1806
                      have nb1879 := k1804.nb k1807
                      have nb1880 := k1804.nb k1808
                      have nb1881 := k1804.nb k1809
                      have nb1882 := k1805.nb k1806
                      have nb1883 := k1805.nb k1807
                      have nb1884 := k1805.nb k1808
                      have nb1885 := k1805.nb k1809
                      have nb1886 := k1806.nb k1807
                      have nb1887 := k1806.nb k1808
                      have nb1888 := k1806.nb k1809
                      have nb1889 := k1807.nb k1808
                      have nb1890 := k1807.nb k1809
                      have nb1891 := k1808.nb k1809
                      refine djT_of hs rfl rfl rfl rfl rfl ?_ ?_ ?_ <;> simp only [NBs, NB1, and_true, true_and] <;> (repeat' apply And.intro) <;> (first | assumption | (apply NB.symm; assumption) | exact NB.none rfl | exact NB.noneR rfl | (apply NB.pt; first | assumption | (apply NB.symm; assumption)) | (apply NB.symm; apply NB.pt; first | assumption | (apply NB.symm; assumption) | (apply NB.symm; apply NB.pt; first | assumption | (apply NB.symm; assumption))))
                    clear k1799 k1800 k1801 k1802 k1803 k1804 k1805 k1806 k1807 k1808 k1809 k1813 k1814 k1815 k1816 k1817 k1818 k1819 k1820 k1821 k1822 k1823 k1827 k1828 k1829 k1830 k1831 k1832 k1833 k1834 k1835 k1836 k1837 n1812 n1826
                    refine thenL_n (WC.ret ?_)
                    have hcell1892 := ho12
                    have hcell1893 := ho16
                    have hot0_0 := hot0_0.drop 6
                    have hot0_1 := hot0_1.drop 6
                    have hM := hM.drop 6
                    have ho4 := ho4.drop 6
                    have ho8 := ho8.drop 6
                    have ho12 := ho12.drop 6
                    have ho16 := ho16.drop 6
                    have ho20 := ho20.freeze
                    have ho26 := ho26.drop 6
                    have ho36 := ho36.drop 6
                    have ho114 := ho114.drop 6
                    have ho116 := ho116.drop 6
                    have hot0_0 := hot0_0.drop 7
                    have hot0_1 := hot0_1.drop 7
                    have hM := hM.drop 7
                    have ho4 := ho4.drop 7
                    have ho8 := ho8.drop 7
                    have ho12 := ho12.drop 7
                    have ho16 := ho16.drop 7
                    have ho20 := ho20.drop 7
                    have ho26 := ho26.freeze
                    have ho36 := ho36.drop 7
                    have ho114 := ho114.drop 7
                    have ho116 := ho116.drop 7
                    obtain rfl := someI h
                    exact ⟨.inr rfl, _, _, (resK_w (sz := 2) hcell1892 (Cov.refl _) rfl rfl rfl (resK_b hcell1893 (Cov.refl _) rfl rfl (resK_t (Cov.refl _) rfl rfl))), rfl, ⟨((S1824.drop 6).drop 7), rfl, rfl, hM, v19, v25, rfl, ho20, ho26⟩⟩
end Go.Proofs.YtaphdnpjpmnaeabDoor

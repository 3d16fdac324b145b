/- The machine answers F27: printed by a program of ours (gen.py). -/
import Derived.Test.YtihmliblbhjlaaaDef
import Derived.Test.YtihmliblbhjlaaaEnv
import Derived.Test.YtihmliblbhjlaaaF101
import Derived.Test.YtihmliblbhjlaaaF102
set_option linter.unusedVariables false
namespace Go.Proofs.Ytihmliblbhjlaaa
open Go.Am
theorem F27.fn : E.fn 27 = some ⟨54, (Try.f27.body.getD .skip), Try.f27.results.toList, [1000012]⟩ := rfl
theorem F27_ok {F : Nat} {fl : Nat} {S0 : Cx fl} {r : ((List (List Int)) × (List (List Int))) × Int} {t0 : List Int} {vt0 : SV} (h : F27 F t0 = some r) (hot0 : Rd Y3 S0 vt0 t0) : Ret E fl 27 [.sc vt0] S0.m S0.n (fun v m' n' => ∃ S' : Cx fl, S'.m = m' ∧ S'.n = n' ∧ ChM S0 S' ∧ (∃ w163 w164 : SV, v = .tup [.agg [w163, w164], .sc (.int .i64 r.2)] ∧ Rd Y22 S' w163 r.1.1 ∧ Rd Y22 S' w164 r.1.2)) := by
  unfold F27 at h
  refine Ret.walk F27.fn ?_
  have hM := ChM.refl S0
  refine WC.seq ?_
  refine WC.region ?_
  refine WO.alW (S := S0) (cs := [.nils, .nils]) 2 rfl rfl rfl (fun b1 S2 c3 ho4 => ?_)
  have hot0 := hot0.to c3
  have hM := hM.to c3
  refine WO.asg rfl ?_
  refine WO.nil ?_
  refine thenL_n ?_
  refine WC.seq ?_
  refine WC.seq ?_
  refine WC.region ?_
  refine WO.mv rfl ?_
  obtain ⟨r5, e6, h⟩ := bindS h
  refine WO.callE (S := S2) rfl rfl (F101_ok e6 hot0.vw) (fun S7 c8 => ?_)
  have hot0 := hot0.to c8
  have hM := hM.to c8
  have ho4 := ho4.to c8
  refine WO.asg rfl ?_
  refine WO.nil ?_
  refine thenL_n ?_
  refine WC.seq ?_
  refine WC.region ?_
  refine WO.mv rfl ?_
  refine WO.bin rfl rfl (by decide) (by decide) rfl ?_
  refine WO.nil ?_
  refine thenL_n ?_
  refine WC.cond rfl (fun q9 => ?_) (fun q9 => ?_)
  · have h := iteT q9 h
    refine WC.seq ?_
    refine WC.region ?_
    refine WO.do rfl rfl ?_
    refine WO.mv rfl ?_
    refine WO.stW (S := S7) (r := [.nils, .nils]) rfl ho4.at0 rfl rfl ho4 rfl rfl rfl rfl rfl (fun S10 c11 ho4 => ?_)
    have hot0 := hot0.to c11
    have hM := hM.to c11
    refine WO.asg rfl ?_
    refine WO.nil ?_
    refine thenL_n ?_
    refine WC.ret ?_
    refine thenL_r ?_
    have hcell12 := ho4
    obtain rfl := someI h
    exact ⟨.inr rfl, _, _, (resK_w (sz := 2) hcell12 (Cov.refl _) rfl rfl rfl (resK_t (Cov.refl _) rfl rfl)), rfl, ⟨S10, rfl, rfl, hM, .nils, .nils, rfl, Rd.nil, Rd.nil⟩⟩
  · have h := iteF q9 h
    refine WC.skip ?_
    refine thenL_n ?_
    refine WC.seq ?_
    refine WC.region ?_
    refine WO.alW (S := S7) (cs := [.nils, .nils]) 3 rfl rfl rfl (fun b13 S14 c15 ho16 => ?_)
    have hot0 := hot0.to c15
    have hM := hM.to c15
    have ho4 := ho4.to c15
    refine WO.nil ?_
    refine thenL_n ?_
    refine WC.seq ?_
    refine WC.seq ?_
    refine WC.region ?_
    refine WO.mv rfl ?_
    refine WO.lenS rfl hot0.slv rfl ?_
    refine WO.mv rfl ?_
    refine WO.nil ?_
    refine thenL_n ?_
    refine WC.block ?_
    obtain ⟨b154, e155, h⟩ := bindS h
    refine WC.loopD e155 (fun s17 l' m' n' => ∃ S20 : Cx fl, ∃ v21 v22 : SV, S20.m = m' ∧ S20.n = n' ∧ Cov l' [(2, .sc ((.ptr b1 0))), (5, .sc ((.ptr b13 0))), (15, .sc vt0), (16, .sc (.int .i64 ((t0.length : Int)))), (17, .sc (.int .i64 s17.1))] ∧ ChM S0 S20 ∧ Bw S20 2 (.ptr b1 0) [.nils, .nils] ∧ Bw S20 3 (.ptr b13 0) [v21, v22] ∧ Rd Y3 S20 vt0 t0 ∧ Tw Y3 S20 4 5 v21 s17.2.1 ∧ Tw Y3 S20 6 7 v22 s17.2.2) (fun b e l' m' n' => e = .exit 0 ∧ ∃ S23 : Cx fl, ∃ v24 v25 : SV, S23.m = m' ∧ S23.n = n' ∧ Cov l' [(2, .sc ((.ptr b1 0))), (5, .sc ((.ptr b13 0)))] ∧ ChM S0 S23 ∧ Bw S23 2 (.ptr b1 0) [.nils, .nils] ∧ Bw S23 3 (.ptr b13 0) [v24, v25] ∧ Tw Y3 S23 4 5 v24 b.1 ∧ Tw Y3 S23 6 7 v25 b.2) (by exact ⟨S14, .nils, .nils, rfl, rfl, (Cov.cons rfl (Cov.cons rfl (Cov.cons rfl (Cov.cons rfl (Cov.cons rfl (Cov.nil _)))))), hM, ho4, ho16, hot0, Tw.nil, Tw.nil⟩) ?_ ?_
    · clear h
      rintro s17 q _ _ _ ⟨S26, v27, v28, rfl, rfl, hc29, hM, ho4, ho16, hot0, ho16c0, ho16c1⟩ h
      unfold F27_l0 at h
      refine WC.cov hc29 ?_
      refine WC.seq ?_
      refine WC.region ?_
      refine WO.bin rfl rfl (by decide) (by decide) rfl ?_
      refine WO.nil ?_
      refine thenL_n ?_
      refine WC.seq ?_
      refine WC.cond rfl (fun q30 => ?_) (fun q30 => ?_)
      · have h := iteT q30 h
        refine WC.skip ?_
        refine thenL_n ?_
        refine WC.seq ?_
        refine WC.block ?_
        refine WC.seq ?_
        refine WC.region ?_
        refine WO.mv rfl ?_
        obtain ⟨x31, e32, h⟩ := bindS h
        refine WO.ixS rfl rfl hot0.slv (at?_lt e32) rfl ?_
        refine WO.ldF rfl hot0.ro (fun _ hi => hi) (at?_get e32) rfl rfl rfl ?_
        refine WO.asg rfl ?_
        refine WO.asg rfl ?_
        refine WO.nil ?_
        refine thenL_n ?_
        refine WC.seq ?_
        refine WC.region ?_
        refine WO.asg rfl ?_
        refine WO.nil ?_
        refine thenL_n ?_
        refine WC.seq ?_
        refine WC.region ?_
        refine WO.fldS (j := 0) (q := 0) rfl ho16.at0 ho16.ptr rfl rfl rfl (by decide) ?_
        refine WO.ldW rfl rfl ho16 rfl rfl ho16.lt rfl ?_
        refine WO.mv rfl ?_
        obtain ⟨r33, e34, h⟩ := bindS h
        refine WO.callG (S := S26) [(4, 2), (5, 3)] [(902, 8), (903, 9)] rfl rfl (F102_ok (S0 := S26.mp [(4, 2), (5, 3)]) e34 (ho16c0.mp rfl rfl)) (fun _ S37 S38 hb hR => ?_)
        obtain ⟨v35, rfl, hR0⟩ := hR
        have c39 := Cx.mg_ch S26 5 4
        have hM := hM.to c39
        have ho4 := ho4.to c39
        have ho16 := ho16.to c39
        have hot0 := hot0.to c39
        have ho16c1 := ho16c1.to c39
        have c40 : Ch 4 (S26.mg 5 4) S38 := hb.ch [5] 4
        have hM := hM.to c40
        have ho4 := ho4.to c40
        have ho16 := ho16.to c40
        have hot0 := hot0.to c40
        have ho16c1 := ho16c1.to c40
        have ho36 := hR0.bkF hb rfl rfl Lay.flat_fl
        refine WO.mv rfl ?_
        refine WO.do rfl rfl ?_
        refine WO.do rfl rfl ?_
        refine WO.fldS (j := 0) (q := 0) rfl ho16.at0 ho16.ptr rfl rfl rfl (by decide) ?_
        refine WO.stW (S := S38) (r := [v35, v28]) rfl rfl rfl rfl ho16 rfl rfl rfl rfl rfl (fun S41 c42 ho16 => ?_)
        have hM := hM.to c42
        have ho4 := ho4.to c42
        have hot0 := hot0.to c42
        have ho16c1 := ho16c1.to c42
        have ho36 := ho36.to c42
        refine WO.asg rfl ?_
        refine WO.nil ?_
        refine thenL_n ?_
        refine WC.seq ?_
        refine WC.seq ?_
        refine WC.region ?_
        refine WO.mv rfl ?_
        refine WO.fldS (j := 0) (q := 0) rfl ho16.at0 ho16.ptr rfl rfl rfl (by decide) ?_
        refine WO.ldW rfl rfl ho16 rfl rfl ho16.lt rfl ?_
        refine WO.lenS rfl ho16c1.slv rfl ?_
        refine WO.bin rfl rfl (by decide) (by decide) rfl ?_
        refine WO.nil ?_
        refine thenL_n ?_
        obtain ⟨b58, e59, h⟩ := bindS h
        refine WC.mono (Q' := (fun b e l' m' n' => e = .normal ∧ ∃ S60 : Cx fl, ∃ v61 v62 : SV, S60.m = m' ∧ S60.n = n' ∧ Cov l' [(2, .sc ((.ptr b1 0))), (5, .sc ((.ptr b13 0))), (6, .sc (.int .i64 s17.1)), (8, .sc (.int .i64 r33.2)), (15, .sc vt0), (16, .sc (.int .i64 ((t0.length : Int)))), (17, .sc (.int .i64 s17.1))] ∧ ChM S0 S60 ∧ Bw S60 2 (.ptr b1 0) [.nils, .nils] ∧ Bw S60 3 (.ptr b13 0) [v61, v62] ∧ Rd Y3 S60 vt0 t0 ∧ Tw Y3 S60 8 9 v61 b.1 ∧ Tw Y3 S60 6 7 v62 b.2) b58) ?_ ?_
        · have h := e59
          dsimp only at h ⊢
          refine WC.cond rfl (fun q43 => ?_) (fun q43 => ?_)
          · have h := iteT q43 h
            refine WC.region ?_
            refine WO.fldS (j := 0) (q := 0) rfl ho16.at0 ho16.ptr rfl rfl rfl (by decide) ?_
            refine WO.ldW rfl rfl ho16 rfl rfl ho16.lt rfl ?_
            refine WO.bsH (S := S41) (w := .nils) 10 rfl rfl rfl (fun v44 S45 c46 ho47 => ?_)
            have hM := hM.to c46
            have ho4 := ho4.to c46
            have ho16 := ho16.to c46
            have hot0 := hot0.to c46
            have ho16c1 := ho16c1.to c46
            have ho36 := ho36.to c46
            obtain ⟨L48, e49, h⟩ := bindS h
            refine WO.appT rfl rfl ho16c1 ho47.ro (Ow.nil : Ow Y3 S45 11 .nils []) e49 rfl rfl rfl rfl rfl rfl rfl (fun v50 S51 S53 c52 c54 ho55 => ?_)
            have hM := hM.to c52
            have ho4 := ho4.to c52
            have ho16 := ho16.to c52
            have hot0 := hot0.to c52
            have ho36 := ho36.to c52
            have ho47 := ho47.to c52
            have hM := hM.to c54
            have ho4 := ho4.to c54
            have ho16 := ho16.to c54
            have hot0 := hot0.to c54
            have ho36 := ho36.to c54
            have ho47 := ho47.to c54
            refine WO.fldS (j := 0) (q := 0) rfl ho16.at0 ho16.ptr rfl rfl rfl (by decide) ?_
            refine WO.stW (S := S53) (r := [v35, v50]) rfl rfl rfl rfl ho16 rfl rfl rfl rfl rfl (fun S56 c57 ho16 => ?_)
            have hM := hM.to c57
            have ho4 := ho4.to c57
            have hot0 := hot0.to c57
            have ho36 := ho36.to c57
            have ho47 := ho47.to c57
            have ho55 := ho55.to c57
            refine WO.nil ?_
            obtain rfl := someI h
            exact ⟨rfl, ⟨S56, v35, v50, rfl, rfl, (Cov.cons rfl (Cov.cons rfl (Cov.cons rfl (Cov.cons rfl (Cov.cons rfl (Cov.cons rfl (Cov.cons rfl (Cov.nil _)))))))), hM, ho4, ho16, hot0, ho36, ho55⟩⟩
          · have h := iteF q43 h
            refine WC.skip ?_
            obtain rfl := someI h
            exact ⟨rfl, ⟨S41, v35, v28, rfl, rfl, (Cov.cons rfl (Cov.cons rfl (Cov.cons rfl (Cov.cons rfl (Cov.cons rfl (Cov.cons rfl (Cov.cons rfl (Cov.nil _)))))))), hM, ho4, ho16, hot0, ho36, ho16c1⟩⟩
        dsimp only
        rintro _ _ _ _ ⟨rfl, ⟨S63, v64, v65, rfl, rfl, hc66, hM, ho4, ho16, hot0, ho16c0, ho16c1⟩⟩
        refine thenL_n ?_
        refine WC.cov hc66 ?_
        refine WC.drawDN rfl ?_
        have ho4z := ho4.lt
        have ho16z := ho16.lt
        have hot0z := hot0.oz
        have ho16c0z := ho16c0.lt
        have ho16c1z := ho16c1.lt
        have k67 := ho4.bko
        have k68 := ho16.bko
        have k69 := hot0.bko
        have k70 := ho16c0.bko
        have k71 := ho16c1.bko
        refine WO.fldS (j := 0) (q := 0) rfl ho16.at0 ho16.ptr rfl rfl rfl (by decide) ?_
        refine WO.ldW rfl rfl ho16 rfl rfl ho16z (limLe_self _) ?_
        refine WO.mv rfl ?_
        refine WO.fldS (j := 0) (q := 0) rfl ho16.at0 ho16.ptr rfl rfl rfl (by decide) ?_
        refine WO.ldW rfl rfl ho16 rfl rfl ho16z (limLe_self _) ?_
        refine WO.mv rfl ?_
        obtain ⟨L72, e73, h⟩ := bindS h
        refine WO.ixS rfl rfl ho16c1.slv (at?_lt e73) rfl ?_
        refine WO.ldTn 12 rfl ho16c1 (at?_get e73) rfl ho16c1z (limLe_self _) rfl rfl rfl rfl (fun v74 S76 c77 ho16c1 ho75 hn78 ho75z => ?_)
        have hot0z := hot0z.toz c77
        have hM := hM.to c77
        have ho4 := ho4.to c77
        have ho16 := ho16.to c77
        have hot0 := hot0.to c77
        have ho16c0 := ho16c0.to c77
        have n79 := c77.n
        have k80 := ho4.bko
        have k81 := ho16.bko
        have k82 := hot0.bko
        have k83 := ho16c0.bko
        have k84 := ho16c1.bko
        have k85 := ho75.bko
        refine WO.mv rfl ?_
        refine WO.bsD (A := Y3) (S := S76) (M := [s17.1]) (cs := [.int .i64 s17.1]) 13 rfl rfl rfl ⟨[.int .i64 s17.1], _, rfl, rfl, rfl⟩ rfl (fun v86 S87 ge90 c88 ho89 => ?_)
        have hot0z := hot0z.toz c88
        have ho75z := ho75z.tow c88
        have hM := hM.to c88
        have ho4 := ho4.to c88
        have ho16 := ho16.to c88
        have hot0 := hot0.to c88
        have ho16c0 := ho16c0.to c88
        have ho16c1 := ho16c1.to c88
        have ho75 := ho75.to c88
        have n91 := c88.n
        have k92 := ho4.bko
        have k93 := ho16.bko
        have k94 := hot0.bko
        have k95 := ho16c0.bko
        have k96 := ho16c1.bko
        have k97 := ho75.bko
        have k98 := ho89.bko
        obtain ⟨L99, e100, h⟩ := bindS h
        refine WO.appS rfl rfl ho75 ho89.ro e100 rfl rfl (fun v101 S102 c103 ho104 => ?_)
        have hot0z := hot0z.toz c103
        have hM := hM.to c103
        have ho4 := ho4.to c103
        have ho16 := ho16.to c103
        have hot0 := hot0.to c103
        have ho16c0 := ho16c0.to c103
        have ho16c1 := ho16c1.to c103
        have ho89 := ho89.to c103
        have n105 := c103.n
        have k106 := ho4.bko
        have k107 := ho16.bko
        have k108 := hot0.bko
        have k109 := ho16c0.bko
        have k110 := ho16c1.bko
        have k111 := ho89.bko
        have k112 := ho104.bko
        obtain ⟨u113, e114, h⟩ := bindS h
        refine WO.ixS rfl rfl ho16c1.slv (ck_some e114) rfl ?_
        refine WO.stT (S := S102) rfl rfl ho16c1 (ck_nat e114) ho104 rfl rfl rfl rfl rfl rfl rfl (fun S115 S117 c116 c118 ho16c1 => ?_)
        have hot0z := hot0z.toz c116
        have hM := hM.to c116
        have ho4 := ho4.to c116
        have ho16 := ho16.to c116
        have hot0 := hot0.to c116
        have ho16c0 := ho16c0.to c116
        have ho89 := ho89.to c116
        have n119 := c116.n
        have hot0z := hot0z.toz c118
        have hM := hM.to c118
        have ho4 := ho4.to c118
        have ho16 := ho16.to c118
        have hot0 := hot0.to c118
        have ho16c0 := ho16c0.to c118
        have ho89 := ho89.to c118
        have n120 := c118.n
        have k121 := ho4.bko
        have k122 := ho16.bko
        have k123 := hot0.bko
        have k124 := ho16c0.bko
        have k125 := ho16c1.bko
        have k126 := ho89.bko
        refine WO.nil ?_
        refine ⟨fun tt hs => dynOk_of [(1, 10)] (by kernel_rfl) ⟨?_, trivial⟩, ?_⟩
        · show djT tt _ _ = true
          have nb127 := k67.nb k68
          have nb128 := k67.nb k69
          have nb129 := k67.nb k70
          have nb130 := k67.nb k71
          have nb131 := k80.nb k85
          have nb132 := k92.nb k98
          have nb133 := k106.nb k112
          have nb134 := k68.nb k69
          have nb135 := k68.nb k70
          have nb136 := k68.nb k71
          have nb137 := k81.nb k85
          have nb138 := k93.nb k98
          have nb139 := k107.nb k112
          have nb140 := k69.nb k70
          have nb141 := k69.nb k71
          have nb142 := k82.nb k85
          have nb143 := k94.nb k98
          have nb144 := k108.nb k112
          have nb145 := k70.nb k71
          have nb146 := k83.nb k85
          have nb147 := k95.nb k98
          have nb148 := k109.nb k112
          have nb149 := k84.nb k85
          have nb150 := k96.nb k98
          have nb151 := k110.nb k112
          have nb152 := k97.nb k98
          have nb153 := k111.nb k112
          refine djT_of hs rfl rfl rfl rfl rfl ?_ ?_ ?_ <;> simp only [NBs, NB1, and_true, true_and] <;> (repeat' apply And.intro) <;> (first | assumption | (apply NB.symm; assumption) | exact NB.none rfl | exact NB.noneR rfl | (apply NB.pt; first | assumption | (apply NB.symm; assumption)) | (apply NB.symm; apply NB.pt; first | assumption | (apply NB.symm; assumption) | (apply NB.symm; apply NB.pt; first | assumption | (apply NB.symm; assumption))))
        clear k67 k68 k69 k70 k71 k80 k81 k82 k83 k84 k85 k92 k93 k94 k95 k96 k97 k98 k106 k107 k108 k109 k110 k111 k112 k121 k122 k123 k124 k125 k126 ge90 n79 n91 n105 n119 n120
        refine blockL_n ?_
        refine thenL_n ?_
        refine WC.region ?_
        refine WO.bin rfl rfl (by decide) (by decide) rfl ?_
        refine WO.mv rfl ?_
        refine WO.nil ?_
        refine thenL_n ?_
        have hM := hM.renO 8 4
        have ho4 := ho4.renO 8 4
        have ho16 := ho16.renO 8 4
        have hot0 := hot0.ren 8 4
        have ho16c1 := ho16c1.renO 8 4
        have hM := hM.renO 9 5
        have ho4 := ho4.renO 9 5
        have ho16 := ho16.renO 9 5
        have hot0 := hot0.ren 9 5
        have ho16c1 := ho16c1.renO 9 5
        have ho16c0 := ho16c0.ren 4 5
        obtain rfl := someI h
        exact ⟨_, rfl, ⟨((S117.ren 8 4).ren 9 5), v64, v65, rfl, rfl, (Cov.cons rfl (Cov.cons rfl (Cov.cons rfl (Cov.cons rfl (Cov.cons rfl (Cov.nil _)))))), hM, ho4, ho16, hot0, ho16c0, ho16c1⟩⟩
      · have h := iteF q30 h
        refine WC.exit ?_
        refine thenL_e ?_
        refine thenL_e ?_
        obtain rfl := someI h
        exact ⟨_, rfl, rfl, ⟨S26, v27, v28, rfl, rfl, (Cov.cons rfl (Cov.cons rfl (Cov.nil _))), hM, ho4, ho16, ho16c0, ho16c1⟩⟩
    rintro _ _ _ _ ⟨rfl, ⟨S156, v157, v158, rfl, rfl, hc159, hM, ho4, ho16, ho16c0, ho16c1⟩⟩
    refine blockL_s ?_
    refine thenL_n ?_
    refine WC.cov hc159 ?_
    refine WC.seq ?_
    refine WC.region ?_
    refine WO.ldWA (sz := 2) (r := [v157, v158]) rfl ho16.at0 ho16 rfl rfl rfl ho16.lt rfl ?_
    refine WO.stW (S := S156) (r := [v157, v158]) rfl ho4.at0 rfl rfl ho4 rfl rfl rfl rfl rfl (fun S160 c161 ho4 => ?_)
    have hM := hM.to c161
    have ho16 := ho16.to c161
    have ho16c0 := ho16c0.to c161
    have ho16c1 := ho16c1.to c161
    refine WO.asg rfl ?_
    refine WO.nil ?_
    refine thenL_n ?_
    refine WC.ret ?_
    have hcell162 := ho4
    have hM := hM.drop 4
    have ho4 := ho4.drop 4
    have ho16 := ho16.drop 4
    have ho16c1 := ho16c1.drop 4
    have hM := hM.drop 5
    have ho4 := ho4.drop 5
    have ho16 := ho16.drop 5
    have ho16c1 := ho16c1.drop 5
    have ho16c0 := ho16c0.freeze
    have hM := hM.drop 6
    have ho4 := ho4.drop 6
    have ho16 := ho16.drop 6
    have ho16c0 := ho16c0.drop 6
    have hM := hM.drop 7
    have ho4 := ho4.drop 7
    have ho16 := ho16.drop 7
    have ho16c0 := ho16c0.drop 7
    have ho16c1 := ho16c1.freeze
    obtain rfl := someI h
    exact ⟨.inr rfl, _, _, (resK_w (sz := 2) hcell162 (Cov.refl _) rfl rfl rfl (resK_t (Cov.refl _) rfl rfl)), rfl, ⟨((((S160.drop 4).drop 5).drop 6).drop 7), rfl, rfl, hM, v157, v158, rfl, ho16c0, ho16c1⟩⟩
end Go.Proofs.Ytihmliblbhjlaaa

/- The machine answers F77: printed by a program of ours (gen.py). -/
import Derived.Test.YtihmliblbhjlaaaDef
import Derived.Test.YtihmliblbhjlaaaEnv
import Derived.Test.YtihmliblbhjlaaaF45
import Derived.Test.YtihmliblbhjlaaaF78
set_option linter.unusedVariables false
namespace Go.Proofs.Ytihmliblbhjlaaa
open Go.Am
theorem F77.fn : E.fn 77 = some ⟨47, (Try.f77.body.getD .skip), Try.f77.results.toList, [7, 1000007, 2000077]⟩ := rfl
theorem F77_ok {F : Nat} : ∀ {fl : Nat} {S0 : Cx fl} {r : Bool × Int} {t0 : Int} {t1 : Int} {t2 : List Int} {c0 : Bool} {c1 : Int} {vt2 : SV} {bc0 : Nat} {bc1 : Nat} {bc2 : Nat} (h : F77 F t0 t1 t2 c0 c1 = some r) (hot2 : Rd Y3 S0 vt2 t2) (hoc0 : Bk Y4 S0 2 (.ptr bc0 0) c0) (hoc1 : Bk Y3 S0 3 (.ptr bc1 0) c1) (hoc2 : Rw S0 (.ptr bc2 0) [.fn 77 [(bc0, 0), (bc1, 0), (bc2, 0)]]), Ret E fl 77 [.sc (.int .i64 t0), .sc (.int .i64 t1), .sc vt2, .sc (.ptr bc0 0), .sc (.ptr bc1 0), .sc (.ptr bc2 0)] S0.m S0.n (fun v m' n' => ∃ S' : Cx fl, S'.m = m' ∧ S'.n = n' ∧ ChM S0 S' ∧ (v = .tup [] ∧ Bk Y4 S' 2 (.ptr bc0 0) r.1 ∧ Bk Y3 S' 3 (.ptr bc1 0) r.2)) := by
  induction F with
  | zero => intro fl S0 r t0 t1 t2 c0 c1 vt2 bc0 bc1 bc2 h; cases h
  | succ F ih =>
    intro fl S0 r t0 t1 t2 c0 c1 vt2 bc0 bc1 bc2 h hot2 hoc0 hoc1 hoc2
    rw [F77] at h
    try dsimp only at h
    refine Ret.walk F77.fn ?_
    have hM := ChM.refl S0
    refine WC.seq ?_
    refine WC.seq ?_
    refine WC.region ?_
    refine WO.mv rfl ?_
    refine WO.bin rfl rfl (by decide) (by decide) rfl ?_
    refine WO.nil ?_
    refine thenL_n ?_
    obtain ⟨b11, e12, h⟩ := bindS h
    refine WC.mono (Q' := (fun b e l' m' n' => e = .normal ∧ ∃ S13 : Cx fl, S13.m = m' ∧ S13.n = n' ∧ Cov l' [(0, .sc (.int .i64 t0)), (1, .sc (.int .i64 t1)), (2, .sc vt2), (3, .sc ((.ptr bc0 0))), (4, .sc ((.ptr bc1 0))), (5, .sc ((.ptr bc2 0)))] ∧ ChM S0 S13 ∧ Rd Y3 S13 vt2 t2 ∧ Bk Y4 S13 2 (.ptr bc0 0) b.1 ∧ Bk Y3 S13 3 (.ptr bc1 0) b.2 ∧ Rw S13 (.ptr bc2 0) [.fn 77 [(bc0, 0), (bc1, 0), (bc2, 0)]]) b11) ?_ ?_
    · have h := e12
      dsimp only at h ⊢
      refine WC.cond rfl (fun q1 => ?_) (fun q1 => ?_)
      · have h := iteT q1 h
        refine WC.seq ?_
        refine WC.region ?_
        refine WO.mv rfl ?_
        obtain ⟨r2, e3, h⟩ := bindS h
        refine WO.callE (S := S0) rfl rfl (F78_ok e3 hot2.vw) (fun S4 c5 => ?_)
        have hot2 := hot2.to c5
        have hoc0 := hoc0.to c5
        have hoc1 := hoc1.to c5
        have hoc2 := hoc2.to c5
        have hM := hM.to c5
        refine WO.mv rfl ?_
        refine WO.do rfl rfl ?_
        refine WO.do rfl rfl ?_
        refine WO.asg rfl ?_
        refine WO.asg rfl ?_
        refine WO.nil ?_
        refine thenL_n ?_
        refine WC.seq ?_
        refine WC.region ?_
        refine WO.ldB (j := 0) (q := 0) rfl hoc0.at0 hoc0 rfl rfl rfl ?_
        refine WO.mv rfl ?_
        refine WO.cutB (d := 23) 3 (c0 && (r2.2 == 0)) (fun q6 => ?_) (fun q6 => ?_) ?_
        · skip
          refine WO.gyes rfl rfl ?_
          refine WO.mv rfl ?_
          refine WO.gyes rfl rfl ?_
          refine WO.bin rfl rfl (by decide) (by decide) rfl ?_
          refine WO.pickT rfl rfl ?_
          refine WO.nil ?_
          exact ⟨rfl, rfl, (Cov.any rfl (andT q6) (Cov.skip rfl (Cov.skip rfl (Cov.skip rfl (Cov.skip rfl (Cov.refl _))))))⟩
        · refine WO.gno rfl rfl ?_
          refine WO.gno rfl rfl ?_
          refine WO.pickF rfl rfl ?_
          refine WO.nil ?_
          exact ⟨rfl, rfl, (Cov.any rfl (andF q6) (Cov.skip rfl (Cov.skip rfl (Cov.skip rfl (Cov.skip rfl (Cov.refl _))))))⟩
        refine WO.stB (j := 0) (q := 0) (u' := (c0 && (r2.2 == 0))) rfl hoc0.at0 rfl hoc0 rfl (by decide) rfl rfl (fun S7 c8 hoc0 => ?_)
        have hot2 := hot2.to c8
        have hoc1 := hoc1.to c8
        have hoc2 := hoc2.to c8
        have hM := hM.to c8
        refine WO.nil ?_
        refine thenL_n ?_
        refine WC.region ?_
        refine WO.ldB (j := 0) (q := 0) rfl hoc1.at0 hoc1 rfl rfl rfl ?_
        refine WO.mv rfl ?_
        refine WO.mv rfl ?_
        refine WO.bin rfl rfl (by decide) (by decide) rfl ?_
        refine WO.bin rfl rfl (by decide) (by decide) rfl ?_
        refine WO.stB (j := 0) (q := 0) (u' := (wrapA .i64 (c1 + (wrapA .i64 (r2.1 * r2.1))))) rfl hoc1.at0 rfl hoc1 rfl (by decide) rfl rfl (fun S9 c10 hoc1 => ?_)
        have hot2 := hot2.to c10
        have hoc0 := hoc0.to c10
        have hoc2 := hoc2.to c10
        have hM := hM.to c10
        refine WO.nil ?_
        obtain rfl := someI h
        exact ⟨rfl, ⟨S9, rfl, rfl, (Cov.cons rfl (Cov.cons rfl (Cov.cons rfl (Cov.cons rfl (Cov.cons rfl (Cov.cons rfl (Cov.nil _))))))), hM, hot2, hoc0, hoc1, hoc2⟩⟩
      · have h := iteF q1 h
        refine WC.skip ?_
        obtain rfl := someI h
        exact ⟨rfl, ⟨S0, rfl, rfl, (Cov.cons rfl (Cov.cons rfl (Cov.cons rfl (Cov.cons rfl (Cov.cons rfl (Cov.cons rfl (Cov.nil _))))))), hM, hot2, hoc0, hoc1, hoc2⟩⟩
    dsimp only
    rintro _ _ _ _ ⟨rfl, ⟨S14, rfl, rfl, hc15, hM, hot2, hoc0, hoc1, hoc2⟩⟩
    refine thenL_n ?_
    refine WC.cov hc15 ?_
    refine WC.seq ?_
    refine WC.region ?_
    refine WO.asg rfl ?_
    refine WO.nil ?_
    refine thenL_n ?_
    refine WC.block ?_
    obtain ⟨b96, e97, h⟩ := bindS h
    refine WC.loopD e97 (fun s16 l' m' n' => ∃ S17 : Cx fl, S17.m = m' ∧ S17.n = n' ∧ Cov l' [(0, .sc (.int .i64 t0)), (1, .sc (.int .i64 t1)), (2, .sc vt2), (3, .sc ((.ptr bc0 0))), (4, .sc ((.ptr bc1 0))), (5, .sc ((.ptr bc2 0))), (11, .sc (.int .i64 s16.1))] ∧ ChM S0 S17 ∧ Rd Y3 S17 vt2 t2 ∧ Bk Y4 S17 2 (.ptr bc0 0) s16.2.1 ∧ Bk Y3 S17 3 (.ptr bc1 0) s16.2.2 ∧ Rw S17 (.ptr bc2 0) [.fn 77 [(bc0, 0), (bc1, 0), (bc2, 0)]]) (fun b e l' m' n' => e = .exit 0 ∧ ∃ S18 : Cx fl, S18.m = m' ∧ S18.n = n' ∧ Cov l' [(3, .sc ((.ptr bc0 0))), (4, .sc ((.ptr bc1 0)))] ∧ ChM S0 S18 ∧ Bk Y4 S18 2 (.ptr bc0 0) b.1 ∧ Bk Y3 S18 3 (.ptr bc1 0) b.2) (by exact ⟨S14, rfl, rfl, (Cov.cons rfl (Cov.cons rfl (Cov.cons rfl (Cov.cons rfl (Cov.cons rfl (Cov.cons rfl (Cov.cons rfl (Cov.nil _)))))))), hM, hot2, hoc0, hoc1, hoc2⟩) ?_ ?_
    · clear h
      rintro s16 q _ _ _ ⟨S19, rfl, rfl, hc20, hM, hot2, hoc0, hoc1, hoc2⟩ h
      unfold F77_l0 at h
      refine WC.cov hc20 ?_
      refine WC.seq ?_
      refine WC.seq ?_
      refine WC.region ?_
      refine WO.mv rfl ?_
      refine WO.mv rfl ?_
      refine WO.mv rfl ?_
      refine WO.minD rfl rfl ?_
      refine WO.bin rfl rfl (by decide) (by decide) rfl ?_
      refine WO.nil ?_
      refine thenL_n ?_
      refine WC.cond rfl (fun q21 => ?_) (fun q21 => ?_)
      · have h := iteT q21 h
        refine WC.skip ?_
        refine thenL_n ?_
        refine WC.seq ?_
        refine WC.block ?_
        refine WC.drawDN rfl ?_
        have hot2z := hot2.oz
        have hoc2z := hoc2.lt
        have k22 := hot2.bko
        have k23 := hoc0.bko
        have k24 := hoc1.bko
        have k25 := hoc2.bko
        refine WO.ldRw rfl hoc2.at0 hoc2 rfl rfl hoc2z (limLe_self _) ?_
        refine WO.mv rfl ?_
        refine WO.mv rfl ?_
        refine WO.bin rfl rfl (by decide) (by decide) rfl ?_
        refine WO.mv rfl ?_
        refine WO.mv rfl ?_
        obtain ⟨r26, e27, h⟩ := bindS h
        refine WO.callF (S := S19) 4 rfl rfl (F45_ok e27 hot2.vw) Lay.flat_fl (fun v28 S30 c31 ho29 => ?_)
        have hot2z := hot2z.toz c31
        have hM := hM.to c31
        have hot2 := hot2.to c31
        have hoc0 := hoc0.to c31
        have hoc1 := hoc1.to c31
        have hoc2 := hoc2.to c31
        have n32 := c31.n
        have k33 := hot2.bko
        have k34 := hoc0.bko
        have k35 := hoc1.bko
        have k36 := hoc2.bko
        have k37 := ho29.bko
        refine WO.mv rfl ?_
        refine WO.bsD (A := Y3) (S := S30) (M := [s16.1]) (cs := [.int .i64 s16.1]) 5 rfl rfl rfl ⟨[.int .i64 s16.1], _, rfl, rfl, rfl⟩ rfl (fun v38 S39 ge42 c40 ho41 => ?_)
        have hot2z := hot2z.toz c40
        have hM := hM.to c40
        have hot2 := hot2.to c40
        have hoc0 := hoc0.to c40
        have hoc1 := hoc1.to c40
        have hoc2 := hoc2.to c40
        have ho29 := ho29.to c40
        have n43 := c40.n
        have k44 := hot2.bko
        have k45 := hoc0.bko
        have k46 := hoc1.bko
        have k47 := hoc2.bko
        have k48 := ho29.bko
        have k49 := ho41.bko
        obtain ⟨L50, e51, h⟩ := bindS h
        refine WO.appS rfl rfl ho29 ho41.ro e51 rfl rfl (fun v52 S53 c54 ho55 => ?_)
        have hot2z := hot2z.toz c54
        have hM := hM.to c54
        have hot2 := hot2.to c54
        have hoc0 := hoc0.to c54
        have hoc1 := hoc1.to c54
        have hoc2 := hoc2.to c54
        have ho41 := ho41.to c54
        have n56 := c54.n
        have k57 := hot2.bko
        have k58 := hoc0.bko
        have k59 := hoc1.bko
        have k60 := hoc2.bko
        have k61 := ho41.bko
        have k62 := ho55.bko
        obtain ⟨r63, e64, h⟩ := bindS h
        refine WO.callG (S := S53) [(4, 0), (2, 2), (3, 3)] [(2, 2), (3, 3)] rfl rfl (ih (S0 := S53.mp [(4, 0), (2, 2), (3, 3)]) e64 (ho55.mp0 rfl) (hoc0.mp rfl) (hoc1.mp rfl) hoc2.mp) (fun _ S65 S66 hb hR => ?_)
        obtain ⟨rfl, hR0, hR1⟩ := hR
        have c67 := Cx.mg_ch S53 3 2
        have hot2z := hot2z.toz c67
        have hM := hM.to c67
        have hot2 := hot2.to c67
        have hoc2 := hoc2.to c67
        have ho41 := ho41.to c67
        have ho55 := ho55.to c67
        have n68 := c67.n
        have c69 : Ch 2 (S53.mg 3 2) S66 := hb.ch [3] 2
        have hot2z := hot2z.toz c69
        have hM := hM.to c69
        have hot2 := hot2.to c69
        have hoc2 := hoc2.to c69
        have ho41 := ho41.to c69
        have ho55 := ho55.to c69
        have n70 := c69.n
        have hoc0 := hR0.bkF hb rfl Lay.flat_fl
        have hoc1 := hR1.bkF hb rfl Lay.flat_fl
        have k71 := hot2.bko
        have k72 := hoc0.bko
        have k73 := hoc1.bko
        have k74 := hoc2.bko
        have k75 := ho41.bko
        have k76 := ho55.bko
        refine WO.nil ?_
        refine ⟨fun tt hs => dynOk_of [(0, 9)] (by kernel_rfl) ⟨?_, trivial⟩, ?_⟩
        · show djT tt _ _ = true
          have nb77 := k22.nb k23
          have nb78 := k22.nb k24
          have nb79 := k33.nb k37
          have nb80 := k44.nb k49
          have nb81 := k57.nb k62
          have nb82 := k23.nb k24
          have nb83 := k23.nb k25
          have nb84 := k34.nb k37
          have nb85 := k45.nb k49
          have nb86 := k58.nb k62
          have nb87 := k24.nb k25
          have nb88 := k35.nb k37
          have nb89 := k46.nb k49
          have nb90 := k59.nb k62
          have nb91 := k36.nb k37
          have nb92 := k47.nb k49
          have nb93 := k60.nb k62
          have nb94 := k48.nb k49
          have nb95 := k61.nb k62
          refine djT_of hs rfl rfl rfl rfl rfl ?_ ?_ ?_ <;> simp only [NBs, NB1, and_true, true_and] <;> (repeat' apply And.intro) <;> (first | assumption | (apply NB.symm; assumption) | exact NB.none rfl | exact NB.noneR rfl | (apply NB.pt; first | assumption | (apply NB.symm; assumption)) | (apply NB.symm; apply NB.pt; first | assumption | (apply NB.symm; assumption) | (apply NB.symm; apply NB.pt; first | assumption | (apply NB.symm; assumption))))
        clear k22 k23 k24 k25 k33 k34 k35 k36 k37 k44 k45 k46 k47 k48 k49 k57 k58 k59 k60 k61 k62 k71 k72 k73 k74 k75 k76 ge42 n32 n43 n56 n68 n70
        refine blockL_n ?_
        refine thenL_n ?_
        refine WC.region ?_
        refine WO.mv rfl ?_
        refine WO.bin rfl rfl (by decide) (by decide) rfl ?_
        refine WO.asg rfl ?_
        refine WO.nil ?_
        refine thenL_n ?_
        obtain rfl := someI h
        exact ⟨_, rfl, ⟨S66, rfl, rfl, (Cov.cons rfl (Cov.cons rfl (Cov.cons rfl (Cov.cons rfl (Cov.cons rfl (Cov.cons rfl (Cov.cons rfl (Cov.nil _)))))))), hM, hot2, hoc0, hoc1, hoc2⟩⟩
      · have h := iteF q21 h
        refine WC.exit ?_
        refine thenL_e ?_
        refine thenL_e ?_
        obtain rfl := someI h
        exact ⟨_, rfl, rfl, ⟨S19, rfl, rfl, (Cov.cons rfl (Cov.cons rfl (Cov.nil _))), hM, hoc0, hoc1⟩⟩
    rintro _ _ _ _ ⟨rfl, ⟨S98, rfl, rfl, hc99, hM, hoc0, hoc1⟩⟩
    refine blockL_s ?_
    obtain rfl := someI h
    exact ⟨.inl rfl, _, _, (resK_cov hc99 rfl), rfl, ⟨S98, rfl, rfl, hM, rfl, hoc0, hoc1⟩⟩
end Go.Proofs.Ytihmliblbhjlaaa

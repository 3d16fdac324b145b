/- The machine answers F5: printed by a program of ours (gen.py). -/
import Derived.Test.YtkfmedmanhcdeaaDef
import Derived.Test.YtkfmedmanhcdeaaEnv
import Derived.Test.YtkfmedmanhcdeaaF22
import Derived.Test.YtkfmedmanhcdeaaF23
import Derived.Test.YtkfmedmanhcdeaaF24
import Derived.Test.YtkfmedmanhcdeaaF25
set_option linter.unusedVariables false
namespace Go.Proofs.Ytkfmedmanhcdeaa
open Go.Am
theorem F5.fn : E.fn 5 = some ⟨202, (Try.f5.body.getD .skip), Try.f5.results.toList, []⟩ := rfl
theorem F5_ok {F : Nat} {m : Mem} {n : Nat} {r : Bool} {t0 : Int} {t1 : List (Int × Int)} {vt1 : SV} (h : F5 F t0 t1 = some r) (kt1 : Vw Y40 n m vt1 t1) : Ret E n 5 [.sc (.int .i64 t0), .sc vt1] m n (fun v m' n' => v = .sc (.bool r)) := by
  unfold F5 at h
  refine Ret.walk F5.fn ?_
  refine WC.start fun S0 em en hz => ?_
  have hot1 := kt1.rdS em hz
  refine WC.seq ?_
  refine WC.region ?_
  refine WO.asg rfl ?_
  refine WO.nil ?_
  refine thenL_n ?_
  refine WC.seq ?_
  refine WC.region ?_
  refine WO.mv rfl ?_
  obtain ⟨r1, e2, h⟩ := bindS h
  refine WO.callG (S := S0) [] [(904, 2), (902, 3)] rfl rfl (F22_ok (S0 := S0.mp []) e2) (fun _ S4 S5 hb hR => ?_)
  obtain ⟨v3, rfl, hR⟩ := hR
  have c6 : Ch 1 S0 S5 := hb.ch [] 1
  have hot1 := hot1.to c6
  cases hN : r1.1 with
  | none =>
    rw [hN] at h hR
    simp only at h hR
    subst hR
    refine WO.mv rfl ?_
    refine WO.do rfl rfl ?_
    refine WO.do rfl rfl ?_
    refine WO.asg rfl ?_
    refine WO.asg rfl ?_
    refine WO.nil ?_
    refine thenL_n ?_
    refine WC.seq ?_
    refine WC.seq ?_
    refine WC.region ?_
    refine WO.mv rfl ?_
    refine WO.bin rfl rfl (by decide) (by decide) rfl ?_
    refine WO.mv rfl ?_
    refine WO.cutB (d := 32) 3 ((decide (t0 < 1)) || (decide (t0 > 64))) (fun q12 => ?_) (fun q12 => ?_) ?_
    · refine WO.gno rfl rfl ?_
      refine WO.gno rfl rfl ?_
      refine WO.pickT rfl rfl ?_
      refine WO.nil ?_
      exact ⟨rfl, rfl, (Cov.any rfl (orT q12) (Cov.skip rfl (Cov.skip rfl (Cov.skip rfl (Cov.skip rfl (Cov.refl _))))))⟩
    · skip
      refine WO.gyes rfl rfl ?_
      refine WO.mv rfl ?_
      refine WO.gyes rfl rfl ?_
      refine WO.bin rfl rfl (by decide) (by decide) rfl ?_
      refine WO.pickF rfl rfl ?_
      refine WO.nil ?_
      exact ⟨rfl, rfl, (Cov.any rfl (orF q12) (Cov.skip rfl (Cov.skip rfl (Cov.skip rfl (Cov.skip rfl (Cov.refl _))))))⟩
    refine WO.nil ?_
    refine thenL_n ?_
    refine WC.cond rfl (fun q13 => ?_) (fun q13 => ?_)
    · have h := iteT q13 h
      refine WC.seq ?_
      refine WC.region ?_
      refine WO.mv rfl ?_
      refine WO.bin rfl rfl (by decide) (by decide) rfl ?_
      refine WO.mv rfl ?_
      refine WO.cutB (d := 38) 3 ((r1.2 == 1) && true) (fun q14 => ?_) (fun q14 => ?_) ?_
      · skip
        refine WO.gyes rfl rfl ?_
        refine WO.mv rfl ?_
        refine WO.gyes rfl rfl ?_
        refine WO.do rfl rfl ?_
        refine WO.pickT rfl rfl ?_
        refine WO.nil ?_
        exact ⟨rfl, rfl, (Cov.any rfl (andT q14) (Cov.skip rfl (Cov.skip rfl (Cov.skip rfl (Cov.skip rfl (Cov.refl _))))))⟩
      · refine WO.gno rfl rfl ?_
        refine WO.gno rfl rfl ?_
        refine WO.pickF rfl rfl ?_
        refine WO.nil ?_
        exact ⟨rfl, rfl, (Cov.any rfl (andF q14) (Cov.skip rfl (Cov.skip rfl (Cov.skip rfl (Cov.skip rfl (Cov.refl _))))))⟩
      refine WO.asg rfl ?_
      refine WO.nil ?_
      refine thenL_n ?_
      refine WC.ret ?_
      refine thenL_r ?_
      obtain rfl := someI h
      exact ⟨.inr rfl, _, _, rfl, rfl, rfl⟩
    · have h := iteF q13 h
      refine WC.skip ?_
      refine thenL_n ?_
      refine WC.seq ?_
      refine WC.seq ?_
      refine WC.region ?_
      refine WO.mv rfl ?_
      refine WO.bin rfl rfl (by decide) (by decide) rfl ?_
      refine WO.mv rfl ?_
      refine WO.cutB (d := 44) 3 ((r1.2 != 0) || true) (fun q15 => ?_) (fun q15 => ?_) ?_
      · refine WO.gno rfl rfl ?_
        refine WO.gno rfl rfl ?_
        refine WO.pickT rfl rfl ?_
        refine WO.nil ?_
        exact ⟨rfl, rfl, (Cov.any rfl (orT q15) (Cov.skip rfl (Cov.skip rfl (Cov.skip rfl (Cov.skip rfl (Cov.refl _))))))⟩
      · skip
        refine WO.gyes rfl rfl ?_
        refine WO.mv rfl ?_
        refine WO.gyes rfl rfl ?_
        refine WO.do rfl rfl ?_
        refine WO.pickF rfl rfl ?_
        refine WO.nil ?_
        exact ⟨rfl, rfl, (Cov.any rfl (orF q15) (Cov.skip rfl (Cov.skip rfl (Cov.skip rfl (Cov.skip rfl (Cov.refl _))))))⟩
      refine WO.nil ?_
      refine thenL_n ?_
      refine WC.cond rfl (fun q16 => ?_) (fun q16 => ?_)
      · have h := iteT q16 h
        refine WC.seq ?_
        refine WC.region ?_
        refine WO.asg rfl ?_
        refine WO.nil ?_
        refine thenL_n ?_
        refine WC.ret ?_
        refine thenL_r ?_
        obtain rfl := someI h
        exact ⟨.inr rfl, _, _, rfl, rfl, rfl⟩
      · have h := iteF q16 h
        cases h
  | some x7 =>
    rw [hN] at h hR
    simp only at h hR
    obtain ⟨b8, v9, rfl, hR, hR500⟩ := hR
    have ho11 := hR.bk hb rfl
    have ho10 := hR500.bkF hb rfl Lay.flat_fl
    refine WO.mv rfl ?_
    refine WO.do rfl rfl ?_
    refine WO.do rfl rfl ?_
    refine WO.asg rfl ?_
    refine WO.asg rfl ?_
    refine WO.nil ?_
    refine thenL_n ?_
    refine WC.seq ?_
    refine WC.seq ?_
    refine WC.region ?_
    refine WO.mv rfl ?_
    refine WO.bin rfl rfl (by decide) (by decide) rfl ?_
    refine WO.mv rfl ?_
    refine WO.cutB (d := 32) 3 ((decide (t0 < 1)) || (decide (t0 > 64))) (fun q17 => ?_) (fun q17 => ?_) ?_
    · refine WO.gno rfl rfl ?_
      refine WO.gno rfl rfl ?_
      refine WO.pickT rfl rfl ?_
      refine WO.nil ?_
      exact ⟨rfl, rfl, (Cov.any rfl (orT q17) (Cov.skip rfl (Cov.skip rfl (Cov.skip rfl (Cov.skip rfl (Cov.refl _))))))⟩
    · skip
      refine WO.gyes rfl rfl ?_
      refine WO.mv rfl ?_
      refine WO.gyes rfl rfl ?_
      refine WO.bin rfl rfl (by decide) (by decide) rfl ?_
      refine WO.pickF rfl rfl ?_
      refine WO.nil ?_
      exact ⟨rfl, rfl, (Cov.any rfl (orF q17) (Cov.skip rfl (Cov.skip rfl (Cov.skip rfl (Cov.skip rfl (Cov.refl _))))))⟩
    refine WO.nil ?_
    refine thenL_n ?_
    refine WC.cond rfl (fun q18 => ?_) (fun q18 => ?_)
    · have h := iteT q18 h
      refine WC.seq ?_
      refine WC.region ?_
      refine WO.mv rfl ?_
      refine WO.bin rfl rfl (by decide) (by decide) rfl ?_
      refine WO.mv rfl ?_
      refine WO.cutB (d := 38) 3 ((r1.2 == 1) && false) (fun q19 => ?_) (fun q19 => ?_) ?_
      · skip
        refine WO.gyes rfl rfl ?_
        refine WO.mv rfl ?_
        refine WO.gyes rfl rfl ?_
        refine WO.do rfl rfl ?_
        refine WO.pickT rfl rfl ?_
        refine WO.nil ?_
        exact ⟨rfl, rfl, (Cov.any rfl (andT q19) (Cov.skip rfl (Cov.skip rfl (Cov.skip rfl (Cov.skip rfl (Cov.refl _))))))⟩
      · refine WO.gno rfl rfl ?_
        refine WO.gno rfl rfl ?_
        refine WO.pickF rfl rfl ?_
        refine WO.nil ?_
        exact ⟨rfl, rfl, (Cov.any rfl (andF q19) (Cov.skip rfl (Cov.skip rfl (Cov.skip rfl (Cov.skip rfl (Cov.refl _))))))⟩
      refine WO.asg rfl ?_
      refine WO.nil ?_
      refine thenL_n ?_
      refine WC.ret ?_
      refine thenL_r ?_
      obtain rfl := someI h
      exact ⟨.inr rfl, _, _, rfl, rfl, rfl⟩
    · have h := iteF q18 h
      refine WC.skip ?_
      refine thenL_n ?_
      refine WC.seq ?_
      refine WC.seq ?_
      refine WC.region ?_
      refine WO.mv rfl ?_
      refine WO.bin rfl rfl (by decide) (by decide) rfl ?_
      refine WO.mv rfl ?_
      refine WO.cutB (d := 44) 3 ((r1.2 != 0) || false) (fun q20 => ?_) (fun q20 => ?_) ?_
      · refine WO.gno rfl rfl ?_
        refine WO.gno rfl rfl ?_
        refine WO.pickT rfl rfl ?_
        refine WO.nil ?_
        exact ⟨rfl, rfl, (Cov.any rfl (orT q20) (Cov.skip rfl (Cov.skip rfl (Cov.skip rfl (Cov.skip rfl (Cov.refl _))))))⟩
      · skip
        refine WO.gyes rfl rfl ?_
        refine WO.mv rfl ?_
        refine WO.gyes rfl rfl ?_
        refine WO.do rfl rfl ?_
        refine WO.pickF rfl rfl ?_
        refine WO.nil ?_
        exact ⟨rfl, rfl, (Cov.any rfl (orF q20) (Cov.skip rfl (Cov.skip rfl (Cov.skip rfl (Cov.skip rfl (Cov.refl _))))))⟩
      refine WO.nil ?_
      refine thenL_n ?_
      refine WC.cond rfl (fun q21 => ?_) (fun q21 => ?_)
      · have h := iteT q21 h
        refine WC.seq ?_
        refine WC.region ?_
        refine WO.asg rfl ?_
        refine WO.nil ?_
        refine thenL_n ?_
        refine WC.ret ?_
        refine thenL_r ?_
        obtain rfl := someI h
        exact ⟨.inr rfl, _, _, rfl, rfl, rfl⟩
      · have h := iteF q21 h
        refine WC.skip ?_
        refine thenL_n ?_
        refine WC.seq ?_
        refine WC.region ?_
        refine WO.mv rfl ?_
        obtain ⟨L22, e23, h⟩ := bindS h
        refine WO.mkS (A := Y3) (S := S5) 4 rfl rfl e23 rfl rfl rfl (fun v24 S25 c26 ho27 => ?_)
        have hot1 := hot1.to c26
        have ho10 := ho10.to c26
        have ho11 := ho11.to c26
        refine WO.asg rfl ?_
        refine WO.nil ?_
        refine thenL_n ?_
        refine WC.seq ?_
        refine WC.seq ?_
        refine WC.region ?_
        refine WO.mv rfl ?_
        refine WO.lenS rfl hot1.slv rfl ?_
        refine WO.mv rfl ?_
        refine WO.nil ?_
        refine thenL_n ?_
        refine WC.block ?_
        obtain ⟨b149, e150, h⟩ := bindS h
        refine WC.loopD e150 (fun s28 l' m' n' => ∃ S30 : Cx n, ∃ v31 : SV, S30.m = m' ∧ S30.n = n' ∧ Cov l' [(0, .sc (.int .i64 t0)), (5, .sc ((.ptr b8 0))), (7, .sc v24), (47, .sc vt1), (48, .sc (.int .i64 ((t1.length : Int)))), (49, .sc (.int .i64 s28.1))] ∧ Bw S30 3 (.ptr b8 0) [v31] ∧ Ow Y3 S30 4 v24 s28.2.2 ∧ Rd Y40 S30 vt1 t1 ∧ Ow Y3 S30 2 v31 s28.2.1) (fun b e l' m' n' => (match b with | .inl b32 => e = .exit 0 ∧ ∃ S33 : Cx n, S33.m = m' ∧ S33.n = n' ∧ Cov l' [] | .inr b32 => e = .ret ∧ ∃ S34 : Cx n, S34.m = m' ∧ S34.n = n' ∧ Cov l' [(4, .sc (.bool b32))])) (by exact ⟨S25, v9, rfl, rfl, (Cov.cons rfl (Cov.cons rfl (Cov.cons rfl (Cov.cons rfl (Cov.cons rfl (Cov.cons rfl (Cov.nil _))))))), ho11, ho27, hot1, ho10⟩) ?_ ?_
        · clear h
          rintro s28 q _ _ _ ⟨S35, v36, rfl, rfl, hc37, ho11, ho27, hot1, ho11c0⟩ h
          unfold F5_l2 at h
          refine WC.cov hc37 ?_
          refine WC.seq ?_
          refine WC.region ?_
          refine WO.bin rfl rfl (by decide) (by decide) rfl ?_
          refine WO.nil ?_
          refine thenL_n ?_
          refine WC.seq ?_
          refine WC.cond rfl (fun q38 => ?_) (fun q38 => ?_)
          · have h := iteT q38 h
            refine WC.skip ?_
            refine thenL_n ?_
            refine WC.seq ?_
            refine WC.block ?_
            refine WC.seq ?_
            refine WC.region ?_
            obtain ⟨x39, e40, h⟩ := bindS h
            refine WO.ixS rfl rfl hot1.slv (at?_lt e40) rfl ?_
            refine WO.ldA rfl hot1.ro (fun _ hi => hi) (at?_get e40) rfl rfl ?_
            refine WO.alS (A := Y40) (S := S35) (z0 := (0, 0)) 5 rfl rfl rfl (fun v41 S42 c43 ho44 => ?_)
            have ho11 := ho11.to c43
            have ho27 := ho27.to c43
            have hot1 := hot1.to c43
            have ho11c0 := ho11c0.to c43
            refine WO.stBA (u' := (x39.1, x39.2)) rfl ho44.at0 rfl ho44 rfl rfl (fun S45 c46 ho44 => ?_)
            have ho11 := ho11.to c46
            have ho27 := ho27.to c46
            have hot1 := hot1.to c46
            have ho11c0 := ho11c0.to c46
            refine WO.nil ?_
            refine thenL_n ?_
            refine WC.seq ?_
            refine WC.drawP rfl ?_
            refine WO.ixB (len := 2) (sz := 1) rfl ho44.isp rfl (by decide) rfl ?_
            refine WO.ldB (j := 0) (q := 0) rfl rfl ho44 rfl rfl rfl ?_
            refine WO.ixB (len := 2) (sz := 1) rfl ho44.isp rfl (by decide) rfl ?_
            refine WO.ldB (j := 0) (q := 1) rfl rfl ho44 rfl rfl rfl ?_
            refine WO.asg rfl ?_
            refine WO.asg rfl ?_
            refine WO.nil ?_
            refine thenL_n ?_
            refine WC.seq ?_
            refine WC.region ?_
            refine WO.asg rfl ?_
            refine WO.nil ?_
            refine thenL_n ?_
            refine WC.seq ?_
            refine WC.block ?_
            refine WC.seq ?_
            refine WC.region ?_
            refine WO.mv rfl ?_
            refine WO.bin rfl rfl (by decide) (by decide) rfl ?_
            refine WO.mv rfl ?_
            refine WO.cutB (d := 64) 4 ((decide (((x39.1, x39.2)).1 < 0)) || (decide (((x39.1, x39.2)).1 ≥ t0))) (fun q47 => ?_) (fun q47 => ?_) ?_
            · refine WO.gno rfl rfl ?_
              refine WO.gno rfl rfl ?_
              refine WO.gno rfl rfl ?_
              refine WO.pickT rfl rfl ?_
              refine WO.nil ?_
              exact ⟨rfl, rfl, (Cov.any rfl (orT q47) (Cov.skip rfl (Cov.skip rfl (Cov.skip rfl (Cov.skip rfl (Cov.skip rfl (Cov.refl _)))))))⟩
            · skip
              refine WO.gyes rfl rfl ?_
              refine WO.mv rfl ?_
              refine WO.gyes rfl rfl ?_
              refine WO.mv rfl ?_
              refine WO.gyes rfl rfl ?_
              refine WO.bin rfl rfl (by decide) (by decide) rfl ?_
              refine WO.pickF rfl rfl ?_
              refine WO.nil ?_
              exact ⟨rfl, rfl, (Cov.any rfl (orF q47) (Cov.skip rfl (Cov.skip rfl (Cov.skip rfl (Cov.skip rfl (Cov.skip rfl (Cov.refl _)))))))⟩
            refine WO.mv rfl ?_
            refine WO.cutB (d := 68) 3 (((decide (((x39.1, x39.2)).1 < 0)) || (decide (((x39.1, x39.2)).1 ≥ t0))) || (decide (((x39.1, x39.2)).2 < (-1000000000)))) (fun q48 => ?_) (fun q48 => ?_) ?_
            · refine WO.gno rfl rfl ?_
              refine WO.gno rfl rfl ?_
              refine WO.pickT rfl rfl ?_
              refine WO.nil ?_
              exact ⟨rfl, rfl, (Cov.any rfl (orT q48) (Cov.skip rfl (Cov.skip rfl (Cov.skip rfl (Cov.skip rfl (Cov.refl _))))))⟩
            · skip
              refine WO.gyes rfl rfl ?_
              refine WO.mv rfl ?_
              refine WO.gyes rfl rfl ?_
              refine WO.bin rfl rfl (by decide) (by decide) rfl ?_
              refine WO.pickF rfl rfl ?_
              refine WO.nil ?_
              exact ⟨rfl, rfl, (Cov.any rfl (orF q48) (Cov.skip rfl (Cov.skip rfl (Cov.skip rfl (Cov.skip rfl (Cov.refl _))))))⟩
            refine WO.mv rfl ?_
            refine WO.cutB (d := 72) 3 ((((decide (((x39.1, x39.2)).1 < 0)) || (decide (((x39.1, x39.2)).1 ≥ t0))) || (decide (((x39.1, x39.2)).2 < (-1000000000)))) || (decide (((x39.1, x39.2)).2 > 1000000000))) (fun q49 => ?_) (fun q49 => ?_) ?_
            · refine WO.gno rfl rfl ?_
              refine WO.gno rfl rfl ?_
              refine WO.pickT rfl rfl ?_
              refine WO.nil ?_
              exact ⟨rfl, rfl, (Cov.any rfl (orT q49) (Cov.skip rfl (Cov.skip rfl (Cov.skip rfl (Cov.skip rfl (Cov.refl _))))))⟩
            · skip
              refine WO.gyes rfl rfl ?_
              refine WO.mv rfl ?_
              refine WO.gyes rfl rfl ?_
              refine WO.bin rfl rfl (by decide) (by decide) rfl ?_
              refine WO.pickF rfl rfl ?_
              refine WO.nil ?_
              exact ⟨rfl, rfl, (Cov.any rfl (orF q49) (Cov.skip rfl (Cov.skip rfl (Cov.skip rfl (Cov.skip rfl (Cov.refl _))))))⟩
            refine WO.asg rfl ?_
            refine WO.nil ?_
            refine thenL_n ?_
            obtain ⟨b57, e58, h⟩ := bindS h
            refine WC.mono (Q' := (fun b e l' m' n' => e = .normal ∧ ∃ S59 : Cx n, S59.m = m' ∧ S59.n = n' ∧ Cov l' [(0, .sc (.int .i64 t0)), (5, .sc ((.ptr b8 0))), (7, .sc v24), (10, .sc (.int .i64 (((x39.1, x39.2)).1))), (11, .sc (.int .i64 (((x39.1, x39.2)).2))), (12, .sc (.int .i64 b)), (47, .sc vt1), (48, .sc (.int .i64 ((t1.length : Int)))), (49, .sc (.int .i64 s28.1))] ∧ Bw S59 3 (.ptr b8 0) [v36] ∧ Ow Y3 S59 2 v36 s28.2.1 ∧ Ow Y3 S59 4 v24 s28.2.2 ∧ Rd Y40 S59 vt1 t1) b57) ?_ ?_
            · have h := e58
              dsimp only at h ⊢
              refine WC.cond rfl (fun q50 => ?_) (fun q50 => ?_)
              · have h := iteT q50 h
                refine WC.region ?_
                refine WO.asg rfl ?_
                refine WO.nil ?_
                obtain rfl := someI h
                exact ⟨rfl, ⟨S45, rfl, rfl, (Cov.cons rfl (Cov.cons rfl (Cov.cons rfl (Cov.cons rfl (Cov.cons rfl (Cov.cons rfl (Cov.cons rfl (Cov.cons rfl (Cov.cons rfl (Cov.nil _)))))))))), ho11, ho11c0, ho27, hot1⟩⟩
              · have h := iteF q50 h
                refine WC.seq ?_
                refine WC.region ?_
                refine WO.mv rfl ?_
                refine WO.mv rfl ?_
                obtain ⟨x51, e52, h⟩ := bindS h
                refine WO.ixS rfl rfl ho27.slv (at?_lt e52) rfl ?_
                refine WO.ldF rfl ho27.ro (fun _ hi => hi) (at?_get e52) rfl rfl rfl ?_
                refine WO.mv rfl ?_
                refine WO.bin rfl rfl (by decide) (by decide) rfl ?_
                refine WO.bin rfl rfl (by decide) (by decide) rfl ?_
                refine WO.asg rfl ?_
                refine WO.nil ?_
                refine thenL_n ?_
                refine WC.cond rfl (fun q53 => ?_) (fun q53 => ?_)
                · have h := iteT q53 h
                  refine WC.region ?_
                  refine WO.asg rfl ?_
                  refine WO.nil ?_
                  obtain rfl := someI h
                  exact ⟨rfl, ⟨S45, rfl, rfl, (Cov.cons rfl (Cov.cons rfl (Cov.cons rfl (Cov.cons rfl (Cov.cons rfl (Cov.cons rfl (Cov.cons rfl (Cov.cons rfl (Cov.cons rfl (Cov.nil _)))))))))), ho11, ho11c0, ho27, hot1⟩⟩
                · have h := iteF q53 h
                  refine WC.seq ?_
                  refine WC.region ?_
                  refine WO.mv rfl ?_
                  refine WO.mv rfl ?_
                  obtain ⟨x54, e55, h⟩ := bindS h
                  refine WO.ixS rfl rfl ho27.slv (at?_lt e55) rfl ?_
                  refine WO.ldF rfl ho27.ro (fun _ hi => hi) (at?_get e55) rfl rfl rfl ?_
                  refine WO.mv rfl ?_
                  refine WO.bin rfl rfl (by decide) (by decide) rfl ?_
                  refine WO.bin rfl rfl (by decide) (by decide) rfl ?_
                  refine WO.asg rfl ?_
                  refine WO.nil ?_
                  refine thenL_n ?_
                  refine WC.cond rfl (fun q56 => ?_) (fun q56 => ?_)
                  · have h := iteT q56 h
                    refine WC.region ?_
                    refine WO.asg rfl ?_
                    refine WO.nil ?_
                    obtain rfl := someI h
                    exact ⟨rfl, ⟨S45, rfl, rfl, (Cov.cons rfl (Cov.cons rfl (Cov.cons rfl (Cov.cons rfl (Cov.cons rfl (Cov.cons rfl (Cov.cons rfl (Cov.cons rfl (Cov.cons rfl (Cov.nil _)))))))))), ho11, ho11c0, ho27, hot1⟩⟩
                  · have h := iteF q56 h
                    refine WC.skip ?_
                    obtain rfl := someI h
                    exact ⟨rfl, ⟨S45, rfl, rfl, (Cov.cons rfl (Cov.cons rfl (Cov.cons rfl (Cov.cons rfl (Cov.cons rfl (Cov.cons rfl (Cov.cons rfl (Cov.cons rfl (Cov.cons rfl (Cov.nil _)))))))))), ho11, ho11c0, ho27, hot1⟩⟩
            dsimp only
            rintro _ _ _ _ ⟨rfl, ⟨S60, rfl, rfl, hc61, ho11, ho11c0, ho27, hot1⟩⟩
            refine blockL_n ?_
            refine thenL_n ?_
            refine WC.cov hc61 ?_
            refine WC.seq ?_
            refine WC.seq ?_
            refine WC.region ?_
            refine WO.mv rfl ?_
            refine WO.mv rfl ?_
            refine WO.mv rfl ?_
            obtain ⟨r62, e63, h⟩ := bindS h
            refine WO.callG (S := S60) [(3, 2), (2, 3)] [(2, 3), (3, 2)] rfl rfl (F23_ok (S0 := S60.mp [(3, 2), (2, 3)]) e63 (ho11.mp rfl) (ho11c0.mp rfl)) (fun _ S66 S67 hb hR => ?_)
            obtain ⟨v64, rfl, hR0, hR1⟩ := hR
            have c68 := Cx.mg_ch S60 2 3
            have ho27 := ho27.to c68
            have hot1 := hot1.to c68
            have c69 : Ch 3 (S60.mg 2 3) S67 := hb.ch [2] 3
            have ho27 := ho27.to c69
            have hot1 := hot1.to c69
            have ho11 := hR0.bk hb rfl
            have ho65 := hR1.bkF hb rfl Lay.flat_fl
            refine WO.mv rfl ?_
            refine WO.bin rfl rfl (by decide) (by decide) rfl ?_
            refine WO.nil ?_
            refine thenL_n ?_
            refine WC.cond rfl (fun q70 => ?_) (fun q70 => ?_)
            · have h := iteT q70 h
              refine WC.seq ?_
              refine WC.region ?_
              refine WO.asg rfl ?_
              refine WO.nil ?_
              refine thenL_n ?_
              refine WC.ret ?_
              refine thenL_r ?_
              refine blockL_r ?_
              refine thenL_r ?_
              refine thenL_r ?_
              obtain rfl := someI h
              exact ⟨_, rfl, rfl, ⟨S67, rfl, rfl, (Cov.cons rfl (Cov.nil _))⟩⟩
            · have h := iteF q70 h
              refine WC.skip ?_
              refine thenL_n ?_
              refine WC.seq ?_
              refine WC.seq ?_
              refine WC.region ?_
              refine WO.mv rfl ?_
              refine WO.bin rfl rfl (by decide) (by decide) rfl ?_
              refine WO.nil ?_
              refine thenL_n ?_
              obtain ⟨b78, e79, h⟩ := bindS h
              refine WC.mono (Q' := (fun b e l' m' n' => e = .normal ∧ ∃ S80 : Cx n, S80.m = m' ∧ S80.n = n' ∧ Cov l' [(0, .sc (.int .i64 t0)), (5, .sc ((.ptr b8 0))), (7, .sc v24), (10, .sc (.int .i64 (((x39.1, x39.2)).1))), (11, .sc (.int .i64 (((x39.1, x39.2)).2))), (47, .sc vt1), (48, .sc (.int .i64 ((t1.length : Int)))), (49, .sc (.int .i64 s28.1))] ∧ Bw S80 3 (.ptr b8 0) [v64] ∧ Ow Y3 S80 2 v64 r62.2 ∧ Ow Y3 S80 4 v24 b ∧ Rd Y40 S80 vt1 t1) b78) ?_ ?_
              · have h := e79
                dsimp only at h ⊢
                refine WC.cond rfl (fun q71 => ?_) (fun q71 => ?_)
                · have h := iteT q71 h
                  refine WC.region ?_
                  refine WO.mv rfl ?_
                  refine WO.mv rfl ?_
                  obtain ⟨x72, e73, h⟩ := bindS h
                  refine WO.ixS rfl rfl ho27.slv (at?_lt e73) rfl ?_
                  refine WO.ldF rfl ho27.ro (fun _ hi => hi) (at?_get e73) rfl rfl rfl ?_
                  refine WO.mv rfl ?_
                  refine WO.bin rfl rfl (by decide) (by decide) rfl ?_
                  obtain ⟨u74, e75, h⟩ := bindS h
                  refine WO.ixS rfl rfl ho27.slv (ck_some e75) rfl ?_
                  refine WO.st1 (u' := (wrapA .i64 (x72 + ((x39.1, x39.2)).2))) rfl rfl ho27 (ck_nat e75) rfl rfl (fun S76 c77 ho27 => ?_)
                  have ho11 := ho11.to c77
                  have hot1 := hot1.to c77
                  have ho65 := ho65.to c77
                  refine WO.nil ?_
                  obtain rfl := someI h
                  exact ⟨rfl, ⟨S76, rfl, rfl, (Cov.cons rfl (Cov.cons rfl (Cov.cons rfl (Cov.cons rfl (Cov.cons rfl (Cov.cons rfl (Cov.cons rfl (Cov.cons rfl (Cov.nil _))))))))), ho11, ho65, ho27, hot1⟩⟩
                · have h := iteF q71 h
                  refine WC.skip ?_
                  obtain rfl := someI h
                  exact ⟨rfl, ⟨S67, rfl, rfl, (Cov.cons rfl (Cov.cons rfl (Cov.cons rfl (Cov.cons rfl (Cov.cons rfl (Cov.cons rfl (Cov.cons rfl (Cov.cons rfl (Cov.nil _))))))))), ho11, ho65, ho27, hot1⟩⟩
              dsimp only
              rintro _ _ _ _ ⟨rfl, ⟨S81, rfl, rfl, hc82, ho11, ho65, ho27, hot1⟩⟩
              refine thenL_n ?_
              refine WC.cov hc82 ?_
              refine WC.seq ?_
              refine WC.region ?_
              refine WO.mv rfl ?_
              refine WO.mv rfl ?_
              obtain ⟨r83, e84, h⟩ := bindS h
              refine WO.callE (S := S81) rfl rfl (F24_ok e84 ho11.pw ho65.vw) (fun S85 c86 => ?_)
              have ho11 := ho11.to c86
              have ho65 := ho65.to c86
              have ho27 := ho27.to c86
              have hot1 := hot1.to c86
              refine WO.mv rfl ?_
              refine WO.do rfl rfl ?_
              refine WO.do rfl rfl ?_
              refine WO.asg rfl ?_
              refine WO.asg rfl ?_
              refine WO.nil ?_
              refine thenL_n ?_
              refine WC.seq ?_
              refine WC.region ?_
              refine WO.mv rfl ?_
              refine WO.mv rfl ?_
              obtain ⟨r87, e88, h⟩ := bindS h
              refine WO.callE (S := S85) rfl rfl (F25_ok e88 ho11.pw ho65.vw) (fun S89 c90 => ?_)
              have ho11 := ho11.to c90
              have ho65 := ho65.to c90
              have ho27 := ho27.to c90
              have hot1 := hot1.to c90
              refine WO.mv rfl ?_
              refine WO.do rfl rfl ?_
              refine WO.do rfl rfl ?_
              refine WO.asg rfl ?_
              refine WO.asg rfl ?_
              refine WO.nil ?_
              refine thenL_n ?_
              refine WC.seq ?_
              refine WC.seq ?_
              refine WC.region ?_
              refine WO.mv rfl ?_
              refine WO.bin rfl rfl (by decide) (by decide) rfl ?_
              refine WO.mv rfl ?_
              refine WO.cutB (d := 122) 4 ((decide (((x39.1, x39.2)).1 < 0)) || (decide (((x39.1, x39.2)).1 > t0))) (fun q91 => ?_) (fun q91 => ?_) ?_
              · refine WO.gno rfl rfl ?_
                refine WO.gno rfl rfl ?_
                refine WO.gno rfl rfl ?_
                refine WO.pickT rfl rfl ?_
                refine WO.nil ?_
                exact ⟨rfl, rfl, (Cov.any rfl (orT q91) (Cov.skip rfl (Cov.skip rfl (Cov.skip rfl (Cov.skip rfl (Cov.skip rfl (Cov.refl _)))))))⟩
              · skip
                refine WO.gyes rfl rfl ?_
                refine WO.mv rfl ?_
                refine WO.gyes rfl rfl ?_
                refine WO.mv rfl ?_
                refine WO.gyes rfl rfl ?_
                refine WO.bin rfl rfl (by decide) (by decide) rfl ?_
                refine WO.pickF rfl rfl ?_
                refine WO.nil ?_
                exact ⟨rfl, rfl, (Cov.any rfl (orF q91) (Cov.skip rfl (Cov.skip rfl (Cov.skip rfl (Cov.skip rfl (Cov.skip rfl (Cov.refl _)))))))⟩
              refine WO.nil ?_
              refine thenL_n ?_
              obtain ⟨b113, e114, h⟩ := bindS h
              refine WC.mono (Q' := (fun b e l' m' n' => (match b with | .inl b115 => e = .normal ∧ ∃ S116 : Cx n, S116.m = m' ∧ S116.n = n' ∧ Cov l' [(0, .sc (.int .i64 t0)), (5, .sc ((.ptr b8 0))), (7, .sc v24), (11, .sc (.int .i64 (((x39.1, x39.2)).2))), (15, .sc (.int .i64 r87.1)), (16, .sc (.int .i64 r87.2)), (47, .sc vt1), (48, .sc (.int .i64 ((t1.length : Int)))), (49, .sc (.int .i64 s28.1))] ∧ Bw S116 3 (.ptr b8 0) [v64] ∧ Ow Y3 S116 2 v64 r62.2 ∧ Ow Y3 S116 4 v24 b78 ∧ Rd Y40 S116 vt1 t1 | .inr b115 => e = .ret ∧ ∃ S117 : Cx n, S117.m = m' ∧ S117.n = n' ∧ Cov l' [(4, .sc (.bool b115))])) b113) ?_ ?_
              · have h := e114
                dsimp only at h ⊢
                refine WC.cond rfl (fun q92 => ?_) (fun q92 => ?_)
                · have h := iteT q92 h
                  refine WC.seq ?_
                  refine WC.region ?_
                  refine WO.mv rfl ?_
                  refine WO.bin rfl rfl (by decide) (by decide) rfl ?_
                  refine WO.mv rfl ?_
                  refine WO.cutB (d := 128) 3 ((r83.2 != 1) || (r83.1 != 0)) (fun q93 => ?_) (fun q93 => ?_) ?_
                  · refine WO.gno rfl rfl ?_
                    refine WO.gno rfl rfl ?_
                    refine WO.pickT rfl rfl ?_
                    refine WO.nil ?_
                    exact ⟨rfl, rfl, (Cov.any rfl (orT q93) (Cov.skip rfl (Cov.skip rfl (Cov.skip rfl (Cov.skip rfl (Cov.refl _))))))⟩
                  · skip
                    refine WO.gyes rfl rfl ?_
                    refine WO.mv rfl ?_
                    refine WO.gyes rfl rfl ?_
                    refine WO.bin rfl rfl (by decide) (by decide) rfl ?_
                    refine WO.pickF rfl rfl ?_
                    refine WO.nil ?_
                    exact ⟨rfl, rfl, (Cov.any rfl (orF q93) (Cov.skip rfl (Cov.skip rfl (Cov.skip rfl (Cov.skip rfl (Cov.refl _))))))⟩
                  refine WO.nil ?_
                  refine thenL_n ?_
                  refine WC.cond rfl (fun q94 => ?_) (fun q94 => ?_)
                  · have h := iteT q94 h
                    refine WC.seq ?_
                    refine WC.region ?_
                    refine WO.asg rfl ?_
                    refine WO.nil ?_
                    refine thenL_n ?_
                    refine WC.ret ?_
                    obtain rfl := someI h
                    exact ⟨rfl, ⟨S89, rfl, rfl, (Cov.cons rfl (Cov.nil _))⟩⟩
                  · have h := iteF q94 h
                    refine WC.skip ?_
                    obtain rfl := someI h
                    exact ⟨rfl, ⟨S89, rfl, rfl, (Cov.cons rfl (Cov.cons rfl (Cov.cons rfl (Cov.cons rfl (Cov.cons rfl (Cov.cons rfl (Cov.cons rfl (Cov.cons rfl (Cov.cons rfl (Cov.nil _)))))))))), ho11, ho65, ho27, hot1⟩⟩
                · have h := iteF q92 h
                  refine WC.seq ?_
                  refine WC.region ?_
                  refine WO.asg rfl ?_
                  refine WO.nil ?_
                  refine thenL_n ?_
                  refine WC.seq ?_
                  refine WC.seq ?_
                  refine WC.region ?_
                  refine WO.mv rfl ?_
                  refine WO.mv rfl ?_
                  obtain ⟨L95, e96, h⟩ := bindS h
                  refine WO.slc (k := .i64) rfl (.inr ⟨rfl, rfl⟩) (.inl ⟨_, rfl, rfl⟩) ho27.wk e96 rfl (fun v97 ho98 => ?_)
                  have ho98 : Wk Y3 S89 4 v97 L95 := ho98
                  refine WO.lenS rfl ho98.slv rfl ?_
                  refine WO.mv rfl ?_
                  refine WO.nil ?_
                  refine thenL_n ?_
                  refine WC.block ?_
                  obtain ⟨b107, e108, h⟩ := bindS h
                  refine WC.loopD e108 (fun s99 l' m' n' => ∃ S100 : Cx n, S100.m = m' ∧ S100.n = n' ∧ Cov l' [(0, .sc (.int .i64 t0)), (5, .sc ((.ptr b8 0))), (7, .sc v24), (11, .sc (.int .i64 (((x39.1, x39.2)).2))), (13, .sc (.int .i64 r83.1)), (14, .sc (.int .i64 r83.2)), (15, .sc (.int .i64 r87.1)), (16, .sc (.int .i64 r87.2)), (17, .sc (.int .i64 s99.1)), (47, .sc vt1), (48, .sc (.int .i64 ((t1.length : Int)))), (49, .sc (.int .i64 s28.1)), (131, .sc v97), (132, .sc (.int .i64 ((L95.length : Int)))), (133, .sc (.int .i64 s99.2))] ∧ Bw S100 3 (.ptr b8 0) [v64] ∧ Ow Y3 S100 2 v64 r62.2 ∧ Ow Y3 S100 4 v24 b78 ∧ Rd Y40 S100 vt1 t1 ∧ Wk Y3 S100 4 v97 L95) (fun b e l' m' n' => e = .exit 3 ∧ ∃ S101 : Cx n, S101.m = m' ∧ S101.n = n' ∧ Cov l' [(0, .sc (.int .i64 t0)), (5, .sc ((.ptr b8 0))), (7, .sc v24), (11, .sc (.int .i64 (((x39.1, x39.2)).2))), (13, .sc (.int .i64 r83.1)), (14, .sc (.int .i64 r83.2)), (15, .sc (.int .i64 r87.1)), (16, .sc (.int .i64 r87.2)), (17, .sc (.int .i64 b)), (47, .sc vt1), (48, .sc (.int .i64 ((t1.length : Int)))), (49, .sc (.int .i64 s28.1))] ∧ Bw S101 3 (.ptr b8 0) [v64] ∧ Ow Y3 S101 2 v64 r62.2 ∧ Ow Y3 S101 4 v24 b78 ∧ Rd Y40 S101 vt1 t1) (by exact ⟨S89, rfl, rfl, (Cov.cons rfl (Cov.cons rfl (Cov.cons rfl (Cov.cons rfl (Cov.cons rfl (Cov.cons rfl (Cov.cons rfl (Cov.cons rfl (Cov.cons rfl (Cov.cons rfl (Cov.cons rfl (Cov.cons rfl (Cov.cons rfl (Cov.cons rfl (Cov.cons rfl (Cov.nil _)))))))))))))))), ho11, ho65, ho27, hot1, ho98⟩) ?_ ?_
                  · clear h
                    rintro s99 q _ _ _ ⟨S102, rfl, rfl, hc103, ho11, ho65, ho27, hot1, ho98⟩ h
                    unfold F5_l0 at h
                    refine WC.cov hc103 ?_
                    refine WC.seq ?_
                    refine WC.region ?_
                    refine WO.bin rfl rfl (by decide) (by decide) rfl ?_
                    refine WO.nil ?_
                    refine thenL_n ?_
                    refine WC.seq ?_
                    refine WC.cond rfl (fun q104 => ?_) (fun q104 => ?_)
                    · have h := iteT q104 h
                      refine WC.skip ?_
                      refine thenL_n ?_
                      refine WC.seq ?_
                      refine WC.block ?_
                      refine WC.seq ?_
                      refine WC.region ?_
                      obtain ⟨x105, e106, h⟩ := bindS h
                      refine WO.ixS rfl rfl ho98.slv (at?_lt e106) rfl ?_
                      refine WO.ldF rfl ho98.ro (fun _ hi => hi) (at?_get e106) rfl rfl rfl ?_
                      refine WO.asg rfl ?_
                      refine WO.nil ?_
                      refine thenL_n ?_
                      refine WC.region ?_
                      refine WO.mv rfl ?_
                      refine WO.mv rfl ?_
                      refine WO.bin rfl rfl (by decide) (by decide) rfl ?_
                      refine WO.asg rfl ?_
                      refine WO.nil ?_
                      refine blockL_n ?_
                      refine thenL_n ?_
                      refine WC.region ?_
                      refine WO.bin rfl rfl (by decide) (by decide) rfl ?_
                      refine WO.mv rfl ?_
                      refine WO.nil ?_
                      refine thenL_n ?_
                      obtain rfl := someI h
                      exact ⟨_, rfl, ⟨S102, rfl, rfl, (Cov.cons rfl (Cov.cons rfl (Cov.cons rfl (Cov.cons rfl (Cov.cons rfl (Cov.cons rfl (Cov.cons rfl (Cov.cons rfl (Cov.cons rfl (Cov.cons rfl (Cov.cons rfl (Cov.cons rfl (Cov.cons rfl (Cov.cons rfl (Cov.cons rfl (Cov.nil _)))))))))))))))), ho11, ho65, ho27, hot1, ho98⟩⟩
                    · have h := iteF q104 h
                      refine WC.exit ?_
                      refine thenL_e ?_
                      refine thenL_e ?_
                      obtain rfl := someI h
                      exact ⟨_, rfl, rfl, ⟨S102, rfl, rfl, (Cov.cons rfl (Cov.cons rfl (Cov.cons rfl (Cov.cons rfl (Cov.cons rfl (Cov.cons rfl (Cov.cons rfl (Cov.cons rfl (Cov.cons rfl (Cov.cons rfl (Cov.cons rfl (Cov.cons rfl (Cov.nil _))))))))))))), ho11, ho65, ho27, hot1⟩⟩
                  rintro _ _ _ _ ⟨rfl, ⟨S109, rfl, rfl, hc110, ho11, ho65, ho27, hot1⟩⟩
                  refine blockL_s ?_
                  refine thenL_n ?_
                  refine WC.cov hc110 ?_
                  refine WC.seq ?_
                  refine WC.region ?_
                  refine WO.mv rfl ?_
                  refine WO.bin rfl rfl (by decide) (by decide) rfl ?_
                  refine WO.mv rfl ?_
                  refine WO.cutB (d := 147) 4 ((r83.2 != 0) || (r83.1 != b107)) (fun q111 => ?_) (fun q111 => ?_) ?_
                  · refine WO.gno rfl rfl ?_
                    refine WO.gno rfl rfl ?_
                    refine WO.gno rfl rfl ?_
                    refine WO.pickT rfl rfl ?_
                    refine WO.nil ?_
                    exact ⟨rfl, rfl, (Cov.any rfl (orT q111) (Cov.skip rfl (Cov.skip rfl (Cov.skip rfl (Cov.skip rfl (Cov.skip rfl (Cov.refl _)))))))⟩
                  · skip
                    refine WO.gyes rfl rfl ?_
                    refine WO.mv rfl ?_
                    refine WO.gyes rfl rfl ?_
                    refine WO.mv rfl ?_
                    refine WO.gyes rfl rfl ?_
                    refine WO.bin rfl rfl (by decide) (by decide) rfl ?_
                    refine WO.pickF rfl rfl ?_
                    refine WO.nil ?_
                    exact ⟨rfl, rfl, (Cov.any rfl (orF q111) (Cov.skip rfl (Cov.skip rfl (Cov.skip rfl (Cov.skip rfl (Cov.skip rfl (Cov.refl _)))))))⟩
                  refine WO.nil ?_
                  refine thenL_n ?_
                  refine WC.cond rfl (fun q112 => ?_) (fun q112 => ?_)
                  · have h := iteT q112 h
                    refine WC.seq ?_
                    refine WC.region ?_
                    refine WO.asg rfl ?_
                    refine WO.nil ?_
                    refine thenL_n ?_
                    refine WC.ret ?_
                    obtain rfl := someI h
                    exact ⟨rfl, ⟨S109, rfl, rfl, (Cov.cons rfl (Cov.nil _))⟩⟩
                  · have h := iteF q112 h
                    refine WC.skip ?_
                    obtain rfl := someI h
                    exact ⟨rfl, ⟨S109, rfl, rfl, (Cov.cons rfl (Cov.cons rfl (Cov.cons rfl (Cov.cons rfl (Cov.cons rfl (Cov.cons rfl (Cov.cons rfl (Cov.cons rfl (Cov.cons rfl (Cov.nil _)))))))))), ho11, ho65, ho27, hot1⟩⟩
              dsimp only
              cases b113 with
              | inl b118 =>
                simp only at h
                rintro _ _ _ _ ⟨rfl, ⟨S119, rfl, rfl, hc120, ho11, ho65, ho27, hot1⟩⟩
                refine thenL_n ?_
                refine WC.cov hc120 ?_
                refine WC.seq ?_
                refine WC.seq ?_
                refine WC.region ?_
                refine WO.mv rfl ?_
                refine WO.bin rfl rfl (by decide) (by decide) rfl ?_
                refine WO.nil ?_
                refine thenL_n ?_
                refine WC.cond rfl (fun q121 => ?_) (fun q121 => ?_)
                · have h := iteT q121 h
                  refine WC.seq ?_
                  refine WC.seq ?_
                  refine WC.region ?_
                  refine WO.mv rfl ?_
                  refine WO.bin rfl rfl (by decide) (by decide) rfl ?_
                  refine WO.mv rfl ?_
                  refine WO.cutB (d := 155) 3 ((r87.2 != 1) || (r87.1 != 0)) (fun q122 => ?_) (fun q122 => ?_) ?_
                  · refine WO.gno rfl rfl ?_
                    refine WO.gno rfl rfl ?_
                    refine WO.pickT rfl rfl ?_
                    refine WO.nil ?_
                    exact ⟨rfl, rfl, (Cov.any rfl (orT q122) (Cov.skip rfl (Cov.skip rfl (Cov.skip rfl (Cov.skip rfl (Cov.refl _))))))⟩
                  · skip
                    refine WO.gyes rfl rfl ?_
                    refine WO.mv rfl ?_
                    refine WO.gyes rfl rfl ?_
                    refine WO.bin rfl rfl (by decide) (by decide) rfl ?_
                    refine WO.pickF rfl rfl ?_
                    refine WO.nil ?_
                    exact ⟨rfl, rfl, (Cov.any rfl (orF q122) (Cov.skip rfl (Cov.skip rfl (Cov.skip rfl (Cov.skip rfl (Cov.refl _))))))⟩
                  refine WO.nil ?_
                  refine thenL_n ?_
                  refine WC.cond rfl (fun q123 => ?_) (fun q123 => ?_)
                  · have h := iteT q123 h
                    refine WC.seq ?_
                    refine WC.region ?_
                    refine WO.asg rfl ?_
                    refine WO.nil ?_
                    refine thenL_n ?_
                    refine WC.ret ?_
                    refine thenL_r ?_
                    refine thenL_r ?_
                    refine blockL_r ?_
                    refine thenL_r ?_
                    refine thenL_r ?_
                    obtain rfl := someI h
                    exact ⟨_, rfl, rfl, ⟨S119, rfl, rfl, (Cov.cons rfl (Cov.nil _))⟩⟩
                  · have h := iteF q123 h
                    refine WC.skip ?_
                    refine thenL_n ?_
                    refine WC.exit ?_
                    refine thenL_e ?_
                    refine blockL_s ?_
                    refine thenL_n ?_
                    refine WC.region ?_
                    refine WO.bin rfl rfl (by decide) (by decide) rfl ?_
                    refine WO.mv rfl ?_
                    refine WO.nil ?_
                    refine thenL_n ?_
                    obtain rfl := someI h
                    exact ⟨_, rfl, ⟨S119, v64, rfl, rfl, (Cov.cons rfl (Cov.cons rfl (Cov.cons rfl (Cov.cons rfl (Cov.cons rfl (Cov.cons rfl (Cov.nil _))))))), ho11, ho27, hot1, ho65⟩⟩
                · have h := iteF q121 h
                  refine WC.skip ?_
                  refine thenL_n ?_
                  refine WC.seq ?_
                  refine WC.region ?_
                  refine WO.mv rfl ?_
                  refine WO.asg rfl ?_
                  refine WO.asg rfl ?_
                  refine WO.nil ?_
                  refine thenL_n ?_
                  refine WC.seq ?_
                  refine WC.block ?_
                  obtain ⟨b137, e138, h⟩ := bindS h
                  refine WC.loopD e138 (fun s124 l' m' n' => ∃ S125 : Cx n, S125.m = m' ∧ S125.n = n' ∧ Cov l' [(0, .sc (.int .i64 t0)), (5, .sc ((.ptr b8 0))), (7, .sc v24), (15, .sc (.int .i64 r87.1)), (16, .sc (.int .i64 r87.2)), (20, .sc (.int .i64 s124.1)), (21, .sc (.int .i64 s124.2)), (47, .sc vt1), (48, .sc (.int .i64 ((t1.length : Int)))), (49, .sc (.int .i64 s28.1))] ∧ Bw S125 3 (.ptr b8 0) [v64] ∧ Ow Y3 S125 2 v64 r62.2 ∧ Ow Y3 S125 4 v24 b78 ∧ Rd Y40 S125 vt1 t1) (fun b e l' m' n' => e = .exit 5 ∧ ∃ S126 : Cx n, S126.m = m' ∧ S126.n = n' ∧ Cov l' [(0, .sc (.int .i64 t0)), (5, .sc ((.ptr b8 0))), (7, .sc v24), (15, .sc (.int .i64 r87.1)), (16, .sc (.int .i64 r87.2)), (20, .sc (.int .i64 b)), (47, .sc vt1), (48, .sc (.int .i64 ((t1.length : Int)))), (49, .sc (.int .i64 s28.1))] ∧ Bw S126 3 (.ptr b8 0) [v64] ∧ Ow Y3 S126 2 v64 r62.2 ∧ Ow Y3 S126 4 v24 b78 ∧ Rd Y40 S126 vt1 t1) (by exact ⟨S119, rfl, rfl, (Cov.cons rfl (Cov.cons rfl (Cov.cons rfl (Cov.cons rfl (Cov.cons rfl (Cov.cons rfl (Cov.cons rfl (Cov.cons rfl (Cov.cons rfl (Cov.cons rfl (Cov.nil _))))))))))), ho11, ho65, ho27, hot1⟩) ?_ ?_
                  · clear h
                    rintro s124 q _ _ _ ⟨S127, rfl, rfl, hc128, ho11, ho65, ho27, hot1⟩ h
                    unfold F5_l1 at h
                    refine WC.cov hc128 ?_
                    refine WC.seq ?_
                    refine WC.seq ?_
                    refine WC.region ?_
                    refine WO.mv rfl ?_
                    refine WO.mv rfl ?_
                    refine WO.bin rfl rfl (by decide) (by decide) rfl ?_
                    refine WO.mv rfl ?_
                    obtain ⟨y132, e133, h⟩ := bindS h
                    refine WO.cutB (d := 167) 7 y132 (fun q131 => ?_) (fun q131 => ?_) ?_
                    · have h := e133
                      have h := iteT q131 h
                      refine WO.gyes rfl rfl ?_
                      refine WO.mv rfl ?_
                      refine WO.gyes rfl rfl ?_
                      refine WO.mv rfl ?_
                      refine WO.gyes rfl rfl ?_
                      refine WO.mv rfl ?_
                      refine WO.gyes rfl rfl ?_
                      obtain ⟨x129, e130, h⟩ := bindS h
                      refine WO.ixS rfl rfl ho27.slv (at?_lt e130) rfl ?_
                      refine WO.gyes rfl rfl ?_
                      refine WO.ldF rfl ho27.ro (fun _ hi => hi) (at?_get e130) rfl rfl rfl ?_
                      refine WO.gyes rfl rfl ?_
                      refine WO.bin rfl rfl (by decide) (by decide) rfl ?_
                      obtain rfl := someI h
                      refine WO.pickT rfl rfl ?_
                      refine WO.nil ?_
                      exact ⟨rfl, rfl, (Cov.cons rfl (Cov.skip rfl (Cov.skip rfl (Cov.skip rfl (Cov.skip rfl (Cov.skip rfl (Cov.skip rfl (Cov.skip rfl (Cov.skip rfl (Cov.refl _))))))))))⟩
                    · have h := e133
                      have h := iteF q131 h
                      obtain rfl := someI h
                      refine WO.gno rfl rfl ?_
                      refine WO.gno rfl rfl ?_
                      refine WO.gno rfl rfl ?_
                      refine WO.gno rfl rfl ?_
                      refine WO.gno rfl rfl ?_
                      refine WO.gno rfl rfl ?_
                      refine WO.pickF rfl rfl ?_
                      refine WO.nil ?_
                      exact ⟨rfl, rfl, (Cov.cons rfl (Cov.skip rfl (Cov.skip rfl (Cov.skip rfl (Cov.skip rfl (Cov.skip rfl (Cov.skip rfl (Cov.skip rfl (Cov.skip rfl (Cov.refl _))))))))))⟩
                    refine WO.nil ?_
                    refine thenL_n ?_
                    refine WC.cond rfl (fun q134 => ?_) (fun q134 => ?_)
                    · have h := iteT q134 h
                      refine WC.skip ?_
                      refine thenL_n ?_
                      refine WC.block ?_
                      refine WC.seq ?_
                      refine WC.region ?_
                      refine WO.mv rfl ?_
                      refine WO.mv rfl ?_
                      refine WO.mv rfl ?_
                      obtain ⟨x135, e136, h⟩ := bindS h
                      refine WO.ixS rfl rfl ho27.slv (at?_lt e136) rfl ?_
                      refine WO.ldF rfl ho27.ro (fun _ hi => hi) (at?_get e136) rfl rfl rfl ?_
                      refine WO.bin rfl rfl (by decide) (by decide) rfl ?_
                      refine WO.asg rfl ?_
                      refine WO.nil ?_
                      refine thenL_n ?_
                      refine WC.region ?_
                      refine WO.mv rfl ?_
                      refine WO.bin rfl rfl (by decide) (by decide) rfl ?_
                      refine WO.asg rfl ?_
                      refine WO.nil ?_
                      refine blockL_n ?_
                      refine thenL_n ?_
                      obtain rfl := someI h
                      exact ⟨_, rfl, ⟨S127, rfl, rfl, (Cov.cons rfl (Cov.cons rfl (Cov.cons rfl (Cov.cons rfl (Cov.cons rfl (Cov.cons rfl (Cov.cons rfl (Cov.cons rfl (Cov.cons rfl (Cov.cons rfl (Cov.nil _))))))))))), ho11, ho65, ho27, hot1⟩⟩
                    · have h := iteF q134 h
                      refine WC.exit ?_
                      refine thenL_e ?_
                      refine thenL_e ?_
                      obtain rfl := someI h
                      exact ⟨_, rfl, rfl, ⟨S127, rfl, rfl, (Cov.cons rfl (Cov.cons rfl (Cov.cons rfl (Cov.cons rfl (Cov.cons rfl (Cov.cons rfl (Cov.cons rfl (Cov.cons rfl (Cov.cons rfl (Cov.nil _)))))))))), ho11, ho65, ho27, hot1⟩⟩
                  rintro _ _ _ _ ⟨rfl, ⟨S139, rfl, rfl, hc140, ho11, ho65, ho27, hot1⟩⟩
                  refine blockL_s ?_
                  refine thenL_n ?_
                  refine WC.cov hc140 ?_
                  refine WC.seq ?_
                  refine WC.region ?_
                  refine WO.mv rfl ?_
                  refine WO.mv rfl ?_
                  refine WO.bin rfl rfl (by decide) (by decide) rfl ?_
                  refine WO.mv rfl ?_
                  refine WO.cutB (d := 186) 7 ((b137 == t0) && ((r87.2 != 4) || (r87.1 != 0))) (fun q142 => ?_) (fun q142 => ?_) ?_
                  · skip
                    refine WO.gyes rfl rfl ?_
                    refine WO.mv rfl ?_
                    refine WO.gyes rfl rfl ?_
                    refine WO.bin rfl rfl (by decide) (by decide) rfl ?_
                    refine WO.gyes rfl rfl ?_
                    refine WO.mv rfl ?_
                    refine WO.cutB (d := 185) 3 ((r87.2 != 4) || (r87.1 != 0)) (fun q141 => ?_) (fun q141 => ?_) ?_
                    · refine WO.gno rfl rfl ?_
                      refine WO.gno rfl rfl ?_
                      refine WO.gyes rfl rfl ?_
                      refine WO.pickT rfl rfl ?_
                      refine WO.nil ?_
                      exact ⟨rfl, rfl, (Cov.any rfl (orT q141) (Cov.skip rfl (Cov.skip rfl (Cov.skip rfl (Cov.skip rfl (Cov.refl _))))))⟩
                    · skip
                      refine WO.gyes rfl rfl ?_
                      refine WO.mv rfl ?_
                      refine WO.gyes rfl rfl ?_
                      refine WO.bin rfl rfl (by decide) (by decide) rfl ?_
                      refine WO.gyes rfl rfl ?_
                      refine WO.pickF rfl rfl ?_
                      refine WO.nil ?_
                      exact ⟨rfl, rfl, (Cov.any rfl (orF q141) (Cov.skip rfl (Cov.skip rfl (Cov.skip rfl (Cov.skip rfl (Cov.refl _))))))⟩
                    refine WO.pickT rfl rfl ?_
                    refine WO.nil ?_
                    exact ⟨rfl, rfl, (Cov.any rfl (andT q142) (Cov.skip rfl (Cov.skip rfl (Cov.skip rfl (Cov.skip rfl (Cov.skip rfl (Cov.refl _)))))))⟩
                  · refine WO.gno rfl rfl ?_
                    refine WO.gno rfl rfl ?_
                    refine WO.gno rfl rfl ?_
                    refine WO.gskip rfl rfl ?_
                    refine WO.gskip rfl rfl ?_
                    refine WO.gno rfl rfl ?_
                    refine WO.pickF rfl rfl ?_
                    refine WO.nil ?_
                    exact ⟨rfl, rfl, (Cov.any rfl (andF q142) (Cov.skip rfl (Cov.skip rfl (Cov.skip rfl (Cov.skip rfl (Cov.skip rfl (Cov.skip rfl (Cov.skip rfl (Cov.skip rfl (Cov.refl _))))))))))⟩
                  refine WO.mv rfl ?_
                  refine WO.cutB (d := 200) 13 (((b137 == t0) && ((r87.2 != 4) || (r87.1 != 0))) || ((decide (b137 < t0)) && ((r87.2 != 0) || (r87.1 != b137)))) (fun q145 => ?_) (fun q145 => ?_) ?_
                  · refine WO.gno rfl rfl ?_
                    refine WO.gno rfl rfl ?_
                    refine WO.gno rfl rfl ?_
                    refine WO.gno rfl rfl ?_
                    refine WO.gskip rfl rfl ?_
                    refine WO.gskip rfl rfl ?_
                    refine WO.gskip rfl rfl ?_
                    refine WO.gskip rfl rfl ?_
                    refine WO.gskip rfl rfl ?_
                    refine WO.gskip rfl rfl ?_
                    refine WO.gskip rfl rfl ?_
                    refine WO.gno rfl rfl ?_
                    refine WO.pickT rfl rfl ?_
                    refine WO.nil ?_
                    exact ⟨rfl, rfl, (Cov.any rfl (orT q145) (Cov.skip rfl (Cov.skip rfl (Cov.skip rfl (Cov.skip rfl (Cov.skip rfl (Cov.skip rfl (Cov.skip rfl (Cov.skip rfl (Cov.skip rfl (Cov.skip rfl (Cov.skip rfl (Cov.skip rfl (Cov.skip rfl (Cov.skip rfl (Cov.refl _))))))))))))))))⟩
                  · skip
                    refine WO.gyes rfl rfl ?_
                    refine WO.mv rfl ?_
                    refine WO.gyes rfl rfl ?_
                    refine WO.mv rfl ?_
                    refine WO.gyes rfl rfl ?_
                    refine WO.bin rfl rfl (by decide) (by decide) rfl ?_
                    refine WO.gyes rfl rfl ?_
                    refine WO.mv rfl ?_
                    refine WO.cutB (d := 199) 8 ((decide (b137 < t0)) && ((r87.2 != 0) || (r87.1 != b137))) (fun q144 => ?_) (fun q144 => ?_) ?_
                    · skip
                      refine WO.gyes rfl rfl ?_
                      refine WO.mv rfl ?_
                      refine WO.gyes rfl rfl ?_
                      refine WO.bin rfl rfl (by decide) (by decide) rfl ?_
                      refine WO.gyes rfl rfl ?_
                      refine WO.mv rfl ?_
                      refine WO.cutB (d := 198) 4 ((r87.2 != 0) || (r87.1 != b137)) (fun q143 => ?_) (fun q143 => ?_) ?_
                      · refine WO.gno rfl rfl ?_
                        refine WO.gno rfl rfl ?_
                        refine WO.gno rfl rfl ?_
                        refine WO.gyes rfl rfl ?_
                        refine WO.pickT rfl rfl ?_
                        refine WO.nil ?_
                        exact ⟨rfl, rfl, (Cov.any rfl (orT q143) (Cov.skip rfl (Cov.skip rfl (Cov.skip rfl (Cov.skip rfl (Cov.skip rfl (Cov.refl _)))))))⟩
                      · skip
                        refine WO.gyes rfl rfl ?_
                        refine WO.mv rfl ?_
                        refine WO.gyes rfl rfl ?_
                        refine WO.mv rfl ?_
                        refine WO.gyes rfl rfl ?_
                        refine WO.bin rfl rfl (by decide) (by decide) rfl ?_
                        refine WO.gyes rfl rfl ?_
                        refine WO.pickF rfl rfl ?_
                        refine WO.nil ?_
                        exact ⟨rfl, rfl, (Cov.any rfl (orF q143) (Cov.skip rfl (Cov.skip rfl (Cov.skip rfl (Cov.skip rfl (Cov.skip rfl (Cov.refl _)))))))⟩
                      refine WO.gyes rfl rfl ?_
                      refine WO.pickT rfl rfl ?_
                      refine WO.nil ?_
                      exact ⟨rfl, rfl, (Cov.any rfl (andT q144) (Cov.skip rfl (Cov.skip rfl (Cov.skip rfl (Cov.skip rfl (Cov.skip rfl (Cov.refl _)))))))⟩
                    · refine WO.gno rfl rfl ?_
                      refine WO.gno rfl rfl ?_
                      refine WO.gno rfl rfl ?_
                      refine WO.gskip rfl rfl ?_
                      refine WO.gskip rfl rfl ?_
                      refine WO.gskip rfl rfl ?_
                      refine WO.gno rfl rfl ?_
                      refine WO.gyes rfl rfl ?_
                      refine WO.pickF rfl rfl ?_
                      refine WO.nil ?_
                      exact ⟨rfl, rfl, (Cov.any rfl (andF q144) (Cov.skip rfl (Cov.skip rfl (Cov.skip rfl (Cov.skip rfl (Cov.skip rfl (Cov.skip rfl (Cov.skip rfl (Cov.skip rfl (Cov.skip rfl (Cov.refl _)))))))))))⟩
                    refine WO.pickF rfl rfl ?_
                    refine WO.nil ?_
                    exact ⟨rfl, rfl, (Cov.any rfl (orF q145) (Cov.skip rfl (Cov.skip rfl (Cov.skip rfl (Cov.skip rfl (Cov.skip rfl (Cov.skip rfl (Cov.refl _))))))))⟩
                  refine WO.nil ?_
                  refine thenL_n ?_
                  refine WC.cond rfl (fun q146 => ?_) (fun q146 => ?_)
                  · have h := iteT q146 h
                    refine WC.seq ?_
                    refine WC.region ?_
                    refine WO.asg rfl ?_
                    refine WO.nil ?_
                    refine thenL_n ?_
                    refine WC.ret ?_
                    refine blockL_r ?_
                    refine thenL_r ?_
                    refine thenL_r ?_
                    obtain rfl := someI h
                    exact ⟨_, rfl, rfl, ⟨S139, rfl, rfl, (Cov.cons rfl (Cov.nil _))⟩⟩
                  · have h := iteF q146 h
                    refine WC.skip ?_
                    refine blockL_n ?_
                    refine thenL_n ?_
                    refine WC.region ?_
                    refine WO.bin rfl rfl (by decide) (by decide) rfl ?_
                    refine WO.mv rfl ?_
                    refine WO.nil ?_
                    refine thenL_n ?_
                    obtain rfl := someI h
                    exact ⟨_, rfl, ⟨S139, v64, rfl, rfl, (Cov.cons rfl (Cov.cons rfl (Cov.cons rfl (Cov.cons rfl (Cov.cons rfl (Cov.cons rfl (Cov.nil _))))))), ho11, ho27, hot1, ho65⟩⟩
              | inr b118 =>
                simp only at h
                rintro _ _ _ _ ⟨rfl, ⟨S147, rfl, rfl, hc148⟩⟩
                refine thenL_r ?_
                refine blockL_r ?_
                refine thenL_r ?_
                refine thenL_r ?_
                obtain rfl := someI h
                exact ⟨_, rfl, rfl, ⟨S147, rfl, rfl, (Cov.trans hc148 (Cov.cons rfl (Cov.nil _)))⟩⟩
          · have h := iteF q38 h
            refine WC.exit ?_
            refine thenL_e ?_
            refine thenL_e ?_
            obtain rfl := someI h
            exact ⟨_, rfl, rfl, ⟨S35, rfl, rfl, (Cov.nil _)⟩⟩
        cases b149 with
        | inl b151 =>
          simp only at h
          rintro _ _ _ _ ⟨rfl, ⟨S152, rfl, rfl, hc153⟩⟩
          refine blockL_s ?_
          refine thenL_n ?_
          refine WC.cov hc153 ?_
          refine WC.seq ?_
          refine WC.region ?_
          refine WO.asg rfl ?_
          refine WO.nil ?_
          refine thenL_n ?_
          refine WC.ret ?_
          obtain rfl := someI h
          exact ⟨.inr rfl, _, _, rfl, rfl, rfl⟩
        | inr b151 =>
          simp only at h
          rintro _ _ _ _ ⟨rfl, ⟨S154, rfl, rfl, hc155⟩⟩
          refine blockL_r ?_
          refine thenL_r ?_
          obtain rfl := someI h
          exact ⟨.inr rfl, _, _, (resK_cov hc155 rfl), rfl, rfl⟩
end Go.Proofs.Ytkfmedmanhcdeaa

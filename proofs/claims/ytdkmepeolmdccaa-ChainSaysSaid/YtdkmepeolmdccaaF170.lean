/- The machine answers F170: printed by a program of ours (gen.py). -/
import Derived.Test.YtdkmepeolmdccaaDef
import Derived.Test.YtdkmepeolmdccaaEnv
set_option linter.unusedVariables false
namespace Go.Proofs.Ytdkmepeolmdccaa
open Go.Am
theorem F170.fn : E.fn 170 = some ⟨74, (Try.f170.body.getD .skip), Try.f170.results.toList, []⟩ := rfl
theorem F170_ok {F : Nat} : ∀ {fl : Nat} {S0 : Cx fl} {r : ((List Int)) × Int} {t0 : Int} {t1 : Int} {c0 : Int} {c1 : Int} {c2 : (List Int)} {c3 : Int} {c5 : List (List Int)} {bc0 : Nat} {bc1 : Nat} {bc2 : Nat} {vc2_0 : SV} {bc3 : Nat} {bc4 : Nat} {bc5 : Nat} (h : F170 F t0 t1 c0 c1 c2 c3 c5 = some r) (hoc0 : Rp Y3 S0 (.ptr bc0 0) c0) (hoc1 : Rp Y3 S0 (.ptr bc1 0) c1) (hoc2 : Bw S0 2 (.ptr bc2 0) [vc2_0]) (hoc2_0 : Ow Y3 S0 3 vc2_0 c2) (hoc3 : Bk Y3 S0 4 (.ptr bc3 0) c3) (hoc4 : Rw S0 (.ptr bc4 0) [.fn 170 [(bc0, 0), (bc1, 0), (bc2, 0), (bc3, 0), (bc4, 0), (bc5, 0)]]) (hoc5 : Rp Y92 S0 (.ptr bc5 0) c5), Ret E fl 170 [.sc (.int .i64 t0), .sc (.int .i64 t1), .sc (.ptr bc0 0), .sc (.ptr bc1 0), .sc (.ptr bc2 0), .sc (.ptr bc3 0), .sc (.ptr bc4 0), .sc (.ptr bc5 0)] S0.m S0.n (fun v m' n' => ∃ S' : Cx fl, S'.m = m' ∧ S'.n = n' ∧ ChM S0 S' ∧ (∃ w81 : SV, v = .tup [] ∧ Bw S' 2 (.ptr bc2 0) [w81] ∧ Ow Y3 S' 3 w81 r.1 ∧ Bk Y3 S' 4 (.ptr bc3 0) r.2)) := by
  induction F with
  | zero => intro fl S0 r t0 t1 c0 c1 c2 c3 c5 bc0 bc1 bc2 vc2_0 bc3 bc4 bc5 h; cases h
  | succ F ih =>
    intro fl S0 r t0 t1 c0 c1 c2 c3 c5 bc0 bc1 bc2 vc2_0 bc3 bc4 bc5 h hoc0 hoc1 hoc2 hoc2_0 hoc3 hoc4 hoc5
    rw [F170] at h
    try dsimp only at h
    refine Ret.walk F170.fn ?_
    have hM := ChM.refl S0
    refine WC.seq ?_
    refine WC.seq ?_
    refine WC.region ?_
    refine WO.mv rfl ?_
    refine WO.bin rfl rfl (by decide) (by decide) rfl ?_
    refine WO.nil ?_
    refine thenL_n ?_
    refine WC.cond rfl (fun q1 => ?_) (fun q1 => ?_)
    · have h := iteT q1 h
      refine WC.ret ?_
      refine thenL_r ?_
      obtain rfl := someI h
      exact ⟨.inr rfl, _, _, rfl, rfl, ⟨S0, rfl, rfl, hM, vc2_0, rfl, hoc2, hoc2_0, hoc3⟩⟩
    · have h := iteF q1 h
      refine WC.skip ?_
      refine thenL_n ?_
      refine WC.seq ?_
      refine WC.seq ?_
      refine WC.region ?_
      refine WO.mv rfl ?_
      refine WO.ldP rfl hoc0 rfl rfl rfl ?_
      refine WO.bin rfl rfl (by decide) (by decide) rfl ?_
      refine WO.nil ?_
      refine thenL_n ?_
      refine WC.cond rfl (fun q2 => ?_) (fun q2 => ?_)
      · have h := iteT q2 h
        refine WC.seq ?_
        refine WC.seq ?_
        refine WC.region ?_
        refine WO.ldP rfl hoc0 rfl rfl rfl ?_
        refine WO.mv rfl ?_
        refine WO.nil ?_
        refine thenL_n ?_
        refine WC.block ?_
        obtain ⟨b25, e26, h⟩ := bindS h
        refine WC.loopD e26 (fun s3 l' m' n' => ∃ S4 : Cx fl, S4.m = m' ∧ S4.n = n' ∧ Cov l' [(1, .sc (.int .i64 t1)), (2, .sc ((.ptr bc0 0))), (3, .sc ((.ptr bc1 0))), (4, .sc ((.ptr bc2 0))), (5, .sc ((.ptr bc3 0))), (18, .sc (.int .i64 c0)), (19, .sc (.int .i64 s3))] ∧ ChM S0 S4 ∧ Rp Y3 S4 (.ptr bc0 0) c0 ∧ Rp Y3 S4 (.ptr bc1 0) c1 ∧ Bw S4 2 (.ptr bc2 0) [vc2_0] ∧ Ow Y3 S4 3 vc2_0 c2 ∧ Bk Y3 S4 4 (.ptr bc3 0) c3) (fun b e l' m' n' => (match b with | .inl b5 => e = .exit 0 ∧ ∃ S6 : Cx fl, S6.m = m' ∧ S6.n = n' ∧ Cov l' [(1, .sc (.int .i64 t1)), (4, .sc ((.ptr bc2 0))), (5, .sc ((.ptr bc3 0)))] ∧ ChM S0 S6 ∧ Bw S6 2 (.ptr bc2 0) [vc2_0] ∧ Ow Y3 S6 3 vc2_0 c2 ∧ Bk Y3 S6 4 (.ptr bc3 0) c3 | .inr b5 => e = .ret ∧ ∃ S7 : Cx fl, S7.m = m' ∧ S7.n = n' ∧ Cov l' [(4, .sc ((.ptr bc2 0))), (5, .sc ((.ptr bc3 0)))] ∧ ChM S0 S7 ∧ Bw S7 2 (.ptr bc2 0) [vc2_0] ∧ Ow Y3 S7 3 vc2_0 c2 ∧ Bk Y3 S7 4 (.ptr bc3 0) c3)) (by exact ⟨S0, rfl, rfl, (Cov.cons rfl (Cov.cons rfl (Cov.cons rfl (Cov.cons rfl (Cov.cons rfl (Cov.cons rfl (Cov.cons rfl (Cov.nil _)))))))), hM, hoc0, hoc1, hoc2, hoc2_0, hoc3⟩) ?_ ?_
        · clear h
          rintro s3 q _ _ _ ⟨S8, rfl, rfl, hc9, hM, hoc0, hoc1, hoc2, hoc2_0, hoc3⟩ h
          unfold F170_l1 at h
          refine WC.cov hc9 ?_
          refine WC.seq ?_
          refine WC.region ?_
          refine WO.bin rfl rfl (by decide) (by decide) rfl ?_
          refine WO.nil ?_
          refine thenL_n ?_
          refine WC.seq ?_
          refine WC.cond rfl (fun q10 => ?_) (fun q10 => ?_)
          · have h := iteT q10 h
            refine WC.skip ?_
            refine thenL_n ?_
            refine WC.seq ?_
            refine WC.block ?_
            refine WC.seq ?_
            refine WC.region ?_
            refine WO.mv rfl ?_
            refine WO.asg rfl ?_
            refine WO.nil ?_
            refine thenL_n ?_
            refine WC.seq ?_
            refine WC.region ?_
            refine WO.mv rfl ?_
            refine WO.asg rfl ?_
            refine WO.nil ?_
            refine thenL_n ?_
            refine WC.seq ?_
            refine WC.seq ?_
            refine WC.region ?_
            refine WO.ldP rfl hoc0 rfl rfl rfl ?_
            refine WO.mv rfl ?_
            refine WO.nil ?_
            refine thenL_n ?_
            refine WC.block ?_
            obtain ⟨b20, e21, h⟩ := bindS h
            refine WC.loopD e21 (fun s11 l' m' n' => ∃ S12 : Cx fl, S12.m = m' ∧ S12.n = n' ∧ Cov l' [(1, .sc (.int .i64 t1)), (2, .sc ((.ptr bc0 0))), (3, .sc ((.ptr bc1 0))), (4, .sc ((.ptr bc2 0))), (5, .sc ((.ptr bc3 0))), (11, .sc (.int .i64 s11.1)), (18, .sc (.int .i64 c0)), (19, .sc (.int .i64 s3)), (23, .sc (.int .i64 c0)), (24, .sc (.int .i64 s11.2))] ∧ ChM S0 S12 ∧ Rp Y3 S12 (.ptr bc0 0) c0 ∧ Rp Y3 S12 (.ptr bc1 0) c1 ∧ Bw S12 2 (.ptr bc2 0) [vc2_0] ∧ Ow Y3 S12 3 vc2_0 c2 ∧ Bk Y3 S12 4 (.ptr bc3 0) c3) (fun b e l' m' n' => e = .exit 2 ∧ ∃ S13 : Cx fl, S13.m = m' ∧ S13.n = n' ∧ Cov l' [(1, .sc (.int .i64 t1)), (2, .sc ((.ptr bc0 0))), (3, .sc ((.ptr bc1 0))), (4, .sc ((.ptr bc2 0))), (5, .sc ((.ptr bc3 0))), (11, .sc (.int .i64 b)), (18, .sc (.int .i64 c0)), (19, .sc (.int .i64 s3))] ∧ ChM S0 S13 ∧ Rp Y3 S13 (.ptr bc0 0) c0 ∧ Rp Y3 S13 (.ptr bc1 0) c1 ∧ Bw S13 2 (.ptr bc2 0) [vc2_0] ∧ Ow Y3 S13 3 vc2_0 c2 ∧ Bk Y3 S13 4 (.ptr bc3 0) c3) (by exact ⟨S8, rfl, rfl, (Cov.cons rfl (Cov.cons rfl (Cov.cons rfl (Cov.cons rfl (Cov.cons rfl (Cov.cons rfl (Cov.cons rfl (Cov.cons rfl (Cov.cons rfl (Cov.cons rfl (Cov.nil _))))))))))), hM, hoc0, hoc1, hoc2, hoc2_0, hoc3⟩) ?_ ?_
            · clear h
              rintro s11 q _ _ _ ⟨S14, rfl, rfl, hc15, hM, hoc0, hoc1, hoc2, hoc2_0, hoc3⟩ h
              unfold F170_l0 at h
              refine WC.cov hc15 ?_
              refine WC.seq ?_
              refine WC.region ?_
              refine WO.bin rfl rfl (by decide) (by decide) rfl ?_
              refine WO.nil ?_
              refine thenL_n ?_
              refine WC.seq ?_
              refine WC.cond rfl (fun q16 => ?_) (fun q16 => ?_)
              · have h := iteT q16 h
                refine WC.skip ?_
                refine thenL_n ?_
                refine WC.seq ?_
                refine WC.block ?_
                refine WC.seq ?_
                refine WC.region ?_
                refine WO.mv rfl ?_
                refine WO.ldP rfl hoc1 rfl rfl rfl ?_
                refine WO.bin rfl rfl (by decide) (by decide) rfl ?_
                refine WO.nil ?_
                refine thenL_n ?_
                refine WC.cond rfl (fun q17 => ?_) (fun q17 => ?_)
                · have h := iteT q17 h
                  refine WC.region ?_
                  refine WO.ldW rfl hoc2.at0 hoc2 rfl rfl hoc2.lt rfl ?_
                  refine WO.mv rfl ?_
                  obtain ⟨x18, e19, h⟩ := bindS h
                  refine WO.ixS rfl rfl hoc2_0.slv (at?_lt e19) rfl ?_
                  refine WO.ldF rfl hoc2_0.ro (fun _ hi => hi) (at?_get e19) rfl rfl rfl ?_
                  refine WO.asg rfl ?_
                  refine WO.nil ?_
                  refine blockL_n ?_
                  refine thenL_n ?_
                  refine WC.region ?_
                  refine WO.bin rfl rfl (by decide) (by decide) rfl ?_
                  refine WO.mv rfl ?_
                  refine WO.nil ?_
                  refine thenL_n ?_
                  obtain rfl := someI h
                  exact ⟨_, rfl, ⟨S14, rfl, rfl, (Cov.cons rfl (Cov.cons rfl (Cov.cons rfl (Cov.cons rfl (Cov.cons rfl (Cov.cons rfl (Cov.cons rfl (Cov.cons rfl (Cov.cons rfl (Cov.cons rfl (Cov.nil _))))))))))), hM, hoc0, hoc1, hoc2, hoc2_0, hoc3⟩⟩
                · have h := iteF q17 h
                  refine WC.skip ?_
                  refine blockL_n ?_
                  refine thenL_n ?_
                  refine WC.region ?_
                  refine WO.bin rfl rfl (by decide) (by decide) rfl ?_
                  refine WO.mv rfl ?_
                  refine WO.nil ?_
                  refine thenL_n ?_
                  obtain rfl := someI h
                  exact ⟨_, rfl, ⟨S14, rfl, rfl, (Cov.cons rfl (Cov.cons rfl (Cov.cons rfl (Cov.cons rfl (Cov.cons rfl (Cov.cons rfl (Cov.cons rfl (Cov.cons rfl (Cov.cons rfl (Cov.cons rfl (Cov.nil _))))))))))), hM, hoc0, hoc1, hoc2, hoc2_0, hoc3⟩⟩
              · have h := iteF q16 h
                refine WC.exit ?_
                refine thenL_e ?_
                refine thenL_e ?_
                obtain rfl := someI h
                exact ⟨_, rfl, rfl, ⟨S14, rfl, rfl, (Cov.cons rfl (Cov.cons rfl (Cov.cons rfl (Cov.cons rfl (Cov.cons rfl (Cov.cons rfl (Cov.cons rfl (Cov.cons rfl (Cov.nil _))))))))), hM, hoc0, hoc1, hoc2, hoc2_0, hoc3⟩⟩
            rintro _ _ _ _ ⟨rfl, ⟨S22, rfl, rfl, hc23, hM, hoc0, hoc1, hoc2, hoc2_0, hoc3⟩⟩
            refine blockL_s ?_
            refine thenL_n ?_
            refine WC.cov hc23 ?_
            refine WC.seq ?_
            refine WC.region ?_
            refine WO.mv rfl ?_
            refine WO.ldP rfl hoc1 rfl rfl rfl ?_
            refine WO.bin rfl rfl (by decide) (by decide) rfl ?_
            refine WO.nil ?_
            refine thenL_n ?_
            refine WC.cond rfl (fun q24 => ?_) (fun q24 => ?_)
            · have h := iteT q24 h
              refine WC.ret ?_
              refine blockL_r ?_
              refine thenL_r ?_
              refine thenL_r ?_
              obtain rfl := someI h
              exact ⟨_, rfl, rfl, ⟨S22, rfl, rfl, (Cov.cons rfl (Cov.cons rfl (Cov.nil _))), hM, hoc2, hoc2_0, hoc3⟩⟩
            · have h := iteF q24 h
              refine WC.skip ?_
              refine blockL_n ?_
              refine thenL_n ?_
              refine WC.region ?_
              refine WO.bin rfl rfl (by decide) (by decide) rfl ?_
              refine WO.mv rfl ?_
              refine WO.nil ?_
              refine thenL_n ?_
              obtain rfl := someI h
              exact ⟨_, rfl, ⟨S22, rfl, rfl, (Cov.cons rfl (Cov.cons rfl (Cov.cons rfl (Cov.cons rfl (Cov.cons rfl (Cov.cons rfl (Cov.cons rfl (Cov.nil _)))))))), hM, hoc0, hoc1, hoc2, hoc2_0, hoc3⟩⟩
          · have h := iteF q10 h
            refine WC.exit ?_
            refine thenL_e ?_
            refine thenL_e ?_
            obtain rfl := someI h
            exact ⟨_, rfl, rfl, ⟨S8, rfl, rfl, (Cov.cons rfl (Cov.cons rfl (Cov.cons rfl (Cov.nil _)))), hM, hoc2, hoc2_0, hoc3⟩⟩
        cases b25 with
        | inl b27 =>
          simp only at h
          rintro _ _ _ _ ⟨rfl, ⟨S28, rfl, rfl, hc29, hM, hoc2, hoc2_0, hoc3⟩⟩
          refine blockL_s ?_
          refine thenL_n ?_
          refine WC.cov hc29 ?_
          refine WC.seq ?_
          refine WC.region ?_
          refine WO.ldB (j := 0) (q := 0) rfl hoc3.at0 hoc3 rfl rfl rfl ?_
          refine WO.mv rfl ?_
          refine WO.bin rfl rfl (by decide) (by decide) rfl ?_
          refine WO.stB (j := 0) (q := 0) (u' := (wrapA .i64 (c3 + t1))) rfl hoc3.at0 rfl hoc3 rfl (by decide) rfl rfl (fun S30 c31 hoc3 => ?_)
          have hM := hM.to c31
          have hoc2 := hoc2.to c31
          have hoc2_0 := hoc2_0.to c31
          refine WO.nil ?_
          refine thenL_n ?_
          refine WC.ret ?_
          refine thenL_r ?_
          obtain rfl := someI h
          exact ⟨.inr rfl, _, _, rfl, rfl, ⟨S30, rfl, rfl, hM, vc2_0, rfl, hoc2, hoc2_0, hoc3⟩⟩
        | inr b27 =>
          simp only at h
          rintro _ _ _ _ ⟨rfl, ⟨S32, rfl, rfl, hc33, hM, hoc2, hoc2_0, hoc3⟩⟩
          refine blockL_r ?_
          refine thenL_r ?_
          refine thenL_r ?_
          obtain rfl := someI h
          exact ⟨.inr rfl, _, _, (resK_cov hc33 rfl), rfl, ⟨S32, rfl, rfl, hM, vc2_0, rfl, hoc2, hoc2_0, hoc3⟩⟩
      · have h := iteF q2 h
        refine WC.skip ?_
        refine thenL_n ?_
        refine WC.seq ?_
        refine WC.seq ?_
        refine WC.region ?_
        refine WO.mv rfl ?_
        refine WO.ldP rfl hoc1 rfl rfl rfl ?_
        refine WO.bin rfl rfl (by decide) (by decide) rfl ?_
        refine WO.nil ?_
        refine thenL_n ?_
        refine WC.cond rfl (fun q34 => ?_) (fun q34 => ?_)
        · have h := iteT q34 h
          refine WC.seq ?_
          refine WC.region ?_
          refine WO.ldRw rfl hoc4.at0 hoc4 rfl rfl hoc4.lt rfl ?_
          refine WO.mv rfl ?_
          refine WO.bin rfl rfl (by decide) (by decide) rfl ?_
          refine WO.mv rfl ?_
          obtain ⟨r35, e36, h⟩ := bindS h
          refine WO.callG (S := S0) [(2, 2), (3, 3), (4, 4)] [(2, 2), (3, 3), (4, 4)] rfl rfl (ih (S0 := S0.mp [(2, 2), (3, 3), (4, 4)]) e36 hoc0.mp hoc1.mp (hoc2.mp rfl) (hoc2_0.mp rfl) (hoc3.mp rfl) hoc4.mp hoc5.mp) (fun _ S39 S40 hb hR => ?_)
          obtain ⟨v37, rfl, hR0, hR1, hR2⟩ := hR
          have c41 := Cx.mg_ch S0 3 2
          have hoc0 := hoc0.to c41
          have hoc1 := hoc1.to c41
          have hoc4 := hoc4.to c41
          have hoc5 := hoc5.to c41
          have hM := hM.to c41
          have c42 := Cx.mg_ch (S0.mg 3 2) 4 2
          have hoc0 := hoc0.to c42
          have hoc1 := hoc1.to c42
          have hoc4 := hoc4.to c42
          have hoc5 := hoc5.to c42
          have hM := hM.to c42
          have c43 : Ch 2 ((S0.mg 3 2).mg 4 2) S40 := hb.ch [3, 4] 2
          have hoc0 := hoc0.to c43
          have hoc1 := hoc1.to c43
          have hoc4 := hoc4.to c43
          have hoc5 := hoc5.to c43
          have hM := hM.to c43
          have hoc2 := hR0.bk hb rfl
          have ho38 := hR1.bkF hb rfl Lay.flat_fl
          have hoc3 := hR2.bkF hb rfl Lay.flat_fl
          refine WO.nil ?_
          refine thenL_n ?_
          refine WC.ret ?_
          refine thenL_r ?_
          obtain rfl := someI h
          exact ⟨.inr rfl, _, _, rfl, rfl, ⟨S40, rfl, rfl, hM, v37, rfl, hoc2, ho38, hoc3⟩⟩
        · have h := iteF q34 h
          refine WC.skip ?_
          refine thenL_n ?_
          refine WC.seq ?_
          refine WC.region ?_
          refine WO.ldP rfl hoc0 rfl rfl rfl ?_
          refine WO.mv rfl ?_
          refine WO.nil ?_
          refine thenL_n ?_
          refine WC.block ?_
          obtain ⟨b76, e77, h⟩ := bindS h
          refine WC.loopD e77 (fun s44 l' m' n' => ∃ S46 : Cx fl, ∃ v47 : SV, S46.m = m' ∧ S46.n = n' ∧ Cov l' [(0, .sc (.int .i64 t0)), (1, .sc (.int .i64 t1)), (4, .sc ((.ptr bc2 0))), (5, .sc ((.ptr bc3 0))), (6, .sc ((.ptr bc4 0))), (7, .sc ((.ptr bc5 0))), (49, .sc (.int .i64 c0)), (50, .sc (.int .i64 s44.1))] ∧ ChM S0 S46 ∧ Bw S46 2 (.ptr bc2 0) [v47] ∧ Bk Y3 S46 4 (.ptr bc3 0) s44.2.2 ∧ Rw S46 (.ptr bc4 0) [.fn 170 [(bc0, 0), (bc1, 0), (bc2, 0), (bc3, 0), (bc4, 0), (bc5, 0)]] ∧ Rp Y3 S46 (.ptr bc0 0) c0 ∧ Rp Y3 S46 (.ptr bc1 0) c1 ∧ Rp Y92 S46 (.ptr bc5 0) c5 ∧ Ow Y3 S46 3 v47 s44.2.1) (fun b e l' m' n' => e = .exit 4 ∧ ∃ S48 : Cx fl, ∃ v49 : SV, S48.m = m' ∧ S48.n = n' ∧ Cov l' [(4, .sc ((.ptr bc2 0))), (5, .sc ((.ptr bc3 0)))] ∧ ChM S0 S48 ∧ Bw S48 2 (.ptr bc2 0) [v49] ∧ Bk Y3 S48 4 (.ptr bc3 0) b.2 ∧ Ow Y3 S48 3 v49 b.1) (by exact ⟨S0, vc2_0, rfl, rfl, (Cov.cons rfl (Cov.cons rfl (Cov.cons rfl (Cov.cons rfl (Cov.cons rfl (Cov.cons rfl (Cov.cons rfl (Cov.cons rfl (Cov.nil _))))))))), hM, hoc2, hoc3, hoc4, hoc0, hoc1, hoc5, hoc2_0⟩) ?_ ?_
          · clear h
            rintro s44 q _ _ _ ⟨S50, v51, rfl, rfl, hc52, hM, hoc2, hoc3, hoc4, hoc0, hoc1, hoc5, hoc2c0⟩ h
            unfold F170_l2 at h
            refine WC.cov hc52 ?_
            refine WC.seq ?_
            refine WC.region ?_
            refine WO.bin rfl rfl (by decide) (by decide) rfl ?_
            refine WO.nil ?_
            refine thenL_n ?_
            refine WC.seq ?_
            refine WC.cond rfl (fun q53 => ?_) (fun q53 => ?_)
            · have h := iteT q53 h
              refine WC.skip ?_
              refine thenL_n ?_
              refine WC.seq ?_
              refine WC.block ?_
              refine WC.seq ?_
              refine WC.region ?_
              refine WO.mv rfl ?_
              refine WO.asg rfl ?_
              refine WO.nil ?_
              refine thenL_n ?_
              refine WC.seq ?_
              refine WC.region ?_
              refine WO.mv rfl ?_
              refine WO.mv rfl ?_
              refine WO.bin rfl rfl (by decide) (by decide) rfl ?_
              refine WO.nil ?_
              refine thenL_n ?_
              refine WC.cond rfl (fun q54 => ?_) (fun q54 => ?_)
              · have h := iteT q54 h
                refine WC.seq ?_
                refine WC.region ?_
                refine WO.ldW rfl hoc2.at0 hoc2 rfl rfl hoc2.lt rfl ?_
                refine WO.mv rfl ?_
                refine WO.mv rfl ?_
                obtain ⟨u55, e56, h⟩ := bindS h
                refine WO.ixS rfl rfl hoc2c0.slv (ck_some e56) rfl ?_
                refine WO.st1 (u' := s44.1) rfl rfl hoc2c0 (ck_nat e56) rfl rfl (fun S57 c58 hoc2c0 => ?_)
                have hM := hM.to c58
                have hoc2 := hoc2.to c58
                have hoc3 := hoc3.to c58
                have hoc4 := hoc4.to c58
                have hoc0 := hoc0.to c58
                have hoc1 := hoc1.to c58
                have hoc5 := hoc5.to c58
                refine WO.nil ?_
                refine thenL_n ?_
                refine WC.drawN rfl ?_
                have hoc2z := hoc2.lt
                have hoc4z := hoc4.lt
                have hoc2c0z := hoc2c0.oz
                refine WO.ldRw rfl hoc4.at0 hoc4 rfl rfl hoc4z (limLe_self _) ?_
                refine WO.mv rfl ?_
                refine WO.bin rfl rfl (by decide) (by decide) rfl ?_
                refine WO.mv rfl ?_
                refine WO.ldPS rfl hoc5 rfl (limLe_self _) (fun v59 ho60 => ?_)
                refine WO.mv rfl ?_
                obtain ⟨L61, e62, h⟩ := bindS h
                refine WO.ixS rfl rfl ho60.slv (at?_lt e62) rfl ?_
                refine WO.ldS rfl ho60.ro (fun _ hi => hi) (at?_get e62) rfl (limLe_self _) (fun v63 ho64 => ?_)
                have ho64 : Rd Y3 S57 v63 L61 := ho64
                refine WO.mv rfl ?_
                obtain ⟨x65, e66, h⟩ := bindS h
                refine WO.ixS rfl rfl ho64.slv (at?_lt e66) rfl ?_
                refine WO.ldF rfl ho64.ro (fun _ hi => hi) (at?_get e66) rfl rfl (limLe_self _) ?_
                refine WO.bin rfl rfl (by decide) (by decide) rfl ?_
                obtain ⟨r67, e68, h⟩ := bindS h
                refine WO.callG (S := S57) [(2, 2), (3, 3), (4, 4)] [(2, 2), (3, 3), (4, 4)] rfl rfl (ih (S0 := S57.mp [(2, 2), (3, 3), (4, 4)]) e68 hoc0.mp hoc1.mp (hoc2.mp rfl) (hoc2c0.mp rfl) (hoc3.mp rfl) hoc4.mp hoc5.mp) (fun _ S71 S72 hb hR => ?_)
                obtain ⟨v69, rfl, hR0, hR1, hR2⟩ := hR
                have c73 := Cx.mg_ch S57 3 2
                have hM := hM.to c73
                have hoc4 := hoc4.to c73
                have hoc0 := hoc0.to c73
                have hoc1 := hoc1.to c73
                have hoc5 := hoc5.to c73
                have ho60 := ho60.to c73
                have ho64 := ho64.to c73
                have c74 := Cx.mg_ch (S57.mg 3 2) 4 2
                have hM := hM.to c74
                have hoc4 := hoc4.to c74
                have hoc0 := hoc0.to c74
                have hoc1 := hoc1.to c74
                have hoc5 := hoc5.to c74
                have ho60 := ho60.to c74
                have ho64 := ho64.to c74
                have c75 : Ch 2 ((S57.mg 3 2).mg 4 2) S72 := hb.ch [3, 4] 2
                have hM := hM.to c75
                have hoc4 := hoc4.to c75
                have hoc0 := hoc0.to c75
                have hoc1 := hoc1.to c75
                have hoc5 := hoc5.to c75
                have ho60 := ho60.to c75
                have ho64 := ho64.to c75
                have hoc2 := hR0.bk hb rfl
                have ho70 := hR1.bkF hb rfl Lay.flat_fl
                have hoc3 := hR2.bkF hb rfl Lay.flat_fl
                refine WO.nil ?_
                refine blockL_n ?_
                refine thenL_n ?_
                refine WC.region ?_
                refine WO.bin rfl rfl (by decide) (by decide) rfl ?_
                refine WO.mv rfl ?_
                refine WO.nil ?_
                refine thenL_n ?_
                obtain rfl := someI h
                exact ⟨_, rfl, ⟨S72, v69, rfl, rfl, (Cov.cons rfl (Cov.cons rfl (Cov.cons rfl (Cov.cons rfl (Cov.cons rfl (Cov.cons rfl (Cov.cons rfl (Cov.cons rfl (Cov.nil _))))))))), hM, hoc2, hoc3, hoc4, hoc0, hoc1, hoc5, ho70⟩⟩
              · have h := iteF q54 h
                refine WC.skip ?_
                refine blockL_n ?_
                refine thenL_n ?_
                refine WC.region ?_
                refine WO.bin rfl rfl (by decide) (by decide) rfl ?_
                refine WO.mv rfl ?_
                refine WO.nil ?_
                refine thenL_n ?_
                obtain rfl := someI h
                exact ⟨_, rfl, ⟨S50, v51, rfl, rfl, (Cov.cons rfl (Cov.cons rfl (Cov.cons rfl (Cov.cons rfl (Cov.cons rfl (Cov.cons rfl (Cov.cons rfl (Cov.cons rfl (Cov.nil _))))))))), hM, hoc2, hoc3, hoc4, hoc0, hoc1, hoc5, hoc2c0⟩⟩
            · have h := iteF q53 h
              refine WC.exit ?_
              refine thenL_e ?_
              refine thenL_e ?_
              obtain rfl := someI h
              exact ⟨_, rfl, rfl, ⟨S50, v51, rfl, rfl, (Cov.cons rfl (Cov.cons rfl (Cov.nil _))), hM, hoc2, hoc3, hoc2c0⟩⟩
          rintro _ _ _ _ ⟨rfl, ⟨S78, v79, rfl, rfl, hc80, hM, hoc2, hoc3, hoc2c0⟩⟩
          refine blockL_s ?_
          obtain rfl := someI h
          exact ⟨.inl rfl, _, _, (resK_cov hc80 rfl), rfl, ⟨S78, rfl, rfl, hM, v79, rfl, hoc2, hoc2c0, hoc3⟩⟩
end Go.Proofs.Ytdkmepeolmdccaa

/- The machine answers F89: printed by a program of ours (gen.py). -/
import Derived.Test.YtkfmedmanhcdeaaDef
import Derived.Test.YtkfmedmanhcdeaaEnv
set_option linter.unusedVariables false
namespace Go.Proofs.Ytkfmedmanhcdeaa
open Go.Am
theorem F89.fn : E.fn 89 = some ⟨68, (Try.f89.body.getD .skip), Try.f89.results.toList, []⟩ := rfl
theorem F89_ok {F : Nat} {m : Mem} {n : Nat} {r : Int × Int} {t0 : Int} {t1 : Int} (h : F89 F t0 t1 = some r)  : Ret E n 89 [.sc (.int .i64 t0), .sc (.int .i64 t1)] m n (fun v m' n' => v = .tup [.sc (.int .i64 r.1), .sc (.int .i64 r.2)]) := by
  unfold F89 at h
  refine Ret.walk F89.fn ?_
  refine WC.start fun S0 em en hz => ?_
  refine WC.seq ?_
  refine WC.region ?_
  refine WO.asg rfl ?_
  refine WO.asg rfl ?_
  refine WO.nil ?_
  refine thenL_n ?_
  refine WC.seq ?_
  refine WC.seq ?_
  refine WC.region ?_
  refine WO.mv rfl ?_
  refine WO.bin rfl rfl (by decide) (by decide) rfl ?_
  refine WO.mv rfl ?_
  refine WO.cutB (d := 15) 3 ((decide (t0 < 0)) || (decide (t0 > 15))) (fun q1 => ?_) (fun q1 => ?_) ?_
  · refine WO.gno rfl rfl ?_
    refine WO.gno rfl rfl ?_
    refine WO.pickT rfl rfl ?_
    refine WO.nil ?_
    exact ⟨rfl, rfl, (Cov.any rfl (orT q1) (Cov.skip rfl (Cov.skip rfl (Cov.skip rfl (Cov.skip rfl (Cov.refl _))))))⟩
  · skip
    refine WO.gyes rfl rfl ?_
    refine WO.mv rfl ?_
    refine WO.gyes rfl rfl ?_
    refine WO.bin rfl rfl (by decide) (by decide) rfl ?_
    refine WO.pickF rfl rfl ?_
    refine WO.nil ?_
    exact ⟨rfl, rfl, (Cov.any rfl (orF q1) (Cov.skip rfl (Cov.skip rfl (Cov.skip rfl (Cov.skip rfl (Cov.refl _))))))⟩
  refine WO.mv rfl ?_
  refine WO.cutB (d := 19) 3 (((decide (t0 < 0)) || (decide (t0 > 15))) || (decide (t1 < 0))) (fun q2 => ?_) (fun q2 => ?_) ?_
  · refine WO.gno rfl rfl ?_
    refine WO.gno rfl rfl ?_
    refine WO.pickT rfl rfl ?_
    refine WO.nil ?_
    exact ⟨rfl, rfl, (Cov.any rfl (orT q2) (Cov.skip rfl (Cov.skip rfl (Cov.skip rfl (Cov.skip rfl (Cov.refl _))))))⟩
  · skip
    refine WO.gyes rfl rfl ?_
    refine WO.mv rfl ?_
    refine WO.gyes rfl rfl ?_
    refine WO.bin rfl rfl (by decide) (by decide) rfl ?_
    refine WO.pickF rfl rfl ?_
    refine WO.nil ?_
    exact ⟨rfl, rfl, (Cov.any rfl (orF q2) (Cov.skip rfl (Cov.skip rfl (Cov.skip rfl (Cov.skip rfl (Cov.refl _))))))⟩
  refine WO.mv rfl ?_
  refine WO.cutB (d := 23) 3 ((((decide (t0 < 0)) || (decide (t0 > 15))) || (decide (t1 < 0))) || (decide (t1 > 15))) (fun q3 => ?_) (fun q3 => ?_) ?_
  · refine WO.gno rfl rfl ?_
    refine WO.gno rfl rfl ?_
    refine WO.pickT rfl rfl ?_
    refine WO.nil ?_
    exact ⟨rfl, rfl, (Cov.any rfl (orT q3) (Cov.skip rfl (Cov.skip rfl (Cov.skip rfl (Cov.skip rfl (Cov.refl _))))))⟩
  · skip
    refine WO.gyes rfl rfl ?_
    refine WO.mv rfl ?_
    refine WO.gyes rfl rfl ?_
    refine WO.bin rfl rfl (by decide) (by decide) rfl ?_
    refine WO.pickF rfl rfl ?_
    refine WO.nil ?_
    exact ⟨rfl, rfl, (Cov.any rfl (orF q3) (Cov.skip rfl (Cov.skip rfl (Cov.skip rfl (Cov.skip rfl (Cov.refl _))))))⟩
  refine WO.nil ?_
  refine thenL_n ?_
  refine WC.cond rfl (fun q4 => ?_) (fun q4 => ?_)
  · have h := iteT q4 h
    refine WC.seq ?_
    refine WC.region ?_
    refine WO.asg rfl ?_
    refine WO.asg rfl ?_
    refine WO.nil ?_
    refine thenL_n ?_
    refine WC.ret ?_
    refine thenL_r ?_
    obtain rfl := someI h
    exact ⟨.inr rfl, _, _, rfl, rfl, rfl⟩
  · have h := iteF q4 h
    refine WC.skip ?_
    refine thenL_n ?_
    refine WC.seq ?_
    refine WC.region ?_
    refine WO.mv rfl ?_
    refine WO.bin rfl rfl (by decide) (by decide) rfl ?_
    obtain ⟨L5, e6, h⟩ := bindS h
    refine WO.mkS (A := Y3) (S := S0) 2 rfl rfl e6 rfl rfl rfl (fun v7 S8 c9 ho10 => ?_)
    refine WO.asg rfl ?_
    refine WO.nil ?_
    refine thenL_n ?_
    refine WC.seq ?_
    refine WC.seq ?_
    refine WC.region ?_
    refine WO.asg rfl ?_
    refine WO.nil ?_
    refine thenL_n ?_
    refine WC.block ?_
    obtain ⟨b57, e58, h⟩ := bindS h
    refine WC.loopD e58 (fun s11 l' m' n' => ∃ S12 : Cx n, S12.m = m' ∧ S12.n = n' ∧ Cov l' [(0, .sc (.int .i64 t0)), (1, .sc (.int .i64 t1)), (6, .sc v7), (7, .sc (.int .i64 s11.1))] ∧ Ow Y3 S12 2 v7 s11.2) (fun b e l' m' n' => e = .exit 0 ∧ ∃ S13 : Cx n, S13.m = m' ∧ S13.n = n' ∧ Cov l' [(1, .sc (.int .i64 t1)), (6, .sc v7)] ∧ Ow Y3 S13 2 v7 b) (by exact ⟨S8, rfl, rfl, (Cov.cons rfl (Cov.cons rfl (Cov.cons rfl (Cov.cons rfl (Cov.nil _))))), ho10⟩) ?_ ?_
    · clear h
      rintro s11 q _ _ _ ⟨S14, rfl, rfl, hc15, ho10⟩ h
      unfold F89_l1 at h
      refine WC.cov hc15 ?_
      refine WC.seq ?_
      refine WC.seq ?_
      refine WC.region ?_
      refine WO.mv rfl ?_
      refine WO.mv rfl ?_
      refine WO.bin rfl rfl (by decide) (by decide) rfl ?_
      refine WO.nil ?_
      refine thenL_n ?_
      refine WC.cond rfl (fun q16 => ?_) (fun q16 => ?_)
      · have h := iteT q16 h
        refine WC.skip ?_
        refine thenL_n ?_
        refine WC.seq ?_
        refine WC.block ?_
        refine WC.seq ?_
        refine WC.region ?_
        refine WO.mv rfl ?_
        refine WO.lenS rfl ho10.slv rfl ?_
        refine WO.mv rfl ?_
        refine WO.nil ?_
        refine thenL_n ?_
        refine WC.block ?_
        obtain ⟨b53, e54, h⟩ := bindS h
        refine WC.loopD e54 (fun s17 l' m' n' => ∃ S18 : Cx n, S18.m = m' ∧ S18.n = n' ∧ Cov l' [(0, .sc (.int .i64 t0)), (1, .sc (.int .i64 t1)), (6, .sc v7), (7, .sc (.int .i64 s11.1)), (33, .sc (.int .i64 ((s11.2.length : Int)))), (34, .sc (.int .i64 s17.1))] ∧ Ow Y3 S18 2 v7 s17.2) (fun b e l' m' n' => e = .exit 2 ∧ ∃ S19 : Cx n, S19.m = m' ∧ S19.n = n' ∧ Cov l' [(0, .sc (.int .i64 t0)), (1, .sc (.int .i64 t1)), (6, .sc v7), (7, .sc (.int .i64 s11.1))] ∧ Ow Y3 S19 2 v7 b) (by exact ⟨S14, rfl, rfl, (Cov.cons rfl (Cov.cons rfl (Cov.cons rfl (Cov.cons rfl (Cov.cons rfl (Cov.cons rfl (Cov.nil _))))))), ho10⟩) ?_ ?_
        · clear h
          rintro s17 q _ _ _ ⟨S20, rfl, rfl, hc21, ho10⟩ h
          unfold F89_l0 at h
          refine WC.cov hc21 ?_
          refine WC.seq ?_
          refine WC.region ?_
          refine WO.bin rfl rfl (by decide) (by decide) rfl ?_
          refine WO.nil ?_
          refine thenL_n ?_
          refine WC.seq ?_
          refine WC.cond rfl (fun q22 => ?_) (fun q22 => ?_)
          · have h := iteT q22 h
            refine WC.skip ?_
            refine thenL_n ?_
            refine WC.seq ?_
            refine WC.block ?_
            refine WC.seq ?_
            refine WC.region ?_
            refine WO.mv rfl ?_
            refine WO.asg rfl ?_
            refine WO.nil ?_
            refine thenL_n ?_
            refine WC.seq ?_
            refine WC.region ?_
            refine WO.mv rfl ?_
            refine WO.mv rfl ?_
            obtain ⟨x23, e24, h⟩ := bindS h
            refine WO.ixS rfl rfl ho10.slv (at?_lt e24) rfl ?_
            refine WO.ldF rfl ho10.ro (fun _ hi => hi) (at?_get e24) rfl rfl rfl ?_
            refine WO.asg rfl ?_
            refine WO.nil ?_
            refine thenL_n ?_
            refine WC.seq ?_
            refine WC.seq ?_
            refine WC.region ?_
            refine WO.mv rfl ?_
            refine WO.bin rfl rfl (by decide) (by decide) rfl ?_
            refine WO.mv rfl ?_
            refine WO.cutB (d := 46) 3 ((s11.1 == 1) && (s17.1 == 0)) (fun q25 => ?_) (fun q25 => ?_) ?_
            · skip
              refine WO.gyes rfl rfl ?_
              refine WO.mv rfl ?_
              refine WO.gyes rfl rfl ?_
              refine WO.bin rfl rfl (by decide) (by decide) rfl ?_
              refine WO.pickT rfl rfl ?_
              refine WO.nil ?_
              exact ⟨rfl, rfl, (Cov.any rfl (andT q25) (Cov.skip rfl (Cov.skip rfl (Cov.skip rfl (Cov.skip rfl (Cov.refl _))))))⟩
            · refine WO.gno rfl rfl ?_
              refine WO.gno rfl rfl ?_
              refine WO.pickF rfl rfl ?_
              refine WO.nil ?_
              exact ⟨rfl, rfl, (Cov.any rfl (andF q25) (Cov.skip rfl (Cov.skip rfl (Cov.skip rfl (Cov.skip rfl (Cov.refl _))))))⟩
            refine WO.nil ?_
            refine thenL_n ?_
            obtain ⟨b27, e28, h⟩ := bindS h
            refine WC.mono (Q' := (fun b e l' m' n' => e = .normal ∧ ∃ S29 : Cx n, S29.m = m' ∧ S29.n = n' ∧ Cov l' [(0, .sc (.int .i64 t0)), (1, .sc (.int .i64 t1)), (6, .sc v7), (7, .sc (.int .i64 s11.1)), (8, .sc (.int .i64 s17.1)), (9, .sc (.int .i64 b)), (33, .sc (.int .i64 ((s11.2.length : Int)))), (34, .sc (.int .i64 s17.1))] ∧ Ow Y3 S29 2 v7 s17.2) b27) ?_ ?_
            · have h := e28
              dsimp only at h ⊢
              refine WC.cond rfl (fun q26 => ?_) (fun q26 => ?_)
              · have h := iteT q26 h
                refine WC.region ?_
                refine WO.asg rfl ?_
                refine WO.nil ?_
                obtain rfl := someI h
                exact ⟨rfl, ⟨S20, rfl, rfl, (Cov.cons rfl (Cov.cons rfl (Cov.cons rfl (Cov.cons rfl (Cov.cons rfl (Cov.cons rfl (Cov.cons rfl (Cov.cons rfl (Cov.nil _))))))))), ho10⟩⟩
              · have h := iteF q26 h
                refine WC.skip ?_
                obtain rfl := someI h
                exact ⟨rfl, ⟨S20, rfl, rfl, (Cov.cons rfl (Cov.cons rfl (Cov.cons rfl (Cov.cons rfl (Cov.cons rfl (Cov.cons rfl (Cov.cons rfl (Cov.cons rfl (Cov.nil _))))))))), ho10⟩⟩
            dsimp only
            rintro _ _ _ _ ⟨rfl, ⟨S30, rfl, rfl, hc31, ho10⟩⟩
            refine thenL_n ?_
            refine WC.cov hc31 ?_
            refine WC.seq ?_
            refine WC.seq ?_
            refine WC.region ?_
            refine WO.mv rfl ?_
            refine WO.bin rfl rfl (by decide) (by decide) rfl ?_
            refine WO.nil ?_
            refine thenL_n ?_
            refine WC.cond rfl (fun q32 => ?_) (fun q32 => ?_)
            · have h := iteT q32 h
              refine WC.region ?_
              refine WO.mv rfl ?_
              refine WO.mv rfl ?_
              refine WO.mv rfl ?_
              refine WO.bin rfl rfl (by decide) (by decide) rfl ?_
              obtain ⟨x33, e34, h⟩ := bindS h
              refine WO.ixS rfl rfl ho10.slv (at?_lt e34) rfl ?_
              refine WO.ldF rfl ho10.ro (fun _ hi => hi) (at?_get e34) rfl rfl rfl ?_
              refine WO.bin rfl rfl (by decide) (by decide) rfl ?_
              refine WO.asg rfl ?_
              refine WO.nil ?_
              refine thenL_n ?_
              refine WC.seq ?_
              refine WC.seq ?_
              refine WC.region ?_
              refine WO.mv rfl ?_
              refine WO.mv rfl ?_
              refine WO.bin rfl rfl (by decide) (by decide) rfl ?_
              refine WO.nil ?_
              refine thenL_n ?_
              refine WC.cond rfl (fun q35 => ?_) (fun q35 => ?_)
              · have h := iteT q35 h
                refine WC.region ?_
                refine WO.asg rfl ?_
                refine WO.nil ?_
                refine thenL_n ?_
                refine WC.region ?_
                refine WO.mv rfl ?_
                refine WO.mv rfl ?_
                refine WO.mv rfl ?_
                obtain ⟨u36, e37, h⟩ := bindS h
                refine WO.ixS rfl rfl ho10.slv (ck_some e37) rfl ?_
                refine WO.st1 (u' := 0) rfl rfl ho10 (ck_nat e37) rfl rfl (fun S38 c39 ho10 => ?_)
                refine WO.nil ?_
                refine blockL_n ?_
                refine thenL_n ?_
                refine WC.region ?_
                refine WO.bin rfl rfl (by decide) (by decide) rfl ?_
                refine WO.mv rfl ?_
                refine WO.nil ?_
                refine thenL_n ?_
                obtain rfl := someI h
                exact ⟨_, rfl, ⟨S38, rfl, rfl, (Cov.cons rfl (Cov.cons rfl (Cov.cons rfl (Cov.cons rfl (Cov.cons rfl (Cov.cons rfl (Cov.nil _))))))), ho10⟩⟩
              · have h := iteF q35 h
                refine WC.skip ?_
                refine thenL_n ?_
                refine WC.region ?_
                refine WO.mv rfl ?_
                refine WO.mv rfl ?_
                refine WO.mv rfl ?_
                obtain ⟨u40, e41, h⟩ := bindS h
                refine WO.ixS rfl rfl ho10.slv (ck_some e41) rfl ?_
                refine WO.st1 (u' := (wrapA .i64 (b27 + x33))) rfl rfl ho10 (ck_nat e41) rfl rfl (fun S42 c43 ho10 => ?_)
                refine WO.nil ?_
                refine blockL_n ?_
                refine thenL_n ?_
                refine WC.region ?_
                refine WO.bin rfl rfl (by decide) (by decide) rfl ?_
                refine WO.mv rfl ?_
                refine WO.nil ?_
                refine thenL_n ?_
                obtain rfl := someI h
                exact ⟨_, rfl, ⟨S42, rfl, rfl, (Cov.cons rfl (Cov.cons rfl (Cov.cons rfl (Cov.cons rfl (Cov.cons rfl (Cov.cons rfl (Cov.nil _))))))), ho10⟩⟩
            · have h := iteF q32 h
              refine WC.skip ?_
              refine thenL_n ?_
              refine WC.seq ?_
              refine WC.seq ?_
              refine WC.region ?_
              refine WO.mv rfl ?_
              refine WO.mv rfl ?_
              refine WO.bin rfl rfl (by decide) (by decide) rfl ?_
              refine WO.nil ?_
              refine thenL_n ?_
              refine WC.cond rfl (fun q44 => ?_) (fun q44 => ?_)
              · have h := iteT q44 h
                refine WC.region ?_
                refine WO.asg rfl ?_
                refine WO.nil ?_
                refine thenL_n ?_
                refine WC.region ?_
                refine WO.mv rfl ?_
                refine WO.mv rfl ?_
                refine WO.mv rfl ?_
                obtain ⟨u45, e46, h⟩ := bindS h
                refine WO.ixS rfl rfl ho10.slv (ck_some e46) rfl ?_
                refine WO.st1 (u' := 0) rfl rfl ho10 (ck_nat e46) rfl rfl (fun S47 c48 ho10 => ?_)
                refine WO.nil ?_
                refine blockL_n ?_
                refine thenL_n ?_
                refine WC.region ?_
                refine WO.bin rfl rfl (by decide) (by decide) rfl ?_
                refine WO.mv rfl ?_
                refine WO.nil ?_
                refine thenL_n ?_
                obtain rfl := someI h
                exact ⟨_, rfl, ⟨S47, rfl, rfl, (Cov.cons rfl (Cov.cons rfl (Cov.cons rfl (Cov.cons rfl (Cov.cons rfl (Cov.cons rfl (Cov.nil _))))))), ho10⟩⟩
              · have h := iteF q44 h
                refine WC.skip ?_
                refine thenL_n ?_
                refine WC.region ?_
                refine WO.mv rfl ?_
                refine WO.mv rfl ?_
                refine WO.mv rfl ?_
                obtain ⟨u49, e50, h⟩ := bindS h
                refine WO.ixS rfl rfl ho10.slv (ck_some e50) rfl ?_
                refine WO.st1 (u' := b27) rfl rfl ho10 (ck_nat e50) rfl rfl (fun S51 c52 ho10 => ?_)
                refine WO.nil ?_
                refine blockL_n ?_
                refine thenL_n ?_
                refine WC.region ?_
                refine WO.bin rfl rfl (by decide) (by decide) rfl ?_
                refine WO.mv rfl ?_
                refine WO.nil ?_
                refine thenL_n ?_
                obtain rfl := someI h
                exact ⟨_, rfl, ⟨S51, rfl, rfl, (Cov.cons rfl (Cov.cons rfl (Cov.cons rfl (Cov.cons rfl (Cov.cons rfl (Cov.cons rfl (Cov.nil _))))))), ho10⟩⟩
          · have h := iteF q22 h
            refine WC.exit ?_
            refine thenL_e ?_
            refine thenL_e ?_
            obtain rfl := someI h
            exact ⟨_, rfl, rfl, ⟨S20, rfl, rfl, (Cov.cons rfl (Cov.cons rfl (Cov.cons rfl (Cov.cons rfl (Cov.nil _))))), ho10⟩⟩
        rintro _ _ _ _ ⟨rfl, ⟨S55, rfl, rfl, hc56, ho10⟩⟩
        refine blockL_s ?_
        refine blockL_n ?_
        refine thenL_n ?_
        refine WC.cov hc56 ?_
        refine WC.region ?_
        refine WO.mv rfl ?_
        refine WO.bin rfl rfl (by decide) (by decide) rfl ?_
        refine WO.asg rfl ?_
        refine WO.nil ?_
        refine thenL_n ?_
        obtain rfl := someI h
        exact ⟨_, rfl, ⟨S55, rfl, rfl, (Cov.cons rfl (Cov.cons rfl (Cov.cons rfl (Cov.cons rfl (Cov.nil _))))), ho10⟩⟩
      · have h := iteF q16 h
        refine WC.exit ?_
        refine thenL_e ?_
        refine thenL_e ?_
        obtain rfl := someI h
        exact ⟨_, rfl, rfl, ⟨S14, rfl, rfl, (Cov.cons rfl (Cov.cons rfl (Cov.nil _))), ho10⟩⟩
    rintro _ _ _ _ ⟨rfl, ⟨S59, rfl, rfl, hc60, ho10⟩⟩
    refine blockL_s ?_
    refine thenL_n ?_
    refine WC.cov hc60 ?_
    refine WC.seq ?_
    refine WC.region ?_
    refine WO.mv rfl ?_
    refine WO.mv rfl ?_
    obtain ⟨x61, e62, h⟩ := bindS h
    refine WO.ixS rfl rfl ho10.slv (at?_lt e62) rfl ?_
    refine WO.ldF rfl ho10.ro (fun _ hi => hi) (at?_get e62) rfl rfl rfl ?_
    refine WO.asg rfl ?_
    refine WO.asg rfl ?_
    refine WO.nil ?_
    refine thenL_n ?_
    refine WC.ret ?_
    obtain rfl := someI h
    exact ⟨.inr rfl, _, _, rfl, rfl, rfl⟩
end Go.Proofs.Ytkfmedmanhcdeaa

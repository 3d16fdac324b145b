/- The machine answers F110_61: printed by a program of ours (gen.py). -/
import Derived.Test.YtkfmedmanhcdeaaDef
import Derived.Test.YtkfmedmanhcdeaaEnv
import Derived.Test.YtkfmedmanhcdeaaF61
set_option linter.unusedVariables false
namespace Go.Proofs.Ytkfmedmanhcdeaa
open Go.Am
theorem F110_61.fn : E.fn 110 = some ⟨62, (Try.f110.body.getD .skip), Try.f110.results.toList, []⟩ := rfl
theorem F110_61_ok {F : Nat} {m : Mem} {n : Nat} {r : Int} {t0 : List Int} {vt0 : SV} (h : F110_61 F t0 = some r) (kt0 : Vw Y3 n m vt0 t0) : Ret E n 110 [.sc vt0, .sc (.fn 61 [])] m n (fun v m' n' => v = .sc (.int .i64 r)) := by
  unfold F110_61 at h
  refine Ret.walk F110_61.fn ?_
  refine WC.start fun S0 em en hz => ?_
  have hot0 := kt0.rdS em hz
  refine WC.seq ?_
  refine WC.region ?_
  refine WO.asg rfl ?_
  refine WO.nil ?_
  refine thenL_n ?_
  refine WC.seq ?_
  refine WC.region ?_
  refine WO.asg rfl ?_
  refine WO.nil ?_
  refine thenL_n ?_
  refine WC.seq ?_
  refine WC.region ?_
  refine WO.mv rfl ?_
  refine WO.lenS rfl hot0.slv rfl ?_
  obtain ⟨L1, e2, h⟩ := bindS h
  refine WO.mkS (A := Y3) (S := S0) 2 rfl rfl e2 rfl rfl rfl (fun v3 S4 c5 ho6 => ?_)
  have hot0 := hot0.to c5
  refine WO.asg rfl ?_
  refine WO.nil ?_
  refine thenL_n ?_
  refine WC.seq ?_
  refine WC.seq ?_
  refine WC.region ?_
  refine WO.mv rfl ?_
  refine WO.lenS rfl hot0.slv rfl ?_
  refine WO.bin rfl rfl (by decide) (by decide) rfl ?_
  refine WO.asg rfl ?_
  refine WO.nil ?_
  refine thenL_n ?_
  refine WC.block ?_
  obtain ⟨b48, e49, h⟩ := bindS h
  refine WC.loopD e49 (fun s7 l' m' n' => ∃ S8 : Cx n, S8.m = m' ∧ S8.n = n' ∧ Cov l' [(0, .sc vt0), (1, .sc (.fn 61 [])), (5, .sc (.int .i64 s7.1)), (6, .sc v3), (7, .sc (.int .i64 s7.2.1))] ∧ Rd Y3 S8 vt0 t0 ∧ Ow Y3 S8 2 v3 s7.2.2) (fun b e l' m' n' => e = .exit 0 ∧ ∃ S9 : Cx n, S9.m = m' ∧ S9.n = n' ∧ Cov l' [(5, .sc (.int .i64 b))]) (by exact ⟨S4, rfl, rfl, (Cov.cons rfl (Cov.cons rfl (Cov.cons rfl (Cov.cons rfl (Cov.cons rfl (Cov.nil _)))))), hot0, ho6⟩) ?_ ?_
  · clear h
    rintro s7 q _ _ _ ⟨S10, rfl, rfl, hc11, hot0, ho6⟩ h
    unfold F110_61_l1 at h
    refine WC.cov hc11 ?_
    refine WC.seq ?_
    refine WC.seq ?_
    refine WC.region ?_
    refine WO.mv rfl ?_
    refine WO.bin rfl rfl (by decide) (by decide) rfl ?_
    refine WO.nil ?_
    refine thenL_n ?_
    refine WC.cond rfl (fun q12 => ?_) (fun q12 => ?_)
    · have h := iteT q12 h
      refine WC.skip ?_
      refine thenL_n ?_
      refine WC.seq ?_
      refine WC.block ?_
      refine WC.seq ?_
      refine WC.seq ?_
      refine WC.region ?_
      refine WO.mv rfl ?_
      refine WO.bin rfl rfl (by decide) (by decide) rfl ?_
      refine WO.asg rfl ?_
      refine WO.nil ?_
      refine thenL_n ?_
      refine WC.block ?_
      obtain ⟨b36, e37, h⟩ := bindS h
      refine WC.loopD e37 (fun s13 l' m' n' => ∃ S14 : Cx n, S14.m = m' ∧ S14.n = n' ∧ Cov l' [(0, .sc vt0), (1, .sc (.fn 61 [])), (5, .sc (.int .i64 s7.1)), (6, .sc v3), (7, .sc (.int .i64 s7.2.1)), (8, .sc (.int .i64 s13.1))] ∧ Rd Y3 S14 vt0 t0 ∧ Ow Y3 S14 2 v3 s13.2) (fun b e l' m' n' => e = .exit 2 ∧ ∃ S15 : Cx n, S15.m = m' ∧ S15.n = n' ∧ Cov l' [(0, .sc vt0), (1, .sc (.fn 61 [])), (5, .sc (.int .i64 s7.1)), (6, .sc v3), (7, .sc (.int .i64 s7.2.1))] ∧ Rd Y3 S15 vt0 t0 ∧ Ow Y3 S15 2 v3 b) (by exact ⟨S10, rfl, rfl, (Cov.cons rfl (Cov.cons rfl (Cov.cons rfl (Cov.cons rfl (Cov.cons rfl (Cov.cons rfl (Cov.nil _))))))), hot0, ho6⟩) ?_ ?_
      · clear h
        rintro s13 q _ _ _ ⟨S16, rfl, rfl, hc17, hot0, ho6⟩ h
        unfold F110_61_l0 at h
        refine WC.cov hc17 ?_
        refine WC.seq ?_
        refine WC.seq ?_
        refine WC.region ?_
        refine WO.mv rfl ?_
        refine WO.mv rfl ?_
        refine WO.lenS rfl hot0.slv rfl ?_
        refine WO.bin rfl rfl (by decide) (by decide) rfl ?_
        refine WO.nil ?_
        refine thenL_n ?_
        refine WC.cond rfl (fun q18 => ?_) (fun q18 => ?_)
        · have h := iteT q18 h
          refine WC.skip ?_
          refine thenL_n ?_
          refine WC.seq ?_
          refine WC.block ?_
          refine WC.seq ?_
          refine WC.drawN rfl ?_
          have hot0z := hot0.oz
          have ho6z := ho6.oz
          refine WO.mv rfl ?_
          refine WO.mv rfl ?_
          refine WO.mv rfl ?_
          obtain ⟨x19, e20, h⟩ := bindS h
          refine WO.ixS rfl rfl hot0.slv (at?_lt e20) rfl ?_
          refine WO.ldF rfl hot0z (fun _ hi => hi.1) (at?_get e20) rfl rfl (limLe_self _) ?_
          refine WO.mv rfl ?_
          refine WO.mv rfl ?_
          obtain ⟨x21, e22, h⟩ := bindS h
          refine WO.ixS rfl rfl hot0.slv (at?_lt e22) rfl ?_
          refine WO.ldF rfl hot0z (fun _ hi => hi.1) (at?_get e22) rfl rfl (limLe_self _) ?_
          obtain ⟨r23, e24, h⟩ := bindS h
          refine WO.callE (S := S16) rfl rfl (F61_ok e24) (fun S25 c26 => ?_)
          have hot0z := hot0z.toz c26
          have ho6z := ho6z.tow c26
          have hot0 := hot0.to c26
          have ho6 := ho6.to c26
          refine WO.nil ?_
          refine thenL_n ?_
          refine WC.cond rfl (fun q27 => ?_) (fun q27 => ?_)
          · have h := iteT q27 h
            refine WC.drawN rfl ?_
            have hot0z := hot0.oz
            have ho6z := ho6.oz
            refine WO.mv rfl ?_
            refine WO.mv rfl ?_
            refine WO.mv rfl ?_
            refine WO.mv rfl ?_
            obtain ⟨x28, e29, h⟩ := bindS h
            refine WO.ixS rfl rfl ho6.slv (at?_lt e29) rfl ?_
            refine WO.ldF rfl ho6z (fun _ hi => hi.1) (at?_get e29) rfl rfl (limLe_self _) ?_
            refine WO.mv rfl ?_
            refine WO.mv rfl ?_
            obtain ⟨x30, e31, h⟩ := bindS h
            refine WO.ixS rfl rfl ho6.slv (at?_lt e31) rfl ?_
            refine WO.ldF rfl ho6z (fun _ hi => hi.1) (at?_get e31) rfl rfl (limLe_self _) ?_
            refine WO.maxD rfl rfl ?_
            obtain ⟨u32, e33, h⟩ := bindS h
            refine WO.ixS rfl rfl ho6.slv (ck_some e33) rfl ?_
            refine WO.st1 (u' := (maxI x28 x30)) rfl rfl ho6 (ck_nat e33) rfl rfl (fun S34 c35 ho6 => ?_)
            have hot0z := hot0z.toz c35
            have hot0 := hot0.to c35
            refine WO.nil ?_
            refine blockL_n ?_
            refine thenL_n ?_
            refine WC.region ?_
            refine WO.mv rfl ?_
            refine WO.bin rfl rfl (by decide) (by decide) rfl ?_
            refine WO.asg rfl ?_
            refine WO.nil ?_
            refine thenL_n ?_
            obtain rfl := someI h
            exact ⟨_, rfl, ⟨S34, rfl, rfl, (Cov.cons rfl (Cov.cons rfl (Cov.cons rfl (Cov.cons rfl (Cov.cons rfl (Cov.cons rfl (Cov.nil _))))))), hot0, ho6⟩⟩
          · have h := iteF q27 h
            refine WC.skip ?_
            refine blockL_n ?_
            refine thenL_n ?_
            refine WC.region ?_
            refine WO.mv rfl ?_
            refine WO.bin rfl rfl (by decide) (by decide) rfl ?_
            refine WO.asg rfl ?_
            refine WO.nil ?_
            refine thenL_n ?_
            obtain rfl := someI h
            exact ⟨_, rfl, ⟨S25, rfl, rfl, (Cov.cons rfl (Cov.cons rfl (Cov.cons rfl (Cov.cons rfl (Cov.cons rfl (Cov.cons rfl (Cov.nil _))))))), hot0, ho6⟩⟩
        · have h := iteF q18 h
          refine WC.exit ?_
          refine thenL_e ?_
          refine thenL_e ?_
          obtain rfl := someI h
          exact ⟨_, rfl, rfl, ⟨S16, rfl, rfl, (Cov.cons rfl (Cov.cons rfl (Cov.cons rfl (Cov.cons rfl (Cov.cons rfl (Cov.nil _)))))), hot0, ho6⟩⟩
      rintro _ _ _ _ ⟨rfl, ⟨S38, rfl, rfl, hc39, hot0, ho6⟩⟩
      refine blockL_s ?_
      refine thenL_n ?_
      refine WC.cov hc39 ?_
      refine WC.seq ?_
      refine WC.region ?_
      refine WO.mv rfl ?_
      refine WO.mv rfl ?_
      obtain ⟨x40, e41, h⟩ := bindS h
      refine WO.ixS rfl rfl ho6.slv (at?_lt e41) rfl ?_
      refine WO.ldF rfl ho6.ro (fun _ hi => hi) (at?_get e41) rfl rfl rfl ?_
      refine WO.bin rfl rfl (by decide) (by decide) rfl ?_
      obtain ⟨u42, e43, h⟩ := bindS h
      refine WO.ixS rfl rfl ho6.slv (ck_some e43) rfl ?_
      refine WO.st1 (u' := (wrapA .i64 (x40 + 1))) rfl rfl ho6 (ck_nat e43) rfl rfl (fun S44 c45 ho6 => ?_)
      have hot0 := hot0.to c45
      refine WO.nil ?_
      refine thenL_n ?_
      refine WC.region ?_
      refine WO.mv rfl ?_
      refine WO.mv rfl ?_
      refine WO.mv rfl ?_
      obtain ⟨x46, e47, h⟩ := bindS h
      refine WO.ixS rfl rfl ho6.slv (at?_lt e47) rfl ?_
      refine WO.ldF rfl ho6.ro (fun _ hi => hi) (at?_get e47) rfl rfl rfl ?_
      refine WO.maxD rfl rfl ?_
      refine WO.asg rfl ?_
      refine WO.nil ?_
      refine blockL_n ?_
      refine thenL_n ?_
      refine WC.region ?_
      refine WO.mv rfl ?_
      refine WO.bin rfl rfl (by decide) (by decide) rfl ?_
      refine WO.asg rfl ?_
      refine WO.nil ?_
      refine thenL_n ?_
      obtain rfl := someI h
      exact ⟨_, rfl, ⟨S44, rfl, rfl, (Cov.cons rfl (Cov.cons rfl (Cov.cons rfl (Cov.cons rfl (Cov.cons rfl (Cov.nil _)))))), hot0, ho6⟩⟩
    · have h := iteF q12 h
      refine WC.exit ?_
      refine thenL_e ?_
      refine thenL_e ?_
      obtain rfl := someI h
      exact ⟨_, rfl, rfl, ⟨S10, rfl, rfl, (Cov.cons rfl (Cov.nil _))⟩⟩
  rintro _ _ _ _ ⟨rfl, ⟨S50, rfl, rfl, hc51⟩⟩
  refine blockL_s ?_
  refine thenL_n ?_
  refine WC.cov hc51 ?_
  refine WC.seq ?_
  refine WC.region ?_
  refine WO.mv rfl ?_
  refine WO.asg rfl ?_
  refine WO.nil ?_
  refine thenL_n ?_
  refine WC.ret ?_
  obtain rfl := someI h
  exact ⟨.inr rfl, _, _, rfl, rfl, rfl⟩
end Go.Proofs.Ytkfmedmanhcdeaa

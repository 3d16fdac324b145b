/- The machine answers F71: printed by a program of ours (gen.py). -/
import Derived.Test.YtkfmedmanhcdeaaDef
import Derived.Test.YtkfmedmanhcdeaaEnv
set_option linter.unusedVariables false
namespace Go.Proofs.Ytkfmedmanhcdeaa
open Go.Am
theorem F71.fn : E.fn 71 = some ⟨79, (Try.f71.body.getD .skip), Try.f71.results.toList, []⟩ := rfl
theorem F71_ok {F : Nat} {m : Mem} {n : Nat} {r : Int} {t0 : List Int} {t1 : List Int} {vt0 : SV} {vt1 : SV} (h : F71 F t0 t1 = some r) (kt0 : Vw Y3 n m vt0 t0) (kt1 : Vw Y3 n m vt1 t1) : Ret E n 71 [.sc vt0, .sc vt1] m n (fun v m' n' => v = .sc (.int .i64 r)) := by
  unfold F71 at h
  refine Ret.walk F71.fn ?_
  refine WC.start fun S0 em en hz => ?_
  have hot0 := kt0.rdS em hz
  have hot1 := kt1.rdS em hz
  refine WC.seq ?_
  refine WC.region ?_
  refine WO.asg rfl ?_
  refine WO.nil ?_
  refine thenL_n ?_
  refine WC.seq ?_
  refine WC.seq ?_
  refine WC.region ?_
  refine WO.mv rfl ?_
  refine WO.lenS rfl hot0.slv rfl ?_
  refine WO.mv rfl ?_
  refine WO.nil ?_
  refine thenL_n ?_
  refine WC.block ?_
  obtain ⟨b51, e52, h⟩ := bindS h
  refine WC.loopD e52 (fun s1 l' m' n' => ∃ S2 : Cx n, S2.m = m' ∧ S2.n = n' ∧ Cov l' [(0, .sc vt0), (1, .sc vt1), (9, .sc (.int .i64 ((t0.length : Int)))), (10, .sc (.int .i64 s1))] ∧ Rd Y3 S2 vt0 t0 ∧ Rd Y3 S2 vt1 t1) (fun b e l' m' n' => (match b with | .inl b3 => e = .exit 0 ∧ ∃ S4 : Cx n, S4.m = m' ∧ S4.n = n' ∧ Cov l' [] | .inr b3 => e = .ret ∧ ∃ S5 : Cx n, S5.m = m' ∧ S5.n = n' ∧ Cov l' [(4, .sc (.int .i64 b3))])) (by exact ⟨S0, rfl, rfl, (Cov.cons rfl (Cov.cons rfl (Cov.cons rfl (Cov.cons rfl (Cov.nil _))))), hot0, hot1⟩) ?_ ?_
  · clear h
    rintro s1 q _ _ _ ⟨S6, rfl, rfl, hc7, hot0, hot1⟩ h
    unfold F71_l1 at h
    refine WC.cov hc7 ?_
    refine WC.seq ?_
    refine WC.region ?_
    refine WO.bin rfl rfl (by decide) (by decide) rfl ?_
    refine WO.nil ?_
    refine thenL_n ?_
    refine WC.seq ?_
    refine WC.cond rfl (fun q8 => ?_) (fun q8 => ?_)
    · have h := iteT q8 h
      refine WC.skip ?_
      refine thenL_n ?_
      refine WC.seq ?_
      refine WC.block ?_
      refine WC.seq ?_
      refine WC.region ?_
      refine WO.mv rfl ?_
      refine WO.asg rfl ?_
      refine WO.nil ?_
      refine thenL_n ?_
      refine WC.seq ?_
      refine WC.seq ?_
      refine WC.region ?_
      refine WO.mv rfl ?_
      refine WO.mv rfl ?_
      obtain ⟨x9, e10, h⟩ := bindS h
      refine WO.ixS rfl rfl hot0.slv (at?_lt e10) rfl ?_
      refine WO.ldF rfl hot0.ro (fun _ hi => hi) (at?_get e10) rfl rfl rfl ?_
      refine WO.bin rfl rfl (by decide) (by decide) rfl ?_
      refine WO.nil ?_
      refine thenL_n ?_
      refine WC.cond rfl (fun q11 => ?_) (fun q11 => ?_)
      · have h := iteT q11 h
        refine WC.exit ?_
        refine thenL_e ?_
        refine blockL_s ?_
        refine thenL_n ?_
        refine WC.region ?_
        refine WO.bin rfl rfl (by decide) (by decide) rfl ?_
        refine WO.mv rfl ?_
        refine WO.nil ?_
        refine thenL_n ?_
        obtain rfl := someI h
        exact ⟨_, rfl, ⟨S6, rfl, rfl, (Cov.cons rfl (Cov.cons rfl (Cov.cons rfl (Cov.cons rfl (Cov.nil _))))), hot0, hot1⟩⟩
      · have h := iteF q11 h
        refine WC.skip ?_
        refine thenL_n ?_
        refine WC.seq ?_
        refine WC.region ?_
        refine WO.asg rfl ?_
        refine WO.nil ?_
        refine thenL_n ?_
        refine WC.seq ?_
        refine WC.seq ?_
        refine WC.region ?_
        refine WO.mv rfl ?_
        refine WO.lenS rfl hot0.slv rfl ?_
        refine WO.mv rfl ?_
        refine WO.nil ?_
        refine thenL_n ?_
        refine WC.block ?_
        obtain ⟨b46, e47, h⟩ := bindS h
        refine WC.loopD e47 (fun s12 l' m' n' => ∃ S13 : Cx n, S13.m = m' ∧ S13.n = n' ∧ Cov l' [(0, .sc vt0), (1, .sc vt1), (5, .sc (.int .i64 s1)), (6, .sc (.bool s12.1)), (9, .sc (.int .i64 ((t0.length : Int)))), (10, .sc (.int .i64 s1)), (19, .sc (.int .i64 ((t0.length : Int)))), (20, .sc (.int .i64 s12.2))] ∧ Rd Y3 S13 vt0 t0 ∧ Rd Y3 S13 vt1 t1) (fun b e l' m' n' => e = .exit 2 ∧ ∃ S14 : Cx n, S14.m = m' ∧ S14.n = n' ∧ Cov l' [(0, .sc vt0), (1, .sc vt1), (5, .sc (.int .i64 s1)), (6, .sc (.bool b)), (9, .sc (.int .i64 ((t0.length : Int)))), (10, .sc (.int .i64 s1))] ∧ Rd Y3 S14 vt0 t0 ∧ Rd Y3 S14 vt1 t1) (by exact ⟨S6, rfl, rfl, (Cov.cons rfl (Cov.cons rfl (Cov.cons rfl (Cov.cons rfl (Cov.cons rfl (Cov.cons rfl (Cov.cons rfl (Cov.cons rfl (Cov.nil _))))))))), hot0, hot1⟩) ?_ ?_
        · clear h
          rintro s12 q _ _ _ ⟨S15, rfl, rfl, hc16, hot0, hot1⟩ h
          unfold F71_l0 at h
          refine WC.cov hc16 ?_
          refine WC.seq ?_
          refine WC.region ?_
          refine WO.bin rfl rfl (by decide) (by decide) rfl ?_
          refine WO.nil ?_
          refine thenL_n ?_
          refine WC.seq ?_
          refine WC.cond rfl (fun q17 => ?_) (fun q17 => ?_)
          · have h := iteT q17 h
            refine WC.skip ?_
            refine thenL_n ?_
            refine WC.seq ?_
            refine WC.block ?_
            refine WC.seq ?_
            refine WC.region ?_
            refine WO.mv rfl ?_
            refine WO.asg rfl ?_
            refine WO.nil ?_
            refine thenL_n ?_
            refine WC.seq ?_
            refine WC.drawP rfl ?_
            refine WO.mv rfl ?_
            refine WO.mv rfl ?_
            obtain ⟨x18, e19, h⟩ := bindS h
            refine WO.ixS rfl rfl hot0.slv (at?_lt e19) rfl ?_
            refine WO.ldF rfl hot0.ro (fun _ hi => hi) (at?_get e19) rfl rfl rfl ?_
            refine WO.bin rfl rfl (by decide) (by decide) rfl ?_
            refine WO.mv rfl ?_
            obtain ⟨y43, e44, h⟩ := bindS h
            refine WO.cutB (d := 74) 46 y43 (fun q42 => ?_) (fun q42 => ?_) ?_
            · have h := e44
              have h := iteT q42 h
              refine WO.gyes rfl rfl ?_
              refine WO.mv rfl ?_
              refine WO.gyes rfl rfl ?_
              refine WO.mv rfl ?_
              refine WO.gyes rfl rfl ?_
              obtain ⟨x20, e21, h⟩ := bindS h
              refine WO.ixS rfl rfl hot1.slv (at?_lt e21) rfl ?_
              refine WO.gyes rfl rfl ?_
              refine WO.ldF rfl hot1.ro (fun _ hi => hi) (at?_get e21) rfl rfl rfl ?_
              refine WO.gyes rfl rfl ?_
              refine WO.mv rfl ?_
              refine WO.gyes rfl rfl ?_
              refine WO.mv rfl ?_
              refine WO.gyes rfl rfl ?_
              obtain ⟨x22, e23, h⟩ := bindS h
              refine WO.ixS rfl rfl hot0.slv (at?_lt e23) rfl ?_
              refine WO.gyes rfl rfl ?_
              refine WO.ldF rfl hot0.ro (fun _ hi => hi) (at?_get e23) rfl rfl rfl ?_
              refine WO.gyes rfl rfl ?_
              refine WO.bin rfl rfl (by decide) (by decide) rfl ?_
              refine WO.gyes rfl rfl ?_
              refine WO.mv rfl ?_
              refine WO.gyes rfl rfl ?_
              refine WO.mv rfl ?_
              refine WO.gyes rfl rfl ?_
              obtain ⟨x24, e25, h⟩ := bindS h
              refine WO.ixS rfl rfl hot1.slv (at?_lt e25) rfl ?_
              refine WO.gyes rfl rfl ?_
              refine WO.ldF rfl hot1.ro (fun _ hi => hi) (at?_get e25) rfl rfl rfl ?_
              refine WO.gyes rfl rfl ?_
              refine WO.mv rfl ?_
              refine WO.gyes rfl rfl ?_
              refine WO.mv rfl ?_
              refine WO.gyes rfl rfl ?_
              obtain ⟨x26, e27, h⟩ := bindS h
              refine WO.ixS rfl rfl hot0.slv (at?_lt e27) rfl ?_
              refine WO.gyes rfl rfl ?_
              refine WO.ldF rfl hot0.ro (fun _ hi => hi) (at?_get e27) rfl rfl rfl ?_
              refine WO.gyes rfl rfl ?_
              refine WO.bin rfl rfl (by decide) (by decide) rfl ?_
              refine WO.gyes rfl rfl ?_
              refine WO.bin rfl rfl (by decide) (by decide) rfl ?_
              refine WO.gyes rfl rfl ?_
              refine WO.mv rfl ?_
              obtain ⟨y40, e41, h⟩ := bindS h
              refine WO.cutB (d := 73) 25 y40 (fun q39 => ?_) (fun q39 => ?_) ?_
              · have h := e41
                have h := iteT q39 h
                obtain rfl := someI h
                refine WO.gno rfl rfl ?_
                refine WO.gno rfl rfl ?_
                refine WO.gno rfl rfl ?_
                refine WO.gno rfl rfl ?_
                refine WO.gskip rfl rfl ?_
                refine WO.gskip rfl rfl ?_
                refine WO.gskip rfl rfl ?_
                refine WO.gskip rfl rfl ?_
                refine WO.gskip rfl rfl ?_
                refine WO.gskip rfl rfl ?_
                refine WO.gskip rfl rfl ?_
                refine WO.gskip rfl rfl ?_
                refine WO.gskip rfl rfl ?_
                refine WO.gskip rfl rfl ?_
                refine WO.gskip rfl rfl ?_
                refine WO.gskip rfl rfl ?_
                refine WO.gskip rfl rfl ?_
                refine WO.gskip rfl rfl ?_
                refine WO.gskip rfl rfl ?_
                refine WO.gskip rfl rfl ?_
                refine WO.gskip rfl rfl ?_
                refine WO.gskip rfl rfl ?_
                refine WO.gskip rfl rfl ?_
                refine WO.gno rfl rfl ?_
                refine WO.gyes rfl rfl ?_
                refine WO.pickT rfl rfl ?_
                refine WO.nil ?_
                exact ⟨rfl, rfl, (Cov.cons rfl (Cov.skip rfl (Cov.skip rfl (Cov.skip rfl (Cov.skip rfl (Cov.skip rfl (Cov.skip rfl (Cov.skip rfl (Cov.skip rfl (Cov.skip rfl (Cov.skip rfl (Cov.skip rfl (Cov.skip rfl (Cov.skip rfl (Cov.skip rfl (Cov.skip rfl (Cov.skip rfl (Cov.skip rfl (Cov.skip rfl (Cov.skip rfl (Cov.skip rfl (Cov.skip rfl (Cov.skip rfl (Cov.skip rfl (Cov.skip rfl (Cov.skip rfl (Cov.skip rfl (Cov.refl _))))))))))))))))))))))))))))⟩
              · have h := e41
                have h := iteF q39 h
                refine WO.gyes rfl rfl ?_
                refine WO.mv rfl ?_
                refine WO.gyes rfl rfl ?_
                refine WO.mv rfl ?_
                refine WO.gyes rfl rfl ?_
                refine WO.bin rfl rfl (by decide) (by decide) rfl ?_
                refine WO.gyes rfl rfl ?_
                refine WO.mv rfl ?_
                obtain ⟨y37, e38, h⟩ := bindS h
                refine WO.cutB (d := 72) 20 y37 (fun q36 => ?_) (fun q36 => ?_) ?_
                · have h := e38
                  have h := iteT q36 h
                  refine WO.gyes rfl rfl ?_
                  refine WO.mv rfl ?_
                  refine WO.gyes rfl rfl ?_
                  refine WO.mv rfl ?_
                  refine WO.gyes rfl rfl ?_
                  obtain ⟨x28, e29, h⟩ := bindS h
                  refine WO.ixS rfl rfl hot1.slv (at?_lt e29) rfl ?_
                  refine WO.gyes rfl rfl ?_
                  refine WO.ldF rfl hot1.ro (fun _ hi => hi) (at?_get e29) rfl rfl rfl ?_
                  refine WO.gyes rfl rfl ?_
                  refine WO.mv rfl ?_
                  refine WO.gyes rfl rfl ?_
                  refine WO.mv rfl ?_
                  refine WO.gyes rfl rfl ?_
                  obtain ⟨x30, e31, h⟩ := bindS h
                  refine WO.ixS rfl rfl hot0.slv (at?_lt e31) rfl ?_
                  refine WO.gyes rfl rfl ?_
                  refine WO.ldF rfl hot0.ro (fun _ hi => hi) (at?_get e31) rfl rfl rfl ?_
                  refine WO.gyes rfl rfl ?_
                  refine WO.bin rfl rfl (by decide) (by decide) rfl ?_
                  refine WO.gyes rfl rfl ?_
                  refine WO.mv rfl ?_
                  refine WO.gyes rfl rfl ?_
                  refine WO.mv rfl ?_
                  refine WO.gyes rfl rfl ?_
                  obtain ⟨x32, e33, h⟩ := bindS h
                  refine WO.ixS rfl rfl hot1.slv (at?_lt e33) rfl ?_
                  refine WO.gyes rfl rfl ?_
                  refine WO.ldF rfl hot1.ro (fun _ hi => hi) (at?_get e33) rfl rfl rfl ?_
                  refine WO.gyes rfl rfl ?_
                  refine WO.mv rfl ?_
                  refine WO.gyes rfl rfl ?_
                  refine WO.mv rfl ?_
                  refine WO.gyes rfl rfl ?_
                  obtain ⟨x34, e35, h⟩ := bindS h
                  refine WO.ixS rfl rfl hot0.slv (at?_lt e35) rfl ?_
                  refine WO.gyes rfl rfl ?_
                  refine WO.ldF rfl hot0.ro (fun _ hi => hi) (at?_get e35) rfl rfl rfl ?_
                  refine WO.gyes rfl rfl ?_
                  refine WO.bin rfl rfl (by decide) (by decide) rfl ?_
                  refine WO.gyes rfl rfl ?_
                  refine WO.bin rfl rfl (by decide) (by decide) rfl ?_
                  obtain rfl := someI h
                  refine WO.gyes rfl rfl ?_
                  refine WO.pickT rfl rfl ?_
                  refine WO.nil ?_
                  exact ⟨rfl, rfl, (Cov.cons rfl (Cov.skip rfl (Cov.skip rfl (Cov.skip rfl (Cov.skip rfl (Cov.skip rfl (Cov.skip rfl (Cov.skip rfl (Cov.skip rfl (Cov.skip rfl (Cov.skip rfl (Cov.skip rfl (Cov.skip rfl (Cov.skip rfl (Cov.skip rfl (Cov.skip rfl (Cov.skip rfl (Cov.skip rfl (Cov.skip rfl (Cov.skip rfl (Cov.skip rfl (Cov.skip rfl (Cov.refl _)))))))))))))))))))))))⟩
                · have h := e38
                  have h := iteF q36 h
                  obtain rfl := someI h
                  refine WO.gno rfl rfl ?_
                  refine WO.gno rfl rfl ?_
                  refine WO.gno rfl rfl ?_
                  refine WO.gno rfl rfl ?_
                  refine WO.gno rfl rfl ?_
                  refine WO.gno rfl rfl ?_
                  refine WO.gno rfl rfl ?_
                  refine WO.gno rfl rfl ?_
                  refine WO.gno rfl rfl ?_
                  refine WO.gno rfl rfl ?_
                  refine WO.gno rfl rfl ?_
                  refine WO.gno rfl rfl ?_
                  refine WO.gno rfl rfl ?_
                  refine WO.gno rfl rfl ?_
                  refine WO.gno rfl rfl ?_
                  refine WO.gno rfl rfl ?_
                  refine WO.gno rfl rfl ?_
                  refine WO.gno rfl rfl ?_
                  refine WO.gno rfl rfl ?_
                  refine WO.gyes rfl rfl ?_
                  refine WO.pickF rfl rfl ?_
                  refine WO.nil ?_
                  exact ⟨rfl, rfl, (Cov.cons rfl (Cov.skip rfl (Cov.skip rfl (Cov.skip rfl (Cov.skip rfl (Cov.skip rfl (Cov.skip rfl (Cov.skip rfl (Cov.skip rfl (Cov.skip rfl (Cov.skip rfl (Cov.skip rfl (Cov.skip rfl (Cov.skip rfl (Cov.skip rfl (Cov.skip rfl (Cov.skip rfl (Cov.skip rfl (Cov.skip rfl (Cov.skip rfl (Cov.skip rfl (Cov.skip rfl (Cov.refl _)))))))))))))))))))))))⟩
                obtain rfl := someI h
                refine WO.gyes rfl rfl ?_
                refine WO.pickF rfl rfl ?_
                refine WO.nil ?_
                exact ⟨rfl, rfl, (Cov.cons rfl (Cov.skip rfl (Cov.skip rfl (Cov.skip rfl (Cov.skip rfl (Cov.skip rfl (Cov.skip rfl (Cov.refl _))))))))⟩
              obtain rfl := someI h
              refine WO.pickT rfl rfl ?_
              refine WO.nil ?_
              exact ⟨rfl, rfl, (Cov.cons rfl (Cov.skip rfl (Cov.skip rfl (Cov.skip rfl (Cov.skip rfl (Cov.skip rfl (Cov.skip rfl (Cov.skip rfl (Cov.skip rfl (Cov.skip rfl (Cov.skip rfl (Cov.skip rfl (Cov.skip rfl (Cov.skip rfl (Cov.skip rfl (Cov.skip rfl (Cov.skip rfl (Cov.skip rfl (Cov.skip rfl (Cov.skip rfl (Cov.skip rfl (Cov.skip rfl (Cov.skip rfl (Cov.refl _))))))))))))))))))))))))⟩
            · have h := e44
              have h := iteF q42 h
              obtain rfl := someI h
              refine WO.gno rfl rfl ?_
              refine WO.gno rfl rfl ?_
              refine WO.gno rfl rfl ?_
              refine WO.gno rfl rfl ?_
              refine WO.gno rfl rfl ?_
              refine WO.gno rfl rfl ?_
              refine WO.gno rfl rfl ?_
              refine WO.gno rfl rfl ?_
              refine WO.gno rfl rfl ?_
              refine WO.gno rfl rfl ?_
              refine WO.gno rfl rfl ?_
              refine WO.gno rfl rfl ?_
              refine WO.gno rfl rfl ?_
              refine WO.gno rfl rfl ?_
              refine WO.gno rfl rfl ?_
              refine WO.gno rfl rfl ?_
              refine WO.gno rfl rfl ?_
              refine WO.gno rfl rfl ?_
              refine WO.gno rfl rfl ?_
              refine WO.gno rfl rfl ?_
              refine WO.gskip rfl rfl ?_
              refine WO.gskip rfl rfl ?_
              refine WO.gskip rfl rfl ?_
              refine WO.gskip rfl rfl ?_
              refine WO.gskip rfl rfl ?_
              refine WO.gskip rfl rfl ?_
              refine WO.gskip rfl rfl ?_
              refine WO.gskip rfl rfl ?_
              refine WO.gskip rfl rfl ?_
              refine WO.gskip rfl rfl ?_
              refine WO.gskip rfl rfl ?_
              refine WO.gskip rfl rfl ?_
              refine WO.gskip rfl rfl ?_
              refine WO.gskip rfl rfl ?_
              refine WO.gskip rfl rfl ?_
              refine WO.gskip rfl rfl ?_
              refine WO.gskip rfl rfl ?_
              refine WO.gskip rfl rfl ?_
              refine WO.gskip rfl rfl ?_
              refine WO.gskip rfl rfl ?_
              refine WO.gskip rfl rfl ?_
              refine WO.gskip rfl rfl ?_
              refine WO.gskip rfl rfl ?_
              refine WO.gskip rfl rfl ?_
              refine WO.gno rfl rfl ?_
              refine WO.pickF rfl rfl ?_
              refine WO.nil ?_
              exact ⟨rfl, rfl, (Cov.cons rfl (Cov.skip rfl (Cov.skip rfl (Cov.skip rfl (Cov.skip rfl (Cov.skip rfl (Cov.skip rfl (Cov.skip rfl (Cov.skip rfl (Cov.skip rfl (Cov.skip rfl (Cov.skip rfl (Cov.skip rfl (Cov.skip rfl (Cov.skip rfl (Cov.skip rfl (Cov.skip rfl (Cov.skip rfl (Cov.skip rfl (Cov.skip rfl (Cov.skip rfl (Cov.skip rfl (Cov.skip rfl (Cov.skip rfl (Cov.skip rfl (Cov.skip rfl (Cov.skip rfl (Cov.skip rfl (Cov.skip rfl (Cov.skip rfl (Cov.skip rfl (Cov.skip rfl (Cov.skip rfl (Cov.skip rfl (Cov.skip rfl (Cov.skip rfl (Cov.skip rfl (Cov.skip rfl (Cov.skip rfl (Cov.skip rfl (Cov.skip rfl (Cov.skip rfl (Cov.skip rfl (Cov.skip rfl (Cov.skip rfl (Cov.skip rfl (Cov.skip rfl (Cov.skip rfl (Cov.refl _)))))))))))))))))))))))))))))))))))))))))))))))))⟩
            refine WO.nil ?_
            refine thenL_n ?_
            refine WC.cond rfl (fun q45 => ?_) (fun q45 => ?_)
            · have h := iteT q45 h
              refine WC.region ?_
              refine WO.asg rfl ?_
              refine WO.nil ?_
              refine blockL_n ?_
              refine thenL_n ?_
              refine WC.region ?_
              refine WO.bin rfl rfl (by decide) (by decide) rfl ?_
              refine WO.mv rfl ?_
              refine WO.nil ?_
              refine thenL_n ?_
              obtain rfl := someI h
              exact ⟨_, rfl, ⟨S15, rfl, rfl, (Cov.cons rfl (Cov.cons rfl (Cov.cons rfl (Cov.cons rfl (Cov.cons rfl (Cov.cons rfl (Cov.cons rfl (Cov.cons rfl (Cov.nil _))))))))), hot0, hot1⟩⟩
            · have h := iteF q45 h
              refine WC.skip ?_
              refine blockL_n ?_
              refine thenL_n ?_
              refine WC.region ?_
              refine WO.bin rfl rfl (by decide) (by decide) rfl ?_
              refine WO.mv rfl ?_
              refine WO.nil ?_
              refine thenL_n ?_
              obtain rfl := someI h
              exact ⟨_, rfl, ⟨S15, rfl, rfl, (Cov.cons rfl (Cov.cons rfl (Cov.cons rfl (Cov.cons rfl (Cov.cons rfl (Cov.cons rfl (Cov.cons rfl (Cov.cons rfl (Cov.nil _))))))))), hot0, hot1⟩⟩
          · have h := iteF q17 h
            refine WC.exit ?_
            refine thenL_e ?_
            refine thenL_e ?_
            obtain rfl := someI h
            exact ⟨_, rfl, rfl, ⟨S15, rfl, rfl, (Cov.cons rfl (Cov.cons rfl (Cov.cons rfl (Cov.cons rfl (Cov.cons rfl (Cov.cons rfl (Cov.nil _))))))), hot0, hot1⟩⟩
        rintro _ _ _ _ ⟨rfl, ⟨S48, rfl, rfl, hc49, hot0, hot1⟩⟩
        refine blockL_s ?_
        refine thenL_n ?_
        refine WC.cov hc49 ?_
        refine WC.seq ?_
        refine WC.region ?_
        refine WO.mv rfl ?_
        refine WO.nil ?_
        refine thenL_n ?_
        refine WC.cond rfl (fun q50 => ?_) (fun q50 => ?_)
        · have h := iteT q50 h
          refine WC.seq ?_
          refine WC.region ?_
          refine WO.mv rfl ?_
          refine WO.asg rfl ?_
          refine WO.nil ?_
          refine thenL_n ?_
          refine WC.ret ?_
          refine blockL_r ?_
          refine thenL_r ?_
          refine thenL_r ?_
          obtain rfl := someI h
          exact ⟨_, rfl, rfl, ⟨S48, rfl, rfl, (Cov.cons rfl (Cov.nil _))⟩⟩
        · have h := iteF q50 h
          refine WC.skip ?_
          refine blockL_n ?_
          refine thenL_n ?_
          refine WC.region ?_
          refine WO.bin rfl rfl (by decide) (by decide) rfl ?_
          refine WO.mv rfl ?_
          refine WO.nil ?_
          refine thenL_n ?_
          obtain rfl := someI h
          exact ⟨_, rfl, ⟨S48, rfl, rfl, (Cov.cons rfl (Cov.cons rfl (Cov.cons rfl (Cov.cons rfl (Cov.nil _))))), hot0, hot1⟩⟩
    · have h := iteF q8 h
      refine WC.exit ?_
      refine thenL_e ?_
      refine thenL_e ?_
      obtain rfl := someI h
      exact ⟨_, rfl, rfl, ⟨S6, rfl, rfl, (Cov.nil _)⟩⟩
  cases b51 with
  | inl b53 =>
    simp only at h
    rintro _ _ _ _ ⟨rfl, ⟨S54, rfl, rfl, hc55⟩⟩
    refine blockL_s ?_
    refine thenL_n ?_
    refine WC.cov hc55 ?_
    refine WC.seq ?_
    refine WC.region ?_
    refine WO.asg rfl ?_
    refine WO.nil ?_
    refine thenL_n ?_
    refine WC.ret ?_
    obtain rfl := someI h
    exact ⟨.inr rfl, _, _, rfl, rfl, rfl⟩
  | inr b53 =>
    simp only at h
    rintro _ _ _ _ ⟨rfl, ⟨S56, rfl, rfl, hc57⟩⟩
    refine blockL_r ?_
    refine thenL_r ?_
    obtain rfl := someI h
    exact ⟨.inr rfl, _, _, (resK_cov hc57 rfl), rfl, rfl⟩
end Go.Proofs.Ytkfmedmanhcdeaa

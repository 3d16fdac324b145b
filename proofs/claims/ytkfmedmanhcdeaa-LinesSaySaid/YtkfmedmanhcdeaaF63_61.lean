/- The machine answers F63_61: printed by a program of ours (gen.py). -/
import Derived.Test.YtkfmedmanhcdeaaDef
import Derived.Test.YtkfmedmanhcdeaaEnv
import Derived.Test.YtkfmedmanhcdeaaF110_61
import Derived.Test.YtkfmedmanhcdeaaF61
set_option linter.unusedVariables false
namespace Go.Proofs.Ytkfmedmanhcdeaa
open Go.Am
theorem F63_61.fn : E.fn 63 = some ⟨61, (Try.f63.body.getD .skip), Try.f63.results.toList, []⟩ := rfl
theorem F63_61_ok {F : Nat} {m : Mem} {n : Nat} {r : Bool} {t0 : List Int} {t1 : List Int} {vt0 : SV} {vt1 : SV} (h : F63_61 F t0 t1 = some r) (kt0 : Vw Y3 n m vt0 t0) (kt1 : Vw Y3 n m vt1 t1) : Ret E n 63 [.sc vt0, .sc vt1, .sc (.fn 61 [])] m n (fun v m' n' => v = .sc (.bool r)) := by
  unfold F63_61 at h
  refine Ret.walk F63_61.fn ?_
  refine WC.start fun S0 em en hz => ?_
  have hot0 := kt0.rdS em hz
  have hot1 := kt1.rdS em hz
  refine WC.seq ?_
  refine WC.region ?_
  refine WO.asg rfl ?_
  refine WO.nil ?_
  refine thenL_n ?_
  refine WC.seq ?_
  refine WC.seq ?_
  refine WC.region ?_
  refine WO.mv rfl ?_
  refine WO.lenS rfl hot1.slv rfl ?_
  refine WO.mv rfl ?_
  refine WO.mv rfl ?_
  obtain ⟨r1, e2, h⟩ := bindS h
  refine WO.callE (S := S0) rfl rfl (F110_61_ok e2 hot0.vw) (fun S3 c4 => ?_)
  have hot0 := hot0.to c4
  have hot1 := hot1.to c4
  refine WO.bin rfl rfl (by decide) (by decide) rfl ?_
  refine WO.nil ?_
  refine thenL_n ?_
  refine WC.cond rfl (fun q5 => ?_) (fun q5 => ?_)
  · have h := iteT q5 h
    refine WC.seq ?_
    refine WC.region ?_
    refine WO.asg rfl ?_
    refine WO.nil ?_
    refine thenL_n ?_
    refine WC.ret ?_
    refine thenL_r ?_
    obtain rfl := someI h
    exact ⟨.inr rfl, _, _, rfl, rfl, rfl⟩
  · have h := iteF q5 h
    refine WC.skip ?_
    refine thenL_n ?_
    refine WC.seq ?_
    refine WC.seq ?_
    refine WC.region ?_
    refine WO.mv rfl ?_
    refine WO.lenS rfl hot1.slv rfl ?_
    refine WO.mv rfl ?_
    refine WO.nil ?_
    refine thenL_n ?_
    refine WC.block ?_
    obtain ⟨b45, e46, h⟩ := bindS h
    refine WC.loopD e46 (fun s6 l' m' n' => ∃ S7 : Cx n, S7.m = m' ∧ S7.n = n' ∧ Cov l' [(0, .sc vt0), (1, .sc vt1), (2, .sc (.fn 61 [])), (15, .sc vt1), (16, .sc (.int .i64 ((t1.length : Int)))), (17, .sc (.int .i64 s6))] ∧ Rd Y3 S7 vt0 t0 ∧ Rd Y3 S7 vt1 t1) (fun b e l' m' n' => (match b with | .inl b8 => e = .exit 0 ∧ ∃ S9 : Cx n, S9.m = m' ∧ S9.n = n' ∧ Cov l' [] | .inr b8 => e = .ret ∧ ∃ S10 : Cx n, S10.m = m' ∧ S10.n = n' ∧ Cov l' [(6, .sc (.bool b8))])) (by exact ⟨S3, rfl, rfl, (Cov.cons rfl (Cov.cons rfl (Cov.cons rfl (Cov.cons rfl (Cov.cons rfl (Cov.cons rfl (Cov.nil _))))))), hot0, hot1⟩) ?_ ?_
    · clear h
      rintro s6 q _ _ _ ⟨S11, rfl, rfl, hc12, hot0, hot1⟩ h
      unfold F63_61_l0 at h
      refine WC.cov hc12 ?_
      refine WC.seq ?_
      refine WC.region ?_
      refine WO.bin rfl rfl (by decide) (by decide) rfl ?_
      refine WO.nil ?_
      refine thenL_n ?_
      refine WC.seq ?_
      refine WC.cond rfl (fun q13 => ?_) (fun q13 => ?_)
      · have h := iteT q13 h
        refine WC.skip ?_
        refine thenL_n ?_
        refine WC.seq ?_
        refine WC.block ?_
        refine WC.seq ?_
        refine WC.region ?_
        refine WO.mv rfl ?_
        obtain ⟨x14, e15, h⟩ := bindS h
        refine WO.ixS rfl rfl hot1.slv (at?_lt e15) rfl ?_
        refine WO.ldF rfl hot1.ro (fun _ hi => hi) (at?_get e15) rfl rfl rfl ?_
        refine WO.asg rfl ?_
        refine WO.asg rfl ?_
        refine WO.nil ?_
        refine thenL_n ?_
        refine WC.seq ?_
        refine WC.drawN rfl ?_
        have hot0z := hot0.oz
        have hot1z := hot1.oz
        refine WO.mv rfl ?_
        refine WO.bin rfl rfl (by decide) (by decide) rfl ?_
        refine WO.mv rfl ?_
        refine WO.cutB (d := 29) 5 ((decide (x14 < 0)) || (decide (x14 ≥ (t0.length : Int)))) (fun q16 => ?_) (fun q16 => ?_) ?_
        · refine WO.gno rfl rfl ?_
          refine WO.gno rfl rfl ?_
          refine WO.gno rfl rfl ?_
          refine WO.gno rfl rfl ?_
          refine WO.pickT rfl rfl ?_
          refine WO.nil ?_
          exact ⟨rfl, rfl, (Cov.any rfl (orT q16) (Cov.skip rfl (Cov.skip rfl (Cov.skip rfl (Cov.skip rfl (Cov.skip rfl (Cov.skip rfl (Cov.refl _))))))))⟩
        · skip
          refine WO.gyes rfl rfl ?_
          refine WO.mv rfl ?_
          refine WO.gyes rfl rfl ?_
          refine WO.mv rfl ?_
          refine WO.gyes rfl rfl ?_
          refine WO.lenS rfl hot0.slv rfl ?_
          refine WO.gyes rfl rfl ?_
          refine WO.bin rfl rfl (by decide) (by decide) rfl ?_
          refine WO.pickF rfl rfl ?_
          refine WO.nil ?_
          exact ⟨rfl, rfl, (Cov.any rfl (orF q16) (Cov.skip rfl (Cov.skip rfl (Cov.skip rfl (Cov.skip rfl (Cov.skip rfl (Cov.skip rfl (Cov.refl _))))))))⟩
        refine WO.mv rfl ?_
        obtain ⟨y40, e41, h⟩ := bindS h
        refine WO.cutS (d := 59) (S := S11) 29 y40 (fun q39 => ?_) (fun q39 => ?_) (fun S42 c43 => ?_)
        · have h := e41
          have h := iteT q39 h
          obtain rfl := someI h
          refine WO.gno rfl rfl ?_
          refine WO.gno rfl rfl ?_
          refine WO.gno rfl rfl ?_
          refine WO.gskip rfl rfl ?_
          refine WO.gskip rfl rfl ?_
          refine WO.gskip rfl rfl ?_
          refine WO.gskip rfl rfl ?_
          refine WO.gskip rfl rfl ?_
          refine WO.gskip rfl rfl ?_
          refine WO.gskip rfl rfl ?_
          refine WO.gskip rfl rfl ?_
          refine WO.gskip rfl rfl ?_
          refine WO.gskip rfl rfl ?_
          refine WO.gskip rfl rfl ?_
          refine WO.gskip rfl rfl ?_
          refine WO.gskip rfl rfl ?_
          refine WO.gskip rfl rfl ?_
          refine WO.gskip rfl rfl ?_
          refine WO.gskip rfl rfl ?_
          refine WO.gskip rfl rfl ?_
          refine WO.gskip rfl rfl ?_
          refine WO.gskip rfl rfl ?_
          refine WO.gskip rfl rfl ?_
          refine WO.gskip rfl rfl ?_
          refine WO.gskip rfl rfl ?_
          refine WO.gskip rfl rfl ?_
          refine WO.gskip rfl rfl ?_
          refine WO.gno rfl rfl ?_
          refine WO.pickT rfl rfl ?_
          refine WO.nil ?_
          exact ⟨S11, rfl, rfl, Ch.refl _ _, (Cov.cons rfl (Cov.skip rfl (Cov.skip rfl (Cov.skip rfl (Cov.skip rfl (Cov.skip rfl (Cov.skip rfl (Cov.skip rfl (Cov.skip rfl (Cov.skip rfl (Cov.skip rfl (Cov.skip rfl (Cov.skip rfl (Cov.skip rfl (Cov.skip rfl (Cov.skip rfl (Cov.skip rfl (Cov.skip rfl (Cov.skip rfl (Cov.skip rfl (Cov.skip rfl (Cov.skip rfl (Cov.skip rfl (Cov.skip rfl (Cov.skip rfl (Cov.skip rfl (Cov.skip rfl (Cov.skip rfl (Cov.skip rfl (Cov.skip rfl (Cov.skip rfl (Cov.refl _))))))))))))))))))))))))))))))))⟩
        · have h := e41
          have h := iteF q39 h
          refine WO.gyes rfl rfl ?_
          refine WO.mv rfl ?_
          refine WO.gyes rfl rfl ?_
          refine WO.bin rfl rfl (by decide) (by decide) rfl ?_
          refine WO.gyes rfl rfl ?_
          refine WO.mv rfl ?_
          obtain ⟨y35, e36, h⟩ := bindS h
          refine WO.cutS (d := 58) (S := S11) 25 y35 (fun q34 => ?_) (fun q34 => ?_) (fun S37 c38 => ?_)
          · have h := e36
            have h := iteT q34 h
            refine WO.gyes rfl rfl ?_
            refine WO.mv rfl ?_
            refine WO.gyes rfl rfl ?_
            refine WO.mv rfl ?_
            refine WO.gyes rfl rfl ?_
            refine WO.mv rfl ?_
            refine WO.gyes rfl rfl ?_
            refine WO.bin rfl rfl (by decide) (by decide) rfl ?_
            refine WO.gyes rfl rfl ?_
            obtain ⟨x17, e18, h⟩ := bindS h
            refine WO.ixS rfl rfl hot1.slv (at?_lt e18) rfl ?_
            refine WO.gyes rfl rfl ?_
            refine WO.ldF rfl hot1z (fun _ hi => hi.1) (at?_get e18) rfl rfl (limLe_self _) ?_
            refine WO.gyes rfl rfl ?_
            refine WO.bin rfl rfl (by decide) (by decide) rfl ?_
            refine WO.gyes rfl rfl ?_
            refine WO.mv rfl ?_
            obtain ⟨y30, e31, h⟩ := bindS h
            refine WO.cutS (d := 57) (S := S11) 16 y30 (fun q29 => ?_) (fun q29 => ?_) (fun S32 c33 => ?_)
            · have h := e31
              have h := iteT q29 h
              obtain rfl := someI h
              refine WO.gno rfl rfl ?_
              refine WO.gno rfl rfl ?_
              refine WO.gno rfl rfl ?_
              refine WO.gno rfl rfl ?_
              refine WO.gno rfl rfl ?_
              refine WO.gno rfl rfl ?_
              refine WO.gno rfl rfl ?_
              refine WO.gno rfl rfl ?_
              refine WO.gno rfl rfl ?_
              refine WO.gno rfl rfl ?_
              refine WO.gno rfl rfl ?_
              refine WO.gno rfl rfl ?_
              refine WO.gno rfl rfl ?_
              refine WO.gno rfl rfl ?_
              refine WO.gno rfl rfl ?_
              refine WO.gyes rfl rfl ?_
              refine WO.pickT rfl rfl ?_
              refine WO.nil ?_
              exact ⟨S11, rfl, rfl, Ch.refl _ _, (Cov.cons rfl (Cov.skip rfl (Cov.skip rfl (Cov.skip rfl (Cov.skip rfl (Cov.skip rfl (Cov.skip rfl (Cov.skip rfl (Cov.skip rfl (Cov.skip rfl (Cov.skip rfl (Cov.skip rfl (Cov.skip rfl (Cov.skip rfl (Cov.skip rfl (Cov.skip rfl (Cov.skip rfl (Cov.skip rfl (Cov.refl _)))))))))))))))))))⟩
            · have h := e31
              have h := iteF q29 h
              refine WO.gyes rfl rfl ?_
              refine WO.mv rfl ?_
              refine WO.gyes rfl rfl ?_
              refine WO.mv rfl ?_
              refine WO.gyes rfl rfl ?_
              refine WO.mv rfl ?_
              refine WO.gyes rfl rfl ?_
              refine WO.mv rfl ?_
              refine WO.gyes rfl rfl ?_
              refine WO.bin rfl rfl (by decide) (by decide) rfl ?_
              refine WO.gyes rfl rfl ?_
              obtain ⟨x19, e20, h⟩ := bindS h
              refine WO.ixS rfl rfl hot1.slv (at?_lt e20) rfl ?_
              refine WO.gyes rfl rfl ?_
              refine WO.ldF rfl hot1z (fun _ hi => hi.1) (at?_get e20) rfl rfl (limLe_self _) ?_
              refine WO.gyes rfl rfl ?_
              obtain ⟨x21, e22, h⟩ := bindS h
              refine WO.ixS rfl rfl hot0.slv (at?_lt e22) rfl ?_
              refine WO.gyes rfl rfl ?_
              refine WO.ldF rfl hot0z (fun _ hi => hi.1) (at?_get e22) rfl rfl (limLe_self _) ?_
              refine WO.gyes rfl rfl ?_
              refine WO.mv rfl ?_
              refine WO.gyes rfl rfl ?_
              refine WO.mv rfl ?_
              refine WO.gyes rfl rfl ?_
              obtain ⟨x23, e24, h⟩ := bindS h
              refine WO.ixS rfl rfl hot0.slv (at?_lt e24) rfl ?_
              refine WO.gyes rfl rfl ?_
              refine WO.ldF rfl hot0z (fun _ hi => hi.1) (at?_get e24) rfl rfl (limLe_self _) ?_
              refine WO.gyes rfl rfl ?_
              obtain ⟨r25, e26, h⟩ := bindS h
              refine WO.callE (S := S11) rfl rfl (F61_ok e26) (fun S27 c28 => ?_)
              have hot0z := hot0z.toz c28
              have hot1z := hot1z.toz c28
              have hot0 := hot0.to c28
              have hot1 := hot1.to c28
              refine WO.gyes rfl rfl ?_
              refine WO.do rfl rfl ?_
              obtain rfl := someI h
              refine WO.gyes rfl rfl ?_
              refine WO.pickF rfl rfl ?_
              refine WO.nil ?_
              exact ⟨S27, rfl, rfl, c28, (Cov.cons rfl (Cov.skip rfl (Cov.skip rfl (Cov.skip rfl (Cov.skip rfl (Cov.skip rfl (Cov.skip rfl (Cov.skip rfl (Cov.skip rfl (Cov.skip rfl (Cov.skip rfl (Cov.skip rfl (Cov.skip rfl (Cov.skip rfl (Cov.skip rfl (Cov.skip rfl (Cov.skip rfl (Cov.skip rfl (Cov.refl _)))))))))))))))))))⟩
            have hot0z := hot0z.toz c33
            have hot1z := hot1z.toz c33
            have hot0 := hot0.to c33
            have hot1 := hot1.to c33
            obtain rfl := someI h
            refine WO.gyes rfl rfl ?_
            refine WO.pickT rfl rfl ?_
            refine WO.nil ?_
            exact ⟨S32, rfl, rfl, c33, (Cov.cons rfl (Cov.skip rfl (Cov.skip rfl (Cov.skip rfl (Cov.skip rfl (Cov.skip rfl (Cov.skip rfl (Cov.skip rfl (Cov.skip rfl (Cov.skip rfl (Cov.skip rfl (Cov.refl _))))))))))))⟩
          · have h := e36
            have h := iteF q34 h
            obtain rfl := someI h
            refine WO.gno rfl rfl ?_
            refine WO.gno rfl rfl ?_
            refine WO.gno rfl rfl ?_
            refine WO.gno rfl rfl ?_
            refine WO.gno rfl rfl ?_
            refine WO.gno rfl rfl ?_
            refine WO.gno rfl rfl ?_
            refine WO.gno rfl rfl ?_
            refine WO.gskip rfl rfl ?_
            refine WO.gskip rfl rfl ?_
            refine WO.gskip rfl rfl ?_
            refine WO.gskip rfl rfl ?_
            refine WO.gskip rfl rfl ?_
            refine WO.gskip rfl rfl ?_
            refine WO.gskip rfl rfl ?_
            refine WO.gskip rfl rfl ?_
            refine WO.gskip rfl rfl ?_
            refine WO.gskip rfl rfl ?_
            refine WO.gskip rfl rfl ?_
            refine WO.gskip rfl rfl ?_
            refine WO.gskip rfl rfl ?_
            refine WO.gskip rfl rfl ?_
            refine WO.gskip rfl rfl ?_
            refine WO.gno rfl rfl ?_
            refine WO.gyes rfl rfl ?_
            refine WO.pickF rfl rfl ?_
            refine WO.nil ?_
            exact ⟨S11, rfl, rfl, Ch.refl _ _, (Cov.cons rfl (Cov.skip rfl (Cov.skip rfl (Cov.skip rfl (Cov.skip rfl (Cov.skip rfl (Cov.skip rfl (Cov.skip rfl (Cov.skip rfl (Cov.skip rfl (Cov.skip rfl (Cov.skip rfl (Cov.skip rfl (Cov.skip rfl (Cov.skip rfl (Cov.skip rfl (Cov.skip rfl (Cov.skip rfl (Cov.skip rfl (Cov.skip rfl (Cov.skip rfl (Cov.skip rfl (Cov.skip rfl (Cov.skip rfl (Cov.skip rfl (Cov.skip rfl (Cov.skip rfl (Cov.refl _))))))))))))))))))))))))))))⟩
          have hot0z := hot0z.toz c38
          have hot1z := hot1z.toz c38
          have hot0 := hot0.to c38
          have hot1 := hot1.to c38
          obtain rfl := someI h
          refine WO.pickF rfl rfl ?_
          refine WO.nil ?_
          exact ⟨S37, rfl, rfl, c38, (Cov.cons rfl (Cov.skip rfl (Cov.skip rfl (Cov.skip rfl (Cov.skip rfl (Cov.skip rfl (Cov.refl _)))))))⟩
        have hot0z := hot0z.toz c43
        have hot1z := hot1z.toz c43
        have hot0 := hot0.to c43
        have hot1 := hot1.to c43
        refine WO.nil ?_
        refine thenL_n ?_
        refine WC.cond rfl (fun q44 => ?_) (fun q44 => ?_)
        · have h := iteT q44 h
          refine WC.seq ?_
          refine WC.region ?_
          refine WO.asg rfl ?_
          refine WO.nil ?_
          refine thenL_n ?_
          refine WC.ret ?_
          refine blockL_r ?_
          refine thenL_r ?_
          refine thenL_r ?_
          obtain rfl := someI h
          exact ⟨_, rfl, rfl, ⟨S42, rfl, rfl, (Cov.cons rfl (Cov.nil _))⟩⟩
        · have h := iteF q44 h
          refine WC.skip ?_
          refine blockL_n ?_
          refine thenL_n ?_
          refine WC.region ?_
          refine WO.bin rfl rfl (by decide) (by decide) rfl ?_
          refine WO.mv rfl ?_
          refine WO.nil ?_
          refine thenL_n ?_
          obtain rfl := someI h
          exact ⟨_, rfl, ⟨S42, rfl, rfl, (Cov.cons rfl (Cov.cons rfl (Cov.cons rfl (Cov.cons rfl (Cov.cons rfl (Cov.cons rfl (Cov.nil _))))))), hot0, hot1⟩⟩
      · have h := iteF q13 h
        refine WC.exit ?_
        refine thenL_e ?_
        refine thenL_e ?_
        obtain rfl := someI h
        exact ⟨_, rfl, rfl, ⟨S11, rfl, rfl, (Cov.nil _)⟩⟩
    cases b45 with
    | inl b47 =>
      simp only at h
      rintro _ _ _ _ ⟨rfl, ⟨S48, rfl, rfl, hc49⟩⟩
      refine blockL_s ?_
      refine thenL_n ?_
      refine WC.cov hc49 ?_
      refine WC.seq ?_
      refine WC.region ?_
      refine WO.asg rfl ?_
      refine WO.nil ?_
      refine thenL_n ?_
      refine WC.ret ?_
      obtain rfl := someI h
      exact ⟨.inr rfl, _, _, rfl, rfl, rfl⟩
    | inr b47 =>
      simp only at h
      rintro _ _ _ _ ⟨rfl, ⟨S50, rfl, rfl, hc51⟩⟩
      refine blockL_r ?_
      refine thenL_r ?_
      obtain rfl := someI h
      exact ⟨.inr rfl, _, _, (resK_cov hc51 rfl), rfl, rfl⟩
end Go.Proofs.Ytkfmedmanhcdeaa

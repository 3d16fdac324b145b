/- The machine answers F30: printed by a program of ours (gen.py). -/
import Derived.Test.YtihmliblbhjlaaaDef
import Derived.Test.YtihmliblbhjlaaaEnv
import Derived.Test.YtihmliblbhjlaaaF106
import Derived.Test.YtihmliblbhjlaaaF31
set_option linter.unusedVariables false
namespace Go.Proofs.Ytihmliblbhjlaaa
open Go.Am
theorem F30.fn : E.fn 30 = some ⟨84, (Try.f30.body.getD .skip), Try.f30.results.toList, []⟩ := rfl
theorem F30_ok {F : Nat} {m : Mem} {n : Nat} {r : Int} {t0 : List (List Int)} {vt0 : SV} (h : F30 F t0 = some r) (kt0 : Vw Y22 n m vt0 t0) : Ret E n 30 [.sc vt0] m n (fun v m' n' => v = .sc (.int .i64 r)) := by
  unfold F30 at h
  refine Ret.walk F30.fn ?_
  refine WC.start fun S0 em en hz => ?_
  have hot0 := kt0.rdS em hz
  refine WC.seq ?_
  refine WC.region ?_
  refine WO.asg rfl ?_
  refine WO.nil ?_
  refine thenL_n ?_
  refine WC.seq ?_
  refine WC.region ?_
  refine WO.asg rfl ?_
  refine WO.nil ?_
  refine thenL_n ?_
  refine WC.seq ?_
  refine WC.seq ?_
  refine WC.region ?_
  refine WO.mv rfl ?_
  refine WO.lenS rfl hot0.slv rfl ?_
  refine WO.mv rfl ?_
  refine WO.nil ?_
  refine thenL_n ?_
  refine WC.block ?_
  obtain ⟨b21, e22, h⟩ := bindS h
  refine WC.loopD e22 (fun s1 l' m' n' => ∃ S3 : Cx n, ∃ v4 : SV, S3.m = m' ∧ S3.n = n' ∧ Cov l' [(0, .sc vt0), (3, .sc v4), (10, .sc vt0), (11, .sc (.int .i64 ((t0.length : Int)))), (12, .sc (.int .i64 s1.2))] ∧ Rd Y22 S3 vt0 t0 ∧ Ow Y3 S3 2 v4 s1.1) (fun b e l' m' n' => e = .exit 0 ∧ ∃ S5 : Cx n, ∃ v6 : SV, S5.m = m' ∧ S5.n = n' ∧ Cov l' [(0, .sc vt0), (3, .sc v6)] ∧ Rd Y22 S5 vt0 t0 ∧ Ow Y3 S5 2 v6 b) (by exact ⟨S0, .nils, rfl, rfl, (Cov.cons rfl (Cov.cons rfl (Cov.cons rfl (Cov.cons rfl (Cov.cons rfl (Cov.nil _)))))), hot0, Ow.nil⟩) ?_ ?_
  · clear h
    rintro s1 q _ _ _ ⟨S7, v8, rfl, rfl, hc9, hot0, ho3⟩ h
    unfold F30_l0 at h
    refine WC.cov hc9 ?_
    refine WC.seq ?_
    refine WC.region ?_
    refine WO.bin rfl rfl (by decide) (by decide) rfl ?_
    refine WO.nil ?_
    refine thenL_n ?_
    refine WC.seq ?_
    refine WC.cond rfl (fun q10 => ?_) (fun q10 => ?_)
    · have h := iteT q10 h
      refine WC.skip ?_
      refine thenL_n ?_
      refine WC.seq ?_
      refine WC.block ?_
      refine WC.seq ?_
      refine WC.region ?_
      obtain ⟨L11, e12, h⟩ := bindS h
      refine WO.ixS rfl rfl hot0.slv (at?_lt e12) rfl ?_
      refine WO.ldS rfl hot0.ro (fun _ hi => hi) (at?_get e12) rfl rfl (fun v13 ho14 => ?_)
      have ho14 : Rd Y3 S7 v13 L11 := ho14
      refine WO.asg rfl ?_
      refine WO.nil ?_
      refine thenL_n ?_
      refine WC.region ?_
      refine WO.mv rfl ?_
      refine WO.mv rfl ?_
      obtain ⟨L15, e16, h⟩ := bindS h
      refine WO.appS rfl rfl ho3 ho14.ro e16 rfl rfl (fun v17 S18 c19 ho20 => ?_)
      have hot0 := hot0.to c19
      have ho14 := ho14.to c19
      refine WO.asg rfl ?_
      refine WO.nil ?_
      refine blockL_n ?_
      refine thenL_n ?_
      refine WC.region ?_
      refine WO.bin rfl rfl (by decide) (by decide) rfl ?_
      refine WO.mv rfl ?_
      refine WO.nil ?_
      refine thenL_n ?_
      obtain rfl := someI h
      exact ⟨_, rfl, ⟨S18, v17, rfl, rfl, (Cov.cons rfl (Cov.cons rfl (Cov.cons rfl (Cov.cons rfl (Cov.cons rfl (Cov.nil _)))))), hot0, ho20⟩⟩
    · have h := iteF q10 h
      refine WC.exit ?_
      refine thenL_e ?_
      refine thenL_e ?_
      obtain rfl := someI h
      exact ⟨_, rfl, rfl, ⟨S7, v8, rfl, rfl, (Cov.cons rfl (Cov.cons rfl (Cov.nil _))), hot0, ho3⟩⟩
  rintro _ _ _ _ ⟨rfl, ⟨S23, v24, rfl, rfl, hc25, hot0, ho3⟩⟩
  refine blockL_s ?_
  refine thenL_n ?_
  refine WC.cov hc25 ?_
  refine WC.seq ?_
  refine WC.seq ?_
  refine WC.region ?_
  refine WO.mv rfl ?_
  refine WO.lenS rfl ho3.slv rfl ?_
  refine WO.bin rfl rfl (by decide) (by decide) rfl ?_
  refine WO.mv rfl ?_
  refine WO.cutB (d := 27) 4 ((decide ((b21.length : Int) > 10)) || (decide ((t0.length : Int) > 10))) (fun q26 => ?_) (fun q26 => ?_) ?_
  · refine WO.gno rfl rfl ?_
    refine WO.gno rfl rfl ?_
    refine WO.gno rfl rfl ?_
    refine WO.pickT rfl rfl ?_
    refine WO.nil ?_
    exact ⟨rfl, rfl, (Cov.any rfl (orT q26) (Cov.skip rfl (Cov.skip rfl (Cov.skip rfl (Cov.skip rfl (Cov.skip rfl (Cov.refl _)))))))⟩
  · skip
    refine WO.gyes rfl rfl ?_
    refine WO.mv rfl ?_
    refine WO.gyes rfl rfl ?_
    refine WO.lenS rfl hot0.slv rfl ?_
    refine WO.gyes rfl rfl ?_
    refine WO.bin rfl rfl (by decide) (by decide) rfl ?_
    refine WO.pickF rfl rfl ?_
    refine WO.nil ?_
    exact ⟨rfl, rfl, (Cov.any rfl (orF q26) (Cov.skip rfl (Cov.skip rfl (Cov.skip rfl (Cov.skip rfl (Cov.skip rfl (Cov.refl _)))))))⟩
  refine WO.nil ?_
  refine thenL_n ?_
  refine WC.cond rfl (fun q27 => ?_) (fun q27 => ?_)
  · have h := iteT q27 h
    refine WC.seq ?_
    refine WC.region ?_
    refine WO.asg rfl ?_
    refine WO.nil ?_
    refine thenL_n ?_
    refine WC.ret ?_
    refine thenL_r ?_
    obtain rfl := someI h
    exact ⟨.inr rfl, _, _, rfl, rfl, rfl⟩
  · have h := iteF q27 h
    refine WC.skip ?_
    refine thenL_n ?_
    refine WC.seq ?_
    refine WC.seq ?_
    refine WC.region ?_
    refine WO.mv rfl ?_
    obtain ⟨r28, e29, h⟩ := bindS h
    refine WO.callE (S := S23) rfl rfl (F31_ok e29 ho3.vw) (fun S30 c31 => ?_)
    have hot0 := hot0.to c31
    have ho3 := ho3.to c31
    refine WO.bin rfl rfl (by decide) (by decide) rfl ?_
    refine WO.nil ?_
    refine thenL_n ?_
    refine WC.cond rfl (fun q32 => ?_) (fun q32 => ?_)
    · have h := iteT q32 h
      refine WC.seq ?_
      refine WC.region ?_
      refine WO.asg rfl ?_
      refine WO.nil ?_
      refine thenL_n ?_
      refine WC.ret ?_
      refine thenL_r ?_
      obtain rfl := someI h
      exact ⟨.inr rfl, _, _, rfl, rfl, rfl⟩
    · have h := iteF q32 h
      refine WC.skip ?_
      refine thenL_n ?_
      refine WC.seq ?_
      refine WC.seq ?_
      refine WC.region ?_
      refine WO.mv rfl ?_
      refine WO.lenS rfl hot0.slv rfl ?_
      refine WO.mv rfl ?_
      refine WO.nil ?_
      refine thenL_n ?_
      refine WC.block ?_
      obtain ⟨b92, e93, h⟩ := bindS h
      refine WC.loopD e93 (fun s33 l' m' n' => ∃ S34 : Cx n, S34.m = m' ∧ S34.n = n' ∧ Cov l' [(0, .sc vt0), (31, .sc vt0), (32, .sc (.int .i64 ((t0.length : Int)))), (33, .sc (.int .i64 s33))] ∧ Rd Y22 S34 vt0 t0) (fun b e l' m' n' => (match b with | .inl b35 => e = .exit 2 ∧ ∃ S36 : Cx n, S36.m = m' ∧ S36.n = n' ∧ Cov l' [] | .inr b35 => e = .ret ∧ ∃ S37 : Cx n, S37.m = m' ∧ S37.n = n' ∧ Cov l' [(2, .sc (.int .i64 b35))])) (by exact ⟨S30, rfl, rfl, (Cov.cons rfl (Cov.cons rfl (Cov.cons rfl (Cov.cons rfl (Cov.nil _))))), hot0⟩) ?_ ?_
      · clear h
        rintro s33 q _ _ _ ⟨S38, rfl, rfl, hc39, hot0⟩ h
        unfold F30_l2 at h
        refine WC.cov hc39 ?_
        refine WC.seq ?_
        refine WC.region ?_
        refine WO.bin rfl rfl (by decide) (by decide) rfl ?_
        refine WO.nil ?_
        refine thenL_n ?_
        refine WC.seq ?_
        refine WC.cond rfl (fun q40 => ?_) (fun q40 => ?_)
        · have h := iteT q40 h
          refine WC.skip ?_
          refine thenL_n ?_
          refine WC.seq ?_
          refine WC.block ?_
          refine WC.seq ?_
          refine WC.region ?_
          refine WO.mv rfl ?_
          obtain ⟨L41, e42, h⟩ := bindS h
          refine WO.ixS rfl rfl hot0.slv (at?_lt e42) rfl ?_
          refine WO.ldS rfl hot0.ro (fun _ hi => hi) (at?_get e42) rfl rfl (fun v43 ho44 => ?_)
          have ho44 : Rd Y3 S38 v43 L41 := ho44
          refine WO.asg rfl ?_
          refine WO.asg rfl ?_
          refine WO.nil ?_
          refine thenL_n ?_
          refine WC.seq ?_
          refine WC.seq ?_
          refine WC.region ?_
          refine WO.mv rfl ?_
          refine WO.lenS rfl ho44.slv rfl ?_
          refine WO.bin rfl rfl (by decide) (by decide) rfl ?_
          refine WO.mv rfl ?_
          obtain ⟨y50, e51, h⟩ := bindS h
          refine WO.cutS (d := 45) (S := S38) 4 y50 (fun q49 => ?_) (fun q49 => ?_) (fun S52 c53 => ?_)
          · have h := e51
            have h := iteT q49 h
            obtain rfl := someI h
            refine WO.gno rfl rfl ?_
            refine WO.gno rfl rfl ?_
            refine WO.gno rfl rfl ?_
            refine WO.pickT rfl rfl ?_
            refine WO.nil ?_
            exact ⟨S38, rfl, rfl, Ch.refl _ _, (Cov.cons rfl (Cov.skip rfl (Cov.skip rfl (Cov.skip rfl (Cov.skip rfl (Cov.skip rfl (Cov.refl _)))))))⟩
          · have h := e51
            have h := iteF q49 h
            refine WO.gyes rfl rfl ?_
            refine WO.mv rfl ?_
            refine WO.gyes rfl rfl ?_
            obtain ⟨r45, e46, h⟩ := bindS h
            refine WO.callE (S := S38) rfl rfl (F106_ok e46 ho44.vw) (fun S47 c48 => ?_)
            have hot0 := hot0.to c48
            have ho44 := ho44.to c48
            refine WO.gyes rfl rfl ?_
            refine WO.do rfl rfl ?_
            obtain rfl := someI h
            refine WO.pickF rfl rfl ?_
            refine WO.nil ?_
            exact ⟨S47, rfl, rfl, c48, (Cov.cons rfl (Cov.skip rfl (Cov.skip rfl (Cov.skip rfl (Cov.skip rfl (Cov.skip rfl (Cov.refl _)))))))⟩
          have hot0 := hot0.to c53
          have ho44 := ho44.to c53
          refine WO.mv rfl ?_
          obtain ⟨y62, e63, h⟩ := bindS h
          refine WO.cutB (d := 60) 14 y62 (fun q61 => ?_) (fun q61 => ?_) ?_
          · have h := e63
            have h := iteT q61 h
            obtain rfl := someI h
            refine WO.gno rfl rfl ?_
            refine WO.gno rfl rfl ?_
            refine WO.gno rfl rfl ?_
            refine WO.gskip rfl rfl ?_
            refine WO.gskip rfl rfl ?_
            refine WO.gskip rfl rfl ?_
            refine WO.gskip rfl rfl ?_
            refine WO.gskip rfl rfl ?_
            refine WO.gskip rfl rfl ?_
            refine WO.gskip rfl rfl ?_
            refine WO.gskip rfl rfl ?_
            refine WO.gskip rfl rfl ?_
            refine WO.gno rfl rfl ?_
            refine WO.pickT rfl rfl ?_
            refine WO.nil ?_
            exact ⟨rfl, rfl, (Cov.cons rfl (Cov.skip rfl (Cov.skip rfl (Cov.skip rfl (Cov.skip rfl (Cov.skip rfl (Cov.skip rfl (Cov.skip rfl (Cov.skip rfl (Cov.skip rfl (Cov.skip rfl (Cov.skip rfl (Cov.skip rfl (Cov.skip rfl (Cov.skip rfl (Cov.skip rfl (Cov.refl _)))))))))))))))))⟩
          · have h := e63
            have h := iteF q61 h
            refine WO.gyes rfl rfl ?_
            refine WO.mv rfl ?_
            refine WO.gyes rfl rfl ?_
            refine WO.bin rfl rfl (by decide) (by decide) rfl ?_
            refine WO.gyes rfl rfl ?_
            refine WO.mv rfl ?_
            obtain ⟨y59, e60, h⟩ := bindS h
            refine WO.cutB (d := 59) 10 y59 (fun q58 => ?_) (fun q58 => ?_) ?_
            · have h := e60
              have h := iteT q58 h
              refine WO.gyes rfl rfl ?_
              refine WO.mv rfl ?_
              refine WO.gyes rfl rfl ?_
              refine WO.lenS rfl ho44.slv rfl ?_
              refine WO.gyes rfl rfl ?_
              refine WO.mv rfl ?_
              refine WO.gyes rfl rfl ?_
              refine WO.mv rfl ?_
              refine WO.gyes rfl rfl ?_
              refine WO.bin rfl rfl (by decide) (by decide) rfl ?_
              refine WO.gyes rfl rfl ?_
              obtain ⟨L54, e55, h⟩ := bindS h
              refine WO.ixS rfl rfl hot0.slv (at?_lt e55) rfl ?_
              refine WO.gyes rfl rfl ?_
              refine WO.ldS rfl hot0.ro (fun _ hi => hi) (at?_get e55) rfl rfl (fun v56 ho57 => ?_)
              have ho57 : Rd Y3 S52 v56 L54 := ho57
              refine WO.gyes rfl rfl ?_
              refine WO.lenS rfl ho57.slv rfl ?_
              refine WO.gyes rfl rfl ?_
              refine WO.bin rfl rfl (by decide) (by decide) rfl ?_
              obtain rfl := someI h
              refine WO.gyes rfl rfl ?_
              refine WO.pickT rfl rfl ?_
              refine WO.nil ?_
              exact ⟨rfl, rfl, (Cov.cons rfl (Cov.skip rfl (Cov.skip rfl (Cov.skip rfl (Cov.skip rfl (Cov.skip rfl (Cov.skip rfl (Cov.skip rfl (Cov.skip rfl (Cov.skip rfl (Cov.skip rfl (Cov.skip rfl (Cov.refl _)))))))))))))⟩
            · have h := e60
              have h := iteF q58 h
              obtain rfl := someI h
              refine WO.gno rfl rfl ?_
              refine WO.gno rfl rfl ?_
              refine WO.gno rfl rfl ?_
              refine WO.gno rfl rfl ?_
              refine WO.gno rfl rfl ?_
              refine WO.gno rfl rfl ?_
              refine WO.gno rfl rfl ?_
              refine WO.gno rfl rfl ?_
              refine WO.gno rfl rfl ?_
              refine WO.gyes rfl rfl ?_
              refine WO.pickF rfl rfl ?_
              refine WO.nil ?_
              exact ⟨rfl, rfl, (Cov.cons rfl (Cov.skip rfl (Cov.skip rfl (Cov.skip rfl (Cov.skip rfl (Cov.skip rfl (Cov.skip rfl (Cov.skip rfl (Cov.skip rfl (Cov.skip rfl (Cov.skip rfl (Cov.skip rfl (Cov.refl _)))))))))))))⟩
            obtain rfl := someI h
            refine WO.pickF rfl rfl ?_
            refine WO.nil ?_
            exact ⟨rfl, rfl, (Cov.cons rfl (Cov.skip rfl (Cov.skip rfl (Cov.skip rfl (Cov.skip rfl (Cov.skip rfl (Cov.refl _)))))))⟩
          refine WO.nil ?_
          refine thenL_n ?_
          refine WC.cond rfl (fun q64 => ?_) (fun q64 => ?_)
          · have h := iteT q64 h
            refine WC.seq ?_
            refine WC.region ?_
            refine WO.asg rfl ?_
            refine WO.nil ?_
            refine thenL_n ?_
            refine WC.ret ?_
            refine thenL_r ?_
            refine blockL_r ?_
            refine thenL_r ?_
            refine thenL_r ?_
            obtain rfl := someI h
            exact ⟨_, rfl, rfl, ⟨S52, rfl, rfl, (Cov.cons rfl (Cov.nil _))⟩⟩
          · have h := iteF q64 h
            refine WC.skip ?_
            refine thenL_n ?_
            refine WC.seq ?_
            refine WC.region ?_
            refine WO.mv rfl ?_
            refine WO.lenS rfl ho44.slv rfl ?_
            refine WO.mv rfl ?_
            refine WO.nil ?_
            refine thenL_n ?_
            refine WC.block ?_
            obtain ⟨b85, e86, h⟩ := bindS h
            refine WC.loopD e86 (fun s65 l' m' n' => ∃ S66 : Cx n, S66.m = m' ∧ S66.n = n' ∧ Cov l' [(0, .sc vt0), (6, .sc (.int .i64 s33)), (31, .sc vt0), (32, .sc (.int .i64 ((t0.length : Int)))), (33, .sc (.int .i64 s33)), (61, .sc v43), (62, .sc (.int .i64 ((L41.length : Int)))), (63, .sc (.int .i64 s65))] ∧ Rd Y22 S66 vt0 t0 ∧ Rd Y3 S66 v43 L41) (fun b e l' m' n' => (match b with | .inl b67 => e = .exit 4 ∧ ∃ S68 : Cx n, S68.m = m' ∧ S68.n = n' ∧ Cov l' [(0, .sc vt0), (31, .sc vt0), (32, .sc (.int .i64 ((t0.length : Int)))), (33, .sc (.int .i64 s33))] ∧ Rd Y22 S68 vt0 t0 | .inr b67 => e = .ret ∧ ∃ S69 : Cx n, S69.m = m' ∧ S69.n = n' ∧ Cov l' [(2, .sc (.int .i64 b67))])) (by exact ⟨S52, rfl, rfl, (Cov.cons rfl (Cov.cons rfl (Cov.cons rfl (Cov.cons rfl (Cov.cons rfl (Cov.cons rfl (Cov.cons rfl (Cov.cons rfl (Cov.nil _))))))))), hot0, ho44⟩) ?_ ?_
            · clear h
              rintro s65 q _ _ _ ⟨S70, rfl, rfl, hc71, hot0, ho44⟩ h
              unfold F30_l1 at h
              refine WC.cov hc71 ?_
              refine WC.seq ?_
              refine WC.region ?_
              refine WO.bin rfl rfl (by decide) (by decide) rfl ?_
              refine WO.nil ?_
              refine thenL_n ?_
              refine WC.seq ?_
              refine WC.cond rfl (fun q72 => ?_) (fun q72 => ?_)
              · have h := iteT q72 h
                refine WC.skip ?_
                refine thenL_n ?_
                refine WC.seq ?_
                refine WC.block ?_
                refine WC.seq ?_
                refine WC.region ?_
                refine WO.mv rfl ?_
                obtain ⟨x73, e74, h⟩ := bindS h
                refine WO.ixS rfl rfl ho44.slv (at?_lt e74) rfl ?_
                refine WO.ldF rfl ho44.ro (fun _ hi => hi) (at?_get e74) rfl rfl rfl ?_
                refine WO.asg rfl ?_
                refine WO.asg rfl ?_
                refine WO.nil ?_
                refine thenL_n ?_
                refine WC.seq ?_
                refine WC.region ?_
                refine WO.mv rfl ?_
                refine WO.bin rfl rfl (by decide) (by decide) rfl ?_
                refine WO.mv rfl ?_
                obtain ⟨y82, e83, h⟩ := bindS h
                refine WO.cutB (d := 81) 11 y82 (fun q81 => ?_) (fun q81 => ?_) ?_
                · have h := e83
                  have h := iteT q81 h
                  refine WO.gyes rfl rfl ?_
                  refine WO.mv rfl ?_
                  refine WO.gyes rfl rfl ?_
                  refine WO.mv rfl ?_
                  refine WO.gyes rfl rfl ?_
                  refine WO.bin rfl rfl (by decide) (by decide) rfl ?_
                  refine WO.gyes rfl rfl ?_
                  obtain ⟨L75, e76, h⟩ := bindS h
                  refine WO.ixS rfl rfl hot0.slv (at?_lt e76) rfl ?_
                  refine WO.gyes rfl rfl ?_
                  refine WO.ldS rfl hot0.ro (fun _ hi => hi) (at?_get e76) rfl rfl (fun v77 ho78 => ?_)
                  have ho78 : Rd Y3 S70 v77 L75 := ho78
                  refine WO.gyes rfl rfl ?_
                  refine WO.mv rfl ?_
                  refine WO.gyes rfl rfl ?_
                  obtain ⟨x79, e80, h⟩ := bindS h
                  refine WO.ixS rfl rfl ho78.slv (at?_lt e80) rfl ?_
                  refine WO.gyes rfl rfl ?_
                  refine WO.ldF rfl ho78.ro (fun _ hi => hi) (at?_get e80) rfl rfl rfl ?_
                  refine WO.gyes rfl rfl ?_
                  refine WO.mv rfl ?_
                  refine WO.gyes rfl rfl ?_
                  refine WO.bin rfl rfl (by decide) (by decide) rfl ?_
                  obtain rfl := someI h
                  refine WO.pickT rfl rfl ?_
                  refine WO.nil ?_
                  exact ⟨rfl, rfl, (Cov.cons rfl (Cov.skip rfl (Cov.skip rfl (Cov.skip rfl (Cov.skip rfl (Cov.skip rfl (Cov.skip rfl (Cov.skip rfl (Cov.skip rfl (Cov.skip rfl (Cov.skip rfl (Cov.skip rfl (Cov.skip rfl (Cov.refl _))))))))))))))⟩
                · have h := e83
                  have h := iteF q81 h
                  obtain rfl := someI h
                  refine WO.gno rfl rfl ?_
                  refine WO.gno rfl rfl ?_
                  refine WO.gno rfl rfl ?_
                  refine WO.gno rfl rfl ?_
                  refine WO.gno rfl rfl ?_
                  refine WO.gno rfl rfl ?_
                  refine WO.gno rfl rfl ?_
                  refine WO.gno rfl rfl ?_
                  refine WO.gno rfl rfl ?_
                  refine WO.gno rfl rfl ?_
                  refine WO.pickF rfl rfl ?_
                  refine WO.nil ?_
                  exact ⟨rfl, rfl, (Cov.cons rfl (Cov.skip rfl (Cov.skip rfl (Cov.skip rfl (Cov.skip rfl (Cov.skip rfl (Cov.skip rfl (Cov.skip rfl (Cov.skip rfl (Cov.skip rfl (Cov.skip rfl (Cov.skip rfl (Cov.skip rfl (Cov.refl _))))))))))))))⟩
                refine WO.nil ?_
                refine thenL_n ?_
                refine WC.cond rfl (fun q84 => ?_) (fun q84 => ?_)
                · have h := iteT q84 h
                  refine WC.seq ?_
                  refine WC.region ?_
                  refine WO.asg rfl ?_
                  refine WO.nil ?_
                  refine thenL_n ?_
                  refine WC.ret ?_
                  refine blockL_r ?_
                  refine thenL_r ?_
                  refine thenL_r ?_
                  obtain rfl := someI h
                  exact ⟨_, rfl, rfl, ⟨S70, rfl, rfl, (Cov.cons rfl (Cov.nil _))⟩⟩
                · have h := iteF q84 h
                  refine WC.skip ?_
                  refine blockL_n ?_
                  refine thenL_n ?_
                  refine WC.region ?_
                  refine WO.bin rfl rfl (by decide) (by decide) rfl ?_
                  refine WO.mv rfl ?_
                  refine WO.nil ?_
                  refine thenL_n ?_
                  obtain rfl := someI h
                  exact ⟨_, rfl, ⟨S70, rfl, rfl, (Cov.cons rfl (Cov.cons rfl (Cov.cons rfl (Cov.cons rfl (Cov.cons rfl (Cov.cons rfl (Cov.cons rfl (Cov.cons rfl (Cov.nil _))))))))), hot0, ho44⟩⟩
              · have h := iteF q72 h
                refine WC.exit ?_
                refine thenL_e ?_
                refine thenL_e ?_
                obtain rfl := someI h
                exact ⟨_, rfl, rfl, ⟨S70, rfl, rfl, (Cov.cons rfl (Cov.cons rfl (Cov.cons rfl (Cov.cons rfl (Cov.nil _))))), hot0⟩⟩
            cases b85 with
            | inl b87 =>
              simp only at h
              rintro _ _ _ _ ⟨rfl, ⟨S88, rfl, rfl, hc89, hot0⟩⟩
              refine blockL_s ?_
              refine blockL_n ?_
              refine thenL_n ?_
              refine WC.cov hc89 ?_
              refine WC.region ?_
              refine WO.bin rfl rfl (by decide) (by decide) rfl ?_
              refine WO.mv rfl ?_
              refine WO.nil ?_
              refine thenL_n ?_
              obtain rfl := someI h
              exact ⟨_, rfl, ⟨S88, rfl, rfl, (Cov.cons rfl (Cov.cons rfl (Cov.cons rfl (Cov.cons rfl (Cov.nil _))))), hot0⟩⟩
            | inr b87 =>
              simp only at h
              rintro _ _ _ _ ⟨rfl, ⟨S90, rfl, rfl, hc91⟩⟩
              refine blockL_r ?_
              refine blockL_r ?_
              refine thenL_r ?_
              refine thenL_r ?_
              obtain rfl := someI h
              exact ⟨_, rfl, rfl, ⟨S90, rfl, rfl, (Cov.trans hc91 (Cov.cons rfl (Cov.nil _)))⟩⟩
        · have h := iteF q40 h
          refine WC.exit ?_
          refine thenL_e ?_
          refine thenL_e ?_
          obtain rfl := someI h
          exact ⟨_, rfl, rfl, ⟨S38, rfl, rfl, (Cov.nil _)⟩⟩
      cases b92 with
      | inl b94 =>
        simp only at h
        rintro _ _ _ _ ⟨rfl, ⟨S95, rfl, rfl, hc96⟩⟩
        refine blockL_s ?_
        refine thenL_n ?_
        refine WC.cov hc96 ?_
        refine WC.seq ?_
        refine WC.region ?_
        refine WO.asg rfl ?_
        refine WO.nil ?_
        refine thenL_n ?_
        refine WC.ret ?_
        obtain rfl := someI h
        exact ⟨.inr rfl, _, _, rfl, rfl, rfl⟩
      | inr b94 =>
        simp only at h
        rintro _ _ _ _ ⟨rfl, ⟨S97, rfl, rfl, hc98⟩⟩
        refine blockL_r ?_
        refine thenL_r ?_
        obtain rfl := someI h
        exact ⟨.inr rfl, _, _, (resK_cov hc98 rfl), rfl, rfl⟩
end Go.Proofs.Ytihmliblbhjlaaa

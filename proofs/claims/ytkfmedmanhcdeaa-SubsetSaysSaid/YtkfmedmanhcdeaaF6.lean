/- The machine answers F6: printed by a program of ours (gen.py). -/
import Derived.Test.YtkfmedmanhcdeaaDef
import Derived.Test.YtkfmedmanhcdeaaEnv
import Derived.Test.YtkfmedmanhcdeaaF26
import Derived.Test.YtkfmedmanhcdeaaF27
import Derived.Test.YtkfmedmanhcdeaaF28
import Derived.Test.YtkfmedmanhcdeaaF29
import Derived.Test.YtkfmedmanhcdeaaF30
import Derived.Test.YtkfmedmanhcdeaaF31
import Derived.Test.YtkfmedmanhcdeaaF32
import Derived.Test.YtkfmedmanhcdeaaF33
import Derived.Test.YtkfmedmanhcdeaaF34
set_option linter.unusedVariables false
namespace Go.Proofs.Ytkfmedmanhcdeaa
open Go.Am
theorem F6.fn : E.fn 6 = some ⟨152, (Try.f6.body.getD .skip), Try.f6.results.toList, []⟩ := rfl
theorem F6_ok {F : Nat} {m : Mem} {n : Nat} {r : Bool} {t0 : Int} {t1 : Int} {t2 : Int} {t3 : Int} (h : F6 F t0 t1 t2 t3 = some r)  : Ret E n 6 [.sc (.int .i64 t0), .sc (.int .i64 t1), .sc (.int .u16 t2), .sc (.int .i64 t3)] m n (fun v m' n' => v = .sc (.bool r)) := by
  unfold F6 at h
  refine Ret.walk F6.fn ?_
  refine WC.start fun S0 em en hz => ?_
  refine WC.seq ?_
  refine WC.region ?_
  refine WO.asg rfl ?_
  refine WO.nil ?_
  refine thenL_n ?_
  refine WC.seq ?_
  refine WC.region ?_
  refine WO.mv rfl ?_
  refine WO.mv rfl ?_
  obtain ⟨r1, e2, h⟩ := bindS h
  refine WO.callE (S := S0) rfl rfl (F26_ok e2) (fun S3 c4 => ?_)
  refine WO.mv rfl ?_
  refine WO.do rfl rfl ?_
  refine WO.do rfl rfl ?_
  refine WO.asg rfl ?_
  refine WO.asg rfl ?_
  refine WO.nil ?_
  refine thenL_n ?_
  refine WC.seq ?_
  refine WC.region ?_
  refine WO.mv rfl ?_
  refine WO.mv rfl ?_
  obtain ⟨r5, e6, h⟩ := bindS h
  refine WO.callE (S := S3) rfl rfl (F27_ok e6) (fun S7 c8 => ?_)
  refine WO.mv rfl ?_
  refine WO.do rfl rfl ?_
  refine WO.do rfl rfl ?_
  refine WO.asg rfl ?_
  refine WO.asg rfl ?_
  refine WO.nil ?_
  refine thenL_n ?_
  refine WC.seq ?_
  refine WC.region ?_
  refine WO.mv rfl ?_
  refine WO.mv rfl ?_
  obtain ⟨r9, e10, h⟩ := bindS h
  refine WO.callE (S := S7) rfl rfl (F28_ok e10) (fun S11 c12 => ?_)
  refine WO.mv rfl ?_
  refine WO.do rfl rfl ?_
  refine WO.do rfl rfl ?_
  refine WO.asg rfl ?_
  refine WO.asg rfl ?_
  refine WO.nil ?_
  refine thenL_n ?_
  refine WC.seq ?_
  refine WC.seq ?_
  refine WC.region ?_
  refine WO.mv rfl ?_
  obtain ⟨r13, e14, h⟩ := bindS h
  refine WO.callE (S := S11) rfl rfl (F29_ok e14) (fun S15 c16 => ?_)
  refine WO.mv rfl ?_
  obtain ⟨r17, e18, h⟩ := bindS h
  refine WO.callE (S := S15) rfl rfl (F30_ok e18) (fun S19 c20 => ?_)
  refine WO.bin rfl rfl (by decide) (by decide) rfl ?_
  refine WO.mv rfl ?_
  obtain ⟨y30, e31, h⟩ := bindS h
  refine WO.cutS (d := 46) (S := S19) 6 y30 (fun q29 => ?_) (fun q29 => ?_) (fun S32 c33 => ?_)
  · have h := e31
    have h := iteT q29 h
    obtain rfl := someI h
    refine WO.gno rfl rfl ?_
    refine WO.gno rfl rfl ?_
    refine WO.gno rfl rfl ?_
    refine WO.gno rfl rfl ?_
    refine WO.gno rfl rfl ?_
    refine WO.pickT rfl rfl ?_
    refine WO.nil ?_
    exact ⟨S19, rfl, rfl, Ch.refl _ _, (Cov.cons rfl (Cov.skip rfl (Cov.skip rfl (Cov.skip rfl (Cov.skip rfl (Cov.skip rfl (Cov.skip rfl (Cov.skip rfl (Cov.refl _)))))))))⟩
  · have h := e31
    have h := iteF q29 h
    refine WO.gyes rfl rfl ?_
    refine WO.mv rfl ?_
    refine WO.gyes rfl rfl ?_
    obtain ⟨r21, e22, h⟩ := bindS h
    refine WO.callE (S := S19) rfl rfl (F31_ok e22) (fun S23 c24 => ?_)
    refine WO.gyes rfl rfl ?_
    refine WO.mv rfl ?_
    refine WO.gyes rfl rfl ?_
    obtain ⟨r25, e26, h⟩ := bindS h
    refine WO.callE (S := S23) rfl rfl (F32_ok e26) (fun S27 c28 => ?_)
    refine WO.gyes rfl rfl ?_
    refine WO.bin rfl rfl (by decide) (by decide) rfl ?_
    obtain rfl := someI h
    refine WO.pickF rfl rfl ?_
    refine WO.nil ?_
    exact ⟨S27, rfl, rfl, (c24.trans c28), (Cov.cons rfl (Cov.skip rfl (Cov.skip rfl (Cov.skip rfl (Cov.skip rfl (Cov.skip rfl (Cov.skip rfl (Cov.skip rfl (Cov.refl _)))))))))⟩
  refine WO.nil ?_
  refine thenL_n ?_
  refine WC.cond rfl (fun q34 => ?_) (fun q34 => ?_)
  · have h := iteT q34 h
    refine WC.seq ?_
    refine WC.region ?_
    refine WO.asg rfl ?_
    refine WO.nil ?_
    refine thenL_n ?_
    refine WC.ret ?_
    refine thenL_r ?_
    obtain rfl := someI h
    exact ⟨.inr rfl, _, _, rfl, rfl, rfl⟩
  · have h := iteF q34 h
    refine WC.skip ?_
    refine thenL_n ?_
    refine WC.seq ?_
    refine WC.seq ?_
    refine WC.region ?_
    refine WO.mv rfl ?_
    refine WO.bin rfl rfl (by decide) (by decide) rfl ?_
    refine WO.mv rfl ?_
    refine WO.cutB (d := 52) 3 ((decide (t0 < 0)) || (decide (t0 > 16))) (fun q35 => ?_) (fun q35 => ?_) ?_
    · refine WO.gno rfl rfl ?_
      refine WO.gno rfl rfl ?_
      refine WO.pickT rfl rfl ?_
      refine WO.nil ?_
      exact ⟨rfl, rfl, (Cov.any rfl (orT q35) (Cov.skip rfl (Cov.skip rfl (Cov.skip rfl (Cov.skip rfl (Cov.refl _))))))⟩
    · skip
      refine WO.gyes rfl rfl ?_
      refine WO.mv rfl ?_
      refine WO.gyes rfl rfl ?_
      refine WO.bin rfl rfl (by decide) (by decide) rfl ?_
      refine WO.pickF rfl rfl ?_
      refine WO.nil ?_
      exact ⟨rfl, rfl, (Cov.any rfl (orF q35) (Cov.skip rfl (Cov.skip rfl (Cov.skip rfl (Cov.skip rfl (Cov.refl _))))))⟩
    refine WO.mv rfl ?_
    refine WO.cutB (d := 56) 3 (((decide (t0 < 0)) || (decide (t0 > 16))) || (decide (t1 < 0))) (fun q36 => ?_) (fun q36 => ?_) ?_
    · refine WO.gno rfl rfl ?_
      refine WO.gno rfl rfl ?_
      refine WO.pickT rfl rfl ?_
      refine WO.nil ?_
      exact ⟨rfl, rfl, (Cov.any rfl (orT q36) (Cov.skip rfl (Cov.skip rfl (Cov.skip rfl (Cov.skip rfl (Cov.refl _))))))⟩
    · skip
      refine WO.gyes rfl rfl ?_
      refine WO.mv rfl ?_
      refine WO.gyes rfl rfl ?_
      refine WO.bin rfl rfl (by decide) (by decide) rfl ?_
      refine WO.pickF rfl rfl ?_
      refine WO.nil ?_
      exact ⟨rfl, rfl, (Cov.any rfl (orF q36) (Cov.skip rfl (Cov.skip rfl (Cov.skip rfl (Cov.skip rfl (Cov.refl _))))))⟩
    refine WO.mv rfl ?_
    refine WO.cutB (d := 60) 3 ((((decide (t0 < 0)) || (decide (t0 > 16))) || (decide (t1 < 0))) || (decide (t1 > 16))) (fun q37 => ?_) (fun q37 => ?_) ?_
    · refine WO.gno rfl rfl ?_
      refine WO.gno rfl rfl ?_
      refine WO.pickT rfl rfl ?_
      refine WO.nil ?_
      exact ⟨rfl, rfl, (Cov.any rfl (orT q37) (Cov.skip rfl (Cov.skip rfl (Cov.skip rfl (Cov.skip rfl (Cov.refl _))))))⟩
    · skip
      refine WO.gyes rfl rfl ?_
      refine WO.mv rfl ?_
      refine WO.gyes rfl rfl ?_
      refine WO.bin rfl rfl (by decide) (by decide) rfl ?_
      refine WO.pickF rfl rfl ?_
      refine WO.nil ?_
      exact ⟨rfl, rfl, (Cov.any rfl (orF q37) (Cov.skip rfl (Cov.skip rfl (Cov.skip rfl (Cov.skip rfl (Cov.refl _))))))⟩
    refine WO.nil ?_
    refine thenL_n ?_
    obtain ⟨b51, e52, h⟩ := bindS h
    refine WC.mono (Q' := (fun b e l' m' n' => (match b with | .inl b53 => e = .normal ∧ ∃ S54 : Cx n, S54.m = m' ∧ S54.n = n' ∧ Cov l' [(0, .sc (.int .i64 t0)), (1, .sc (.int .i64 t1)), (2, .sc (.int .u16 t2)), (3, .sc (.int .i64 t3)), (11, .sc (.int .u16 r5.1)), (12, .sc (.int .i64 r5.2)), (13, .sc (.int .u16 r9.1)), (14, .sc (.int .i64 r9.2))] | .inr b53 => e = .ret ∧ ∃ S55 : Cx n, S55.m = m' ∧ S55.n = n' ∧ Cov l' [(8, .sc (.bool b53))])) b51) ?_ ?_
    · have h := e52
      dsimp only at h ⊢
      refine WC.cond rfl (fun q38 => ?_) (fun q38 => ?_)
      · have h := iteT q38 h
        refine WC.seq ?_
        refine WC.region ?_
        refine WO.mv rfl ?_
        refine WO.bin rfl rfl (by decide) (by decide) rfl ?_
        refine WO.mv rfl ?_
        refine WO.cutB (d := 66) 3 ((r1.2 != 1) || (r1.1 != 0)) (fun q39 => ?_) (fun q39 => ?_) ?_
        · refine WO.gno rfl rfl ?_
          refine WO.gno rfl rfl ?_
          refine WO.pickT rfl rfl ?_
          refine WO.nil ?_
          exact ⟨rfl, rfl, (Cov.any rfl (orT q39) (Cov.skip rfl (Cov.skip rfl (Cov.skip rfl (Cov.skip rfl (Cov.refl _))))))⟩
        · skip
          refine WO.gyes rfl rfl ?_
          refine WO.mv rfl ?_
          refine WO.gyes rfl rfl ?_
          refine WO.bin rfl rfl (by decide) (by decide) rfl ?_
          refine WO.pickF rfl rfl ?_
          refine WO.nil ?_
          exact ⟨rfl, rfl, (Cov.any rfl (orF q39) (Cov.skip rfl (Cov.skip rfl (Cov.skip rfl (Cov.skip rfl (Cov.refl _))))))⟩
        refine WO.nil ?_
        refine thenL_n ?_
        refine WC.cond rfl (fun q40 => ?_) (fun q40 => ?_)
        · have h := iteT q40 h
          refine WC.seq ?_
          refine WC.region ?_
          refine WO.asg rfl ?_
          refine WO.nil ?_
          refine thenL_n ?_
          refine WC.ret ?_
          obtain rfl := someI h
          exact ⟨rfl, ⟨S32, rfl, rfl, (Cov.cons rfl (Cov.nil _))⟩⟩
        · have h := iteF q40 h
          refine WC.skip ?_
          obtain rfl := someI h
          exact ⟨rfl, ⟨S32, rfl, rfl, (Cov.cons rfl (Cov.cons rfl (Cov.cons rfl (Cov.cons rfl (Cov.cons rfl (Cov.cons rfl (Cov.cons rfl (Cov.cons rfl (Cov.nil _)))))))))⟩⟩
      · have h := iteF q38 h
        refine WC.seq ?_
        refine WC.region ?_
        refine WO.mv rfl ?_
        refine WO.bin rfl rfl (by decide) (by decide) rfl ?_
        refine WO.mv rfl ?_
        obtain ⟨y46, e47, h⟩ := bindS h
        refine WO.cutS (d := 75) (S := S32) 6 y46 (fun q45 => ?_) (fun q45 => ?_) (fun S48 c49 => ?_)
        · have h := e47
          have h := iteT q45 h
          obtain rfl := someI h
          refine WO.gno rfl rfl ?_
          refine WO.gno rfl rfl ?_
          refine WO.gno rfl rfl ?_
          refine WO.gno rfl rfl ?_
          refine WO.gno rfl rfl ?_
          refine WO.pickT rfl rfl ?_
          refine WO.nil ?_
          exact ⟨S32, rfl, rfl, Ch.refl _ _, (Cov.cons rfl (Cov.skip rfl (Cov.skip rfl (Cov.skip rfl (Cov.skip rfl (Cov.skip rfl (Cov.skip rfl (Cov.skip rfl (Cov.refl _)))))))))⟩
        · have h := e47
          have h := iteF q45 h
          refine WO.gyes rfl rfl ?_
          refine WO.mv rfl ?_
          refine WO.gyes rfl rfl ?_
          refine WO.mv rfl ?_
          refine WO.gyes rfl rfl ?_
          refine WO.mv rfl ?_
          refine WO.gyes rfl rfl ?_
          obtain ⟨r41, e42, h⟩ := bindS h
          refine WO.callE (S := S32) rfl rfl (F33_ok e42) (fun S43 c44 => ?_)
          refine WO.gyes rfl rfl ?_
          refine WO.bin rfl rfl (by decide) (by decide) rfl ?_
          obtain rfl := someI h
          refine WO.pickF rfl rfl ?_
          refine WO.nil ?_
          exact ⟨S43, rfl, rfl, c44, (Cov.cons rfl (Cov.skip rfl (Cov.skip rfl (Cov.skip rfl (Cov.skip rfl (Cov.skip rfl (Cov.skip rfl (Cov.skip rfl (Cov.refl _)))))))))⟩
        refine WO.nil ?_
        refine thenL_n ?_
        refine WC.cond rfl (fun q50 => ?_) (fun q50 => ?_)
        · have h := iteT q50 h
          refine WC.seq ?_
          refine WC.region ?_
          refine WO.asg rfl ?_
          refine WO.nil ?_
          refine thenL_n ?_
          refine WC.ret ?_
          obtain rfl := someI h
          exact ⟨rfl, ⟨S48, rfl, rfl, (Cov.cons rfl (Cov.nil _))⟩⟩
        · have h := iteF q50 h
          refine WC.skip ?_
          obtain rfl := someI h
          exact ⟨rfl, ⟨S48, rfl, rfl, (Cov.cons rfl (Cov.cons rfl (Cov.cons rfl (Cov.cons rfl (Cov.cons rfl (Cov.cons rfl (Cov.cons rfl (Cov.cons rfl (Cov.nil _)))))))))⟩⟩
    dsimp only
    cases b51 with
    | inl b56 =>
      simp only at h
      rintro _ _ _ _ ⟨rfl, ⟨S57, rfl, rfl, hc58⟩⟩
      refine thenL_n ?_
      refine WC.cov hc58 ?_
      refine WC.seq ?_
      refine WC.seq ?_
      refine WC.region ?_
      refine WO.mv rfl ?_
      refine WO.bin rfl rfl (by decide) (by decide) rfl ?_
      refine WO.mv rfl ?_
      refine WO.cutB (d := 81) 3 ((decide (t1 < 0)) || (decide (t1 > 16))) (fun q59 => ?_) (fun q59 => ?_) ?_
      · refine WO.gno rfl rfl ?_
        refine WO.gno rfl rfl ?_
        refine WO.pickT rfl rfl ?_
        refine WO.nil ?_
        exact ⟨rfl, rfl, (Cov.any rfl (orT q59) (Cov.skip rfl (Cov.skip rfl (Cov.skip rfl (Cov.skip rfl (Cov.refl _))))))⟩
      · skip
        refine WO.gyes rfl rfl ?_
        refine WO.mv rfl ?_
        refine WO.gyes rfl rfl ?_
        refine WO.bin rfl rfl (by decide) (by decide) rfl ?_
        refine WO.pickF rfl rfl ?_
        refine WO.nil ?_
        exact ⟨rfl, rfl, (Cov.any rfl (orF q59) (Cov.skip rfl (Cov.skip rfl (Cov.skip rfl (Cov.skip rfl (Cov.refl _))))))⟩
      refine WO.mv rfl ?_
      refine WO.cutB (d := 85) 3 (((decide (t1 < 0)) || (decide (t1 > 16))) || (decide (t3 < 0))) (fun q60 => ?_) (fun q60 => ?_) ?_
      · refine WO.gno rfl rfl ?_
        refine WO.gno rfl rfl ?_
        refine WO.pickT rfl rfl ?_
        refine WO.nil ?_
        exact ⟨rfl, rfl, (Cov.any rfl (orT q60) (Cov.skip rfl (Cov.skip rfl (Cov.skip rfl (Cov.skip rfl (Cov.refl _))))))⟩
      · skip
        refine WO.gyes rfl rfl ?_
        refine WO.mv rfl ?_
        refine WO.gyes rfl rfl ?_
        refine WO.bin rfl rfl (by decide) (by decide) rfl ?_
        refine WO.pickF rfl rfl ?_
        refine WO.nil ?_
        exact ⟨rfl, rfl, (Cov.any rfl (orF q60) (Cov.skip rfl (Cov.skip rfl (Cov.skip rfl (Cov.skip rfl (Cov.refl _))))))⟩
      refine WO.mv rfl ?_
      obtain ⟨y66, e67, h⟩ := bindS h
      refine WO.cutS (d := 91) (S := S57) 5 y66 (fun q65 => ?_) (fun q65 => ?_) (fun S68 c69 => ?_)
      · have h := e67
        have h := iteT q65 h
        obtain rfl := someI h
        refine WO.gno rfl rfl ?_
        refine WO.gno rfl rfl ?_
        refine WO.gno rfl rfl ?_
        refine WO.gno rfl rfl ?_
        refine WO.pickT rfl rfl ?_
        refine WO.nil ?_
        exact ⟨S57, rfl, rfl, Ch.refl _ _, (Cov.cons rfl (Cov.skip rfl (Cov.skip rfl (Cov.skip rfl (Cov.skip rfl (Cov.skip rfl (Cov.skip rfl (Cov.refl _))))))))⟩
      · have h := e67
        have h := iteF q65 h
        refine WO.gyes rfl rfl ?_
        refine WO.mv rfl ?_
        refine WO.gyes rfl rfl ?_
        refine WO.mv rfl ?_
        refine WO.gyes rfl rfl ?_
        obtain ⟨r61, e62, h⟩ := bindS h
        refine WO.callE (S := S57) rfl rfl (F33_ok e62) (fun S63 c64 => ?_)
        refine WO.gyes rfl rfl ?_
        refine WO.bin rfl rfl (by decide) (by decide) rfl ?_
        obtain rfl := someI h
        refine WO.pickF rfl rfl ?_
        refine WO.nil ?_
        exact ⟨S63, rfl, rfl, c64, (Cov.cons rfl (Cov.skip rfl (Cov.skip rfl (Cov.skip rfl (Cov.skip rfl (Cov.skip rfl (Cov.skip rfl (Cov.refl _))))))))⟩
      refine WO.nil ?_
      refine thenL_n ?_
      obtain ⟨b92, e93, h⟩ := bindS h
      refine WC.mono (Q' := (fun b e l' m' n' => (match b with | .inl b94 => e = .normal ∧ ∃ S95 : Cx n, S95.m = m' ∧ S95.n = n' ∧ Cov l' [(0, .sc (.int .i64 t0)), (2, .sc (.int .u16 t2)), (13, .sc (.int .u16 r9.1)), (14, .sc (.int .i64 r9.2))] | .inr b94 => e = .ret ∧ ∃ S96 : Cx n, S96.m = m' ∧ S96.n = n' ∧ Cov l' [(8, .sc (.bool b94))])) b92) ?_ ?_
      · have h := e93
        dsimp only at h ⊢
        refine WC.cond rfl (fun q70 => ?_) (fun q70 => ?_)
        · have h := iteT q70 h
          refine WC.seq ?_
          refine WC.region ?_
          refine WO.mv rfl ?_
          refine WO.bin rfl rfl (by decide) (by decide) rfl ?_
          refine WO.mv rfl ?_
          refine WO.cutB (d := 97) 3 ((r5.2 != 1) || (r5.1 != 0)) (fun q71 => ?_) (fun q71 => ?_) ?_
          · refine WO.gno rfl rfl ?_
            refine WO.gno rfl rfl ?_
            refine WO.pickT rfl rfl ?_
            refine WO.nil ?_
            exact ⟨rfl, rfl, (Cov.any rfl (orT q71) (Cov.skip rfl (Cov.skip rfl (Cov.skip rfl (Cov.skip rfl (Cov.refl _))))))⟩
          · skip
            refine WO.gyes rfl rfl ?_
            refine WO.mv rfl ?_
            refine WO.gyes rfl rfl ?_
            refine WO.bin rfl rfl (by decide) (by decide) rfl ?_
            refine WO.pickF rfl rfl ?_
            refine WO.nil ?_
            exact ⟨rfl, rfl, (Cov.any rfl (orF q71) (Cov.skip rfl (Cov.skip rfl (Cov.skip rfl (Cov.skip rfl (Cov.refl _))))))⟩
          refine WO.nil ?_
          refine thenL_n ?_
          refine WC.cond rfl (fun q72 => ?_) (fun q72 => ?_)
          · have h := iteT q72 h
            refine WC.seq ?_
            refine WC.region ?_
            refine WO.asg rfl ?_
            refine WO.nil ?_
            refine thenL_n ?_
            refine WC.ret ?_
            obtain rfl := someI h
            exact ⟨rfl, ⟨S68, rfl, rfl, (Cov.cons rfl (Cov.nil _))⟩⟩
          · have h := iteF q72 h
            refine WC.skip ?_
            obtain rfl := someI h
            exact ⟨rfl, ⟨S68, rfl, rfl, (Cov.cons rfl (Cov.cons rfl (Cov.cons rfl (Cov.cons rfl (Cov.nil _)))))⟩⟩
        · have h := iteF q70 h
          refine WC.seq ?_
          refine WC.region ?_
          refine WO.mv rfl ?_
          refine WO.bin rfl rfl (by decide) (by decide) rfl ?_
          refine WO.mv rfl ?_
          obtain ⟨y78, e79, h⟩ := bindS h
          refine WO.cutS (d := 105) (S := S68) 5 y78 (fun q77 => ?_) (fun q77 => ?_) (fun S80 c81 => ?_)
          · have h := e79
            have h := iteT q77 h
            obtain rfl := someI h
            refine WO.gno rfl rfl ?_
            refine WO.gno rfl rfl ?_
            refine WO.gno rfl rfl ?_
            refine WO.gno rfl rfl ?_
            refine WO.pickT rfl rfl ?_
            refine WO.nil ?_
            exact ⟨S68, rfl, rfl, Ch.refl _ _, (Cov.cons rfl (Cov.skip rfl (Cov.skip rfl (Cov.skip rfl (Cov.skip rfl (Cov.skip rfl (Cov.skip rfl (Cov.refl _))))))))⟩
          · have h := e79
            have h := iteF q77 h
            refine WO.gyes rfl rfl ?_
            refine WO.mv rfl ?_
            refine WO.gyes rfl rfl ?_
            obtain ⟨r73, e74, h⟩ := bindS h
            refine WO.callE (S := S68) rfl rfl (F30_ok e74) (fun S75 c76 => ?_)
            refine WO.gyes rfl rfl ?_
            refine WO.mv rfl ?_
            refine WO.gyes rfl rfl ?_
            refine WO.bin rfl rfl (by decide) (by decide) rfl ?_
            obtain rfl := someI h
            refine WO.pickF rfl rfl ?_
            refine WO.nil ?_
            exact ⟨S75, rfl, rfl, c76, (Cov.cons rfl (Cov.skip rfl (Cov.skip rfl (Cov.skip rfl (Cov.skip rfl (Cov.skip rfl (Cov.skip rfl (Cov.refl _))))))))⟩
          refine WO.mv rfl ?_
          obtain ⟨y87, e88, h⟩ := bindS h
          refine WO.cutS (d := 111) (S := S80) 5 y87 (fun q86 => ?_) (fun q86 => ?_) (fun S89 c90 => ?_)
          · have h := e88
            have h := iteT q86 h
            obtain rfl := someI h
            refine WO.gno rfl rfl ?_
            refine WO.gno rfl rfl ?_
            refine WO.gno rfl rfl ?_
            refine WO.gno rfl rfl ?_
            refine WO.pickT rfl rfl ?_
            refine WO.nil ?_
            exact ⟨S80, rfl, rfl, Ch.refl _ _, (Cov.cons rfl (Cov.skip rfl (Cov.skip rfl (Cov.skip rfl (Cov.skip rfl (Cov.skip rfl (Cov.skip rfl (Cov.refl _))))))))⟩
          · have h := e88
            have h := iteF q86 h
            refine WO.gyes rfl rfl ?_
            refine WO.mv rfl ?_
            refine WO.gyes rfl rfl ?_
            obtain ⟨r82, e83, h⟩ := bindS h
            refine WO.callE (S := S80) rfl rfl (F32_ok e83) (fun S84 c85 => ?_)
            refine WO.gyes rfl rfl ?_
            refine WO.mv rfl ?_
            refine WO.gyes rfl rfl ?_
            refine WO.bin rfl rfl (by decide) (by decide) rfl ?_
            obtain rfl := someI h
            refine WO.pickF rfl rfl ?_
            refine WO.nil ?_
            exact ⟨S84, rfl, rfl, c85, (Cov.cons rfl (Cov.skip rfl (Cov.skip rfl (Cov.skip rfl (Cov.skip rfl (Cov.skip rfl (Cov.skip rfl (Cov.refl _))))))))⟩
          refine WO.nil ?_
          refine thenL_n ?_
          refine WC.cond rfl (fun q91 => ?_) (fun q91 => ?_)
          · have h := iteT q91 h
            refine WC.seq ?_
            refine WC.region ?_
            refine WO.asg rfl ?_
            refine WO.nil ?_
            refine thenL_n ?_
            refine WC.ret ?_
            obtain rfl := someI h
            exact ⟨rfl, ⟨S89, rfl, rfl, (Cov.cons rfl (Cov.nil _))⟩⟩
          · have h := iteF q91 h
            refine WC.skip ?_
            obtain rfl := someI h
            exact ⟨rfl, ⟨S89, rfl, rfl, (Cov.cons rfl (Cov.cons rfl (Cov.cons rfl (Cov.cons rfl (Cov.nil _)))))⟩⟩
      dsimp only
      cases b92 with
      | inl b97 =>
        simp only at h
        rintro _ _ _ _ ⟨rfl, ⟨S98, rfl, rfl, hc99⟩⟩
        refine thenL_n ?_
        refine WC.cov hc99 ?_
        refine WC.seq ?_
        refine WC.seq ?_
        refine WC.region ?_
        refine WO.mv rfl ?_
        refine WO.bin rfl rfl (by decide) (by decide) rfl ?_
        refine WO.mv rfl ?_
        refine WO.cutB (d := 117) 3 ((decide (t0 < 0)) || (decide (t0 > 16))) (fun q100 => ?_) (fun q100 => ?_) ?_
        · refine WO.gno rfl rfl ?_
          refine WO.gno rfl rfl ?_
          refine WO.pickT rfl rfl ?_
          refine WO.nil ?_
          exact ⟨rfl, rfl, (Cov.any rfl (orT q100) (Cov.skip rfl (Cov.skip rfl (Cov.skip rfl (Cov.skip rfl (Cov.refl _))))))⟩
        · skip
          refine WO.gyes rfl rfl ?_
          refine WO.mv rfl ?_
          refine WO.gyes rfl rfl ?_
          refine WO.bin rfl rfl (by decide) (by decide) rfl ?_
          refine WO.pickF rfl rfl ?_
          refine WO.nil ?_
          exact ⟨rfl, rfl, (Cov.any rfl (orF q100) (Cov.skip rfl (Cov.skip rfl (Cov.skip rfl (Cov.skip rfl (Cov.refl _))))))⟩
        refine WO.mv rfl ?_
        obtain ⟨y104, e105, h⟩ := bindS h
        refine WO.cutB (d := 124) 6 y104 (fun q103 => ?_) (fun q103 => ?_) ?_
        · have h := e105
          have h := iteT q103 h
          obtain rfl := someI h
          refine WO.gno rfl rfl ?_
          refine WO.gno rfl rfl ?_
          refine WO.gno rfl rfl ?_
          refine WO.gno rfl rfl ?_
          refine WO.gno rfl rfl ?_
          refine WO.pickT rfl rfl ?_
          refine WO.nil ?_
          exact ⟨rfl, rfl, (Cov.cons rfl (Cov.skip rfl (Cov.skip rfl (Cov.skip rfl (Cov.skip rfl (Cov.skip rfl (Cov.skip rfl (Cov.skip rfl (Cov.refl _)))))))))⟩
        · have h := e105
          have h := iteF q103 h
          refine WO.gyes rfl rfl ?_
          refine WO.mv rfl ?_
          refine WO.gyes rfl rfl ?_
          refine WO.conv rfl rfl rfl rfl ?_
          refine WO.gyes rfl rfl ?_
          refine WO.mv rfl ?_
          refine WO.gyes rfl rfl ?_
          obtain ⟨x101, e102, h⟩ := bindS h
          refine WO.shlD rfl rfl e102 ?_
          refine WO.gyes rfl rfl ?_
          refine WO.bin rfl rfl (by decide) (by decide) rfl ?_
          obtain rfl := someI h
          refine WO.pickF rfl rfl ?_
          refine WO.nil ?_
          exact ⟨rfl, rfl, (Cov.cons rfl (Cov.skip rfl (Cov.skip rfl (Cov.skip rfl (Cov.skip rfl (Cov.skip rfl (Cov.skip rfl (Cov.skip rfl (Cov.refl _)))))))))⟩
        refine WO.nil ?_
        refine thenL_n ?_
        refine WC.cond rfl (fun q106 => ?_) (fun q106 => ?_)
        · have h := iteT q106 h
          refine WC.seq ?_
          refine WC.region ?_
          refine WO.mv rfl ?_
          refine WO.bin rfl rfl (by decide) (by decide) rfl ?_
          refine WO.mv rfl ?_
          refine WO.cutB (d := 130) 3 ((r9.2 == 1) && (r9.1 == 0)) (fun q107 => ?_) (fun q107 => ?_) ?_
          · skip
            refine WO.gyes rfl rfl ?_
            refine WO.mv rfl ?_
            refine WO.gyes rfl rfl ?_
            refine WO.bin rfl rfl (by decide) (by decide) rfl ?_
            refine WO.pickT rfl rfl ?_
            refine WO.nil ?_
            exact ⟨rfl, rfl, (Cov.any rfl (andT q107) (Cov.skip rfl (Cov.skip rfl (Cov.skip rfl (Cov.skip rfl (Cov.refl _))))))⟩
          · refine WO.gno rfl rfl ?_
            refine WO.gno rfl rfl ?_
            refine WO.pickF rfl rfl ?_
            refine WO.nil ?_
            exact ⟨rfl, rfl, (Cov.any rfl (andF q107) (Cov.skip rfl (Cov.skip rfl (Cov.skip rfl (Cov.skip rfl (Cov.refl _))))))⟩
          refine WO.asg rfl ?_
          refine WO.nil ?_
          refine thenL_n ?_
          refine WC.ret ?_
          refine thenL_r ?_
          obtain rfl := someI h
          exact ⟨.inr rfl, _, _, rfl, rfl, rfl⟩
        · have h := iteF q106 h
          refine WC.skip ?_
          refine thenL_n ?_
          refine WC.seq ?_
          refine WC.region ?_
          refine WO.mv rfl ?_
          refine WO.mv rfl ?_
          obtain ⟨r108, e109, h⟩ := bindS h
          refine WO.callE (S := S98) rfl rfl (F34_ok e109) (fun S110 c111 => ?_)
          refine WO.mv rfl ?_
          refine WO.do rfl rfl ?_
          refine WO.do rfl rfl ?_
          refine WO.asg rfl ?_
          refine WO.asg rfl ?_
          refine WO.nil ?_
          refine thenL_n ?_
          refine WC.seq ?_
          refine WC.seq ?_
          refine WC.region ?_
          refine WO.mv rfl ?_
          refine WO.do rfl rfl ?_
          refine WO.nil ?_
          refine thenL_n ?_
          refine WC.cond rfl (fun q112 => ?_) (fun q112 => ?_)
          · have h := iteT q112 h
            refine WC.seq ?_
            refine WC.region ?_
            refine WO.mv rfl ?_
            refine WO.bin rfl rfl (by decide) (by decide) rfl ?_
            refine WO.mv rfl ?_
            refine WO.cutB (d := 144) 3 ((r9.2 == 4) && (r9.1 == 0)) (fun q113 => ?_) (fun q113 => ?_) ?_
            · skip
              refine WO.gyes rfl rfl ?_
              refine WO.mv rfl ?_
              refine WO.gyes rfl rfl ?_
              refine WO.bin rfl rfl (by decide) (by decide) rfl ?_
              refine WO.pickT rfl rfl ?_
              refine WO.nil ?_
              exact ⟨rfl, rfl, (Cov.any rfl (andT q113) (Cov.skip rfl (Cov.skip rfl (Cov.skip rfl (Cov.skip rfl (Cov.refl _))))))⟩
            · refine WO.gno rfl rfl ?_
              refine WO.gno rfl rfl ?_
              refine WO.pickF rfl rfl ?_
              refine WO.nil ?_
              exact ⟨rfl, rfl, (Cov.any rfl (andF q113) (Cov.skip rfl (Cov.skip rfl (Cov.skip rfl (Cov.skip rfl (Cov.refl _))))))⟩
            refine WO.asg rfl ?_
            refine WO.nil ?_
            refine thenL_n ?_
            refine WC.ret ?_
            refine thenL_r ?_
            obtain rfl := someI h
            exact ⟨.inr rfl, _, _, rfl, rfl, rfl⟩
          · have h := iteF q112 h
            refine WC.skip ?_
            refine thenL_n ?_
            refine WC.seq ?_
            refine WC.region ?_
            refine WO.mv rfl ?_
            refine WO.bin rfl rfl (by decide) (by decide) rfl ?_
            refine WO.mv rfl ?_
            refine WO.cutB (d := 151) 4 ((r9.2 == 0) && (r9.1 == r108.1)) (fun q114 => ?_) (fun q114 => ?_) ?_
            · skip
              refine WO.gyes rfl rfl ?_
              refine WO.mv rfl ?_
              refine WO.gyes rfl rfl ?_
              refine WO.mv rfl ?_
              refine WO.gyes rfl rfl ?_
              refine WO.bin rfl rfl (by decide) (by decide) rfl ?_
              refine WO.pickT rfl rfl ?_
              refine WO.nil ?_
              exact ⟨rfl, rfl, (Cov.any rfl (andT q114) (Cov.skip rfl (Cov.skip rfl (Cov.skip rfl (Cov.skip rfl (Cov.skip rfl (Cov.refl _)))))))⟩
            · refine WO.gno rfl rfl ?_
              refine WO.gno rfl rfl ?_
              refine WO.gno rfl rfl ?_
              refine WO.pickF rfl rfl ?_
              refine WO.nil ?_
              exact ⟨rfl, rfl, (Cov.any rfl (andF q114) (Cov.skip rfl (Cov.skip rfl (Cov.skip rfl (Cov.skip rfl (Cov.skip rfl (Cov.refl _)))))))⟩
            refine WO.asg rfl ?_
            refine WO.nil ?_
            refine thenL_n ?_
            refine WC.ret ?_
            obtain rfl := someI h
            exact ⟨.inr rfl, _, _, rfl, rfl, rfl⟩
      | inr b97 =>
        simp only at h
        rintro _ _ _ _ ⟨rfl, ⟨S115, rfl, rfl, hc116⟩⟩
        refine thenL_r ?_
        obtain rfl := someI h
        exact ⟨.inr rfl, _, _, (resK_cov hc116 rfl), rfl, rfl⟩
    | inr b56 =>
      simp only at h
      rintro _ _ _ _ ⟨rfl, ⟨S117, rfl, rfl, hc118⟩⟩
      refine thenL_r ?_
      obtain rfl := someI h
      exact ⟨.inr rfl, _, _, (resK_cov hc118 rfl), rfl, rfl⟩
end Go.Proofs.Ytkfmedmanhcdeaa

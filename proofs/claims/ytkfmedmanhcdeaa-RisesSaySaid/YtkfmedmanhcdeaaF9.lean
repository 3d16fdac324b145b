/- The machine answers F9: printed by a program of ours (gen.py). -/
import Derived.Test.YtkfmedmanhcdeaaDef
import Derived.Test.YtkfmedmanhcdeaaEnv
import Derived.Test.YtkfmedmanhcdeaaF38
import Derived.Test.YtkfmedmanhcdeaaF51
import Derived.Test.YtkfmedmanhcdeaaF52
import Derived.Test.YtkfmedmanhcdeaaF53
import Derived.Test.YtkfmedmanhcdeaaF54
import Derived.Test.YtkfmedmanhcdeaaF55
import Derived.Test.YtkfmedmanhcdeaaF56
set_option linter.unusedVariables false
namespace Go.Proofs.Ytkfmedmanhcdeaa
open Go.Am
theorem F9.fn : E.fn 9 = some ⟨149, (Try.f9.body.getD .skip), Try.f9.results.toList, []⟩ := rfl
theorem F9_ok {F : Nat} {m : Mem} {n : Nat} {r : Bool} {t0 : Int} {t1 : Int} {t2 : List Int} {vt2 : SV} (h : F9 F t0 t1 t2 = some r) (kt2 : Vw Y3 n m vt2 t2) : Ret E n 9 [.sc (.int .i64 t0), .sc (.int .i64 t1), .sc vt2] m n (fun v m' n' => v = .sc (.bool r)) := by
  unfold F9 at h
  refine Ret.walk F9.fn ?_
  refine WC.start fun S0 em en hz => ?_
  have hot2 := kt2.rdS em hz
  refine WC.seq ?_
  refine WC.region ?_
  refine WO.asg rfl ?_
  refine WO.nil ?_
  refine thenL_n ?_
  refine WC.seq ?_
  refine WC.region ?_
  refine WO.mv rfl ?_
  refine WO.mv rfl ?_
  obtain ⟨r1, e2, h⟩ := bindS h
  refine WO.callE (S := S0) rfl rfl (F51_ok e2) (fun S3 c4 => ?_)
  have hot2 := hot2.to c4
  refine WO.mv rfl ?_
  refine WO.do rfl rfl ?_
  refine WO.do rfl rfl ?_
  refine WO.asg rfl ?_
  refine WO.asg rfl ?_
  refine WO.nil ?_
  refine thenL_n ?_
  refine WC.seq ?_
  refine WC.region ?_
  refine WO.mv rfl ?_
  obtain ⟨r5, e6, h⟩ := bindS h
  refine WO.callE (S := S3) rfl rfl (F52_ok e6 hot2.vw) (fun S7 c8 => ?_)
  have hot2 := hot2.to c8
  refine WO.mv rfl ?_
  refine WO.do rfl rfl ?_
  refine WO.do rfl rfl ?_
  refine WO.asg rfl ?_
  refine WO.asg rfl ?_
  refine WO.nil ?_
  refine thenL_n ?_
  refine WC.seq ?_
  refine WC.region ?_
  refine WO.mv rfl ?_
  obtain ⟨r9, e10, h⟩ := bindS h
  refine WO.callE (S := S7) rfl rfl (F53_ok e10 hot2.vw) (fun S11 c12 => ?_)
  have hot2 := hot2.to c12
  refine WO.mv rfl ?_
  refine WO.do rfl rfl ?_
  refine WO.do rfl rfl ?_
  refine WO.asg rfl ?_
  refine WO.asg rfl ?_
  refine WO.nil ?_
  refine thenL_n ?_
  refine WC.seq ?_
  refine WC.region ?_
  refine WO.mv rfl ?_
  obtain ⟨r13, e14, h⟩ := bindS h
  refine WO.callE (S := S11) rfl rfl (F54_ok e14 hot2.vw) (fun S15 c16 => ?_)
  have hot2 := hot2.to c16
  refine WO.mv rfl ?_
  refine WO.do rfl rfl ?_
  refine WO.do rfl rfl ?_
  refine WO.asg rfl ?_
  refine WO.asg rfl ?_
  refine WO.nil ?_
  refine thenL_n ?_
  refine WC.seq ?_
  refine WC.seq ?_
  refine WC.region ?_
  refine WO.mv rfl ?_
  refine WO.bin rfl rfl (by decide) (by decide) rfl ?_
  refine WO.mv rfl ?_
  refine WO.cutB (d := 45) 3 ((decide (t0 < 0)) || (decide (t0 > 15))) (fun q17 => ?_) (fun q17 => ?_) ?_
  · refine WO.gno rfl rfl ?_
    refine WO.gno rfl rfl ?_
    refine WO.pickT rfl rfl ?_
    refine WO.nil ?_
    exact ⟨rfl, rfl, (Cov.any rfl (orT q17) (Cov.skip rfl (Cov.skip rfl (Cov.skip rfl (Cov.skip rfl (Cov.refl _))))))⟩
  · skip
    refine WO.gyes rfl rfl ?_
    refine WO.mv rfl ?_
    refine WO.gyes rfl rfl ?_
    refine WO.bin rfl rfl (by decide) (by decide) rfl ?_
    refine WO.pickF rfl rfl ?_
    refine WO.nil ?_
    exact ⟨rfl, rfl, (Cov.any rfl (orF q17) (Cov.skip rfl (Cov.skip rfl (Cov.skip rfl (Cov.skip rfl (Cov.refl _))))))⟩
  refine WO.mv rfl ?_
  refine WO.cutB (d := 49) 3 (((decide (t0 < 0)) || (decide (t0 > 15))) || (decide (t1 < 0))) (fun q18 => ?_) (fun q18 => ?_) ?_
  · refine WO.gno rfl rfl ?_
    refine WO.gno rfl rfl ?_
    refine WO.pickT rfl rfl ?_
    refine WO.nil ?_
    exact ⟨rfl, rfl, (Cov.any rfl (orT q18) (Cov.skip rfl (Cov.skip rfl (Cov.skip rfl (Cov.skip rfl (Cov.refl _))))))⟩
  · skip
    refine WO.gyes rfl rfl ?_
    refine WO.mv rfl ?_
    refine WO.gyes rfl rfl ?_
    refine WO.bin rfl rfl (by decide) (by decide) rfl ?_
    refine WO.pickF rfl rfl ?_
    refine WO.nil ?_
    exact ⟨rfl, rfl, (Cov.any rfl (orF q18) (Cov.skip rfl (Cov.skip rfl (Cov.skip rfl (Cov.skip rfl (Cov.refl _))))))⟩
  refine WO.mv rfl ?_
  refine WO.cutB (d := 53) 3 ((((decide (t0 < 0)) || (decide (t0 > 15))) || (decide (t1 < 0))) || (decide (t1 > 15))) (fun q19 => ?_) (fun q19 => ?_) ?_
  · refine WO.gno rfl rfl ?_
    refine WO.gno rfl rfl ?_
    refine WO.pickT rfl rfl ?_
    refine WO.nil ?_
    exact ⟨rfl, rfl, (Cov.any rfl (orT q19) (Cov.skip rfl (Cov.skip rfl (Cov.skip rfl (Cov.skip rfl (Cov.refl _))))))⟩
  · skip
    refine WO.gyes rfl rfl ?_
    refine WO.mv rfl ?_
    refine WO.gyes rfl rfl ?_
    refine WO.bin rfl rfl (by decide) (by decide) rfl ?_
    refine WO.pickF rfl rfl ?_
    refine WO.nil ?_
    exact ⟨rfl, rfl, (Cov.any rfl (orF q19) (Cov.skip rfl (Cov.skip rfl (Cov.skip rfl (Cov.skip rfl (Cov.refl _))))))⟩
  refine WO.nil ?_
  refine thenL_n ?_
  obtain ⟨b33, e34, h⟩ := bindS h
  refine WC.mono (Q' := (fun b e l' m' n' => (match b with | .inl b35 => e = .normal ∧ ∃ S36 : Cx n, S36.m = m' ∧ S36.n = n' ∧ Cov l' [(2, .sc vt2), (9, .sc (.int .i64 r5.1)), (10, .sc (.int .i64 r5.2)), (11, .sc (.int .i64 r9.1)), (12, .sc (.int .i64 r9.2)), (13, .sc (.int .i64 r13.1)), (14, .sc (.int .i64 r13.2))] ∧ Rd Y3 S36 vt2 t2 | .inr b35 => e = .ret ∧ ∃ S37 : Cx n, S37.m = m' ∧ S37.n = n' ∧ Cov l' [(6, .sc (.bool b35))])) b33) ?_ ?_
  · have h := e34
    dsimp only at h ⊢
    refine WC.cond rfl (fun q20 => ?_) (fun q20 => ?_)
    · have h := iteT q20 h
      refine WC.seq ?_
      refine WC.region ?_
      refine WO.mv rfl ?_
      refine WO.bin rfl rfl (by decide) (by decide) rfl ?_
      refine WO.mv rfl ?_
      refine WO.cutB (d := 59) 3 ((r1.2 != 1) || (r1.1 != 0)) (fun q21 => ?_) (fun q21 => ?_) ?_
      · refine WO.gno rfl rfl ?_
        refine WO.gno rfl rfl ?_
        refine WO.pickT rfl rfl ?_
        refine WO.nil ?_
        exact ⟨rfl, rfl, (Cov.any rfl (orT q21) (Cov.skip rfl (Cov.skip rfl (Cov.skip rfl (Cov.skip rfl (Cov.refl _))))))⟩
      · skip
        refine WO.gyes rfl rfl ?_
        refine WO.mv rfl ?_
        refine WO.gyes rfl rfl ?_
        refine WO.bin rfl rfl (by decide) (by decide) rfl ?_
        refine WO.pickF rfl rfl ?_
        refine WO.nil ?_
        exact ⟨rfl, rfl, (Cov.any rfl (orF q21) (Cov.skip rfl (Cov.skip rfl (Cov.skip rfl (Cov.skip rfl (Cov.refl _))))))⟩
      refine WO.nil ?_
      refine thenL_n ?_
      refine WC.cond rfl (fun q22 => ?_) (fun q22 => ?_)
      · have h := iteT q22 h
        refine WC.seq ?_
        refine WC.region ?_
        refine WO.asg rfl ?_
        refine WO.nil ?_
        refine thenL_n ?_
        refine WC.ret ?_
        obtain rfl := someI h
        exact ⟨rfl, ⟨S15, rfl, rfl, (Cov.cons rfl (Cov.nil _))⟩⟩
      · have h := iteF q22 h
        refine WC.skip ?_
        obtain rfl := someI h
        exact ⟨rfl, ⟨S15, rfl, rfl, (Cov.cons rfl (Cov.cons rfl (Cov.cons rfl (Cov.cons rfl (Cov.cons rfl (Cov.cons rfl (Cov.cons rfl (Cov.nil _)))))))), hot2⟩⟩
    · have h := iteF q20 h
      refine WC.seq ?_
      refine WC.region ?_
      refine WO.mv rfl ?_
      refine WO.bin rfl rfl (by decide) (by decide) rfl ?_
      refine WO.mv rfl ?_
      obtain ⟨y28, e29, h⟩ := bindS h
      refine WO.cutS (d := 68) (S := S15) 6 y28 (fun q27 => ?_) (fun q27 => ?_) (fun S30 c31 => ?_)
      · have h := e29
        have h := iteT q27 h
        obtain rfl := someI h
        refine WO.gno rfl rfl ?_
        refine WO.gno rfl rfl ?_
        refine WO.gno rfl rfl ?_
        refine WO.gno rfl rfl ?_
        refine WO.gno rfl rfl ?_
        refine WO.pickT rfl rfl ?_
        refine WO.nil ?_
        exact ⟨S15, rfl, rfl, Ch.refl _ _, (Cov.cons rfl (Cov.skip rfl (Cov.skip rfl (Cov.skip rfl (Cov.skip rfl (Cov.skip rfl (Cov.skip rfl (Cov.skip rfl (Cov.refl _)))))))))⟩
      · have h := e29
        have h := iteF q27 h
        refine WO.gyes rfl rfl ?_
        refine WO.mv rfl ?_
        refine WO.gyes rfl rfl ?_
        refine WO.mv rfl ?_
        refine WO.gyes rfl rfl ?_
        refine WO.mv rfl ?_
        refine WO.gyes rfl rfl ?_
        obtain ⟨r23, e24, h⟩ := bindS h
        refine WO.callE (S := S15) rfl rfl (F55_ok e24) (fun S25 c26 => ?_)
        have hot2 := hot2.to c26
        refine WO.gyes rfl rfl ?_
        refine WO.bin rfl rfl (by decide) (by decide) rfl ?_
        obtain rfl := someI h
        refine WO.pickF rfl rfl ?_
        refine WO.nil ?_
        exact ⟨S25, rfl, rfl, c26, (Cov.cons rfl (Cov.skip rfl (Cov.skip rfl (Cov.skip rfl (Cov.skip rfl (Cov.skip rfl (Cov.skip rfl (Cov.skip rfl (Cov.refl _)))))))))⟩
      have hot2 := hot2.to c31
      refine WO.nil ?_
      refine thenL_n ?_
      refine WC.cond rfl (fun q32 => ?_) (fun q32 => ?_)
      · have h := iteT q32 h
        refine WC.seq ?_
        refine WC.region ?_
        refine WO.asg rfl ?_
        refine WO.nil ?_
        refine thenL_n ?_
        refine WC.ret ?_
        obtain rfl := someI h
        exact ⟨rfl, ⟨S30, rfl, rfl, (Cov.cons rfl (Cov.nil _))⟩⟩
      · have h := iteF q32 h
        refine WC.skip ?_
        obtain rfl := someI h
        exact ⟨rfl, ⟨S30, rfl, rfl, (Cov.cons rfl (Cov.cons rfl (Cov.cons rfl (Cov.cons rfl (Cov.cons rfl (Cov.cons rfl (Cov.cons rfl (Cov.nil _)))))))), hot2⟩⟩
  dsimp only
  cases b33 with
  | inl b38 =>
    simp only at h
    rintro _ _ _ _ ⟨rfl, ⟨S39, rfl, rfl, hc40, hot2⟩⟩
    refine thenL_n ?_
    refine WC.cov hc40 ?_
    refine WC.seq ?_
    refine WC.seq ?_
    refine WC.region ?_
    refine WO.mv rfl ?_
    obtain ⟨r41, e42, h⟩ := bindS h
    refine WO.callE (S := S39) rfl rfl (F38_ok e42 hot2.vw) (fun S43 c44 => ?_)
    have hot2 := hot2.to c44
    refine WO.asg rfl ?_
    refine WO.nil ?_
    refine thenL_n ?_
    refine WC.seq ?_
    refine WC.region ?_
    refine WO.mv rfl ?_
    refine WO.bin rfl rfl (by decide) (by decide) rfl ?_
    refine WO.nil ?_
    refine thenL_n ?_
    refine WC.cond rfl (fun q45 => ?_) (fun q45 => ?_)
    · have h := iteT q45 h
      refine WC.seq ?_
      refine WC.region ?_
      refine WO.mv rfl ?_
      refine WO.mv rfl ?_
      refine WO.bin rfl rfl (by decide) (by decide) rfl ?_
      refine WO.mv rfl ?_
      refine WO.cutB (d := 80) 4 ((r5.2 == r41) && (r9.2 == r41)) (fun q46 => ?_) (fun q46 => ?_) ?_
      · skip
        refine WO.gyes rfl rfl ?_
        refine WO.mv rfl ?_
        refine WO.gyes rfl rfl ?_
        refine WO.mv rfl ?_
        refine WO.gyes rfl rfl ?_
        refine WO.bin rfl rfl (by decide) (by decide) rfl ?_
        refine WO.pickT rfl rfl ?_
        refine WO.nil ?_
        exact ⟨rfl, rfl, (Cov.any rfl (andT q46) (Cov.skip rfl (Cov.skip rfl (Cov.skip rfl (Cov.skip rfl (Cov.skip rfl (Cov.refl _)))))))⟩
      · refine WO.gno rfl rfl ?_
        refine WO.gno rfl rfl ?_
        refine WO.gno rfl rfl ?_
        refine WO.pickF rfl rfl ?_
        refine WO.nil ?_
        exact ⟨rfl, rfl, (Cov.any rfl (andF q46) (Cov.skip rfl (Cov.skip rfl (Cov.skip rfl (Cov.skip rfl (Cov.skip rfl (Cov.refl _)))))))⟩
      refine WO.mv rfl ?_
      refine WO.cutB (d := 85) 4 (((r5.2 == r41) && (r9.2 == r41)) && (r13.2 == r41)) (fun q47 => ?_) (fun q47 => ?_) ?_
      · skip
        refine WO.gyes rfl rfl ?_
        refine WO.mv rfl ?_
        refine WO.gyes rfl rfl ?_
        refine WO.mv rfl ?_
        refine WO.gyes rfl rfl ?_
        refine WO.bin rfl rfl (by decide) (by decide) rfl ?_
        refine WO.pickT rfl rfl ?_
        refine WO.nil ?_
        exact ⟨rfl, rfl, (Cov.any rfl (andT q47) (Cov.skip rfl (Cov.skip rfl (Cov.skip rfl (Cov.skip rfl (Cov.skip rfl (Cov.refl _)))))))⟩
      · refine WO.gno rfl rfl ?_
        refine WO.gno rfl rfl ?_
        refine WO.gno rfl rfl ?_
        refine WO.pickF rfl rfl ?_
        refine WO.nil ?_
        exact ⟨rfl, rfl, (Cov.any rfl (andF q47) (Cov.skip rfl (Cov.skip rfl (Cov.skip rfl (Cov.skip rfl (Cov.skip rfl (Cov.refl _)))))))⟩
      refine WO.mv rfl ?_
      refine WO.cutB (d := 89) 3 ((((r5.2 == r41) && (r9.2 == r41)) && (r13.2 == r41)) && (r5.1 == 0)) (fun q48 => ?_) (fun q48 => ?_) ?_
      · skip
        refine WO.gyes rfl rfl ?_
        refine WO.mv rfl ?_
        refine WO.gyes rfl rfl ?_
        refine WO.bin rfl rfl (by decide) (by decide) rfl ?_
        refine WO.pickT rfl rfl ?_
        refine WO.nil ?_
        exact ⟨rfl, rfl, (Cov.any rfl (andT q48) (Cov.skip rfl (Cov.skip rfl (Cov.skip rfl (Cov.skip rfl (Cov.refl _))))))⟩
      · refine WO.gno rfl rfl ?_
        refine WO.gno rfl rfl ?_
        refine WO.pickF rfl rfl ?_
        refine WO.nil ?_
        exact ⟨rfl, rfl, (Cov.any rfl (andF q48) (Cov.skip rfl (Cov.skip rfl (Cov.skip rfl (Cov.skip rfl (Cov.refl _))))))⟩
      refine WO.mv rfl ?_
      refine WO.cutB (d := 93) 3 (((((r5.2 == r41) && (r9.2 == r41)) && (r13.2 == r41)) && (r5.1 == 0)) && (r9.1 == 0)) (fun q49 => ?_) (fun q49 => ?_) ?_
      · skip
        refine WO.gyes rfl rfl ?_
        refine WO.mv rfl ?_
        refine WO.gyes rfl rfl ?_
        refine WO.bin rfl rfl (by decide) (by decide) rfl ?_
        refine WO.pickT rfl rfl ?_
        refine WO.nil ?_
        exact ⟨rfl, rfl, (Cov.any rfl (andT q49) (Cov.skip rfl (Cov.skip rfl (Cov.skip rfl (Cov.skip rfl (Cov.refl _))))))⟩
      · refine WO.gno rfl rfl ?_
        refine WO.gno rfl rfl ?_
        refine WO.pickF rfl rfl ?_
        refine WO.nil ?_
        exact ⟨rfl, rfl, (Cov.any rfl (andF q49) (Cov.skip rfl (Cov.skip rfl (Cov.skip rfl (Cov.skip rfl (Cov.refl _))))))⟩
      refine WO.mv rfl ?_
      refine WO.cutB (d := 97) 3 ((((((r5.2 == r41) && (r9.2 == r41)) && (r13.2 == r41)) && (r5.1 == 0)) && (r9.1 == 0)) && (r13.1 == 0)) (fun q50 => ?_) (fun q50 => ?_) ?_
      · skip
        refine WO.gyes rfl rfl ?_
        refine WO.mv rfl ?_
        refine WO.gyes rfl rfl ?_
        refine WO.bin rfl rfl (by decide) (by decide) rfl ?_
        refine WO.pickT rfl rfl ?_
        refine WO.nil ?_
        exact ⟨rfl, rfl, (Cov.any rfl (andT q50) (Cov.skip rfl (Cov.skip rfl (Cov.skip rfl (Cov.skip rfl (Cov.refl _))))))⟩
      · refine WO.gno rfl rfl ?_
        refine WO.gno rfl rfl ?_
        refine WO.pickF rfl rfl ?_
        refine WO.nil ?_
        exact ⟨rfl, rfl, (Cov.any rfl (andF q50) (Cov.skip rfl (Cov.skip rfl (Cov.skip rfl (Cov.skip rfl (Cov.refl _))))))⟩
      refine WO.asg rfl ?_
      refine WO.nil ?_
      refine thenL_n ?_
      refine WC.ret ?_
      refine thenL_r ?_
      obtain rfl := someI h
      exact ⟨.inr rfl, _, _, rfl, rfl, rfl⟩
    · have h := iteF q45 h
      refine WC.skip ?_
      refine thenL_n ?_
      refine WC.seq ?_
      refine WC.region ?_
      refine WO.asg rfl ?_
      refine WO.asg rfl ?_
      refine WO.nil ?_
      refine thenL_n ?_
      refine WC.seq ?_
      refine WC.seq ?_
      refine WC.region ?_
      refine WO.mv rfl ?_
      refine WO.lenS rfl hot2.slv rfl ?_
      refine WO.mv rfl ?_
      refine WO.nil ?_
      refine thenL_n ?_
      refine WC.block ?_
      obtain ⟨b65, e66, h⟩ := bindS h
      refine WC.loopD e66 (fun s51 l' m' n' => ∃ S52 : Cx n, S52.m = m' ∧ S52.n = n' ∧ Cov l' [(2, .sc vt2), (9, .sc (.int .i64 r5.1)), (10, .sc (.int .i64 r5.2)), (11, .sc (.int .i64 r9.1)), (12, .sc (.int .i64 r9.2)), (13, .sc (.int .i64 r13.1)), (14, .sc (.int .i64 r13.2)), (16, .sc (.int .i64 s51.1)), (17, .sc (.int .i64 s51.2.1)), (99, .sc (.int .i64 ((t2.length : Int)))), (100, .sc (.int .i64 s51.2.2))] ∧ Rd Y3 S52 vt2 t2) (fun b e l' m' n' => e = .exit 0 ∧ ∃ S53 : Cx n, S53.m = m' ∧ S53.n = n' ∧ Cov l' [(2, .sc vt2), (9, .sc (.int .i64 r5.1)), (10, .sc (.int .i64 r5.2)), (11, .sc (.int .i64 r9.1)), (12, .sc (.int .i64 r9.2)), (13, .sc (.int .i64 r13.1)), (14, .sc (.int .i64 r13.2)), (16, .sc (.int .i64 b.1)), (17, .sc (.int .i64 b.2))] ∧ Rd Y3 S53 vt2 t2) (by exact ⟨S43, rfl, rfl, (Cov.cons rfl (Cov.cons rfl (Cov.cons rfl (Cov.cons rfl (Cov.cons rfl (Cov.cons rfl (Cov.cons rfl (Cov.cons rfl (Cov.cons rfl (Cov.cons rfl (Cov.cons rfl (Cov.nil _)))))))))))), hot2⟩) ?_ ?_
      · clear h
        rintro s51 q _ _ _ ⟨S54, rfl, rfl, hc55, hot2⟩ h
        unfold F9_l0 at h
        refine WC.cov hc55 ?_
        refine WC.seq ?_
        refine WC.region ?_
        refine WO.bin rfl rfl (by decide) (by decide) rfl ?_
        refine WO.nil ?_
        refine thenL_n ?_
        refine WC.seq ?_
        refine WC.cond rfl (fun q56 => ?_) (fun q56 => ?_)
        · have h := iteT q56 h
          refine WC.skip ?_
          refine thenL_n ?_
          refine WC.seq ?_
          refine WC.block ?_
          refine WC.seq ?_
          refine WC.region ?_
          refine WO.mv rfl ?_
          refine WO.asg rfl ?_
          refine WO.nil ?_
          refine thenL_n ?_
          refine WC.seq ?_
          refine WC.drawP rfl ?_
          refine WO.mv rfl ?_
          refine WO.bin rfl rfl (by decide) (by decide) rfl ?_
          refine WO.mv rfl ?_
          obtain ⟨y62, e63, h⟩ := bindS h
          refine WO.cutB (d := 116) 11 y62 (fun q61 => ?_) (fun q61 => ?_) ?_
          · have h := e63
            have h := iteT q61 h
            refine WO.gyes rfl rfl ?_
            refine WO.mv rfl ?_
            refine WO.gyes rfl rfl ?_
            refine WO.mv rfl ?_
            refine WO.gyes rfl rfl ?_
            refine WO.bin rfl rfl (by decide) (by decide) rfl ?_
            refine WO.gyes rfl rfl ?_
            obtain ⟨x57, e58, h⟩ := bindS h
            refine WO.ixS rfl rfl hot2.slv (at?_lt e58) rfl ?_
            refine WO.gyes rfl rfl ?_
            refine WO.ldF rfl hot2.ro (fun _ hi => hi) (at?_get e58) rfl rfl rfl ?_
            refine WO.gyes rfl rfl ?_
            refine WO.mv rfl ?_
            refine WO.gyes rfl rfl ?_
            refine WO.mv rfl ?_
            refine WO.gyes rfl rfl ?_
            obtain ⟨x59, e60, h⟩ := bindS h
            refine WO.ixS rfl rfl hot2.slv (at?_lt e60) rfl ?_
            refine WO.gyes rfl rfl ?_
            refine WO.ldF rfl hot2.ro (fun _ hi => hi) (at?_get e60) rfl rfl rfl ?_
            refine WO.gyes rfl rfl ?_
            refine WO.bin rfl rfl (by decide) (by decide) rfl ?_
            obtain rfl := someI h
            refine WO.pickT rfl rfl ?_
            refine WO.nil ?_
            exact ⟨rfl, rfl, (Cov.cons rfl (Cov.skip rfl (Cov.skip rfl (Cov.skip rfl (Cov.skip rfl (Cov.skip rfl (Cov.skip rfl (Cov.skip rfl (Cov.skip rfl (Cov.skip rfl (Cov.skip rfl (Cov.skip rfl (Cov.skip rfl (Cov.refl _))))))))))))))⟩
          · have h := e63
            have h := iteF q61 h
            obtain rfl := someI h
            refine WO.gno rfl rfl ?_
            refine WO.gno rfl rfl ?_
            refine WO.gno rfl rfl ?_
            refine WO.gno rfl rfl ?_
            refine WO.gno rfl rfl ?_
            refine WO.gno rfl rfl ?_
            refine WO.gno rfl rfl ?_
            refine WO.gno rfl rfl ?_
            refine WO.gno rfl rfl ?_
            refine WO.gno rfl rfl ?_
            refine WO.pickF rfl rfl ?_
            refine WO.nil ?_
            exact ⟨rfl, rfl, (Cov.cons rfl (Cov.skip rfl (Cov.skip rfl (Cov.skip rfl (Cov.skip rfl (Cov.skip rfl (Cov.skip rfl (Cov.skip rfl (Cov.skip rfl (Cov.skip rfl (Cov.skip rfl (Cov.skip rfl (Cov.skip rfl (Cov.refl _))))))))))))))⟩
          refine WO.nil ?_
          refine thenL_n ?_
          refine WC.cond rfl (fun q64 => ?_) (fun q64 => ?_)
          · have h := iteT q64 h
            refine WC.region ?_
            refine WO.mv rfl ?_
            refine WO.bin rfl rfl (by decide) (by decide) rfl ?_
            refine WO.mv rfl ?_
            refine WO.mv rfl ?_
            refine WO.bin rfl rfl (by decide) (by decide) rfl ?_
            refine WO.asg rfl ?_
            refine WO.asg rfl ?_
            refine WO.nil ?_
            refine blockL_n ?_
            refine thenL_n ?_
            refine WC.region ?_
            refine WO.bin rfl rfl (by decide) (by decide) rfl ?_
            refine WO.mv rfl ?_
            refine WO.nil ?_
            refine thenL_n ?_
            obtain rfl := someI h
            exact ⟨_, rfl, ⟨S54, rfl, rfl, (Cov.cons rfl (Cov.cons rfl (Cov.cons rfl (Cov.cons rfl (Cov.cons rfl (Cov.cons rfl (Cov.cons rfl (Cov.cons rfl (Cov.cons rfl (Cov.cons rfl (Cov.cons rfl (Cov.nil _)))))))))))), hot2⟩⟩
          · have h := iteF q64 h
            refine WC.skip ?_
            refine blockL_n ?_
            refine thenL_n ?_
            refine WC.region ?_
            refine WO.bin rfl rfl (by decide) (by decide) rfl ?_
            refine WO.mv rfl ?_
            refine WO.nil ?_
            refine thenL_n ?_
            obtain rfl := someI h
            exact ⟨_, rfl, ⟨S54, rfl, rfl, (Cov.cons rfl (Cov.cons rfl (Cov.cons rfl (Cov.cons rfl (Cov.cons rfl (Cov.cons rfl (Cov.cons rfl (Cov.cons rfl (Cov.cons rfl (Cov.cons rfl (Cov.cons rfl (Cov.nil _)))))))))))), hot2⟩⟩
        · have h := iteF q56 h
          refine WC.exit ?_
          refine thenL_e ?_
          refine thenL_e ?_
          obtain rfl := someI h
          exact ⟨_, rfl, rfl, ⟨S54, rfl, rfl, (Cov.cons rfl (Cov.cons rfl (Cov.cons rfl (Cov.cons rfl (Cov.cons rfl (Cov.cons rfl (Cov.cons rfl (Cov.cons rfl (Cov.cons rfl (Cov.nil _)))))))))), hot2⟩⟩
      rintro _ _ _ _ ⟨rfl, ⟨S67, rfl, rfl, hc68, hot2⟩⟩
      refine blockL_s ?_
      refine thenL_n ?_
      refine WC.cov hc68 ?_
      refine WC.seq ?_
      refine WC.region ?_
      refine WO.mv rfl ?_
      refine WO.bin rfl rfl (by decide) (by decide) rfl ?_
      refine WO.mv rfl ?_
      refine WO.cutB (d := 128) 3 ((r5.2 == 0) && (r9.2 == 0)) (fun q69 => ?_) (fun q69 => ?_) ?_
      · skip
        refine WO.gyes rfl rfl ?_
        refine WO.mv rfl ?_
        refine WO.gyes rfl rfl ?_
        refine WO.bin rfl rfl (by decide) (by decide) rfl ?_
        refine WO.pickT rfl rfl ?_
        refine WO.nil ?_
        exact ⟨rfl, rfl, (Cov.any rfl (andT q69) (Cov.skip rfl (Cov.skip rfl (Cov.skip rfl (Cov.skip rfl (Cov.refl _))))))⟩
      · refine WO.gno rfl rfl ?_
        refine WO.gno rfl rfl ?_
        refine WO.pickF rfl rfl ?_
        refine WO.nil ?_
        exact ⟨rfl, rfl, (Cov.any rfl (andF q69) (Cov.skip rfl (Cov.skip rfl (Cov.skip rfl (Cov.skip rfl (Cov.refl _))))))⟩
      refine WO.mv rfl ?_
      refine WO.cutB (d := 132) 3 (((r5.2 == 0) && (r9.2 == 0)) && (r13.2 == 0)) (fun q70 => ?_) (fun q70 => ?_) ?_
      · skip
        refine WO.gyes rfl rfl ?_
        refine WO.mv rfl ?_
        refine WO.gyes rfl rfl ?_
        refine WO.bin rfl rfl (by decide) (by decide) rfl ?_
        refine WO.pickT rfl rfl ?_
        refine WO.nil ?_
        exact ⟨rfl, rfl, (Cov.any rfl (andT q70) (Cov.skip rfl (Cov.skip rfl (Cov.skip rfl (Cov.skip rfl (Cov.refl _))))))⟩
      · refine WO.gno rfl rfl ?_
        refine WO.gno rfl rfl ?_
        refine WO.pickF rfl rfl ?_
        refine WO.nil ?_
        exact ⟨rfl, rfl, (Cov.any rfl (andF q70) (Cov.skip rfl (Cov.skip rfl (Cov.skip rfl (Cov.skip rfl (Cov.refl _))))))⟩
      refine WO.mv rfl ?_
      refine WO.cutB (d := 137) 4 ((((r5.2 == 0) && (r9.2 == 0)) && (r13.2 == 0)) && (r5.1 == b65.1)) (fun q71 => ?_) (fun q71 => ?_) ?_
      · skip
        refine WO.gyes rfl rfl ?_
        refine WO.mv rfl ?_
        refine WO.gyes rfl rfl ?_
        refine WO.mv rfl ?_
        refine WO.gyes rfl rfl ?_
        refine WO.bin rfl rfl (by decide) (by decide) rfl ?_
        refine WO.pickT rfl rfl ?_
        refine WO.nil ?_
        exact ⟨rfl, rfl, (Cov.any rfl (andT q71) (Cov.skip rfl (Cov.skip rfl (Cov.skip rfl (Cov.skip rfl (Cov.skip rfl (Cov.refl _)))))))⟩
      · refine WO.gno rfl rfl ?_
        refine WO.gno rfl rfl ?_
        refine WO.gno rfl rfl ?_
        refine WO.pickF rfl rfl ?_
        refine WO.nil ?_
        exact ⟨rfl, rfl, (Cov.any rfl (andF q71) (Cov.skip rfl (Cov.skip rfl (Cov.skip rfl (Cov.skip rfl (Cov.skip rfl (Cov.refl _)))))))⟩
      refine WO.mv rfl ?_
      obtain ⟨y77, e78, h⟩ := bindS h
      refine WO.cutS (d := 143) (S := S67) 5 y77 (fun q76 => ?_) (fun q76 => ?_) (fun S79 c80 => ?_)
      · have h := e78
        have h := iteT q76 h
        refine WO.gyes rfl rfl ?_
        refine WO.mv rfl ?_
        refine WO.gyes rfl rfl ?_
        refine WO.mv rfl ?_
        refine WO.gyes rfl rfl ?_
        obtain ⟨r72, e73, h⟩ := bindS h
        refine WO.callE (S := S67) rfl rfl (F56_ok e73 hot2.vw) (fun S74 c75 => ?_)
        have hot2 := hot2.to c75
        refine WO.gyes rfl rfl ?_
        refine WO.bin rfl rfl (by decide) (by decide) rfl ?_
        obtain rfl := someI h
        refine WO.pickT rfl rfl ?_
        refine WO.nil ?_
        exact ⟨S74, rfl, rfl, c75, (Cov.cons rfl (Cov.skip rfl (Cov.skip rfl (Cov.skip rfl (Cov.skip rfl (Cov.skip rfl (Cov.skip rfl (Cov.refl _))))))))⟩
      · have h := e78
        have h := iteF q76 h
        obtain rfl := someI h
        refine WO.gno rfl rfl ?_
        refine WO.gno rfl rfl ?_
        refine WO.gno rfl rfl ?_
        refine WO.gno rfl rfl ?_
        refine WO.pickF rfl rfl ?_
        refine WO.nil ?_
        exact ⟨S67, rfl, rfl, Ch.refl _ _, (Cov.cons rfl (Cov.skip rfl (Cov.skip rfl (Cov.skip rfl (Cov.skip rfl (Cov.skip rfl (Cov.skip rfl (Cov.refl _))))))))⟩
      have hot2 := hot2.to c80
      refine WO.mv rfl ?_
      refine WO.cutB (d := 148) 4 (y77 && (r13.1 == b65.2)) (fun q81 => ?_) (fun q81 => ?_) ?_
      · skip
        refine WO.gyes rfl rfl ?_
        refine WO.mv rfl ?_
        refine WO.gyes rfl rfl ?_
        refine WO.mv rfl ?_
        refine WO.gyes rfl rfl ?_
        refine WO.bin rfl rfl (by decide) (by decide) rfl ?_
        refine WO.pickT rfl rfl ?_
        refine WO.nil ?_
        exact ⟨rfl, rfl, (Cov.any rfl (andT q81) (Cov.skip rfl (Cov.skip rfl (Cov.skip rfl (Cov.skip rfl (Cov.skip rfl (Cov.refl _)))))))⟩
      · refine WO.gno rfl rfl ?_
        refine WO.gno rfl rfl ?_
        refine WO.gno rfl rfl ?_
        refine WO.pickF rfl rfl ?_
        refine WO.nil ?_
        exact ⟨rfl, rfl, (Cov.any rfl (andF q81) (Cov.skip rfl (Cov.skip rfl (Cov.skip rfl (Cov.skip rfl (Cov.skip rfl (Cov.refl _)))))))⟩
      refine WO.asg rfl ?_
      refine WO.nil ?_
      refine thenL_n ?_
      refine WC.ret ?_
      obtain rfl := someI h
      exact ⟨.inr rfl, _, _, rfl, rfl, rfl⟩
  | inr b38 =>
    simp only at h
    rintro _ _ _ _ ⟨rfl, ⟨S82, rfl, rfl, hc83⟩⟩
    refine thenL_r ?_
    obtain rfl := someI h
    exact ⟨.inr rfl, _, _, (resK_cov hc83 rfl), rfl, rfl⟩
end Go.Proofs.Ytkfmedmanhcdeaa

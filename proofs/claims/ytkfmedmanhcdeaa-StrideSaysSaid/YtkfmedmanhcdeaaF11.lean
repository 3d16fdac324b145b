/- The machine answers F11: printed by a program of ours (gen.py). -/
import Derived.Test.YtkfmedmanhcdeaaDef
import Derived.Test.YtkfmedmanhcdeaaEnv
import Derived.Test.YtkfmedmanhcdeaaF64
import Derived.Test.YtkfmedmanhcdeaaF66
import Derived.Test.YtkfmedmanhcdeaaF67
import Derived.Test.YtkfmedmanhcdeaaF68
import Derived.Test.YtkfmedmanhcdeaaF69_70
import Derived.Test.YtkfmedmanhcdeaaF71
set_option linter.unusedVariables false
namespace Go.Proofs.Ytkfmedmanhcdeaa
open Go.Am
theorem F11.fn : E.fn 11 = some ⟨133, (Try.f11.body.getD .skip), Try.f11.results.toList, []⟩ := rfl
theorem F11_ok {F : Nat} {m : Mem} {n : Nat} {r : Bool} {t0 : List Int} {t1 : List Int} {t2 : Int} {vt0 : SV} {vt1 : SV} (h : F11 F t0 t1 t2 = some r) (kt0 : Vw Y3 n m vt0 t0) (kt1 : Vw Y3 n m vt1 t1) : Ret E n 11 [.sc vt0, .sc vt1, .sc (.int .i64 t2)] m n (fun v m' n' => v = .sc (.bool r)) := by
  unfold F11 at h
  refine Ret.walk F11.fn ?_
  refine WC.start fun S0 em en hz => ?_
  have hot0 := kt0.rdS em hz
  have hot1 := kt1.rdS em hz
  refine WC.seq ?_
  refine WC.region ?_
  refine WO.asg rfl ?_
  refine WO.nil ?_
  refine thenL_n ?_
  refine WC.seq ?_
  refine WC.region ?_
  refine WO.mv rfl ?_
  refine WO.mv rfl ?_
  obtain ⟨r1, e2, h⟩ := bindS h
  refine WO.callE (S := S0) rfl rfl (F66_ok e2 hot0.vw hot1.vw) (fun S3 c4 => ?_)
  have hot0 := hot0.to c4
  have hot1 := hot1.to c4
  refine WO.mv rfl ?_
  refine WO.do rfl rfl ?_
  refine WO.do rfl rfl ?_
  refine WO.asg rfl ?_
  refine WO.asg rfl ?_
  refine WO.nil ?_
  refine thenL_n ?_
  refine WC.seq ?_
  refine WC.region ?_
  refine WO.mv rfl ?_
  refine WO.mv rfl ?_
  obtain ⟨r5, e6, h⟩ := bindS h
  refine WO.callF (S := S3) 2 rfl rfl (F67_ok e6 hot0.vw) Lay.flat_fl (fun v7 S9 c10 ho8 => ?_)
  have hot0 := hot0.to c10
  have hot1 := hot1.to c10
  refine WO.mv rfl ?_
  refine WO.do rfl rfl ?_
  refine WO.do rfl rfl ?_
  refine WO.asg rfl ?_
  refine WO.asg rfl ?_
  refine WO.nil ?_
  refine thenL_n ?_
  refine WC.seq ?_
  refine WC.region ?_
  refine WO.mv rfl ?_
  obtain ⟨r11, e12, h⟩ := bindS h
  refine WO.callE (S := S9) rfl rfl (F68_ok e12 hot0.vw) (fun S13 c14 => ?_)
  have hot0 := hot0.to c14
  have hot1 := hot1.to c14
  have ho8 := ho8.to c14
  refine WO.asg rfl ?_
  refine WO.nil ?_
  refine thenL_n ?_
  refine WC.seq ?_
  refine WC.seq ?_
  refine WC.region ?_
  refine WO.mv rfl ?_
  refine WO.bin rfl rfl (by decide) (by decide) rfl ?_
  refine WO.nil ?_
  refine thenL_n ?_
  refine WC.cond rfl (fun q15 => ?_) (fun q15 => ?_)
  · have h := iteT q15 h
    refine WC.seq ?_
    refine WC.region ?_
    refine WO.mv rfl ?_
    refine WO.mv rfl ?_
    refine WO.bin rfl rfl (by decide) (by decide) rfl ?_
    refine WO.mv rfl ?_
    refine WO.cutB (d := 38) 4 ((r1.2 == r11) && (r5.2 == r11)) (fun q16 => ?_) (fun q16 => ?_) ?_
    · skip
      refine WO.gyes rfl rfl ?_
      refine WO.mv rfl ?_
      refine WO.gyes rfl rfl ?_
      refine WO.mv rfl ?_
      refine WO.gyes rfl rfl ?_
      refine WO.bin rfl rfl (by decide) (by decide) rfl ?_
      refine WO.pickT rfl rfl ?_
      refine WO.nil ?_
      exact ⟨rfl, rfl, (Cov.any rfl (andT q16) (Cov.skip rfl (Cov.skip rfl (Cov.skip rfl (Cov.skip rfl (Cov.skip rfl (Cov.refl _)))))))⟩
    · refine WO.gno rfl rfl ?_
      refine WO.gno rfl rfl ?_
      refine WO.gno rfl rfl ?_
      refine WO.pickF rfl rfl ?_
      refine WO.nil ?_
      exact ⟨rfl, rfl, (Cov.any rfl (andF q16) (Cov.skip rfl (Cov.skip rfl (Cov.skip rfl (Cov.skip rfl (Cov.skip rfl (Cov.refl _)))))))⟩
    refine WO.mv rfl ?_
    refine WO.cutB (d := 42) 3 (((r1.2 == r11) && (r5.2 == r11)) && (r1.1 == 0)) (fun q17 => ?_) (fun q17 => ?_) ?_
    · skip
      refine WO.gyes rfl rfl ?_
      refine WO.mv rfl ?_
      refine WO.gyes rfl rfl ?_
      refine WO.bin rfl rfl (by decide) (by decide) rfl ?_
      refine WO.pickT rfl rfl ?_
      refine WO.nil ?_
      exact ⟨rfl, rfl, (Cov.any rfl (andT q17) (Cov.skip rfl (Cov.skip rfl (Cov.skip rfl (Cov.skip rfl (Cov.refl _))))))⟩
    · refine WO.gno rfl rfl ?_
      refine WO.gno rfl rfl ?_
      refine WO.pickF rfl rfl ?_
      refine WO.nil ?_
      exact ⟨rfl, rfl, (Cov.any rfl (andF q17) (Cov.skip rfl (Cov.skip rfl (Cov.skip rfl (Cov.skip rfl (Cov.refl _))))))⟩
    refine WO.mv rfl ?_
    refine WO.cutB (d := 47) 4 ((((r1.2 == r11) && (r5.2 == r11)) && (r1.1 == 0)) && ((r5.1.length : Int) == 0)) (fun q18 => ?_) (fun q18 => ?_) ?_
    · skip
      refine WO.gyes rfl rfl ?_
      refine WO.mv rfl ?_
      refine WO.gyes rfl rfl ?_
      refine WO.lenS rfl ho8.slv rfl ?_
      refine WO.gyes rfl rfl ?_
      refine WO.bin rfl rfl (by decide) (by decide) rfl ?_
      refine WO.pickT rfl rfl ?_
      refine WO.nil ?_
      exact ⟨rfl, rfl, (Cov.any rfl (andT q18) (Cov.skip rfl (Cov.skip rfl (Cov.skip rfl (Cov.skip rfl (Cov.skip rfl (Cov.refl _)))))))⟩
    · refine WO.gno rfl rfl ?_
      refine WO.gno rfl rfl ?_
      refine WO.gno rfl rfl ?_
      refine WO.pickF rfl rfl ?_
      refine WO.nil ?_
      exact ⟨rfl, rfl, (Cov.any rfl (andF q18) (Cov.skip rfl (Cov.skip rfl (Cov.skip rfl (Cov.skip rfl (Cov.skip rfl (Cov.refl _)))))))⟩
    refine WO.asg rfl ?_
    refine WO.nil ?_
    refine thenL_n ?_
    refine WC.ret ?_
    refine thenL_r ?_
    obtain rfl := someI h
    exact ⟨.inr rfl, _, _, rfl, rfl, rfl⟩
  · have h := iteF q15 h
    refine WC.skip ?_
    refine thenL_n ?_
    refine WC.seq ?_
    refine WC.block ?_
    refine WC.seq ?_
    refine WC.region ?_
    refine WO.mv rfl ?_
    refine WO.lenS rfl hot1.slv rfl ?_
    refine WO.mv rfl ?_
    refine WO.lenS rfl hot0.slv rfl ?_
    refine WO.bin rfl rfl (by decide) (by decide) rfl ?_
    refine WO.asg rfl ?_
    refine WO.nil ?_
    refine thenL_n ?_
    obtain ⟨b30, e31, h⟩ := bindS h
    refine WC.mono (Q' := (fun b e l' m' n' => e = .normal ∧ ∃ S32 : Cx n, S32.m = m' ∧ S32.n = n' ∧ Cov l' [(0, .sc vt0), (1, .sc vt1), (2, .sc (.int .i64 t2)), (7, .sc (.int .i64 r1.1)), (8, .sc (.int .i64 r1.2)), (9, .sc v7), (10, .sc (.int .i64 r5.2)), (11, .sc (.int .i64 b))] ∧ Rd Y3 S32 vt0 t0 ∧ Rd Y3 S32 vt1 t1 ∧ Ow Y3 S32 2 v7 r5.1) b30) ?_ ?_
    · have h := e31
      dsimp only at h ⊢
      refine WC.cond rfl (fun q19 => ?_) (fun q19 => ?_)
      · have h := iteT q19 h
        refine WC.region ?_
        refine WO.asg rfl ?_
        refine WO.nil ?_
        obtain rfl := someI h
        exact ⟨rfl, ⟨S13, rfl, rfl, (Cov.cons rfl (Cov.cons rfl (Cov.cons rfl (Cov.cons rfl (Cov.cons rfl (Cov.cons rfl (Cov.cons rfl (Cov.cons rfl (Cov.nil _))))))))), hot0, hot1, ho8⟩⟩
      · have h := iteF q19 h
        refine WC.seq ?_
        refine WC.region ?_
        refine WO.mv rfl ?_
        obtain ⟨r20, e21, h⟩ := bindS h
        refine WO.callE (S := S13) rfl rfl (F69_70_ok e21 hot1.vw) (fun S22 c23 => ?_)
        have hot0 := hot0.to c23
        have hot1 := hot1.to c23
        have ho8 := ho8.to c23
        refine WO.asg rfl ?_
        refine WO.nil ?_
        refine thenL_n ?_
        refine WC.cond rfl (fun q24 => ?_) (fun q24 => ?_)
        · have h := iteT q24 h
          refine WC.region ?_
          refine WO.asg rfl ?_
          refine WO.nil ?_
          obtain rfl := someI h
          exact ⟨rfl, ⟨S22, rfl, rfl, (Cov.cons rfl (Cov.cons rfl (Cov.cons rfl (Cov.cons rfl (Cov.cons rfl (Cov.cons rfl (Cov.cons rfl (Cov.cons rfl (Cov.nil _))))))))), hot0, hot1, ho8⟩⟩
        · have h := iteF q24 h
          refine WC.seq ?_
          refine WC.region ?_
          refine WO.mv rfl ?_
          refine WO.mv rfl ?_
          obtain ⟨r25, e26, h⟩ := bindS h
          refine WO.callE (S := S22) rfl rfl (F71_ok e26 hot0.vw hot1.vw) (fun S27 c28 => ?_)
          have hot0 := hot0.to c28
          have hot1 := hot1.to c28
          have ho8 := ho8.to c28
          refine WO.bin rfl rfl (by decide) (by decide) rfl ?_
          refine WO.asg rfl ?_
          refine WO.nil ?_
          refine thenL_n ?_
          refine WC.cond rfl (fun q29 => ?_) (fun q29 => ?_)
          · have h := iteT q29 h
            refine WC.region ?_
            refine WO.asg rfl ?_
            refine WO.nil ?_
            obtain rfl := someI h
            exact ⟨rfl, ⟨S27, rfl, rfl, (Cov.cons rfl (Cov.cons rfl (Cov.cons rfl (Cov.cons rfl (Cov.cons rfl (Cov.cons rfl (Cov.cons rfl (Cov.cons rfl (Cov.nil _))))))))), hot0, hot1, ho8⟩⟩
          · have h := iteF q29 h
            refine WC.skip ?_
            obtain rfl := someI h
            exact ⟨rfl, ⟨S27, rfl, rfl, (Cov.cons rfl (Cov.cons rfl (Cov.cons rfl (Cov.cons rfl (Cov.cons rfl (Cov.cons rfl (Cov.cons rfl (Cov.cons rfl (Cov.nil _))))))))), hot0, hot1, ho8⟩⟩
    dsimp only
    rintro _ _ _ _ ⟨rfl, ⟨S33, rfl, rfl, hc34, hot0, hot1, ho8⟩⟩
    refine blockL_n ?_
    refine thenL_n ?_
    refine WC.cov hc34 ?_
    refine WC.seq ?_
    refine WC.seq ?_
    refine WC.region ?_
    refine WO.mv rfl ?_
    refine WO.mv rfl ?_
    refine WO.bin rfl rfl (by decide) (by decide) rfl ?_
    refine WO.mv rfl ?_
    refine WO.cutB (d := 72) 7 ((r1.2 != b30) || ((b30 != 0) && (r1.1 != 0))) (fun q36 => ?_) (fun q36 => ?_) ?_
    · refine WO.gno rfl rfl ?_
      refine WO.gno rfl rfl ?_
      refine WO.gno rfl rfl ?_
      refine WO.gskip rfl rfl ?_
      refine WO.gskip rfl rfl ?_
      refine WO.gno rfl rfl ?_
      refine WO.pickT rfl rfl ?_
      refine WO.nil ?_
      exact ⟨rfl, rfl, (Cov.any rfl (orT q36) (Cov.skip rfl (Cov.skip rfl (Cov.skip rfl (Cov.skip rfl (Cov.skip rfl (Cov.skip rfl (Cov.skip rfl (Cov.skip rfl (Cov.refl _))))))))))⟩
    · skip
      refine WO.gyes rfl rfl ?_
      refine WO.mv rfl ?_
      refine WO.gyes rfl rfl ?_
      refine WO.bin rfl rfl (by decide) (by decide) rfl ?_
      refine WO.gyes rfl rfl ?_
      refine WO.mv rfl ?_
      refine WO.cutB (d := 71) 3 ((b30 != 0) && (r1.1 != 0)) (fun q35 => ?_) (fun q35 => ?_) ?_
      · skip
        refine WO.gyes rfl rfl ?_
        refine WO.mv rfl ?_
        refine WO.gyes rfl rfl ?_
        refine WO.bin rfl rfl (by decide) (by decide) rfl ?_
        refine WO.gyes rfl rfl ?_
        refine WO.pickT rfl rfl ?_
        refine WO.nil ?_
        exact ⟨rfl, rfl, (Cov.any rfl (andT q35) (Cov.skip rfl (Cov.skip rfl (Cov.skip rfl (Cov.skip rfl (Cov.refl _))))))⟩
      · refine WO.gno rfl rfl ?_
        refine WO.gno rfl rfl ?_
        refine WO.gyes rfl rfl ?_
        refine WO.pickF rfl rfl ?_
        refine WO.nil ?_
        exact ⟨rfl, rfl, (Cov.any rfl (andF q35) (Cov.skip rfl (Cov.skip rfl (Cov.skip rfl (Cov.skip rfl (Cov.refl _))))))⟩
      refine WO.pickF rfl rfl ?_
      refine WO.nil ?_
      exact ⟨rfl, rfl, (Cov.any rfl (orF q36) (Cov.skip rfl (Cov.skip rfl (Cov.skip rfl (Cov.skip rfl (Cov.skip rfl (Cov.refl _)))))))⟩
    refine WO.mv rfl ?_
    obtain ⟨y47, e48, h⟩ := bindS h
    refine WO.cutS (d := 83) (S := S33) 10 y47 (fun q46 => ?_) (fun q46 => ?_) (fun S49 c50 => ?_)
    · have h := e48
      have h := iteT q46 h
      obtain rfl := someI h
      refine WO.gno rfl rfl ?_
      refine WO.gno rfl rfl ?_
      refine WO.gno rfl rfl ?_
      refine WO.gskip rfl rfl ?_
      refine WO.gskip rfl rfl ?_
      refine WO.gskip rfl rfl ?_
      refine WO.gskip rfl rfl ?_
      refine WO.gskip rfl rfl ?_
      refine WO.gno rfl rfl ?_
      refine WO.pickT rfl rfl ?_
      refine WO.nil ?_
      exact ⟨S33, rfl, rfl, Ch.refl _ _, (Cov.cons rfl (Cov.skip rfl (Cov.skip rfl (Cov.skip rfl (Cov.skip rfl (Cov.skip rfl (Cov.skip rfl (Cov.skip rfl (Cov.skip rfl (Cov.skip rfl (Cov.skip rfl (Cov.skip rfl (Cov.refl _)))))))))))))⟩
    · have h := e48
      have h := iteF q46 h
      refine WO.gyes rfl rfl ?_
      refine WO.mv rfl ?_
      refine WO.gyes rfl rfl ?_
      refine WO.bin rfl rfl (by decide) (by decide) rfl ?_
      refine WO.gyes rfl rfl ?_
      refine WO.mv rfl ?_
      obtain ⟨y42, e43, h⟩ := bindS h
      refine WO.cutS (d := 82) (S := S33) 6 y42 (fun q41 => ?_) (fun q41 => ?_) (fun S44 c45 => ?_)
      · have h := e43
        have h := iteT q41 h
        refine WO.gyes rfl rfl ?_
        refine WO.mv rfl ?_
        refine WO.gyes rfl rfl ?_
        refine WO.mv rfl ?_
        refine WO.gyes rfl rfl ?_
        refine WO.mv rfl ?_
        refine WO.gyes rfl rfl ?_
        obtain ⟨r37, e38, h⟩ := bindS h
        refine WO.callE (S := S33) rfl rfl (F71_ok e38 hot0.vw hot1.vw) (fun S39 c40 => ?_)
        have hot0 := hot0.to c40
        have hot1 := hot1.to c40
        have ho8 := ho8.to c40
        refine WO.gyes rfl rfl ?_
        refine WO.bin rfl rfl (by decide) (by decide) rfl ?_
        obtain rfl := someI h
        refine WO.gyes rfl rfl ?_
        refine WO.pickT rfl rfl ?_
        refine WO.nil ?_
        exact ⟨S39, rfl, rfl, c40, (Cov.cons rfl (Cov.skip rfl (Cov.skip rfl (Cov.skip rfl (Cov.skip rfl (Cov.skip rfl (Cov.skip rfl (Cov.skip rfl (Cov.refl _)))))))))⟩
      · have h := e43
        have h := iteF q41 h
        obtain rfl := someI h
        refine WO.gno rfl rfl ?_
        refine WO.gno rfl rfl ?_
        refine WO.gno rfl rfl ?_
        refine WO.gno rfl rfl ?_
        refine WO.gno rfl rfl ?_
        refine WO.gyes rfl rfl ?_
        refine WO.pickF rfl rfl ?_
        refine WO.nil ?_
        exact ⟨S33, rfl, rfl, Ch.refl _ _, (Cov.cons rfl (Cov.skip rfl (Cov.skip rfl (Cov.skip rfl (Cov.skip rfl (Cov.skip rfl (Cov.skip rfl (Cov.skip rfl (Cov.refl _)))))))))⟩
      have hot0 := hot0.to c45
      have hot1 := hot1.to c45
      have ho8 := ho8.to c45
      obtain rfl := someI h
      refine WO.pickF rfl rfl ?_
      refine WO.nil ?_
      exact ⟨S44, rfl, rfl, c45, (Cov.cons rfl (Cov.skip rfl (Cov.skip rfl (Cov.skip rfl (Cov.skip rfl (Cov.skip rfl (Cov.refl _)))))))⟩
    have hot0 := hot0.to c50
    have hot1 := hot1.to c50
    have ho8 := ho8.to c50
    refine WO.nil ?_
    refine thenL_n ?_
    refine WC.cond rfl (fun q51 => ?_) (fun q51 => ?_)
    · have h := iteT q51 h
      refine WC.seq ?_
      refine WC.region ?_
      refine WO.asg rfl ?_
      refine WO.nil ?_
      refine thenL_n ?_
      refine WC.ret ?_
      refine thenL_r ?_
      obtain rfl := someI h
      exact ⟨.inr rfl, _, _, rfl, rfl, rfl⟩
    · have h := iteF q51 h
      refine WC.skip ?_
      refine thenL_n ?_
      refine WC.seq ?_
      refine WC.seq ?_
      refine WC.region ?_
      refine WO.mv rfl ?_
      refine WO.bin rfl rfl (by decide) (by decide) rfl ?_
      refine WO.mv rfl ?_
      refine WO.cutB (d := 89) 3 ((decide (t2 < 0)) || (decide (t2 > 200))) (fun q52 => ?_) (fun q52 => ?_) ?_
      · refine WO.gno rfl rfl ?_
        refine WO.gno rfl rfl ?_
        refine WO.pickT rfl rfl ?_
        refine WO.nil ?_
        exact ⟨rfl, rfl, (Cov.any rfl (orT q52) (Cov.skip rfl (Cov.skip rfl (Cov.skip rfl (Cov.skip rfl (Cov.refl _))))))⟩
      · skip
        refine WO.gyes rfl rfl ?_
        refine WO.mv rfl ?_
        refine WO.gyes rfl rfl ?_
        refine WO.bin rfl rfl (by decide) (by decide) rfl ?_
        refine WO.pickF rfl rfl ?_
        refine WO.nil ?_
        exact ⟨rfl, rfl, (Cov.any rfl (orF q52) (Cov.skip rfl (Cov.skip rfl (Cov.skip rfl (Cov.skip rfl (Cov.refl _))))))⟩
      refine WO.nil ?_
      refine thenL_n ?_
      refine WC.cond rfl (fun q53 => ?_) (fun q53 => ?_)
      · have h := iteT q53 h
        refine WC.seq ?_
        refine WC.region ?_
        refine WO.mv rfl ?_
        refine WO.bin rfl rfl (by decide) (by decide) rfl ?_
        refine WO.mv rfl ?_
        refine WO.cutB (d := 96) 4 ((r5.2 == 1) && ((r5.1.length : Int) == 0)) (fun q54 => ?_) (fun q54 => ?_) ?_
        · skip
          refine WO.gyes rfl rfl ?_
          refine WO.mv rfl ?_
          refine WO.gyes rfl rfl ?_
          refine WO.lenS rfl ho8.slv rfl ?_
          refine WO.gyes rfl rfl ?_
          refine WO.bin rfl rfl (by decide) (by decide) rfl ?_
          refine WO.pickT rfl rfl ?_
          refine WO.nil ?_
          exact ⟨rfl, rfl, (Cov.any rfl (andT q54) (Cov.skip rfl (Cov.skip rfl (Cov.skip rfl (Cov.skip rfl (Cov.skip rfl (Cov.refl _)))))))⟩
        · refine WO.gno rfl rfl ?_
          refine WO.gno rfl rfl ?_
          refine WO.gno rfl rfl ?_
          refine WO.pickF rfl rfl ?_
          refine WO.nil ?_
          exact ⟨rfl, rfl, (Cov.any rfl (andF q54) (Cov.skip rfl (Cov.skip rfl (Cov.skip rfl (Cov.skip rfl (Cov.skip rfl (Cov.refl _)))))))⟩
        refine WO.asg rfl ?_
        refine WO.nil ?_
        refine thenL_n ?_
        refine WC.ret ?_
        refine thenL_r ?_
        obtain rfl := someI h
        exact ⟨.inr rfl, _, _, rfl, rfl, rfl⟩
      · have h := iteF q53 h
        refine WC.skip ?_
        refine thenL_n ?_
        refine WC.seq ?_
        refine WC.region ?_
        refine WO.mv rfl ?_
        refine WO.lenS rfl hot0.slv rfl ?_
        obtain ⟨L55, e56, h⟩ := bindS h
        refine WO.mkS (A := Y3) (S := S49) 3 rfl rfl e56 rfl rfl rfl (fun v57 S58 c59 ho60 => ?_)
        have hot0 := hot0.to c59
        have hot1 := hot1.to c59
        have ho8 := ho8.to c59
        refine WO.asg rfl ?_
        refine WO.nil ?_
        refine thenL_n ?_
        refine WC.seq ?_
        refine WC.region ?_
        refine WO.asg rfl ?_
        refine WO.nil ?_
        refine thenL_n ?_
        refine WC.seq ?_
        refine WC.seq ?_
        refine WC.region ?_
        refine WO.mv rfl ?_
        refine WO.mv rfl ?_
        refine WO.nil ?_
        refine thenL_n ?_
        refine WC.block ?_
        obtain ⟨b95, e96, h⟩ := bindS h
        refine WC.loopD e96 (fun s61 l' m' n' => ∃ S63 : Cx n, ∃ v64 : SV, S63.m = m' ∧ S63.n = n' ∧ Cov l' [(0, .sc vt0), (9, .sc v7), (10, .sc (.int .i64 r5.2)), (12, .sc v57), (13, .sc v64), (100, .sc (.int .i64 t2)), (101, .sc (.int .i64 s61.2.1))] ∧ Rd Y3 S63 vt0 t0 ∧ Ow Y3 S63 2 v7 r5.1 ∧ Ow Y3 S63 3 v57 s61.2.2 ∧ Ow Y3 S63 4 v64 s61.1) (fun b e l' m' n' => (match b with | .inl b65 => e = .exit 1 ∧ ∃ S66 : Cx n, ∃ v67 : SV, S66.m = m' ∧ S66.n = n' ∧ Cov l' [(9, .sc v7), (10, .sc (.int .i64 r5.2)), (13, .sc v67)] ∧ Ow Y3 S66 2 v7 r5.1 ∧ Ow Y3 S66 4 v67 b65 | .inr b65 => e = .ret ∧ ∃ S68 : Cx n, S68.m = m' ∧ S68.n = n' ∧ Cov l' [(6, .sc (.bool b65))])) (by exact ⟨S58, .nils, rfl, rfl, (Cov.cons rfl (Cov.cons rfl (Cov.cons rfl (Cov.cons rfl (Cov.cons rfl (Cov.cons rfl (Cov.cons rfl (Cov.nil _)))))))), hot0, ho8, ho60, Ow.nil⟩) ?_ ?_
        · clear h
          rintro s61 q _ _ _ ⟨S69, v70, rfl, rfl, hc71, hot0, ho8, ho60, ho13⟩ h
          unfold F11_l0 at h
          refine WC.cov hc71 ?_
          refine WC.seq ?_
          refine WC.region ?_
          refine WO.bin rfl rfl (by decide) (by decide) rfl ?_
          refine WO.nil ?_
          refine thenL_n ?_
          refine WC.seq ?_
          refine WC.cond rfl (fun q72 => ?_) (fun q72 => ?_)
          · have h := iteT q72 h
            refine WC.skip ?_
            refine thenL_n ?_
            refine WC.seq ?_
            refine WC.block ?_
            refine WC.seq ?_
            refine WC.region ?_
            refine WO.mv rfl ?_
            refine WO.mv rfl ?_
            obtain ⟨r73, e74, h⟩ := bindS h
            refine WO.callE (S := S69) rfl rfl (F71_ok e74 hot0.vw ho60.vw) (fun S75 c76 => ?_)
            have hot0 := hot0.to c76
            have ho8 := ho8.to c76
            have ho60 := ho60.to c76
            have ho13 := ho13.to c76
            refine WO.asg rfl ?_
            refine WO.nil ?_
            refine thenL_n ?_
            refine WC.seq ?_
            refine WC.seq ?_
            refine WC.region ?_
            refine WO.mv rfl ?_
            refine WO.bin rfl rfl (by decide) (by decide) rfl ?_
            refine WO.nil ?_
            refine thenL_n ?_
            refine WC.cond rfl (fun q77 => ?_) (fun q77 => ?_)
            · have h := iteT q77 h
              refine WC.seq ?_
              refine WC.region ?_
              refine WO.mv rfl ?_
              refine WO.bin rfl rfl (by decide) (by decide) rfl ?_
              refine WO.mv rfl ?_
              refine WO.cutB (d := 114) 4 ((r5.2 == 4) && ((r5.1.length : Int) == 0)) (fun q78 => ?_) (fun q78 => ?_) ?_
              · skip
                refine WO.gyes rfl rfl ?_
                refine WO.mv rfl ?_
                refine WO.gyes rfl rfl ?_
                refine WO.lenS rfl ho8.slv rfl ?_
                refine WO.gyes rfl rfl ?_
                refine WO.bin rfl rfl (by decide) (by decide) rfl ?_
                refine WO.pickT rfl rfl ?_
                refine WO.nil ?_
                exact ⟨rfl, rfl, (Cov.any rfl (andT q78) (Cov.skip rfl (Cov.skip rfl (Cov.skip rfl (Cov.skip rfl (Cov.skip rfl (Cov.refl _)))))))⟩
              · refine WO.gno rfl rfl ?_
                refine WO.gno rfl rfl ?_
                refine WO.gno rfl rfl ?_
                refine WO.pickF rfl rfl ?_
                refine WO.nil ?_
                exact ⟨rfl, rfl, (Cov.any rfl (andF q78) (Cov.skip rfl (Cov.skip rfl (Cov.skip rfl (Cov.skip rfl (Cov.skip rfl (Cov.refl _)))))))⟩
              refine WO.asg rfl ?_
              refine WO.nil ?_
              refine thenL_n ?_
              refine WC.ret ?_
              refine thenL_r ?_
              refine blockL_r ?_
              refine thenL_r ?_
              refine thenL_r ?_
              obtain rfl := someI h
              exact ⟨_, rfl, rfl, ⟨S75, rfl, rfl, (Cov.cons rfl (Cov.nil _))⟩⟩
            · have h := iteF q77 h
              refine WC.skip ?_
              refine thenL_n ?_
              refine WC.seq ?_
              refine WC.region ?_
              refine WO.mv rfl ?_
              refine WO.mv rfl ?_
              obtain ⟨x79, e80, h⟩ := bindS h
              refine WO.ixS rfl rfl ho60.slv (at?_lt e80) rfl ?_
              refine WO.ldF rfl ho60.ro (fun _ hi => hi) (at?_get e80) rfl rfl rfl ?_
              refine WO.bin rfl rfl (by decide) (by decide) rfl ?_
              obtain ⟨u81, e82, h⟩ := bindS h
              refine WO.ixS rfl rfl ho60.slv (ck_some e82) rfl ?_
              refine WO.st1 (u' := (wrapA .i64 (x79 + 1))) rfl rfl ho60 (ck_nat e82) rfl rfl (fun S83 c84 ho60 => ?_)
              have hot0 := hot0.to c84
              have ho8 := ho8.to c84
              have ho13 := ho13.to c84
              refine WO.nil ?_
              refine thenL_n ?_
              refine WC.region ?_
              refine WO.mv rfl ?_
              refine WO.mv rfl ?_
              refine WO.bsS (A := Y3) (S := S83) (M := [r73]) (cs := [.int .i64 r73]) 5 rfl rfl rfl ⟨[.int .i64 r73], _, rfl, rfl, rfl⟩ rfl (fun v85 S86 c87 ho88 => ?_)
              have hot0 := hot0.to c87
              have ho8 := ho8.to c87
              have ho60 := ho60.to c87
              have ho13 := ho13.to c87
              obtain ⟨L89, e90, h⟩ := bindS h
              refine WO.appS rfl rfl ho13 ho88.ro e90 rfl rfl (fun v91 S92 c93 ho94 => ?_)
              have hot0 := hot0.to c93
              have ho8 := ho8.to c93
              have ho60 := ho60.to c93
              have ho88 := ho88.to c93
              refine WO.asg rfl ?_
              refine WO.nil ?_
              refine blockL_n ?_
              refine thenL_n ?_
              refine WC.region ?_
              refine WO.bin rfl rfl (by decide) (by decide) rfl ?_
              refine WO.mv rfl ?_
              refine WO.nil ?_
              refine thenL_n ?_
              obtain rfl := someI h
              exact ⟨_, rfl, ⟨S92, v91, rfl, rfl, (Cov.cons rfl (Cov.cons rfl (Cov.cons rfl (Cov.cons rfl (Cov.cons rfl (Cov.cons rfl (Cov.cons rfl (Cov.nil _)))))))), hot0, ho8, ho60, ho94⟩⟩
          · have h := iteF q72 h
            refine WC.exit ?_
            refine thenL_e ?_
            refine thenL_e ?_
            obtain rfl := someI h
            exact ⟨_, rfl, rfl, ⟨S69, v70, rfl, rfl, (Cov.cons rfl (Cov.cons rfl (Cov.cons rfl (Cov.nil _)))), ho8, ho13⟩⟩
        cases b95 with
        | inl b97 =>
          simp only at h
          rintro _ _ _ _ ⟨rfl, ⟨S98, v99, rfl, rfl, hc100, ho8, ho13⟩⟩
          refine blockL_s ?_
          refine thenL_n ?_
          refine WC.cov hc100 ?_
          refine WC.seq ?_
          refine WC.region ?_
          refine WO.mv rfl ?_
          refine WO.bin rfl rfl (by decide) (by decide) rfl ?_
          refine WO.mv rfl ?_
          obtain ⟨y106, e107, h⟩ := bindS h
          refine WO.cutS (d := 132) (S := S98) 4 y106 (fun q105 => ?_) (fun q105 => ?_) (fun S108 c109 => ?_)
          · have h := e107
            have h := iteT q105 h
            refine WO.gyes rfl rfl ?_
            refine WO.mv rfl ?_
            refine WO.gyes rfl rfl ?_
            refine WO.mv rfl ?_
            refine WO.gyes rfl rfl ?_
            obtain ⟨r101, e102, h⟩ := bindS h
            refine WO.callE (S := S98) rfl rfl (F64_ok e102 ho8.vw ho13.vw) (fun S103 c104 => ?_)
            have ho8 := ho8.to c104
            have ho13 := ho13.to c104
            obtain rfl := someI h
            refine WO.pickT rfl rfl ?_
            refine WO.nil ?_
            exact ⟨S103, rfl, rfl, c104, (Cov.cons rfl (Cov.skip rfl (Cov.skip rfl (Cov.skip rfl (Cov.skip rfl (Cov.skip rfl (Cov.refl _)))))))⟩
          · have h := e107
            have h := iteF q105 h
            obtain rfl := someI h
            refine WO.gno rfl rfl ?_
            refine WO.gno rfl rfl ?_
            refine WO.gno rfl rfl ?_
            refine WO.pickF rfl rfl ?_
            refine WO.nil ?_
            exact ⟨S98, rfl, rfl, Ch.refl _ _, (Cov.cons rfl (Cov.skip rfl (Cov.skip rfl (Cov.skip rfl (Cov.skip rfl (Cov.skip rfl (Cov.refl _)))))))⟩
          have ho8 := ho8.to c109
          have ho13 := ho13.to c109
          refine WO.asg rfl ?_
          refine WO.nil ?_
          refine thenL_n ?_
          refine WC.ret ?_
          obtain rfl := someI h
          exact ⟨.inr rfl, _, _, rfl, rfl, rfl⟩
        | inr b97 =>
          simp only at h
          rintro _ _ _ _ ⟨rfl, ⟨S110, rfl, rfl, hc111⟩⟩
          refine blockL_r ?_
          refine thenL_r ?_
          obtain rfl := someI h
          exact ⟨.inr rfl, _, _, (resK_cov hc111 rfl), rfl, rfl⟩
end Go.Proofs.Ytkfmedmanhcdeaa

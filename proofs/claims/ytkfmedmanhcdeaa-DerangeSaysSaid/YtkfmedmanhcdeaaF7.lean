/- The machine answers F7: printed by a program of ours (gen.py). -/
import Derived.Test.YtkfmedmanhcdeaaDef
import Derived.Test.YtkfmedmanhcdeaaEnv
import Derived.Test.YtkfmedmanhcdeaaF33
import Derived.Test.YtkfmedmanhcdeaaF35
import Derived.Test.YtkfmedmanhcdeaaF36
import Derived.Test.YtkfmedmanhcdeaaF37
import Derived.Test.YtkfmedmanhcdeaaF38
import Derived.Test.YtkfmedmanhcdeaaF39
set_option linter.unusedVariables false
namespace Go.Proofs.Ytkfmedmanhcdeaa
open Go.Am
theorem F7.fn : E.fn 7 = some ⟨132, (Try.f7.body.getD .skip), Try.f7.results.toList, []⟩ := rfl
theorem F7_ok {F : Nat} {m : Mem} {n : Nat} {r : Bool} {t0 : Int} {t1 : Int} {t2 : List Int} {vt2 : SV} (h : F7 F t0 t1 t2 = some r) (kt2 : Vw Y3 n m vt2 t2) : Ret E n 7 [.sc (.int .i64 t0), .sc (.int .i64 t1), .sc vt2] m n (fun v m' n' => v = .sc (.bool r)) := by
  unfold F7 at h
  refine Ret.walk F7.fn ?_
  refine WC.start fun S0 em en hz => ?_
  have hot2 := kt2.rdS em hz
  refine WC.seq ?_
  refine WC.region ?_
  refine WO.asg rfl ?_
  refine WO.nil ?_
  refine thenL_n ?_
  refine WC.seq ?_
  refine WC.region ?_
  refine WO.mv rfl ?_
  obtain ⟨r1, e2, h⟩ := bindS h
  refine WO.callE (S := S0) rfl rfl (F35_ok e2) (fun S3 c4 => ?_)
  have hot2 := hot2.to c4
  refine WO.mv rfl ?_
  refine WO.do rfl rfl ?_
  refine WO.do rfl rfl ?_
  refine WO.asg rfl ?_
  refine WO.asg rfl ?_
  refine WO.nil ?_
  refine thenL_n ?_
  refine WC.seq ?_
  refine WC.region ?_
  refine WO.mv rfl ?_
  refine WO.mv rfl ?_
  obtain ⟨r5, e6, h⟩ := bindS h
  refine WO.callE (S := S3) rfl rfl (F36_ok e6) (fun S7 c8 => ?_)
  have hot2 := hot2.to c8
  refine WO.mv rfl ?_
  refine WO.do rfl rfl ?_
  refine WO.do rfl rfl ?_
  refine WO.asg rfl ?_
  refine WO.asg rfl ?_
  refine WO.nil ?_
  refine thenL_n ?_
  refine WC.seq ?_
  refine WC.region ?_
  refine WO.mv rfl ?_
  obtain ⟨r9, e10, h⟩ := bindS h
  refine WO.callE (S := S7) rfl rfl (F37_ok e10 hot2.vw) (fun S11 c12 => ?_)
  have hot2 := hot2.to c12
  refine WO.mv rfl ?_
  refine WO.do rfl rfl ?_
  refine WO.do rfl rfl ?_
  refine WO.asg rfl ?_
  refine WO.asg rfl ?_
  refine WO.nil ?_
  refine thenL_n ?_
  refine WC.seq ?_
  refine WC.region ?_
  refine WO.mv rfl ?_
  obtain ⟨r13, e14, h⟩ := bindS h
  refine WO.callE (S := S11) rfl rfl (F38_ok e14 hot2.vw) (fun S15 c16 => ?_)
  have hot2 := hot2.to c16
  refine WO.asg rfl ?_
  refine WO.nil ?_
  refine thenL_n ?_
  refine WC.seq ?_
  refine WC.region ?_
  refine WO.asg rfl ?_
  refine WO.nil ?_
  refine thenL_n ?_
  refine WC.seq ?_
  refine WC.seq ?_
  refine WC.region ?_
  refine WO.mv rfl ?_
  refine WO.lenS rfl hot2.slv rfl ?_
  refine WO.mv rfl ?_
  refine WO.nil ?_
  refine thenL_n ?_
  refine WC.block ?_
  obtain ⟨b26, e27, h⟩ := bindS h
  refine WC.loopD e27 (fun s17 l' m' n' => ∃ S18 : Cx n, S18.m = m' ∧ S18.n = n' ∧ Cov l' [(0, .sc (.int .i64 t0)), (1, .sc (.int .i64 t1)), (2, .sc vt2), (7, .sc (.int .i64 r1.1)), (8, .sc (.int .i64 r1.2)), (9, .sc (.int .i64 r5.1)), (10, .sc (.int .i64 r5.2)), (11, .sc (.int .i64 r9.1)), (12, .sc (.int .i64 r9.2)), (13, .sc (.int .i64 r13)), (14, .sc (.int .i64 s17.1)), (35, .sc (.int .i64 ((t2.length : Int)))), (36, .sc (.int .i64 s17.2))] ∧ Rd Y3 S18 vt2 t2) (fun b e l' m' n' => e = .exit 0 ∧ ∃ S19 : Cx n, S19.m = m' ∧ S19.n = n' ∧ Cov l' [(0, .sc (.int .i64 t0)), (1, .sc (.int .i64 t1)), (7, .sc (.int .i64 r1.1)), (8, .sc (.int .i64 r1.2)), (9, .sc (.int .i64 r5.1)), (10, .sc (.int .i64 r5.2)), (11, .sc (.int .i64 r9.1)), (12, .sc (.int .i64 r9.2)), (13, .sc (.int .i64 r13)), (14, .sc (.int .i64 b))]) (by exact ⟨S15, rfl, rfl, (Cov.cons rfl (Cov.cons rfl (Cov.cons rfl (Cov.cons rfl (Cov.cons rfl (Cov.cons rfl (Cov.cons rfl (Cov.cons rfl (Cov.cons rfl (Cov.cons rfl (Cov.cons rfl (Cov.cons rfl (Cov.cons rfl (Cov.nil _)))))))))))))), hot2⟩) ?_ ?_
  · clear h
    rintro s17 q _ _ _ ⟨S20, rfl, rfl, hc21, hot2⟩ h
    unfold F7_l0 at h
    refine WC.cov hc21 ?_
    refine WC.seq ?_
    refine WC.region ?_
    refine WO.bin rfl rfl (by decide) (by decide) rfl ?_
    refine WO.nil ?_
    refine thenL_n ?_
    refine WC.seq ?_
    refine WC.cond rfl (fun q22 => ?_) (fun q22 => ?_)
    · have h := iteT q22 h
      refine WC.skip ?_
      refine thenL_n ?_
      refine WC.seq ?_
      refine WC.block ?_
      refine WC.seq ?_
      refine WC.region ?_
      refine WO.mv rfl ?_
      refine WO.asg rfl ?_
      refine WO.nil ?_
      refine thenL_n ?_
      refine WC.seq ?_
      refine WC.region ?_
      refine WO.mv rfl ?_
      refine WO.mv rfl ?_
      obtain ⟨x23, e24, h⟩ := bindS h
      refine WO.ixS rfl rfl hot2.slv (at?_lt e24) rfl ?_
      refine WO.ldF rfl hot2.ro (fun _ hi => hi) (at?_get e24) rfl rfl rfl ?_
      refine WO.mv rfl ?_
      refine WO.bin rfl rfl (by decide) (by decide) rfl ?_
      refine WO.nil ?_
      refine thenL_n ?_
      refine WC.cond rfl (fun q25 => ?_) (fun q25 => ?_)
      · have h := iteT q25 h
        refine WC.region ?_
        refine WO.mv rfl ?_
        refine WO.bin rfl rfl (by decide) (by decide) rfl ?_
        refine WO.asg rfl ?_
        refine WO.nil ?_
        refine blockL_n ?_
        refine thenL_n ?_
        refine WC.region ?_
        refine WO.bin rfl rfl (by decide) (by decide) rfl ?_
        refine WO.mv rfl ?_
        refine WO.nil ?_
        refine thenL_n ?_
        obtain rfl := someI h
        exact ⟨_, rfl, ⟨S20, rfl, rfl, (Cov.cons rfl (Cov.cons rfl (Cov.cons rfl (Cov.cons rfl (Cov.cons rfl (Cov.cons rfl (Cov.cons rfl (Cov.cons rfl (Cov.cons rfl (Cov.cons rfl (Cov.cons rfl (Cov.cons rfl (Cov.cons rfl (Cov.nil _)))))))))))))), hot2⟩⟩
      · have h := iteF q25 h
        refine WC.skip ?_
        refine blockL_n ?_
        refine thenL_n ?_
        refine WC.region ?_
        refine WO.bin rfl rfl (by decide) (by decide) rfl ?_
        refine WO.mv rfl ?_
        refine WO.nil ?_
        refine thenL_n ?_
        obtain rfl := someI h
        exact ⟨_, rfl, ⟨S20, rfl, rfl, (Cov.cons rfl (Cov.cons rfl (Cov.cons rfl (Cov.cons rfl (Cov.cons rfl (Cov.cons rfl (Cov.cons rfl (Cov.cons rfl (Cov.cons rfl (Cov.cons rfl (Cov.cons rfl (Cov.cons rfl (Cov.cons rfl (Cov.nil _)))))))))))))), hot2⟩⟩
    · have h := iteF q22 h
      refine WC.exit ?_
      refine thenL_e ?_
      refine thenL_e ?_
      obtain rfl := someI h
      exact ⟨_, rfl, rfl, ⟨S20, rfl, rfl, (Cov.cons rfl (Cov.cons rfl (Cov.cons rfl (Cov.cons rfl (Cov.cons rfl (Cov.cons rfl (Cov.cons rfl (Cov.cons rfl (Cov.cons rfl (Cov.cons rfl (Cov.nil _)))))))))))⟩⟩
  rintro _ _ _ _ ⟨rfl, ⟨S28, rfl, rfl, hc29⟩⟩
  refine blockL_s ?_
  refine thenL_n ?_
  refine WC.cov hc29 ?_
  refine WC.seq ?_
  refine WC.seq ?_
  refine WC.region ?_
  refine WO.mv rfl ?_
  refine WO.mv rfl ?_
  refine WO.bin rfl rfl (by decide) (by decide) rfl ?_
  refine WO.mv rfl ?_
  refine WO.cutB (d := 58) 7 ((r9.2 != r13) || ((r13 != 0) && (r9.1 != 0))) (fun q31 => ?_) (fun q31 => ?_) ?_
  · refine WO.gno rfl rfl ?_
    refine WO.gno rfl rfl ?_
    refine WO.gno rfl rfl ?_
    refine WO.gskip rfl rfl ?_
    refine WO.gskip rfl rfl ?_
    refine WO.gno rfl rfl ?_
    refine WO.pickT rfl rfl ?_
    refine WO.nil ?_
    exact ⟨rfl, rfl, (Cov.any rfl (orT q31) (Cov.skip rfl (Cov.skip rfl (Cov.skip rfl (Cov.skip rfl (Cov.skip rfl (Cov.skip rfl (Cov.skip rfl (Cov.skip rfl (Cov.refl _))))))))))⟩
  · skip
    refine WO.gyes rfl rfl ?_
    refine WO.mv rfl ?_
    refine WO.gyes rfl rfl ?_
    refine WO.bin rfl rfl (by decide) (by decide) rfl ?_
    refine WO.gyes rfl rfl ?_
    refine WO.mv rfl ?_
    refine WO.cutB (d := 57) 3 ((r13 != 0) && (r9.1 != 0)) (fun q30 => ?_) (fun q30 => ?_) ?_
    · skip
      refine WO.gyes rfl rfl ?_
      refine WO.mv rfl ?_
      refine WO.gyes rfl rfl ?_
      refine WO.bin rfl rfl (by decide) (by decide) rfl ?_
      refine WO.gyes rfl rfl ?_
      refine WO.pickT rfl rfl ?_
      refine WO.nil ?_
      exact ⟨rfl, rfl, (Cov.any rfl (andT q30) (Cov.skip rfl (Cov.skip rfl (Cov.skip rfl (Cov.skip rfl (Cov.refl _))))))⟩
    · refine WO.gno rfl rfl ?_
      refine WO.gno rfl rfl ?_
      refine WO.gyes rfl rfl ?_
      refine WO.pickF rfl rfl ?_
      refine WO.nil ?_
      exact ⟨rfl, rfl, (Cov.any rfl (andF q30) (Cov.skip rfl (Cov.skip rfl (Cov.skip rfl (Cov.skip rfl (Cov.refl _))))))⟩
    refine WO.pickF rfl rfl ?_
    refine WO.nil ?_
    exact ⟨rfl, rfl, (Cov.any rfl (orF q31) (Cov.skip rfl (Cov.skip rfl (Cov.skip rfl (Cov.skip rfl (Cov.skip rfl (Cov.refl _)))))))⟩
  refine WO.mv rfl ?_
  refine WO.cutB (d := 67) 8 (((r9.2 != r13) || ((r13 != 0) && (r9.1 != 0))) || ((r13 == 0) && (r9.1 != b26))) (fun q33 => ?_) (fun q33 => ?_) ?_
  · refine WO.gno rfl rfl ?_
    refine WO.gno rfl rfl ?_
    refine WO.gno rfl rfl ?_
    refine WO.gskip rfl rfl ?_
    refine WO.gskip rfl rfl ?_
    refine WO.gskip rfl rfl ?_
    refine WO.gno rfl rfl ?_
    refine WO.pickT rfl rfl ?_
    refine WO.nil ?_
    exact ⟨rfl, rfl, (Cov.any rfl (orT q33) (Cov.skip rfl (Cov.skip rfl (Cov.skip rfl (Cov.skip rfl (Cov.skip rfl (Cov.skip rfl (Cov.skip rfl (Cov.skip rfl (Cov.skip rfl (Cov.refl _)))))))))))⟩
  · skip
    refine WO.gyes rfl rfl ?_
    refine WO.mv rfl ?_
    refine WO.gyes rfl rfl ?_
    refine WO.bin rfl rfl (by decide) (by decide) rfl ?_
    refine WO.gyes rfl rfl ?_
    refine WO.mv rfl ?_
    refine WO.cutB (d := 66) 4 ((r13 == 0) && (r9.1 != b26)) (fun q32 => ?_) (fun q32 => ?_) ?_
    · skip
      refine WO.gyes rfl rfl ?_
      refine WO.mv rfl ?_
      refine WO.gyes rfl rfl ?_
      refine WO.mv rfl ?_
      refine WO.gyes rfl rfl ?_
      refine WO.bin rfl rfl (by decide) (by decide) rfl ?_
      refine WO.gyes rfl rfl ?_
      refine WO.pickT rfl rfl ?_
      refine WO.nil ?_
      exact ⟨rfl, rfl, (Cov.any rfl (andT q32) (Cov.skip rfl (Cov.skip rfl (Cov.skip rfl (Cov.skip rfl (Cov.skip rfl (Cov.refl _)))))))⟩
    · refine WO.gno rfl rfl ?_
      refine WO.gno rfl rfl ?_
      refine WO.gno rfl rfl ?_
      refine WO.gyes rfl rfl ?_
      refine WO.pickF rfl rfl ?_
      refine WO.nil ?_
      exact ⟨rfl, rfl, (Cov.any rfl (andF q32) (Cov.skip rfl (Cov.skip rfl (Cov.skip rfl (Cov.skip rfl (Cov.skip rfl (Cov.refl _)))))))⟩
    refine WO.pickF rfl rfl ?_
    refine WO.nil ?_
    exact ⟨rfl, rfl, (Cov.any rfl (orF q33) (Cov.skip rfl (Cov.skip rfl (Cov.skip rfl (Cov.skip rfl (Cov.skip rfl (Cov.refl _)))))))⟩
  refine WO.nil ?_
  refine thenL_n ?_
  refine WC.cond rfl (fun q34 => ?_) (fun q34 => ?_)
  · have h := iteT q34 h
    refine WC.seq ?_
    refine WC.region ?_
    refine WO.asg rfl ?_
    refine WO.nil ?_
    refine thenL_n ?_
    refine WC.ret ?_
    refine thenL_r ?_
    obtain rfl := someI h
    exact ⟨.inr rfl, _, _, rfl, rfl, rfl⟩
  · have h := iteF q34 h
    refine WC.skip ?_
    refine thenL_n ?_
    refine WC.seq ?_
    refine WC.seq ?_
    refine WC.region ?_
    refine WO.mv rfl ?_
    refine WO.bin rfl rfl (by decide) (by decide) rfl ?_
    refine WO.mv rfl ?_
    refine WO.cutB (d := 73) 3 ((decide (t0 < 0)) || (decide (t0 > 15))) (fun q35 => ?_) (fun q35 => ?_) ?_
    · refine WO.gno rfl rfl ?_
      refine WO.gno rfl rfl ?_
      refine WO.pickT rfl rfl ?_
      refine WO.nil ?_
      exact ⟨rfl, rfl, (Cov.any rfl (orT q35) (Cov.skip rfl (Cov.skip rfl (Cov.skip rfl (Cov.skip rfl (Cov.refl _))))))⟩
    · skip
      refine WO.gyes rfl rfl ?_
      refine WO.mv rfl ?_
      refine WO.gyes rfl rfl ?_
      refine WO.bin rfl rfl (by decide) (by decide) rfl ?_
      refine WO.pickF rfl rfl ?_
      refine WO.nil ?_
      exact ⟨rfl, rfl, (Cov.any rfl (orF q35) (Cov.skip rfl (Cov.skip rfl (Cov.skip rfl (Cov.skip rfl (Cov.refl _))))))⟩
    refine WO.nil ?_
    refine thenL_n ?_
    refine WC.cond rfl (fun q36 => ?_) (fun q36 => ?_)
    · have h := iteT q36 h
      refine WC.seq ?_
      refine WC.region ?_
      refine WO.mv rfl ?_
      refine WO.bin rfl rfl (by decide) (by decide) rfl ?_
      refine WO.mv rfl ?_
      refine WO.cutB (d := 80) 4 ((r1.2 == 1) && (r5.2 == r1.2)) (fun q37 => ?_) (fun q37 => ?_) ?_
      · skip
        refine WO.gyes rfl rfl ?_
        refine WO.mv rfl ?_
        refine WO.gyes rfl rfl ?_
        refine WO.mv rfl ?_
        refine WO.gyes rfl rfl ?_
        refine WO.bin rfl rfl (by decide) (by decide) rfl ?_
        refine WO.pickT rfl rfl ?_
        refine WO.nil ?_
        exact ⟨rfl, rfl, (Cov.any rfl (andT q37) (Cov.skip rfl (Cov.skip rfl (Cov.skip rfl (Cov.skip rfl (Cov.skip rfl (Cov.refl _)))))))⟩
      · refine WO.gno rfl rfl ?_
        refine WO.gno rfl rfl ?_
        refine WO.gno rfl rfl ?_
        refine WO.pickF rfl rfl ?_
        refine WO.nil ?_
        exact ⟨rfl, rfl, (Cov.any rfl (andF q37) (Cov.skip rfl (Cov.skip rfl (Cov.skip rfl (Cov.skip rfl (Cov.skip rfl (Cov.refl _)))))))⟩
      refine WO.mv rfl ?_
      refine WO.cutB (d := 84) 3 (((r1.2 == 1) && (r5.2 == r1.2)) && (r1.1 == 0)) (fun q38 => ?_) (fun q38 => ?_) ?_
      · skip
        refine WO.gyes rfl rfl ?_
        refine WO.mv rfl ?_
        refine WO.gyes rfl rfl ?_
        refine WO.bin rfl rfl (by decide) (by decide) rfl ?_
        refine WO.pickT rfl rfl ?_
        refine WO.nil ?_
        exact ⟨rfl, rfl, (Cov.any rfl (andT q38) (Cov.skip rfl (Cov.skip rfl (Cov.skip rfl (Cov.skip rfl (Cov.refl _))))))⟩
      · refine WO.gno rfl rfl ?_
        refine WO.gno rfl rfl ?_
        refine WO.pickF rfl rfl ?_
        refine WO.nil ?_
        exact ⟨rfl, rfl, (Cov.any rfl (andF q38) (Cov.skip rfl (Cov.skip rfl (Cov.skip rfl (Cov.skip rfl (Cov.refl _))))))⟩
      refine WO.mv rfl ?_
      refine WO.cutB (d := 88) 3 ((((r1.2 == 1) && (r5.2 == r1.2)) && (r1.1 == 0)) && (r5.1 == 0)) (fun q39 => ?_) (fun q39 => ?_) ?_
      · skip
        refine WO.gyes rfl rfl ?_
        refine WO.mv rfl ?_
        refine WO.gyes rfl rfl ?_
        refine WO.bin rfl rfl (by decide) (by decide) rfl ?_
        refine WO.pickT rfl rfl ?_
        refine WO.nil ?_
        exact ⟨rfl, rfl, (Cov.any rfl (andT q39) (Cov.skip rfl (Cov.skip rfl (Cov.skip rfl (Cov.skip rfl (Cov.refl _))))))⟩
      · refine WO.gno rfl rfl ?_
        refine WO.gno rfl rfl ?_
        refine WO.pickF rfl rfl ?_
        refine WO.nil ?_
        exact ⟨rfl, rfl, (Cov.any rfl (andF q39) (Cov.skip rfl (Cov.skip rfl (Cov.skip rfl (Cov.skip rfl (Cov.refl _))))))⟩
      refine WO.asg rfl ?_
      refine WO.nil ?_
      refine thenL_n ?_
      refine WC.ret ?_
      refine thenL_r ?_
      obtain rfl := someI h
      exact ⟨.inr rfl, _, _, rfl, rfl, rfl⟩
    · have h := iteF q36 h
      refine WC.skip ?_
      refine thenL_n ?_
      refine WC.seq ?_
      refine WC.seq ?_
      refine WC.region ?_
      refine WO.mv rfl ?_
      refine WO.bin rfl rfl (by decide) (by decide) rfl ?_
      refine WO.mv rfl ?_
      obtain ⟨y45, e46, h⟩ := bindS h
      refine WO.cutS (d := 96) (S := S28) 5 y45 (fun q44 => ?_) (fun q44 => ?_) (fun S47 c48 => ?_)
      · have h := e46
        have h := iteT q44 h
        obtain rfl := someI h
        refine WO.gno rfl rfl ?_
        refine WO.gno rfl rfl ?_
        refine WO.gno rfl rfl ?_
        refine WO.gno rfl rfl ?_
        refine WO.pickT rfl rfl ?_
        refine WO.nil ?_
        exact ⟨S28, rfl, rfl, Ch.refl _ _, (Cov.cons rfl (Cov.skip rfl (Cov.skip rfl (Cov.skip rfl (Cov.skip rfl (Cov.skip rfl (Cov.skip rfl (Cov.refl _))))))))⟩
      · have h := e46
        have h := iteF q44 h
        refine WO.gyes rfl rfl ?_
        refine WO.mv rfl ?_
        refine WO.gyes rfl rfl ?_
        refine WO.mv rfl ?_
        refine WO.gyes rfl rfl ?_
        obtain ⟨r40, e41, h⟩ := bindS h
        refine WO.callE (S := S28) rfl rfl (F39_ok e41) (fun S42 c43 => ?_)
        refine WO.gyes rfl rfl ?_
        refine WO.bin rfl rfl (by decide) (by decide) rfl ?_
        obtain rfl := someI h
        refine WO.pickF rfl rfl ?_
        refine WO.nil ?_
        exact ⟨S42, rfl, rfl, c43, (Cov.cons rfl (Cov.skip rfl (Cov.skip rfl (Cov.skip rfl (Cov.skip rfl (Cov.skip rfl (Cov.skip rfl (Cov.refl _))))))))⟩
      refine WO.nil ?_
      refine thenL_n ?_
      refine WC.cond rfl (fun q49 => ?_) (fun q49 => ?_)
      · have h := iteT q49 h
        refine WC.seq ?_
        refine WC.region ?_
        refine WO.asg rfl ?_
        refine WO.nil ?_
        refine thenL_n ?_
        refine WC.ret ?_
        refine thenL_r ?_
        obtain rfl := someI h
        exact ⟨.inr rfl, _, _, rfl, rfl, rfl⟩
      · have h := iteF q49 h
        refine WC.skip ?_
        refine thenL_n ?_
        refine WC.seq ?_
        refine WC.seq ?_
        refine WC.region ?_
        refine WO.mv rfl ?_
        refine WO.bin rfl rfl (by decide) (by decide) rfl ?_
        refine WO.mv rfl ?_
        refine WO.cutB (d := 102) 3 ((decide (t1 < 0)) || (decide (t1 > 15))) (fun q50 => ?_) (fun q50 => ?_) ?_
        · refine WO.gno rfl rfl ?_
          refine WO.gno rfl rfl ?_
          refine WO.pickT rfl rfl ?_
          refine WO.nil ?_
          exact ⟨rfl, rfl, (Cov.any rfl (orT q50) (Cov.skip rfl (Cov.skip rfl (Cov.skip rfl (Cov.skip rfl (Cov.refl _))))))⟩
        · skip
          refine WO.gyes rfl rfl ?_
          refine WO.mv rfl ?_
          refine WO.gyes rfl rfl ?_
          refine WO.bin rfl rfl (by decide) (by decide) rfl ?_
          refine WO.pickF rfl rfl ?_
          refine WO.nil ?_
          exact ⟨rfl, rfl, (Cov.any rfl (orF q50) (Cov.skip rfl (Cov.skip rfl (Cov.skip rfl (Cov.skip rfl (Cov.refl _))))))⟩
        refine WO.nil ?_
        refine thenL_n ?_
        refine WC.cond rfl (fun q51 => ?_) (fun q51 => ?_)
        · have h := iteT q51 h
          refine WC.seq ?_
          refine WC.region ?_
          refine WO.mv rfl ?_
          refine WO.bin rfl rfl (by decide) (by decide) rfl ?_
          refine WO.mv rfl ?_
          refine WO.cutB (d := 108) 3 ((r5.2 == 1) && (r5.1 == 0)) (fun q52 => ?_) (fun q52 => ?_) ?_
          · skip
            refine WO.gyes rfl rfl ?_
            refine WO.mv rfl ?_
            refine WO.gyes rfl rfl ?_
            refine WO.bin rfl rfl (by decide) (by decide) rfl ?_
            refine WO.pickT rfl rfl ?_
            refine WO.nil ?_
            exact ⟨rfl, rfl, (Cov.any rfl (andT q52) (Cov.skip rfl (Cov.skip rfl (Cov.skip rfl (Cov.skip rfl (Cov.refl _))))))⟩
          · refine WO.gno rfl rfl ?_
            refine WO.gno rfl rfl ?_
            refine WO.pickF rfl rfl ?_
            refine WO.nil ?_
            exact ⟨rfl, rfl, (Cov.any rfl (andF q52) (Cov.skip rfl (Cov.skip rfl (Cov.skip rfl (Cov.skip rfl (Cov.refl _))))))⟩
          refine WO.asg rfl ?_
          refine WO.nil ?_
          refine thenL_n ?_
          refine WC.ret ?_
          refine thenL_r ?_
          obtain rfl := someI h
          exact ⟨.inr rfl, _, _, rfl, rfl, rfl⟩
        · have h := iteF q51 h
          refine WC.skip ?_
          refine thenL_n ?_
          refine WC.seq ?_
          refine WC.seq ?_
          refine WC.region ?_
          refine WO.mv rfl ?_
          refine WO.mv rfl ?_
          refine WO.bin rfl rfl (by decide) (by decide) rfl ?_
          refine WO.nil ?_
          refine thenL_n ?_
          refine WC.cond rfl (fun q53 => ?_) (fun q53 => ?_)
          · have h := iteT q53 h
            refine WC.seq ?_
            refine WC.region ?_
            refine WO.mv rfl ?_
            refine WO.bin rfl rfl (by decide) (by decide) rfl ?_
            refine WO.mv rfl ?_
            refine WO.cutB (d := 117) 3 ((r5.2 == 0) && (r5.1 == 0)) (fun q54 => ?_) (fun q54 => ?_) ?_
            · skip
              refine WO.gyes rfl rfl ?_
              refine WO.mv rfl ?_
              refine WO.gyes rfl rfl ?_
              refine WO.bin rfl rfl (by decide) (by decide) rfl ?_
              refine WO.pickT rfl rfl ?_
              refine WO.nil ?_
              exact ⟨rfl, rfl, (Cov.any rfl (andT q54) (Cov.skip rfl (Cov.skip rfl (Cov.skip rfl (Cov.skip rfl (Cov.refl _))))))⟩
            · refine WO.gno rfl rfl ?_
              refine WO.gno rfl rfl ?_
              refine WO.pickF rfl rfl ?_
              refine WO.nil ?_
              exact ⟨rfl, rfl, (Cov.any rfl (andF q54) (Cov.skip rfl (Cov.skip rfl (Cov.skip rfl (Cov.skip rfl (Cov.refl _))))))⟩
            refine WO.asg rfl ?_
            refine WO.nil ?_
            refine thenL_n ?_
            refine WC.ret ?_
            refine thenL_r ?_
            obtain rfl := someI h
            exact ⟨.inr rfl, _, _, rfl, rfl, rfl⟩
          · have h := iteF q53 h
            refine WC.skip ?_
            refine thenL_n ?_
            refine WC.seq ?_
            refine WC.region ?_
            refine WO.mv rfl ?_
            refine WO.bin rfl rfl (by decide) (by decide) rfl ?_
            refine WO.mv rfl ?_
            obtain ⟨y64, e65, h⟩ := bindS h
            refine WO.cutS (d := 131) (S := S47) 11 y64 (fun q63 => ?_) (fun q63 => ?_) (fun S66 c67 => ?_)
            · have h := e65
              have h := iteT q63 h
              refine WO.gyes rfl rfl ?_
              refine WO.mv rfl ?_
              refine WO.gyes rfl rfl ?_
              refine WO.mv rfl ?_
              refine WO.gyes rfl rfl ?_
              refine WO.mv rfl ?_
              refine WO.gyes rfl rfl ?_
              obtain ⟨r55, e56, h⟩ := bindS h
              refine WO.callE (S := S47) rfl rfl (F33_ok e56) (fun S57 c58 => ?_)
              refine WO.gyes rfl rfl ?_
              refine WO.mv rfl ?_
              refine WO.gyes rfl rfl ?_
              refine WO.mv rfl ?_
              refine WO.gyes rfl rfl ?_
              refine WO.bin rfl rfl (by decide) (by decide) rfl ?_
              refine WO.gyes rfl rfl ?_
              obtain ⟨r59, e60, h⟩ := bindS h
              refine WO.callE (S := S57) rfl rfl (F39_ok e60) (fun S61 c62 => ?_)
              refine WO.gyes rfl rfl ?_
              refine WO.bin rfl rfl (by decide) (by decide) rfl ?_
              refine WO.gyes rfl rfl ?_
              refine WO.bin rfl rfl (by decide) (by decide) rfl ?_
              obtain rfl := someI h
              refine WO.pickT rfl rfl ?_
              refine WO.nil ?_
              exact ⟨S61, rfl, rfl, (c58.trans c62), (Cov.cons rfl (Cov.skip rfl (Cov.skip rfl (Cov.skip rfl (Cov.skip rfl (Cov.skip rfl (Cov.skip rfl (Cov.skip rfl (Cov.skip rfl (Cov.skip rfl (Cov.skip rfl (Cov.skip rfl (Cov.skip rfl (Cov.refl _))))))))))))))⟩
            · have h := e65
              have h := iteF q63 h
              obtain rfl := someI h
              refine WO.gno rfl rfl ?_
              refine WO.gno rfl rfl ?_
              refine WO.gno rfl rfl ?_
              refine WO.gno rfl rfl ?_
              refine WO.gno rfl rfl ?_
              refine WO.gno rfl rfl ?_
              refine WO.gno rfl rfl ?_
              refine WO.gno rfl rfl ?_
              refine WO.gno rfl rfl ?_
              refine WO.gno rfl rfl ?_
              refine WO.pickF rfl rfl ?_
              refine WO.nil ?_
              exact ⟨S47, rfl, rfl, Ch.refl _ _, (Cov.cons rfl (Cov.skip rfl (Cov.skip rfl (Cov.skip rfl (Cov.skip rfl (Cov.skip rfl (Cov.skip rfl (Cov.skip rfl (Cov.skip rfl (Cov.skip rfl (Cov.skip rfl (Cov.skip rfl (Cov.skip rfl (Cov.refl _))))))))))))))⟩
            refine WO.asg rfl ?_
            refine WO.nil ?_
            refine thenL_n ?_
            refine WC.ret ?_
            obtain rfl := someI h
            exact ⟨.inr rfl, _, _, rfl, rfl, rfl⟩
end Go.Proofs.Ytkfmedmanhcdeaa

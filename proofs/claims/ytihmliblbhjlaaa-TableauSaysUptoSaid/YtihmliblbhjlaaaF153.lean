/- The machine answers F153: printed by a program of ours (gen.py). -/
import Derived.Test.YtihmliblbhjlaaaDef
import Derived.Test.YtihmliblbhjlaaaEnv
import Derived.Test.YtihmliblbhjlaaaF151
import Derived.Test.YtihmliblbhjlaaaF168
set_option linter.unusedVariables false
namespace Go.Proofs.Ytihmliblbhjlaaa
open Go.Am
theorem F153.fn : E.fn 153 = some ⟨54, (Try.f153.body.getD .skip), Try.f153.results.toList, []⟩ := rfl
theorem F153_ok {F : Nat} {m : Mem} {n : Nat} {r : Int × Bool} {t0 : List Int} {t1 : Int} {vt0 : SV} (h : F153 F t0 t1 = some r) (kt0 : Vw Y3 n m vt0 t0) : Ret E n 153 [.sc vt0, .sc (.int .i64 t1)] m n (fun v m' n' => v = .tup [.sc (.int .i64 r.1), .sc (.bool r.2)]) := by
  unfold F153 at h
  refine Ret.walk F153.fn ?_
  refine WC.start fun S0 em en hz => ?_
  have hot0 := kt0.rdS em hz
  refine WC.seq ?_
  refine WC.region ?_
  refine WO.asg rfl ?_
  refine WO.asg rfl ?_
  refine WO.nil ?_
  refine thenL_n ?_
  refine WC.seq ?_
  refine WC.region ?_
  refine WO.mv rfl ?_
  refine WO.lenS rfl hot0.slv rfl ?_
  refine WO.asg rfl ?_
  refine WO.nil ?_
  refine thenL_n ?_
  refine WC.seq ?_
  refine WC.region ?_
  refine WO.mv rfl ?_
  refine WO.asg rfl ?_
  refine WO.asg rfl ?_
  refine WO.nil ?_
  refine thenL_n ?_
  refine WC.seq ?_
  refine WC.block ?_
  obtain ⟨b16, e17, h⟩ := bindS h
  refine WC.loopD e17 (fun s1 l' m' n' => ∃ S2 : Cx n, S2.m = m' ∧ S2.n = n' ∧ Cov l' [(0, .sc vt0), (1, .sc (.int .i64 t1)), (6, .sc (.int .i64 ((t0.length : Int)))), (7, .sc (.int .i64 s1.1)), (8, .sc (.int .i64 s1.2))] ∧ Rd Y3 S2 vt0 t0) (fun b e l' m' n' => e = .exit 0 ∧ ∃ S3 : Cx n, S3.m = m' ∧ S3.n = n' ∧ Cov l' [(0, .sc vt0), (1, .sc (.int .i64 t1)), (6, .sc (.int .i64 ((t0.length : Int)))), (7, .sc (.int .i64 b))] ∧ Rd Y3 S3 vt0 t0) (by exact ⟨S0, rfl, rfl, (Cov.cons rfl (Cov.cons rfl (Cov.cons rfl (Cov.cons rfl (Cov.cons rfl (Cov.nil _)))))), hot0⟩) ?_ ?_
  · clear h
    rintro s1 q _ _ _ ⟨S4, rfl, rfl, hc5, hot0⟩ h
    unfold F153_l0 at h
    refine WC.cov hc5 ?_
    refine WC.seq ?_
    refine WC.seq ?_
    refine WC.region ?_
    refine WO.mv rfl ?_
    refine WO.mv rfl ?_
    refine WO.bin rfl rfl (by decide) (by decide) rfl ?_
    refine WO.nil ?_
    refine thenL_n ?_
    refine WC.cond rfl (fun q6 => ?_) (fun q6 => ?_)
    · have h := iteT q6 h
      refine WC.skip ?_
      refine thenL_n ?_
      refine WC.block ?_
      refine WC.seq ?_
      refine WC.region ?_
      refine WO.mv rfl ?_
      refine WO.mv rfl ?_
      refine WO.bin rfl rfl (by decide) (by decide) rfl ?_
      refine WO.conv rfl rfl rfl rfl ?_
      obtain ⟨x7, e8, h⟩ := bindS h
      refine WO.shrD rfl rfl e8 ?_
      refine WO.conv rfl rfl rfl rfl ?_
      refine WO.asg rfl ?_
      refine WO.nil ?_
      refine thenL_n ?_
      refine WC.seq ?_
      refine WC.region ?_
      refine WO.mv rfl ?_
      refine WO.mv rfl ?_
      obtain ⟨x9, e10, h⟩ := bindS h
      refine WO.ixS rfl rfl hot0.slv (at?_lt e10) rfl ?_
      refine WO.ldF rfl hot0.ro (fun _ hi => hi) (at?_get e10) rfl rfl rfl ?_
      refine WO.mv rfl ?_
      obtain ⟨r11, e12, h⟩ := bindS h
      refine WO.callE (S := S4) rfl rfl (F151_ok e12) (fun S13 c14 => ?_)
      have hot0 := hot0.to c14
      refine WO.nil ?_
      refine thenL_n ?_
      refine WC.cond rfl (fun q15 => ?_) (fun q15 => ?_)
      · have h := iteT q15 h
        refine WC.region ?_
        refine WO.mv rfl ?_
        refine WO.bin rfl rfl (by decide) (by decide) rfl ?_
        refine WO.asg rfl ?_
        refine WO.nil ?_
        refine blockL_n ?_
        refine thenL_n ?_
        obtain rfl := someI h
        exact ⟨_, rfl, ⟨S13, rfl, rfl, (Cov.cons rfl (Cov.cons rfl (Cov.cons rfl (Cov.cons rfl (Cov.cons rfl (Cov.nil _)))))), hot0⟩⟩
      · have h := iteF q15 h
        refine WC.region ?_
        refine WO.mv rfl ?_
        refine WO.asg rfl ?_
        refine WO.nil ?_
        refine blockL_n ?_
        refine thenL_n ?_
        obtain rfl := someI h
        exact ⟨_, rfl, ⟨S13, rfl, rfl, (Cov.cons rfl (Cov.cons rfl (Cov.cons rfl (Cov.cons rfl (Cov.cons rfl (Cov.nil _)))))), hot0⟩⟩
    · have h := iteF q6 h
      refine WC.exit ?_
      refine thenL_e ?_
      refine thenL_e ?_
      obtain rfl := someI h
      exact ⟨_, rfl, rfl, ⟨S4, rfl, rfl, (Cov.cons rfl (Cov.cons rfl (Cov.cons rfl (Cov.cons rfl (Cov.nil _))))), hot0⟩⟩
  rintro _ _ _ _ ⟨rfl, ⟨S18, rfl, rfl, hc19, hot0⟩⟩
  refine blockL_s ?_
  refine thenL_n ?_
  refine WC.cov hc19 ?_
  refine WC.seq ?_
  refine WC.region ?_
  refine WO.mv rfl ?_
  refine WO.mv rfl ?_
  refine WO.mv rfl ?_
  refine WO.bin rfl rfl (by decide) (by decide) rfl ?_
  refine WO.mv rfl ?_
  obtain ⟨y43, e44, h⟩ := bindS h
  refine WO.cutS (d := 53) (S := S18) 18 y43 (fun q42 => ?_) (fun q42 => ?_) (fun S45 c46 => ?_)
  · have h := e44
    have h := iteT q42 h
    refine WO.gyes rfl rfl ?_
    refine WO.mv rfl ?_
    refine WO.gyes rfl rfl ?_
    refine WO.mv rfl ?_
    refine WO.gyes rfl rfl ?_
    obtain ⟨x20, e21, h⟩ := bindS h
    refine WO.ixS rfl rfl hot0.slv (at?_lt e21) rfl ?_
    refine WO.gyes rfl rfl ?_
    refine WO.ldF rfl hot0.ro (fun _ hi => hi) (at?_get e21) rfl rfl rfl ?_
    refine WO.gyes rfl rfl ?_
    refine WO.mv rfl ?_
    refine WO.gyes rfl rfl ?_
    refine WO.bin rfl rfl (by decide) (by decide) rfl ?_
    refine WO.gyes rfl rfl ?_
    refine WO.mv rfl ?_
    obtain ⟨y38, e39, h⟩ := bindS h
    refine WO.cutS (d := 52) (S := S18) 10 y38 (fun q37 => ?_) (fun q37 => ?_) (fun S40 c41 => ?_)
    · have h := e39
      have h := iteT q37 h
      obtain rfl := someI h
      refine WO.gno rfl rfl ?_
      refine WO.gno rfl rfl ?_
      refine WO.gno rfl rfl ?_
      refine WO.gno rfl rfl ?_
      refine WO.gno rfl rfl ?_
      refine WO.gno rfl rfl ?_
      refine WO.gskip rfl rfl ?_
      refine WO.gskip rfl rfl ?_
      refine WO.gno rfl rfl ?_
      refine WO.gyes rfl rfl ?_
      refine WO.pickT rfl rfl ?_
      refine WO.nil ?_
      exact ⟨S18, rfl, rfl, Ch.refl _ _, (Cov.cons rfl (Cov.skip rfl (Cov.skip rfl (Cov.skip rfl (Cov.skip rfl (Cov.skip rfl (Cov.skip rfl (Cov.skip rfl (Cov.skip rfl (Cov.skip rfl (Cov.skip rfl (Cov.skip rfl (Cov.refl _)))))))))))))⟩
    · have h := e39
      have h := iteF q37 h
      refine WO.gyes rfl rfl ?_
      refine WO.mv rfl ?_
      refine WO.gyes rfl rfl ?_
      refine WO.mv rfl ?_
      refine WO.gyes rfl rfl ?_
      obtain ⟨x22, e23, h⟩ := bindS h
      refine WO.ixS rfl rfl hot0.slv (at?_lt e23) rfl ?_
      refine WO.gyes rfl rfl ?_
      refine WO.ldF rfl hot0.ro (fun _ hi => hi) (at?_get e23) rfl rfl rfl ?_
      refine WO.gyes rfl rfl ?_
      obtain ⟨r24, e25, h⟩ := bindS h
      refine WO.callE (S := S18) rfl rfl (F168_ok e25) (fun S26 c27 => ?_)
      have hot0 := hot0.to c27
      refine WO.gyes rfl rfl ?_
      refine WO.mv rfl ?_
      obtain ⟨y33, e34, h⟩ := bindS h
      refine WO.cutS (d := 51) (S := S26) 3 y33 (fun q32 => ?_) (fun q32 => ?_) (fun S35 c36 => ?_)
      · have h := e34
        have h := iteT q32 h
        refine WO.gyes rfl rfl ?_
        refine WO.mv rfl ?_
        refine WO.gyes rfl rfl ?_
        obtain ⟨r28, e29, h⟩ := bindS h
        refine WO.callE (S := S26) rfl rfl (F168_ok e29) (fun S30 c31 => ?_)
        have hot0 := hot0.to c31
        obtain rfl := someI h
        refine WO.gyes rfl rfl ?_
        refine WO.pickT rfl rfl ?_
        refine WO.nil ?_
        exact ⟨S30, rfl, rfl, c31, (Cov.cons rfl (Cov.skip rfl (Cov.skip rfl (Cov.skip rfl (Cov.skip rfl (Cov.refl _))))))⟩
      · have h := e34
        have h := iteF q32 h
        obtain rfl := someI h
        refine WO.gno rfl rfl ?_
        refine WO.gno rfl rfl ?_
        refine WO.gyes rfl rfl ?_
        refine WO.pickF rfl rfl ?_
        refine WO.nil ?_
        exact ⟨S26, rfl, rfl, Ch.refl _ _, (Cov.cons rfl (Cov.skip rfl (Cov.skip rfl (Cov.skip rfl (Cov.skip rfl (Cov.refl _))))))⟩
      have hot0 := hot0.to c36
      obtain rfl := someI h
      refine WO.gyes rfl rfl ?_
      refine WO.pickF rfl rfl ?_
      refine WO.nil ?_
      exact ⟨S35, rfl, rfl, (c27.trans c36), (Cov.cons rfl (Cov.skip rfl (Cov.skip rfl (Cov.skip rfl (Cov.skip rfl (Cov.skip rfl (Cov.skip rfl (Cov.skip rfl (Cov.skip rfl (Cov.refl _))))))))))⟩
    have hot0 := hot0.to c41
    obtain rfl := someI h
    refine WO.pickT rfl rfl ?_
    refine WO.nil ?_
    exact ⟨S40, rfl, rfl, c41, (Cov.cons rfl (Cov.skip rfl (Cov.skip rfl (Cov.skip rfl (Cov.skip rfl (Cov.skip rfl (Cov.skip rfl (Cov.skip rfl (Cov.skip rfl (Cov.skip rfl (Cov.refl _)))))))))))⟩
  · have h := e44
    have h := iteF q42 h
    obtain rfl := someI h
    refine WO.gno rfl rfl ?_
    refine WO.gno rfl rfl ?_
    refine WO.gno rfl rfl ?_
    refine WO.gno rfl rfl ?_
    refine WO.gno rfl rfl ?_
    refine WO.gno rfl rfl ?_
    refine WO.gno rfl rfl ?_
    refine WO.gskip rfl rfl ?_
    refine WO.gskip rfl rfl ?_
    refine WO.gskip rfl rfl ?_
    refine WO.gskip rfl rfl ?_
    refine WO.gskip rfl rfl ?_
    refine WO.gskip rfl rfl ?_
    refine WO.gskip rfl rfl ?_
    refine WO.gskip rfl rfl ?_
    refine WO.gskip rfl rfl ?_
    refine WO.gno rfl rfl ?_
    refine WO.pickF rfl rfl ?_
    refine WO.nil ?_
    exact ⟨S18, rfl, rfl, Ch.refl _ _, (Cov.cons rfl (Cov.skip rfl (Cov.skip rfl (Cov.skip rfl (Cov.skip rfl (Cov.skip rfl (Cov.skip rfl (Cov.skip rfl (Cov.skip rfl (Cov.skip rfl (Cov.skip rfl (Cov.skip rfl (Cov.skip rfl (Cov.skip rfl (Cov.skip rfl (Cov.skip rfl (Cov.skip rfl (Cov.skip rfl (Cov.skip rfl (Cov.skip rfl (Cov.refl _)))))))))))))))))))))⟩
  have hot0 := hot0.to c46
  refine WO.asg rfl ?_
  refine WO.asg rfl ?_
  refine WO.nil ?_
  refine thenL_n ?_
  refine WC.ret ?_
  obtain rfl := someI h
  exact ⟨.inr rfl, _, _, rfl, rfl, rfl⟩
end Go.Proofs.Ytihmliblbhjlaaa

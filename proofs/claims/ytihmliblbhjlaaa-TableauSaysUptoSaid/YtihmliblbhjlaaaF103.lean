/- The machine answers F103: printed by a program of ours (gen.py). -/
import Derived.Test.YtihmliblbhjlaaaDef
import Derived.Test.YtihmliblbhjlaaaEnv
import Derived.Test.YtihmliblbhjlaaaF45
set_option linter.unusedVariables false
namespace Go.Proofs.Ytihmliblbhjlaaa
open Go.Am
theorem F103.fn : E.fn 103 = some ⟨19, (Try.f103.body.getD .skip), Try.f103.results.toList, []⟩ := rfl
theorem F103_ok {F : Nat} {fl : Nat} {S0 : Cx fl} {r : (List (List Int))} {t0 : List (List Int)} {vt0 : SV} (h : F103 F t0 = some r) (hot0 : Rd Y22 S0 vt0 t0) : Ret E fl 103 [.sc vt0] S0.m S0.n (fun v m' n' => ∃ S' : Cx fl, S'.m = m' ∧ S'.n = n' ∧ ChM S0 S' ∧ (∃ w38 : SV, v = .sc w38 ∧ Tw Y3 S' 902 903 w38 r)) := by
  unfold F103 at h
  refine Ret.walk F103.fn ?_
  have hM := ChM.refl S0
  refine WC.seq ?_
  refine WC.region ?_
  refine WO.asg rfl ?_
  refine WO.nil ?_
  refine thenL_n ?_
  refine WC.seq ?_
  refine WC.region ?_
  refine WO.asg rfl ?_
  refine WO.nil ?_
  refine thenL_n ?_
  refine WC.seq ?_
  refine WC.seq ?_
  refine WC.region ?_
  refine WO.mv rfl ?_
  refine WO.lenS rfl hot0.slv rfl ?_
  refine WO.mv rfl ?_
  refine WO.nil ?_
  refine thenL_n ?_
  refine WC.block ?_
  obtain ⟨b33, e34, h⟩ := bindS h
  refine WC.loopD e34 (fun s1 l' m' n' => ∃ S3 : Cx fl, ∃ v4 : SV, S3.m = m' ∧ S3.n = n' ∧ Cov l' [(3, .sc v4), (6, .sc vt0), (7, .sc (.int .i64 ((t0.length : Int)))), (8, .sc (.int .i64 s1.2))] ∧ ChM S0 S3 ∧ Rd Y22 S3 vt0 t0 ∧ Tw Y3 S3 2 3 v4 s1.1) (fun b e l' m' n' => e = .exit 0 ∧ ∃ S5 : Cx fl, ∃ v6 : SV, S5.m = m' ∧ S5.n = n' ∧ Cov l' [(3, .sc v6)] ∧ ChM S0 S5 ∧ Tw Y3 S5 2 3 v6 b) (by exact ⟨S0, .nils, rfl, rfl, (Cov.cons rfl (Cov.cons rfl (Cov.cons rfl (Cov.cons rfl (Cov.nil _))))), hM, hot0, Tw.nil⟩) ?_ ?_
  · clear h
    rintro s1 q _ _ _ ⟨S7, v8, rfl, rfl, hc9, hM, hot0, ho3⟩ h
    unfold F103_l0 at h
    refine WC.cov hc9 ?_
    refine WC.seq ?_
    refine WC.region ?_
    refine WO.bin rfl rfl (by decide) (by decide) rfl ?_
    refine WO.nil ?_
    refine thenL_n ?_
    refine WC.seq ?_
    refine WC.cond rfl (fun q10 => ?_) (fun q10 => ?_)
    · have h := iteT q10 h
      refine WC.skip ?_
      refine thenL_n ?_
      refine WC.seq ?_
      refine WC.block ?_
      refine WC.seq ?_
      refine WC.region ?_
      obtain ⟨L11, e12, h⟩ := bindS h
      refine WO.ixS rfl rfl hot0.slv (at?_lt e12) rfl ?_
      refine WO.ldS rfl hot0.ro (fun _ hi => hi) (at?_get e12) rfl rfl (fun v13 ho14 => ?_)
      have ho14 : Rd Y3 S7 v13 L11 := ho14
      refine WO.asg rfl ?_
      refine WO.nil ?_
      refine thenL_n ?_
      refine WC.region ?_
      refine WO.mv rfl ?_
      refine WO.mv rfl ?_
      obtain ⟨r15, e16, h⟩ := bindS h
      refine WO.callF (S := S7) 4 rfl rfl (F45_ok e16 ho14.vw) Lay.flat_fl (fun v17 S19 c20 ho18 => ?_)
      have hM := hM.to c20
      have hot0 := hot0.to c20
      have ho3 := ho3.to c20
      have ho14 := ho14.to c20
      refine WO.bsH (S := S19) (w := v17) 5 rfl rfl rfl (fun v21 S22 c23 ho24 => ?_)
      have hM := hM.to c23
      have hot0 := hot0.to c23
      have ho3 := ho3.to c23
      have ho14 := ho14.to c23
      have ho18 := ho18.to c23
      obtain ⟨L25, e26, h⟩ := bindS h
      refine WO.appT rfl rfl ho3 ho24.ro ho18 e26 rfl rfl rfl rfl rfl rfl rfl (fun v27 S28 S30 c29 c31 ho32 => ?_)
      have hM := hM.to c29
      have hot0 := hot0.to c29
      have ho14 := ho14.to c29
      have ho24 := ho24.to c29
      have hM := hM.to c31
      have hot0 := hot0.to c31
      have ho14 := ho14.to c31
      have ho24 := ho24.to c31
      refine WO.asg rfl ?_
      refine WO.nil ?_
      refine blockL_n ?_
      refine thenL_n ?_
      refine WC.region ?_
      refine WO.bin rfl rfl (by decide) (by decide) rfl ?_
      refine WO.mv rfl ?_
      refine WO.nil ?_
      refine thenL_n ?_
      obtain rfl := someI h
      exact ⟨_, rfl, ⟨S30, v27, rfl, rfl, (Cov.cons rfl (Cov.cons rfl (Cov.cons rfl (Cov.cons rfl (Cov.nil _))))), hM, hot0, ho32⟩⟩
    · have h := iteF q10 h
      refine WC.exit ?_
      refine thenL_e ?_
      refine thenL_e ?_
      obtain rfl := someI h
      exact ⟨_, rfl, rfl, ⟨S7, v8, rfl, rfl, (Cov.cons rfl (Cov.nil _)), hM, ho3⟩⟩
  rintro _ _ _ _ ⟨rfl, ⟨S35, v36, rfl, rfl, hc37, hM, ho3⟩⟩
  refine blockL_s ?_
  refine thenL_n ?_
  refine WC.cov hc37 ?_
  refine WC.seq ?_
  refine WC.region ?_
  refine WO.mv rfl ?_
  refine WO.asg rfl ?_
  refine WO.nil ?_
  refine thenL_n ?_
  refine WC.ret ?_
  have hM := hM.renO 2 902
  have hM := hM.renO 3 903
  have ho3 := ho3.ren 902 903
  obtain rfl := someI h
  exact ⟨.inr rfl, _, _, rfl, rfl, ⟨((S35.ren 2 902).ren 3 903), rfl, rfl, hM, v36, rfl, ho3⟩⟩
end Go.Proofs.Ytihmliblbhjlaaa

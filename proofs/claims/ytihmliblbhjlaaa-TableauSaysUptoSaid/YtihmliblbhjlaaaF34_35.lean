/- The machine answers F34_35: printed by a program of ours (gen.py). -/
import Derived.Test.YtihmliblbhjlaaaDef
import Derived.Test.YtihmliblbhjlaaaEnv
import Derived.Test.YtihmliblbhjlaaaF35
set_option linter.unusedVariables false
namespace Go.Proofs.Ytihmliblbhjlaaa
open Go.Am
theorem F34_35.fn : E.fn 34 = some ⟨32, (Try.f34.body.getD .skip), Try.f34.results.toList, []⟩ := rfl
theorem F34_35_ok {F : Nat} {m : Mem} {n : Nat} {r : Bool} {t0 : List (List Int)} {t1 : List (List Int)} {vt0 : SV} {vt1 : SV} (h : F34_35 F t0 t1 = some r) (kt0 : Vw Y22 n m vt0 t0) (kt1 : Vw Y22 n m vt1 t1) : Ret E n 34 [.sc vt0, .sc vt1, .sc (.fn 35 [])] m n (fun v m' n' => v = .sc (.bool r)) := by
  unfold F34_35 at h
  refine Ret.walk F34_35.fn ?_
  refine WC.start fun S0 em en hz => ?_
  have hot0 := kt0.rdS em hz
  have hot1 := kt1.rdS em hz
  refine WC.seq ?_
  refine WC.region ?_
  refine WO.asg rfl ?_
  refine WO.nil ?_
  refine thenL_n ?_
  refine WC.seq ?_
  refine WC.seq ?_
  refine WC.region ?_
  refine WO.mv rfl ?_
  refine WO.lenS rfl hot0.slv rfl ?_
  refine WO.mv rfl ?_
  refine WO.lenS rfl hot1.slv rfl ?_
  refine WO.bin rfl rfl (by decide) (by decide) rfl ?_
  refine WO.nil ?_
  refine thenL_n ?_
  refine WC.cond rfl (fun q1 => ?_) (fun q1 => ?_)
  · have h := iteT q1 h
    refine WC.seq ?_
    refine WC.region ?_
    refine WO.asg rfl ?_
    refine WO.nil ?_
    refine thenL_n ?_
    refine WC.ret ?_
    refine thenL_r ?_
    obtain rfl := someI h
    exact ⟨.inr rfl, _, _, rfl, rfl, rfl⟩
  · have h := iteF q1 h
    refine WC.skip ?_
    refine thenL_n ?_
    refine WC.seq ?_
    refine WC.seq ?_
    refine WC.region ?_
    refine WO.mv rfl ?_
    refine WO.lenS rfl hot0.slv rfl ?_
    refine WO.mv rfl ?_
    refine WO.nil ?_
    refine thenL_n ?_
    refine WC.block ?_
    obtain ⟨b23, e24, h⟩ := bindS h
    refine WC.loopD e24 (fun s2 l' m' n' => ∃ S3 : Cx n, S3.m = m' ∧ S3.n = n' ∧ Cov l' [(1, .sc vt1), (2, .sc (.fn 35 [])), (15, .sc vt0), (16, .sc (.int .i64 ((t0.length : Int)))), (17, .sc (.int .i64 s2))] ∧ Rd Y22 S3 vt1 t1 ∧ Rd Y22 S3 vt0 t0) (fun b e l' m' n' => (match b with | .inl b4 => e = .exit 0 ∧ ∃ S5 : Cx n, S5.m = m' ∧ S5.n = n' ∧ Cov l' [] | .inr b4 => e = .ret ∧ ∃ S6 : Cx n, S6.m = m' ∧ S6.n = n' ∧ Cov l' [(6, .sc (.bool b4))])) (by exact ⟨S0, rfl, rfl, (Cov.cons rfl (Cov.cons rfl (Cov.cons rfl (Cov.cons rfl (Cov.cons rfl (Cov.nil _)))))), hot1, hot0⟩) ?_ ?_
    · clear h
      rintro s2 q _ _ _ ⟨S7, rfl, rfl, hc8, hot1, hot0⟩ h
      unfold F34_35_l0 at h
      refine WC.cov hc8 ?_
      refine WC.seq ?_
      refine WC.region ?_
      refine WO.bin rfl rfl (by decide) (by decide) rfl ?_
      refine WO.nil ?_
      refine thenL_n ?_
      refine WC.seq ?_
      refine WC.cond rfl (fun q9 => ?_) (fun q9 => ?_)
      · have h := iteT q9 h
        refine WC.skip ?_
        refine thenL_n ?_
        refine WC.seq ?_
        refine WC.block ?_
        refine WC.seq ?_
        refine WC.region ?_
        refine WO.mv rfl ?_
        obtain ⟨L10, e11, h⟩ := bindS h
        refine WO.ixS rfl rfl hot0.slv (at?_lt e11) rfl ?_
        refine WO.ldS rfl hot0.ro (fun _ hi => hi) (at?_get e11) rfl rfl (fun v12 ho13 => ?_)
        have ho13 : Rd Y3 S7 v12 L10 := ho13
        refine WO.asg rfl ?_
        refine WO.asg rfl ?_
        refine WO.nil ?_
        refine thenL_n ?_
        refine WC.seq ?_
        refine WC.region ?_
        refine WO.mv rfl ?_
        refine WO.mv rfl ?_
        obtain ⟨L14, e15, h⟩ := bindS h
        refine WO.ixS rfl rfl hot1.slv (at?_lt e15) rfl ?_
        refine WO.ldS rfl hot1.ro (fun _ hi => hi) (at?_get e15) rfl rfl (fun v16 ho17 => ?_)
        have ho17 : Rd Y3 S7 v16 L14 := ho17
        refine WO.asg rfl ?_
        refine WO.nil ?_
        refine thenL_n ?_
        refine WC.seq ?_
        refine WC.region ?_
        refine WO.mv rfl ?_
        refine WO.mv rfl ?_
        refine WO.mv rfl ?_
        obtain ⟨r18, e19, h⟩ := bindS h
        refine WO.callE (S := S7) rfl rfl (F35_ok e19 ho13.vw ho17.vw) (fun S20 c21 => ?_)
        have hot1 := hot1.to c21
        have hot0 := hot0.to c21
        have ho13 := ho13.to c21
        have ho17 := ho17.to c21
        refine WO.do rfl rfl ?_
        refine WO.nil ?_
        refine thenL_n ?_
        refine WC.cond rfl (fun q22 => ?_) (fun q22 => ?_)
        · have h := iteT q22 h
          refine WC.seq ?_
          refine WC.region ?_
          refine WO.asg rfl ?_
          refine WO.nil ?_
          refine thenL_n ?_
          refine WC.ret ?_
          refine blockL_r ?_
          refine thenL_r ?_
          refine thenL_r ?_
          obtain rfl := someI h
          exact ⟨_, rfl, rfl, ⟨S20, rfl, rfl, (Cov.cons rfl (Cov.nil _))⟩⟩
        · have h := iteF q22 h
          refine WC.skip ?_
          refine blockL_n ?_
          refine thenL_n ?_
          refine WC.region ?_
          refine WO.bin rfl rfl (by decide) (by decide) rfl ?_
          refine WO.mv rfl ?_
          refine WO.nil ?_
          refine thenL_n ?_
          obtain rfl := someI h
          exact ⟨_, rfl, ⟨S20, rfl, rfl, (Cov.cons rfl (Cov.cons rfl (Cov.cons rfl (Cov.cons rfl (Cov.cons rfl (Cov.nil _)))))), hot1, hot0⟩⟩
      · have h := iteF q9 h
        refine WC.exit ?_
        refine thenL_e ?_
        refine thenL_e ?_
        obtain rfl := someI h
        exact ⟨_, rfl, rfl, ⟨S7, rfl, rfl, (Cov.nil _)⟩⟩
    cases b23 with
    | inl b25 =>
      simp only at h
      rintro _ _ _ _ ⟨rfl, ⟨S26, rfl, rfl, hc27⟩⟩
      refine blockL_s ?_
      refine thenL_n ?_
      refine WC.cov hc27 ?_
      refine WC.seq ?_
      refine WC.region ?_
      refine WO.asg rfl ?_
      refine WO.nil ?_
      refine thenL_n ?_
      refine WC.ret ?_
      obtain rfl := someI h
      exact ⟨.inr rfl, _, _, rfl, rfl, rfl⟩
    | inr b25 =>
      simp only at h
      rintro _ _ _ _ ⟨rfl, ⟨S28, rfl, rfl, hc29⟩⟩
      refine blockL_r ?_
      refine thenL_r ?_
      obtain rfl := someI h
      exact ⟨.inr rfl, _, _, (resK_cov hc29 rfl), rfl, rfl⟩
end Go.Proofs.Ytihmliblbhjlaaa

/- The machine answers F31: printed by a program of ours (gen.py). -/
import Derived.Test.YtihmliblbhjlaaaDef
import Derived.Test.YtihmliblbhjlaaaEnv
import Derived.Test.YtihmliblbhjlaaaF107
set_option linter.unusedVariables false
namespace Go.Proofs.Ytihmliblbhjlaaa
open Go.Am
theorem F31.fn : E.fn 31 = some ⟨17, (Try.f31.body.getD .skip), Try.f31.results.toList, []⟩ := rfl
theorem F31_ok {F : Nat} {m : Mem} {n : Nat} {r : Int} {t0 : List Int} {vt0 : SV} (h : F31 F t0 = some r) (kt0 : Vw Y3 n m vt0 t0) : Ret E n 31 [.sc vt0] m n (fun v m' n' => v = .sc (.int .i64 r)) := by
  unfold F31 at h
  refine Ret.walk F31.fn ?_
  refine WC.start fun S0 em en hz => ?_
  have hot0 := kt0.rdS em hz
  refine WC.seq ?_
  refine WC.region ?_
  refine WO.asg rfl ?_
  refine WO.nil ?_
  refine thenL_n ?_
  refine WC.seq ?_
  refine WC.seq ?_
  refine WC.region ?_
  refine WO.mv rfl ?_
  refine WO.lenS rfl hot0.slv rfl ?_
  refine WO.bin rfl rfl (by decide) (by decide) rfl ?_
  refine WO.nil ?_
  refine thenL_n ?_
  refine WC.cond rfl (fun q1 => ?_) (fun q1 => ?_)
  · have h := iteT q1 h
    refine WC.seq ?_
    refine WC.region ?_
    refine WO.asg rfl ?_
    refine WO.nil ?_
    refine thenL_n ?_
    refine WC.ret ?_
    refine thenL_r ?_
    obtain rfl := someI h
    exact ⟨.inr rfl, _, _, rfl, rfl, rfl⟩
  · have h := iteF q1 h
    refine WC.skip ?_
    refine thenL_n ?_
    refine WC.seq ?_
    refine WC.seq ?_
    refine WC.region ?_
    refine WO.mv rfl ?_
    refine WO.lenS rfl hot0.slv rfl ?_
    refine WO.mv rfl ?_
    refine WO.nil ?_
    refine thenL_n ?_
    refine WC.block ?_
    obtain ⟨b15, e16, h⟩ := bindS h
    refine WC.loopD e16 (fun s2 l' m' n' => ∃ S3 : Cx n, S3.m = m' ∧ S3.n = n' ∧ Cov l' [(0, .sc vt0), (8, .sc (.int .i64 ((t0.length : Int)))), (9, .sc (.int .i64 s2))] ∧ Rd Y3 S3 vt0 t0) (fun b e l' m' n' => (match b with | .inl b4 => e = .exit 0 ∧ ∃ S5 : Cx n, S5.m = m' ∧ S5.n = n' ∧ Cov l' [] | .inr b4 => e = .ret ∧ ∃ S6 : Cx n, S6.m = m' ∧ S6.n = n' ∧ Cov l' [(2, .sc (.int .i64 b4))])) (by exact ⟨S0, rfl, rfl, (Cov.cons rfl (Cov.cons rfl (Cov.cons rfl (Cov.nil _)))), hot0⟩) ?_ ?_
    · clear h
      rintro s2 q _ _ _ ⟨S7, rfl, rfl, hc8, hot0⟩ h
      unfold F31_l0 at h
      refine WC.cov hc8 ?_
      refine WC.seq ?_
      refine WC.region ?_
      refine WO.bin rfl rfl (by decide) (by decide) rfl ?_
      refine WO.nil ?_
      refine thenL_n ?_
      refine WC.seq ?_
      refine WC.cond rfl (fun q9 => ?_) (fun q9 => ?_)
      · have h := iteT q9 h
        refine WC.skip ?_
        refine thenL_n ?_
        refine WC.seq ?_
        refine WC.block ?_
        refine WC.seq ?_
        refine WC.region ?_
        refine WO.mv rfl ?_
        refine WO.asg rfl ?_
        refine WO.nil ?_
        refine thenL_n ?_
        refine WC.seq ?_
        refine WC.region ?_
        refine WO.mv rfl ?_
        refine WO.mv rfl ?_
        obtain ⟨r10, e11, h⟩ := bindS h
        refine WO.callE (S := S7) rfl rfl (F107_ok e11 hot0.vw) (fun S12 c13 => ?_)
        have hot0 := hot0.to c13
        refine WO.do rfl rfl ?_
        refine WO.nil ?_
        refine thenL_n ?_
        refine WC.cond rfl (fun q14 => ?_) (fun q14 => ?_)
        · have h := iteT q14 h
          refine WC.seq ?_
          refine WC.region ?_
          refine WO.asg rfl ?_
          refine WO.nil ?_
          refine thenL_n ?_
          refine WC.ret ?_
          refine blockL_r ?_
          refine thenL_r ?_
          refine thenL_r ?_
          obtain rfl := someI h
          exact ⟨_, rfl, rfl, ⟨S12, rfl, rfl, (Cov.cons rfl (Cov.nil _))⟩⟩
        · have h := iteF q14 h
          refine WC.skip ?_
          refine blockL_n ?_
          refine thenL_n ?_
          refine WC.region ?_
          refine WO.bin rfl rfl (by decide) (by decide) rfl ?_
          refine WO.mv rfl ?_
          refine WO.nil ?_
          refine thenL_n ?_
          obtain rfl := someI h
          exact ⟨_, rfl, ⟨S12, rfl, rfl, (Cov.cons rfl (Cov.cons rfl (Cov.cons rfl (Cov.nil _)))), hot0⟩⟩
      · have h := iteF q9 h
        refine WC.exit ?_
        refine thenL_e ?_
        refine thenL_e ?_
        obtain rfl := someI h
        exact ⟨_, rfl, rfl, ⟨S7, rfl, rfl, (Cov.nil _)⟩⟩
    cases b15 with
    | inl b17 =>
      simp only at h
      rintro _ _ _ _ ⟨rfl, ⟨S18, rfl, rfl, hc19⟩⟩
      refine blockL_s ?_
      refine thenL_n ?_
      refine WC.cov hc19 ?_
      refine WC.seq ?_
      refine WC.region ?_
      refine WO.asg rfl ?_
      refine WO.nil ?_
      refine thenL_n ?_
      refine WC.ret ?_
      obtain rfl := someI h
      exact ⟨.inr rfl, _, _, rfl, rfl, rfl⟩
    | inr b17 =>
      simp only at h
      rintro _ _ _ _ ⟨rfl, ⟨S20, rfl, rfl, hc21⟩⟩
      refine blockL_r ?_
      refine thenL_r ?_
      obtain rfl := someI h
      exact ⟨.inr rfl, _, _, (resK_cov hc21 rfl), rfl, rfl⟩
end Go.Proofs.Ytihmliblbhjlaaa

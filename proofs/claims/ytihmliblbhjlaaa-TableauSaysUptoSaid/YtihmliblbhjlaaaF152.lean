/- The machine answers F152: printed by a program of ours (gen.py). -/
import Derived.Test.YtihmliblbhjlaaaDef
import Derived.Test.YtihmliblbhjlaaaEnv
set_option linter.unusedVariables false
namespace Go.Proofs.Ytihmliblbhjlaaa
open Go.Am
theorem F152.fn : E.fn 152 = some ⟨19, (Try.f152.body.getD .skip), Try.f152.results.toList, []⟩ := rfl
theorem F152_ok {F : Nat} {m : Mem} {n : Nat} {r : Int} {t0 : List Int} {t1 : Int} {vt0 : SV} (h : F152 F t0 t1 = some r) (kt0 : Vw Y3 n m vt0 t0) : Ret E n 152 [.sc vt0, .sc (.int .i64 t1)] m n (fun v m' n' => v = .sc (.int .i64 r)) := by
  unfold F152 at h
  refine Ret.walk F152.fn ?_
  refine WC.start fun S0 em en hz => ?_
  have hot0 := kt0.rdS em hz
  refine WC.seq ?_
  refine WC.region ?_
  refine WO.asg rfl ?_
  refine WO.nil ?_
  refine thenL_n ?_
  refine WC.seq ?_
  refine WC.seq ?_
  refine WC.region ?_
  refine WO.mv rfl ?_
  refine WO.lenS rfl hot0.slv rfl ?_
  refine WO.mv rfl ?_
  refine WO.nil ?_
  refine thenL_n ?_
  refine WC.block ?_
  obtain ⟨b12, e13, h⟩ := bindS h
  refine WC.loopD e13 (fun s1 l' m' n' => ∃ S2 : Cx n, S2.m = m' ∧ S2.n = n' ∧ Cov l' [(0, .sc vt0), (1, .sc (.int .i64 t1)), (7, .sc (.int .i64 ((t0.length : Int)))), (8, .sc (.int .i64 s1))] ∧ Rd Y3 S2 vt0 t0) (fun b e l' m' n' => (match b with | .inl b3 => e = .exit 0 ∧ ∃ S4 : Cx n, S4.m = m' ∧ S4.n = n' ∧ Cov l' [] | .inr b3 => e = .ret ∧ ∃ S5 : Cx n, S5.m = m' ∧ S5.n = n' ∧ Cov l' [(4, .sc (.int .i64 b3))])) (by exact ⟨S0, rfl, rfl, (Cov.cons rfl (Cov.cons rfl (Cov.cons rfl (Cov.cons rfl (Cov.nil _))))), hot0⟩) ?_ ?_
  · clear h
    rintro s1 q _ _ _ ⟨S6, rfl, rfl, hc7, hot0⟩ h
    unfold F152_l0 at h
    refine WC.cov hc7 ?_
    refine WC.seq ?_
    refine WC.region ?_
    refine WO.bin rfl rfl (by decide) (by decide) rfl ?_
    refine WO.nil ?_
    refine thenL_n ?_
    refine WC.seq ?_
    refine WC.cond rfl (fun q8 => ?_) (fun q8 => ?_)
    · have h := iteT q8 h
      refine WC.skip ?_
      refine thenL_n ?_
      refine WC.seq ?_
      refine WC.block ?_
      refine WC.seq ?_
      refine WC.region ?_
      refine WO.mv rfl ?_
      refine WO.asg rfl ?_
      refine WO.nil ?_
      refine thenL_n ?_
      refine WC.seq ?_
      refine WC.region ?_
      refine WO.mv rfl ?_
      refine WO.mv rfl ?_
      refine WO.mv rfl ?_
      obtain ⟨x9, e10, h⟩ := bindS h
      refine WO.ixS rfl rfl hot0.slv (at?_lt e10) rfl ?_
      refine WO.ldF rfl hot0.ro (fun _ hi => hi) (at?_get e10) rfl rfl rfl ?_
      refine WO.bin rfl rfl (by decide) (by decide) rfl ?_
      refine WO.nil ?_
      refine thenL_n ?_
      refine WC.cond rfl (fun q11 => ?_) (fun q11 => ?_)
      · have h := iteT q11 h
        refine WC.seq ?_
        refine WC.region ?_
        refine WO.mv rfl ?_
        refine WO.asg rfl ?_
        refine WO.nil ?_
        refine thenL_n ?_
        refine WC.ret ?_
        refine blockL_r ?_
        refine thenL_r ?_
        refine thenL_r ?_
        obtain rfl := someI h
        exact ⟨_, rfl, rfl, ⟨S6, rfl, rfl, (Cov.cons rfl (Cov.nil _))⟩⟩
      · have h := iteF q11 h
        refine WC.skip ?_
        refine blockL_n ?_
        refine thenL_n ?_
        refine WC.region ?_
        refine WO.bin rfl rfl (by decide) (by decide) rfl ?_
        refine WO.mv rfl ?_
        refine WO.nil ?_
        refine thenL_n ?_
        obtain rfl := someI h
        exact ⟨_, rfl, ⟨S6, rfl, rfl, (Cov.cons rfl (Cov.cons rfl (Cov.cons rfl (Cov.cons rfl (Cov.nil _))))), hot0⟩⟩
    · have h := iteF q8 h
      refine WC.exit ?_
      refine thenL_e ?_
      refine thenL_e ?_
      obtain rfl := someI h
      exact ⟨_, rfl, rfl, ⟨S6, rfl, rfl, (Cov.nil _)⟩⟩
  cases b12 with
  | inl b14 =>
    simp only at h
    rintro _ _ _ _ ⟨rfl, ⟨S15, rfl, rfl, hc16⟩⟩
    refine blockL_s ?_
    refine thenL_n ?_
    refine WC.cov hc16 ?_
    refine WC.seq ?_
    refine WC.region ?_
    refine WO.asg rfl ?_
    refine WO.nil ?_
    refine thenL_n ?_
    refine WC.ret ?_
    obtain rfl := someI h
    exact ⟨.inr rfl, _, _, rfl, rfl, rfl⟩
  | inr b14 =>
    simp only at h
    rintro _ _ _ _ ⟨rfl, ⟨S17, rfl, rfl, hc18⟩⟩
    refine blockL_r ?_
    refine thenL_r ?_
    obtain rfl := someI h
    exact ⟨.inr rfl, _, _, (resK_cov hc18 rfl), rfl, rfl⟩
end Go.Proofs.Ytihmliblbhjlaaa

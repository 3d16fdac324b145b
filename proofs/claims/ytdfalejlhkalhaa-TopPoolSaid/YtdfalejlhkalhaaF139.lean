/- The machine answers F139: printed by a program of ours (gen.py). -/
import Derived.Test.YtdfalejlhkalhaaDef
import Derived.Test.YtdfalejlhkalhaaEnv
set_option linter.unusedVariables false
namespace Go.Proofs.Ytdfalejlhkalhaa
open Go.Am
theorem F139.fn : E.fn 139 = some ⟨31, (Try.f139.body.getD .skip), Try.f139.results.toList, []⟩ := rfl
theorem F139_ok {F : Nat} {m : Mem} {n : Nat} {r : Int} {t0 : Int} {t1 : List Int} {vt1 : SV} (h : F139 F t0 t1 = some r) (kt1 : Vw Y3 n m vt1 t1) : Ret E n 139 [.sc (.int .i64 t0), .sc vt1] m n (fun v m' n' => v = .sc (.int .i64 r)) := by
  unfold F139 at h
  refine Ret.walk F139.fn ?_
  refine WC.start fun S0 em en hz => ?_
  have hot1 := kt1.rdS em hz
  refine WC.seq ?_
  refine WC.region ?_
  refine WO.asg rfl ?_
  refine WO.nil ?_
  refine thenL_n ?_
  refine WC.seq ?_
  refine WC.seq ?_
  refine WC.region ?_
  refine WO.mv rfl ?_
  refine WO.bin rfl rfl (by decide) (by decide) rfl ?_
  refine WO.mv rfl ?_
  refine WO.cutB (d := 12) 3 ((decide (t0 < 1)) || (decide (t0 > 12))) (fun q1 => ?_) (fun q1 => ?_) ?_
  · refine WO.gno rfl rfl ?_
    refine WO.gno rfl rfl ?_
    refine WO.pickT rfl rfl ?_
    refine WO.nil ?_
    exact ⟨rfl, rfl, (Cov.any rfl (orT q1) (Cov.skip rfl (Cov.skip rfl (Cov.skip rfl (Cov.skip rfl (Cov.refl _))))))⟩
  · skip
    refine WO.gyes rfl rfl ?_
    refine WO.mv rfl ?_
    refine WO.gyes rfl rfl ?_
    refine WO.bin rfl rfl (by decide) (by decide) rfl ?_
    refine WO.pickF rfl rfl ?_
    refine WO.nil ?_
    exact ⟨rfl, rfl, (Cov.any rfl (orF q1) (Cov.skip rfl (Cov.skip rfl (Cov.skip rfl (Cov.skip rfl (Cov.refl _))))))⟩
  refine WO.nil ?_
  refine thenL_n ?_
  refine WC.cond rfl (fun q2 => ?_) (fun q2 => ?_)
  · have h := iteT q2 h
    refine WC.seq ?_
    refine WC.region ?_
    refine WO.asg rfl ?_
    refine WO.nil ?_
    refine thenL_n ?_
    refine WC.ret ?_
    refine thenL_r ?_
    obtain rfl := someI h
    exact ⟨.inr rfl, _, _, rfl, rfl, rfl⟩
  · have h := iteF q2 h
    refine WC.skip ?_
    refine thenL_n ?_
    refine WC.seq ?_
    refine WC.seq ?_
    refine WC.region ?_
    refine WO.mv rfl ?_
    refine WO.lenS rfl hot1.slv rfl ?_
    refine WO.bin rfl rfl (by decide) (by decide) rfl ?_
    refine WO.nil ?_
    refine thenL_n ?_
    refine WC.cond rfl (fun q3 => ?_) (fun q3 => ?_)
    · have h := iteT q3 h
      refine WC.seq ?_
      refine WC.region ?_
      refine WO.asg rfl ?_
      refine WO.nil ?_
      refine thenL_n ?_
      refine WC.ret ?_
      refine thenL_r ?_
      obtain rfl := someI h
      exact ⟨.inr rfl, _, _, rfl, rfl, rfl⟩
    · have h := iteF q3 h
      refine WC.skip ?_
      refine thenL_n ?_
      refine WC.seq ?_
      refine WC.seq ?_
      refine WC.region ?_
      refine WO.mv rfl ?_
      refine WO.lenS rfl hot1.slv rfl ?_
      refine WO.mv rfl ?_
      refine WO.nil ?_
      refine thenL_n ?_
      refine WC.block ?_
      obtain ⟨b16, e17, h⟩ := bindS h
      refine WC.loopD e17 (fun s4 l' m' n' => ∃ S5 : Cx n, S5.m = m' ∧ S5.n = n' ∧ Cov l' [(16, .sc vt1), (17, .sc (.int .i64 ((t1.length : Int)))), (18, .sc (.int .i64 s4))] ∧ Rd Y3 S5 vt1 t1) (fun b e l' m' n' => (match b with | .inl b6 => e = .exit 0 ∧ ∃ S7 : Cx n, S7.m = m' ∧ S7.n = n' ∧ Cov l' [] | .inr b6 => e = .ret ∧ ∃ S8 : Cx n, S8.m = m' ∧ S8.n = n' ∧ Cov l' [(4, .sc (.int .i64 b6))])) (by exact ⟨S0, rfl, rfl, (Cov.cons rfl (Cov.cons rfl (Cov.cons rfl (Cov.nil _)))), hot1⟩) ?_ ?_
      · clear h
        rintro s4 q _ _ _ ⟨S9, rfl, rfl, hc10, hot1⟩ h
        unfold F139_l0 at h
        refine WC.cov hc10 ?_
        refine WC.seq ?_
        refine WC.region ?_
        refine WO.bin rfl rfl (by decide) (by decide) rfl ?_
        refine WO.nil ?_
        refine thenL_n ?_
        refine WC.seq ?_
        refine WC.cond rfl (fun q11 => ?_) (fun q11 => ?_)
        · have h := iteT q11 h
          refine WC.skip ?_
          refine thenL_n ?_
          refine WC.seq ?_
          refine WC.block ?_
          refine WC.seq ?_
          refine WC.region ?_
          refine WO.mv rfl ?_
          obtain ⟨x12, e13, h⟩ := bindS h
          refine WO.ixS rfl rfl hot1.slv (at?_lt e13) rfl ?_
          refine WO.ldF rfl hot1.ro (fun _ hi => hi) (at?_get e13) rfl rfl rfl ?_
          refine WO.asg rfl ?_
          refine WO.asg rfl ?_
          refine WO.nil ?_
          refine thenL_n ?_
          refine WC.seq ?_
          refine WC.region ?_
          refine WO.mv rfl ?_
          refine WO.bin rfl rfl (by decide) (by decide) rfl ?_
          refine WO.mv rfl ?_
          refine WO.cutB (d := 29) 4 ((decide (x12 < 0)) || (decide (x12 > s4))) (fun q14 => ?_) (fun q14 => ?_) ?_
          · refine WO.gno rfl rfl ?_
            refine WO.gno rfl rfl ?_
            refine WO.gno rfl rfl ?_
            refine WO.pickT rfl rfl ?_
            refine WO.nil ?_
            exact ⟨rfl, rfl, (Cov.any rfl (orT q14) (Cov.skip rfl (Cov.skip rfl (Cov.skip rfl (Cov.skip rfl (Cov.skip rfl (Cov.refl _)))))))⟩
          · skip
            refine WO.gyes rfl rfl ?_
            refine WO.mv rfl ?_
            refine WO.gyes rfl rfl ?_
            refine WO.mv rfl ?_
            refine WO.gyes rfl rfl ?_
            refine WO.bin rfl rfl (by decide) (by decide) rfl ?_
            refine WO.pickF rfl rfl ?_
            refine WO.nil ?_
            exact ⟨rfl, rfl, (Cov.any rfl (orF q14) (Cov.skip rfl (Cov.skip rfl (Cov.skip rfl (Cov.skip rfl (Cov.skip rfl (Cov.refl _)))))))⟩
          refine WO.nil ?_
          refine thenL_n ?_
          refine WC.cond rfl (fun q15 => ?_) (fun q15 => ?_)
          · have h := iteT q15 h
            refine WC.seq ?_
            refine WC.region ?_
            refine WO.asg rfl ?_
            refine WO.nil ?_
            refine thenL_n ?_
            refine WC.ret ?_
            refine blockL_r ?_
            refine thenL_r ?_
            refine thenL_r ?_
            obtain rfl := someI h
            exact ⟨_, rfl, rfl, ⟨S9, rfl, rfl, (Cov.cons rfl (Cov.nil _))⟩⟩
          · have h := iteF q15 h
            refine WC.skip ?_
            refine blockL_n ?_
            refine thenL_n ?_
            refine WC.region ?_
            refine WO.bin rfl rfl (by decide) (by decide) rfl ?_
            refine WO.mv rfl ?_
            refine WO.nil ?_
            refine thenL_n ?_
            obtain rfl := someI h
            exact ⟨_, rfl, ⟨S9, rfl, rfl, (Cov.cons rfl (Cov.cons rfl (Cov.cons rfl (Cov.nil _)))), hot1⟩⟩
        · have h := iteF q11 h
          refine WC.exit ?_
          refine thenL_e ?_
          refine thenL_e ?_
          obtain rfl := someI h
          exact ⟨_, rfl, rfl, ⟨S9, rfl, rfl, (Cov.nil _)⟩⟩
      cases b16 with
      | inl b18 =>
        simp only at h
        rintro _ _ _ _ ⟨rfl, ⟨S19, rfl, rfl, hc20⟩⟩
        refine blockL_s ?_
        refine thenL_n ?_
        refine WC.cov hc20 ?_
        refine WC.seq ?_
        refine WC.region ?_
        refine WO.asg rfl ?_
        refine WO.nil ?_
        refine thenL_n ?_
        refine WC.ret ?_
        obtain rfl := someI h
        exact ⟨.inr rfl, _, _, rfl, rfl, rfl⟩
      | inr b18 =>
        simp only at h
        rintro _ _ _ _ ⟨rfl, ⟨S21, rfl, rfl, hc22⟩⟩
        refine blockL_r ?_
        refine thenL_r ?_
        obtain rfl := someI h
        exact ⟨.inr rfl, _, _, (resK_cov hc22 rfl), rfl, rfl⟩
end Go.Proofs.Ytdfalejlhkalhaa

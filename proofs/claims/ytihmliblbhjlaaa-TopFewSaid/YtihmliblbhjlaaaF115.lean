/- The machine answers F115: printed by a program of ours (gen.py). -/
import Derived.Test.YtihmliblbhjlaaaDef
import Derived.Test.YtihmliblbhjlaaaEnv
set_option linter.unusedVariables false
namespace Go.Proofs.Ytihmliblbhjlaaa
open Go.Am
theorem F115.fn : E.fn 115 = some ⟨28, (Try.f115.body.getD .skip), Try.f115.results.toList, []⟩ := rfl
theorem F115_ok {F : Nat} {m : Mem} {n : Nat} {r : (List Int)} {t0 : List Int} {vt0 : SV} {fl : Nat} {bw : Nat} (h : F115 F t0 = some r) (hfl : fl ≤ n) (kt0 : Iv Y3 fl n bw m vt0 t0) : Ret E fl 115 [.sc vt0] m n (fun v m' n' => v = .tup [] ∧ Ip Y3 n bw m m' vt0 r) := by
  unfold F115 at h
  refine Ret.walk F115.fn ?_
  refine WC.startI (b := bw) hfl fun S0 em en hz hbw => ?_
  have hot0 := kt0.iw em en hz hbw
  refine WC.seq ?_
  refine WC.region ?_
  refine WO.mv rfl ?_
  refine WO.lenS rfl hot0.slv rfl ?_
  refine WO.bin rfl rfl (by decide) (by decide) rfl ?_
  refine WO.asg rfl ?_
  refine WO.asg rfl ?_
  refine WO.nil ?_
  refine thenL_n ?_
  refine WC.block ?_
  obtain ⟨b19, e20, h⟩ := bindS h
  refine WC.loopD e20 (fun s1 l' m' n' => ∃ S2 : Cx fl, S2.m = m' ∧ S2.n = n' ∧ Cov l' [(0, .sc vt0), (2, .sc (.int .i64 s1.1)), (3, .sc (.int .i64 s1.2.1))] ∧ Iw Y3 S2 2 n bw m vt0 s1.2.2) (fun b e l' m' n' => e = .exit 0 ∧ ∃ S3 : Cx fl, S3.m = m' ∧ S3.n = n' ∧ Cov l' [(0, .sc vt0)] ∧ Iw Y3 S3 2 n bw m vt0 b) (by exact ⟨S0, rfl, rfl, (Cov.cons rfl (Cov.cons rfl (Cov.cons rfl (Cov.nil _)))), hot0⟩) ?_ ?_
  · clear h
    rintro s1 q _ _ _ ⟨S4, rfl, rfl, hc5, hot0⟩ h
    unfold F115_l0 at h
    refine WC.cov hc5 ?_
    refine WC.seq ?_
    refine WC.seq ?_
    refine WC.region ?_
    refine WO.mv rfl ?_
    refine WO.mv rfl ?_
    refine WO.bin rfl rfl (by decide) (by decide) rfl ?_
    refine WO.nil ?_
    refine thenL_n ?_
    refine WC.cond rfl (fun q6 => ?_) (fun q6 => ?_)
    · have h := iteT q6 h
      refine WC.skip ?_
      refine thenL_n ?_
      refine WC.seq ?_
      refine WC.block ?_
      refine WC.drawN rfl rfl ?_
      have hot0z := hot0.oz
      refine WO.mv rfl ?_
      refine WO.mv rfl ?_
      refine WO.mv rfl ?_
      refine WO.mv rfl ?_
      refine WO.mv rfl ?_
      refine WO.mv rfl ?_
      obtain ⟨x7, e8, h⟩ := bindS h
      refine WO.ixS rfl rfl hot0.slv (at?_lt e8) rfl ?_
      refine WO.ldF rfl hot0z (fun _ hi => hi.1) (at?_get e8) rfl rfl (limLe_self _) ?_
      refine WO.mv rfl ?_
      refine WO.mv rfl ?_
      obtain ⟨x9, e10, h⟩ := bindS h
      refine WO.ixS rfl rfl hot0.slv (at?_lt e10) rfl ?_
      refine WO.ldF rfl hot0z (fun _ hi => hi.1) (at?_get e10) rfl rfl (limLe_self _) ?_
      obtain ⟨u11, e12, h⟩ := bindS h
      refine WO.ixS rfl rfl hot0.slv (ck_some e12) rfl ?_
      refine WO.stI (u' := x7) rfl rfl hot0 (ck_nat e12) rfl rfl (fun S13 c14 hot0 => ?_)
      obtain ⟨u15, e16, h⟩ := bindS h
      refine WO.ixS rfl rfl hot0.slv (ck_some e16) rfl ?_
      refine WO.stI (u' := x9) rfl rfl hot0 (ck_nat e16) rfl rfl (fun S17 c18 hot0 => ?_)
      refine WO.nil ?_
      refine blockL_n ?_
      refine thenL_n ?_
      refine WC.region ?_
      refine WO.mv rfl ?_
      refine WO.bin rfl rfl (by decide) (by decide) rfl ?_
      refine WO.mv rfl ?_
      refine WO.bin rfl rfl (by decide) (by decide) rfl ?_
      refine WO.asg rfl ?_
      refine WO.asg rfl ?_
      refine WO.nil ?_
      refine thenL_n ?_
      obtain rfl := someI h
      exact ⟨_, rfl, ⟨S17, rfl, rfl, (Cov.cons rfl (Cov.cons rfl (Cov.cons rfl (Cov.nil _)))), hot0⟩⟩
    · have h := iteF q6 h
      refine WC.exit ?_
      refine thenL_e ?_
      refine thenL_e ?_
      obtain rfl := someI h
      exact ⟨_, rfl, rfl, ⟨S4, rfl, rfl, (Cov.cons rfl (Cov.nil _)), hot0⟩⟩
  rintro _ _ _ _ ⟨rfl, ⟨S21, rfl, rfl, hc22, hot0⟩⟩
  refine blockL_s ?_
  obtain rfl := someI h
  exact ⟨.inl rfl, _, _, (resK_cov hc22 rfl), rfl, ⟨rfl, hot0.ip Lay.flat_fl⟩⟩
end Go.Proofs.Ytihmliblbhjlaaa

/- The machine answers F21: printed by a program of ours (gen.py). -/
import Derived.Test.YtdfalejlhkalhaaDef
import Derived.Test.YtdfalejlhkalhaaEnv
set_option linter.unusedVariables false
namespace Go.Proofs.Ytdfalejlhkalhaa
open Go.Am
theorem F21.fn : E.fn 21 = some ⟨23, (Try.f21.body.getD .skip), Try.f21.results.toList, []⟩ := rfl
theorem F21_ok {F : Nat} {m : Mem} {n : Nat} {r : (List Int)} {t0 : List Int} {t1 : List Int} {vt0 : SV} {vt1 : SV} (h : F21 F t0 t1 = some r) (kt0 : Vw Y3 n m vt0 t0) (kt1 : Vw Y3 n m vt1 t1) : Ret E n 21 [.sc vt0, .sc vt1] m n (fun v m' n' => ∃ w, v = .sc w ∧ Fr Y3 n m' n' w r) := by
  unfold F21 at h
  refine Ret.walk F21.fn ?_
  refine WC.start fun S0 em en hz => ?_
  have hot0 := kt0.rdS em hz
  have hot1 := kt1.rdS em hz
  refine WC.seq ?_
  refine WC.region ?_
  refine WO.asg rfl ?_
  refine WO.nil ?_
  refine thenL_n ?_
  refine WC.seq ?_
  refine WC.region ?_
  refine WO.asg rfl ?_
  refine WO.nil ?_
  refine thenL_n ?_
  refine WC.seq ?_
  refine WC.seq ?_
  refine WC.region ?_
  refine WO.mv rfl ?_
  refine WO.lenS rfl hot1.slv rfl ?_
  refine WO.mv rfl ?_
  refine WO.nil ?_
  refine thenL_n ?_
  refine WC.block ?_
  obtain ⟨b25, e26, h⟩ := bindS h
  refine WC.loopD e26 (fun s1 l' m' n' => ∃ S3 : Cx n, ∃ v4 : SV, S3.m = m' ∧ S3.n = n' ∧ Cov l' [(0, .sc vt0), (5, .sc v4), (8, .sc vt1), (9, .sc (.int .i64 ((t1.length : Int)))), (10, .sc (.int .i64 s1.2))] ∧ Rd Y3 S3 vt0 t0 ∧ Rd Y3 S3 vt1 t1 ∧ Ow Y3 S3 2 v4 s1.1) (fun b e l' m' n' => e = .exit 0 ∧ ∃ S5 : Cx n, ∃ v6 : SV, S5.m = m' ∧ S5.n = n' ∧ Cov l' [(5, .sc v6)] ∧ Ow Y3 S5 2 v6 b) (by exact ⟨S0, .nils, rfl, rfl, (Cov.cons rfl (Cov.cons rfl (Cov.cons rfl (Cov.cons rfl (Cov.cons rfl (Cov.nil _)))))), hot0, hot1, Ow.nil⟩) ?_ ?_
  · clear h
    rintro s1 q _ _ _ ⟨S7, v8, rfl, rfl, hc9, hot0, hot1, ho5⟩ h
    unfold F21_l0 at h
    refine WC.cov hc9 ?_
    refine WC.seq ?_
    refine WC.region ?_
    refine WO.bin rfl rfl (by decide) (by decide) rfl ?_
    refine WO.nil ?_
    refine thenL_n ?_
    refine WC.seq ?_
    refine WC.cond rfl (fun q10 => ?_) (fun q10 => ?_)
    · have h := iteT q10 h
      refine WC.skip ?_
      refine thenL_n ?_
      refine WC.seq ?_
      refine WC.block ?_
      refine WC.seq ?_
      refine WC.region ?_
      obtain ⟨x11, e12, h⟩ := bindS h
      refine WO.ixS rfl rfl hot1.slv (at?_lt e12) rfl ?_
      refine WO.ldF rfl hot1.ro (fun _ hi => hi) (at?_get e12) rfl rfl rfl ?_
      refine WO.asg rfl ?_
      refine WO.nil ?_
      refine thenL_n ?_
      refine WC.region ?_
      refine WO.mv rfl ?_
      refine WO.mv rfl ?_
      refine WO.mv rfl ?_
      obtain ⟨x13, e14, h⟩ := bindS h
      refine WO.ixS rfl rfl hot0.slv (at?_lt e14) rfl ?_
      refine WO.ldF rfl hot0.ro (fun _ hi => hi) (at?_get e14) rfl rfl rfl ?_
      refine WO.bsS (A := Y3) (S := S7) (M := [x13]) (cs := [.int .i64 x13]) 3 rfl rfl rfl ⟨[.int .i64 x13], _, rfl, rfl, rfl⟩ rfl (fun v15 S16 c17 ho18 => ?_)
      have hot0 := hot0.to c17
      have hot1 := hot1.to c17
      have ho5 := ho5.to c17
      obtain ⟨L19, e20, h⟩ := bindS h
      refine WO.appS rfl rfl ho5 ho18.ro e20 rfl rfl (fun v21 S22 c23 ho24 => ?_)
      have hot0 := hot0.to c23
      have hot1 := hot1.to c23
      have ho18 := ho18.to c23
      refine WO.asg rfl ?_
      refine WO.nil ?_
      refine blockL_n ?_
      refine thenL_n ?_
      refine WC.region ?_
      refine WO.bin rfl rfl (by decide) (by decide) rfl ?_
      refine WO.mv rfl ?_
      refine WO.nil ?_
      refine thenL_n ?_
      obtain rfl := someI h
      exact ⟨_, rfl, ⟨S22, v21, rfl, rfl, (Cov.cons rfl (Cov.cons rfl (Cov.cons rfl (Cov.cons rfl (Cov.cons rfl (Cov.nil _)))))), hot0, hot1, ho24⟩⟩
    · have h := iteF q10 h
      refine WC.exit ?_
      refine thenL_e ?_
      refine thenL_e ?_
      obtain rfl := someI h
      exact ⟨_, rfl, rfl, ⟨S7, v8, rfl, rfl, (Cov.cons rfl (Cov.nil _)), ho5⟩⟩
  rintro _ _ _ _ ⟨rfl, ⟨S27, v28, rfl, rfl, hc29, ho5⟩⟩
  refine blockL_s ?_
  refine thenL_n ?_
  refine WC.cov hc29 ?_
  refine WC.seq ?_
  refine WC.region ?_
  refine WO.mv rfl ?_
  refine WO.asg rfl ?_
  refine WO.nil ?_
  refine thenL_n ?_
  refine WC.ret ?_
  obtain rfl := someI h
  exact ⟨.inr rfl, _, _, rfl, rfl, ⟨v28, rfl, (ho5.fr Lay.flat_fl)⟩⟩
end Go.Proofs.Ytdfalejlhkalhaa

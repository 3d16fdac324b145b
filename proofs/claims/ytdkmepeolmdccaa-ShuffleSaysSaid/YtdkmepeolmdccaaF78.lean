/- The machine answers F78: printed by a program of ours (gen.py). -/
import Derived.Test.YtdkmepeolmdccaaDef
import Derived.Test.YtdkmepeolmdccaaEnv
set_option linter.unusedVariables false
namespace Go.Proofs.Ytdkmepeolmdccaa
open Go.Am
theorem F78.fn : E.fn 78 = some ⟨33, (Try.f78.body.getD .skip), Try.f78.results.toList, []⟩ := rfl
theorem F78_ok {F : Nat} {m : Mem} {n : Nat} {r : (List Int)} {t0 : List Int} {vt0 : SV} (h : F78 F t0 = some r) (kt0 : Vw Y3 n m vt0 t0) : Ret E n 78 [.sc vt0] m n (fun v m' n' => ∃ w, v = .sc w ∧ Fr Y3 n m' n' w r) := by
  unfold F78 at h
  refine Ret.walk F78.fn ?_
  refine WC.start fun S0 em en hz => ?_
  have hot0 := kt0.rdS em hz
  refine WC.seq ?_
  refine WC.region ?_
  refine WO.asg rfl ?_
  refine WO.nil ?_
  refine thenL_n ?_
  refine WC.seq ?_
  refine WC.region ?_
  refine WO.asg rfl ?_
  refine WO.nil ?_
  refine thenL_n ?_
  refine WC.seq ?_
  refine WC.seq ?_
  refine WC.region ?_
  refine WO.mv rfl ?_
  refine WO.lenS rfl hot0.slv rfl ?_
  refine WO.mv rfl ?_
  refine WO.nil ?_
  refine thenL_n ?_
  refine WC.block ?_
  obtain ⟨b35, e36, h⟩ := bindS h
  refine WC.loopD e36 (fun s1 l' m' n' => ∃ S3 : Cx n, ∃ v4 : SV, S3.m = m' ∧ S3.n = n' ∧ Cov l' [(3, .sc v4), (6, .sc vt0), (7, .sc (.int .i64 ((t0.length : Int)))), (8, .sc (.int .i64 s1.2))] ∧ Rd Y3 S3 vt0 t0 ∧ Ow Y3 S3 2 v4 s1.1) (fun b e l' m' n' => e = .exit 0 ∧ ∃ S5 : Cx n, ∃ v6 : SV, S5.m = m' ∧ S5.n = n' ∧ Cov l' [(3, .sc v6)] ∧ Ow Y3 S5 2 v6 b) (by exact ⟨S0, .nils, rfl, rfl, (Cov.cons rfl (Cov.cons rfl (Cov.cons rfl (Cov.cons rfl (Cov.nil _))))), hot0, Ow.nil⟩) ?_ ?_
  · clear h
    rintro s1 q _ _ _ ⟨S7, v8, rfl, rfl, hc9, hot0, ho3⟩ h
    unfold F78_l0 at h
    refine WC.cov hc9 ?_
    refine WC.seq ?_
    refine WC.region ?_
    refine WO.bin rfl rfl (by decide) (by decide) rfl ?_
    refine WO.nil ?_
    refine thenL_n ?_
    refine WC.seq ?_
    refine WC.cond rfl (fun q10 => ?_) (fun q10 => ?_)
    · have h := iteT q10 h
      refine WC.skip ?_
      refine thenL_n ?_
      refine WC.seq ?_
      refine WC.block ?_
      refine WC.seq ?_
      refine WC.region ?_
      refine WO.mv rfl ?_
      obtain ⟨x11, e12, h⟩ := bindS h
      refine WO.ixS rfl rfl hot0.slv (at?_lt e12) rfl ?_
      refine WO.ldF rfl hot0.ro (fun _ hi => hi) (at?_get e12) rfl rfl rfl ?_
      refine WO.asg rfl ?_
      refine WO.asg rfl ?_
      refine WO.nil ?_
      refine thenL_n ?_
      refine WC.seq ?_
      refine WC.region ?_
      refine WO.mv rfl ?_
      refine WO.mv rfl ?_
      refine WO.bsS (A := Y3) (S := S7) (M := [s1.2]) (cs := [.int .i64 s1.2]) 3 rfl rfl rfl ⟨[.int .i64 s1.2], _, rfl, rfl, rfl⟩ rfl (fun v13 S14 c15 ho16 => ?_)
      have hot0 := hot0.to c15
      have ho3 := ho3.to c15
      obtain ⟨L17, e18, h⟩ := bindS h
      refine WO.appS rfl rfl ho3 ho16.ro e18 rfl rfl (fun v19 S20 c21 ho22 => ?_)
      have hot0 := hot0.to c21
      have ho16 := ho16.to c21
      refine WO.asg rfl ?_
      refine WO.nil ?_
      refine thenL_n ?_
      refine WC.drawN rfl ?_
      have hot0z := hot0.oz
      have ho16z := ho16.oz
      have ho22z := ho22.oz
      refine WO.mv rfl ?_
      refine WO.mv rfl ?_
      refine WO.mv rfl ?_
      refine WO.mv rfl ?_
      refine WO.mv rfl ?_
      refine WO.mv rfl ?_
      obtain ⟨x23, e24, h⟩ := bindS h
      refine WO.ixS rfl rfl ho22.slv (at?_lt e24) rfl ?_
      refine WO.ldF rfl ho22z (fun _ hi => hi.1) (at?_get e24) rfl rfl (limLe_self _) ?_
      refine WO.mv rfl ?_
      refine WO.mv rfl ?_
      obtain ⟨x25, e26, h⟩ := bindS h
      refine WO.ixS rfl rfl ho22.slv (at?_lt e26) rfl ?_
      refine WO.ldF rfl ho22z (fun _ hi => hi.1) (at?_get e26) rfl rfl (limLe_self _) ?_
      obtain ⟨u27, e28, h⟩ := bindS h
      refine WO.ixS rfl rfl ho22.slv (ck_some e28) rfl ?_
      refine WO.st1 (u' := x23) rfl rfl ho22 (ck_nat e28) rfl rfl (fun S29 c30 ho22 => ?_)
      have hot0z := hot0z.toz c30
      have ho16z := ho16z.tow c30
      have hot0 := hot0.to c30
      have ho16 := ho16.to c30
      obtain ⟨u31, e32, h⟩ := bindS h
      refine WO.ixS rfl rfl ho22.slv (ck_some e32) rfl ?_
      refine WO.st1 (u' := x25) rfl rfl ho22 (ck_nat e32) rfl rfl (fun S33 c34 ho22 => ?_)
      have hot0z := hot0z.toz c34
      have ho16z := ho16z.tow c34
      have hot0 := hot0.to c34
      have ho16 := ho16.to c34
      refine WO.nil ?_
      refine blockL_n ?_
      refine thenL_n ?_
      refine WC.region ?_
      refine WO.bin rfl rfl (by decide) (by decide) rfl ?_
      refine WO.mv rfl ?_
      refine WO.nil ?_
      refine thenL_n ?_
      obtain rfl := someI h
      exact ⟨_, rfl, ⟨S33, v19, rfl, rfl, (Cov.cons rfl (Cov.cons rfl (Cov.cons rfl (Cov.cons rfl (Cov.nil _))))), hot0, ho22⟩⟩
    · have h := iteF q10 h
      refine WC.exit ?_
      refine thenL_e ?_
      refine thenL_e ?_
      obtain rfl := someI h
      exact ⟨_, rfl, rfl, ⟨S7, v8, rfl, rfl, (Cov.cons rfl (Cov.nil _)), ho3⟩⟩
  rintro _ _ _ _ ⟨rfl, ⟨S37, v38, rfl, rfl, hc39, ho3⟩⟩
  refine blockL_s ?_
  refine thenL_n ?_
  refine WC.cov hc39 ?_
  refine WC.seq ?_
  refine WC.region ?_
  refine WO.mv rfl ?_
  refine WO.asg rfl ?_
  refine WO.nil ?_
  refine thenL_n ?_
  refine WC.ret ?_
  obtain rfl := someI h
  exact ⟨.inr rfl, _, _, rfl, rfl, ⟨v38, rfl, (ho3.fr Lay.flat_fl)⟩⟩
end Go.Proofs.Ytdkmepeolmdccaa

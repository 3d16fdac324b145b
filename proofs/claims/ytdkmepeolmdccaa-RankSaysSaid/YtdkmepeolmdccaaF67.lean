/- The machine answers F67: printed by a program of ours (gen.py). -/
import Derived.Test.YtdkmepeolmdccaaDef
import Derived.Test.YtdkmepeolmdccaaEnv
import Derived.Test.YtdkmepeolmdccaaF65
set_option linter.unusedVariables false
namespace Go.Proofs.Ytdkmepeolmdccaa
open Go.Am
theorem F67.fn : E.fn 67 = some ⟨38, (Try.f67.body.getD .skip), Try.f67.results.toList, [11]⟩ := rfl
theorem F67_ok {F : Nat} : ∀ {m : Mem} {n : Nat} {r : Int} {t0 : List Int} {vt0 : SV} (h : F67 F t0 = some r) (kt0 : Vw Y3 n m vt0 t0), Ret E n 67 [.sc vt0] m n (fun v m' n' => v = .sc (.int .i64 r)) := by
  induction F with
  | zero => intro m n r t0 vt0 h; cases h
  | succ F ih =>
    intro m n r t0 vt0 h kt0
    rw [F67] at h
    try dsimp only at h
    refine Ret.walk F67.fn ?_
    refine WC.start fun S0 em en hz => ?_
    have hot0 := kt0.rdS em hz
    refine WC.seq ?_
    refine WC.region ?_
    refine WO.asg rfl ?_
    refine WO.nil ?_
    refine thenL_n ?_
    refine WC.seq ?_
    refine WC.seq ?_
    refine WC.region ?_
    refine WO.mv rfl ?_
    refine WO.lenS rfl hot0.slv rfl ?_
    refine WO.bin rfl rfl (by decide) (by decide) rfl ?_
    refine WO.nil ?_
    refine thenL_n ?_
    refine WC.cond rfl (fun q1 => ?_) (fun q1 => ?_)
    · have h := iteT q1 h
      refine WC.seq ?_
      refine WC.region ?_
      refine WO.asg rfl ?_
      refine WO.nil ?_
      refine thenL_n ?_
      refine WC.ret ?_
      refine thenL_r ?_
      obtain rfl := someI h
      exact ⟨.inr rfl, _, _, rfl, rfl, rfl⟩
    · have h := iteF q1 h
      refine WC.skip ?_
      refine thenL_n ?_
      refine WC.seq ?_
      refine WC.region ?_
      refine WO.asg rfl ?_
      refine WO.nil ?_
      refine thenL_n ?_
      refine WC.seq ?_
      refine WC.seq ?_
      refine WC.region ?_
      refine WO.mv rfl ?_
      obtain ⟨L2, e3, h⟩ := bindS h
      refine WO.slc (k' := .i64) rfl (.inl ⟨_, rfl, rfl⟩) (.inr ⟨rfl, rfl⟩) hot0 e3 rfl (fun v4 ho5 => ?_)
      have ho5 : Rd Y3 S0 v4 L2 := ho5
      refine WO.lenS rfl ho5.slv rfl ?_
      refine WO.mv rfl ?_
      refine WO.nil ?_
      refine thenL_n ?_
      refine WC.block ?_
      obtain ⟨b41, e42, h⟩ := bindS h
      refine WC.loopD e42 (fun s6 l' m' n' => ∃ S8 : Cx n, ∃ v9 : SV, S8.m = m' ∧ S8.n = n' ∧ Cov l' [(0, .sc vt0), (3, .sc v9), (10, .sc v4), (11, .sc (.int .i64 ((L2.length : Int)))), (12, .sc (.int .i64 s6.2))] ∧ Rd Y3 S8 vt0 t0 ∧ Rd Y3 S8 v4 L2 ∧ Ow Y3 S8 2 v9 s6.1) (fun b e l' m' n' => e = .exit 0 ∧ ∃ S10 : Cx n, ∃ v11 : SV, S10.m = m' ∧ S10.n = n' ∧ Cov l' [(0, .sc vt0), (3, .sc v11)] ∧ Rd Y3 S10 vt0 t0 ∧ Ow Y3 S10 2 v11 b) (by exact ⟨S0, .nils, rfl, rfl, (Cov.cons rfl (Cov.cons rfl (Cov.cons rfl (Cov.cons rfl (Cov.cons rfl (Cov.nil _)))))), hot0, ho5, Ow.nil⟩) ?_ ?_
      · clear h
        rintro s6 q _ _ _ ⟨S12, v13, rfl, rfl, hc14, hot0, ho5, ho3⟩ h
        unfold F67_l0 at h
        refine WC.cov hc14 ?_
        refine WC.seq ?_
        refine WC.region ?_
        refine WO.bin rfl rfl (by decide) (by decide) rfl ?_
        refine WO.nil ?_
        refine thenL_n ?_
        refine WC.seq ?_
        refine WC.cond rfl (fun q15 => ?_) (fun q15 => ?_)
        · have h := iteT q15 h
          refine WC.skip ?_
          refine thenL_n ?_
          refine WC.seq ?_
          refine WC.block ?_
          refine WC.seq ?_
          refine WC.region ?_
          obtain ⟨x16, e17, h⟩ := bindS h
          refine WO.ixS rfl rfl ho5.slv (at?_lt e17) rfl ?_
          refine WO.ldF rfl ho5.ro (fun _ hi => hi) (at?_get e17) rfl rfl rfl ?_
          refine WO.asg rfl ?_
          refine WO.nil ?_
          refine thenL_n ?_
          refine WC.seq ?_
          refine WC.seq ?_
          refine WC.region ?_
          refine WO.mv rfl ?_
          refine WO.mv rfl ?_
          obtain ⟨x18, e19, h⟩ := bindS h
          refine WO.ixS rfl rfl hot0.slv (at?_lt e19) rfl ?_
          refine WO.ldF rfl hot0.ro (fun _ hi => hi) (at?_get e19) rfl rfl rfl ?_
          refine WO.bin rfl rfl (by decide) (by decide) rfl ?_
          refine WO.nil ?_
          refine thenL_n ?_
          refine WC.cond rfl (fun q20 => ?_) (fun q20 => ?_)
          · have h := iteT q20 h
            refine WC.region ?_
            refine WO.mv rfl ?_
            refine WO.bin rfl rfl (by decide) (by decide) rfl ?_
            refine WO.asg rfl ?_
            refine WO.nil ?_
            refine thenL_n ?_
            refine WC.region ?_
            refine WO.mv rfl ?_
            refine WO.mv rfl ?_
            refine WO.bsS (A := Y3) (S := S12) (M := [(wrapA .i64 (x16 - 1))]) (cs := [.int .i64 ((wrapA .i64 (x16 - 1)))]) 3 rfl rfl rfl ⟨[.int .i64 ((wrapA .i64 (x16 - 1)))], _, rfl, rfl, rfl⟩ rfl (fun v21 S22 c23 ho24 => ?_)
            have hot0 := hot0.to c23
            have ho5 := ho5.to c23
            have ho3 := ho3.to c23
            obtain ⟨L25, e26, h⟩ := bindS h
            refine WO.appS rfl rfl ho3 ho24.ro e26 rfl rfl (fun v27 S28 c29 ho30 => ?_)
            have hot0 := hot0.to c29
            have ho5 := ho5.to c29
            have ho24 := ho24.to c29
            refine WO.asg rfl ?_
            refine WO.nil ?_
            refine blockL_n ?_
            refine thenL_n ?_
            refine WC.region ?_
            refine WO.bin rfl rfl (by decide) (by decide) rfl ?_
            refine WO.mv rfl ?_
            refine WO.nil ?_
            refine thenL_n ?_
            obtain rfl := someI h
            exact ⟨_, rfl, ⟨S28, v27, rfl, rfl, (Cov.cons rfl (Cov.cons rfl (Cov.cons rfl (Cov.cons rfl (Cov.cons rfl (Cov.nil _)))))), hot0, ho5, ho30⟩⟩
          · have h := iteF q20 h
            refine WC.skip ?_
            refine thenL_n ?_
            refine WC.region ?_
            refine WO.mv rfl ?_
            refine WO.mv rfl ?_
            refine WO.bsS (A := Y3) (S := S12) (M := [x16]) (cs := [.int .i64 x16]) 4 rfl rfl rfl ⟨[.int .i64 x16], _, rfl, rfl, rfl⟩ rfl (fun v31 S32 c33 ho34 => ?_)
            have hot0 := hot0.to c33
            have ho5 := ho5.to c33
            have ho3 := ho3.to c33
            obtain ⟨L35, e36, h⟩ := bindS h
            refine WO.appS rfl rfl ho3 ho34.ro e36 rfl rfl (fun v37 S38 c39 ho40 => ?_)
            have hot0 := hot0.to c39
            have ho5 := ho5.to c39
            have ho34 := ho34.to c39
            refine WO.asg rfl ?_
            refine WO.nil ?_
            refine blockL_n ?_
            refine thenL_n ?_
            refine WC.region ?_
            refine WO.bin rfl rfl (by decide) (by decide) rfl ?_
            refine WO.mv rfl ?_
            refine WO.nil ?_
            refine thenL_n ?_
            obtain rfl := someI h
            exact ⟨_, rfl, ⟨S38, v37, rfl, rfl, (Cov.cons rfl (Cov.cons rfl (Cov.cons rfl (Cov.cons rfl (Cov.cons rfl (Cov.nil _)))))), hot0, ho5, ho40⟩⟩
        · have h := iteF q15 h
          refine WC.exit ?_
          refine thenL_e ?_
          refine thenL_e ?_
          obtain rfl := someI h
          exact ⟨_, rfl, rfl, ⟨S12, v13, rfl, rfl, (Cov.cons rfl (Cov.cons rfl (Cov.nil _))), hot0, ho3⟩⟩
      rintro _ _ _ _ ⟨rfl, ⟨S43, v44, rfl, rfl, hc45, hot0, ho3⟩⟩
      refine blockL_s ?_
      refine thenL_n ?_
      refine WC.cov hc45 ?_
      refine WC.seq ?_
      refine WC.drawN rfl ?_
      have hot0z := hot0.oz
      have ho3z := ho3.oz
      refine WO.mv rfl ?_
      obtain ⟨x46, e47, h⟩ := bindS h
      refine WO.ixS rfl rfl hot0.slv (at?_lt e47) rfl ?_
      refine WO.ldF rfl hot0z (fun _ hi => hi.1) (at?_get e47) rfl rfl (limLe_self _) ?_
      refine WO.mv rfl ?_
      refine WO.lenS rfl ho3.slv rfl ?_
      obtain ⟨r48, e49, h⟩ := bindS h
      refine WO.callE (S := S43) rfl rfl (F65_ok e49) (fun S50 c51 => ?_)
      have hot0z := hot0z.toz c51
      have ho3z := ho3z.tow c51
      have hot0 := hot0.to c51
      have ho3 := ho3.to c51
      refine WO.bin rfl rfl (by decide) (by decide) rfl ?_
      refine WO.mv rfl ?_
      obtain ⟨r52, e53, h⟩ := bindS h
      refine WO.callE (S := S50) rfl rfl (ih e53 ho3.vw) (fun S54 c55 => ?_)
      have hot0z := hot0z.toz c55
      have ho3z := ho3z.tow c55
      have hot0 := hot0.to c55
      have ho3 := ho3.to c55
      refine WO.bin rfl rfl (by decide) (by decide) rfl ?_
      refine WO.asg rfl ?_
      refine WO.nil ?_
      refine thenL_n ?_
      refine WC.ret ?_
      obtain rfl := someI h
      exact ⟨.inr rfl, _, _, rfl, rfl, rfl⟩
end Go.Proofs.Ytdkmepeolmdccaa

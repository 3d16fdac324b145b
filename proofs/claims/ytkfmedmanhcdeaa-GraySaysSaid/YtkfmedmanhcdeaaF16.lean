/- The machine answers F16: printed by a program of ours (gen.py). -/
import Derived.Test.YtkfmedmanhcdeaaDef
import Derived.Test.YtkfmedmanhcdeaaEnv
set_option linter.unusedVariables false
namespace Go.Proofs.Ytkfmedmanhcdeaa
open Go.Am
theorem F16.fn : E.fn 16 = some ⟨37, (Try.f16.body.getD .skip), Try.f16.results.toList, []⟩ := rfl
theorem F16_ok {F : Nat} {m : Mem} {n : Nat} {r : (List Int) × Int} {t0 : Int} (h : F16 F t0 = some r)  : Ret E n 16 [.sc (.int .i64 t0)] m n (fun v m' n' => ∃ w, v = .tup [.sc w, .sc (.int .i64 r.2)] ∧ Fr Y22 n m' n' w r.1) := by
  unfold F16 at h
  refine Ret.walk F16.fn ?_
  refine WC.start fun S0 em en hz => ?_
  refine WC.seq ?_
  refine WC.region ?_
  refine WO.asg rfl ?_
  refine WO.asg rfl ?_
  refine WO.nil ?_
  refine thenL_n ?_
  refine WC.seq ?_
  refine WC.seq ?_
  refine WC.region ?_
  refine WO.mv rfl ?_
  refine WO.bin rfl rfl (by decide) (by decide) rfl ?_
  refine WO.mv rfl ?_
  refine WO.cutB (d := 12) 3 ((decide (t0 < 0)) || (decide (t0 > 10))) (fun q1 => ?_) (fun q1 => ?_) ?_
  · refine WO.gno rfl rfl ?_
    refine WO.gno rfl rfl ?_
    refine WO.pickT rfl rfl ?_
    refine WO.nil ?_
    exact ⟨rfl, rfl, (Cov.any rfl (orT q1) (Cov.skip rfl (Cov.skip rfl (Cov.skip rfl (Cov.skip rfl (Cov.refl _))))))⟩
  · skip
    refine WO.gyes rfl rfl ?_
    refine WO.mv rfl ?_
    refine WO.gyes rfl rfl ?_
    refine WO.bin rfl rfl (by decide) (by decide) rfl ?_
    refine WO.pickF rfl rfl ?_
    refine WO.nil ?_
    exact ⟨rfl, rfl, (Cov.any rfl (orF q1) (Cov.skip rfl (Cov.skip rfl (Cov.skip rfl (Cov.skip rfl (Cov.refl _))))))⟩
  refine WO.nil ?_
  refine thenL_n ?_
  refine WC.cond rfl (fun q2 => ?_) (fun q2 => ?_)
  · have h := iteT q2 h
    refine WC.seq ?_
    refine WC.region ?_
    refine WO.asg rfl ?_
    refine WO.asg rfl ?_
    refine WO.nil ?_
    refine thenL_n ?_
    refine WC.ret ?_
    refine thenL_r ?_
    obtain rfl := someI h
    exact ⟨.inr rfl, _, _, rfl, rfl, ⟨.nils, rfl, Fr.nil⟩⟩
  · have h := iteF q2 h
    refine WC.skip ?_
    refine thenL_n ?_
    refine WC.seq ?_
    refine WC.region ?_
    refine WO.bsS (A := Y22) (S := S0) (M := [0]) (cs := [.int .u16 0]) 2 rfl rfl rfl ⟨[.int .u16 0], _, rfl, rfl, rfl⟩ rfl (fun v3 S4 c5 ho6 => ?_)
    refine WO.asg rfl ?_
    refine WO.nil ?_
    refine thenL_n ?_
    refine WC.seq ?_
    refine WC.seq ?_
    refine WC.region ?_
    refine WO.mv rfl ?_
    refine WO.mv rfl ?_
    refine WO.nil ?_
    refine thenL_n ?_
    refine WC.block ?_
    obtain ⟨b46, e47, h⟩ := bindS h
    refine WC.loopD e47 (fun s7 l' m' n' => ∃ S9 : Cx n, ∃ v10 : SV, S9.m = m' ∧ S9.n = n' ∧ Cov l' [(4, .sc v10), (14, .sc (.int .i64 t0)), (15, .sc (.int .i64 s7.2))] ∧ Ow Y22 S9 2 v10 s7.1) (fun b e l' m' n' => e = .exit 0 ∧ ∃ S11 : Cx n, ∃ v12 : SV, S11.m = m' ∧ S11.n = n' ∧ Cov l' [(4, .sc v12)] ∧ Ow Y22 S11 2 v12 b) (by exact ⟨S4, v3, rfl, rfl, (Cov.cons rfl (Cov.cons rfl (Cov.cons rfl (Cov.nil _)))), ho6⟩) ?_ ?_
    · clear h
      rintro s7 q _ _ _ ⟨S13, v14, rfl, rfl, hc15, ho4⟩ h
      unfold F16_l1 at h
      refine WC.cov hc15 ?_
      refine WC.seq ?_
      refine WC.region ?_
      refine WO.bin rfl rfl (by decide) (by decide) rfl ?_
      refine WO.nil ?_
      refine thenL_n ?_
      refine WC.seq ?_
      refine WC.cond rfl (fun q16 => ?_) (fun q16 => ?_)
      · have h := iteT q16 h
        refine WC.skip ?_
        refine thenL_n ?_
        refine WC.seq ?_
        refine WC.block ?_
        refine WC.seq ?_
        refine WC.region ?_
        refine WO.mv rfl ?_
        refine WO.asg rfl ?_
        refine WO.nil ?_
        refine thenL_n ?_
        refine WC.seq ?_
        refine WC.region ?_
        refine WO.mv rfl ?_
        refine WO.lenS rfl ho4.slv rfl ?_
        refine WO.bin rfl rfl (by decide) (by decide) rfl ?_
        refine WO.asg rfl ?_
        refine WO.nil ?_
        refine thenL_n ?_
        refine WC.block ?_
        obtain ⟨b41, e42, h⟩ := bindS h
        refine WC.loopD e42 (fun s17 l' m' n' => ∃ S19 : Cx n, ∃ v20 : SV, S19.m = m' ∧ S19.n = n' ∧ Cov l' [(4, .sc v20), (5, .sc (.int .i64 s7.2)), (6, .sc (.int .i64 s17.2)), (14, .sc (.int .i64 t0)), (15, .sc (.int .i64 s7.2))] ∧ Ow Y22 S19 2 v20 s17.1) (fun b e l' m' n' => e = .exit 2 ∧ ∃ S21 : Cx n, ∃ v22 : SV, S21.m = m' ∧ S21.n = n' ∧ Cov l' [(4, .sc v22), (14, .sc (.int .i64 t0)), (15, .sc (.int .i64 s7.2))] ∧ Ow Y22 S21 2 v22 b) (by exact ⟨S13, v14, rfl, rfl, (Cov.cons rfl (Cov.cons rfl (Cov.cons rfl (Cov.cons rfl (Cov.cons rfl (Cov.nil _)))))), ho4⟩) ?_ ?_
        · clear h
          rintro s17 q _ _ _ ⟨S23, v24, rfl, rfl, hc25, ho4⟩ h
          unfold F16_l0 at h
          refine WC.cov hc25 ?_
          refine WC.seq ?_
          refine WC.seq ?_
          refine WC.region ?_
          refine WO.mv rfl ?_
          refine WO.bin rfl rfl (by decide) (by decide) rfl ?_
          refine WO.nil ?_
          refine thenL_n ?_
          refine WC.cond rfl (fun q26 => ?_) (fun q26 => ?_)
          · have h := iteT q26 h
            refine WC.skip ?_
            refine thenL_n ?_
            refine WC.seq ?_
            refine WC.block ?_
            refine WC.drawN rfl ?_
            have ho4z := ho4.oz
            refine WO.mv rfl ?_
            refine WO.mv rfl ?_
            refine WO.mv rfl ?_
            obtain ⟨x27, e28, h⟩ := bindS h
            refine WO.ixS rfl rfl ho4.slv (at?_lt e28) rfl ?_
            refine WO.ldF rfl ho4z (fun _ hi => hi.1) (at?_get e28) rfl rfl (limLe_self _) ?_
            refine WO.mv rfl ?_
            obtain ⟨x29, e30, h⟩ := bindS h
            refine WO.shlD rfl rfl e30 ?_
            refine WO.bits rfl rfl rfl (by decide) (by decide) rfl ?_
            refine WO.bsS (A := Y22) (S := S23) (M := [(bit .or .u16 x27 x29)]) (cs := [.int .u16 ((bit .or .u16 x27 x29))]) 3 rfl rfl rfl ⟨[.int .u16 ((bit .or .u16 x27 x29))], _, rfl, rfl, rfl⟩ rfl (fun v31 S32 c33 ho34 => ?_)
            have ho4z := ho4z.tow c33
            have ho4 := ho4.to c33
            obtain ⟨L35, e36, h⟩ := bindS h
            refine WO.appS rfl rfl ho4 ho34.ro e36 rfl rfl (fun v37 S38 c39 ho40 => ?_)
            have ho34 := ho34.to c39
            refine WO.asg rfl ?_
            refine WO.nil ?_
            refine blockL_n ?_
            refine thenL_n ?_
            refine WC.region ?_
            refine WO.mv rfl ?_
            refine WO.bin rfl rfl (by decide) (by decide) rfl ?_
            refine WO.asg rfl ?_
            refine WO.nil ?_
            refine thenL_n ?_
            obtain rfl := someI h
            exact ⟨_, rfl, ⟨S38, v37, rfl, rfl, (Cov.cons rfl (Cov.cons rfl (Cov.cons rfl (Cov.cons rfl (Cov.cons rfl (Cov.nil _)))))), ho40⟩⟩
          · have h := iteF q26 h
            refine WC.exit ?_
            refine thenL_e ?_
            refine thenL_e ?_
            obtain rfl := someI h
            exact ⟨_, rfl, rfl, ⟨S23, v24, rfl, rfl, (Cov.cons rfl (Cov.cons rfl (Cov.cons rfl (Cov.nil _)))), ho4⟩⟩
        rintro _ _ _ _ ⟨rfl, ⟨S43, v44, rfl, rfl, hc45, ho4⟩⟩
        refine blockL_s ?_
        refine blockL_n ?_
        refine thenL_n ?_
        refine WC.cov hc45 ?_
        refine WC.region ?_
        refine WO.bin rfl rfl (by decide) (by decide) rfl ?_
        refine WO.mv rfl ?_
        refine WO.nil ?_
        refine thenL_n ?_
        obtain rfl := someI h
        exact ⟨_, rfl, ⟨S43, v44, rfl, rfl, (Cov.cons rfl (Cov.cons rfl (Cov.cons rfl (Cov.nil _)))), ho4⟩⟩
      · have h := iteF q16 h
        refine WC.exit ?_
        refine thenL_e ?_
        refine thenL_e ?_
        obtain rfl := someI h
        exact ⟨_, rfl, rfl, ⟨S13, v14, rfl, rfl, (Cov.cons rfl (Cov.nil _)), ho4⟩⟩
    rintro _ _ _ _ ⟨rfl, ⟨S48, v49, rfl, rfl, hc50, ho4⟩⟩
    refine blockL_s ?_
    refine thenL_n ?_
    refine WC.cov hc50 ?_
    refine WC.seq ?_
    refine WC.region ?_
    refine WO.mv rfl ?_
    refine WO.asg rfl ?_
    refine WO.asg rfl ?_
    refine WO.nil ?_
    refine thenL_n ?_
    refine WC.ret ?_
    obtain rfl := someI h
    exact ⟨.inr rfl, _, _, rfl, rfl, ⟨v49, rfl, (ho4.fr Lay.flat_fl)⟩⟩
end Go.Proofs.Ytkfmedmanhcdeaa

/- The machine answers F67: printed by a program of ours (gen.py). -/
import Derived.Test.YtkfmedmanhcdeaaDef
import Derived.Test.YtkfmedmanhcdeaaEnv
import Derived.Test.YtkfmedmanhcdeaaF112
import Derived.Test.YtkfmedmanhcdeaaF66
set_option linter.unusedVariables false
namespace Go.Proofs.Ytkfmedmanhcdeaa
open Go.Am
theorem F67.fn : E.fn 67 = some ⟨49, (Try.f67.body.getD .skip), Try.f67.results.toList, []⟩ := rfl
theorem F67_ok {F : Nat} {m : Mem} {n : Nat} {r : (List Int) × Int} {t0 : List Int} {t1 : Int} {vt0 : SV} (h : F67 F t0 t1 = some r) (kt0 : Vw Y3 n m vt0 t0) : Ret E n 67 [.sc vt0, .sc (.int .i64 t1)] m n (fun v m' n' => ∃ w, v = .tup [.sc w, .sc (.int .i64 r.2)] ∧ Fr Y3 n m' n' w r.1) := by
  unfold F67 at h
  refine Ret.walk F67.fn ?_
  refine WC.start fun S0 em en hz => ?_
  have hot0 := kt0.rdS em hz
  refine WC.seq ?_
  refine WC.region ?_
  refine WO.asg rfl ?_
  refine WO.asg rfl ?_
  refine WO.nil ?_
  refine thenL_n ?_
  refine WC.seq ?_
  refine WC.seq ?_
  refine WC.region ?_
  refine WO.mv rfl ?_
  obtain ⟨r1, e2, h⟩ := bindS h
  refine WO.callE (S := S0) rfl rfl (F112_ok e2 hot0.vw) (fun S3 c4 => ?_)
  have hot0 := hot0.to c4
  refine WO.asg rfl ?_
  refine WO.nil ?_
  refine thenL_n ?_
  refine WC.seq ?_
  refine WC.region ?_
  refine WO.mv rfl ?_
  refine WO.bin rfl rfl (by decide) (by decide) rfl ?_
  refine WO.nil ?_
  refine thenL_n ?_
  refine WC.cond rfl (fun q5 => ?_) (fun q5 => ?_)
  · have h := iteT q5 h
    refine WC.seq ?_
    refine WC.region ?_
    refine WO.mv rfl ?_
    refine WO.asg rfl ?_
    refine WO.asg rfl ?_
    refine WO.nil ?_
    refine thenL_n ?_
    refine WC.ret ?_
    refine thenL_r ?_
    obtain rfl := someI h
    exact ⟨.inr rfl, _, _, rfl, rfl, ⟨.nils, rfl, Fr.nil⟩⟩
  · have h := iteF q5 h
    refine WC.skip ?_
    refine thenL_n ?_
    refine WC.seq ?_
    refine WC.seq ?_
    refine WC.region ?_
    refine WO.mv rfl ?_
    refine WO.bin rfl rfl (by decide) (by decide) rfl ?_
    refine WO.mv rfl ?_
    refine WO.cutB (d := 21) 3 ((decide (t1 < 0)) || (decide (t1 > 200))) (fun q6 => ?_) (fun q6 => ?_) ?_
    · refine WO.gno rfl rfl ?_
      refine WO.gno rfl rfl ?_
      refine WO.pickT rfl rfl ?_
      refine WO.nil ?_
      exact ⟨rfl, rfl, (Cov.any rfl (orT q6) (Cov.skip rfl (Cov.skip rfl (Cov.skip rfl (Cov.skip rfl (Cov.refl _))))))⟩
    · skip
      refine WO.gyes rfl rfl ?_
      refine WO.mv rfl ?_
      refine WO.gyes rfl rfl ?_
      refine WO.bin rfl rfl (by decide) (by decide) rfl ?_
      refine WO.pickF rfl rfl ?_
      refine WO.nil ?_
      exact ⟨rfl, rfl, (Cov.any rfl (orF q6) (Cov.skip rfl (Cov.skip rfl (Cov.skip rfl (Cov.skip rfl (Cov.refl _))))))⟩
    refine WO.nil ?_
    refine thenL_n ?_
    refine WC.cond rfl (fun q7 => ?_) (fun q7 => ?_)
    · have h := iteT q7 h
      refine WC.seq ?_
      refine WC.region ?_
      refine WO.asg rfl ?_
      refine WO.asg rfl ?_
      refine WO.nil ?_
      refine thenL_n ?_
      refine WC.ret ?_
      refine thenL_r ?_
      obtain rfl := someI h
      exact ⟨.inr rfl, _, _, rfl, rfl, ⟨.nils, rfl, Fr.nil⟩⟩
    · have h := iteF q7 h
      refine WC.skip ?_
      refine thenL_n ?_
      refine WC.seq ?_
      refine WC.region ?_
      refine WO.mv rfl ?_
      refine WO.lenS rfl hot0.slv rfl ?_
      obtain ⟨L8, e9, h⟩ := bindS h
      refine WO.mkS (A := Y3) (S := S3) 2 rfl rfl e9 rfl rfl rfl (fun v10 S11 c12 ho13 => ?_)
      have hot0 := hot0.to c12
      refine WO.asg rfl ?_
      refine WO.nil ?_
      refine thenL_n ?_
      refine WC.seq ?_
      refine WC.region ?_
      refine WO.asg rfl ?_
      refine WO.nil ?_
      refine thenL_n ?_
      refine WC.seq ?_
      refine WC.seq ?_
      refine WC.region ?_
      refine WO.mv rfl ?_
      refine WO.mv rfl ?_
      refine WO.nil ?_
      refine thenL_n ?_
      refine WC.block ?_
      obtain ⟨b48, e49, h⟩ := bindS h
      refine WC.loopD e49 (fun s14 l' m' n' => ∃ S16 : Cx n, ∃ v17 : SV, S16.m = m' ∧ S16.n = n' ∧ Cov l' [(0, .sc vt0), (7, .sc v10), (8, .sc v17), (25, .sc (.int .i64 t1)), (26, .sc (.int .i64 s14.2.1))] ∧ Rd Y3 S16 vt0 t0 ∧ Ow Y3 S16 2 v10 s14.2.2 ∧ Ow Y3 S16 3 v17 s14.1) (fun b e l' m' n' => (match b with | .inl b18 => e = .exit 0 ∧ ∃ S19 : Cx n, ∃ v20 : SV, S19.m = m' ∧ S19.n = n' ∧ Cov l' [(8, .sc v20)] ∧ Ow Y3 S19 3 v20 b18 | .inr b18 => e = .ret ∧ ∃ S21 : Cx n, ∃ v22 : SV, S21.m = m' ∧ S21.n = n' ∧ Cov l' [(4, .sc v22), (5, .sc (.int .i64 b18.2))] ∧ Ow Y3 S21 4 v22 b18.1)) (by exact ⟨S11, .nils, rfl, rfl, (Cov.cons rfl (Cov.cons rfl (Cov.cons rfl (Cov.cons rfl (Cov.cons rfl (Cov.nil _)))))), hot0, ho13, Ow.nil⟩) ?_ ?_
      · clear h
        rintro s14 q _ _ _ ⟨S23, v24, rfl, rfl, hc25, hot0, ho13, ho8⟩ h
        unfold F67_l0 at h
        refine WC.cov hc25 ?_
        refine WC.seq ?_
        refine WC.region ?_
        refine WO.bin rfl rfl (by decide) (by decide) rfl ?_
        refine WO.nil ?_
        refine thenL_n ?_
        refine WC.seq ?_
        refine WC.cond rfl (fun q26 => ?_) (fun q26 => ?_)
        · have h := iteT q26 h
          refine WC.skip ?_
          refine thenL_n ?_
          refine WC.seq ?_
          refine WC.block ?_
          refine WC.seq ?_
          refine WC.region ?_
          refine WO.mv rfl ?_
          refine WO.mv rfl ?_
          obtain ⟨r27, e28, h⟩ := bindS h
          refine WO.callE (S := S23) rfl rfl (F66_ok e28 hot0.vw ho13.vw) (fun S29 c30 => ?_)
          have hot0 := hot0.to c30
          have ho13 := ho13.to c30
          have ho8 := ho8.to c30
          refine WO.mv rfl ?_
          refine WO.do rfl rfl ?_
          refine WO.do rfl rfl ?_
          refine WO.asg rfl ?_
          refine WO.asg rfl ?_
          refine WO.nil ?_
          refine thenL_n ?_
          refine WC.seq ?_
          refine WC.seq ?_
          refine WC.region ?_
          refine WO.mv rfl ?_
          refine WO.bin rfl rfl (by decide) (by decide) rfl ?_
          refine WO.nil ?_
          refine thenL_n ?_
          refine WC.cond rfl (fun q31 => ?_) (fun q31 => ?_)
          · have h := iteT q31 h
            refine WC.seq ?_
            refine WC.region ?_
            refine WO.mv rfl ?_
            refine WO.asg rfl ?_
            refine WO.asg rfl ?_
            refine WO.nil ?_
            refine thenL_n ?_
            refine WC.ret ?_
            refine thenL_r ?_
            refine blockL_r ?_
            refine thenL_r ?_
            refine thenL_r ?_
            obtain rfl := someI h
            exact ⟨_, rfl, rfl, ⟨S29, .nils, rfl, rfl, (Cov.cons rfl (Cov.cons rfl (Cov.nil _))), Ow.nil⟩⟩
          · have h := iteF q31 h
            refine WC.skip ?_
            refine thenL_n ?_
            refine WC.seq ?_
            refine WC.region ?_
            refine WO.mv rfl ?_
            refine WO.mv rfl ?_
            obtain ⟨x32, e33, h⟩ := bindS h
            refine WO.ixS rfl rfl ho13.slv (at?_lt e33) rfl ?_
            refine WO.ldF rfl ho13.ro (fun _ hi => hi) (at?_get e33) rfl rfl rfl ?_
            refine WO.bin rfl rfl (by decide) (by decide) rfl ?_
            obtain ⟨u34, e35, h⟩ := bindS h
            refine WO.ixS rfl rfl ho13.slv (ck_some e35) rfl ?_
            refine WO.st1 (u' := (wrapA .i64 (x32 + 1))) rfl rfl ho13 (ck_nat e35) rfl rfl (fun S36 c37 ho13 => ?_)
            have hot0 := hot0.to c37
            have ho8 := ho8.to c37
            refine WO.nil ?_
            refine thenL_n ?_
            refine WC.region ?_
            refine WO.mv rfl ?_
            refine WO.mv rfl ?_
            refine WO.bsS (A := Y3) (S := S36) (M := [r27.1]) (cs := [.int .i64 r27.1]) 5 rfl rfl rfl ⟨[.int .i64 r27.1], _, rfl, rfl, rfl⟩ rfl (fun v38 S39 c40 ho41 => ?_)
            have hot0 := hot0.to c40
            have ho13 := ho13.to c40
            have ho8 := ho8.to c40
            obtain ⟨L42, e43, h⟩ := bindS h
            refine WO.appS rfl rfl ho8 ho41.ro e43 rfl rfl (fun v44 S45 c46 ho47 => ?_)
            have hot0 := hot0.to c46
            have ho13 := ho13.to c46
            have ho41 := ho41.to c46
            refine WO.asg rfl ?_
            refine WO.nil ?_
            refine blockL_n ?_
            refine thenL_n ?_
            refine WC.region ?_
            refine WO.bin rfl rfl (by decide) (by decide) rfl ?_
            refine WO.mv rfl ?_
            refine WO.nil ?_
            refine thenL_n ?_
            obtain rfl := someI h
            exact ⟨_, rfl, ⟨S45, v44, rfl, rfl, (Cov.cons rfl (Cov.cons rfl (Cov.cons rfl (Cov.cons rfl (Cov.cons rfl (Cov.nil _)))))), hot0, ho13, ho47⟩⟩
        · have h := iteF q26 h
          refine WC.exit ?_
          refine thenL_e ?_
          refine thenL_e ?_
          obtain rfl := someI h
          exact ⟨_, rfl, rfl, ⟨S23, v24, rfl, rfl, (Cov.cons rfl (Cov.nil _)), ho8⟩⟩
      cases b48 with
      | inl b50 =>
        simp only at h
        rintro _ _ _ _ ⟨rfl, ⟨S51, v52, rfl, rfl, hc53, ho8⟩⟩
        refine blockL_s ?_
        refine thenL_n ?_
        refine WC.cov hc53 ?_
        refine WC.seq ?_
        refine WC.region ?_
        refine WO.mv rfl ?_
        refine WO.asg rfl ?_
        refine WO.asg rfl ?_
        refine WO.nil ?_
        refine thenL_n ?_
        refine WC.ret ?_
        obtain rfl := someI h
        exact ⟨.inr rfl, _, _, rfl, rfl, ⟨v52, rfl, (ho8.fr Lay.flat_fl)⟩⟩
      | inr b50 =>
        simp only at h
        rintro _ _ _ _ ⟨rfl, ⟨S54, v55, rfl, rfl, hc56, ho4⟩⟩
        refine blockL_r ?_
        refine thenL_r ?_
        obtain rfl := someI h
        exact ⟨.inr rfl, _, _, (resK_cov hc56 rfl), rfl, ⟨v55, rfl, (ho4.fr Lay.flat_fl)⟩⟩
end Go.Proofs.Ytkfmedmanhcdeaa

/- The machine answers F102: printed by a program of ours (gen.py). -/
import Derived.Test.YtihmliblbhjlaaaDef
import Derived.Test.YtihmliblbhjlaaaEnv
import Derived.Test.YtihmliblbhjlaaaF116_150
set_option linter.unusedVariables false
namespace Go.Proofs.Ytihmliblbhjlaaa
open Go.Am
theorem F102.fn : E.fn 102 = some ⟨55, (Try.f102.body.getD .skip), Try.f102.results.toList, []⟩ := rfl
theorem F102_ok {F : Nat} {fl : Nat} {S0 : Cx fl} {r : (List (List Int)) × Int} {t0 : List (List Int)} {t1 : Int} {vt0 : SV} (h : F102 F t0 t1 = some r) (hot0 : Tw Y3 S0 2 3 vt0 t0) : Ret E fl 102 [.sc vt0, .sc (.int .i64 t1)] S0.m S0.n (fun v m' n' => ∃ S' : Cx fl, S'.m = m' ∧ S'.n = n' ∧ ChM S0 S' ∧ (∃ w89 : SV, v = .tup [.sc w89, .sc (.int .i64 r.2)] ∧ Tw Y3 S' 902 903 w89 r.1)) := by
  unfold F102 at h
  refine Ret.walk F102.fn ?_
  have hM := ChM.refl S0
  refine WC.seq ?_
  refine WC.region ?_
  refine WO.bxS (A := Y3) (S := S0) (u := t1) 4 rfl rfl rfl rfl (fun v1 S2 c3 ho4 => ?_)
  have hot0 := hot0.to c3
  have hM := hM.to c3
  refine WO.asg rfl ?_
  refine WO.asg rfl ?_
  refine WO.nil ?_
  refine thenL_n ?_
  refine WC.seq ?_
  refine WC.seq ?_
  refine WC.region ?_
  refine WO.mv rfl ?_
  refine WO.lenS rfl hot0.slv rfl ?_
  refine WO.mv rfl ?_
  refine WO.nil ?_
  refine thenL_n ?_
  refine WC.block ?_
  obtain ⟨b64, e65, h⟩ := bindS h
  refine WC.loopD e65 (fun s5 l' m' n' => ∃ S6 : Cx fl, S6.m = m' ∧ S6.n = n' ∧ Cov l' [(0, .sc vt0), (3, .sc v1), (9, .sc (.int .i64 ((t0.length : Int)))), (10, .sc (.int .i64 s5.1))] ∧ ChM S0 S6 ∧ Tw Y3 S6 2 3 vt0 s5.2.1 ∧ Bk Y3 S6 4 v1 s5.2.2) (fun b e l' m' n' => (match b with | .inl b7 => e = .exit 0 ∧ ∃ S8 : Cx fl, S8.m = m' ∧ S8.n = n' ∧ Cov l' [(0, .sc vt0), (3, .sc v1)] ∧ ChM S0 S8 ∧ Tw Y3 S8 2 3 vt0 b7.1 ∧ Bk Y3 S8 4 v1 b7.2 | .inr b7 => e = .ret ∧ ∃ S9 : Cx fl, ∃ v10 : SV, S9.m = m' ∧ S9.n = n' ∧ Cov l' [(4, .sc v10), (5, .sc (.int .i64 b7.2))] ∧ ChM S0 S9 ∧ Tw Y3 S9 5 6 v10 b7.1)) (by exact ⟨S2, rfl, rfl, (Cov.cons rfl (Cov.cons rfl (Cov.cons rfl (Cov.cons rfl (Cov.nil _))))), hM, hot0, ho4⟩) ?_ ?_
  · clear h
    rintro s5 q _ _ _ ⟨S11, rfl, rfl, hc12, hM, hot0, ho4⟩ h
    unfold F102_l0 at h
    refine WC.cov hc12 ?_
    refine WC.seq ?_
    refine WC.region ?_
    refine WO.bin rfl rfl (by decide) (by decide) rfl ?_
    refine WO.nil ?_
    refine thenL_n ?_
    refine WC.seq ?_
    refine WC.cond rfl (fun q13 => ?_) (fun q13 => ?_)
    · have h := iteT q13 h
      refine WC.skip ?_
      refine thenL_n ?_
      refine WC.seq ?_
      refine WC.block ?_
      refine WC.seq ?_
      refine WC.region ?_
      refine WO.mv rfl ?_
      refine WO.asg rfl ?_
      refine WO.nil ?_
      refine thenL_n ?_
      refine WC.seq ?_
      refine WC.region ?_
      refine WO.mv rfl ?_
      refine WO.mv rfl ?_
      obtain ⟨L14, e15, h⟩ := bindS h
      refine WO.ixS rfl rfl hot0.slv (at?_lt e15) rfl ?_
      refine WO.ldTv rfl hot0 (at?_get e15) rfl hot0.lt rfl (fun v16 ho17 => ?_)
      obtain ⟨b18, rfl⟩ := ho4.isp
      refine WO.do rfl rfl ?_
      obtain ⟨r19, e20, h⟩ := bindS h
      refine WO.callE (S := S11) rfl rfl (F116_150_ok e20 ho17.vw ho4.pv) (fun S21 c22 => ?_)
      have hM := hM.to c22
      have hot0 := hot0.to c22
      have ho4 := ho4.to c22
      have ho17 := ho17.to c22
      refine WO.asg rfl ?_
      refine WO.nil ?_
      refine thenL_n ?_
      refine WC.seq ?_
      refine WC.seq ?_
      refine WC.region ?_
      refine WO.mv rfl ?_
      refine WO.bin rfl rfl (by decide) (by decide) rfl ?_
      refine WO.nil ?_
      refine thenL_n ?_
      refine WC.cond rfl (fun q23 => ?_) (fun q23 => ?_)
      · have h := iteT q23 h
        refine WC.seq ?_
        refine WC.drawN rfl rfl ?_
        have hot0z := hot0.lt
        have ho4z := ho4.lt
        have ho17z := ho17.oz
        refine WO.mv rfl ?_
        refine WO.mv rfl ?_
        refine WO.mv rfl ?_
        refine WO.mv rfl ?_
        obtain ⟨L24, e25, h⟩ := bindS h
        refine WO.ixS rfl rfl hot0.slv (at?_lt e25) rfl ?_
        refine WO.ldTn 7 rfl hot0 (at?_get e25) rfl hot0z (limLe_self _) rfl rfl rfl rfl (fun v26 S28 c29 hot0 ho27 hn30 ho27z => ?_)
        have hM := hM.to c29
        have ho4 := ho4.to c29
        refine WO.ldBz (j := 0) (q := 0) rfl ho4.at0 ho4 rfl rfl ho4z (limLe_self _) ?_
        refine WO.bsS (A := Y3) (S := S28) (M := [s5.2.2]) (cs := [.int .i64 s5.2.2]) 8 rfl rfl rfl ⟨[.int .i64 s5.2.2], _, rfl, rfl, rfl⟩ rfl (fun v31 S32 c33 ho34 => ?_)
        have ho27z := ho27z.tow c33
        have hM := hM.to c33
        have hot0 := hot0.to c33
        have ho4 := ho4.to c33
        have ho27 := ho27.to c33
        obtain ⟨L35, e36, h⟩ := bindS h
        refine WO.appS rfl rfl ho27 ho34.ro e36 rfl rfl (fun v37 S38 c39 ho40 => ?_)
        have hM := hM.to c39
        have hot0 := hot0.to c39
        have ho4 := ho4.to c39
        have ho34 := ho34.to c39
        obtain ⟨u41, e42, h⟩ := bindS h
        refine WO.ixS rfl rfl hot0.slv (ck_some e42) rfl ?_
        refine WO.stT (S := S38) rfl rfl hot0 (ck_nat e42) ho40 rfl rfl rfl rfl rfl rfl rfl (fun S43 S45 c44 c46 hot0 => ?_)
        have hM := hM.to c44
        have ho4 := ho4.to c44
        have ho34 := ho34.to c44
        have hM := hM.to c46
        have ho4 := ho4.to c46
        have ho34 := ho34.to c46
        refine WO.nil ?_
        refine thenL_n ?_
        refine WC.seq ?_
        refine WC.region ?_
        refine WO.mv rfl ?_
        refine WO.mv rfl ?_
        refine WO.asg rfl ?_
        refine WO.asg rfl ?_
        refine WO.nil ?_
        refine thenL_n ?_
        refine WC.ret ?_
        refine thenL_r ?_
        refine blockL_r ?_
        refine thenL_r ?_
        refine thenL_r ?_
        have hM := hM.renO 2 5
        have hM := hM.renO 3 6
        have hot0 := hot0.ren 5 6
        obtain rfl := someI h
        exact ⟨_, rfl, rfl, ⟨((S45.ren 2 5).ren 3 6), vt0, rfl, rfl, (Cov.cons rfl (Cov.cons rfl (Cov.nil _))), hM, hot0⟩⟩
      · have h := iteF q23 h
        refine WC.skip ?_
        refine thenL_n ?_
        refine WC.drawN rfl rfl ?_
        have hot0z := hot0.lt
        have ho4z := ho4.lt
        have ho17z := ho17.oz
        refine WO.mv rfl ?_
        refine WO.mv rfl ?_
        obtain ⟨L47, e48, h⟩ := bindS h
        refine WO.ixS rfl rfl hot0.slv (at?_lt e48) rfl ?_
        refine WO.ldTn 9 rfl hot0 (at?_get e48) rfl hot0z (limLe_self _) rfl rfl rfl rfl (fun v49 S51 c52 hot0 ho50 hn53 ho50z => ?_)
        have hM := hM.to c52
        have ho4 := ho4.to c52
        refine WO.mv rfl ?_
        refine WO.ldBz (j := 0) (q := 0) rfl ho4.at0 ho4 rfl rfl ho4z (limLe_self _) ?_
        refine WO.mv rfl ?_
        refine WO.mv rfl ?_
        obtain ⟨u54, e55, h⟩ := bindS h
        refine WO.ixS rfl rfl hot0.slv (ck_some e55) rfl ?_
        refine WO.ldTh rfl hot0 rfl hot0z (limLe_self _) ?_
        refine WO.mv rfl ?_
        obtain ⟨x56, e57, h⟩ := bindS h
        refine WO.ixS rfl rfl ho50.slv (at?_lt e57) rfl ?_
        refine WO.ldF rfl ho50z (fun _ hi => hi.1) (at?_get e57) rfl rfl (limLe_self _) ?_
        obtain ⟨u58, e59, h⟩ := bindS h
        refine WO.ixS rfl rfl ho50.slv (ck_some e59) rfl ?_
        refine WO.st1 (u' := s5.2.2) rfl rfl ho50 (ck_nat e59) rfl rfl (fun S60 c61 ho50 => ?_)
        have hM := hM.to c61
        have hot0 := hot0.to c61
        have ho4 := ho4.to c61
        refine WO.stB (j := 0) (q := 0) (u' := x56) rfl ho4.at0 rfl ho4 rfl (by decide) rfl rfl (fun S62 c63 ho4 => ?_)
        have hM := hM.to c63
        have hot0 := hot0.to c63
        have ho50 := ho50.to c63
        refine WO.nil ?_
        refine blockL_n ?_
        refine thenL_n ?_
        refine WC.region ?_
        refine WO.bin rfl rfl (by decide) (by decide) rfl ?_
        refine WO.mv rfl ?_
        refine WO.nil ?_
        refine thenL_n ?_
        have hot0 := hot0.back ho50
        have hM := hM.to (Cx.mg_ch S62 9 3)
        have ho4 := ho4.to (Cx.mg_ch S62 9 3)
        obtain rfl := someI h
        exact ⟨_, rfl, ⟨(S62.mg 9 3), rfl, rfl, (Cov.cons rfl (Cov.cons rfl (Cov.cons rfl (Cov.cons rfl (Cov.nil _))))), hM, hot0, ho4⟩⟩
    · have h := iteF q13 h
      refine WC.exit ?_
      refine thenL_e ?_
      refine thenL_e ?_
      obtain rfl := someI h
      exact ⟨_, rfl, rfl, ⟨S11, rfl, rfl, (Cov.cons rfl (Cov.cons rfl (Cov.nil _))), hM, hot0, ho4⟩⟩
  cases b64 with
  | inl b66 =>
    simp only at h
    rintro _ _ _ _ ⟨rfl, ⟨S67, rfl, rfl, hc68, hM, hot0, ho4⟩⟩
    refine blockL_s ?_
    refine thenL_n ?_
    refine WC.cov hc68 ?_
    refine WC.seq ?_
    refine WC.region ?_
    refine WO.mv rfl ?_
    refine WO.ldB (j := 0) (q := 0) rfl ho4.at0 ho4 rfl rfl rfl ?_
    refine WO.bsS (A := Y3) (S := S67) (M := [b66.2]) (cs := [.int .i64 b66.2]) 10 rfl rfl rfl ⟨[.int .i64 b66.2], _, rfl, rfl, rfl⟩ rfl (fun v69 S70 c71 ho72 => ?_)
    have hM := hM.to c71
    have hot0 := hot0.to c71
    have ho4 := ho4.to c71
    refine WO.bsH (S := S70) (w := v69) 11 rfl rfl rfl (fun v73 S74 c75 ho76 => ?_)
    have hM := hM.to c75
    have hot0 := hot0.to c75
    have ho4 := ho4.to c75
    have ho72 := ho72.to c75
    obtain ⟨L77, e78, h⟩ := bindS h
    have hl85 := hot0.slv
    refine WO.appT rfl rfl hot0 ho76.ro ho72 e78 rfl rfl rfl rfl rfl rfl rfl (fun v79 S80 S82 c81 c83 ho84 => ?_)
    have hM := hM.to c81
    have ho4 := ho4.to c81
    have ho76 := ho76.to c81
    have hM := hM.to c83
    have ho4 := ho4.to c83
    have ho76 := ho76.to c83
    refine WO.mv rfl ?_
    refine WO.lenS rfl hl85 rfl ?_
    refine WO.asg rfl ?_
    refine WO.asg rfl ?_
    refine WO.nil ?_
    refine thenL_n ?_
    refine WC.ret ?_
    have hM := hM.renO 2 902
    have hM := hM.renO 3 903
    have ho84 := ho84.ren 902 903
    obtain rfl := someI h
    exact ⟨.inr rfl, _, _, rfl, rfl, ⟨((S82.ren 2 902).ren 3 903), rfl, rfl, hM, v79, rfl, ho84⟩⟩
  | inr b66 =>
    simp only at h
    rintro _ _ _ _ ⟨rfl, ⟨S86, v87, rfl, rfl, hc88, hM, ho4⟩⟩
    refine blockL_r ?_
    refine thenL_r ?_
    have hM := hM.renO 5 902
    have hM := hM.renO 6 903
    have ho4 := ho4.ren 902 903
    obtain rfl := someI h
    exact ⟨.inr rfl, _, _, (resK_cov hc88 rfl), rfl, ⟨((S86.ren 5 902).ren 6 903), rfl, rfl, hM, v87, rfl, ho4⟩⟩
end Go.Proofs.Ytihmliblbhjlaaa

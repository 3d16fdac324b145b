/- The machine answers F59: printed by a program of ours (gen.py). -/
import Derived.Test.YtkfmedmanhcdeaaDef
import Derived.Test.YtkfmedmanhcdeaaEnv
import Derived.Test.YtkfmedmanhcdeaaF108_109
import Derived.Test.YtkfmedmanhcdeaaF60
set_option linter.unusedVariables false
namespace Go.Proofs.Ytkfmedmanhcdeaa
open Go.Am
theorem F59.fn : E.fn 59 = some ⟨42, (Try.f59.body.getD .skip), Try.f59.results.toList, []⟩ := rfl
theorem F59_ok {F : Nat} {m : Mem} {n : Nat} {r : (List Int) × Int} {t0 : List Int} {vt0 : SV} (h : F59 F t0 = some r) (kt0 : Vw Y3 n m vt0 t0) : Ret E n 59 [.sc vt0] m n (fun v m' n' => ∃ w, v = .tup [.sc w, .sc (.int .i64 r.2)] ∧ Fr Y3 n m' n' w r.1) := by
  unfold F59 at h
  refine Ret.walk F59.fn ?_
  refine WC.start fun S0 em en hz => ?_
  have hot0 := kt0.rdS em hz
  refine WC.seq ?_
  refine WC.region ?_
  refine WO.asg rfl ?_
  refine WO.asg rfl ?_
  refine WO.nil ?_
  refine thenL_n ?_
  refine WC.seq ?_
  refine WC.seq ?_
  refine WC.region ?_
  refine WO.mv rfl ?_
  obtain ⟨r1, e2, h⟩ := bindS h
  refine WO.callE (S := S0) rfl rfl (F60_ok e2 hot0.vw) (fun S3 c4 => ?_)
  have hot0 := hot0.to c4
  refine WO.asg rfl ?_
  refine WO.nil ?_
  refine thenL_n ?_
  refine WC.seq ?_
  refine WC.region ?_
  refine WO.mv rfl ?_
  refine WO.bin rfl rfl (by decide) (by decide) rfl ?_
  refine WO.nil ?_
  refine thenL_n ?_
  refine WC.cond rfl (fun q5 => ?_) (fun q5 => ?_)
  · have h := iteT q5 h
    refine WC.seq ?_
    refine WC.region ?_
    refine WO.mv rfl ?_
    refine WO.asg rfl ?_
    refine WO.asg rfl ?_
    refine WO.nil ?_
    refine thenL_n ?_
    refine WC.ret ?_
    refine thenL_r ?_
    obtain rfl := someI h
    exact ⟨.inr rfl, _, _, rfl, rfl, ⟨.nils, rfl, Fr.nil⟩⟩
  · have h := iteF q5 h
    refine WC.skip ?_
    refine thenL_n ?_
    refine WC.seq ?_
    refine WC.region ?_
    refine WO.asg rfl ?_
    refine WO.nil ?_
    refine thenL_n ?_
    refine WC.seq ?_
    refine WC.region ?_
    refine WO.asg rfl ?_
    refine WO.nil ?_
    refine thenL_n ?_
    refine WC.seq ?_
    refine WC.seq ?_
    refine WC.region ?_
    refine WO.mv rfl ?_
    refine WO.lenS rfl hot0.slv rfl ?_
    refine WO.mv rfl ?_
    refine WO.nil ?_
    refine thenL_n ?_
    refine WC.block ?_
    obtain ⟨b64, e65, h⟩ := bindS h
    refine WC.loopD e65 (fun s6 l' m' n' => ∃ S9 : Cx n, ∃ v10 v11 : SV, S9.m = m' ∧ S9.n = n' ∧ Cov l' [(5, .sc v10), (6, .sc v11), (15, .sc vt0), (16, .sc (.int .i64 ((t0.length : Int)))), (17, .sc (.int .i64 s6.2.2))] ∧ Rd Y3 S9 vt0 t0 ∧ Ow Y3 S9 2 v10 s6.1 ∧ Ow Y3 S9 3 v11 s6.2.1) (fun b e l' m' n' => e = .exit 0 ∧ ∃ S12 : Cx n, ∃ v13 : SV, S12.m = m' ∧ S12.n = n' ∧ Cov l' [(6, .sc v13)] ∧ Ow Y3 S12 3 v13 b) (by exact ⟨S3, .nils, .nils, rfl, rfl, (Cov.cons rfl (Cov.cons rfl (Cov.cons rfl (Cov.cons rfl (Cov.cons rfl (Cov.nil _)))))), hot0, Ow.nil, Ow.nil⟩) ?_ ?_
    · clear h
      rintro s6 q _ _ _ ⟨S14, v15, v16, rfl, rfl, hc17, hot0, ho5, ho6⟩ h
      unfold F59_l0 at h
      refine WC.cov hc17 ?_
      refine WC.seq ?_
      refine WC.region ?_
      refine WO.bin rfl rfl (by decide) (by decide) rfl ?_
      refine WO.nil ?_
      refine thenL_n ?_
      refine WC.seq ?_
      refine WC.cond rfl (fun q18 => ?_) (fun q18 => ?_)
      · have h := iteT q18 h
        refine WC.skip ?_
        refine thenL_n ?_
        refine WC.seq ?_
        refine WC.block ?_
        refine WC.seq ?_
        refine WC.region ?_
        obtain ⟨x19, e20, h⟩ := bindS h
        refine WO.ixS rfl rfl hot0.slv (at?_lt e20) rfl ?_
        refine WO.ldF rfl hot0.ro (fun _ hi => hi) (at?_get e20) rfl rfl rfl ?_
        refine WO.alS (A := Y3) (S := S14) (z0 := 0) 4 rfl rfl rfl (fun v21 S22 c23 ho24 => ?_)
        have hot0 := hot0.to c23
        have ho5 := ho5.to c23
        have ho6 := ho6.to c23
        refine WO.stB (j := 0) (q := 0) (u' := x19) rfl ho24.at0 rfl ho24 rfl (by decide) rfl rfl (fun S25 c26 ho24 => ?_)
        have hot0 := hot0.to c26
        have ho5 := ho5.to c26
        have ho6 := ho6.to c26
        refine WO.nil ?_
        refine thenL_n ?_
        refine WC.seq ?_
        refine WC.region ?_
        refine WO.mv rfl ?_
        obtain ⟨b27, rfl⟩ := ho24.isp
        refine WO.do rfl rfl ?_
        obtain ⟨r28, e29, h⟩ := bindS h
        refine WO.callE (S := S25) rfl rfl (F108_109_ok e29 ho5.vw ho24.pv) (fun S30 c31 => ?_)
        have hot0 := hot0.to c31
        have ho5 := ho5.to c31
        have ho6 := ho6.to c31
        have ho24 := ho24.to c31
        refine WO.asg rfl ?_
        refine WO.nil ?_
        refine thenL_n ?_
        refine WC.seq ?_
        refine WC.seq ?_
        refine WC.region ?_
        refine WO.mv rfl ?_
        refine WO.bin rfl rfl (by decide) (by decide) rfl ?_
        refine WO.nil ?_
        refine thenL_n ?_
        obtain ⟨b43, e44, h⟩ := bindS h
        refine WC.mono (Q' := (fun b e l' m' n' => e = .normal ∧ ∃ S45 : Cx n, ∃ v46 : SV, S45.m = m' ∧ S45.n = n' ∧ Cov l' [(5, .sc v46), (6, .sc v16), (8, .sc ((.ptr b27 0))), (9, .sc (.int .i64 b.2)), (15, .sc vt0), (16, .sc (.int .i64 ((t0.length : Int)))), (17, .sc (.int .i64 s6.2.2))] ∧ Ow Y3 S45 3 v16 s6.2.1 ∧ Bk Y3 S45 4 (.ptr b27 0) x19 ∧ Rd Y3 S45 vt0 t0 ∧ Ow Y3 S45 2 v46 b.1) b43) ?_ ?_
        · have h := e44
          dsimp only at h ⊢
          refine WC.cond rfl (fun q32 => ?_) (fun q32 => ?_)
          · have h := iteT q32 h
            refine WC.seq ?_
            refine WC.region ?_
            refine WO.mv rfl ?_
            refine WO.lenS rfl ho5.slv rfl ?_
            refine WO.asg rfl ?_
            refine WO.nil ?_
            refine thenL_n ?_
            refine WC.region ?_
            refine WO.mv rfl ?_
            refine WO.ldB (j := 0) (q := 0) rfl ho24.at0 ho24 rfl rfl rfl ?_
            refine WO.bsS (A := Y3) (S := S30) (M := [x19]) (cs := [.int .i64 x19]) 5 rfl rfl rfl ⟨[.int .i64 x19], _, rfl, rfl, rfl⟩ rfl (fun v33 S34 c35 ho36 => ?_)
            have hot0 := hot0.to c35
            have ho5 := ho5.to c35
            have ho6 := ho6.to c35
            have ho24 := ho24.to c35
            obtain ⟨L37, e38, h⟩ := bindS h
            refine WO.appS rfl rfl ho5 ho36.ro e38 rfl rfl (fun v39 S40 c41 ho42 => ?_)
            have hot0 := hot0.to c41
            have ho6 := ho6.to c41
            have ho24 := ho24.to c41
            have ho36 := ho36.to c41
            refine WO.asg rfl ?_
            refine WO.nil ?_
            obtain rfl := someI h
            exact ⟨rfl, ⟨S40, v39, rfl, rfl, (Cov.cons rfl (Cov.cons rfl (Cov.cons rfl (Cov.cons rfl (Cov.cons rfl (Cov.cons rfl (Cov.cons rfl (Cov.nil _)))))))), ho6, ho24, hot0, ho42⟩⟩
          · have h := iteF q32 h
            refine WC.skip ?_
            obtain rfl := someI h
            exact ⟨rfl, ⟨S30, v15, rfl, rfl, (Cov.cons rfl (Cov.cons rfl (Cov.cons rfl (Cov.cons rfl (Cov.cons rfl (Cov.cons rfl (Cov.cons rfl (Cov.nil _)))))))), ho6, ho24, hot0, ho5⟩⟩
        dsimp only
        rintro _ _ _ _ ⟨rfl, ⟨S47, v48, rfl, rfl, hc49, ho6, ho24, hot0, ho5⟩⟩
        refine thenL_n ?_
        refine WC.cov hc49 ?_
        refine WC.seq ?_
        refine WC.region ?_
        refine WO.mv rfl ?_
        refine WO.mv rfl ?_
        refine WO.ldB (j := 0) (q := 0) rfl ho24.at0 ho24 rfl rfl rfl ?_
        obtain ⟨u50, e51, h⟩ := bindS h
        refine WO.ixS rfl rfl ho5.slv (ck_some e51) rfl ?_
        refine WO.st1 (u' := x19) rfl rfl ho5 (ck_nat e51) rfl rfl (fun S52 c53 ho5 => ?_)
        have ho6 := ho6.to c53
        have ho24 := ho24.to c53
        have hot0 := hot0.to c53
        refine WO.nil ?_
        refine thenL_n ?_
        refine WC.region ?_
        refine WO.mv rfl ?_
        refine WO.mv rfl ?_
        refine WO.bsS (A := Y3) (S := S52) (M := [b43.2]) (cs := [.int .i64 b43.2]) 6 rfl rfl rfl ⟨[.int .i64 b43.2], _, rfl, rfl, rfl⟩ rfl (fun v54 S55 c56 ho57 => ?_)
        have ho6 := ho6.to c56
        have ho24 := ho24.to c56
        have hot0 := hot0.to c56
        have ho5 := ho5.to c56
        obtain ⟨L58, e59, h⟩ := bindS h
        refine WO.appS rfl rfl ho6 ho57.ro e59 rfl rfl (fun v60 S61 c62 ho63 => ?_)
        have ho24 := ho24.to c62
        have hot0 := hot0.to c62
        have ho5 := ho5.to c62
        have ho57 := ho57.to c62
        refine WO.asg rfl ?_
        refine WO.nil ?_
        refine blockL_n ?_
        refine thenL_n ?_
        refine WC.region ?_
        refine WO.bin rfl rfl (by decide) (by decide) rfl ?_
        refine WO.mv rfl ?_
        refine WO.nil ?_
        refine thenL_n ?_
        obtain rfl := someI h
        exact ⟨_, rfl, ⟨S61, v48, v60, rfl, rfl, (Cov.cons rfl (Cov.cons rfl (Cov.cons rfl (Cov.cons rfl (Cov.cons rfl (Cov.nil _)))))), hot0, ho5, ho63⟩⟩
      · have h := iteF q18 h
        refine WC.exit ?_
        refine thenL_e ?_
        refine thenL_e ?_
        obtain rfl := someI h
        exact ⟨_, rfl, rfl, ⟨S14, v16, rfl, rfl, (Cov.cons rfl (Cov.nil _)), ho6⟩⟩
    rintro _ _ _ _ ⟨rfl, ⟨S66, v67, rfl, rfl, hc68, ho6⟩⟩
    refine blockL_s ?_
    refine thenL_n ?_
    refine WC.cov hc68 ?_
    refine WC.seq ?_
    refine WC.region ?_
    refine WO.mv rfl ?_
    refine WO.asg rfl ?_
    refine WO.asg rfl ?_
    refine WO.nil ?_
    refine thenL_n ?_
    refine WC.ret ?_
    obtain rfl := someI h
    exact ⟨.inr rfl, _, _, rfl, rfl, ⟨v67, rfl, (ho6.fr Lay.flat_fl)⟩⟩
end Go.Proofs.Ytkfmedmanhcdeaa

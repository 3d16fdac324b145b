/- The machine answers F139: printed by a program of ours (gen.py). -/
import Derived.Test.YtdkmepeolmdccaaDef
import Derived.Test.YtdkmepeolmdccaaEnv
import Derived.Test.YtdkmepeolmdccaaF138
import Derived.Test.YtdkmepeolmdccaaF163
set_option linter.unusedVariables false
namespace Go.Proofs.Ytdkmepeolmdccaa
open Go.Am
theorem F139.fn : E.fn 139 = some ⟨51, (Try.f139.body.getD .skip), Try.f139.results.toList, []⟩ := rfl
theorem F139_ok {F : Nat} {m : Mem} {n : Nat} {r : (List Int) × Int × Int} {t0 : List Int} {t1 : List Int} {vt0 : SV} {vt1 : SV} (h : F139 F t0 t1 = some r) (kt0 : Vw Y5 n m vt0 t0) (kt1 : Vw Y3 n m vt1 t1) : Ret E n 139 [.sc vt0, .sc vt1] m n (fun v m' n' => ∃ w, v = .tup [.sc w, .sc (.int .i64 r.2.1), .sc (.int .i64 r.2.2)] ∧ Fr Y3 n m' n' w r.1) := by
  unfold F139 at h
  refine Ret.walk F139.fn ?_
  refine WC.start fun S0 em en hz => ?_
  have hot0 := kt0.rdS em hz
  have hot1 := kt1.rdS em hz
  refine WC.seq ?_
  refine WC.region ?_
  refine WO.asg rfl ?_
  refine WO.asg rfl ?_
  refine WO.asg rfl ?_
  refine WO.nil ?_
  refine thenL_n ?_
  refine WC.seq ?_
  refine WC.seq ?_
  refine WC.region ?_
  refine WO.mv rfl ?_
  obtain ⟨r1, e2, h⟩ := bindS h
  refine WO.callE (S := S0) rfl rfl (F138_ok e2 hot0.vw) (fun S3 c4 => ?_)
  have hot0 := hot0.to c4
  have hot1 := hot1.to c4
  refine WO.asg rfl ?_
  refine WO.nil ?_
  refine thenL_n ?_
  refine WC.seq ?_
  refine WC.region ?_
  refine WO.mv rfl ?_
  refine WO.bin rfl rfl (by decide) (by decide) rfl ?_
  refine WO.nil ?_
  refine thenL_n ?_
  refine WC.cond rfl (fun q5 => ?_) (fun q5 => ?_)
  · have h := iteT q5 h
    refine WC.seq ?_
    refine WC.region ?_
    refine WO.mv rfl ?_
    refine WO.asg rfl ?_
    refine WO.asg rfl ?_
    refine WO.asg rfl ?_
    refine WO.nil ?_
    refine thenL_n ?_
    refine WC.ret ?_
    refine thenL_r ?_
    obtain rfl := someI h
    exact ⟨.inr rfl, _, _, rfl, rfl, ⟨.nils, rfl, Fr.nil⟩⟩
  · have h := iteF q5 h
    refine WC.skip ?_
    refine thenL_n ?_
    refine WC.seq ?_
    refine WC.seq ?_
    refine WC.region ?_
    refine WO.mv rfl ?_
    refine WO.lenS rfl hot1.slv rfl ?_
    refine WO.bin rfl rfl (by decide) (by decide) rfl ?_
    refine WO.nil ?_
    refine thenL_n ?_
    refine WC.cond rfl (fun q6 => ?_) (fun q6 => ?_)
    · have h := iteT q6 h
      refine WC.seq ?_
      refine WC.region ?_
      refine WO.asg rfl ?_
      refine WO.asg rfl ?_
      refine WO.asg rfl ?_
      refine WO.nil ?_
      refine thenL_n ?_
      refine WC.ret ?_
      refine thenL_r ?_
      obtain rfl := someI h
      exact ⟨.inr rfl, _, _, rfl, rfl, ⟨.nils, rfl, Fr.nil⟩⟩
    · have h := iteF q6 h
      refine WC.skip ?_
      refine thenL_n ?_
      refine WC.seq ?_
      refine WC.region ?_
      refine WO.asg rfl ?_
      refine WO.nil ?_
      refine thenL_n ?_
      refine WC.seq ?_
      refine WC.region ?_
      refine WO.asg rfl ?_
      refine WO.nil ?_
      refine thenL_n ?_
      refine WC.seq ?_
      refine WC.seq ?_
      refine WC.region ?_
      refine WO.mv rfl ?_
      refine WO.lenS rfl hot1.slv rfl ?_
      refine WO.mv rfl ?_
      refine WO.nil ?_
      refine thenL_n ?_
      refine WC.block ?_
      obtain ⟨b41, e42, h⟩ := bindS h
      refine WC.loopD e42 (fun s7 l' m' n' => ∃ S9 : Cx n, ∃ v10 : SV, S9.m = m' ∧ S9.n = n' ∧ Cov l' [(0, .sc vt0), (8, .sc v10), (9, .sc (.int .i64 s7.2.1)), (23, .sc vt1), (24, .sc (.int .i64 ((t1.length : Int)))), (25, .sc (.int .i64 s7.2.2))] ∧ Rd Y5 S9 vt0 t0 ∧ Rd Y3 S9 vt1 t1 ∧ Ow Y3 S9 2 v10 s7.1) (fun b e l' m' n' => (match b with | .inl b11 => e = .exit 0 ∧ ∃ S12 : Cx n, ∃ v13 : SV, S12.m = m' ∧ S12.n = n' ∧ Cov l' [(8, .sc v13), (9, .sc (.int .i64 b11.2))] ∧ Ow Y3 S12 2 v13 b11.1 | .inr b11 => e = .ret ∧ ∃ S14 : Cx n, ∃ v15 : SV, S14.m = m' ∧ S14.n = n' ∧ Cov l' [(4, .sc v15), (5, .sc (.int .i64 b11.2.1)), (6, .sc (.int .i64 b11.2.2))] ∧ Ow Y3 S14 3 v15 b11.1)) (by exact ⟨S3, .nils, rfl, rfl, (Cov.cons rfl (Cov.cons rfl (Cov.cons rfl (Cov.cons rfl (Cov.cons rfl (Cov.cons rfl (Cov.nil _))))))), hot0, hot1, Ow.nil⟩) ?_ ?_
      · clear h
        rintro s7 q _ _ _ ⟨S16, v17, rfl, rfl, hc18, hot0, hot1, ho8⟩ h
        unfold F139_l0 at h
        refine WC.cov hc18 ?_
        refine WC.seq ?_
        refine WC.region ?_
        refine WO.bin rfl rfl (by decide) (by decide) rfl ?_
        refine WO.nil ?_
        refine thenL_n ?_
        refine WC.seq ?_
        refine WC.cond rfl (fun q19 => ?_) (fun q19 => ?_)
        · have h := iteT q19 h
          refine WC.skip ?_
          refine thenL_n ?_
          refine WC.seq ?_
          refine WC.block ?_
          refine WC.seq ?_
          refine WC.region ?_
          obtain ⟨x20, e21, h⟩ := bindS h
          refine WO.ixS rfl rfl hot1.slv (at?_lt e21) rfl ?_
          refine WO.ldF rfl hot1.ro (fun _ hi => hi) (at?_get e21) rfl rfl rfl ?_
          refine WO.asg rfl ?_
          refine WO.nil ?_
          refine thenL_n ?_
          refine WC.seq ?_
          refine WC.region ?_
          refine WO.mv rfl ?_
          refine WO.mv rfl ?_
          obtain ⟨L22, e23, h⟩ := bindS h
          refine WO.slc (k' := .i64) rfl (.inl ⟨_, rfl, rfl⟩) (.inr ⟨rfl, rfl⟩) hot0 e23 rfl (fun v24 ho25 => ?_)
          have ho25 : Rd Y5 S16 v24 L22 := ho25
          refine WO.mv rfl ?_
          obtain ⟨r26, e27, h⟩ := bindS h
          refine WO.callE (S := S16) rfl rfl (F163_ok e27 ho25.vw) (fun S28 c29 => ?_)
          have hot0 := hot0.to c29
          have hot1 := hot1.to c29
          have ho8 := ho8.to c29
          have ho25 := ho25.to c29
          refine WO.mv rfl ?_
          refine WO.do rfl rfl ?_
          refine WO.do rfl rfl ?_
          refine WO.do rfl rfl ?_
          refine WO.asg rfl ?_
          refine WO.asg rfl ?_
          refine WO.asg rfl ?_
          refine WO.nil ?_
          refine thenL_n ?_
          refine WC.seq ?_
          refine WC.seq ?_
          refine WC.region ?_
          refine WO.mv rfl ?_
          refine WO.bin rfl rfl (by decide) (by decide) rfl ?_
          refine WO.nil ?_
          refine thenL_n ?_
          refine WC.cond rfl (fun q30 => ?_) (fun q30 => ?_)
          · have h := iteT q30 h
            refine WC.seq ?_
            refine WC.region ?_
            refine WO.mv rfl ?_
            refine WO.asg rfl ?_
            refine WO.asg rfl ?_
            refine WO.asg rfl ?_
            refine WO.nil ?_
            refine thenL_n ?_
            refine WC.ret ?_
            refine thenL_r ?_
            refine blockL_r ?_
            refine thenL_r ?_
            refine thenL_r ?_
            obtain rfl := someI h
            exact ⟨_, rfl, rfl, ⟨S28, .nils, rfl, rfl, (Cov.cons rfl (Cov.cons rfl (Cov.cons rfl (Cov.nil _)))), Ow.nil⟩⟩
          · have h := iteF q30 h
            refine WC.skip ?_
            refine thenL_n ?_
            refine WC.region ?_
            refine WO.mv rfl ?_
            refine WO.mv rfl ?_
            refine WO.bsS (A := Y3) (S := S28) (M := [r26.1]) (cs := [.int .i64 r26.1]) 4 rfl rfl rfl ⟨[.int .i64 r26.1], _, rfl, rfl, rfl⟩ rfl (fun v31 S32 c33 ho34 => ?_)
            have hot0 := hot0.to c33
            have hot1 := hot1.to c33
            have ho8 := ho8.to c33
            have ho25 := ho25.to c33
            obtain ⟨L35, e36, h⟩ := bindS h
            refine WO.appS rfl rfl ho8 ho34.ro e36 rfl rfl (fun v37 S38 c39 ho40 => ?_)
            have hot0 := hot0.to c39
            have hot1 := hot1.to c39
            have ho25 := ho25.to c39
            have ho34 := ho34.to c39
            refine WO.mv rfl ?_
            refine WO.mv rfl ?_
            refine WO.bin rfl rfl (by decide) (by decide) rfl ?_
            refine WO.asg rfl ?_
            refine WO.asg rfl ?_
            refine WO.nil ?_
            refine blockL_n ?_
            refine thenL_n ?_
            refine WC.region ?_
            refine WO.bin rfl rfl (by decide) (by decide) rfl ?_
            refine WO.mv rfl ?_
            refine WO.nil ?_
            refine thenL_n ?_
            obtain rfl := someI h
            exact ⟨_, rfl, ⟨S38, v37, rfl, rfl, (Cov.cons rfl (Cov.cons rfl (Cov.cons rfl (Cov.cons rfl (Cov.cons rfl (Cov.cons rfl (Cov.nil _))))))), hot0, hot1, ho40⟩⟩
        · have h := iteF q19 h
          refine WC.exit ?_
          refine thenL_e ?_
          refine thenL_e ?_
          obtain rfl := someI h
          exact ⟨_, rfl, rfl, ⟨S16, v17, rfl, rfl, (Cov.cons rfl (Cov.cons rfl (Cov.nil _))), ho8⟩⟩
      cases b41 with
      | inl b43 =>
        simp only at h
        rintro _ _ _ _ ⟨rfl, ⟨S44, v45, rfl, rfl, hc46, ho8⟩⟩
        refine blockL_s ?_
        refine thenL_n ?_
        refine WC.cov hc46 ?_
        refine WC.seq ?_
        refine WC.region ?_
        refine WO.mv rfl ?_
        refine WO.mv rfl ?_
        refine WO.asg rfl ?_
        refine WO.asg rfl ?_
        refine WO.asg rfl ?_
        refine WO.nil ?_
        refine thenL_n ?_
        refine WC.ret ?_
        obtain rfl := someI h
        exact ⟨.inr rfl, _, _, rfl, rfl, ⟨v45, rfl, (ho8.fr Lay.flat_fl)⟩⟩
      | inr b43 =>
        simp only at h
        rintro _ _ _ _ ⟨rfl, ⟨S47, v48, rfl, rfl, hc49, ho4⟩⟩
        refine blockL_r ?_
        refine thenL_r ?_
        obtain rfl := someI h
        exact ⟨.inr rfl, _, _, (resK_cov hc49 rfl), rfl, ⟨v48, rfl, (ho4.fr Lay.flat_fl)⟩⟩
end Go.Proofs.Ytdkmepeolmdccaa

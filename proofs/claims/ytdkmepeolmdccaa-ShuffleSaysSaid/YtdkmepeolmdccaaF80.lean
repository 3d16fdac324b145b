/- The machine answers F80: printed by a program of ours (gen.py). -/
import Derived.Test.YtdkmepeolmdccaaDef
import Derived.Test.YtdkmepeolmdccaaEnv
import Derived.Test.YtdkmepeolmdccaaF142
set_option linter.unusedVariables false
namespace Go.Proofs.Ytdkmepeolmdccaa
open Go.Am
theorem F80.fn : E.fn 80 = some ⟨42, (Try.f80.body.getD .skip), Try.f80.results.toList, []⟩ := rfl
theorem F80_ok {F : Nat} {m : Mem} {n : Nat} {r : (List Int) × Int × Int} {t0 : List Int} {t1 : List Int} {vt0 : SV} {vt1 : SV} (h : F80 F t0 t1 = some r) (kt0 : Vw Y5 n m vt0 t0) (kt1 : Vw Y3 n m vt1 t1) : Ret E n 80 [.sc vt0, .sc vt1] m n (fun v m' n' => ∃ w, v = .tup [.sc w, .sc (.int .i64 r.2.1), .sc (.int .i64 r.2.2)] ∧ Fr Y3 n m' n' w r.1) := by
  unfold F80 at h
  refine Ret.walk F80.fn ?_
  refine WC.start fun S0 em en hz => ?_
  have hot0 := kt0.rdS em hz
  have hot1 := kt1.rdS em hz
  refine WC.seq ?_
  refine WC.region ?_
  refine WO.asg rfl ?_
  refine WO.asg rfl ?_
  refine WO.asg rfl ?_
  refine WO.nil ?_
  refine thenL_n ?_
  refine WC.seq ?_
  refine WC.region ?_
  refine WO.asg rfl ?_
  refine WO.nil ?_
  refine thenL_n ?_
  refine WC.seq ?_
  refine WC.region ?_
  refine WO.asg rfl ?_
  refine WO.nil ?_
  refine thenL_n ?_
  refine WC.seq ?_
  refine WC.seq ?_
  refine WC.region ?_
  refine WO.mv rfl ?_
  refine WO.lenS rfl hot1.slv rfl ?_
  refine WO.mv rfl ?_
  refine WO.nil ?_
  refine thenL_n ?_
  refine WC.block ?_
  obtain ⟨b35, e36, h⟩ := bindS h
  refine WC.loopD e36 (fun s1 l' m' n' => ∃ S3 : Cx n, ∃ v4 : SV, S3.m = m' ∧ S3.n = n' ∧ Cov l' [(0, .sc vt0), (7, .sc v4), (8, .sc (.int .i64 s1.2.1)), (14, .sc vt1), (15, .sc (.int .i64 ((t1.length : Int)))), (16, .sc (.int .i64 s1.2.2))] ∧ Rd Y5 S3 vt0 t0 ∧ Rd Y3 S3 vt1 t1 ∧ Ow Y3 S3 2 v4 s1.1) (fun b e l' m' n' => (match b with | .inl b5 => e = .exit 0 ∧ ∃ S6 : Cx n, ∃ v7 : SV, S6.m = m' ∧ S6.n = n' ∧ Cov l' [(7, .sc v7), (8, .sc (.int .i64 b5.2))] ∧ Ow Y3 S6 2 v7 b5.1 | .inr b5 => e = .ret ∧ ∃ S8 : Cx n, ∃ v9 : SV, S8.m = m' ∧ S8.n = n' ∧ Cov l' [(4, .sc v9), (5, .sc (.int .i64 b5.2.1)), (6, .sc (.int .i64 b5.2.2))] ∧ Ow Y3 S8 3 v9 b5.1)) (by exact ⟨S0, .nils, rfl, rfl, (Cov.cons rfl (Cov.cons rfl (Cov.cons rfl (Cov.cons rfl (Cov.cons rfl (Cov.cons rfl (Cov.nil _))))))), hot0, hot1, Ow.nil⟩) ?_ ?_
  · clear h
    rintro s1 q _ _ _ ⟨S10, v11, rfl, rfl, hc12, hot0, hot1, ho7⟩ h
    unfold F80_l0 at h
    refine WC.cov hc12 ?_
    refine WC.seq ?_
    refine WC.region ?_
    refine WO.bin rfl rfl (by decide) (by decide) rfl ?_
    refine WO.nil ?_
    refine thenL_n ?_
    refine WC.seq ?_
    refine WC.cond rfl (fun q13 => ?_) (fun q13 => ?_)
    · have h := iteT q13 h
      refine WC.skip ?_
      refine thenL_n ?_
      refine WC.seq ?_
      refine WC.block ?_
      refine WC.seq ?_
      refine WC.region ?_
      obtain ⟨x14, e15, h⟩ := bindS h
      refine WO.ixS rfl rfl hot1.slv (at?_lt e15) rfl ?_
      refine WO.ldF rfl hot1.ro (fun _ hi => hi) (at?_get e15) rfl rfl rfl ?_
      refine WO.asg rfl ?_
      refine WO.nil ?_
      refine thenL_n ?_
      refine WC.seq ?_
      refine WC.region ?_
      refine WO.mv rfl ?_
      refine WO.mv rfl ?_
      obtain ⟨L16, e17, h⟩ := bindS h
      refine WO.slc (k' := .i64) rfl (.inl ⟨_, rfl, rfl⟩) (.inr ⟨rfl, rfl⟩) hot0 e17 rfl (fun v18 ho19 => ?_)
      have ho19 : Rd Y5 S10 v18 L16 := ho19
      refine WO.mv rfl ?_
      obtain ⟨r20, e21, h⟩ := bindS h
      refine WO.callE (S := S10) rfl rfl (F142_ok e21 ho19.vw) (fun S22 c23 => ?_)
      have hot0 := hot0.to c23
      have hot1 := hot1.to c23
      have ho7 := ho7.to c23
      have ho19 := ho19.to c23
      refine WO.mv rfl ?_
      refine WO.do rfl rfl ?_
      refine WO.do rfl rfl ?_
      refine WO.do rfl rfl ?_
      refine WO.asg rfl ?_
      refine WO.asg rfl ?_
      refine WO.asg rfl ?_
      refine WO.nil ?_
      refine thenL_n ?_
      refine WC.seq ?_
      refine WC.seq ?_
      refine WC.region ?_
      refine WO.mv rfl ?_
      refine WO.bin rfl rfl (by decide) (by decide) rfl ?_
      refine WO.nil ?_
      refine thenL_n ?_
      refine WC.cond rfl (fun q24 => ?_) (fun q24 => ?_)
      · have h := iteT q24 h
        refine WC.seq ?_
        refine WC.region ?_
        refine WO.mv rfl ?_
        refine WO.asg rfl ?_
        refine WO.asg rfl ?_
        refine WO.asg rfl ?_
        refine WO.nil ?_
        refine thenL_n ?_
        refine WC.ret ?_
        refine thenL_r ?_
        refine blockL_r ?_
        refine thenL_r ?_
        refine thenL_r ?_
        obtain rfl := someI h
        exact ⟨_, rfl, rfl, ⟨S22, .nils, rfl, rfl, (Cov.cons rfl (Cov.cons rfl (Cov.cons rfl (Cov.nil _)))), Ow.nil⟩⟩
      · have h := iteF q24 h
        refine WC.skip ?_
        refine thenL_n ?_
        refine WC.region ?_
        refine WO.mv rfl ?_
        refine WO.mv rfl ?_
        refine WO.bsS (A := Y3) (S := S22) (M := [r20.1]) (cs := [.int .i64 r20.1]) 4 rfl rfl rfl ⟨[.int .i64 r20.1], _, rfl, rfl, rfl⟩ rfl (fun v25 S26 c27 ho28 => ?_)
        have hot0 := hot0.to c27
        have hot1 := hot1.to c27
        have ho7 := ho7.to c27
        have ho19 := ho19.to c27
        obtain ⟨L29, e30, h⟩ := bindS h
        refine WO.appS rfl rfl ho7 ho28.ro e30 rfl rfl (fun v31 S32 c33 ho34 => ?_)
        have hot0 := hot0.to c33
        have hot1 := hot1.to c33
        have ho19 := ho19.to c33
        have ho28 := ho28.to c33
        refine WO.mv rfl ?_
        refine WO.mv rfl ?_
        refine WO.bin rfl rfl (by decide) (by decide) rfl ?_
        refine WO.asg rfl ?_
        refine WO.asg rfl ?_
        refine WO.nil ?_
        refine blockL_n ?_
        refine thenL_n ?_
        refine WC.region ?_
        refine WO.bin rfl rfl (by decide) (by decide) rfl ?_
        refine WO.mv rfl ?_
        refine WO.nil ?_
        refine thenL_n ?_
        obtain rfl := someI h
        exact ⟨_, rfl, ⟨S32, v31, rfl, rfl, (Cov.cons rfl (Cov.cons rfl (Cov.cons rfl (Cov.cons rfl (Cov.cons rfl (Cov.cons rfl (Cov.nil _))))))), hot0, hot1, ho34⟩⟩
    · have h := iteF q13 h
      refine WC.exit ?_
      refine thenL_e ?_
      refine thenL_e ?_
      obtain rfl := someI h
      exact ⟨_, rfl, rfl, ⟨S10, v11, rfl, rfl, (Cov.cons rfl (Cov.cons rfl (Cov.nil _))), ho7⟩⟩
  cases b35 with
  | inl b37 =>
    simp only at h
    rintro _ _ _ _ ⟨rfl, ⟨S38, v39, rfl, rfl, hc40, ho7⟩⟩
    refine blockL_s ?_
    refine thenL_n ?_
    refine WC.cov hc40 ?_
    refine WC.seq ?_
    refine WC.region ?_
    refine WO.mv rfl ?_
    refine WO.mv rfl ?_
    refine WO.asg rfl ?_
    refine WO.asg rfl ?_
    refine WO.asg rfl ?_
    refine WO.nil ?_
    refine thenL_n ?_
    refine WC.ret ?_
    obtain rfl := someI h
    exact ⟨.inr rfl, _, _, rfl, rfl, ⟨v39, rfl, (ho7.fr Lay.flat_fl)⟩⟩
  | inr b37 =>
    simp only at h
    rintro _ _ _ _ ⟨rfl, ⟨S41, v42, rfl, rfl, hc43, ho4⟩⟩
    refine blockL_r ?_
    refine thenL_r ?_
    obtain rfl := someI h
    exact ⟨.inr rfl, _, _, (resK_cov hc43 rfl), rfl, ⟨v42, rfl, (ho4.fr Lay.flat_fl)⟩⟩
end Go.Proofs.Ytdkmepeolmdccaa

/- The machine answers F26: printed by a program of ours (gen.py). -/
import Derived.Test.YtdkmepeolmdccaaDef
import Derived.Test.YtdkmepeolmdccaaEnv
import Derived.Test.YtdkmepeolmdccaaF24
import Derived.Test.YtdkmepeolmdccaaF28
set_option linter.unusedVariables false
namespace Go.Proofs.Ytdkmepeolmdccaa
open Go.Am
theorem F26.fn : E.fn 26 = some ⟨46, (Try.f26.body.getD .skip), Try.f26.results.toList, []⟩ := rfl
theorem F26_ok {F : Nat} {m : Mem} {n : Nat} {r : (List Int) × Int} {t0 : List Int} {t1 : List Int} {vt0 : SV} {vt1 : SV} (h : F26 F t0 t1 = some r) (kt0 : Vw Y3 n m vt0 t0) (kt1 : Vw Y3 n m vt1 t1) : Ret E n 26 [.sc vt0, .sc vt1] m n (fun v m' n' => ∃ w, v = .tup [.sc w, .sc (.int .i64 r.2)] ∧ Fr Y3 n m' n' w r.1) := by
  unfold F26 at h
  refine Ret.walk F26.fn ?_
  refine WC.start fun S0 em en hz => ?_
  have hot0 := kt0.rdS em hz
  have hot1 := kt1.rdS em hz
  refine WC.seq ?_
  refine WC.region ?_
  refine WO.asg rfl ?_
  refine WO.asg rfl ?_
  refine WO.nil ?_
  refine thenL_n ?_
  refine WC.seq ?_
  refine WC.seq ?_
  refine WC.region ?_
  refine WO.mv rfl ?_
  obtain ⟨r1, e2, h⟩ := bindS h
  refine WO.callE (S := S0) rfl rfl (F28_ok e2 hot0.vw) (fun S3 c4 => ?_)
  have hot0 := hot0.to c4
  have hot1 := hot1.to c4
  refine WO.asg rfl ?_
  refine WO.nil ?_
  refine thenL_n ?_
  refine WC.seq ?_
  refine WC.region ?_
  refine WO.mv rfl ?_
  refine WO.bin rfl rfl (by decide) (by decide) rfl ?_
  refine WO.nil ?_
  refine thenL_n ?_
  refine WC.cond rfl (fun q5 => ?_) (fun q5 => ?_)
  · have h := iteT q5 h
    refine WC.seq ?_
    refine WC.region ?_
    refine WO.mv rfl ?_
    refine WO.asg rfl ?_
    refine WO.asg rfl ?_
    refine WO.nil ?_
    refine thenL_n ?_
    refine WC.ret ?_
    refine thenL_r ?_
    obtain rfl := someI h
    exact ⟨.inr rfl, _, _, rfl, rfl, ⟨.nils, rfl, Fr.nil⟩⟩
  · have h := iteF q5 h
    refine WC.skip ?_
    refine thenL_n ?_
    refine WC.seq ?_
    refine WC.seq ?_
    refine WC.region ?_
    refine WO.mv rfl ?_
    refine WO.lenS rfl hot1.slv rfl ?_
    refine WO.bin rfl rfl (by decide) (by decide) rfl ?_
    refine WO.nil ?_
    refine thenL_n ?_
    refine WC.cond rfl (fun q6 => ?_) (fun q6 => ?_)
    · have h := iteT q6 h
      refine WC.seq ?_
      refine WC.region ?_
      refine WO.asg rfl ?_
      refine WO.asg rfl ?_
      refine WO.nil ?_
      refine thenL_n ?_
      refine WC.ret ?_
      refine thenL_r ?_
      obtain rfl := someI h
      exact ⟨.inr rfl, _, _, rfl, rfl, ⟨.nils, rfl, Fr.nil⟩⟩
    · have h := iteF q6 h
      refine WC.skip ?_
      refine thenL_n ?_
      refine WC.seq ?_
      refine WC.region ?_
      refine WO.mv rfl ?_
      refine WO.lenS rfl hot0.slv rfl ?_
      obtain ⟨L7, e8, h⟩ := bindS h
      refine WO.mkS (A := Y3) (S := S3) 2 rfl rfl e8 rfl rfl rfl (fun v9 S10 c11 ho12 => ?_)
      have hot0 := hot0.to c11
      have hot1 := hot1.to c11
      refine WO.asg rfl ?_
      refine WO.nil ?_
      refine thenL_n ?_
      refine WC.seq ?_
      refine WC.seq ?_
      refine WC.region ?_
      refine WO.mv rfl ?_
      refine WO.lenS rfl hot1.slv rfl ?_
      refine WO.mv rfl ?_
      refine WO.nil ?_
      refine thenL_n ?_
      refine WC.block ?_
      obtain ⟨b35, e36, h⟩ := bindS h
      refine WC.loopD e36 (fun s13 l' m' n' => ∃ S14 : Cx n, S14.m = m' ∧ S14.n = n' ∧ Cov l' [(0, .sc vt0), (7, .sc v9), (23, .sc vt1), (24, .sc (.int .i64 ((t1.length : Int)))), (25, .sc (.int .i64 s13.1))] ∧ Rd Y3 S14 vt0 t0 ∧ Ow Y3 S14 2 v9 s13.2 ∧ Rd Y3 S14 vt1 t1) (fun b e l' m' n' => (match b with | .inl b15 => e = .exit 0 ∧ ∃ S16 : Cx n, S16.m = m' ∧ S16.n = n' ∧ Cov l' [(7, .sc v9)] ∧ Ow Y3 S16 2 v9 b15 | .inr b15 => e = .ret ∧ ∃ S17 : Cx n, ∃ v18 : SV, S17.m = m' ∧ S17.n = n' ∧ Cov l' [(4, .sc v18), (5, .sc (.int .i64 b15.2))] ∧ Ow Y3 S17 3 v18 b15.1)) (by exact ⟨S10, rfl, rfl, (Cov.cons rfl (Cov.cons rfl (Cov.cons rfl (Cov.cons rfl (Cov.cons rfl (Cov.nil _)))))), hot0, ho12, hot1⟩) ?_ ?_
      · clear h
        rintro s13 q _ _ _ ⟨S19, rfl, rfl, hc20, hot0, ho12, hot1⟩ h
        unfold F26_l0 at h
        refine WC.cov hc20 ?_
        refine WC.seq ?_
        refine WC.region ?_
        refine WO.bin rfl rfl (by decide) (by decide) rfl ?_
        refine WO.nil ?_
        refine thenL_n ?_
        refine WC.seq ?_
        refine WC.cond rfl (fun q21 => ?_) (fun q21 => ?_)
        · have h := iteT q21 h
          refine WC.skip ?_
          refine thenL_n ?_
          refine WC.seq ?_
          refine WC.block ?_
          refine WC.seq ?_
          refine WC.region ?_
          obtain ⟨x22, e23, h⟩ := bindS h
          refine WO.ixS rfl rfl hot1.slv (at?_lt e23) rfl ?_
          refine WO.ldF rfl hot1.ro (fun _ hi => hi) (at?_get e23) rfl rfl rfl ?_
          refine WO.asg rfl ?_
          refine WO.nil ?_
          refine thenL_n ?_
          refine WC.seq ?_
          refine WC.region ?_
          refine WO.mv rfl ?_
          refine WO.mv rfl ?_
          obtain ⟨r24, e25, h⟩ := bindS h
          refine WO.callE (S := S19) rfl rfl (F24_ok e25 hot0.vw) (fun S26 c27 => ?_)
          have hot0 := hot0.to c27
          have ho12 := ho12.to c27
          have hot1 := hot1.to c27
          refine WO.mv rfl ?_
          refine WO.do rfl rfl ?_
          refine WO.do rfl rfl ?_
          refine WO.asg rfl ?_
          refine WO.asg rfl ?_
          refine WO.nil ?_
          refine thenL_n ?_
          refine WC.seq ?_
          refine WC.seq ?_
          refine WC.region ?_
          refine WO.mv rfl ?_
          refine WO.bin rfl rfl (by decide) (by decide) rfl ?_
          refine WO.nil ?_
          refine thenL_n ?_
          refine WC.cond rfl (fun q28 => ?_) (fun q28 => ?_)
          · have h := iteT q28 h
            refine WC.seq ?_
            refine WC.region ?_
            refine WO.mv rfl ?_
            refine WO.asg rfl ?_
            refine WO.asg rfl ?_
            refine WO.nil ?_
            refine thenL_n ?_
            refine WC.ret ?_
            refine thenL_r ?_
            refine blockL_r ?_
            refine thenL_r ?_
            refine thenL_r ?_
            obtain rfl := someI h
            exact ⟨_, rfl, rfl, ⟨S26, .nils, rfl, rfl, (Cov.cons rfl (Cov.cons rfl (Cov.nil _))), Ow.nil⟩⟩
          · have h := iteF q28 h
            refine WC.skip ?_
            refine thenL_n ?_
            refine WC.region ?_
            refine WO.mv rfl ?_
            refine WO.mv rfl ?_
            obtain ⟨x29, e30, h⟩ := bindS h
            refine WO.ixS rfl rfl ho12.slv (at?_lt e30) rfl ?_
            refine WO.ldF rfl ho12.ro (fun _ hi => hi) (at?_get e30) rfl rfl rfl ?_
            refine WO.bin rfl rfl (by decide) (by decide) rfl ?_
            obtain ⟨u31, e32, h⟩ := bindS h
            refine WO.ixS rfl rfl ho12.slv (ck_some e32) rfl ?_
            refine WO.st1 (u' := (wrapA .i64 (x29 + 1))) rfl rfl ho12 (ck_nat e32) rfl rfl (fun S33 c34 ho12 => ?_)
            have hot0 := hot0.to c34
            have hot1 := hot1.to c34
            refine WO.nil ?_
            refine blockL_n ?_
            refine thenL_n ?_
            refine WC.region ?_
            refine WO.bin rfl rfl (by decide) (by decide) rfl ?_
            refine WO.mv rfl ?_
            refine WO.nil ?_
            refine thenL_n ?_
            obtain rfl := someI h
            exact ⟨_, rfl, ⟨S33, rfl, rfl, (Cov.cons rfl (Cov.cons rfl (Cov.cons rfl (Cov.cons rfl (Cov.cons rfl (Cov.nil _)))))), hot0, ho12, hot1⟩⟩
        · have h := iteF q21 h
          refine WC.exit ?_
          refine thenL_e ?_
          refine thenL_e ?_
          obtain rfl := someI h
          exact ⟨_, rfl, rfl, ⟨S19, rfl, rfl, (Cov.cons rfl (Cov.nil _)), ho12⟩⟩
      cases b35 with
      | inl b37 =>
        simp only at h
        rintro _ _ _ _ ⟨rfl, ⟨S38, rfl, rfl, hc39, ho12⟩⟩
        refine blockL_s ?_
        refine thenL_n ?_
        refine WC.cov hc39 ?_
        refine WC.seq ?_
        refine WC.region ?_
        refine WO.mv rfl ?_
        refine WO.asg rfl ?_
        refine WO.asg rfl ?_
        refine WO.nil ?_
        refine thenL_n ?_
        refine WC.ret ?_
        obtain rfl := someI h
        exact ⟨.inr rfl, _, _, rfl, rfl, ⟨v9, rfl, (ho12.fr Lay.flat_fl)⟩⟩
      | inr b37 =>
        simp only at h
        rintro _ _ _ _ ⟨rfl, ⟨S40, v41, rfl, rfl, hc42, ho4⟩⟩
        refine blockL_r ?_
        refine thenL_r ?_
        obtain rfl := someI h
        exact ⟨.inr rfl, _, _, (resK_cov hc42 rfl), rfl, ⟨v41, rfl, (ho4.fr Lay.flat_fl)⟩⟩
end Go.Proofs.Ytdkmepeolmdccaa

/- The machine answers F73: printed by a program of ours (gen.py). -/
import Derived.Test.YtdkmepeolmdccaaDef
import Derived.Test.YtdkmepeolmdccaaEnv
import Derived.Test.YtdkmepeolmdccaaF77
set_option linter.unusedVariables false
namespace Go.Proofs.Ytdkmepeolmdccaa
open Go.Am
theorem F73.fn : E.fn 73 = some ⟨36, (Try.f73.body.getD .skip), Try.f73.results.toList, []⟩ := rfl
theorem F73_ok {F : Nat} {m : Mem} {n : Nat} {r : (List Int) × Int} {t0 : List Int} {vt0 : SV} (h : F73 F t0 = some r) (kt0 : Vw Y3 n m vt0 t0) : Ret E n 73 [.sc vt0] m n (fun v m' n' => ∃ w, v = .tup [.sc w, .sc (.int .i64 r.2)] ∧ Fr Y3 n m' n' w r.1) := by
  unfold F73 at h
  refine Ret.walk F73.fn ?_
  refine WC.start fun S0 em en hz => ?_
  have hot0 := kt0.rdS em hz
  refine WC.seq ?_
  refine WC.region ?_
  refine WO.asg rfl ?_
  refine WO.asg rfl ?_
  refine WO.nil ?_
  refine thenL_n ?_
  refine WC.seq ?_
  refine WC.seq ?_
  refine WC.region ?_
  refine WO.mv rfl ?_
  obtain ⟨r1, e2, h⟩ := bindS h
  refine WO.callE (S := S0) rfl rfl (F77_ok e2 hot0.vw) (fun S3 c4 => ?_)
  have hot0 := hot0.to c4
  refine WO.asg rfl ?_
  refine WO.nil ?_
  refine thenL_n ?_
  refine WC.seq ?_
  refine WC.region ?_
  refine WO.mv rfl ?_
  refine WO.bin rfl rfl (by decide) (by decide) rfl ?_
  refine WO.nil ?_
  refine thenL_n ?_
  refine WC.cond rfl (fun q5 => ?_) (fun q5 => ?_)
  · have h := iteT q5 h
    refine WC.seq ?_
    refine WC.region ?_
    refine WO.mv rfl ?_
    refine WO.asg rfl ?_
    refine WO.asg rfl ?_
    refine WO.nil ?_
    refine thenL_n ?_
    refine WC.ret ?_
    refine thenL_r ?_
    obtain rfl := someI h
    exact ⟨.inr rfl, _, _, rfl, rfl, ⟨.nils, rfl, Fr.nil⟩⟩
  · have h := iteF q5 h
    refine WC.skip ?_
    refine thenL_n ?_
    refine WC.seq ?_
    refine WC.region ?_
    refine WO.mv rfl ?_
    refine WO.lenS rfl hot0.slv rfl ?_
    obtain ⟨L6, e7, h⟩ := bindS h
    refine WO.mkS (A := Y3) (S := S3) 2 rfl rfl e7 rfl rfl rfl (fun v8 S9 c10 ho11 => ?_)
    have hot0 := hot0.to c10
    refine WO.asg rfl ?_
    refine WO.nil ?_
    refine thenL_n ?_
    refine WC.seq ?_
    refine WC.seq ?_
    refine WC.region ?_
    refine WO.mv rfl ?_
    refine WO.lenS rfl hot0.slv rfl ?_
    refine WO.mv rfl ?_
    refine WO.nil ?_
    refine thenL_n ?_
    refine WC.block ?_
    obtain ⟨b30, e31, h⟩ := bindS h
    refine WC.loopD e31 (fun s12 l' m' n' => ∃ S13 : Cx n, S13.m = m' ∧ S13.n = n' ∧ Cov l' [(5, .sc v8), (16, .sc vt0), (17, .sc (.int .i64 ((t0.length : Int)))), (18, .sc (.int .i64 s12.1))] ∧ Ow Y3 S13 2 v8 s12.2 ∧ Rd Y3 S13 vt0 t0) (fun b e l' m' n' => e = .exit 0 ∧ ∃ S14 : Cx n, S14.m = m' ∧ S14.n = n' ∧ Cov l' [(5, .sc v8)] ∧ Ow Y3 S14 2 v8 b) (by exact ⟨S9, rfl, rfl, (Cov.cons rfl (Cov.cons rfl (Cov.cons rfl (Cov.cons rfl (Cov.nil _))))), ho11, hot0⟩) ?_ ?_
    · clear h
      rintro s12 q _ _ _ ⟨S15, rfl, rfl, hc16, ho11, hot0⟩ h
      unfold F73_l0 at h
      refine WC.cov hc16 ?_
      refine WC.seq ?_
      refine WC.region ?_
      refine WO.bin rfl rfl (by decide) (by decide) rfl ?_
      refine WO.nil ?_
      refine thenL_n ?_
      refine WC.seq ?_
      refine WC.cond rfl (fun q17 => ?_) (fun q17 => ?_)
      · have h := iteT q17 h
        refine WC.skip ?_
        refine thenL_n ?_
        refine WC.seq ?_
        refine WC.block ?_
        refine WC.seq ?_
        refine WC.region ?_
        refine WO.mv rfl ?_
        obtain ⟨x18, e19, h⟩ := bindS h
        refine WO.ixS rfl rfl hot0.slv (at?_lt e19) rfl ?_
        refine WO.ldF rfl hot0.ro (fun _ hi => hi) (at?_get e19) rfl rfl rfl ?_
        refine WO.asg rfl ?_
        refine WO.asg rfl ?_
        refine WO.nil ?_
        refine thenL_n ?_
        refine WC.seq ?_
        refine WC.region ?_
        refine WO.mv rfl ?_
        refine WO.mv rfl ?_
        refine WO.mv rfl ?_
        refine WO.mv rfl ?_
        obtain ⟨x20, e21, h⟩ := bindS h
        refine WO.ixS rfl rfl ho11.slv (at?_lt e21) rfl ?_
        refine WO.ldF rfl ho11.ro (fun _ hi => hi) (at?_get e21) rfl rfl rfl ?_
        obtain ⟨u22, e23, h⟩ := bindS h
        refine WO.ixS rfl rfl ho11.slv (ck_some e23) rfl ?_
        refine WO.st1 (u' := x20) rfl rfl ho11 (ck_nat e23) rfl rfl (fun S24 c25 ho11 => ?_)
        have hot0 := hot0.to c25
        refine WO.nil ?_
        refine thenL_n ?_
        refine WC.region ?_
        refine WO.mv rfl ?_
        refine WO.mv rfl ?_
        refine WO.mv rfl ?_
        obtain ⟨u26, e27, h⟩ := bindS h
        refine WO.ixS rfl rfl ho11.slv (ck_some e27) rfl ?_
        refine WO.st1 (u' := s12.1) rfl rfl ho11 (ck_nat e27) rfl rfl (fun S28 c29 ho11 => ?_)
        have hot0 := hot0.to c29
        refine WO.nil ?_
        refine blockL_n ?_
        refine thenL_n ?_
        refine WC.region ?_
        refine WO.bin rfl rfl (by decide) (by decide) rfl ?_
        refine WO.mv rfl ?_
        refine WO.nil ?_
        refine thenL_n ?_
        obtain rfl := someI h
        exact ⟨_, rfl, ⟨S28, rfl, rfl, (Cov.cons rfl (Cov.cons rfl (Cov.cons rfl (Cov.cons rfl (Cov.nil _))))), ho11, hot0⟩⟩
      · have h := iteF q17 h
        refine WC.exit ?_
        refine thenL_e ?_
        refine thenL_e ?_
        obtain rfl := someI h
        exact ⟨_, rfl, rfl, ⟨S15, rfl, rfl, (Cov.cons rfl (Cov.nil _)), ho11⟩⟩
    rintro _ _ _ _ ⟨rfl, ⟨S32, rfl, rfl, hc33, ho11⟩⟩
    refine blockL_s ?_
    refine thenL_n ?_
    refine WC.cov hc33 ?_
    refine WC.seq ?_
    refine WC.region ?_
    refine WO.mv rfl ?_
    refine WO.asg rfl ?_
    refine WO.asg rfl ?_
    refine WO.nil ?_
    refine thenL_n ?_
    refine WC.ret ?_
    obtain rfl := someI h
    exact ⟨.inr rfl, _, _, rfl, rfl, ⟨v8, rfl, (ho11.fr Lay.flat_fl)⟩⟩
end Go.Proofs.Ytdkmepeolmdccaa

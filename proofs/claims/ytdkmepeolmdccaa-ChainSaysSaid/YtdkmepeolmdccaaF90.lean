/- The machine answers F90: printed by a program of ours (gen.py). -/
import Derived.Test.YtdkmepeolmdccaaDef
import Derived.Test.YtdkmepeolmdccaaEnv
import Derived.Test.YtdkmepeolmdccaaF152
import Derived.Test.YtdkmepeolmdccaaF93
set_option linter.unusedVariables false
namespace Go.Proofs.Ytdkmepeolmdccaa
open Go.Am
theorem F90.fn : E.fn 90 = some ⟨39, (Try.f90.body.getD .skip), Try.f90.results.toList, []⟩ := rfl
theorem F90_ok {F : Nat} {m : Mem} {n : Nat} {r : (List Int) × Int} {t0 : List (List Int)} {vt0 : SV} (h : F90 F t0 = some r) (kt0 : Vw Y22 n m vt0 t0) : Ret E n 90 [.sc vt0] m n (fun v m' n' => ∃ w, v = .tup [.sc w, .sc (.int .i64 r.2)] ∧ Fr Y3 n m' n' w r.1) := by
  unfold F90 at h
  refine Ret.walk F90.fn ?_
  refine WC.start fun S0 em en hz => ?_
  have hot0 := kt0.rdS em hz
  refine WC.seq ?_
  refine WC.region ?_
  refine WO.asg rfl ?_
  refine WO.asg rfl ?_
  refine WO.nil ?_
  refine thenL_n ?_
  refine WC.seq ?_
  refine WC.seq ?_
  refine WC.region ?_
  refine WO.mv rfl ?_
  obtain ⟨r1, e2, h⟩ := bindS h
  refine WO.callE (S := S0) rfl rfl (F93_ok e2 hot0.vw) (fun S3 c4 => ?_)
  have hot0 := hot0.to c4
  refine WO.asg rfl ?_
  refine WO.nil ?_
  refine thenL_n ?_
  refine WC.seq ?_
  refine WC.region ?_
  refine WO.mv rfl ?_
  refine WO.bin rfl rfl (by decide) (by decide) rfl ?_
  refine WO.nil ?_
  refine thenL_n ?_
  refine WC.cond rfl (fun q5 => ?_) (fun q5 => ?_)
  · have h := iteT q5 h
    refine WC.seq ?_
    refine WC.region ?_
    refine WO.mv rfl ?_
    refine WO.asg rfl ?_
    refine WO.asg rfl ?_
    refine WO.nil ?_
    refine thenL_n ?_
    refine WC.ret ?_
    refine thenL_r ?_
    obtain rfl := someI h
    exact ⟨.inr rfl, _, _, rfl, rfl, ⟨.nils, rfl, Fr.nil⟩⟩
  · have h := iteF q5 h
    refine WC.skip ?_
    refine thenL_n ?_
    refine WC.seq ?_
    refine WC.region ?_
    refine WO.mv rfl ?_
    refine WO.lenS rfl hot0.slv rfl ?_
    obtain ⟨L6, e7, h⟩ := bindS h
    refine WO.mkS (A := Y3) (S := S3) 2 rfl rfl e7 rfl rfl rfl (fun v8 S9 c10 ho11 => ?_)
    have hot0 := hot0.to c10
    refine WO.asg rfl ?_
    refine WO.nil ?_
    refine thenL_n ?_
    refine WC.seq ?_
    refine WC.region ?_
    refine WO.asg rfl ?_
    refine WO.nil ?_
    refine thenL_n ?_
    refine WC.seq ?_
    refine WC.seq ?_
    refine WC.region ?_
    refine WO.mv rfl ?_
    refine WO.lenS rfl hot0.slv rfl ?_
    refine WO.mv rfl ?_
    refine WO.nil ?_
    refine thenL_n ?_
    refine WC.block ?_
    obtain ⟨b31, e32, h⟩ := bindS h
    refine WC.loopD e32 (fun s12 l' m' n' => ∃ S13 : Cx n, S13.m = m' ∧ S13.n = n' ∧ Cov l' [(0, .sc vt0), (5, .sc v8), (6, .sc (.bool s12.1)), (17, .sc (.int .i64 ((t0.length : Int)))), (18, .sc (.int .i64 s12.2.1))] ∧ Rd Y22 S13 vt0 t0 ∧ Ow Y3 S13 2 v8 s12.2.2) (fun b e l' m' n' => e = .exit 0 ∧ ∃ S14 : Cx n, S14.m = m' ∧ S14.n = n' ∧ Cov l' [(5, .sc v8), (6, .sc (.bool b.1))] ∧ Ow Y3 S14 2 v8 b.2) (by exact ⟨S9, rfl, rfl, (Cov.cons rfl (Cov.cons rfl (Cov.cons rfl (Cov.cons rfl (Cov.cons rfl (Cov.nil _)))))), hot0, ho11⟩) ?_ ?_
    · clear h
      rintro s12 q _ _ _ ⟨S15, rfl, rfl, hc16, hot0, ho11⟩ h
      unfold F90_l0 at h
      refine WC.cov hc16 ?_
      refine WC.seq ?_
      refine WC.region ?_
      refine WO.bin rfl rfl (by decide) (by decide) rfl ?_
      refine WO.nil ?_
      refine thenL_n ?_
      refine WC.seq ?_
      refine WC.cond rfl (fun q17 => ?_) (fun q17 => ?_)
      · have h := iteT q17 h
        refine WC.skip ?_
        refine thenL_n ?_
        refine WC.seq ?_
        refine WC.block ?_
        refine WC.seq ?_
        refine WC.region ?_
        refine WO.mv rfl ?_
        refine WO.asg rfl ?_
        refine WO.nil ?_
        refine thenL_n ?_
        refine WC.seq ?_
        refine WC.region ?_
        refine WO.mv rfl ?_
        refine WO.mv rfl ?_
        refine WO.mv rfl ?_
        refine WO.mv rfl ?_
        obtain ⟨r18, e19, h⟩ := bindS h
        refine WO.callE (S := S15) rfl rfl (F152_ok e19 hot0.vw) (fun S20 c21 => ?_)
        have hot0 := hot0.to c21
        have ho11 := ho11.to c21
        obtain ⟨u22, e23, h⟩ := bindS h
        refine WO.ixS rfl rfl ho11.slv (ck_some e23) rfl ?_
        refine WO.st1 (u' := r18) rfl rfl ho11 (ck_nat e23) rfl rfl (fun S24 c25 ho11 => ?_)
        have hot0 := hot0.to c25
        refine WO.nil ?_
        refine thenL_n ?_
        refine WC.region ?_
        refine WO.mv rfl ?_
        refine WO.mv rfl ?_
        obtain ⟨y29, e30, h⟩ := bindS h
        refine WO.cutB (d := 34) 6 y29 (fun q28 => ?_) (fun q28 => ?_) ?_
        · have h := e30
          have h := iteT q28 h
          obtain rfl := someI h
          refine WO.gno rfl rfl ?_
          refine WO.gno rfl rfl ?_
          refine WO.gno rfl rfl ?_
          refine WO.gno rfl rfl ?_
          refine WO.gno rfl rfl ?_
          refine WO.pickT rfl rfl ?_
          refine WO.nil ?_
          exact ⟨rfl, rfl, (Cov.cons rfl (Cov.skip rfl (Cov.skip rfl (Cov.skip rfl (Cov.skip rfl (Cov.skip rfl (Cov.skip rfl (Cov.skip rfl (Cov.refl _)))))))))⟩
        · have h := e30
          have h := iteF q28 h
          refine WO.gyes rfl rfl ?_
          refine WO.mv rfl ?_
          refine WO.gyes rfl rfl ?_
          refine WO.mv rfl ?_
          refine WO.gyes rfl rfl ?_
          obtain ⟨x26, e27, h⟩ := bindS h
          refine WO.ixS rfl rfl ho11.slv (at?_lt e27) rfl ?_
          refine WO.gyes rfl rfl ?_
          refine WO.ldF rfl ho11.ro (fun _ hi => hi) (at?_get e27) rfl rfl rfl ?_
          refine WO.gyes rfl rfl ?_
          refine WO.bin rfl rfl (by decide) (by decide) rfl ?_
          obtain rfl := someI h
          refine WO.pickF rfl rfl ?_
          refine WO.nil ?_
          exact ⟨rfl, rfl, (Cov.cons rfl (Cov.skip rfl (Cov.skip rfl (Cov.skip rfl (Cov.skip rfl (Cov.skip rfl (Cov.skip rfl (Cov.skip rfl (Cov.refl _)))))))))⟩
        refine WO.asg rfl ?_
        refine WO.nil ?_
        refine blockL_n ?_
        refine thenL_n ?_
        refine WC.region ?_
        refine WO.bin rfl rfl (by decide) (by decide) rfl ?_
        refine WO.mv rfl ?_
        refine WO.nil ?_
        refine thenL_n ?_
        obtain rfl := someI h
        exact ⟨_, rfl, ⟨S24, rfl, rfl, (Cov.cons rfl (Cov.cons rfl (Cov.cons rfl (Cov.cons rfl (Cov.cons rfl (Cov.nil _)))))), hot0, ho11⟩⟩
      · have h := iteF q17 h
        refine WC.exit ?_
        refine thenL_e ?_
        refine thenL_e ?_
        obtain rfl := someI h
        exact ⟨_, rfl, rfl, ⟨S15, rfl, rfl, (Cov.cons rfl (Cov.cons rfl (Cov.nil _))), ho11⟩⟩
    rintro _ _ _ _ ⟨rfl, ⟨S33, rfl, rfl, hc34, ho11⟩⟩
    refine blockL_s ?_
    refine thenL_n ?_
    refine WC.cov hc34 ?_
    refine WC.seq ?_
    refine WC.seq ?_
    refine WC.region ?_
    refine WO.mv rfl ?_
    refine WO.do rfl rfl ?_
    refine WO.nil ?_
    refine thenL_n ?_
    refine WC.cond rfl (fun q35 => ?_) (fun q35 => ?_)
    · have h := iteT q35 h
      refine WC.seq ?_
      refine WC.region ?_
      refine WO.asg rfl ?_
      refine WO.asg rfl ?_
      refine WO.nil ?_
      refine thenL_n ?_
      refine WC.ret ?_
      refine thenL_r ?_
      obtain rfl := someI h
      exact ⟨.inr rfl, _, _, rfl, rfl, ⟨.nils, rfl, Fr.nil⟩⟩
    · have h := iteF q35 h
      refine WC.skip ?_
      refine thenL_n ?_
      refine WC.seq ?_
      refine WC.region ?_
      refine WO.mv rfl ?_
      refine WO.asg rfl ?_
      refine WO.asg rfl ?_
      refine WO.nil ?_
      refine thenL_n ?_
      refine WC.ret ?_
      obtain rfl := someI h
      exact ⟨.inr rfl, _, _, rfl, rfl, ⟨v8, rfl, (ho11.fr Lay.flat_fl)⟩⟩
end Go.Proofs.Ytdkmepeolmdccaa

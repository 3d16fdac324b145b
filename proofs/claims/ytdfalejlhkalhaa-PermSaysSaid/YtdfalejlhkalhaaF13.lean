/- The machine answers F13: printed by a program of ours (gen.py). -/
import Derived.Test.YtdfalejlhkalhaaDef
import Derived.Test.YtdfalejlhkalhaaEnv
import Derived.Test.YtdfalejlhkalhaaF18
set_option linter.unusedVariables false
namespace Go.Proofs.Ytdfalejlhkalhaa
open Go.Am
theorem F13.fn : E.fn 13 = some ⟨29, (Try.f13.body.getD .skip), Try.f13.results.toList, []⟩ := rfl
theorem F13_ok {F : Nat} {m : Mem} {n : Nat} {r : (List Int) × Int} {t0 : List Int} {vt0 : SV} (h : F13 F t0 = some r) (kt0 : Vw Y3 n m vt0 t0) : Ret E n 13 [.sc vt0] m n (fun v m' n' => ∃ w, v = .tup [.sc w, .sc (.int .i64 r.2)] ∧ Fr Y3 n m' n' w r.1) := by
  unfold F13 at h
  refine Ret.walk F13.fn ?_
  refine WC.start fun S0 em en hz => ?_
  have hot0 := kt0.rdS em hz
  refine WC.seq ?_
  refine WC.region ?_
  refine WO.asg rfl ?_
  refine WO.asg rfl ?_
  refine WO.nil ?_
  refine thenL_n ?_
  refine WC.seq ?_
  refine WC.seq ?_
  refine WC.region ?_
  refine WO.mv rfl ?_
  obtain ⟨r1, e2, h⟩ := bindS h
  refine WO.callE (S := S0) rfl rfl (F18_ok e2 hot0.vw) (fun S3 c4 => ?_)
  have hot0 := hot0.to c4
  refine WO.asg rfl ?_
  refine WO.nil ?_
  refine thenL_n ?_
  refine WC.seq ?_
  refine WC.region ?_
  refine WO.mv rfl ?_
  refine WO.bin rfl rfl (by decide) (by decide) rfl ?_
  refine WO.nil ?_
  refine thenL_n ?_
  refine WC.cond rfl (fun q5 => ?_) (fun q5 => ?_)
  · have h := iteT q5 h
    refine WC.seq ?_
    refine WC.region ?_
    refine WO.mv rfl ?_
    refine WO.asg rfl ?_
    refine WO.asg rfl ?_
    refine WO.nil ?_
    refine thenL_n ?_
    refine WC.ret ?_
    refine thenL_r ?_
    obtain rfl := someI h
    exact ⟨.inr rfl, _, _, rfl, rfl, ⟨.nils, rfl, Fr.nil⟩⟩
  · have h := iteF q5 h
    refine WC.skip ?_
    refine thenL_n ?_
    refine WC.seq ?_
    refine WC.region ?_
    refine WO.mv rfl ?_
    refine WO.lenS rfl hot0.slv rfl ?_
    obtain ⟨L6, e7, h⟩ := bindS h
    refine WO.mkS (A := Y3) (S := S3) 2 rfl rfl e7 rfl rfl rfl (fun v8 S9 c10 ho11 => ?_)
    have hot0 := hot0.to c10
    refine WO.asg rfl ?_
    refine WO.nil ?_
    refine thenL_n ?_
    refine WC.seq ?_
    refine WC.seq ?_
    refine WC.region ?_
    refine WO.mv rfl ?_
    refine WO.lenS rfl hot0.slv rfl ?_
    refine WO.mv rfl ?_
    refine WO.nil ?_
    refine thenL_n ?_
    refine WC.block ?_
    obtain ⟨b24, e25, h⟩ := bindS h
    refine WC.loopD e25 (fun s12 l' m' n' => ∃ S13 : Cx n, S13.m = m' ∧ S13.n = n' ∧ Cov l' [(5, .sc v8), (16, .sc vt0), (17, .sc (.int .i64 ((t0.length : Int)))), (18, .sc (.int .i64 s12.1))] ∧ Ow Y3 S13 2 v8 s12.2 ∧ Rd Y3 S13 vt0 t0) (fun b e l' m' n' => e = .exit 0 ∧ ∃ S14 : Cx n, S14.m = m' ∧ S14.n = n' ∧ Cov l' [(5, .sc v8)] ∧ Ow Y3 S14 2 v8 b) (by exact ⟨S9, rfl, rfl, (Cov.cons rfl (Cov.cons rfl (Cov.cons rfl (Cov.cons rfl (Cov.nil _))))), ho11, hot0⟩) ?_ ?_
    · clear h
      rintro s12 q _ _ _ ⟨S15, rfl, rfl, hc16, ho11, hot0⟩ h
      unfold F13_l0 at h
      refine WC.cov hc16 ?_
      refine WC.seq ?_
      refine WC.region ?_
      refine WO.bin rfl rfl (by decide) (by decide) rfl ?_
      refine WO.nil ?_
      refine thenL_n ?_
      refine WC.seq ?_
      refine WC.cond rfl (fun q17 => ?_) (fun q17 => ?_)
      · have h := iteT q17 h
        refine WC.skip ?_
        refine thenL_n ?_
        refine WC.seq ?_
        refine WC.block ?_
        refine WC.seq ?_
        refine WC.region ?_
        refine WO.mv rfl ?_
        obtain ⟨x18, e19, h⟩ := bindS h
        refine WO.ixS rfl rfl hot0.slv (at?_lt e19) rfl ?_
        refine WO.ldF rfl hot0.ro (fun _ hi => hi) (at?_get e19) rfl rfl rfl ?_
        refine WO.asg rfl ?_
        refine WO.asg rfl ?_
        refine WO.nil ?_
        refine thenL_n ?_
        refine WC.region ?_
        refine WO.mv rfl ?_
        refine WO.mv rfl ?_
        refine WO.mv rfl ?_
        obtain ⟨u20, e21, h⟩ := bindS h
        refine WO.ixS rfl rfl ho11.slv (ck_some e21) rfl ?_
        refine WO.st1 (u' := s12.1) rfl rfl ho11 (ck_nat e21) rfl rfl (fun S22 c23 ho11 => ?_)
        have hot0 := hot0.to c23
        refine WO.nil ?_
        refine blockL_n ?_
        refine thenL_n ?_
        refine WC.region ?_
        refine WO.bin rfl rfl (by decide) (by decide) rfl ?_
        refine WO.mv rfl ?_
        refine WO.nil ?_
        refine thenL_n ?_
        obtain rfl := someI h
        exact ⟨_, rfl, ⟨S22, rfl, rfl, (Cov.cons rfl (Cov.cons rfl (Cov.cons rfl (Cov.cons rfl (Cov.nil _))))), ho11, hot0⟩⟩
      · have h := iteF q17 h
        refine WC.exit ?_
        refine thenL_e ?_
        refine thenL_e ?_
        obtain rfl := someI h
        exact ⟨_, rfl, rfl, ⟨S15, rfl, rfl, (Cov.cons rfl (Cov.nil _)), ho11⟩⟩
    rintro _ _ _ _ ⟨rfl, ⟨S26, rfl, rfl, hc27, ho11⟩⟩
    refine blockL_s ?_
    refine thenL_n ?_
    refine WC.cov hc27 ?_
    refine WC.seq ?_
    refine WC.region ?_
    refine WO.mv rfl ?_
    refine WO.asg rfl ?_
    refine WO.asg rfl ?_
    refine WO.nil ?_
    refine thenL_n ?_
    refine WC.ret ?_
    obtain rfl := someI h
    exact ⟨.inr rfl, _, _, rfl, rfl, ⟨v8, rfl, (ho11.fr Lay.flat_fl)⟩⟩
end Go.Proofs.Ytdfalejlhkalhaa

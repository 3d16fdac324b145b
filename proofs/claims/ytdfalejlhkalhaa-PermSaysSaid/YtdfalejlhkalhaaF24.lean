/- The machine answers F24: printed by a program of ours (gen.py). -/
import Derived.Test.YtdfalejlhkalhaaDef
import Derived.Test.YtdfalejlhkalhaaEnv
import Derived.Test.YtdfalejlhkalhaaF20
import Derived.Test.YtdfalejlhkalhaaF21
import Derived.Test.YtdfalejlhkalhaaF34
set_option linter.unusedVariables false
namespace Go.Proofs.Ytdfalejlhkalhaa
open Go.Am
theorem F24.fn : E.fn 24 = some ⟨16, (Try.f24.body.getD .skip), Try.f24.results.toList, []⟩ := rfl
theorem F24_ok {F : Nat} {m : Mem} {n : Nat} {r : Int} {t0 : List Int} {vt0 : SV} (h : F24 F t0 = some r) (kt0 : Vw Y3 n m vt0 t0) : Ret E n 24 [.sc vt0] m n (fun v m' n' => v = .sc (.int .i64 r)) := by
  unfold F24 at h
  refine Ret.walk F24.fn ?_
  refine WC.start fun S0 em en hz => ?_
  have hot0 := kt0.rdS em hz
  refine WC.seq ?_
  refine WC.region ?_
  refine WO.asg rfl ?_
  refine WO.nil ?_
  refine thenL_n ?_
  refine WC.seq ?_
  refine WC.region ?_
  refine WO.mv rfl ?_
  obtain ⟨r1, e2, h⟩ := bindS h
  refine WO.callF (S := S0) 2 rfl rfl (F34_ok e2 hot0.vw) Lay.flat_fl (fun v3 S5 c6 ho4 => ?_)
  have hot0 := hot0.to c6
  refine WO.asg rfl ?_
  refine WO.asg rfl ?_
  refine WO.nil ?_
  refine thenL_n ?_
  refine WC.seq ?_
  refine WC.block ?_
  obtain ⟨b26, e27, h⟩ := bindS h
  have hot0 := hot0.drop 2
  have ho4 := ho4.freeze
  refine WC.loopD e27 (fun s7 l' m' n' => ∃ S9 : Cx n, ∃ v10 : SV, S9.m = m' ∧ S9.n = n' ∧ Cov l' [(0, .sc vt0), (3, .sc (.int .i64 s7.1)), (4, .sc v10)] ∧ Rd Y3 S9 vt0 t0 ∧ Rd Y3 S9 v10 s7.2) (fun b e l' m' n' => e = .exit 0 ∧ ∃ S11 : Cx n, S11.m = m' ∧ S11.n = n' ∧ Cov l' [(3, .sc (.int .i64 b))]) (by exact ⟨(S5.drop 2), v3, rfl, rfl, (Cov.cons rfl (Cov.cons rfl (Cov.cons rfl (Cov.nil _)))), hot0, ho4⟩) ?_ ?_
  · clear h
    rintro s7 q _ _ _ ⟨S12, v13, rfl, rfl, hc14, hot0, ho4⟩ h
    unfold F24_l0 at h
    refine WC.cov hc14 ?_
    refine WC.seq ?_
    refine WC.seq ?_
    refine WC.region ?_
    refine WO.mv rfl ?_
    obtain ⟨r15, e16, h⟩ := bindS h
    refine WO.callE (S := S12) rfl rfl (F20_ok e16 ho4.vw) (fun S17 c18 => ?_)
    have hot0 := hot0.to c18
    have ho4 := ho4.to c18
    refine WO.do rfl rfl ?_
    refine WO.nil ?_
    refine thenL_n ?_
    refine WC.cond rfl (fun q19 => ?_) (fun q19 => ?_)
    · have h := iteT q19 h
      refine WC.skip ?_
      refine thenL_n ?_
      refine WC.block ?_
      refine WC.region ?_
      refine WO.mv rfl ?_
      refine WO.bin rfl rfl (by decide) (by decide) rfl ?_
      refine WO.mv rfl ?_
      refine WO.mv rfl ?_
      obtain ⟨r20, e21, h⟩ := bindS h
      refine WO.callF (S := S17) 3 rfl rfl (F21_ok e21 hot0.vw ho4.vw) Lay.flat_fl (fun v22 S24 c25 ho23 => ?_)
      have hot0 := hot0.to c25
      have ho4 := ho4.to c25
      refine WO.asg rfl ?_
      refine WO.asg rfl ?_
      refine WO.nil ?_
      refine blockL_n ?_
      refine thenL_n ?_
      have hot0 := hot0.drop 3
      have ho23 := ho23.freeze
      obtain rfl := someI h
      exact ⟨_, rfl, ⟨(S24.drop 3), v22, rfl, rfl, (Cov.cons rfl (Cov.cons rfl (Cov.cons rfl (Cov.nil _)))), hot0, ho23⟩⟩
    · have h := iteF q19 h
      refine WC.exit ?_
      refine thenL_e ?_
      refine thenL_e ?_
      obtain rfl := someI h
      exact ⟨_, rfl, rfl, ⟨S17, rfl, rfl, (Cov.cons rfl (Cov.nil _))⟩⟩
  rintro _ _ _ _ ⟨rfl, ⟨S28, rfl, rfl, hc29⟩⟩
  refine blockL_s ?_
  refine thenL_n ?_
  refine WC.cov hc29 ?_
  refine WC.seq ?_
  refine WC.region ?_
  refine WO.mv rfl ?_
  refine WO.asg rfl ?_
  refine WO.nil ?_
  refine thenL_n ?_
  refine WC.ret ?_
  obtain rfl := someI h
  exact ⟨.inr rfl, _, _, rfl, rfl, rfl⟩
end Go.Proofs.Ytdfalejlhkalhaa

/- The machine answers F100: printed by a program of ours (gen.py). -/
import Derived.Test.YtihmliblbhjlaaaDef
import Derived.Test.YtihmliblbhjlaaaEnv
set_option linter.unusedVariables false
namespace Go.Proofs.Ytihmliblbhjlaaa
open Go.Am
theorem F100.fn : E.fn 100 = some ⟨24, (Try.f100.body.getD .skip), Try.f100.results.toList, []⟩ := rfl
theorem F100_ok {F : Nat} {fl : Nat} {S0 : Cx fl} {r : Int} {t0 : Int} {c0 : (List (Int × Int × Bool × Bool))} {c1 : (List Int)} {bc0 : Nat} {vc0_0 : SV} {bc1 : Nat} {vc1_0 : SV} (h : F100 F t0 c0 c1 = some r) (hoc0 : Rw S0 (.ptr bc0 0) [vc0_0]) (hoc0_0 : Rd Y115 S0 vc0_0 c0) (hoc1 : Rw S0 (.ptr bc1 0) [vc1_0]) (hoc1_0 : Rd Y3 S0 vc1_0 c1) : Ret E fl 100 [.sc (.int .i64 t0), .sc (.ptr bc0 0), .sc (.ptr bc1 0)] S0.m S0.n (fun v m' n' => ∃ S' : Cx fl, S'.m = m' ∧ S'.n = n' ∧ ChM S0 S' ∧ (v = .sc (.int .i64 r))) := by
  unfold F100 at h
  refine Ret.walk F100.fn ?_
  have hM := ChM.refl S0
  refine WC.seq ?_
  refine WC.region ?_
  refine WO.asg rfl ?_
  refine WO.nil ?_
  refine thenL_n ?_
  refine WC.seq ?_
  refine WC.seq ?_
  refine WC.region ?_
  refine WO.ldRw rfl hoc0.at0 hoc0 rfl rfl hoc0.lt rfl ?_
  refine WO.mv rfl ?_
  obtain ⟨x1, e2, h⟩ := bindS h
  refine WO.ixS rfl rfl hoc0_0.slv (at?_lt e2) rfl ?_
  refine WO.fldS rfl rfl (SlV.ptr hoc0_0.slv (at?_nat e2)) rfl rfl rfl (by decide) ?_
  refine WO.ldF rfl hoc0_0.ro (fun _ hi => hi) (at?_get e2) rfl rfl rfl ?_
  refine WO.nil ?_
  refine thenL_n ?_
  refine WC.cond rfl (fun q3 => ?_) (fun q3 => ?_)
  · have h := iteT q3 h
    refine WC.seq ?_
    refine WC.drawP rfl rfl ?_
    refine WO.ldRw rfl hoc1.at0 hoc1 rfl rfl hoc1.lt rfl ?_
    refine WO.mv rfl ?_
    obtain ⟨x4, e5, h⟩ := bindS h
    refine WO.ixS rfl rfl hoc1_0.slv (at?_lt e5) rfl ?_
    refine WO.ldF rfl hoc1_0.ro (fun _ hi => hi) (at?_get e5) rfl rfl rfl ?_
    refine WO.ldRw rfl hoc0.at0 hoc0 rfl rfl hoc0.lt rfl ?_
    refine WO.mv rfl ?_
    obtain ⟨x6, e7, h⟩ := bindS h
    refine WO.ixS rfl rfl hoc0_0.slv (at?_lt e7) rfl ?_
    refine WO.fldS rfl rfl (SlV.ptr hoc0_0.slv (at?_nat e7)) rfl rfl rfl (by decide) ?_
    refine WO.ldF rfl hoc0_0.ro (fun _ hi => hi) (at?_get e7) rfl rfl rfl ?_
    refine WO.bin rfl rfl (by decide) (by decide) rfl ?_
    refine WO.asg rfl ?_
    refine WO.nil ?_
    refine thenL_n ?_
    refine WC.ret ?_
    refine thenL_r ?_
    obtain rfl := someI h
    exact ⟨.inr rfl, _, _, rfl, rfl, ⟨S0, rfl, rfl, hM, rfl⟩⟩
  · have h := iteF q3 h
    refine WC.skip ?_
    refine thenL_n ?_
    refine WC.seq ?_
    refine WC.region ?_
    refine WO.ldRw rfl hoc1.at0 hoc1 rfl rfl hoc1.lt rfl ?_
    refine WO.mv rfl ?_
    obtain ⟨x8, e9, h⟩ := bindS h
    refine WO.ixS rfl rfl hoc1_0.slv (at?_lt e9) rfl ?_
    refine WO.ldF rfl hoc1_0.ro (fun _ hi => hi) (at?_get e9) rfl rfl rfl ?_
    refine WO.asg rfl ?_
    refine WO.nil ?_
    refine thenL_n ?_
    refine WC.ret ?_
    obtain rfl := someI h
    exact ⟨.inr rfl, _, _, rfl, rfl, ⟨S0, rfl, rfl, hM, rfl⟩⟩
end Go.Proofs.Ytihmliblbhjlaaa

/- The machine answers F105: printed by a program of ours (gen.py). -/
import Derived.Test.YtihmliblbhjlaaaDef
import Derived.Test.YtihmliblbhjlaaaEnv
set_option linter.unusedVariables false
namespace Go.Proofs.Ytihmliblbhjlaaa
open Go.Am
theorem F105.fn : E.fn 105 = some ⟨17, (Try.f105.body.getD .skip), Try.f105.results.toList, []⟩ := rfl
theorem F105_ok {F : Nat} {m : Mem} {n : Nat} {r : Bool} {t0 : List Int} {c0 : Int} {vt0 : SV} {bc0 : Nat} (h : F105 F t0 c0 = some r) (kt0 : Vw Y3 n m vt0 t0) (kc0 : Pv Y3 n m bc0 c0) : Ret E n 105 [.sc vt0, .sc (.ptr bc0 0)] m n (fun v m' n' => v = .sc (.bool r)) := by
  unfold F105 at h
  refine Ret.walk F105.fn ?_
  refine WC.start fun S0 em en hz => ?_
  have hot0 := kt0.rdS em hz
  have hoc0 := kc0.rpS em hz
  refine WC.seq ?_
  refine WC.region ?_
  refine WO.asg rfl ?_
  refine WO.nil ?_
  refine thenL_n ?_
  refine WC.seq ?_
  refine WC.drawP rfl rfl ?_
  refine WO.mv rfl ?_
  refine WO.lenS rfl hot0.slv rfl ?_
  refine WO.bin rfl rfl (by decide) (by decide) rfl ?_
  refine WO.mv rfl ?_
  obtain ⟨y4, e5, h⟩ := bindS h
  refine WO.cutB (d := 16) 9 y4 (fun q3 => ?_) (fun q3 => ?_) ?_
  · have h := e5
    have h := iteT q3 h
    refine WO.gyes rfl rfl ?_
    refine WO.mv rfl ?_
    refine WO.gyes rfl rfl ?_
    refine WO.mv rfl ?_
    refine WO.gyes rfl rfl ?_
    refine WO.lenS rfl hot0.slv rfl ?_
    refine WO.gyes rfl rfl ?_
    refine WO.bin rfl rfl (by decide) (by decide) rfl ?_
    refine WO.gyes rfl rfl ?_
    obtain ⟨x1, e2, h⟩ := bindS h
    refine WO.ixS rfl rfl hot0.slv (at?_lt e2) rfl ?_
    refine WO.gyes rfl rfl ?_
    refine WO.ldF rfl hot0.ro (fun _ hi => hi) (at?_get e2) rfl rfl rfl ?_
    refine WO.gyes rfl rfl ?_
    refine WO.ldP rfl hoc0 rfl rfl rfl ?_
    refine WO.gyes rfl rfl ?_
    refine WO.bin rfl rfl (by decide) (by decide) rfl ?_
    obtain rfl := someI h
    refine WO.pickT rfl rfl ?_
    refine WO.nil ?_
    exact ⟨rfl, rfl, (Cov.cons rfl (Cov.skip rfl (Cov.skip rfl (Cov.skip rfl (Cov.skip rfl (Cov.skip rfl (Cov.skip rfl (Cov.skip rfl (Cov.skip rfl (Cov.skip rfl (Cov.skip rfl (Cov.refl _))))))))))))⟩
  · have h := e5
    have h := iteF q3 h
    obtain rfl := someI h
    refine WO.gno rfl rfl ?_
    refine WO.gno rfl rfl ?_
    refine WO.gno rfl rfl ?_
    refine WO.gno rfl rfl ?_
    refine WO.gno rfl rfl ?_
    refine WO.gno rfl rfl ?_
    refine WO.gno rfl rfl ?_
    refine WO.gno rfl rfl ?_
    refine WO.pickF rfl rfl ?_
    refine WO.nil ?_
    exact ⟨rfl, rfl, (Cov.cons rfl (Cov.skip rfl (Cov.skip rfl (Cov.skip rfl (Cov.skip rfl (Cov.skip rfl (Cov.skip rfl (Cov.skip rfl (Cov.skip rfl (Cov.skip rfl (Cov.skip rfl (Cov.refl _))))))))))))⟩
  refine WO.asg rfl ?_
  refine WO.nil ?_
  refine thenL_n ?_
  refine WC.ret ?_
  obtain rfl := someI h
  exact ⟨.inr rfl, _, _, rfl, rfl, rfl⟩
end Go.Proofs.Ytihmliblbhjlaaa

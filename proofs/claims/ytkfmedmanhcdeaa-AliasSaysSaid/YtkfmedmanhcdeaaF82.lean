/- The machine answers F82: printed by a program of ours (gen.py). -/
import Derived.Test.YtkfmedmanhcdeaaDef
import Derived.Test.YtkfmedmanhcdeaaEnv
set_option linter.unusedVariables false
namespace Go.Proofs.Ytkfmedmanhcdeaa
open Go.Am
theorem F82.fn : E.fn 82 = some ⟨37, (Try.f82.body.getD .skip), Try.f82.results.toList, []⟩ := rfl
theorem F82_ok {F : Nat} {m : Mem} {n : Nat} {r : Int × Int} {t0 : List (Int × Int)} {t1 : Int} {t2 : Int} {vt0 : SV} (h : F82 F t0 t1 t2 = some r) (kt0 : Vw Y90 n m vt0 t0) : Ret E n 82 [.sc vt0, .sc (.int .i64 t1), .sc (.int .i64 t2)] m n (fun v m' n' => v = .tup [.sc (.int .i64 r.1), .sc (.int .i64 r.2)]) := by
  unfold F82 at h
  refine Ret.walk F82.fn ?_
  refine WC.start fun S0 em en hz => ?_
  have hot0 := kt0.rdS em hz
  refine WC.seq ?_
  refine WC.region ?_
  refine WO.asg rfl ?_
  refine WO.asg rfl ?_
  refine WO.nil ?_
  refine thenL_n ?_
  refine WC.seq ?_
  refine WC.seq ?_
  refine WC.region ?_
  refine WO.mv rfl ?_
  refine WO.lenS rfl hot0.slv rfl ?_
  refine WO.bin rfl rfl (by decide) (by decide) rfl ?_
  refine WO.mv rfl ?_
  refine WO.cutB (d := 15) 4 ((decide ((t0.length : Int) < 1)) || (decide ((t0.length : Int) > 12))) (fun q1 => ?_) (fun q1 => ?_) ?_
  · refine WO.gno rfl rfl ?_
    refine WO.gno rfl rfl ?_
    refine WO.gno rfl rfl ?_
    refine WO.pickT rfl rfl ?_
    refine WO.nil ?_
    exact ⟨rfl, rfl, (Cov.any rfl (orT q1) (Cov.skip rfl (Cov.skip rfl (Cov.skip rfl (Cov.skip rfl (Cov.skip rfl (Cov.refl _)))))))⟩
  · skip
    refine WO.gyes rfl rfl ?_
    refine WO.mv rfl ?_
    refine WO.gyes rfl rfl ?_
    refine WO.lenS rfl hot0.slv rfl ?_
    refine WO.gyes rfl rfl ?_
    refine WO.bin rfl rfl (by decide) (by decide) rfl ?_
    refine WO.pickF rfl rfl ?_
    refine WO.nil ?_
    exact ⟨rfl, rfl, (Cov.any rfl (orF q1) (Cov.skip rfl (Cov.skip rfl (Cov.skip rfl (Cov.skip rfl (Cov.skip rfl (Cov.refl _)))))))⟩
  refine WO.nil ?_
  refine thenL_n ?_
  refine WC.cond rfl (fun q2 => ?_) (fun q2 => ?_)
  · have h := iteT q2 h
    refine WC.seq ?_
    refine WC.region ?_
    refine WO.asg rfl ?_
    refine WO.asg rfl ?_
    refine WO.nil ?_
    refine thenL_n ?_
    refine WC.ret ?_
    refine thenL_r ?_
    obtain rfl := someI h
    exact ⟨.inr rfl, _, _, rfl, rfl, rfl⟩
  · have h := iteF q2 h
    refine WC.skip ?_
    refine thenL_n ?_
    refine WC.seq ?_
    refine WC.seq ?_
    refine WC.region ?_
    refine WO.mv rfl ?_
    refine WO.bin rfl rfl (by decide) (by decide) rfl ?_
    refine WO.mv rfl ?_
    refine WO.cutB (d := 23) 5 ((decide (t1 < 0)) || (decide (t1 ≥ (t0.length : Int)))) (fun q3 => ?_) (fun q3 => ?_) ?_
    · refine WO.gno rfl rfl ?_
      refine WO.gno rfl rfl ?_
      refine WO.gno rfl rfl ?_
      refine WO.gno rfl rfl ?_
      refine WO.pickT rfl rfl ?_
      refine WO.nil ?_
      exact ⟨rfl, rfl, (Cov.any rfl (orT q3) (Cov.skip rfl (Cov.skip rfl (Cov.skip rfl (Cov.skip rfl (Cov.skip rfl (Cov.skip rfl (Cov.refl _))))))))⟩
    · skip
      refine WO.gyes rfl rfl ?_
      refine WO.mv rfl ?_
      refine WO.gyes rfl rfl ?_
      refine WO.mv rfl ?_
      refine WO.gyes rfl rfl ?_
      refine WO.lenS rfl hot0.slv rfl ?_
      refine WO.gyes rfl rfl ?_
      refine WO.bin rfl rfl (by decide) (by decide) rfl ?_
      refine WO.pickF rfl rfl ?_
      refine WO.nil ?_
      exact ⟨rfl, rfl, (Cov.any rfl (orF q3) (Cov.skip rfl (Cov.skip rfl (Cov.skip rfl (Cov.skip rfl (Cov.skip rfl (Cov.skip rfl (Cov.refl _))))))))⟩
    refine WO.nil ?_
    refine thenL_n ?_
    refine WC.cond rfl (fun q4 => ?_) (fun q4 => ?_)
    · have h := iteT q4 h
      refine WC.seq ?_
      refine WC.region ?_
      refine WO.asg rfl ?_
      refine WO.asg rfl ?_
      refine WO.nil ?_
      refine thenL_n ?_
      refine WC.ret ?_
      refine thenL_r ?_
      obtain rfl := someI h
      exact ⟨.inr rfl, _, _, rfl, rfl, rfl⟩
    · have h := iteF q4 h
      refine WC.skip ?_
      refine thenL_n ?_
      refine WC.seq ?_
      refine WC.seq ?_
      refine WC.region ?_
      refine WO.mv rfl ?_
      refine WO.mv rfl ?_
      refine WO.mv rfl ?_
      obtain ⟨x5, e6, h⟩ := bindS h
      refine WO.ixS rfl rfl hot0.slv (at?_lt e6) rfl ?_
      refine WO.fldS rfl rfl (SlV.ptr hot0.slv (at?_nat e6)) rfl rfl rfl (by decide) ?_
      refine WO.ldF rfl hot0.ro (fun _ hi => hi) (at?_get e6) rfl rfl rfl ?_
      refine WO.bin rfl rfl (by decide) (by decide) rfl ?_
      refine WO.nil ?_
      refine thenL_n ?_
      refine WC.cond rfl (fun q7 => ?_) (fun q7 => ?_)
      · have h := iteT q7 h
        refine WC.seq ?_
        refine WC.region ?_
        refine WO.mv rfl ?_
        refine WO.asg rfl ?_
        refine WO.asg rfl ?_
        refine WO.nil ?_
        refine thenL_n ?_
        refine WC.ret ?_
        refine thenL_r ?_
        obtain rfl := someI h
        exact ⟨.inr rfl, _, _, rfl, rfl, rfl⟩
      · have h := iteF q7 h
        refine WC.skip ?_
        refine thenL_n ?_
        refine WC.seq ?_
        refine WC.region ?_
        refine WO.mv rfl ?_
        refine WO.mv rfl ?_
        obtain ⟨x8, e9, h⟩ := bindS h
        refine WO.ixS rfl rfl hot0.slv (at?_lt e9) rfl ?_
        refine WO.fldS rfl rfl (SlV.ptr hot0.slv (at?_nat e9)) rfl rfl rfl (by decide) ?_
        refine WO.ldF rfl hot0.ro (fun _ hi => hi) (at?_get e9) rfl rfl rfl ?_
        refine WO.asg rfl ?_
        refine WO.asg rfl ?_
        refine WO.nil ?_
        refine thenL_n ?_
        refine WC.ret ?_
        obtain rfl := someI h
        exact ⟨.inr rfl, _, _, rfl, rfl, rfl⟩
end Go.Proofs.Ytkfmedmanhcdeaa

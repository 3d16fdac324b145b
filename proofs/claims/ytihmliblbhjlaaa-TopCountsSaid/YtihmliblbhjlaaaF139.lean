/- The machine answers F139: printed by a program of ours (gen.py). -/
import Derived.Test.YtihmliblbhjlaaaDef
import Derived.Test.YtihmliblbhjlaaaEnv
set_option linter.unusedVariables false
namespace Go.Proofs.Ytihmliblbhjlaaa
open Go.Am
theorem F139.fn : E.fn 139 = some ⟨29, (Try.f139.body.getD .skip), Try.f139.results.toList, []⟩ := rfl
theorem F139_ok {F : Nat} {m : Mem} {n : Nat} {r : Int × Int} {t0 : Int} (h : F139 F t0 = some r)  : Ret E n 139 [.sc (.int .i64 t0)] m n (fun v m' n' => v = .tup [.sc (.int .i64 r.1), .sc (.int .i64 r.2)]) := by
  unfold F139 at h
  refine Ret.walk F139.fn ?_
  refine WC.start fun S0 em en hz => ?_
  refine WC.seq ?_
  refine WC.region ?_
  refine WO.asg rfl ?_
  refine WO.asg rfl ?_
  refine WO.nil ?_
  refine thenL_n ?_
  refine WC.seq ?_
  refine WC.seq ?_
  refine WC.region ?_
  refine WO.mv rfl ?_
  refine WO.bin rfl rfl (by decide) (by decide) rfl ?_
  refine WO.mv rfl ?_
  refine WO.cutB (d := 12) 3 ((decide (t0 < 0)) || (decide (t0 > 15))) (fun q1 => ?_) (fun q1 => ?_) ?_
  · refine WO.gno rfl rfl ?_
    refine WO.gno rfl rfl ?_
    refine WO.pickT rfl rfl ?_
    refine WO.nil ?_
    exact ⟨rfl, rfl, (Cov.any rfl (orT q1) (Cov.skip rfl (Cov.skip rfl (Cov.skip rfl (Cov.skip rfl (Cov.refl _))))))⟩
  · skip
    refine WO.gyes rfl rfl ?_
    refine WO.mv rfl ?_
    refine WO.gyes rfl rfl ?_
    refine WO.bin rfl rfl (by decide) (by decide) rfl ?_
    refine WO.pickF rfl rfl ?_
    refine WO.nil ?_
    exact ⟨rfl, rfl, (Cov.any rfl (orF q1) (Cov.skip rfl (Cov.skip rfl (Cov.skip rfl (Cov.skip rfl (Cov.refl _))))))⟩
  refine WO.nil ?_
  refine thenL_n ?_
  refine WC.cond rfl (fun q2 => ?_) (fun q2 => ?_)
  · have h := iteT q2 h
    refine WC.seq ?_
    refine WC.region ?_
    refine WO.asg rfl ?_
    refine WO.asg rfl ?_
    refine WO.nil ?_
    refine thenL_n ?_
    refine WC.ret ?_
    refine thenL_r ?_
    obtain rfl := someI h
    exact ⟨.inr rfl, _, _, rfl, rfl, rfl⟩
  · have h := iteF q2 h
    refine WC.skip ?_
    refine thenL_n ?_
    refine WC.seq ?_
    refine WC.region ?_
    refine WO.asg rfl ?_
    refine WO.asg rfl ?_
    refine WO.nil ?_
    refine thenL_n ?_
    refine WC.seq ?_
    refine WC.seq ?_
    refine WC.region ?_
    refine WO.asg rfl ?_
    refine WO.nil ?_
    refine thenL_n ?_
    refine WC.block ?_
    obtain ⟨b9, e10, h⟩ := bindS h
    refine WC.loopD e10 (fun s3 l' m' n' => ∃ S4 : Cx n, S4.m = m' ∧ S4.n = n' ∧ Cov l' [(0, .sc (.int .i64 t0)), (4, .sc (.int .i64 s3.1)), (5, .sc (.int .i64 s3.2.1)), (6, .sc (.int .i64 s3.2.2))]) (fun b e l' m' n' => e = .exit 0 ∧ ∃ S5 : Cx n, S5.m = m' ∧ S5.n = n' ∧ Cov l' [(0, .sc (.int .i64 t0)), (4, .sc (.int .i64 b.1)), (5, .sc (.int .i64 b.2))]) (by exact ⟨S0, rfl, rfl, (Cov.cons rfl (Cov.cons rfl (Cov.cons rfl (Cov.cons rfl (Cov.nil _)))))⟩) ?_ ?_
    · clear h
      rintro s3 q _ _ _ ⟨S6, rfl, rfl, hc7⟩ h
      unfold F139_l0 at h
      refine WC.cov hc7 ?_
      refine WC.seq ?_
      refine WC.seq ?_
      refine WC.region ?_
      refine WO.mv rfl ?_
      refine WO.mv rfl ?_
      refine WO.bin rfl rfl (by decide) (by decide) rfl ?_
      refine WO.nil ?_
      refine thenL_n ?_
      refine WC.cond rfl (fun q8 => ?_) (fun q8 => ?_)
      · have h := iteT q8 h
        refine WC.skip ?_
        refine thenL_n ?_
        refine WC.seq ?_
        refine WC.block ?_
        refine WC.region ?_
        refine WO.mv rfl ?_
        refine WO.mv rfl ?_
        refine WO.bin rfl rfl (by decide) (by decide) rfl ?_
        refine WO.mv rfl ?_
        refine WO.mv rfl ?_
        refine WO.bin rfl rfl (by decide) (by decide) rfl ?_
        refine WO.bin rfl rfl (by decide) (by decide) rfl ?_
        refine WO.asg rfl ?_
        refine WO.asg rfl ?_
        refine WO.nil ?_
        refine blockL_n ?_
        refine thenL_n ?_
        refine WC.region ?_
        refine WO.mv rfl ?_
        refine WO.bin rfl rfl (by decide) (by decide) rfl ?_
        refine WO.asg rfl ?_
        refine WO.nil ?_
        refine thenL_n ?_
        obtain rfl := someI h
        exact ⟨_, rfl, ⟨S6, rfl, rfl, (Cov.cons rfl (Cov.cons rfl (Cov.cons rfl (Cov.cons rfl (Cov.nil _)))))⟩⟩
      · have h := iteF q8 h
        refine WC.exit ?_
        refine thenL_e ?_
        refine thenL_e ?_
        obtain rfl := someI h
        exact ⟨_, rfl, rfl, ⟨S6, rfl, rfl, (Cov.cons rfl (Cov.cons rfl (Cov.cons rfl (Cov.nil _))))⟩⟩
    rintro _ _ _ _ ⟨rfl, ⟨S11, rfl, rfl, hc12⟩⟩
    refine blockL_s ?_
    refine thenL_n ?_
    refine WC.cov hc12 ?_
    refine WC.seq ?_
    refine WC.seq ?_
    refine WC.region ?_
    refine WO.mv rfl ?_
    refine WO.bin rfl rfl (by decide) (by decide) rfl ?_
    refine WO.nil ?_
    refine thenL_n ?_
    refine WC.cond rfl (fun q13 => ?_) (fun q13 => ?_)
    · have h := iteT q13 h
      refine WC.seq ?_
      refine WC.region ?_
      refine WO.mv rfl ?_
      refine WO.asg rfl ?_
      refine WO.asg rfl ?_
      refine WO.nil ?_
      refine thenL_n ?_
      refine WC.ret ?_
      refine thenL_r ?_
      obtain rfl := someI h
      exact ⟨.inr rfl, _, _, rfl, rfl, rfl⟩
    · have h := iteF q13 h
      refine WC.skip ?_
      refine thenL_n ?_
      refine WC.seq ?_
      refine WC.region ?_
      refine WO.mv rfl ?_
      refine WO.asg rfl ?_
      refine WO.asg rfl ?_
      refine WO.nil ?_
      refine thenL_n ?_
      refine WC.ret ?_
      obtain rfl := someI h
      exact ⟨.inr rfl, _, _, rfl, rfl, rfl⟩
end Go.Proofs.Ytihmliblbhjlaaa

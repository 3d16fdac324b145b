/- The machine answers the functions' texts: printed by a program of ours (gen.py). -/
import Derived.Test.YtaphdnpjpmnaeaaDef
import Derived.Test.YtaphdnpjpmnaeaaEnv
set_option linter.unusedVariables false
namespace Go.Proofs.Ytaphdnpjpmnaeaa
open Go.Am
theorem F23.fn : E.fn 23 = some ⟨31, (Try.f23.body.getD .skip), Try.f23.results.toList, []⟩ := rfl
theorem F23_ok {F : Nat} {m : Mem} {n : Nat} {r : Int} {t0 : List Int} {vt0 : SV} (h : F23 F t0 = some r) (kt0 : Vw Y3 n m vt0 t0) : Ret E n 23 [.sc vt0] m n (fun v m' n' => v = .sc (.int .i64 r)) := by
  unfold F23 at h
  refine Ret.walk F23.fn ?_
  refine WC.start fun S0 em en hz => ?_
  have hot0 := kt0.rdS em hz
  refine WC.seq (WC.region (WO.asg rfl (WO.nil (thenL_n (WC.seq (WC.seq (WC.region (WO.mv rfl ?_))))))))
  refine WO.lenS rfl hot0.slv rfl ?_
  refine WO.bin rfl rfl (by decide) (by decide) rfl ?_
  refine WO.nil (thenL_n ?_)
  refine WC.cond rfl (fun q1 => ?_) (fun q1 => ?_)
  · have h := iteT q1 h
    refine WC.seq (WC.region (WO.asg rfl (WO.nil (thenL_n (WC.ret (thenL_r ?_))))))
    obtain rfl := someI h
    exact ⟨.inr rfl, _, _, rfl, rfl, rfl⟩
  · have h := iteF q1 h
    refine WC.skip (thenL_n (WC.seq (WC.region ?_)))
    refine WO.alS (A := Y54) (S := S0) (z0 := (List.replicate 10 false)) 2 rfl ⟨rfl, rfl⟩ rfl (fun v2 S3 c4 ho5 => ?_)
    have hot0 := hot0.to c4
    refine WO.nil (thenL_n (WC.seq (WC.seq (WC.region (WO.mv rfl ?_)))))
    refine WO.lenS rfl hot0.slv rfl ?_
    refine WO.mv rfl (WO.nil (thenL_n (WC.block ?_)))
    obtain ⟨b27, e28, h⟩ := bindS h
    refine WC.loopD e28 (fun s6 l' m' n' => ∃ S7 : Cx n, S7.m = m' ∧ S7.n = n' ∧ Cov l' [(0, .sc vt0), (3, .sc v2), (9, .sc vt0), (10, .sc (.int .i64 ((t0.length : Int)))), (11, .sc (.int .i64 s6.1))] ∧ Rd Y3 S7 vt0 t0 ∧ Bk Y54 S7 2 v2 s6.2) (fun b e l' m' n' => (match b with | .inl b8 => e = .exit 0 ∧ ∃ S9 : Cx n, S9.m = m' ∧ S9.n = n' ∧ Cov l' [] | .inr b8 => e = .ret ∧ ∃ S10 : Cx n, S10.m = m' ∧ S10.n = n' ∧ Cov l' [(2, .sc (.int .i64 b8))])) (by exact ⟨S3, rfl, rfl, (Cov.cons rfl (Cov.cons rfl (Cov.cons rfl (Cov.cons rfl (Cov.cons rfl (Cov.nil _)))))), hot0, ho5⟩) ?_ ?_
    · clear h
      rintro s6 q _ _ _ ⟨S11, rfl, rfl, hc12, hot0, ho5⟩ h
      unfold F23_l0 at h
      refine WC.cov hc12 (WC.seq (WC.region ?_))
      refine WO.bin rfl rfl (by decide) (by decide) rfl ?_
      refine WO.nil (thenL_n (WC.seq ?_))
      refine WC.cond rfl (fun q13 => ?_) (fun q13 => ?_)
      · have h := iteT q13 h
        refine WC.skip (thenL_n (WC.seq (WC.block (WC.seq (WC.region ?_)))))
        obtain ⟨x14, e15, h⟩ := bindS h
        refine WO.ixS rfl rfl hot0.slv (at?_lt e15) rfl ?_
        refine WO.ldF rfl hot0.ro (fun _ hi => hi) (at?_get e15) rfl rfl rfl ?_
        refine WO.asg rfl (WO.nil (thenL_n (WC.seq (WC.seq (WC.region (WO.mv rfl ?_))))))
        refine WO.bin rfl rfl (by decide) (by decide) rfl ?_
        refine WO.mv rfl ?_
        refine WO.cutB (d := 22) 5 ((decide (x14 < 0)) || (decide (x14 ≥ (t0.length : Int)))) (fun q16 => ?_) (fun q16 => ?_) ?_
        · refine WO.gno rfl rfl (WO.gno rfl rfl (WO.gno rfl rfl (WO.gno rfl rfl ?_)))
          refine WO.pickT rfl rfl ?_
          refine WO.nil ?_
          exact ⟨rfl, rfl, (Cov.any rfl (orT q16) (Cov.skip rfl (Cov.skip rfl (Cov.skip rfl (Cov.skip rfl (Cov.skip rfl (Cov.skip rfl (Cov.refl _))))))))⟩
        · skip
          refine WO.gyes rfl rfl (WO.mv rfl (WO.gyes rfl rfl (WO.mv rfl (WO.gyes rfl rfl ?_))))
          refine WO.lenS rfl hot0.slv rfl ?_
          refine WO.gyes rfl rfl ?_
          refine WO.bin rfl rfl (by decide) (by decide) rfl ?_
          refine WO.pickF rfl rfl ?_
          refine WO.nil ?_
          exact ⟨rfl, rfl, (Cov.any rfl (orF q16) (Cov.skip rfl (Cov.skip rfl (Cov.skip rfl (Cov.skip rfl (Cov.skip rfl (Cov.skip rfl (Cov.refl _))))))))⟩
        refine WO.mv rfl ?_
        obtain ⟨y20, e21, h⟩ := bindS h
        refine WO.cutB (d := 27) 4 y20 (fun q19 => ?_) (fun q19 => ?_) ?_
        · have h := e21
          have h := iteT q19 h
          obtain rfl := someI h
          refine WO.gno rfl rfl (WO.gno rfl rfl (WO.gno rfl rfl ?_))
          refine WO.pickT rfl rfl ?_
          refine WO.nil ?_
          exact ⟨rfl, rfl, (Cov.cons rfl (Cov.skip rfl (Cov.skip rfl (Cov.skip rfl (Cov.skip rfl (Cov.skip rfl (Cov.refl _)))))))⟩
        · have h := e21
          have h := iteF q19 h
          refine WO.gyes rfl rfl (WO.mv rfl (WO.gyes rfl rfl ?_))
          obtain ⟨x17, e18, h⟩ := bindS h
          refine WO.ixR rfl ho5 rfl (at?_lt e18) rfl ?_
          refine WO.gyes rfl rfl ?_
          refine WO.ldR rfl rfl ho5 (at?_get e18) rfl rfl ?_
          obtain rfl := someI h
          refine WO.pickF rfl rfl ?_
          refine WO.nil ?_
          exact ⟨rfl, rfl, (Cov.cons rfl (Cov.skip rfl (Cov.skip rfl (Cov.skip rfl (Cov.skip rfl (Cov.skip rfl (Cov.refl _)))))))⟩
        refine WO.nil (thenL_n ?_)
        refine WC.cond rfl (fun q22 => ?_) (fun q22 => ?_)
        · have h := iteT q22 h
          refine WC.seq (WC.region (WO.asg rfl (WO.nil (thenL_n (WC.ret (thenL_r (blockL_r (thenL_r (thenL_r ?_)))))))))
          obtain rfl := someI h
          exact ⟨_, rfl, rfl, ⟨S11, rfl, rfl, (Cov.cons rfl (Cov.nil _))⟩⟩
        · have h := iteF q22 h
          refine WC.skip (thenL_n (WC.region (WO.mv rfl ?_)))
          obtain ⟨u23, e24, h⟩ := bindS h
          refine WO.ixR rfl ho5 rfl (ck_some e24) rfl ?_
          refine WO.stR rfl rfl rfl ho5 (ck_nat e24) rfl rfl (fun S25 c26 ho5 => ?_)
          have hot0 := hot0.to c26
          refine WO.nil (blockL_n (thenL_n (WC.region ?_)))
          refine WO.bin rfl rfl (by decide) (by decide) rfl ?_
          refine WO.mv rfl (WO.nil (thenL_n ?_))
          obtain rfl := someI h
          exact ⟨_, rfl, ⟨S25, rfl, rfl, (Cov.cons rfl (Cov.cons rfl (Cov.cons rfl (Cov.cons rfl (Cov.cons rfl (Cov.nil _)))))), hot0, ho5⟩⟩
      · have h := iteF q13 h
        refine WC.exit (thenL_e (thenL_e ?_))
        obtain rfl := someI h
        exact ⟨_, rfl, rfl, ⟨S11, rfl, rfl, (Cov.nil _)⟩⟩
    cases b27 with
    | inl b29 =>
      simp only at h
      rintro _ _ _ _ ⟨rfl, ⟨S30, rfl, rfl, hc31⟩⟩
      refine blockL_s (thenL_n (WC.cov hc31 (WC.seq (WC.region (WO.asg rfl (WO.nil (thenL_n (WC.ret ?_))))))))
      obtain rfl := someI h
      exact ⟨.inr rfl, _, _, rfl, rfl, rfl⟩
    | inr b29 =>
      simp only at h
      rintro _ _ _ _ ⟨rfl, ⟨S32, rfl, rfl, hc33⟩⟩
      refine blockL_r (thenL_r ?_)
      obtain rfl := someI h
      exact ⟨.inr rfl, _, _, (resK_cov hc33 rfl), rfl, rfl⟩
end Go.Proofs.Ytaphdnpjpmnaeaa

namespace Go.Proofs.Ytaphdnpjpmnaeaa
open Go.Am
theorem F8.fn : E.fn 8 = some ⟨32, (Try.f8.body.getD .skip), Try.f8.results.toList, []⟩ := rfl
theorem F8_ok {F : Nat} {m : Mem} {n : Nat} {r : Int} {t0 : Int} {t1 : List (List Int)} {vt1 : SV} (h : F8 F t0 t1 = some r) (kt1 : Vw Y23 n m vt1 t1) : Ret E n 8 [.sc (.int .i64 t0), .sc vt1] m n (fun v m' n' => v = .sc (.int .i64 r)) := by
  unfold F8 at h
  refine Ret.walk F8.fn ?_
  refine WC.start fun S0 em en hz => ?_
  have hot1 := kt1.rdS em hz
  refine WC.seq (WC.region (WO.asg rfl (WO.nil (thenL_n (WC.seq (WC.seq (WC.region (WO.mv rfl ?_))))))))
  refine WO.bin rfl rfl (by decide) (by decide) rfl ?_
  refine WO.mv rfl ?_
  refine WO.cutB (d := 12) 3 ((decide (t0 < 0)) || (decide (t0 > 6))) (fun q1 => ?_) (fun q1 => ?_) ?_
  · refine WO.gno rfl rfl (WO.gno rfl rfl ?_)
    refine WO.pickT rfl rfl ?_
    refine WO.nil ?_
    exact ⟨rfl, rfl, (Cov.any rfl (orT q1) (Cov.skip rfl (Cov.skip rfl (Cov.skip rfl (Cov.skip rfl (Cov.refl _))))))⟩
  · skip
    refine WO.gyes rfl rfl (WO.mv rfl (WO.gyes rfl rfl ?_))
    refine WO.bin rfl rfl (by decide) (by decide) rfl ?_
    refine WO.pickF rfl rfl ?_
    refine WO.nil ?_
    exact ⟨rfl, rfl, (Cov.any rfl (orF q1) (Cov.skip rfl (Cov.skip rfl (Cov.skip rfl (Cov.skip rfl (Cov.refl _))))))⟩
  refine WO.nil (thenL_n ?_)
  refine WC.cond rfl (fun q2 => ?_) (fun q2 => ?_)
  · have h := iteT q2 h
    refine WC.seq (WC.region (WO.asg rfl (WO.nil (thenL_n (WC.ret (thenL_r ?_))))))
    obtain rfl := someI h
    exact ⟨.inr rfl, _, _, rfl, rfl, rfl⟩
  · have h := iteF q2 h
    refine WC.skip (thenL_n (WC.seq (WC.seq (WC.region (WO.mv rfl ?_)))))
    refine WO.lenS rfl hot1.slv rfl ?_
    refine WO.bin rfl rfl (by decide) (by decide) rfl ?_
    refine WO.nil (thenL_n ?_)
    refine WC.cond rfl (fun q3 => ?_) (fun q3 => ?_)
    · have h := iteT q3 h
      refine WC.seq (WC.region (WO.asg rfl (WO.nil (thenL_n (WC.ret (thenL_r ?_))))))
      obtain rfl := someI h
      exact ⟨.inr rfl, _, _, rfl, rfl, rfl⟩
    · have h := iteF q3 h
      refine WC.skip (thenL_n (WC.seq (WC.seq (WC.region (WO.mv rfl ?_)))))
      refine WO.lenS rfl hot1.slv rfl ?_
      refine WO.mv rfl (WO.nil (thenL_n (WC.block ?_)))
      obtain ⟨b22, e23, h⟩ := bindS h
      refine WC.loopD e23 (fun s4 l' m' n' => ∃ S5 : Cx n, S5.m = m' ∧ S5.n = n' ∧ Cov l' [(0, .sc (.int .i64 t0)), (16, .sc vt1), (17, .sc (.int .i64 ((t1.length : Int)))), (18, .sc (.int .i64 s4))] ∧ Rd Y23 S5 vt1 t1) (fun b e l' m' n' => (match b with | .inl b6 => e = .exit 0 ∧ ∃ S7 : Cx n, S7.m = m' ∧ S7.n = n' ∧ Cov l' [] | .inr b6 => e = .ret ∧ ∃ S8 : Cx n, S8.m = m' ∧ S8.n = n' ∧ Cov l' [(4, .sc (.int .i64 b6))])) (by exact ⟨S0, rfl, rfl, (Cov.cons rfl (Cov.cons rfl (Cov.cons rfl (Cov.cons rfl (Cov.nil _))))), hot1⟩) ?_ ?_
      · clear h
        rintro s4 q _ _ _ ⟨S9, rfl, rfl, hc10, hot1⟩ h
        unfold F8_l0 at h
        refine WC.cov hc10 (WC.seq (WC.region ?_))
        refine WO.bin rfl rfl (by decide) (by decide) rfl ?_
        refine WO.nil (thenL_n (WC.seq ?_))
        refine WC.cond rfl (fun q11 => ?_) (fun q11 => ?_)
        · have h := iteT q11 h
          refine WC.skip (thenL_n (WC.seq (WC.block (WC.seq (WC.region ?_)))))
          obtain ⟨L12, e13, h⟩ := bindS h
          refine WO.ixS rfl rfl hot1.slv (at?_lt e13) rfl ?_
          refine WO.ldS rfl hot1.ro (fun _ hi => hi) (at?_get e13) rfl rfl (fun v14 ho15 => ?_)
          have ho15 : Rd Y3 S9 v14 L12 := ho15
          refine WO.asg rfl (WO.nil (thenL_n (WC.seq (WC.region (WO.mv rfl ?_)))))
          obtain ⟨r16, e17, h⟩ := bindS h
          refine WO.callE (S := S9) rfl rfl (F23_ok e17 ho15.vw) (fun S18 c19 => ?_)
          have hot1 := hot1.to c19
          have ho15 := ho15.to c19
          refine WO.bin rfl rfl (by decide) (by decide) rfl ?_
          refine WO.mv rfl ?_
          refine WO.cutB (d := 30) 5 ((r16 != 0) || ((L12.length : Int) != t0)) (fun q20 => ?_) (fun q20 => ?_) ?_
          · refine WO.gno rfl rfl (WO.gno rfl rfl (WO.gno rfl rfl (WO.gno rfl rfl ?_)))
            refine WO.pickT rfl rfl ?_
            refine WO.nil ?_
            exact ⟨rfl, rfl, (Cov.any rfl (orT q20) (Cov.skip rfl (Cov.skip rfl (Cov.skip rfl (Cov.skip rfl (Cov.skip rfl (Cov.skip rfl (Cov.refl _))))))))⟩
          · skip
            refine WO.gyes rfl rfl (WO.mv rfl (WO.gyes rfl rfl ?_))
            refine WO.lenS rfl ho15.slv rfl ?_
            refine WO.gyes rfl rfl (WO.mv rfl (WO.gyes rfl rfl ?_))
            refine WO.bin rfl rfl (by decide) (by decide) rfl ?_
            refine WO.pickF rfl rfl ?_
            refine WO.nil ?_
            exact ⟨rfl, rfl, (Cov.any rfl (orF q20) (Cov.skip rfl (Cov.skip rfl (Cov.skip rfl (Cov.skip rfl (Cov.skip rfl (Cov.skip rfl (Cov.refl _))))))))⟩
          refine WO.nil (thenL_n ?_)
          refine WC.cond rfl (fun q21 => ?_) (fun q21 => ?_)
          · have h := iteT q21 h
            refine WC.seq (WC.region (WO.asg rfl (WO.nil (thenL_n (WC.ret (blockL_r (thenL_r (thenL_r ?_))))))))
            obtain rfl := someI h
            exact ⟨_, rfl, rfl, ⟨S18, rfl, rfl, (Cov.cons rfl (Cov.nil _))⟩⟩
          · have h := iteF q21 h
            refine WC.skip (blockL_n (thenL_n (WC.region ?_)))
            refine WO.bin rfl rfl (by decide) (by decide) rfl ?_
            refine WO.mv rfl (WO.nil (thenL_n ?_))
            obtain rfl := someI h
            exact ⟨_, rfl, ⟨S18, rfl, rfl, (Cov.cons rfl (Cov.cons rfl (Cov.cons rfl (Cov.cons rfl (Cov.nil _))))), hot1⟩⟩
        · have h := iteF q11 h
          refine WC.exit (thenL_e (thenL_e ?_))
          obtain rfl := someI h
          exact ⟨_, rfl, rfl, ⟨S9, rfl, rfl, (Cov.nil _)⟩⟩
      cases b22 with
      | inl b24 =>
        simp only at h
        rintro _ _ _ _ ⟨rfl, ⟨S25, rfl, rfl, hc26⟩⟩
        refine blockL_s (thenL_n (WC.cov hc26 (WC.seq (WC.region (WO.asg rfl (WO.nil (thenL_n (WC.ret ?_))))))))
        obtain rfl := someI h
        exact ⟨.inr rfl, _, _, rfl, rfl, rfl⟩
      | inr b24 =>
        simp only at h
        rintro _ _ _ _ ⟨rfl, ⟨S27, rfl, rfl, hc28⟩⟩
        refine blockL_r (thenL_r ?_)
        obtain rfl := someI h
        exact ⟨.inr rfl, _, _, (resK_cov hc28 rfl), rfl, rfl⟩
end Go.Proofs.Ytaphdnpjpmnaeaa

namespace Go.Proofs.Ytaphdnpjpmnaeaa
open Go.Am
theorem F14.fn : E.fn 14 = some ⟨8, (Try.f14.body.getD .skip), Try.f14.results.toList, []⟩ := rfl
theorem F14_ok {F : Nat} {m : Mem} {n : Nat} {r : (List Int)} {t0 : List Int} {vt0 : SV} (h : F14 F t0 = some r) (kt0 : Vw Y3 n m vt0 t0) : Ret E n 14 [.sc vt0] m n (fun v m' n' => v = .agg (List.map (SV.int .i64) r)) := by
  unfold F14 at h
  refine Ret.walk F14.fn ?_
  refine WC.start fun S0 em en hz => ?_
  have hot0 := kt0.rdS em hz
  refine WC.seq (WC.region ?_)
  refine WO.alS (A := Y37) (S := S0) (z0 := (List.replicate 6 0)) 2 rfl ⟨rfl, rfl⟩ rfl (fun v1 S2 c3 ho4 => ?_)
  have hot0 := hot0.to c3
  refine WO.nil (thenL_n (WC.seq (WC.region ?_)))
  refine WO.alS (A := Y37) (S := S2) (z0 := (List.replicate 6 0)) 3 rfl ⟨rfl, rfl⟩ rfl (fun v5 S6 c7 ho8 => ?_)
  have hot0 := hot0.to c7
  have ho4 := ho4.to c7
  refine WO.nil (thenL_n (WC.seq (WC.region ?_)))
  refine WO.slA0 rfl ho8 rfl rfl (fun v9 ho10 bk11 => ?_)
  refine WO.mv rfl ?_
  refine WO.cpS rfl rfl ho10 hot0.ro rfl rfl (fun S12 c13 ho10 => ?_)
  have hot0 := hot0.to c13
  have ho4 := ho4.to c13
  refine WO.nil (thenL_n (WC.seq (WC.region ?_)))
  have ha14 := bk11 _ _ ho10
  refine WO.ldV (j := 0) rfl ha14.at0 ha14 rfl rfl (fun hv15 => ?_)
  refine WO.stV (S := S12) rfl ho4.at0 rfl ho4 hv15 rfl rfl (fun S16 c17 ho4 => ?_)
  have hot0 := hot0.to c17
  have ha14 := ha14.to c17
  refine WO.nil (thenL_n (WC.ret ?_))
  have hcell := ho4
  obtain rfl := someI h
  exact ⟨.inr rfl, _, _, (resK_ar hcell (Cov.refl _) rfl rfl rfl), rfl, rfl⟩
end Go.Proofs.Ytaphdnpjpmnaeaa

namespace Go.Proofs.Ytaphdnpjpmnaeaa
open Go.Am
theorem F15.fn : E.fn 15 = some ⟨45, (Try.f15.body.getD .skip), Try.f15.results.toList, []⟩ := rfl
theorem F15_ok {F : Nat} {m : Mem} {n : Nat} {r : (List Int) × Int} {t0 : List Int} {t1 : List Int} {vt0 : SV} {vt1 : SV} (h : F15 F t0 t1 = some r) (kt0 : Vw Y3 n m vt0 t0) (kt1 : Vw Y3 n m vt1 t1) : Ret E n 15 [.sc vt0, .sc vt1] m n (fun v m' n' => ∃ w, v = .tup [.sc w, .sc (.int .i64 r.2)] ∧ Fr Y3 n m' n' w r.1) := by
  unfold F15 at h
  refine Ret.walk F15.fn ?_
  refine WC.start fun S0 em en hz => ?_
  have hot0 := kt0.rdS em hz
  have hot1 := kt1.rdS em hz
  refine WC.seq (WC.region (WO.asg rfl (WO.asg rfl (WO.nil (thenL_n (WC.seq (WC.seq (WC.region (WO.mv rfl ?_)))))))))
  obtain ⟨r1, e2, h⟩ := bindS h
  refine WO.callE (S := S0) rfl rfl (F23_ok e2 hot0.vw) (fun S3 c4 => ?_)
  have hot0 := hot0.to c4
  have hot1 := hot1.to c4
  refine WO.asg rfl (WO.nil (thenL_n (WC.seq (WC.region (WO.mv rfl ?_)))))
  refine WO.bin rfl rfl (by decide) (by decide) rfl ?_
  refine WO.nil (thenL_n ?_)
  refine WC.cond rfl (fun q5 => ?_) (fun q5 => ?_)
  · have h := iteT q5 h
    refine WC.seq (WC.region (WO.mv rfl (WO.asg rfl (WO.asg rfl (WO.nil (thenL_n (WC.ret (thenL_r ?_))))))))
    obtain rfl := someI h
    exact ⟨.inr rfl, _, _, rfl, rfl, ⟨.nils, rfl, Fr.nil⟩⟩
  · have h := iteF q5 h
    refine WC.skip (thenL_n (WC.seq (WC.seq (WC.region (WO.mv rfl ?_)))))
    obtain ⟨r6, e7, h⟩ := bindS h
    refine WO.callE (S := S3) rfl rfl (F23_ok e7 hot1.vw) (fun S8 c9 => ?_)
    have hot0 := hot0.to c9
    have hot1 := hot1.to c9
    refine WO.asg rfl (WO.nil (thenL_n (WC.seq (WC.region (WO.mv rfl ?_)))))
    refine WO.bin rfl rfl (by decide) (by decide) rfl ?_
    refine WO.nil (thenL_n ?_)
    refine WC.cond rfl (fun q10 => ?_) (fun q10 => ?_)
    · have h := iteT q10 h
      refine WC.seq (WC.region (WO.mv rfl (WO.asg rfl (WO.asg rfl (WO.nil (thenL_n (WC.ret (thenL_r ?_))))))))
      obtain rfl := someI h
      exact ⟨.inr rfl, _, _, rfl, rfl, ⟨.nils, rfl, Fr.nil⟩⟩
    · have h := iteF q10 h
      refine WC.skip (thenL_n (WC.seq (WC.seq (WC.region (WO.mv rfl ?_)))))
      refine WO.lenS rfl hot0.slv rfl ?_
      refine WO.mv rfl ?_
      refine WO.lenS rfl hot1.slv rfl ?_
      refine WO.bin rfl rfl (by decide) (by decide) rfl ?_
      refine WO.nil (thenL_n ?_)
      refine WC.cond rfl (fun q11 => ?_) (fun q11 => ?_)
      · have h := iteT q11 h
        refine WC.seq (WC.region (WO.asg rfl (WO.asg rfl (WO.nil (thenL_n (WC.ret (thenL_r ?_)))))))
        obtain rfl := someI h
        exact ⟨.inr rfl, _, _, rfl, rfl, ⟨.nils, rfl, Fr.nil⟩⟩
      · have h := iteF q11 h
        refine WC.skip (thenL_n (WC.seq (WC.region (WO.mv rfl ?_))))
        refine WO.lenS rfl hot0.slv rfl ?_
        obtain ⟨L12, e13, h⟩ := bindS h
        refine WO.mkS (A := Y3) (S := S8) 2 rfl rfl e13 rfl rfl rfl (fun v14 S15 c16 ho17 => ?_)
        have hot0 := hot0.to c16
        have hot1 := hot1.to c16
        refine WO.asg rfl (WO.nil (thenL_n (WC.seq (WC.seq (WC.region (WO.mv rfl ?_))))))
        refine WO.lenS rfl hot1.slv rfl ?_
        refine WO.mv rfl (WO.nil (thenL_n (WC.block ?_)))
        obtain ⟨b32, e33, h⟩ := bindS h
        refine WC.loopD e33 (fun s18 l' m' n' => ∃ S19 : Cx n, S19.m = m' ∧ S19.n = n' ∧ Cov l' [(0, .sc vt0), (8, .sc v14), (29, .sc vt1), (30, .sc (.int .i64 ((t1.length : Int)))), (31, .sc (.int .i64 s18.1))] ∧ Rd Y3 S19 vt0 t0 ∧ Ow Y3 S19 2 v14 s18.2 ∧ Rd Y3 S19 vt1 t1) (fun b e l' m' n' => e = .exit 0 ∧ ∃ S20 : Cx n, S20.m = m' ∧ S20.n = n' ∧ Cov l' [(8, .sc v14)] ∧ Ow Y3 S20 2 v14 b) (by exact ⟨S15, rfl, rfl, (Cov.cons rfl (Cov.cons rfl (Cov.cons rfl (Cov.cons rfl (Cov.cons rfl (Cov.nil _)))))), hot0, ho17, hot1⟩) ?_ ?_
        · clear h
          rintro s18 q _ _ _ ⟨S21, rfl, rfl, hc22, hot0, ho17, hot1⟩ h
          unfold F15_l0 at h
          refine WC.cov hc22 (WC.seq (WC.region ?_))
          refine WO.bin rfl rfl (by decide) (by decide) rfl ?_
          refine WO.nil (thenL_n (WC.seq ?_))
          refine WC.cond rfl (fun q23 => ?_) (fun q23 => ?_)
          · have h := iteT q23 h
            refine WC.skip (thenL_n (WC.seq (WC.block (WC.seq (WC.region (WO.mv rfl ?_))))))
            obtain ⟨x24, e25, h⟩ := bindS h
            refine WO.ixS rfl rfl hot1.slv (at?_lt e25) rfl ?_
            refine WO.ldF rfl hot1.ro (fun _ hi => hi) (at?_get e25) rfl rfl rfl ?_
            refine WO.asg rfl (WO.asg rfl (WO.nil (thenL_n (WC.region (WO.mv rfl (WO.mv rfl (WO.mv rfl (WO.mv rfl ?_))))))))
            obtain ⟨x26, e27, h⟩ := bindS h
            refine WO.ixS rfl rfl hot0.slv (at?_lt e27) rfl ?_
            refine WO.ldF rfl hot0.ro (fun _ hi => hi) (at?_get e27) rfl rfl rfl ?_
            obtain ⟨u28, e29, h⟩ := bindS h
            refine WO.ixS rfl rfl ho17.slv (ck_some e29) rfl ?_
            refine WO.st1 (u' := x26) rfl rfl ho17 (ck_nat e29) rfl rfl (fun S30 c31 ho17 => ?_)
            have hot0 := hot0.to c31
            have hot1 := hot1.to c31
            refine WO.nil (blockL_n (thenL_n (WC.region ?_)))
            refine WO.bin rfl rfl (by decide) (by decide) rfl ?_
            refine WO.mv rfl (WO.nil (thenL_n ?_))
            obtain rfl := someI h
            exact ⟨_, rfl, ⟨S30, rfl, rfl, (Cov.cons rfl (Cov.cons rfl (Cov.cons rfl (Cov.cons rfl (Cov.cons rfl (Cov.nil _)))))), hot0, ho17, hot1⟩⟩
          · have h := iteF q23 h
            refine WC.exit (thenL_e (thenL_e ?_))
            obtain rfl := someI h
            exact ⟨_, rfl, rfl, ⟨S21, rfl, rfl, (Cov.cons rfl (Cov.nil _)), ho17⟩⟩
        rintro _ _ _ _ ⟨rfl, ⟨S34, rfl, rfl, hc35, ho17⟩⟩
        refine blockL_s (thenL_n (WC.cov hc35 (WC.seq (WC.region (WO.mv rfl (WO.asg rfl (WO.asg rfl (WO.nil (thenL_n ?_)))))))))
        refine WC.ret ?_
        obtain rfl := someI h
        exact ⟨.inr rfl, _, _, rfl, rfl, ⟨v14, rfl, (ho17.fr Lay.flat_fl)⟩⟩
end Go.Proofs.Ytaphdnpjpmnaeaa

namespace Go.Proofs.Ytaphdnpjpmnaeaa
open Go.Am
theorem F45.fn : E.fn 45 = some ⟨19, (Try.f45.body.getD .skip), Try.f45.results.toList, []⟩ := rfl
theorem F45_ok {F : Nat} {m : Mem} {n : Nat} {r : Int} {t0 : Int} (h : F45 F t0 = some r)  : Ret E n 45 [.sc (.int .u32 t0)] m n (fun v m' n' => v = .sc (.int .i64 r)) := by
  unfold F45 at h
  refine Ret.walk F45.fn ?_
  refine WC.start fun S0 em en hz => ?_
  refine WC.seq (WC.region (WO.asg rfl (WO.nil (thenL_n (WC.seq (WC.seq (WC.region (WO.mv rfl ?_))))))))
  refine WO.bin rfl rfl (by decide) (by decide) rfl ?_
  refine WO.nil (thenL_n ?_)
  obtain ⟨b4, e5, h⟩ := bindS h
  refine WC.mono (Q' := (fun b e l' m' n' => e = .normal ∧ ∃ S6 : Cx n, S6.m = m' ∧ S6.n = n' ∧ Cov l' [(0, .sc (.int .u32 b.1)), (2, .sc (.int .i64 b.2))]) b4) ?_ ?_
  · have h := e5
    dsimp only at h ⊢
    refine WC.cond rfl (fun q1 => ?_) (fun q1 => ?_)
    · have h := iteT q1 h
      refine WC.seq (WC.region (WO.mv rfl ?_))
      obtain ⟨x2, e3, h⟩ := bindS h
      refine WO.shrD rfl rfl e3 ?_
      refine WO.asg rfl (WO.nil (thenL_n (WC.region (WO.asg rfl (WO.nil ?_)))))
      obtain rfl := someI h
      exact ⟨rfl, ⟨S0, rfl, rfl, (Cov.cons rfl (Cov.cons rfl (Cov.nil _)))⟩⟩
    · have h := iteF q1 h
      refine WC.skip ?_
      obtain rfl := someI h
      exact ⟨rfl, ⟨S0, rfl, rfl, (Cov.cons rfl (Cov.cons rfl (Cov.nil _)))⟩⟩
  dsimp only
  rintro _ _ _ _ ⟨rfl, ⟨S7, rfl, rfl, hc8⟩⟩
  refine thenL_n (WC.cov hc8 (WC.seq (WC.seq (WC.region (WO.mv rfl ?_)))))
  refine WO.bin rfl rfl (by decide) (by decide) rfl ?_
  refine WO.nil (thenL_n ?_)
  refine WC.cond rfl (fun q9 => ?_) (fun q9 => ?_)
  · have h := iteT q9 h
    refine WC.seq (WC.region (WO.mv rfl ?_))
    obtain ⟨x10, e11, h⟩ := bindS h
    refine WO.shrD rfl rfl e11 ?_
    refine WO.asg rfl (WO.nil (thenL_n (WC.region (WO.mv rfl ?_))))
    refine WO.bin rfl rfl (by decide) (by decide) rfl ?_
    refine WO.asg rfl (WO.nil (thenL_n (WC.seq (WC.region (WO.mv rfl (WO.mv rfl ?_))))))
    refine WO.conv rfl rfl rfl rfl ?_
    obtain ⟨x12, e13, h⟩ := bindS h
    refine WO.ixT rfl rfl e13 rfl rfl ?_
    refine WO.conv rfl rfl rfl rfl ?_
    refine WO.bin rfl rfl (by decide) (by decide) rfl ?_
    refine WO.asg rfl (WO.nil (thenL_n (WC.ret ?_)))
    obtain rfl := someI h
    exact ⟨.inr rfl, _, _, rfl, rfl, rfl⟩
  · have h := iteF q9 h
    refine WC.skip (thenL_n (WC.seq (WC.region (WO.mv rfl (WO.mv rfl ?_)))))
    refine WO.conv rfl rfl rfl rfl ?_
    obtain ⟨x14, e15, h⟩ := bindS h
    refine WO.ixT rfl rfl e15 rfl rfl ?_
    refine WO.conv rfl rfl rfl rfl ?_
    refine WO.bin rfl rfl (by decide) (by decide) rfl ?_
    refine WO.asg rfl (WO.nil (thenL_n (WC.ret ?_)))
    obtain rfl := someI h
    exact ⟨.inr rfl, _, _, rfl, rfl, rfl⟩
end Go.Proofs.Ytaphdnpjpmnaeaa

namespace Go.Proofs.Ytaphdnpjpmnaeaa
open Go.Am
theorem F46.fn : E.fn 46 = some ⟨25, (Try.f46.body.getD .skip), Try.f46.results.toList, []⟩ := rfl
theorem F46_ok {F : Nat} {m : Mem} {n : Nat} {r : Int} {t0 : Int} (h : F46 F t0 = some r)  : Ret E n 46 [.sc (.int .u64 t0)] m n (fun v m' n' => v = .sc (.int .i64 r)) := by
  unfold F46 at h
  refine Ret.walk F46.fn ?_
  refine WC.start fun S0 em en hz => ?_
  refine WC.seq (WC.region (WO.asg rfl (WO.nil (thenL_n (WC.seq (WC.seq (WC.region (WO.mv rfl ?_))))))))
  refine WO.bin rfl rfl (by decide) (by decide) rfl ?_
  refine WO.nil (thenL_n ?_)
  obtain ⟨b4, e5, h⟩ := bindS h
  refine WC.mono (Q' := (fun b e l' m' n' => e = .normal ∧ ∃ S6 : Cx n, S6.m = m' ∧ S6.n = n' ∧ Cov l' [(0, .sc (.int .u64 b.1)), (2, .sc (.int .i64 b.2))]) b4) ?_ ?_
  · have h := e5
    dsimp only at h ⊢
    refine WC.cond rfl (fun q1 => ?_) (fun q1 => ?_)
    · have h := iteT q1 h
      refine WC.seq (WC.region (WO.mv rfl ?_))
      obtain ⟨x2, e3, h⟩ := bindS h
      refine WO.shrD rfl rfl e3 ?_
      refine WO.asg rfl (WO.nil (thenL_n (WC.region (WO.asg rfl (WO.nil ?_)))))
      obtain rfl := someI h
      exact ⟨rfl, ⟨S0, rfl, rfl, (Cov.cons rfl (Cov.cons rfl (Cov.nil _)))⟩⟩
    · have h := iteF q1 h
      refine WC.skip ?_
      obtain rfl := someI h
      exact ⟨rfl, ⟨S0, rfl, rfl, (Cov.cons rfl (Cov.cons rfl (Cov.nil _)))⟩⟩
  dsimp only
  rintro _ _ _ _ ⟨rfl, ⟨S7, rfl, rfl, hc8⟩⟩
  refine thenL_n (WC.cov hc8 (WC.seq (WC.seq (WC.region (WO.mv rfl ?_)))))
  refine WO.bin rfl rfl (by decide) (by decide) rfl ?_
  refine WO.nil (thenL_n ?_)
  obtain ⟨b12, e13, h⟩ := bindS h
  refine WC.mono (Q' := (fun b e l' m' n' => e = .normal ∧ ∃ S14 : Cx n, S14.m = m' ∧ S14.n = n' ∧ Cov l' [(0, .sc (.int .u64 b.1)), (2, .sc (.int .i64 b.2))]) b12) ?_ ?_
  · have h := e13
    dsimp only at h ⊢
    refine WC.cond rfl (fun q9 => ?_) (fun q9 => ?_)
    · have h := iteT q9 h
      refine WC.seq (WC.region (WO.mv rfl ?_))
      obtain ⟨x10, e11, h⟩ := bindS h
      refine WO.shrD rfl rfl e11 ?_
      refine WO.asg rfl (WO.nil (thenL_n (WC.region (WO.mv rfl ?_))))
      refine WO.bin rfl rfl (by decide) (by decide) rfl ?_
      refine WO.asg rfl (WO.nil ?_)
      obtain rfl := someI h
      exact ⟨rfl, ⟨S7, rfl, rfl, (Cov.cons rfl (Cov.cons rfl (Cov.nil _)))⟩⟩
    · have h := iteF q9 h
      refine WC.skip ?_
      obtain rfl := someI h
      exact ⟨rfl, ⟨S7, rfl, rfl, (Cov.cons rfl (Cov.cons rfl (Cov.nil _)))⟩⟩
  dsimp only
  rintro _ _ _ _ ⟨rfl, ⟨S15, rfl, rfl, hc16⟩⟩
  refine thenL_n (WC.cov hc16 (WC.seq (WC.seq (WC.region (WO.mv rfl ?_)))))
  refine WO.bin rfl rfl (by decide) (by decide) rfl ?_
  refine WO.nil (thenL_n ?_)
  refine WC.cond rfl (fun q17 => ?_) (fun q17 => ?_)
  · have h := iteT q17 h
    refine WC.seq (WC.region (WO.mv rfl ?_))
    obtain ⟨x18, e19, h⟩ := bindS h
    refine WO.shrD rfl rfl e19 ?_
    refine WO.asg rfl (WO.nil (thenL_n (WC.region (WO.mv rfl ?_))))
    refine WO.bin rfl rfl (by decide) (by decide) rfl ?_
    refine WO.asg rfl (WO.nil (thenL_n (WC.seq (WC.region (WO.mv rfl (WO.mv rfl ?_))))))
    refine WO.conv rfl rfl rfl rfl ?_
    obtain ⟨x20, e21, h⟩ := bindS h
    refine WO.ixT rfl rfl e21 rfl rfl ?_
    refine WO.conv rfl rfl rfl rfl ?_
    refine WO.bin rfl rfl (by decide) (by decide) rfl ?_
    refine WO.asg rfl (WO.nil (thenL_n (WC.ret ?_)))
    obtain rfl := someI h
    exact ⟨.inr rfl, _, _, rfl, rfl, rfl⟩
  · have h := iteF q17 h
    refine WC.skip (thenL_n (WC.seq (WC.region (WO.mv rfl (WO.mv rfl ?_)))))
    refine WO.conv rfl rfl rfl rfl ?_
    obtain ⟨x22, e23, h⟩ := bindS h
    refine WO.ixT rfl rfl e23 rfl rfl ?_
    refine WO.conv rfl rfl rfl rfl ?_
    refine WO.bin rfl rfl (by decide) (by decide) rfl ?_
    refine WO.asg rfl (WO.nil (thenL_n (WC.ret ?_)))
    obtain rfl := someI h
    exact ⟨.inr rfl, _, _, rfl, rfl, rfl⟩
end Go.Proofs.Ytaphdnpjpmnaeaa

namespace Go.Proofs.Ytaphdnpjpmnaeaa
open Go.Am
theorem F29.fn : E.fn 29 = some ⟨8, (Try.f29.body.getD .skip), Try.f29.results.toList, []⟩ := rfl
theorem F29_ok {F : Nat} {m : Mem} {n : Nat} {r : Int} {t0 : Int} (h : F29 F t0 = some r)  : Ret E n 29 [.sc (.int .u64 t0)] m n (fun v m' n' => v = .sc (.int .i64 r)) := by
  unfold F29 at h
  refine Ret.walk F29.fn ?_
  refine WC.start fun S0 em en hz => ?_
  refine WC.seq (WC.region (WO.asg rfl (WO.nil (thenL_n (WC.seq ?_)))))
  refine WC.cond rfl (fun q1 => ?_) (fun q1 => ?_)
  · have h := iteT q1 h
    refine WC.seq (WC.region (WO.mv rfl ?_))
    refine WO.conv rfl rfl rfl rfl ?_
    obtain ⟨r2, e3, h⟩ := bindS h
    refine WO.callE (S := S0) rfl rfl (F45_ok e3) (fun S4 c5 => ?_)
    refine WO.asg rfl (WO.nil (thenL_n (WC.ret (thenL_r ?_))))
    obtain rfl := someI h
    exact ⟨.inr rfl, _, _, rfl, rfl, rfl⟩
  · have h := iteF q1 h
    refine WC.skip (thenL_n (WC.seq (WC.region (WO.mv rfl ?_))))
    obtain ⟨r6, e7, h⟩ := bindS h
    refine WO.callE (S := S0) rfl rfl (F46_ok e7) (fun S8 c9 => ?_)
    refine WO.asg rfl (WO.nil (thenL_n (WC.ret ?_)))
    obtain rfl := someI h
    exact ⟨.inr rfl, _, _, rfl, rfl, rfl⟩
end Go.Proofs.Ytaphdnpjpmnaeaa

namespace Go.Proofs.Ytaphdnpjpmnaeaa
open Go.Am
theorem F47.fn : E.fn 47 = some ⟨6, (Try.f47.body.getD .skip), Try.f47.results.toList, []⟩ := rfl
theorem F47_ok {F : Nat} {m : Mem} {n : Nat} {r : Bool} {t0 : Int} (h : F47 F t0 = some r)  : Ret E n 47 [.sc (.int .i64 t0)] m n (fun v m' n' => v = .sc (.bool r)) := by
  unfold F47 at h
  refine Ret.walk F47.fn ?_
  refine WC.start fun S0 em en hz => ?_
  refine WC.seq (WC.region (WO.asg rfl (WO.nil (thenL_n (WC.seq (WC.region (WO.mv rfl (WO.mv rfl ?_))))))))
  refine WO.bin rfl rfl (by decide) (by decide) rfl ?_
  refine WO.asg rfl (WO.nil (thenL_n (WC.ret ?_)))
  obtain rfl := someI h
  exact ⟨.inr rfl, _, _, rfl, rfl, rfl⟩
end Go.Proofs.Ytaphdnpjpmnaeaa

namespace Go.Proofs.Ytaphdnpjpmnaeaa
open Go.Am
theorem F30.fn : E.fn 30 = some ⟨20, (Try.f30.body.getD .skip), Try.f30.results.toList, []⟩ := rfl
theorem F30_ok {F : Nat} {m : Mem} {n : Nat} {r : Int} {t0 : Int} {t1 : Int} (h : F30 F t0 t1 = some r)  : Ret E n 30 [.sc (.int .i64 t0), .sc (.int .i64 t1)] m n (fun v m' n' => v = .sc (.int .i64 r)) := by
  unfold F30 at h
  refine Ret.walk F30.fn ?_
  refine WC.start fun S0 em en hz => ?_
  refine WC.seq (WC.region (WO.asg rfl (WO.nil (thenL_n (WC.seq (WC.region (WO.mv rfl ?_)))))))
  obtain ⟨r1, e2, h⟩ := bindS h
  refine WO.callE (S := S0) rfl rfl (F47_ok e2) (fun S3 c4 => ?_)
  refine WO.asg rfl (WO.nil (thenL_n (WC.seq (WC.region (WO.mv rfl ?_)))))
  obtain ⟨r5, e6, h⟩ := bindS h
  refine WO.callE (S := S3) rfl rfl (F47_ok e6) (fun S7 c8 => ?_)
  refine WO.asg rfl (WO.nil (thenL_n (WC.seq (WC.seq (WC.region (WO.mv rfl (WO.nil (thenL_n ?_))))))))
  refine WC.cond rfl (fun q9 => ?_) (fun q9 => ?_)
  · have h := iteT q9 h
    refine WC.seq (WC.seq (WC.region (WO.mv rfl (WO.nil (thenL_n ?_)))))
    refine WC.cond rfl (fun q10 => ?_) (fun q10 => ?_)
    · have h := iteT q10 h
      refine WC.seq (WC.region (WO.asg rfl (WO.nil (thenL_n (WC.ret (thenL_r (thenL_r ?_)))))))
      obtain rfl := someI h
      exact ⟨.inr rfl, _, _, rfl, rfl, rfl⟩
    · have h := iteF q10 h
      refine WC.skip (thenL_n (WC.seq (WC.region (WO.asg rfl (WO.nil (thenL_n (WC.ret (thenL_r ?_))))))))
      obtain rfl := someI h
      exact ⟨.inr rfl, _, _, rfl, rfl, rfl⟩
  · have h := iteF q9 h
    refine WC.skip (thenL_n (WC.seq (WC.seq (WC.region (WO.mv rfl (WO.nil (thenL_n ?_)))))))
    refine WC.cond rfl (fun q11 => ?_) (fun q11 => ?_)
    · have h := iteT q11 h
      refine WC.seq (WC.region (WO.asg rfl (WO.nil (thenL_n (WC.ret (thenL_r ?_))))))
      obtain rfl := someI h
      exact ⟨.inr rfl, _, _, rfl, rfl, rfl⟩
    · have h := iteF q11 h
      refine WC.skip (thenL_n (WC.seq (WC.seq (WC.region (WO.mv rfl (WO.mv rfl ?_))))))
      refine WO.bin rfl rfl (by decide) (by decide) rfl ?_
      refine WO.nil (thenL_n ?_)
      refine WC.cond rfl (fun q12 => ?_) (fun q12 => ?_)
      · have h := iteT q12 h
        refine WC.seq (WC.region (WO.asg rfl (WO.nil (thenL_n (WC.ret (thenL_r ?_))))))
        obtain rfl := someI h
        exact ⟨.inr rfl, _, _, rfl, rfl, rfl⟩
      · have h := iteF q12 h
        refine WC.skip (thenL_n (WC.seq (WC.seq (WC.region (WO.mv rfl (WO.mv rfl ?_))))))
        refine WO.bin rfl rfl (by decide) (by decide) rfl ?_
        refine WO.nil (thenL_n ?_)
        refine WC.cond rfl (fun q13 => ?_) (fun q13 => ?_)
        · have h := iteT q13 h
          refine WC.seq (WC.region (WO.asg rfl (WO.nil (thenL_n (WC.ret (thenL_r ?_))))))
          obtain rfl := someI h
          exact ⟨.inr rfl, _, _, rfl, rfl, rfl⟩
        · have h := iteF q13 h
          refine WC.skip (thenL_n (WC.seq (WC.region (WO.asg rfl (WO.nil (thenL_n (WC.ret ?_)))))))
          obtain rfl := someI h
          exact ⟨.inr rfl, _, _, rfl, rfl, rfl⟩
end Go.Proofs.Ytaphdnpjpmnaeaa

namespace Go.Proofs.Ytaphdnpjpmnaeaa
open Go.Am
theorem F17.fn : E.fn 17 = some ⟨36, (Try.f17.body.getD .skip), Try.f17.results.toList, []⟩ := rfl
theorem F17_ok {F : Nat} {m : Mem} {n : Nat} {r : Int} {t0 : List Int} {t1 : List Int} {vt0 : SV} {vt1 : SV} (h : F17 F t0 t1 = some r) (kt0 : Vw Y3 n m vt0 t0) (kt1 : Vw Y3 n m vt1 t1) : Ret E n 17 [.sc vt0, .sc vt1] m n (fun v m' n' => v = .sc (.int .i64 r)) := by
  unfold F17 at h
  refine Ret.walk F17.fn ?_
  refine WC.start fun S0 em en hz => ?_
  have hot0 := kt0.rdS em hz
  have hot1 := kt1.rdS em hz
  refine WC.seq (WC.region (WO.asg rfl (WO.nil (thenL_n (WC.seq (WC.seq (WC.region (WO.mv rfl ?_))))))))
  refine WO.lenS rfl hot0.slv rfl ?_
  refine WO.mv rfl (WO.nil (thenL_n (WC.block ?_)))
  obtain ⟨b19, e20, h⟩ := bindS h
  refine WC.loopD e20 (fun s1 l' m' n' => ∃ S2 : Cx n, S2.m = m' ∧ S2.n = n' ∧ Cov l' [(0, .sc vt0), (1, .sc vt1), (9, .sc vt0), (10, .sc (.int .i64 ((t0.length : Int)))), (11, .sc (.int .i64 s1))] ∧ Rd Y3 S2 vt0 t0 ∧ Rd Y3 S2 vt1 t1) (fun b e l' m' n' => (match b with | .inl b3 => e = .exit 0 ∧ ∃ S4 : Cx n, S4.m = m' ∧ S4.n = n' ∧ Cov l' [(0, .sc vt0), (1, .sc vt1)] ∧ Rd Y3 S4 vt0 t0 ∧ Rd Y3 S4 vt1 t1 | .inr b3 => e = .ret ∧ ∃ S5 : Cx n, S5.m = m' ∧ S5.n = n' ∧ Cov l' [(4, .sc (.int .i64 b3))])) (by exact ⟨S0, rfl, rfl, (Cov.cons rfl (Cov.cons rfl (Cov.cons rfl (Cov.cons rfl (Cov.cons rfl (Cov.nil _)))))), hot0, hot1⟩) ?_ ?_
  · clear h
    rintro s1 q _ _ _ ⟨S6, rfl, rfl, hc7, hot0, hot1⟩ h
    unfold F17_l0 at h
    refine WC.cov hc7 (WC.seq (WC.region ?_))
    refine WO.bin rfl rfl (by decide) (by decide) rfl ?_
    refine WO.nil (thenL_n (WC.seq ?_))
    refine WC.cond rfl (fun q8 => ?_) (fun q8 => ?_)
    · have h := iteT q8 h
      refine WC.skip (thenL_n (WC.seq (WC.block (WC.seq (WC.region (WO.mv rfl ?_))))))
      obtain ⟨x9, e10, h⟩ := bindS h
      refine WO.ixS rfl rfl hot0.slv (at?_lt e10) rfl ?_
      refine WO.ldF rfl hot0.ro (fun _ hi => hi) (at?_get e10) rfl rfl rfl ?_
      refine WO.asg rfl (WO.asg rfl (WO.nil (thenL_n (WC.seq (WC.seq (WC.region (WO.mv rfl (WO.mv rfl ?_))))))))
      refine WO.lenS rfl hot1.slv rfl ?_
      refine WO.bin rfl rfl (by decide) (by decide) rfl ?_
      refine WO.nil (thenL_n ?_)
      refine WC.cond rfl (fun q11 => ?_) (fun q11 => ?_)
      · have h := iteT q11 h
        refine WC.seq (WC.region (WO.asg rfl (WO.nil (thenL_n (WC.ret (thenL_r (blockL_r (thenL_r (thenL_r ?_)))))))))
        obtain rfl := someI h
        exact ⟨_, rfl, rfl, ⟨S6, rfl, rfl, (Cov.cons rfl (Cov.nil _))⟩⟩
      · have h := iteF q11 h
        refine WC.skip (thenL_n (WC.seq (WC.region (WO.mv rfl (WO.mv rfl ?_)))))
        obtain ⟨x12, e13, h⟩ := bindS h
        refine WO.ixS rfl rfl hot1.slv (at?_lt e13) rfl ?_
        refine WO.ldF rfl hot1.ro (fun _ hi => hi) (at?_get e13) rfl rfl rfl ?_
        refine WO.asg rfl (WO.nil (thenL_n (WC.seq (WC.region (WO.mv rfl (WO.mv rfl ?_))))))
        obtain ⟨r14, e15, h⟩ := bindS h
        refine WO.callE (S := S6) rfl rfl (F30_ok e15) (fun S16 c17 => ?_)
        have hot0 := hot0.to c17
        have hot1 := hot1.to c17
        refine WO.asg rfl (WO.nil (thenL_n (WC.seq (WC.region (WO.mv rfl ?_)))))
        refine WO.bin rfl rfl (by decide) (by decide) rfl ?_
        refine WO.nil (thenL_n ?_)
        refine WC.cond rfl (fun q18 => ?_) (fun q18 => ?_)
        · have h := iteT q18 h
          refine WC.seq (WC.region (WO.mv rfl (WO.asg rfl (WO.nil (thenL_n (WC.ret (blockL_r (thenL_r (thenL_r ?_)))))))))
          obtain rfl := someI h
          exact ⟨_, rfl, rfl, ⟨S16, rfl, rfl, (Cov.cons rfl (Cov.nil _))⟩⟩
        · have h := iteF q18 h
          refine WC.skip (blockL_n (thenL_n (WC.region ?_)))
          refine WO.bin rfl rfl (by decide) (by decide) rfl ?_
          refine WO.mv rfl (WO.nil (thenL_n ?_))
          obtain rfl := someI h
          exact ⟨_, rfl, ⟨S16, rfl, rfl, (Cov.cons rfl (Cov.cons rfl (Cov.cons rfl (Cov.cons rfl (Cov.cons rfl (Cov.nil _)))))), hot0, hot1⟩⟩
    · have h := iteF q8 h
      refine WC.exit (thenL_e (thenL_e ?_))
      obtain rfl := someI h
      exact ⟨_, rfl, rfl, ⟨S6, rfl, rfl, (Cov.cons rfl (Cov.cons rfl (Cov.nil _))), hot0, hot1⟩⟩
  cases b19 with
  | inl b21 =>
    simp only at h
    rintro _ _ _ _ ⟨rfl, ⟨S22, rfl, rfl, hc23, hot0, hot1⟩⟩
    refine blockL_s (thenL_n (WC.cov hc23 (WC.seq (WC.seq (WC.region (WO.mv rfl ?_))))))
    refine WO.lenS rfl hot0.slv rfl ?_
    refine WO.mv rfl ?_
    refine WO.lenS rfl hot1.slv rfl ?_
    refine WO.bin rfl rfl (by decide) (by decide) rfl ?_
    refine WO.nil (thenL_n ?_)
    refine WC.cond rfl (fun q24 => ?_) (fun q24 => ?_)
    · have h := iteT q24 h
      refine WC.seq (WC.region (WO.asg rfl (WO.nil (thenL_n (WC.ret (thenL_r ?_))))))
      obtain rfl := someI h
      exact ⟨.inr rfl, _, _, rfl, rfl, rfl⟩
    · have h := iteF q24 h
      refine WC.skip (thenL_n (WC.seq (WC.region (WO.asg rfl (WO.nil (thenL_n (WC.ret ?_)))))))
      obtain rfl := someI h
      exact ⟨.inr rfl, _, _, rfl, rfl, rfl⟩
  | inr b21 =>
    simp only at h
    rintro _ _ _ _ ⟨rfl, ⟨S25, rfl, rfl, hc26⟩⟩
    refine blockL_r (thenL_r ?_)
    obtain rfl := someI h
    exact ⟨.inr rfl, _, _, (resK_cov hc26 rfl), rfl, rfl⟩
end Go.Proofs.Ytaphdnpjpmnaeaa

namespace Go.Proofs.Ytaphdnpjpmnaeaa
open Go.Am
theorem F37_17.fn : E.fn 37 = some ⟨53, (Try.f37.body.getD .skip), Try.f37.results.toList, []⟩ := rfl
theorem F37_17_ok {F : Nat} {fl : Nat} {S0 : Cx fl} {r : (List (List Int))} {t0 : List (List Int)} {t1 : Int} {t2 : Int} {vt0 : SV} (h : F37_17 F t0 t1 t2 = some r) (hot0 : Ow Y23 S0 2 vt0 t0) : Ret E fl 37 [.sc vt0, .sc (.int .i64 t1), .sc (.int .i64 t2), .sc (.fn 17 [])] S0.m S0.n (fun v m' n' => ∃ S' : Cx fl, S'.m = m' ∧ S'.n = n' ∧ ChM S0 S' ∧ (v = .tup [] ∧ Ow Y23 S' 2 vt0 r)) := by
  unfold F37_17 at h
  refine Ret.walk F37_17.fn ?_
  have hM := ChM.refl S0
  refine WC.seq (WC.region (WO.mv rfl ?_))
  refine WO.bin rfl rfl (by decide) (by decide) rfl ?_
  refine WO.asg rfl (WO.nil (thenL_n (WC.block ?_)))
  obtain ⟨b50, e51, h⟩ := bindS h
  refine WC.loopD e51 (fun s1 l' m' n' => ∃ S2 : Cx fl, S2.m = m' ∧ S2.n = n' ∧ Cov l' [(0, .sc vt0), (1, .sc (.int .i64 t1)), (2, .sc (.int .i64 t2)), (3, .sc (.fn 17 [])), (8, .sc (.int .i64 s1.1))] ∧ ChM S0 S2 ∧ Ow Y23 S2 2 vt0 s1.2) (fun b e l' m' n' => e = .exit 0 ∧ ∃ S3 : Cx fl, S3.m = m' ∧ S3.n = n' ∧ Cov l' [(0, .sc vt0)] ∧ ChM S0 S3 ∧ Ow Y23 S3 2 vt0 b) (by exact ⟨S0, rfl, rfl, (Cov.cons rfl (Cov.cons rfl (Cov.cons rfl (Cov.cons rfl (Cov.cons rfl (Cov.nil _)))))), hM, hot0⟩) ?_ ?_
  · clear h
    rintro s1 q _ _ _ ⟨S4, rfl, rfl, hc5, hM, hot0⟩ h
    unfold F37_17_l1 at h
    refine WC.cov hc5 (WC.seq (WC.seq (WC.region (WO.mv rfl (WO.mv rfl ?_)))))
    refine WO.bin rfl rfl (by decide) (by decide) rfl ?_
    refine WO.nil (thenL_n ?_)
    refine WC.cond rfl (fun q6 => ?_) (fun q6 => ?_)
    · have h := iteT q6 h
      refine WC.skip (thenL_n (WC.seq (WC.block (WC.seq (WC.region (WO.mv rfl (WO.asg rfl (WO.nil (thenL_n ?_)))))))))
      refine WC.block ?_
      obtain ⟨b46, e47, h⟩ := bindS h
      refine WC.loopD e47 (fun s7 l' m' n' => ∃ S8 : Cx fl, S8.m = m' ∧ S8.n = n' ∧ Cov l' [(0, .sc vt0), (1, .sc (.int .i64 t1)), (2, .sc (.int .i64 t2)), (3, .sc (.fn 17 [])), (8, .sc (.int .i64 s1.1)), (9, .sc (.int .i64 s7.1))] ∧ ChM S0 S8 ∧ Ow Y23 S8 2 vt0 s7.2) (fun b e l' m' n' => e = .exit 2 ∧ ∃ S9 : Cx fl, S9.m = m' ∧ S9.n = n' ∧ Cov l' [(0, .sc vt0), (1, .sc (.int .i64 t1)), (2, .sc (.int .i64 t2)), (3, .sc (.fn 17 [])), (8, .sc (.int .i64 s1.1))] ∧ ChM S0 S9 ∧ Ow Y23 S9 2 vt0 b) (by exact ⟨S4, rfl, rfl, (Cov.cons rfl (Cov.cons rfl (Cov.cons rfl (Cov.cons rfl (Cov.cons rfl (Cov.cons rfl (Cov.nil _))))))), hM, hot0⟩) ?_ ?_
      · clear h
        rintro s7 q _ _ _ ⟨S10, rfl, rfl, hc11, hM, hot0⟩ h
        unfold F37_17_l0 at h
        refine WC.cov hc11 (WC.seq (WC.seq ?_))
        refine WC.drawN rfl rfl ?_
        have hot0z := hot0.oz
        refine WO.mv rfl (WO.mv rfl ?_)
        refine WO.bin rfl rfl (by decide) (by decide) rfl ?_
        refine WO.mv rfl ?_
        obtain ⟨y25, e26, h⟩ := bindS h
        refine WO.cutS (d := 34) (S := S10) 13 y25 (fun q24 => ?_) (fun q24 => ?_) (fun S27 c28 => ?_)
        · have h := e26
          have h := iteT q24 h
          refine WO.gyes rfl rfl (WO.mv rfl (WO.gyes rfl rfl (WO.mv rfl (WO.gyes rfl rfl (WO.mv rfl (WO.gyes rfl rfl ?_))))))
          obtain ⟨L12, e13, h⟩ := bindS h
          refine WO.ixS rfl rfl hot0.slv (at?_lt e13) rfl ?_
          refine WO.gyes rfl rfl ?_
          refine WO.ldS rfl hot0z (fun _ hi => hi.1) (at?_get e13) rfl (limLe_self _) (fun v14 ho15 => ?_)
          have ho15 : Rd Y3 S10 v14 L12 := ho15
          refine WO.gyes rfl rfl (WO.mv rfl (WO.gyes rfl rfl (WO.mv rfl (WO.gyes rfl rfl ?_))))
          refine WO.bin rfl rfl (by decide) (by decide) rfl ?_
          refine WO.gyes rfl rfl ?_
          obtain ⟨L16, e17, h⟩ := bindS h
          refine WO.ixS rfl rfl hot0.slv (at?_lt e17) rfl ?_
          refine WO.gyes rfl rfl ?_
          refine WO.ldS rfl hot0z (fun _ hi => hi.1) (at?_get e17) rfl (limLe_self _) (fun v18 ho19 => ?_)
          have ho19 : Rd Y3 S10 v18 L16 := ho19
          refine WO.gyes rfl rfl ?_
          obtain ⟨r20, e21, h⟩ := bindS h
          refine WO.callE (S := S10) rfl rfl (F17_ok e21 ho15.vw ho19.vw) (fun S22 c23 => ?_)
          have hot0z := hot0z.tow c23
          have hM := hM.to c23
          have hot0 := hot0.to c23
          have ho15 := ho15.to c23
          have ho19 := ho19.to c23
          refine WO.gyes rfl rfl ?_
          refine WO.bin rfl rfl (by decide) (by decide) rfl ?_
          obtain rfl := someI h
          refine WO.pickT rfl rfl ?_
          refine WO.nil ?_
          exact ⟨S22, rfl, rfl, c23, (Cov.cons rfl (Cov.skip rfl (Cov.skip rfl (Cov.skip rfl (Cov.skip rfl (Cov.skip rfl (Cov.skip rfl (Cov.skip rfl (Cov.skip rfl (Cov.skip rfl (Cov.skip rfl (Cov.skip rfl (Cov.skip rfl (Cov.skip rfl (Cov.skip rfl (Cov.refl _))))))))))))))))⟩
        · have h := e26
          have h := iteF q24 h
          obtain rfl := someI h
          refine WO.gno rfl rfl (WO.gno rfl rfl (WO.gno rfl rfl (WO.gno rfl rfl (WO.gno rfl rfl (WO.gno rfl rfl (WO.gno rfl rfl (WO.gno rfl rfl (WO.gno rfl rfl (WO.gno rfl rfl ?_)))))))))
          refine WO.gno rfl rfl (WO.gno rfl rfl ?_)
          refine WO.pickF rfl rfl ?_
          refine WO.nil ?_
          exact ⟨S10, rfl, rfl, Ch.refl _ _, (Cov.cons rfl (Cov.skip rfl (Cov.skip rfl (Cov.skip rfl (Cov.skip rfl (Cov.skip rfl (Cov.skip rfl (Cov.skip rfl (Cov.skip rfl (Cov.skip rfl (Cov.skip rfl (Cov.skip rfl (Cov.skip rfl (Cov.skip rfl (Cov.skip rfl (Cov.refl _))))))))))))))))⟩
        have hot0z := hot0z.tow c28
        have hM := hM.to c28
        have hot0 := hot0.to c28
        refine WO.nil (thenL_n ?_)
        refine WC.cond rfl (fun q29 => ?_) (fun q29 => ?_)
        · have h := iteT q29 h
          refine WC.skip (thenL_n (WC.seq (WC.block ?_)))
          refine WC.drawN rfl rfl ?_
          have hot0z := hot0.oz
          refine WO.mv rfl (WO.mv rfl (WO.mv rfl (WO.mv rfl ?_)))
          refine WO.bin rfl rfl (by decide) (by decide) rfl ?_
          refine WO.mv rfl (WO.mv rfl ?_)
          refine WO.bin rfl rfl (by decide) (by decide) rfl ?_
          obtain ⟨L30, e31, h⟩ := bindS h
          refine WO.ixS rfl rfl hot0.slv (at?_lt e31) rfl ?_
          refine WO.ldS rfl hot0z (fun _ hi => hi.1) (at?_get e31) rfl (limLe_self _) (fun v32 ho33 => ?_)
          have ho33 : Rd Y3 S27 v32 L30 := ho33
          refine WO.mv rfl (WO.mv rfl ?_)
          obtain ⟨L34, e35, h⟩ := bindS h
          refine WO.ixS rfl rfl hot0.slv (at?_lt e35) rfl ?_
          refine WO.ldS rfl hot0z (fun _ hi => hi.1) (at?_get e35) rfl (limLe_self _) (fun v36 ho37 => ?_)
          have ho37 : Rd Y3 S27 v36 L34 := ho37
          obtain ⟨u38, e39, h⟩ := bindS h
          refine WO.ixS rfl rfl hot0.slv (ck_some e39) rfl ?_
          refine WO.stS (S := S27) rfl rfl hot0 (ck_nat e39) ho33 rfl rfl (fun S40 c41 hot0 => ?_)
          have hM := hM.to c41
          have ho33 := ho33.to c41
          have ho37 := ho37.to c41
          obtain ⟨u42, e43, h⟩ := bindS h
          refine WO.ixS rfl rfl hot0.slv (ck_some e43) rfl ?_
          refine WO.stS (S := S40) rfl rfl hot0 (ck_nat e43) ho37 rfl rfl (fun S44 c45 hot0 => ?_)
          have hM := hM.to c45
          have ho33 := ho33.to c45
          have ho37 := ho37.to c45
          refine WO.nil (blockL_n (thenL_n (WC.region (WO.mv rfl ?_))))
          refine WO.bin rfl rfl (by decide) (by decide) rfl ?_
          refine WO.asg rfl (WO.nil (thenL_n ?_))
          obtain rfl := someI h
          exact ⟨_, rfl, ⟨S44, rfl, rfl, (Cov.cons rfl (Cov.cons rfl (Cov.cons rfl (Cov.cons rfl (Cov.cons rfl (Cov.cons rfl (Cov.nil _))))))), hM, hot0⟩⟩
        · have h := iteF q29 h
          refine WC.exit (thenL_e (thenL_e ?_))
          obtain rfl := someI h
          exact ⟨_, rfl, rfl, ⟨S27, rfl, rfl, (Cov.cons rfl (Cov.cons rfl (Cov.cons rfl (Cov.cons rfl (Cov.cons rfl (Cov.nil _)))))), hM, hot0⟩⟩
      rintro _ _ _ _ ⟨rfl, ⟨S48, rfl, rfl, hc49, hM, hot0⟩⟩
      refine blockL_s (blockL_n (thenL_n (WC.cov hc49 (WC.region (WO.mv rfl ?_)))))
      refine WO.bin rfl rfl (by decide) (by decide) rfl ?_
      refine WO.asg rfl (WO.nil (thenL_n ?_))
      obtain rfl := someI h
      exact ⟨_, rfl, ⟨S48, rfl, rfl, (Cov.cons rfl (Cov.cons rfl (Cov.cons rfl (Cov.cons rfl (Cov.cons rfl (Cov.nil _)))))), hM, hot0⟩⟩
    · have h := iteF q6 h
      refine WC.exit (thenL_e (thenL_e ?_))
      obtain rfl := someI h
      exact ⟨_, rfl, rfl, ⟨S4, rfl, rfl, (Cov.cons rfl (Cov.nil _)), hM, hot0⟩⟩
  rintro _ _ _ _ ⟨rfl, ⟨S52, rfl, rfl, hc53, hM, hot0⟩⟩
  refine blockL_s ?_
  obtain rfl := someI h
  exact ⟨.inl rfl, _, _, (resK_cov hc53 rfl), rfl, ⟨S52, rfl, rfl, hM, rfl, hot0⟩⟩
end Go.Proofs.Ytaphdnpjpmnaeaa

namespace Go.Proofs.Ytaphdnpjpmnaeaa
open Go.Am
theorem F51_17.fn : E.fn 51 = some ⟨82, (Try.f51.body.getD .skip), Try.f51.results.toList, []⟩ := rfl
theorem F51_17_ok {F : Nat} {fl : Nat} {S0 : Cx fl} {r : (List (List Int))} {t0 : List (List Int)} {t1 : Int} {t2 : Int} {t3 : Int} {vt0 : SV} (h : F51_17 F t0 t1 t2 t3 = some r) (hot0 : Ow Y23 S0 2 vt0 t0) : Ret E fl 51 [.sc vt0, .sc (.int .i64 t1), .sc (.int .i64 t2), .sc (.int .i64 t3), .sc (.fn 17 [])] S0.m S0.n (fun v m' n' => ∃ S' : Cx fl, S'.m = m' ∧ S'.n = n' ∧ ChM S0 S' ∧ (v = .tup [] ∧ Ow Y23 S' 2 vt0 r)) := by
  unfold F51_17 at h
  refine Ret.walk F51_17.fn ?_
  have hM := ChM.refl S0
  refine WC.seq (WC.region (WO.mv rfl (WO.asg rfl (WO.nil (thenL_n (WC.block ?_))))))
  obtain ⟨b61, e62, h⟩ := bindS h
  refine WC.loopD e62 (fun s1 l' m' n' => ∃ S2 : Cx fl, S2.m = m' ∧ S2.n = n' ∧ Cov l' [(0, .sc vt0), (2, .sc (.int .i64 t2)), (3, .sc (.int .i64 t3)), (4, .sc (.fn 17 [])), (10, .sc (.int .i64 s1.1))] ∧ ChM S0 S2 ∧ Ow Y23 S2 2 vt0 s1.2) (fun b e l' m' n' => (match b with | .inl b3 => e = .exit 0 ∧ ∃ S4 : Cx fl, S4.m = m' ∧ S4.n = n' ∧ Cov l' [(0, .sc vt0)] ∧ ChM S0 S4 ∧ Ow Y23 S4 2 vt0 b3 | .inr b3 => e = .ret ∧ ∃ S5 : Cx fl, S5.m = m' ∧ S5.n = n' ∧ Cov l' [(0, .sc vt0)] ∧ ChM S0 S5 ∧ Ow Y23 S5 2 vt0 b3)) (by exact ⟨S0, rfl, rfl, (Cov.cons rfl (Cov.cons rfl (Cov.cons rfl (Cov.cons rfl (Cov.cons rfl (Cov.nil _)))))), hM, hot0⟩) ?_ ?_
  · clear h
    rintro s1 q _ _ _ ⟨S6, rfl, rfl, hc7, hM, hot0⟩ h
    unfold F51_17_l0 at h
    refine WC.cov hc7 (WC.block (WC.seq (WC.region (WO.mv rfl ?_))))
    refine WO.bin rfl rfl (by decide) (by decide) rfl ?_
    refine WO.bin rfl rfl (by decide) (by decide) rfl ?_
    refine WO.asg rfl (WO.nil (thenL_n (WC.seq (WC.seq (WC.region (WO.mv rfl (WO.mv rfl ?_)))))))
    refine WO.bin rfl rfl (by decide) (by decide) rfl ?_
    refine WO.nil (thenL_n ?_)
    refine WC.cond rfl (fun q8 => ?_) (fun q8 => ?_)
    · have h := iteT q8 h
      refine WC.exit (thenL_e (blockL_e rfl (thenL_e ?_)))
      obtain rfl := someI h
      exact ⟨_, rfl, rfl, ⟨S6, rfl, rfl, (Cov.cons rfl (Cov.nil _)), hM, hot0⟩⟩
    · have h := iteF q8 h
      refine WC.skip (thenL_n (WC.seq (WC.seq ?_)))
      refine WC.drawN rfl rfl ?_
      have hot0z := hot0.oz
      refine WO.mv rfl ?_
      refine WO.bin rfl rfl (by decide) (by decide) rfl ?_
      refine WO.mv rfl ?_
      refine WO.bin rfl rfl (by decide) (by decide) rfl ?_
      refine WO.mv rfl ?_
      obtain ⟨y22, e23, h⟩ := bindS h
      refine WO.cutS (d := 40) (S := S6) 17 y22 (fun q21 => ?_) (fun q21 => ?_) (fun S24 c25 => ?_)
      · have h := e23
        have h := iteT q21 h
        refine WO.gyes rfl rfl (WO.mv rfl (WO.gyes rfl rfl (WO.mv rfl (WO.gyes rfl rfl (WO.mv rfl (WO.gyes rfl rfl (WO.mv rfl (WO.gyes rfl rfl ?_))))))))
        refine WO.bin rfl rfl (by decide) (by decide) rfl ?_
        refine WO.gyes rfl rfl ?_
        obtain ⟨L9, e10, h⟩ := bindS h
        refine WO.ixS rfl rfl hot0.slv (at?_lt e10) rfl ?_
        refine WO.gyes rfl rfl ?_
        refine WO.ldS rfl hot0z (fun _ hi => hi.1) (at?_get e10) rfl (limLe_self _) (fun v11 ho12 => ?_)
        have ho12 : Rd Y3 S6 v11 L9 := ho12
        refine WO.gyes rfl rfl (WO.mv rfl (WO.gyes rfl rfl (WO.mv rfl (WO.gyes rfl rfl (WO.mv rfl (WO.gyes rfl rfl ?_))))))
        refine WO.bin rfl rfl (by decide) (by decide) rfl ?_
        refine WO.gyes rfl rfl ?_
        refine WO.bin rfl rfl (by decide) (by decide) rfl ?_
        refine WO.gyes rfl rfl ?_
        obtain ⟨L13, e14, h⟩ := bindS h
        refine WO.ixS rfl rfl hot0.slv (at?_lt e14) rfl ?_
        refine WO.gyes rfl rfl ?_
        refine WO.ldS rfl hot0z (fun _ hi => hi.1) (at?_get e14) rfl (limLe_self _) (fun v15 ho16 => ?_)
        have ho16 : Rd Y3 S6 v15 L13 := ho16
        refine WO.gyes rfl rfl ?_
        obtain ⟨r17, e18, h⟩ := bindS h
        refine WO.callE (S := S6) rfl rfl (F17_ok e18 ho12.vw ho16.vw) (fun S19 c20 => ?_)
        have hot0z := hot0z.tow c20
        have hM := hM.to c20
        have hot0 := hot0.to c20
        have ho12 := ho12.to c20
        have ho16 := ho16.to c20
        refine WO.gyes rfl rfl ?_
        refine WO.bin rfl rfl (by decide) (by decide) rfl ?_
        obtain rfl := someI h
        refine WO.pickT rfl rfl ?_
        refine WO.nil ?_
        exact ⟨S19, rfl, rfl, c20, (Cov.cons rfl (Cov.skip rfl (Cov.skip rfl (Cov.skip rfl (Cov.skip rfl (Cov.skip rfl (Cov.skip rfl (Cov.skip rfl (Cov.skip rfl (Cov.skip rfl (Cov.skip rfl (Cov.skip rfl (Cov.skip rfl (Cov.skip rfl (Cov.skip rfl (Cov.skip rfl (Cov.skip rfl (Cov.skip rfl (Cov.skip rfl (Cov.refl _))))))))))))))))))))⟩
      · have h := e23
        have h := iteF q21 h
        obtain rfl := someI h
        refine WO.gno rfl rfl (WO.gno rfl rfl (WO.gno rfl rfl (WO.gno rfl rfl (WO.gno rfl rfl (WO.gno rfl rfl (WO.gno rfl rfl (WO.gno rfl rfl (WO.gno rfl rfl (WO.gno rfl rfl ?_)))))))))
        refine WO.gno rfl rfl (WO.gno rfl rfl (WO.gno rfl rfl (WO.gno rfl rfl (WO.gno rfl rfl (WO.gno rfl rfl ?_)))))
        refine WO.pickF rfl rfl ?_
        refine WO.nil ?_
        exact ⟨S6, rfl, rfl, Ch.refl _ _, (Cov.cons rfl (Cov.skip rfl (Cov.skip rfl (Cov.skip rfl (Cov.skip rfl (Cov.skip rfl (Cov.skip rfl (Cov.skip rfl (Cov.skip rfl (Cov.skip rfl (Cov.skip rfl (Cov.skip rfl (Cov.skip rfl (Cov.skip rfl (Cov.skip rfl (Cov.skip rfl (Cov.skip rfl (Cov.skip rfl (Cov.skip rfl (Cov.refl _))))))))))))))))))))⟩
      have hot0z := hot0z.tow c25
      have hM := hM.to c25
      have hot0 := hot0.to c25
      refine WO.nil (thenL_n ?_)
      obtain ⟨b27, e28, h⟩ := bindS h
      refine WC.mono (Q' := (fun b e l' m' n' => e = .normal ∧ ∃ S29 : Cx fl, S29.m = m' ∧ S29.n = n' ∧ Cov l' [(0, .sc vt0), (2, .sc (.int .i64 t2)), (3, .sc (.int .i64 t3)), (4, .sc (.fn 17 [])), (10, .sc (.int .i64 s1.1)), (11, .sc (.int .i64 b))] ∧ ChM S0 S29 ∧ Ow Y23 S29 2 vt0 s1.2) b27) ?_ ?_
      · have h := e28
        dsimp only at h ⊢
        refine WC.cond rfl (fun q26 => ?_) (fun q26 => ?_)
        · have h := iteT q26 h
          refine WC.region (WO.mv rfl ?_)
          refine WO.bin rfl rfl (by decide) (by decide) rfl ?_
          refine WO.asg rfl (WO.nil ?_)
          obtain rfl := someI h
          exact ⟨rfl, ⟨S24, rfl, rfl, (Cov.cons rfl (Cov.cons rfl (Cov.cons rfl (Cov.cons rfl (Cov.cons rfl (Cov.cons rfl (Cov.nil _))))))), hM, hot0⟩⟩
        · have h := iteF q26 h
          refine WC.skip ?_
          obtain rfl := someI h
          exact ⟨rfl, ⟨S24, rfl, rfl, (Cov.cons rfl (Cov.cons rfl (Cov.cons rfl (Cov.cons rfl (Cov.cons rfl (Cov.cons rfl (Cov.nil _))))))), hM, hot0⟩⟩
      dsimp only
      rintro _ _ _ _ ⟨rfl, ⟨S30, rfl, rfl, hc31, hM, hot0⟩⟩
      refine thenL_n (WC.cov hc31 (WC.seq (WC.seq ?_)))
      refine WC.drawN rfl rfl ?_
      have hot0z := hot0.oz
      refine WO.mv rfl (WO.mv rfl (WO.mv rfl (WO.mv rfl ?_)))
      refine WO.bin rfl rfl (by decide) (by decide) rfl ?_
      obtain ⟨L32, e33, h⟩ := bindS h
      refine WO.ixS rfl rfl hot0.slv (at?_lt e33) rfl ?_
      refine WO.ldS rfl hot0z (fun _ hi => hi.1) (at?_get e33) rfl (limLe_self _) (fun v34 ho35 => ?_)
      have ho35 : Rd Y3 S30 v34 L32 := ho35
      refine WO.mv rfl (WO.mv rfl (WO.mv rfl ?_))
      refine WO.bin rfl rfl (by decide) (by decide) rfl ?_
      obtain ⟨L36, e37, h⟩ := bindS h
      refine WO.ixS rfl rfl hot0.slv (at?_lt e37) rfl ?_
      refine WO.ldS rfl hot0z (fun _ hi => hi.1) (at?_get e37) rfl (limLe_self _) (fun v38 ho39 => ?_)
      have ho39 : Rd Y3 S30 v38 L36 := ho39
      obtain ⟨r40, e41, h⟩ := bindS h
      refine WO.callE (S := S30) rfl rfl (F17_ok e41 ho35.vw ho39.vw) (fun S42 c43 => ?_)
      have hot0z := hot0z.tow c43
      have hM := hM.to c43
      have hot0 := hot0.to c43
      have ho35 := ho35.to c43
      have ho39 := ho39.to c43
      refine WO.bin rfl rfl (by decide) (by decide) rfl ?_
      refine WO.do rfl rfl ?_
      refine WO.nil (thenL_n ?_)
      refine WC.cond rfl (fun q44 => ?_) (fun q44 => ?_)
      · have h := iteT q44 h
        refine WC.ret (thenL_r (blockL_r (thenL_r ?_)))
        obtain rfl := someI h
        exact ⟨_, rfl, rfl, ⟨S42, rfl, rfl, (Cov.cons rfl (Cov.nil _)), hM, hot0⟩⟩
      · have h := iteF q44 h
        refine WC.skip (thenL_n (WC.seq ?_))
        refine WC.drawN rfl rfl ?_
        have hot0z := hot0.oz
        have ho35z := ho35.oz
        have ho39z := ho39.oz
        refine WO.mv rfl (WO.mv rfl (WO.mv rfl ?_))
        refine WO.bin rfl rfl (by decide) (by decide) rfl ?_
        refine WO.mv rfl (WO.mv rfl (WO.mv rfl ?_))
        refine WO.bin rfl rfl (by decide) (by decide) rfl ?_
        refine WO.mv rfl (WO.mv rfl (WO.mv rfl ?_))
        refine WO.bin rfl rfl (by decide) (by decide) rfl ?_
        obtain ⟨L45, e46, h⟩ := bindS h
        refine WO.ixS rfl rfl hot0.slv (at?_lt e46) rfl ?_
        refine WO.ldS rfl hot0z (fun _ hi => hi.1) (at?_get e46) rfl (limLe_self _) (fun v47 ho48 => ?_)
        have ho48 : Rd Y3 S42 v47 L45 := ho48
        refine WO.mv rfl (WO.mv rfl (WO.mv rfl ?_))
        refine WO.bin rfl rfl (by decide) (by decide) rfl ?_
        obtain ⟨L49, e50, h⟩ := bindS h
        refine WO.ixS rfl rfl hot0.slv (at?_lt e50) rfl ?_
        refine WO.ldS rfl hot0z (fun _ hi => hi.1) (at?_get e50) rfl (limLe_self _) (fun v51 ho52 => ?_)
        have ho52 : Rd Y3 S42 v51 L49 := ho52
        obtain ⟨u53, e54, h⟩ := bindS h
        refine WO.ixS rfl rfl hot0.slv (ck_some e54) rfl ?_
        refine WO.stS (S := S42) rfl rfl hot0 (ck_nat e54) ho48 rfl rfl (fun S55 c56 hot0 => ?_)
        have ho35z := ho35z.toz c56
        have ho39z := ho39z.toz c56
        have hM := hM.to c56
        have ho35 := ho35.to c56
        have ho39 := ho39.to c56
        have ho48 := ho48.to c56
        have ho52 := ho52.to c56
        obtain ⟨u57, e58, h⟩ := bindS h
        refine WO.ixS rfl rfl hot0.slv (ck_some e58) rfl ?_
        refine WO.stS (S := S55) rfl rfl hot0 (ck_nat e58) ho52 rfl rfl (fun S59 c60 hot0 => ?_)
        have ho35z := ho35z.toz c60
        have ho39z := ho39z.toz c60
        have hM := hM.to c60
        have ho35 := ho35.to c60
        have ho39 := ho39.to c60
        have ho48 := ho48.to c60
        have ho52 := ho52.to c60
        refine WO.nil (thenL_n (WC.region (WO.mv rfl (WO.asg rfl (WO.nil (blockL_n (thenL_n ?_)))))))
        obtain rfl := someI h
        exact ⟨_, rfl, ⟨S59, rfl, rfl, (Cov.cons rfl (Cov.cons rfl (Cov.cons rfl (Cov.cons rfl (Cov.cons rfl (Cov.nil _)))))), hM, hot0⟩⟩
  cases b61 with
  | inl b63 =>
    simp only at h
    rintro _ _ _ _ ⟨rfl, ⟨S64, rfl, rfl, hc65, hM, hot0⟩⟩
    refine blockL_s ?_
    obtain rfl := someI h
    exact ⟨.inl rfl, _, _, (resK_cov hc65 rfl), rfl, ⟨S64, rfl, rfl, hM, rfl, hot0⟩⟩
  | inr b63 =>
    simp only at h
    rintro _ _ _ _ ⟨rfl, ⟨S66, rfl, rfl, hc67, hM, hot0⟩⟩
    refine blockL_r ?_
    obtain rfl := someI h
    exact ⟨.inr rfl, _, _, (resK_cov hc67 rfl), rfl, ⟨S66, rfl, rfl, hM, rfl, hot0⟩⟩
end Go.Proofs.Ytaphdnpjpmnaeaa

namespace Go.Proofs.Ytaphdnpjpmnaeaa
open Go.Am
theorem F38_17.fn : E.fn 38 = some ⟨60, (Try.f38.body.getD .skip), Try.f38.results.toList, []⟩ := rfl
theorem F38_17_ok {F : Nat} {fl : Nat} {S0 : Cx fl} {r : (List (List Int))} {t0 : List (List Int)} {t1 : Int} {t2 : Int} {vt0 : SV} (h : F38_17 F t0 t1 t2 = some r) (hot0 : Ow Y23 S0 2 vt0 t0) : Ret E fl 38 [.sc vt0, .sc (.int .i64 t1), .sc (.int .i64 t2), .sc (.fn 17 [])] S0.m S0.n (fun v m' n' => ∃ S' : Cx fl, S'.m = m' ∧ S'.n = n' ∧ ChM S0 S' ∧ (v = .tup [] ∧ Ow Y23 S' 2 vt0 r)) := by
  unfold F38_17 at h
  refine Ret.walk F38_17.fn ?_
  have hM := ChM.refl S0
  refine WC.seq (WC.region (WO.mv rfl (WO.asg rfl (WO.nil (thenL_n (WC.seq (WC.region (WO.asg rfl (WO.nil ?_)))))))))
  refine thenL_n (WC.seq (WC.region (WO.mv rfl (WO.mv rfl ?_))))
  refine WO.bin rfl rfl (by decide) (by decide) rfl ?_
  refine WO.asg rfl (WO.nil (thenL_n (WC.seq (WC.seq (WC.region (WO.mv rfl ?_))))))
  refine WO.bin rfl rfl (by decide) (by decide) rfl ?_
  refine WO.bin rfl rfl (by decide) (by decide) rfl ?_
  refine WO.asg rfl (WO.nil (thenL_n (WC.block ?_)))
  obtain ⟨b12, e13, h⟩ := bindS h
  refine WC.loopD e13 (fun s1 l' m' n' => ∃ S2 : Cx fl, S2.m = m' ∧ S2.n = n' ∧ Cov l' [(0, .sc vt0), (3, .sc (.fn 17 [])), (8, .sc (.int .i64 t1)), (9, .sc (.int .i64 0)), (10, .sc (.int .i64 ((wrapA .i64 (t2 - t1))))), (11, .sc (.int .i64 s1.1))] ∧ ChM S0 S2 ∧ Ow Y23 S2 2 vt0 s1.2) (fun b e l' m' n' => e = .exit 0 ∧ ∃ S3 : Cx fl, S3.m = m' ∧ S3.n = n' ∧ Cov l' [(0, .sc vt0), (3, .sc (.fn 17 [])), (8, .sc (.int .i64 t1)), (9, .sc (.int .i64 0)), (10, .sc (.int .i64 ((wrapA .i64 (t2 - t1)))))] ∧ ChM S0 S3 ∧ Ow Y23 S3 2 vt0 b) (by exact ⟨S0, rfl, rfl, (Cov.cons rfl (Cov.cons rfl (Cov.cons rfl (Cov.cons rfl (Cov.cons rfl (Cov.cons rfl (Cov.nil _))))))), hM, hot0⟩) ?_ ?_
  · clear h
    rintro s1 q _ _ _ ⟨S4, rfl, rfl, hc5, hM, hot0⟩ h
    unfold F38_17_l0 at h
    refine WC.cov hc5 (WC.seq (WC.seq (WC.region (WO.mv rfl ?_))))
    refine WO.bin rfl rfl (by decide) (by decide) rfl ?_
    refine WO.nil (thenL_n ?_)
    refine WC.cond rfl (fun q6 => ?_) (fun q6 => ?_)
    · have h := iteT q6 h
      refine WC.skip (thenL_n (WC.seq (WC.block (WC.region (WO.mv rfl (WO.mv rfl (WO.mv rfl (WO.mv rfl (WO.mv rfl ?_)))))))))
      obtain ⟨r7, e8, h⟩ := bindS h
      refine WO.callG (S := S4) [(2, 2)] [(2, 2)] rfl rfl (F51_17_ok (S0 := S4.mp [(2, 2)]) e8 (hot0.mp rfl)) (fun _ S9 S10 hb hR => ?_)
      obtain ⟨rfl, hR0⟩ := hR
      have c11 : Ch 2 S4 S10 := hb.ch [] 2
      have hM := hM.to c11
      have hot0 := hR0.bkS hb rfl rfl
      refine WO.nil (blockL_n (thenL_n (WC.region (WO.mv rfl ?_))))
      refine WO.bin rfl rfl (by decide) (by decide) rfl ?_
      refine WO.asg rfl (WO.nil (thenL_n ?_))
      obtain rfl := someI h
      exact ⟨_, rfl, ⟨S10, rfl, rfl, (Cov.cons rfl (Cov.cons rfl (Cov.cons rfl (Cov.cons rfl (Cov.cons rfl (Cov.cons rfl (Cov.nil _))))))), hM, hot0⟩⟩
    · have h := iteF q6 h
      refine WC.exit (thenL_e (thenL_e ?_))
      obtain rfl := someI h
      exact ⟨_, rfl, rfl, ⟨S4, rfl, rfl, (Cov.cons rfl (Cov.cons rfl (Cov.cons rfl (Cov.cons rfl (Cov.cons rfl (Cov.nil _)))))), hM, hot0⟩⟩
  rintro _ _ _ _ ⟨rfl, ⟨S14, rfl, rfl, hc15, hM, hot0⟩⟩
  refine blockL_s (thenL_n (WC.cov hc15 (WC.seq (WC.region (WO.mv rfl ?_)))))
  refine WO.bin rfl rfl (by decide) (by decide) rfl ?_
  refine WO.asg rfl (WO.nil (thenL_n (WC.block ?_)))
  obtain ⟨b43, e44, h⟩ := bindS h
  refine WC.loopD e44 (fun s16 l' m' n' => ∃ S17 : Cx fl, S17.m = m' ∧ S17.n = n' ∧ Cov l' [(0, .sc vt0), (3, .sc (.fn 17 [])), (8, .sc (.int .i64 t1)), (9, .sc (.int .i64 0)), (12, .sc (.int .i64 s16.1))] ∧ ChM S0 S17 ∧ Ow Y23 S17 2 vt0 s16.2) (fun b e l' m' n' => e = .exit 2 ∧ ∃ S18 : Cx fl, S18.m = m' ∧ S18.n = n' ∧ Cov l' [(0, .sc vt0)] ∧ ChM S0 S18 ∧ Ow Y23 S18 2 vt0 b) (by exact ⟨S14, rfl, rfl, (Cov.cons rfl (Cov.cons rfl (Cov.cons rfl (Cov.cons rfl (Cov.cons rfl (Cov.nil _)))))), hM, hot0⟩) ?_ ?_
  · clear h
    rintro s16 q _ _ _ ⟨S19, rfl, rfl, hc20, hM, hot0⟩ h
    unfold F38_17_l1 at h
    refine WC.cov hc20 (WC.seq (WC.seq (WC.region (WO.mv rfl ?_))))
    refine WO.bin rfl rfl (by decide) (by decide) rfl ?_
    refine WO.nil (thenL_n ?_)
    refine WC.cond rfl (fun q21 => ?_) (fun q21 => ?_)
    · have h := iteT q21 h
      refine WC.skip (thenL_n (WC.seq (WC.block (WC.seq ?_))))
      refine WC.drawN rfl rfl ?_
      have hot0z := hot0.oz
      refine WO.mv rfl (WO.mv rfl (WO.mv rfl (WO.mv rfl (WO.mv rfl ?_))))
      refine WO.bin rfl rfl (by decide) (by decide) rfl ?_
      refine WO.mv rfl (WO.mv rfl (WO.mv rfl ?_))
      refine WO.bin rfl rfl (by decide) (by decide) rfl ?_
      obtain ⟨L22, e23, h⟩ := bindS h
      refine WO.ixS rfl rfl hot0.slv (at?_lt e23) rfl ?_
      refine WO.ldS rfl hot0z (fun _ hi => hi.1) (at?_get e23) rfl (limLe_self _) (fun v24 ho25 => ?_)
      have ho25 : Rd Y3 S19 v24 L22 := ho25
      refine WO.mv rfl (WO.mv rfl ?_)
      obtain ⟨L26, e27, h⟩ := bindS h
      refine WO.ixS rfl rfl hot0.slv (at?_lt e27) rfl ?_
      refine WO.ldS rfl hot0z (fun _ hi => hi.1) (at?_get e27) rfl (limLe_self _) (fun v28 ho29 => ?_)
      have ho29 : Rd Y3 S19 v28 L26 := ho29
      obtain ⟨u30, e31, h⟩ := bindS h
      refine WO.ixS rfl rfl hot0.slv (ck_some e31) rfl ?_
      refine WO.stS (S := S19) rfl rfl hot0 (ck_nat e31) ho25 rfl rfl (fun S32 c33 hot0 => ?_)
      have hM := hM.to c33
      have ho25 := ho25.to c33
      have ho29 := ho29.to c33
      obtain ⟨u34, e35, h⟩ := bindS h
      refine WO.ixS rfl rfl hot0.slv (ck_some e35) rfl ?_
      refine WO.stS (S := S32) rfl rfl hot0 (ck_nat e35) ho29 rfl rfl (fun S36 c37 hot0 => ?_)
      have hM := hM.to c37
      have ho25 := ho25.to c37
      have ho29 := ho29.to c37
      refine WO.nil (thenL_n (WC.region (WO.mv rfl (WO.mv rfl (WO.mv rfl (WO.mv rfl (WO.mv rfl ?_)))))))
      obtain ⟨r38, e39, h⟩ := bindS h
      refine WO.callG (S := S36) [(2, 2)] [(2, 2)] rfl rfl (F51_17_ok (S0 := S36.mp [(2, 2)]) e39 (hot0.mp rfl)) (fun _ S40 S41 hb hR => ?_)
      obtain ⟨rfl, hR0⟩ := hR
      have c42 : Ch 2 S36 S41 := hb.ch [] 2
      have hM := hM.to c42
      have ho25 := ho25.to c42
      have ho29 := ho29.to c42
      have hot0 := hR0.bkS hb rfl rfl
      refine WO.nil (blockL_n (thenL_n (WC.region (WO.mv rfl ?_))))
      refine WO.bin rfl rfl (by decide) (by decide) rfl ?_
      refine WO.asg rfl (WO.nil (thenL_n ?_))
      obtain rfl := someI h
      exact ⟨_, rfl, ⟨S41, rfl, rfl, (Cov.cons rfl (Cov.cons rfl (Cov.cons rfl (Cov.cons rfl (Cov.cons rfl (Cov.nil _)))))), hM, hot0⟩⟩
    · have h := iteF q21 h
      refine WC.exit (thenL_e (thenL_e ?_))
      obtain rfl := someI h
      exact ⟨_, rfl, rfl, ⟨S19, rfl, rfl, (Cov.cons rfl (Cov.nil _)), hM, hot0⟩⟩
  rintro _ _ _ _ ⟨rfl, ⟨S45, rfl, rfl, hc46, hM, hot0⟩⟩
  refine blockL_s ?_
  obtain rfl := someI h
  exact ⟨.inl rfl, _, _, (resK_cov hc46 rfl), rfl, ⟨S45, rfl, rfl, hM, rfl, hot0⟩⟩
end Go.Proofs.Ytaphdnpjpmnaeaa

namespace Go.Proofs.Ytaphdnpjpmnaeaa
open Go.Am
theorem F52.fn : E.fn 52 = some ⟨7, (Try.f52.body.getD .skip), Try.f52.results.toList, []⟩ := rfl
theorem F52_ok {F : Nat} {m : Mem} {n : Nat} {r : Int} {t0 : Int} (h : F52 F t0 = some r)  : Ret E n 52 [.sc (.int .i64 t0)] m n (fun v m' n' => v = .sc (.int .u64 r)) := by
  unfold F52 at h
  refine Ret.walk F52.fn ?_
  refine WC.start fun S0 em en hz => ?_
  refine WC.seq (WC.region (WO.asg rfl (WO.nil (thenL_n (WC.seq (WC.region (WO.mv rfl ?_)))))))
  refine WO.conv rfl rfl rfl rfl ?_
  obtain ⟨r1, e2, h⟩ := bindS h
  refine WO.callE (S := S0) rfl rfl (F29_ok e2) (fun S3 c4 => ?_)
  obtain ⟨x5, e6, h⟩ := bindS h
  refine WO.shlD rfl rfl e6 ?_
  refine WO.asg rfl (WO.nil (thenL_n (WC.ret ?_)))
  obtain rfl := someI h
  exact ⟨.inr rfl, _, _, rfl, rfl, rfl⟩
end Go.Proofs.Ytaphdnpjpmnaeaa

namespace Go.Proofs.Ytaphdnpjpmnaeaa
open Go.Am
theorem F53.fn : E.fn 53 = some ⟨33, (Try.f53.body.getD .skip), Try.f53.results.toList, []⟩ := rfl
theorem F53_ok {F : Nat} {fl : Nat} {S0 : Cx fl} {r : Int × Int} {t0 : Int} {bt0 : Nat} (h : F53 F t0 = some r) (hot0 : Bk Y75 S0 2 (.ptr bt0 0) t0) : Ret E fl 53 [.sc (.ptr bt0 0)] S0.m S0.n (fun v m' n' => ∃ S' : Cx fl, S'.m = m' ∧ S'.n = n' ∧ ChM S0 S' ∧ (v = .sc (.int .u64 r.1) ∧ Bk Y75 S' 2 (.ptr bt0 0) r.2)) := by
  unfold F53 at h
  refine Ret.walk F53.fn ?_
  have hM := ChM.refl S0
  refine WC.seq (WC.region (WO.asg rfl (WO.nil (thenL_n (WC.seq ?_)))))
  refine WC.drawN rfl rfl ?_
  have hot0z := hot0.lt
  refine WO.mv rfl ?_
  refine WO.nck rfl hot0.isp ?_
  refine WO.ldBz (j := 0) (q := 0) rfl hot0.at0 hot0 rfl rfl hot0z (limLe_self _) ?_
  refine WO.mv rfl ?_
  refine WO.nck rfl hot0.isp ?_
  refine WO.ldBz (j := 0) (q := 0) rfl hot0.at0 hot0 rfl rfl hot0z (limLe_self _) ?_
  obtain ⟨x1, e2, h⟩ := bindS h
  refine WO.shlD rfl rfl e2 ?_
  refine WO.bits rfl rfl rfl (by decide) (by decide) rfl ?_
  refine WO.nck rfl hot0.isp ?_
  refine WO.stB (j := 0) (q := 0) (u' := (bit .xor .u64 t0 x1)) rfl hot0.at0 rfl hot0 rfl (by decide) rfl rfl (fun S3 c4 hot0 => ?_)
  have hM := hM.to c4
  refine WO.nil (thenL_n (WC.seq ?_))
  refine WC.drawN rfl rfl ?_
  have hot0z := hot0.lt
  refine WO.mv rfl ?_
  refine WO.nck rfl hot0.isp ?_
  refine WO.ldBz (j := 0) (q := 0) rfl hot0.at0 hot0 rfl rfl hot0z (limLe_self _) ?_
  refine WO.mv rfl ?_
  refine WO.nck rfl hot0.isp ?_
  refine WO.ldBz (j := 0) (q := 0) rfl hot0.at0 hot0 rfl rfl hot0z (limLe_self _) ?_
  obtain ⟨x5, e6, h⟩ := bindS h
  refine WO.shrD rfl rfl e6 ?_
  refine WO.bits rfl rfl rfl (by decide) (by decide) rfl ?_
  refine WO.nck rfl hot0.isp ?_
  refine WO.stB (j := 0) (q := 0) (u' := (bit .xor .u64 ((bit .xor .u64 t0 x1)) x5)) rfl hot0.at0 rfl hot0 rfl (by decide) rfl rfl (fun S7 c8 hot0 => ?_)
  have hM := hM.to c8
  refine WO.nil (thenL_n (WC.seq ?_))
  refine WC.drawN rfl rfl ?_
  have hot0z := hot0.lt
  refine WO.mv rfl ?_
  refine WO.nck rfl hot0.isp ?_
  refine WO.ldBz (j := 0) (q := 0) rfl hot0.at0 hot0 rfl rfl hot0z (limLe_self _) ?_
  refine WO.mv rfl ?_
  refine WO.nck rfl hot0.isp ?_
  refine WO.ldBz (j := 0) (q := 0) rfl hot0.at0 hot0 rfl rfl hot0z (limLe_self _) ?_
  obtain ⟨x9, e10, h⟩ := bindS h
  refine WO.shlD rfl rfl e10 ?_
  refine WO.bits rfl rfl rfl (by decide) (by decide) rfl ?_
  refine WO.nck rfl hot0.isp ?_
  refine WO.stB (j := 0) (q := 0) (u' := (bit .xor .u64 ((bit .xor .u64 ((bit .xor .u64 t0 x1)) x5)) x9)) rfl hot0.at0 rfl hot0 rfl (by decide) rfl rfl (fun S11 c12 hot0 => ?_)
  have hM := hM.to c12
  refine WO.nil (thenL_n (WC.seq (WC.region (WO.mv rfl ?_))))
  refine WO.nck rfl hot0.isp ?_
  refine WO.ldB (j := 0) (q := 0) rfl hot0.at0 hot0 rfl rfl rfl ?_
  refine WO.asg rfl (WO.nil (thenL_n (WC.ret ?_)))
  obtain rfl := someI h
  exact ⟨.inr rfl, _, _, rfl, rfl, ⟨S11, rfl, rfl, hM, rfl, hot0⟩⟩
end Go.Proofs.Ytaphdnpjpmnaeaa

namespace Go.Proofs.Ytaphdnpjpmnaeaa
open Go.Am
theorem F39_17.fn : E.fn 39 = some ⟨67, (Try.f39.body.getD .skip), Try.f39.results.toList, []⟩ := rfl
theorem F39_17_ok {F : Nat} {fl : Nat} {S0 : Cx fl} {r : (List (List Int))} {t0 : List (List Int)} {t1 : Int} {t2 : Int} {vt0 : SV} (h : F39_17 F t0 t1 t2 = some r) (hot0 : Ow Y23 S0 2 vt0 t0) : Ret E fl 39 [.sc vt0, .sc (.int .i64 t1), .sc (.int .i64 t2), .sc (.fn 17 [])] S0.m S0.n (fun v m' n' => ∃ S' : Cx fl, S'.m = m' ∧ S'.n = n' ∧ ChM S0 S' ∧ (v = .tup [] ∧ Ow Y23 S' 2 vt0 r)) := by
  unfold F39_17 at h
  refine Ret.walk F39_17.fn ?_
  have hM := ChM.refl S0
  refine WC.seq (WC.region (WO.mv rfl (WO.mv rfl ?_)))
  refine WO.bin rfl rfl (by decide) (by decide) rfl ?_
  refine WO.asg rfl (WO.nil (thenL_n (WC.seq (WC.region (WO.mv rfl ?_)))))
  refine WO.bin rfl rfl (by decide) (by decide) rfl ?_
  refine WO.nil (thenL_n ?_)
  refine WC.cond rfl (fun q1 => ?_) (fun q1 => ?_)
  · have h := iteT q1 h
    refine WC.seq (WC.region (WO.mv rfl ?_))
    refine WO.conv rfl rfl rfl rfl ?_
    refine WO.alS (A := Y75) (S := S0) (z0 := 0) 3 rfl rfl rfl (fun v2 S3 c4 ho5 => ?_)
    have hot0 := hot0.to c4
    have hM := hM.to c4
    refine WO.stB (j := 0) (q := 0) (u' := (wrapA .u64 (wrapA .i64 (t2 - t1)))) rfl ho5.at0 rfl ho5 rfl (by decide) rfl rfl (fun S6 c7 ho5 => ?_)
    have hot0 := hot0.to c7
    have hM := hM.to c7
    refine WO.nil (thenL_n (WC.seq (WC.region (WO.mv rfl ?_))))
    obtain ⟨r8, e9, h⟩ := bindS h
    refine WO.callE (S := S6) rfl rfl (F52_ok e9) (fun S10 c11 => ?_)
    have hot0 := hot0.to c11
    have hM := hM.to c11
    have ho5 := ho5.to c11
    refine WO.asg rfl (WO.nil (thenL_n (WC.seq (WC.region (WO.mv rfl (WO.mv rfl ?_))))))
    refine WO.bin rfl rfl (by decide) (by decide) rfl ?_
    refine WO.bin rfl rfl (by decide) (by decide) rfl ?_
    refine WO.bin rfl rfl (by decide) (by decide) rfl ?_
    refine WO.bin rfl rfl (by decide) (by decide) rfl ?_
    refine WO.asg rfl (WO.nil (thenL_n (WC.block ?_)))
    obtain ⟨b46, e47, h⟩ := bindS h
    refine WC.loopD e47 (fun s12 l' m' n' => ∃ S13 : Cx fl, S13.m = m' ∧ S13.n = n' ∧ Cov l' [(0, .sc vt0), (1, .sc (.int .i64 t1)), (8, .sc (.int .i64 ((wrapA .i64 (t2 - t1))))), (9, .sc v2), (10, .sc (.int .u64 r8)), (11, .sc (.int .i64 s12.1))] ∧ ChM S0 S13 ∧ Ow Y23 S13 2 vt0 s12.2.1 ∧ Bk Y75 S13 3 v2 s12.2.2) (fun b e l' m' n' => e = .exit 0 ∧ ∃ S14 : Cx fl, S14.m = m' ∧ S14.n = n' ∧ Cov l' [(0, .sc vt0)] ∧ ChM S0 S14 ∧ Ow Y23 S14 2 vt0 b) (by exact ⟨S10, rfl, rfl, (Cov.cons rfl (Cov.cons rfl (Cov.cons rfl (Cov.cons rfl (Cov.cons rfl (Cov.cons rfl (Cov.nil _))))))), hM, hot0, ho5⟩) ?_ ?_
    · clear h
      rintro s12 q _ _ _ ⟨S15, rfl, rfl, hc16, hM, hot0, ho5⟩ h
      unfold F39_17_l0 at h
      refine WC.cov hc16 (WC.seq (WC.seq (WC.region (WO.mv rfl (WO.mv rfl (WO.mv rfl ?_))))))
      refine WO.bin rfl rfl (by decide) (by decide) rfl ?_
      refine WO.bin rfl rfl (by decide) (by decide) rfl ?_
      refine WO.bin rfl rfl (by decide) (by decide) rfl ?_
      refine WO.bin rfl rfl (by decide) (by decide) rfl ?_
      refine WO.bin rfl rfl (by decide) (by decide) rfl ?_
      refine WO.nil (thenL_n ?_)
      refine WC.cond rfl (fun q17 => ?_) (fun q17 => ?_)
      · have h := iteT q17 h
        refine WC.skip (thenL_n (WC.seq (WC.block (WC.seq (WC.region ?_)))))
        obtain ⟨b18, rfl⟩ := ho5.isp
        obtain ⟨r19, e20, h⟩ := bindS h
        refine WO.callG (S := S15) [(3, 2)] [(2, 3)] rfl rfl (F53_ok (S0 := S15.mp [(3, 2)]) e20 (ho5.mp rfl)) (fun _ S21 S22 hb hR => ?_)
        obtain ⟨rfl, hR0⟩ := hR
        have c23 : Ch 3 S15 S22 := hb.ch [] 3
        have hM := hM.to c23
        have hot0 := hot0.to c23
        have ho5 := hR0.bkF hb rfl Lay.flat_fl
        refine WO.mv rfl ?_
        refine WO.bin rfl rfl (by decide) (by decide) rfl ?_
        refine WO.bits rfl rfl rfl (by decide) (by decide) rfl ?_
        refine WO.conv rfl rfl rfl rfl ?_
        refine WO.asg rfl (WO.nil (thenL_n (WC.seq (WC.seq (WC.region (WO.mv rfl (WO.mv rfl ?_)))))))
        refine WO.bin rfl rfl (by decide) (by decide) rfl ?_
        refine WO.nil (thenL_n ?_)
        obtain ⟨b25, e26, h⟩ := bindS h
        refine WC.mono (Q' := (fun b e l' m' n' => e = .normal ∧ ∃ S27 : Cx fl, S27.m = m' ∧ S27.n = n' ∧ Cov l' [(0, .sc vt0), (1, .sc (.int .i64 t1)), (8, .sc (.int .i64 ((wrapA .i64 (t2 - t1))))), (9, .sc ((.ptr b18 0))), (10, .sc (.int .u64 r8)), (11, .sc (.int .i64 s12.1)), (12, .sc (.int .i64 b))] ∧ ChM S0 S27 ∧ Ow Y23 S27 2 vt0 s12.2.1 ∧ Bk Y75 S27 3 (.ptr b18 0) r19.2) b25) ?_ ?_
        · have h := e26
          dsimp only at h ⊢
          refine WC.cond rfl (fun q24 => ?_) (fun q24 => ?_)
          · have h := iteT q24 h
            refine WC.region (WO.mv rfl (WO.mv rfl ?_))
            refine WO.bin rfl rfl (by decide) (by decide) rfl ?_
            refine WO.asg rfl (WO.nil ?_)
            obtain rfl := someI h
            exact ⟨rfl, ⟨S22, rfl, rfl, (Cov.cons rfl (Cov.cons rfl (Cov.cons rfl (Cov.cons rfl (Cov.cons rfl (Cov.cons rfl (Cov.cons rfl (Cov.nil _)))))))), hM, hot0, ho5⟩⟩
          · have h := iteF q24 h
            refine WC.skip ?_
            obtain rfl := someI h
            exact ⟨rfl, ⟨S22, rfl, rfl, (Cov.cons rfl (Cov.cons rfl (Cov.cons rfl (Cov.cons rfl (Cov.cons rfl (Cov.cons rfl (Cov.cons rfl (Cov.nil _)))))))), hM, hot0, ho5⟩⟩
        dsimp only
        rintro _ _ _ _ ⟨rfl, ⟨S28, rfl, rfl, hc29, hM, hot0, ho5⟩⟩
        refine thenL_n (WC.cov hc29 ?_)
        refine WC.drawN rfl rfl ?_
        have hot0z := hot0.oz
        have ho5z := ho5.lt
        refine WO.mv rfl (WO.mv rfl (WO.mv rfl (WO.mv rfl (WO.mv rfl ?_))))
        refine WO.bin rfl rfl (by decide) (by decide) rfl ?_
        refine WO.mv rfl (WO.mv rfl (WO.mv rfl ?_))
        refine WO.bin rfl rfl (by decide) (by decide) rfl ?_
        obtain ⟨L30, e31, h⟩ := bindS h
        refine WO.ixS rfl rfl hot0.slv (at?_lt e31) rfl ?_
        refine WO.ldS rfl hot0z (fun _ hi => hi.1) (at?_get e31) rfl (limLe_self _) (fun v32 ho33 => ?_)
        have ho33 : Rd Y3 S28 v32 L30 := ho33
        refine WO.mv rfl (WO.mv rfl ?_)
        obtain ⟨L34, e35, h⟩ := bindS h
        refine WO.ixS rfl rfl hot0.slv (at?_lt e35) rfl ?_
        refine WO.ldS rfl hot0z (fun _ hi => hi.1) (at?_get e35) rfl (limLe_self _) (fun v36 ho37 => ?_)
        have ho37 : Rd Y3 S28 v36 L34 := ho37
        obtain ⟨u38, e39, h⟩ := bindS h
        refine WO.ixS rfl rfl hot0.slv (ck_some e39) rfl ?_
        refine WO.stS (S := S28) rfl rfl hot0 (ck_nat e39) ho33 rfl rfl (fun S40 c41 hot0 => ?_)
        have hM := hM.to c41
        have ho5 := ho5.to c41
        have ho33 := ho33.to c41
        have ho37 := ho37.to c41
        obtain ⟨u42, e43, h⟩ := bindS h
        refine WO.ixS rfl rfl hot0.slv (ck_some e43) rfl ?_
        refine WO.stS (S := S40) rfl rfl hot0 (ck_nat e43) ho37 rfl rfl (fun S44 c45 hot0 => ?_)
        have hM := hM.to c45
        have ho5 := ho5.to c45
        have ho33 := ho33.to c45
        have ho37 := ho37.to c45
        refine WO.nil (blockL_n (thenL_n (WC.region (WO.mv rfl ?_))))
        refine WO.bin rfl rfl (by decide) (by decide) rfl ?_
        refine WO.asg rfl (WO.nil (thenL_n ?_))
        obtain rfl := someI h
        exact ⟨_, rfl, ⟨S44, rfl, rfl, (Cov.cons rfl (Cov.cons rfl (Cov.cons rfl (Cov.cons rfl (Cov.cons rfl (Cov.cons rfl (Cov.nil _))))))), hM, hot0, ho5⟩⟩
      · have h := iteF q17 h
        refine WC.exit (thenL_e (thenL_e ?_))
        obtain rfl := someI h
        exact ⟨_, rfl, rfl, ⟨S15, rfl, rfl, (Cov.cons rfl (Cov.nil _)), hM, hot0⟩⟩
    rintro _ _ _ _ ⟨rfl, ⟨S48, rfl, rfl, hc49, hM, hot0⟩⟩
    refine blockL_s ?_
    obtain rfl := someI h
    exact ⟨.inl rfl, _, _, (resK_cov hc49 rfl), rfl, ⟨S48, rfl, rfl, hM, rfl, hot0⟩⟩
  · have h := iteF q1 h
    refine WC.skip ?_
    obtain rfl := someI h
    exact ⟨.inl rfl, _, _, rfl, rfl, ⟨S0, rfl, rfl, hM, rfl, hot0⟩⟩
end Go.Proofs.Ytaphdnpjpmnaeaa

namespace Go.Proofs.Ytaphdnpjpmnaeaa
open Go.Am
theorem F73_17.fn : E.fn 73 = some ⟨32, (Try.f73.body.getD .skip), Try.f73.results.toList, []⟩ := rfl
theorem F73_17_ok {F : Nat} {fl : Nat} {S0 : Cx fl} {r : Int × Int × Int} {t0 : List (List Int)} {t1 : Int} {t2 : Int} {t3 : Int} {vt0 : SV} {bt3 : Nat} (h : F73_17 F t0 t1 t2 t3 = some r) (hot0 : Rd Y23 S0 vt0 t0) (hot3 : Bk Y3 S0 2 (.ptr bt3 0) t3) : Ret E fl 73 [.sc vt0, .sc (.int .i64 t1), .sc (.int .i64 t2), .sc (.ptr bt3 0), .sc (.fn 17 [])] S0.m S0.n (fun v m' n' => ∃ S' : Cx fl, S'.m = m' ∧ S'.n = n' ∧ ChM S0 S' ∧ (v = .tup [.sc (.int .i64 r.1), .sc (.int .i64 r.2.1)] ∧ Bk Y3 S' 2 (.ptr bt3 0) r.2.2)) := by
  unfold F73_17 at h
  refine Ret.walk F73_17.fn ?_
  have hM := ChM.refl S0
  refine WC.seq (WC.region (WO.asg rfl (WO.asg rfl (WO.nil (thenL_n (WC.seq (WC.seq ?_)))))))
  refine WC.drawN rfl rfl ?_
  have hot0z := hot0.oz
  have hot3z := hot3.lt
  refine WO.mv rfl (WO.mv rfl (WO.mv rfl ?_))
  obtain ⟨L1, e2, h⟩ := bindS h
  refine WO.ixS rfl rfl hot0.slv (at?_lt e2) rfl ?_
  refine WO.ldS rfl hot0z (fun _ hi => hi.1) (at?_get e2) rfl (limLe_self _) (fun v3 ho4 => ?_)
  have ho4 : Rd Y3 S0 v3 L1 := ho4
  refine WO.mv rfl (WO.mv rfl ?_)
  obtain ⟨L5, e6, h⟩ := bindS h
  refine WO.ixS rfl rfl hot0.slv (at?_lt e6) rfl ?_
  refine WO.ldS rfl hot0z (fun _ hi => hi.1) (at?_get e6) rfl (limLe_self _) (fun v7 ho8 => ?_)
  have ho8 : Rd Y3 S0 v7 L5 := ho8
  obtain ⟨r9, e10, h⟩ := bindS h
  refine WO.callE (S := S0) rfl rfl (F17_ok e10 ho4.vw ho8.vw) (fun S11 c12 => ?_)
  have hot0z := hot0z.toz c12
  have hot0 := hot0.to c12
  have hot3 := hot3.to c12
  have hM := hM.to c12
  have ho4 := ho4.to c12
  have ho8 := ho8.to c12
  refine WO.bin rfl rfl (by decide) (by decide) rfl ?_
  refine WO.nil (thenL_n ?_)
  refine WC.cond rfl (fun q13 => ?_) (fun q13 => ?_)
  · have h := iteT q13 h
    refine WC.seq (WC.region (WO.mv rfl ?_))
    refine WO.nck rfl hot3.isp ?_
    refine WO.ldB (j := 0) (q := 0) rfl hot3.at0 hot3 rfl rfl rfl ?_
    refine WO.bin rfl rfl (by decide) (by decide) rfl ?_
    refine WO.nck rfl hot3.isp ?_
    refine WO.stB (j := 0) (q := 0) (u' := (wrapA .i64 (t3 + 1))) rfl hot3.at0 rfl hot3 rfl (by decide) rfl rfl (fun S14 c15 hot3 => ?_)
    have hot0 := hot0.to c15
    have hM := hM.to c15
    have ho4 := ho4.to c15
    have ho8 := ho8.to c15
    refine WO.nil (thenL_n (WC.seq (WC.region (WO.mv rfl (WO.mv rfl (WO.asg rfl (WO.asg rfl (WO.nil (thenL_n ?_)))))))))
    refine WC.ret (thenL_r ?_)
    obtain rfl := someI h
    exact ⟨.inr rfl, _, _, rfl, rfl, ⟨S14, rfl, rfl, hM, rfl, hot3⟩⟩
  · have h := iteF q13 h
    refine WC.skip (thenL_n (WC.seq (WC.region (WO.mv rfl (WO.mv rfl (WO.asg rfl (WO.asg rfl (WO.nil (thenL_n ?_)))))))))
    refine WC.ret ?_
    obtain rfl := someI h
    exact ⟨.inr rfl, _, _, rfl, rfl, ⟨S11, rfl, rfl, hM, rfl, hot3⟩⟩
end Go.Proofs.Ytaphdnpjpmnaeaa

namespace Go.Proofs.Ytaphdnpjpmnaeaa
open Go.Am
theorem F55_17.fn : E.fn 55 = some ⟨41, (Try.f55.body.getD .skip), Try.f55.results.toList, []⟩ := rfl
theorem F55_17_ok {F : Nat} {fl : Nat} {S0 : Cx fl} {r : Int × Int} {t0 : List (List Int)} {t1 : Int} {t2 : Int} {t3 : Int} {t4 : Int} {vt0 : SV} {bt4 : Nat} (h : F55_17 F t0 t1 t2 t3 t4 = some r) (hot0 : Rd Y23 S0 vt0 t0) (hot4 : Bk Y3 S0 2 (.ptr bt4 0) t4) : Ret E fl 55 [.sc vt0, .sc (.int .i64 t1), .sc (.int .i64 t2), .sc (.int .i64 t3), .sc (.ptr bt4 0), .sc (.fn 17 [])] S0.m S0.n (fun v m' n' => ∃ S' : Cx fl, S'.m = m' ∧ S'.n = n' ∧ ChM S0 S' ∧ (v = .sc (.int .i64 r.1) ∧ Bk Y3 S' 2 (.ptr bt4 0) r.2)) := by
  unfold F55_17 at h
  refine Ret.walk F55_17.fn ?_
  have hM := ChM.refl S0
  refine WC.seq (WC.region (WO.asg rfl (WO.nil (thenL_n (WC.seq (WC.region (WO.mv rfl (WO.mv rfl (WO.mv rfl ?_)))))))))
  refine WO.mv rfl (WO.mv rfl ?_)
  obtain ⟨r1, e2, h⟩ := bindS h
  refine WO.callG (S := S0) [(2, 2)] [(2, 2)] rfl rfl (F73_17_ok (S0 := S0.mp [(2, 2)]) e2 hot0.mp (hot4.mp rfl)) (fun _ S3 S4 hb hR => ?_)
  obtain ⟨rfl, hR0⟩ := hR
  have c5 : Ch 2 S0 S4 := hb.ch [] 2
  have hot0 := hot0.to c5
  have hM := hM.to c5
  have hot4 := hR0.bkF hb rfl Lay.flat_fl
  refine WO.mv rfl ?_
  refine WO.do rfl rfl ?_
  refine WO.do rfl rfl ?_
  refine WO.asg rfl (WO.asg rfl (WO.nil (thenL_n (WC.seq (WC.region (WO.mv rfl (WO.mv rfl (WO.mv rfl (WO.mv rfl ?_)))))))))
  refine WO.mv rfl ?_
  obtain ⟨r6, e7, h⟩ := bindS h
  refine WO.callG (S := S4) [(2, 2)] [(2, 2)] rfl rfl (F73_17_ok (S0 := S4.mp [(2, 2)]) e7 hot0.mp (hot4.mp rfl)) (fun _ S8 S9 hb hR => ?_)
  obtain ⟨rfl, hR0⟩ := hR
  have c10 : Ch 2 S4 S9 := hb.ch [] 2
  have hot0 := hot0.to c10
  have hM := hM.to c10
  have hot4 := hR0.bkF hb rfl Lay.flat_fl
  refine WO.mv rfl ?_
  refine WO.do rfl rfl ?_
  refine WO.do rfl rfl ?_
  refine WO.asg rfl (WO.asg rfl (WO.nil (thenL_n (WC.seq (WC.region (WO.mv rfl (WO.mv rfl (WO.mv rfl (WO.mv rfl ?_)))))))))
  refine WO.mv rfl ?_
  obtain ⟨r11, e12, h⟩ := bindS h
  refine WO.callG (S := S9) [(2, 2)] [(2, 2)] rfl rfl (F73_17_ok (S0 := S9.mp [(2, 2)]) e12 hot0.mp (hot4.mp rfl)) (fun _ S13 S14 hb hR => ?_)
  obtain ⟨rfl, hR0⟩ := hR
  have c15 : Ch 2 S9 S14 := hb.ch [] 2
  have hot0 := hot0.to c15
  have hM := hM.to c15
  have hot4 := hR0.bkF hb rfl Lay.flat_fl
  refine WO.mv rfl ?_
  refine WO.do rfl rfl ?_
  refine WO.do rfl rfl ?_
  refine WO.asg rfl (WO.asg rfl (WO.nil (thenL_n (WC.seq (WC.region (WO.mv rfl (WO.asg rfl (WO.nil (thenL_n ?_)))))))))
  refine WC.ret ?_
  obtain rfl := someI h
  exact ⟨.inr rfl, _, _, rfl, rfl, ⟨S14, rfl, rfl, hM, rfl, hot4⟩⟩
end Go.Proofs.Ytaphdnpjpmnaeaa

namespace Go.Proofs.Ytaphdnpjpmnaeaa
open Go.Am
theorem F54_17.fn : E.fn 54 = some ⟨18, (Try.f54.body.getD .skip), Try.f54.results.toList, []⟩ := rfl
theorem F54_17_ok {F : Nat} {fl : Nat} {S0 : Cx fl} {r : Int × Int} {t0 : List (List Int)} {t1 : Int} {t2 : Int} {vt0 : SV} {bt2 : Nat} (h : F54_17 F t0 t1 t2 = some r) (hot0 : Rd Y23 S0 vt0 t0) (hot2 : Bk Y3 S0 2 (.ptr bt2 0) t2) : Ret E fl 54 [.sc vt0, .sc (.int .i64 t1), .sc (.ptr bt2 0), .sc (.fn 17 [])] S0.m S0.n (fun v m' n' => ∃ S' : Cx fl, S'.m = m' ∧ S'.n = n' ∧ ChM S0 S' ∧ (v = .sc (.int .i64 r.1) ∧ Bk Y3 S' 2 (.ptr bt2 0) r.2)) := by
  unfold F54_17 at h
  refine Ret.walk F54_17.fn ?_
  have hM := ChM.refl S0
  refine WC.seq (WC.region (WO.asg rfl (WO.nil (thenL_n (WC.seq (WC.region (WO.mv rfl (WO.mv rfl ?_))))))))
  refine WO.bin rfl rfl (by decide) (by decide) rfl ?_
  refine WO.mv rfl (WO.mv rfl ?_)
  refine WO.bin rfl rfl (by decide) (by decide) rfl ?_
  refine WO.mv rfl (WO.mv rfl ?_)
  obtain ⟨r1, e2, h⟩ := bindS h
  refine WO.callG (S := S0) [(2, 2)] [(2, 2)] rfl rfl (F55_17_ok (S0 := S0.mp [(2, 2)]) e2 hot0.mp (hot2.mp rfl)) (fun _ S3 S4 hb hR => ?_)
  obtain ⟨rfl, hR0⟩ := hR
  have c5 : Ch 2 S0 S4 := hb.ch [] 2
  have hot0 := hot0.to c5
  have hM := hM.to c5
  have hot2 := hR0.bkF hb rfl Lay.flat_fl
  refine WO.asg rfl (WO.nil (thenL_n (WC.ret ?_)))
  obtain rfl := someI h
  exact ⟨.inr rfl, _, _, rfl, rfl, ⟨S4, rfl, rfl, hM, rfl, hot2⟩⟩
end Go.Proofs.Ytaphdnpjpmnaeaa

namespace Go.Proofs.Ytaphdnpjpmnaeaa
open Go.Am
theorem F40_17.fn : E.fn 40 = some ⟨63, (Try.f40.body.getD .skip), Try.f40.results.toList, []⟩ := rfl
theorem F40_17_ok {F : Nat} {m : Mem} {n : Nat} {r : Int × Int} {t0 : List (List Int)} {t1 : Int} {t2 : Int} {vt0 : SV} (h : F40_17 F t0 t1 t2 = some r) (kt0 : Vw Y23 n m vt0 t0) : Ret E n 40 [.sc vt0, .sc (.int .i64 t1), .sc (.int .i64 t2), .sc (.fn 17 [])] m n (fun v m' n' => v = .tup [.sc (.int .i64 r.1), .sc (.int .i64 r.2)]) := by
  unfold F40_17 at h
  refine Ret.walk F40_17.fn ?_
  refine WC.start fun S0 em en hz => ?_
  have hot0 := kt0.rdS em hz
  refine WC.seq (WC.region (WO.asg rfl (WO.asg rfl (WO.nil (thenL_n (WC.seq (WC.region (WO.mv rfl (WO.mv rfl ?_)))))))))
  refine WO.bin rfl rfl (by decide) (by decide) rfl ?_
  refine WO.asg rfl (WO.nil (thenL_n (WC.seq (WC.region ?_))))
  refine WO.alS (A := Y3) (S := S0) (z0 := 0) 2 rfl rfl rfl (fun v1 S2 c3 ho4 => ?_)
  have hot0 := hot0.to c3
  refine WO.nil (thenL_n (WC.seq (WC.region (WO.mv rfl (WO.mv rfl ?_)))))
  refine WO.bin rfl rfl (by decide) (by decide) rfl ?_
  refine WO.bin rfl rfl (by decide) (by decide) rfl ?_
  refine WO.bin rfl rfl (by decide) (by decide) rfl ?_
  refine WO.asg rfl (WO.nil (thenL_n (WC.seq (WC.region (WO.mv rfl (WO.mv rfl ?_))))))
  refine WO.bin rfl rfl (by decide) (by decide) rfl ?_
  refine WO.bin rfl rfl (by decide) (by decide) rfl ?_
  refine WO.bin rfl rfl (by decide) (by decide) rfl ?_
  refine WO.asg rfl (WO.nil (thenL_n (WC.seq (WC.region (WO.mv rfl (WO.mv rfl ?_))))))
  refine WO.bin rfl rfl (by decide) (by decide) rfl ?_
  refine WO.bin rfl rfl (by decide) (by decide) rfl ?_
  refine WO.bin rfl rfl (by decide) (by decide) rfl ?_
  refine WO.asg rfl (WO.nil (thenL_n (WC.seq (WC.seq (WC.region (WO.mv rfl ?_))))))
  refine WO.bin rfl rfl (by decide) (by decide) rfl ?_
  refine WO.nil (thenL_n ?_)
  obtain ⟨b34, e35, h⟩ := bindS h
  refine WC.mono (Q' := (fun b e l' m' n' => e = .normal ∧ ∃ S36 : Cx n, S36.m = m' ∧ S36.n = n' ∧ Cov l' [(11, .sc v1), (13, .sc (.int .i64 b.1))] ∧ Bk Y3 S36 2 v1 b.2) b34) ?_ ?_
  · have h := e35
    dsimp only at h ⊢
    refine WC.cond rfl (fun q5 => ?_) (fun q5 => ?_)
    · have h := iteT q5 h
      refine WC.seq (WC.seq (WC.region (WO.mv rfl ?_)))
      refine WO.bin rfl rfl (by decide) (by decide) rfl ?_
      refine WO.nil (thenL_n ?_)
      refine WC.cond rfl (fun q6 => ?_) (fun q6 => ?_)
      · have h := iteT q6 h
        refine WC.seq (WC.region (WO.mv rfl (WO.mv rfl (WO.mv rfl ?_))))
        obtain ⟨b7, rfl⟩ := ho4.isp
        obtain ⟨r8, e9, h⟩ := bindS h
        refine WO.callG (S := S2) [(2, 2)] [(2, 2)] rfl rfl (F54_17_ok (S0 := S2.mp [(2, 2)]) e9 hot0.mp (ho4.mp rfl)) (fun _ S10 S11 hb hR => ?_)
        obtain ⟨rfl, hR0⟩ := hR
        have c12 : Ch 2 S2 S11 := hb.ch [] 2
        have hot0 := hot0.to c12
        have ho4 := hR0.bkF hb rfl Lay.flat_fl
        refine WO.asg rfl (WO.nil (thenL_n (WC.seq (WC.region (WO.mv rfl (WO.mv rfl (WO.mv rfl ?_)))))))
        obtain ⟨r13, e14, h⟩ := bindS h
        refine WO.callG (S := S11) [(2, 2)] [(2, 2)] rfl rfl (F54_17_ok (S0 := S11.mp [(2, 2)]) e14 hot0.mp (ho4.mp rfl)) (fun _ S15 S16 hb hR => ?_)
        obtain ⟨rfl, hR0⟩ := hR
        have c17 : Ch 2 S11 S16 := hb.ch [] 2
        have hot0 := hot0.to c17
        have ho4 := hR0.bkF hb rfl Lay.flat_fl
        refine WO.asg rfl (WO.nil (thenL_n (WC.region (WO.mv rfl (WO.mv rfl (WO.mv rfl ?_))))))
        obtain ⟨r18, e19, h⟩ := bindS h
        refine WO.callG (S := S16) [(2, 2)] [(2, 2)] rfl rfl (F54_17_ok (S0 := S16.mp [(2, 2)]) e19 hot0.mp (ho4.mp rfl)) (fun _ S20 S21 hb hR => ?_)
        obtain ⟨rfl, hR0⟩ := hR
        have c22 : Ch 2 S16 S21 := hb.ch [] 2
        have hot0 := hot0.to c22
        have ho4 := hR0.bkF hb rfl Lay.flat_fl
        refine WO.asg rfl (WO.nil (thenL_n (WC.region (WO.mv rfl (WO.mv rfl (WO.mv rfl (WO.mv rfl (WO.mv rfl ?_))))))))
        obtain ⟨r23, e24, h⟩ := bindS h
        refine WO.callG (S := S21) [(2, 2)] [(2, 2)] rfl rfl (F55_17_ok (S0 := S21.mp [(2, 2)]) e24 hot0.mp (ho4.mp rfl)) (fun _ S25 S26 hb hR => ?_)
        obtain ⟨rfl, hR0⟩ := hR
        have c27 : Ch 2 S21 S26 := hb.ch [] 2
        have hot0 := hot0.to c27
        have ho4 := hR0.bkF hb rfl Lay.flat_fl
        refine WO.asg rfl (WO.nil ?_)
        obtain rfl := someI h
        exact ⟨rfl, ⟨S26, rfl, rfl, (Cov.cons rfl (Cov.cons rfl (Cov.nil _))), ho4⟩⟩
      · have h := iteF q6 h
        refine WC.skip (thenL_n (WC.region (WO.mv rfl (WO.mv rfl (WO.mv rfl (WO.mv rfl (WO.mv rfl ?_)))))))
        obtain ⟨b28, rfl⟩ := ho4.isp
        obtain ⟨r29, e30, h⟩ := bindS h
        refine WO.callG (S := S2) [(2, 2)] [(2, 2)] rfl rfl (F55_17_ok (S0 := S2.mp [(2, 2)]) e30 hot0.mp (ho4.mp rfl)) (fun _ S31 S32 hb hR => ?_)
        obtain ⟨rfl, hR0⟩ := hR
        have c33 : Ch 2 S2 S32 := hb.ch [] 2
        have hot0 := hot0.to c33
        have ho4 := hR0.bkF hb rfl Lay.flat_fl
        refine WO.asg rfl (WO.nil ?_)
        obtain rfl := someI h
        exact ⟨rfl, ⟨S32, rfl, rfl, (Cov.cons rfl (Cov.cons rfl (Cov.nil _))), ho4⟩⟩
    · have h := iteF q5 h
      refine WC.skip ?_
      obtain rfl := someI h
      exact ⟨rfl, ⟨S2, rfl, rfl, (Cov.cons rfl (Cov.cons rfl (Cov.nil _))), ho4⟩⟩
  dsimp only
  rintro _ _ _ _ ⟨rfl, ⟨S37, rfl, rfl, hc38, ho4⟩⟩
  refine thenL_n (WC.cov hc38 (WC.seq (WC.region ?_)))
  refine WO.ldB (j := 0) (q := 0) rfl ho4.at0 ho4 rfl rfl rfl ?_
  refine WO.nil (thenL_n (WC.block (WC.seq (WC.region ?_))))
  refine WO.bin rfl rfl (by decide) (by decide) rfl ?_
  refine WO.asg rfl (WO.nil (thenL_n ?_))
  refine WC.cond rfl (fun q39 => ?_) (fun q39 => ?_)
  · have h := iteT q39 h
    refine WC.seq (WC.region (WO.mv rfl (WO.asg rfl (WO.asg rfl (WO.nil (thenL_n (WC.ret (blockL_r ?_))))))))
    obtain rfl := someI h
    exact ⟨.inr rfl, _, _, rfl, rfl, rfl⟩
  · have h := iteF q39 h
    refine WC.seq (WC.region ?_)
    refine WO.bin rfl rfl (by decide) (by decide) rfl ?_
    refine WO.asg rfl (WO.nil (thenL_n ?_))
    refine WC.cond rfl (fun q40 => ?_) (fun q40 => ?_)
    · have h := iteT q40 h
      refine WC.seq (WC.region (WO.mv rfl (WO.asg rfl (WO.asg rfl (WO.nil (thenL_n (WC.ret (blockL_r ?_))))))))
      obtain rfl := someI h
      exact ⟨.inr rfl, _, _, rfl, rfl, rfl⟩
    · have h := iteF q40 h
      refine WC.seq (WC.region (WO.mv rfl (WO.asg rfl (WO.asg rfl (WO.nil (thenL_n (WC.ret (blockL_r ?_))))))))
      obtain rfl := someI h
      exact ⟨.inr rfl, _, _, rfl, rfl, rfl⟩
end Go.Proofs.Ytaphdnpjpmnaeaa

namespace Go.Proofs.Ytaphdnpjpmnaeaa
open Go.Am
theorem F41_17.fn : E.fn 41 = some ⟨34, (Try.f41.body.getD .skip), Try.f41.results.toList, []⟩ := rfl
theorem F41_17_ok {F : Nat} {fl : Nat} {S0 : Cx fl} {r : (List (List Int))} {t0 : List (List Int)} {t1 : Int} {t2 : Int} {vt0 : SV} (h : F41_17 F t0 t1 t2 = some r) (hot0 : Ow Y23 S0 2 vt0 t0) : Ret E fl 41 [.sc vt0, .sc (.int .i64 t1), .sc (.int .i64 t2), .sc (.fn 17 [])] S0.m S0.n (fun v m' n' => ∃ S' : Cx fl, S'.m = m' ∧ S'.n = n' ∧ ChM S0 S' ∧ (v = .tup [] ∧ Ow Y23 S' 2 vt0 r)) := by
  unfold F41_17 at h
  refine Ret.walk F41_17.fn ?_
  have hM := ChM.refl S0
  refine WC.seq (WC.region (WO.mv rfl (WO.asg rfl (WO.nil (thenL_n (WC.seq (WC.region (WO.mv rfl ?_))))))))
  refine WO.bin rfl rfl (by decide) (by decide) rfl ?_
  refine WO.asg rfl (WO.nil (thenL_n (WC.block ?_)))
  obtain ⟨b23, e24, h⟩ := bindS h
  refine WC.loopD e24 (fun s1 l' m' n' => ∃ S2 : Cx fl, S2.m = m' ∧ S2.n = n' ∧ Cov l' [(0, .sc vt0), (8, .sc (.int .i64 s1.1)), (9, .sc (.int .i64 s1.2.1))] ∧ ChM S0 S2 ∧ Ow Y23 S2 2 vt0 s1.2.2) (fun b e l' m' n' => e = .exit 0 ∧ ∃ S3 : Cx fl, S3.m = m' ∧ S3.n = n' ∧ Cov l' [(0, .sc vt0)] ∧ ChM S0 S3 ∧ Ow Y23 S3 2 vt0 b) (by exact ⟨S0, rfl, rfl, (Cov.cons rfl (Cov.cons rfl (Cov.cons rfl (Cov.nil _)))), hM, hot0⟩) ?_ ?_
  · clear h
    rintro s1 q _ _ _ ⟨S4, rfl, rfl, hc5, hM, hot0⟩ h
    unfold F41_17_l0 at h
    refine WC.cov hc5 (WC.seq (WC.seq (WC.region (WO.mv rfl (WO.mv rfl ?_)))))
    refine WO.bin rfl rfl (by decide) (by decide) rfl ?_
    refine WO.nil (thenL_n ?_)
    refine WC.cond rfl (fun q6 => ?_) (fun q6 => ?_)
    · have h := iteT q6 h
      refine WC.skip (thenL_n (WC.block (WC.seq ?_)))
      refine WC.drawN rfl rfl ?_
      have hot0z := hot0.oz
      refine WO.mv rfl (WO.mv rfl (WO.mv rfl (WO.mv rfl (WO.mv rfl (WO.mv rfl ?_)))))
      obtain ⟨L7, e8, h⟩ := bindS h
      refine WO.ixS rfl rfl hot0.slv (at?_lt e8) rfl ?_
      refine WO.ldS rfl hot0z (fun _ hi => hi.1) (at?_get e8) rfl (limLe_self _) (fun v9 ho10 => ?_)
      have ho10 : Rd Y3 S4 v9 L7 := ho10
      refine WO.mv rfl (WO.mv rfl ?_)
      obtain ⟨L11, e12, h⟩ := bindS h
      refine WO.ixS rfl rfl hot0.slv (at?_lt e12) rfl ?_
      refine WO.ldS rfl hot0z (fun _ hi => hi.1) (at?_get e12) rfl (limLe_self _) (fun v13 ho14 => ?_)
      have ho14 : Rd Y3 S4 v13 L11 := ho14
      obtain ⟨u15, e16, h⟩ := bindS h
      refine WO.ixS rfl rfl hot0.slv (ck_some e16) rfl ?_
      refine WO.stS (S := S4) rfl rfl hot0 (ck_nat e16) ho10 rfl rfl (fun S17 c18 hot0 => ?_)
      have hM := hM.to c18
      have ho10 := ho10.to c18
      have ho14 := ho14.to c18
      obtain ⟨u19, e20, h⟩ := bindS h
      refine WO.ixS rfl rfl hot0.slv (ck_some e20) rfl ?_
      refine WO.stS (S := S17) rfl rfl hot0 (ck_nat e20) ho14 rfl rfl (fun S21 c22 hot0 => ?_)
      have hM := hM.to c22
      have ho10 := ho10.to c22
      have ho14 := ho14.to c22
      refine WO.nil (thenL_n (WC.seq (WC.region (WO.mv rfl ?_))))
      refine WO.bin rfl rfl (by decide) (by decide) rfl ?_
      refine WO.asg rfl (WO.nil (thenL_n (WC.region (WO.mv rfl ?_))))
      refine WO.bin rfl rfl (by decide) (by decide) rfl ?_
      refine WO.asg rfl (WO.nil (blockL_n (thenL_n ?_)))
      obtain rfl := someI h
      exact ⟨_, rfl, ⟨S21, rfl, rfl, (Cov.cons rfl (Cov.cons rfl (Cov.cons rfl (Cov.nil _)))), hM, hot0⟩⟩
    · have h := iteF q6 h
      refine WC.exit (thenL_e (thenL_e ?_))
      obtain rfl := someI h
      exact ⟨_, rfl, rfl, ⟨S4, rfl, rfl, (Cov.cons rfl (Cov.nil _)), hM, hot0⟩⟩
  rintro _ _ _ _ ⟨rfl, ⟨S25, rfl, rfl, hc26, hM, hot0⟩⟩
  refine blockL_s ?_
  obtain rfl := someI h
  exact ⟨.inl rfl, _, _, (resK_cov hc26 rfl), rfl, ⟨S25, rfl, rfl, hM, rfl, hot0⟩⟩
end Go.Proofs.Ytaphdnpjpmnaeaa

namespace Go.Proofs.Ytaphdnpjpmnaeaa
open Go.Am
theorem F42_17.fn : E.fn 42 = some ⟨141, (Try.f42.body.getD .skip), Try.f42.results.toList, []⟩ := rfl
theorem F42_17_ok {F : Nat} {fl : Nat} {S0 : Cx fl} {r : Bool × (List (List Int))} {t0 : List (List Int)} {t1 : Int} {t2 : Int} {vt0 : SV} (h : F42_17 F t0 t1 t2 = some r) (hot0 : Ow Y23 S0 2 vt0 t0) : Ret E fl 42 [.sc vt0, .sc (.int .i64 t1), .sc (.int .i64 t2), .sc (.fn 17 [])] S0.m S0.n (fun v m' n' => ∃ S' : Cx fl, S'.m = m' ∧ S'.n = n' ∧ ChM S0 S' ∧ (v = .sc (.bool r.1) ∧ Ow Y23 S' 2 vt0 r.2)) := by
  unfold F42_17 at h
  refine Ret.walk F42_17.fn ?_
  have hM := ChM.refl S0
  refine WC.seq (WC.region (WO.asg rfl (WO.nil (thenL_n (WC.seq (WC.region (WO.mv rfl ?_)))))))
  refine WO.bin rfl rfl (by decide) (by decide) rfl ?_
  refine WO.asg rfl (WO.nil (thenL_n (WC.seq (WC.seq (WC.region (WO.asg rfl (WO.nil (thenL_n (WC.block ?_)))))))))
  obtain ⟨b139, e140, h⟩ := bindS h
  refine WC.loopD e140 (fun s1 l' m' n' => ∃ S2 : Cx fl, S2.m = m' ∧ S2.n = n' ∧ Cov l' [(0, .sc vt0), (1, .sc (.int .i64 t1)), (2, .sc (.int .i64 t2)), (3, .sc (.fn 17 [])), (9, .sc (.int .i64 s1.1)), (10, .sc (.int .i64 s1.2.1))] ∧ ChM S0 S2 ∧ Ow Y23 S2 2 vt0 s1.2.2) (fun b e l' m' n' => (match b with | .inl b3 => e = .exit 0 ∧ ∃ S4 : Cx fl, S4.m = m' ∧ S4.n = n' ∧ Cov l' [(0, .sc vt0)] ∧ ChM S0 S4 ∧ Ow Y23 S4 2 vt0 b3 | .inr b3 => e = .ret ∧ ∃ S5 : Cx fl, S5.m = m' ∧ S5.n = n' ∧ Cov l' [(0, .sc vt0), (8, .sc (.bool b3.1))] ∧ ChM S0 S5 ∧ Ow Y23 S5 2 vt0 b3.2)) (by exact ⟨S0, rfl, rfl, (Cov.cons rfl (Cov.cons rfl (Cov.cons rfl (Cov.cons rfl (Cov.cons rfl (Cov.cons rfl (Cov.nil _))))))), hM, hot0⟩) ?_ ?_
  · clear h
    rintro s1 q _ _ _ ⟨S6, rfl, rfl, hc7, hM, hot0⟩ h
    unfold F42_17_l3 at h
    refine WC.cov hc7 (WC.seq (WC.seq (WC.region (WO.mv rfl ?_))))
    refine WO.bin rfl rfl (by decide) (by decide) rfl ?_
    refine WO.nil (thenL_n ?_)
    refine WC.cond rfl (fun q8 => ?_) (fun q8 => ?_)
    · have h := iteT q8 h
      refine WC.skip (thenL_n (WC.seq (WC.block (WC.seq (WC.block ?_)))))
      obtain ⟨b32, e33, h⟩ := bindS h
      refine WC.loopD e33 (fun s9 l' m' n' => ∃ S10 : Cx fl, S10.m = m' ∧ S10.n = n' ∧ Cov l' [(0, .sc vt0), (1, .sc (.int .i64 t1)), (2, .sc (.int .i64 t2)), (3, .sc (.fn 17 [])), (9, .sc (.int .i64 s9)), (10, .sc (.int .i64 s1.2.1))] ∧ ChM S0 S10 ∧ Ow Y23 S10 2 vt0 s1.2.2) (fun b e l' m' n' => e = .exit 2 ∧ ∃ S11 : Cx fl, S11.m = m' ∧ S11.n = n' ∧ Cov l' [(0, .sc vt0), (1, .sc (.int .i64 t1)), (2, .sc (.int .i64 t2)), (3, .sc (.fn 17 [])), (9, .sc (.int .i64 b)), (10, .sc (.int .i64 s1.2.1))] ∧ ChM S0 S11 ∧ Ow Y23 S11 2 vt0 s1.2.2) (by exact ⟨S6, rfl, rfl, (Cov.cons rfl (Cov.cons rfl (Cov.cons rfl (Cov.cons rfl (Cov.cons rfl (Cov.cons rfl (Cov.nil _))))))), hM, hot0⟩) ?_ ?_
      · clear h
        rintro s9 q _ _ _ ⟨S12, rfl, rfl, hc13, hM, hot0⟩ h
        unfold F42_17_l0 at h
        refine WC.cov hc13 (WC.seq (WC.seq ?_))
        refine WC.drawN rfl rfl ?_
        have hot0z := hot0.oz
        refine WO.mv rfl (WO.mv rfl ?_)
        refine WO.bin rfl rfl (by decide) (by decide) rfl ?_
        refine WO.mv rfl ?_
        obtain ⟨y27, e28, h⟩ := bindS h
        refine WO.cutS (d := 36) (S := S12) 14 y27 (fun q26 => ?_) (fun q26 => ?_) (fun S29 c30 => ?_)
        · have h := e28
          have h := iteT q26 h
          refine WO.gyes rfl rfl (WO.mv rfl (WO.gyes rfl rfl (WO.mv rfl (WO.gyes rfl rfl (WO.mv rfl (WO.gyes rfl rfl ?_))))))
          obtain ⟨L14, e15, h⟩ := bindS h
          refine WO.ixS rfl rfl hot0.slv (at?_lt e15) rfl ?_
          refine WO.gyes rfl rfl ?_
          refine WO.ldS rfl hot0z (fun _ hi => hi.1) (at?_get e15) rfl (limLe_self _) (fun v16 ho17 => ?_)
          have ho17 : Rd Y3 S12 v16 L14 := ho17
          refine WO.gyes rfl rfl (WO.mv rfl (WO.gyes rfl rfl (WO.mv rfl (WO.gyes rfl rfl ?_))))
          refine WO.bin rfl rfl (by decide) (by decide) rfl ?_
          refine WO.gyes rfl rfl ?_
          obtain ⟨L18, e19, h⟩ := bindS h
          refine WO.ixS rfl rfl hot0.slv (at?_lt e19) rfl ?_
          refine WO.gyes rfl rfl ?_
          refine WO.ldS rfl hot0z (fun _ hi => hi.1) (at?_get e19) rfl (limLe_self _) (fun v20 ho21 => ?_)
          have ho21 : Rd Y3 S12 v20 L18 := ho21
          refine WO.gyes rfl rfl ?_
          obtain ⟨r22, e23, h⟩ := bindS h
          refine WO.callE (S := S12) rfl rfl (F17_ok e23 ho17.vw ho21.vw) (fun S24 c25 => ?_)
          have hot0z := hot0z.tow c25
          have hM := hM.to c25
          have hot0 := hot0.to c25
          have ho17 := ho17.to c25
          have ho21 := ho21.to c25
          refine WO.gyes rfl rfl ?_
          refine WO.bin rfl rfl (by decide) (by decide) rfl ?_
          refine WO.gyes rfl rfl ?_
          refine WO.do rfl rfl ?_
          obtain rfl := someI h
          refine WO.pickT rfl rfl ?_
          refine WO.nil ?_
          exact ⟨S24, rfl, rfl, c25, (Cov.cons rfl (Cov.skip rfl (Cov.skip rfl (Cov.skip rfl (Cov.skip rfl (Cov.skip rfl (Cov.skip rfl (Cov.skip rfl (Cov.skip rfl (Cov.skip rfl (Cov.skip rfl (Cov.skip rfl (Cov.skip rfl (Cov.skip rfl (Cov.skip rfl (Cov.skip rfl (Cov.refl _)))))))))))))))))⟩
        · have h := e28
          have h := iteF q26 h
          obtain rfl := someI h
          refine WO.gno rfl rfl (WO.gno rfl rfl (WO.gno rfl rfl (WO.gno rfl rfl (WO.gno rfl rfl (WO.gno rfl rfl (WO.gno rfl rfl (WO.gno rfl rfl (WO.gno rfl rfl (WO.gno rfl rfl ?_)))))))))
          refine WO.gno rfl rfl (WO.gno rfl rfl (WO.gno rfl rfl ?_))
          refine WO.pickF rfl rfl ?_
          refine WO.nil ?_
          exact ⟨S12, rfl, rfl, Ch.refl _ _, (Cov.cons rfl (Cov.skip rfl (Cov.skip rfl (Cov.skip rfl (Cov.skip rfl (Cov.skip rfl (Cov.skip rfl (Cov.skip rfl (Cov.skip rfl (Cov.skip rfl (Cov.skip rfl (Cov.skip rfl (Cov.skip rfl (Cov.skip rfl (Cov.skip rfl (Cov.skip rfl (Cov.refl _)))))))))))))))))⟩
        have hot0z := hot0z.tow c30
        have hM := hM.to c30
        have hot0 := hot0.to c30
        refine WO.nil (thenL_n ?_)
        refine WC.cond rfl (fun q31 => ?_) (fun q31 => ?_)
        · have h := iteT q31 h
          refine WC.skip (thenL_n (WC.block (WC.region (WO.mv rfl ?_))))
          refine WO.bin rfl rfl (by decide) (by decide) rfl ?_
          refine WO.asg rfl (WO.nil (blockL_n (thenL_n ?_)))
          obtain rfl := someI h
          exact ⟨_, rfl, ⟨S29, rfl, rfl, (Cov.cons rfl (Cov.cons rfl (Cov.cons rfl (Cov.cons rfl (Cov.cons rfl (Cov.cons rfl (Cov.nil _))))))), hM, hot0⟩⟩
        · have h := iteF q31 h
          refine WC.exit (thenL_e (thenL_e ?_))
          obtain rfl := someI h
          exact ⟨_, rfl, rfl, ⟨S29, rfl, rfl, (Cov.cons rfl (Cov.cons rfl (Cov.cons rfl (Cov.cons rfl (Cov.cons rfl (Cov.cons rfl (Cov.nil _))))))), hM, hot0⟩⟩
      rintro _ _ _ _ ⟨rfl, ⟨S34, rfl, rfl, hc35, hM, hot0⟩⟩
      refine blockL_s (thenL_n (WC.cov hc35 (WC.seq (WC.seq (WC.region (WO.mv rfl (WO.mv rfl ?_)))))))
      refine WO.bin rfl rfl (by decide) (by decide) rfl ?_
      refine WO.nil (thenL_n ?_)
      refine WC.cond rfl (fun q36 => ?_) (fun q36 => ?_)
      · have h := iteT q36 h
        refine WC.seq (WC.region (WO.asg rfl (WO.nil (thenL_n (WC.ret (thenL_r (blockL_r (thenL_r (thenL_r ?_)))))))))
        obtain rfl := someI h
        exact ⟨_, rfl, rfl, ⟨S34, rfl, rfl, (Cov.cons rfl (Cov.cons rfl (Cov.nil _))), hM, hot0⟩⟩
      · have h := iteF q36 h
        refine WC.skip (thenL_n (WC.seq (WC.seq (WC.region (WO.mv rfl (WO.mv rfl ?_))))))
        refine WO.bin rfl rfl (by decide) (by decide) rfl ?_
        refine WO.bin rfl rfl (by decide) (by decide) rfl ?_
        refine WO.nil (thenL_n ?_)
        refine WC.cond rfl (fun q37 => ?_) (fun q37 => ?_)
        · have h := iteT q37 h
          refine WC.seq (WC.region (WO.asg rfl (WO.nil (thenL_n (WC.ret (thenL_r (blockL_r (thenL_r (thenL_r ?_)))))))))
          obtain rfl := someI h
          exact ⟨_, rfl, rfl, ⟨S34, rfl, rfl, (Cov.cons rfl (Cov.cons rfl (Cov.nil _))), hM, hot0⟩⟩
        · have h := iteF q37 h
          refine WC.skip (thenL_n (WC.seq ?_))
          refine WC.drawN rfl rfl ?_
          have hot0z := hot0.oz
          refine WO.mv rfl (WO.mv rfl (WO.mv rfl (WO.mv rfl ?_)))
          refine WO.bin rfl rfl (by decide) (by decide) rfl ?_
          refine WO.mv rfl (WO.mv rfl ?_)
          refine WO.bin rfl rfl (by decide) (by decide) rfl ?_
          obtain ⟨L38, e39, h⟩ := bindS h
          refine WO.ixS rfl rfl hot0.slv (at?_lt e39) rfl ?_
          refine WO.ldS rfl hot0z (fun _ hi => hi.1) (at?_get e39) rfl (limLe_self _) (fun v40 ho41 => ?_)
          have ho41 : Rd Y3 S34 v40 L38 := ho41
          refine WO.mv rfl (WO.mv rfl ?_)
          obtain ⟨L42, e43, h⟩ := bindS h
          refine WO.ixS rfl rfl hot0.slv (at?_lt e43) rfl ?_
          refine WO.ldS rfl hot0z (fun _ hi => hi.1) (at?_get e43) rfl (limLe_self _) (fun v44 ho45 => ?_)
          have ho45 : Rd Y3 S34 v44 L42 := ho45
          obtain ⟨u46, e47, h⟩ := bindS h
          refine WO.ixS rfl rfl hot0.slv (ck_some e47) rfl ?_
          refine WO.stS (S := S34) rfl rfl hot0 (ck_nat e47) ho41 rfl rfl (fun S48 c49 hot0 => ?_)
          have hM := hM.to c49
          have ho41 := ho41.to c49
          have ho45 := ho45.to c49
          obtain ⟨u50, e51, h⟩ := bindS h
          refine WO.ixS rfl rfl hot0.slv (ck_some e51) rfl ?_
          refine WO.stS (S := S48) rfl rfl hot0 (ck_nat e51) ho45 rfl rfl (fun S52 c53 hot0 => ?_)
          have hM := hM.to c53
          have ho41 := ho41.to c53
          have ho45 := ho45.to c53
          refine WO.nil (thenL_n (WC.seq (WC.seq (WC.region (WO.mv rfl (WO.mv rfl ?_))))))
          refine WO.bin rfl rfl (by decide) (by decide) rfl ?_
          refine WO.bin rfl rfl (by decide) (by decide) rfl ?_
          refine WO.nil (thenL_n ?_)
          obtain ⟨b94, e95, h⟩ := bindS h
          refine WC.mono (Q' := (fun b e l' m' n' => e = .normal ∧ ∃ S96 : Cx fl, S96.m = m' ∧ S96.n = n' ∧ Cov l' [(0, .sc vt0), (1, .sc (.int .i64 t1)), (2, .sc (.int .i64 t2)), (3, .sc (.fn 17 [])), (9, .sc (.int .i64 b32)), (10, .sc (.int .i64 s1.2.1))] ∧ ChM S0 S96 ∧ Ow Y23 S96 2 vt0 b) b94) ?_ ?_
          · have h := e95
            dsimp only at h ⊢
            refine WC.cond rfl (fun q54 => ?_) (fun q54 => ?_)
            · have h := iteT q54 h
              refine WC.seq (WC.region (WO.mv rfl ?_))
              refine WO.bin rfl rfl (by decide) (by decide) rfl ?_
              refine WO.asg rfl (WO.nil (thenL_n (WC.block ?_)))
              obtain ⟨b90, e91, h⟩ := bindS h
              refine WC.loopD e91 (fun s55 l' m' n' => ∃ S56 : Cx fl, S56.m = m' ∧ S56.n = n' ∧ Cov l' [(0, .sc vt0), (1, .sc (.int .i64 t1)), (2, .sc (.int .i64 t2)), (3, .sc (.fn 17 [])), (9, .sc (.int .i64 b32)), (10, .sc (.int .i64 s1.2.1)), (11, .sc (.int .i64 s55.1))] ∧ ChM S0 S56 ∧ Ow Y23 S56 2 vt0 s55.2) (fun b e l' m' n' => e = .exit 4 ∧ ∃ S57 : Cx fl, S57.m = m' ∧ S57.n = n' ∧ Cov l' [(0, .sc vt0), (1, .sc (.int .i64 t1)), (2, .sc (.int .i64 t2)), (3, .sc (.fn 17 [])), (9, .sc (.int .i64 b32)), (10, .sc (.int .i64 s1.2.1))] ∧ ChM S0 S57 ∧ Ow Y23 S57 2 vt0 b) (by exact ⟨S52, rfl, rfl, (Cov.cons rfl (Cov.cons rfl (Cov.cons rfl (Cov.cons rfl (Cov.cons rfl (Cov.cons rfl (Cov.cons rfl (Cov.nil _)))))))), hM, hot0⟩) ?_ ?_
              · clear h
                rintro s55 q _ _ _ ⟨S58, rfl, rfl, hc59, hM, hot0⟩ h
                unfold F42_17_l1 at h
                refine WC.cov hc59 (WC.seq (WC.seq (WC.region (WO.mv rfl ?_))))
                refine WO.bin rfl rfl (by decide) (by decide) rfl ?_
                refine WO.nil (thenL_n ?_)
                refine WC.cond rfl (fun q60 => ?_) (fun q60 => ?_)
                · have h := iteT q60 h
                  refine WC.skip (thenL_n (WC.seq (WC.block (WC.seq (WC.seq ?_)))))
                  refine WC.drawN rfl rfl ?_
                  have hot0z := hot0.oz
                  refine WO.mv rfl (WO.mv rfl (WO.mv rfl ?_))
                  obtain ⟨L61, e62, h⟩ := bindS h
                  refine WO.ixS rfl rfl hot0.slv (at?_lt e62) rfl ?_
                  refine WO.ldS rfl hot0z (fun _ hi => hi.1) (at?_get e62) rfl (limLe_self _) (fun v63 ho64 => ?_)
                  have ho64 : Rd Y3 S58 v63 L61 := ho64
                  refine WO.mv rfl (WO.mv rfl ?_)
                  refine WO.bin rfl rfl (by decide) (by decide) rfl ?_
                  obtain ⟨L65, e66, h⟩ := bindS h
                  refine WO.ixS rfl rfl hot0.slv (at?_lt e66) rfl ?_
                  refine WO.ldS rfl hot0z (fun _ hi => hi.1) (at?_get e66) rfl (limLe_self _) (fun v67 ho68 => ?_)
                  have ho68 : Rd Y3 S58 v67 L65 := ho68
                  obtain ⟨r69, e70, h⟩ := bindS h
                  refine WO.callE (S := S58) rfl rfl (F17_ok e70 ho64.vw ho68.vw) (fun S71 c72 => ?_)
                  have hot0z := hot0z.tow c72
                  have hM := hM.to c72
                  have hot0 := hot0.to c72
                  have ho64 := ho64.to c72
                  have ho68 := ho68.to c72
                  refine WO.bin rfl rfl (by decide) (by decide) rfl ?_
                  refine WO.do rfl rfl ?_
                  refine WO.nil (thenL_n ?_)
                  refine WC.cond rfl (fun q73 => ?_) (fun q73 => ?_)
                  · have h := iteT q73 h
                    refine WC.exit (thenL_e (blockL_e rfl (thenL_e (thenL_e ?_))))
                    obtain rfl := someI h
                    exact ⟨_, rfl, rfl, ⟨S71, rfl, rfl, (Cov.cons rfl (Cov.cons rfl (Cov.cons rfl (Cov.cons rfl (Cov.cons rfl (Cov.cons rfl (Cov.nil _))))))), hM, hot0⟩⟩
                  · have h := iteF q73 h
                    refine WC.skip (thenL_n ?_)
                    refine WC.drawN rfl rfl ?_
                    have hot0z := hot0.oz
                    have ho64z := ho64.oz
                    have ho68z := ho68.oz
                    refine WO.mv rfl (WO.mv rfl (WO.mv rfl (WO.mv rfl ?_)))
                    refine WO.bin rfl rfl (by decide) (by decide) rfl ?_
                    refine WO.mv rfl (WO.mv rfl ?_)
                    refine WO.bin rfl rfl (by decide) (by decide) rfl ?_
                    obtain ⟨L74, e75, h⟩ := bindS h
                    refine WO.ixS rfl rfl hot0.slv (at?_lt e75) rfl ?_
                    refine WO.ldS rfl hot0z (fun _ hi => hi.1) (at?_get e75) rfl (limLe_self _) (fun v76 ho77 => ?_)
                    have ho77 : Rd Y3 S71 v76 L74 := ho77
                    refine WO.mv rfl (WO.mv rfl ?_)
                    obtain ⟨L78, e79, h⟩ := bindS h
                    refine WO.ixS rfl rfl hot0.slv (at?_lt e79) rfl ?_
                    refine WO.ldS rfl hot0z (fun _ hi => hi.1) (at?_get e79) rfl (limLe_self _) (fun v80 ho81 => ?_)
                    have ho81 : Rd Y3 S71 v80 L78 := ho81
                    obtain ⟨u82, e83, h⟩ := bindS h
                    refine WO.ixS rfl rfl hot0.slv (ck_some e83) rfl ?_
                    refine WO.stS (S := S71) rfl rfl hot0 (ck_nat e83) ho77 rfl rfl (fun S84 c85 hot0 => ?_)
                    have ho64z := ho64z.toz c85
                    have ho68z := ho68z.toz c85
                    have hM := hM.to c85
                    have ho64 := ho64.to c85
                    have ho68 := ho68.to c85
                    have ho77 := ho77.to c85
                    have ho81 := ho81.to c85
                    obtain ⟨u86, e87, h⟩ := bindS h
                    refine WO.ixS rfl rfl hot0.slv (ck_some e87) rfl ?_
                    refine WO.stS (S := S84) rfl rfl hot0 (ck_nat e87) ho81 rfl rfl (fun S88 c89 hot0 => ?_)
                    have ho64z := ho64z.toz c89
                    have ho68z := ho68z.toz c89
                    have hM := hM.to c89
                    have ho64 := ho64.to c89
                    have ho68 := ho68.to c89
                    have ho77 := ho77.to c89
                    have ho81 := ho81.to c89
                    refine WO.nil (blockL_n (thenL_n (WC.region (WO.mv rfl ?_))))
                    refine WO.bin rfl rfl (by decide) (by decide) rfl ?_
                    refine WO.asg rfl (WO.nil (thenL_n ?_))
                    obtain rfl := someI h
                    exact ⟨_, rfl, ⟨S88, rfl, rfl, (Cov.cons rfl (Cov.cons rfl (Cov.cons rfl (Cov.cons rfl (Cov.cons rfl (Cov.cons rfl (Cov.cons rfl (Cov.nil _)))))))), hM, hot0⟩⟩
                · have h := iteF q60 h
                  refine WC.exit (thenL_e (thenL_e ?_))
                  obtain rfl := someI h
                  exact ⟨_, rfl, rfl, ⟨S58, rfl, rfl, (Cov.cons rfl (Cov.cons rfl (Cov.cons rfl (Cov.cons rfl (Cov.cons rfl (Cov.cons rfl (Cov.nil _))))))), hM, hot0⟩⟩
              rintro _ _ _ _ ⟨rfl, ⟨S92, rfl, rfl, hc93, hM, hot0⟩⟩
              refine blockL_s ?_
              obtain rfl := someI h
              exact ⟨rfl, ⟨S92, rfl, rfl, (Cov.trans hc93 (Cov.cons rfl (Cov.cons rfl (Cov.cons rfl (Cov.cons rfl (Cov.cons rfl (Cov.cons rfl (Cov.nil _)))))))), hM, hot0⟩⟩
            · have h := iteF q54 h
              refine WC.skip ?_
              obtain rfl := someI h
              exact ⟨rfl, ⟨S52, rfl, rfl, (Cov.cons rfl (Cov.cons rfl (Cov.cons rfl (Cov.cons rfl (Cov.cons rfl (Cov.cons rfl (Cov.nil _))))))), hM, hot0⟩⟩
          dsimp only
          rintro _ _ _ _ ⟨rfl, ⟨S97, rfl, rfl, hc98, hM, hot0⟩⟩
          refine thenL_n (WC.cov hc98 (WC.seq (WC.region (WO.mv rfl (WO.mv rfl ?_)))))
          refine WO.bin rfl rfl (by decide) (by decide) rfl ?_
          refine WO.bin rfl rfl (by decide) (by decide) rfl ?_
          refine WO.nil (thenL_n ?_)
          refine WC.cond rfl (fun q99 => ?_) (fun q99 => ?_)
          · have h := iteT q99 h
            refine WC.seq (WC.region (WO.mv rfl ?_))
            refine WO.bin rfl rfl (by decide) (by decide) rfl ?_
            refine WO.asg rfl (WO.nil (thenL_n (WC.block ?_)))
            obtain ⟨b135, e136, h⟩ := bindS h
            refine WC.loopD e136 (fun s100 l' m' n' => ∃ S101 : Cx fl, S101.m = m' ∧ S101.n = n' ∧ Cov l' [(0, .sc vt0), (1, .sc (.int .i64 t1)), (2, .sc (.int .i64 t2)), (3, .sc (.fn 17 [])), (9, .sc (.int .i64 b32)), (10, .sc (.int .i64 s1.2.1)), (12, .sc (.int .i64 s100.1))] ∧ ChM S0 S101 ∧ Ow Y23 S101 2 vt0 s100.2) (fun b e l' m' n' => e = .exit 6 ∧ ∃ S102 : Cx fl, S102.m = m' ∧ S102.n = n' ∧ Cov l' [(0, .sc vt0), (1, .sc (.int .i64 t1)), (2, .sc (.int .i64 t2)), (3, .sc (.fn 17 [])), (9, .sc (.int .i64 b32)), (10, .sc (.int .i64 s1.2.1))] ∧ ChM S0 S102 ∧ Ow Y23 S102 2 vt0 b) (by exact ⟨S97, rfl, rfl, (Cov.cons rfl (Cov.cons rfl (Cov.cons rfl (Cov.cons rfl (Cov.cons rfl (Cov.cons rfl (Cov.cons rfl (Cov.nil _)))))))), hM, hot0⟩) ?_ ?_
            · clear h
              rintro s100 q _ _ _ ⟨S103, rfl, rfl, hc104, hM, hot0⟩ h
              unfold F42_17_l2 at h
              refine WC.cov hc104 (WC.seq (WC.seq (WC.region (WO.mv rfl (WO.mv rfl ?_)))))
              refine WO.bin rfl rfl (by decide) (by decide) rfl ?_
              refine WO.nil (thenL_n ?_)
              refine WC.cond rfl (fun q105 => ?_) (fun q105 => ?_)
              · have h := iteT q105 h
                refine WC.skip (thenL_n (WC.seq (WC.block (WC.seq (WC.seq ?_)))))
                refine WC.drawN rfl rfl ?_
                have hot0z := hot0.oz
                refine WO.mv rfl (WO.mv rfl (WO.mv rfl ?_))
                obtain ⟨L106, e107, h⟩ := bindS h
                refine WO.ixS rfl rfl hot0.slv (at?_lt e107) rfl ?_
                refine WO.ldS rfl hot0z (fun _ hi => hi.1) (at?_get e107) rfl (limLe_self _) (fun v108 ho109 => ?_)
                have ho109 : Rd Y3 S103 v108 L106 := ho109
                refine WO.mv rfl (WO.mv rfl ?_)
                refine WO.bin rfl rfl (by decide) (by decide) rfl ?_
                obtain ⟨L110, e111, h⟩ := bindS h
                refine WO.ixS rfl rfl hot0.slv (at?_lt e111) rfl ?_
                refine WO.ldS rfl hot0z (fun _ hi => hi.1) (at?_get e111) rfl (limLe_self _) (fun v112 ho113 => ?_)
                have ho113 : Rd Y3 S103 v112 L110 := ho113
                obtain ⟨r114, e115, h⟩ := bindS h
                refine WO.callE (S := S103) rfl rfl (F17_ok e115 ho109.vw ho113.vw) (fun S116 c117 => ?_)
                have hot0z := hot0z.tow c117
                have hM := hM.to c117
                have hot0 := hot0.to c117
                have ho109 := ho109.to c117
                have ho113 := ho113.to c117
                refine WO.bin rfl rfl (by decide) (by decide) rfl ?_
                refine WO.do rfl rfl ?_
                refine WO.nil (thenL_n ?_)
                refine WC.cond rfl (fun q118 => ?_) (fun q118 => ?_)
                · have h := iteT q118 h
                  refine WC.exit (thenL_e (blockL_e rfl (thenL_e (thenL_e ?_))))
                  obtain rfl := someI h
                  exact ⟨_, rfl, rfl, ⟨S116, rfl, rfl, (Cov.cons rfl (Cov.cons rfl (Cov.cons rfl (Cov.cons rfl (Cov.cons rfl (Cov.cons rfl (Cov.nil _))))))), hM, hot0⟩⟩
                · have h := iteF q118 h
                  refine WC.skip (thenL_n ?_)
                  refine WC.drawN rfl rfl ?_
                  have hot0z := hot0.oz
                  have ho109z := ho109.oz
                  have ho113z := ho113.oz
                  refine WO.mv rfl (WO.mv rfl (WO.mv rfl (WO.mv rfl ?_)))
                  refine WO.bin rfl rfl (by decide) (by decide) rfl ?_
                  refine WO.mv rfl (WO.mv rfl ?_)
                  refine WO.bin rfl rfl (by decide) (by decide) rfl ?_
                  obtain ⟨L119, e120, h⟩ := bindS h
                  refine WO.ixS rfl rfl hot0.slv (at?_lt e120) rfl ?_
                  refine WO.ldS rfl hot0z (fun _ hi => hi.1) (at?_get e120) rfl (limLe_self _) (fun v121 ho122 => ?_)
                  have ho122 : Rd Y3 S116 v121 L119 := ho122
                  refine WO.mv rfl (WO.mv rfl ?_)
                  obtain ⟨L123, e124, h⟩ := bindS h
                  refine WO.ixS rfl rfl hot0.slv (at?_lt e124) rfl ?_
                  refine WO.ldS rfl hot0z (fun _ hi => hi.1) (at?_get e124) rfl (limLe_self _) (fun v125 ho126 => ?_)
                  have ho126 : Rd Y3 S116 v125 L123 := ho126
                  obtain ⟨u127, e128, h⟩ := bindS h
                  refine WO.ixS rfl rfl hot0.slv (ck_some e128) rfl ?_
                  refine WO.stS (S := S116) rfl rfl hot0 (ck_nat e128) ho122 rfl rfl (fun S129 c130 hot0 => ?_)
                  have ho109z := ho109z.toz c130
                  have ho113z := ho113z.toz c130
                  have hM := hM.to c130
                  have ho109 := ho109.to c130
                  have ho113 := ho113.to c130
                  have ho122 := ho122.to c130
                  have ho126 := ho126.to c130
                  obtain ⟨u131, e132, h⟩ := bindS h
                  refine WO.ixS rfl rfl hot0.slv (ck_some e132) rfl ?_
                  refine WO.stS (S := S129) rfl rfl hot0 (ck_nat e132) ho126 rfl rfl (fun S133 c134 hot0 => ?_)
                  have ho109z := ho109z.toz c134
                  have ho113z := ho113z.toz c134
                  have hM := hM.to c134
                  have ho109 := ho109.to c134
                  have ho113 := ho113.to c134
                  have ho122 := ho122.to c134
                  have ho126 := ho126.to c134
                  refine WO.nil (blockL_n (thenL_n (WC.region (WO.mv rfl ?_))))
                  refine WO.bin rfl rfl (by decide) (by decide) rfl ?_
                  refine WO.asg rfl (WO.nil (thenL_n ?_))
                  obtain rfl := someI h
                  exact ⟨_, rfl, ⟨S133, rfl, rfl, (Cov.cons rfl (Cov.cons rfl (Cov.cons rfl (Cov.cons rfl (Cov.cons rfl (Cov.cons rfl (Cov.cons rfl (Cov.nil _)))))))), hM, hot0⟩⟩
              · have h := iteF q105 h
                refine WC.exit (thenL_e (thenL_e ?_))
                obtain rfl := someI h
                exact ⟨_, rfl, rfl, ⟨S103, rfl, rfl, (Cov.cons rfl (Cov.cons rfl (Cov.cons rfl (Cov.cons rfl (Cov.cons rfl (Cov.cons rfl (Cov.nil _))))))), hM, hot0⟩⟩
            rintro _ _ _ _ ⟨rfl, ⟨S137, rfl, rfl, hc138, hM, hot0⟩⟩
            refine blockL_s (blockL_n (thenL_n (WC.cov hc138 (WC.region (WO.mv rfl ?_)))))
            refine WO.bin rfl rfl (by decide) (by decide) rfl ?_
            refine WO.asg rfl (WO.nil (thenL_n ?_))
            obtain rfl := someI h
            exact ⟨_, rfl, ⟨S137, rfl, rfl, (Cov.cons rfl (Cov.cons rfl (Cov.cons rfl (Cov.cons rfl (Cov.cons rfl (Cov.cons rfl (Cov.nil _))))))), hM, hot0⟩⟩
          · have h := iteF q99 h
            refine WC.skip (blockL_n (thenL_n (WC.region (WO.mv rfl ?_))))
            refine WO.bin rfl rfl (by decide) (by decide) rfl ?_
            refine WO.asg rfl (WO.nil (thenL_n ?_))
            obtain rfl := someI h
            exact ⟨_, rfl, ⟨S97, rfl, rfl, (Cov.cons rfl (Cov.cons rfl (Cov.cons rfl (Cov.cons rfl (Cov.cons rfl (Cov.cons rfl (Cov.nil _))))))), hM, hot0⟩⟩
    · have h := iteF q8 h
      refine WC.exit (thenL_e (thenL_e ?_))
      obtain rfl := someI h
      exact ⟨_, rfl, rfl, ⟨S6, rfl, rfl, (Cov.cons rfl (Cov.nil _)), hM, hot0⟩⟩
  cases b139 with
  | inl b141 =>
    simp only at h
    rintro _ _ _ _ ⟨rfl, ⟨S142, rfl, rfl, hc143, hM, hot0⟩⟩
    refine blockL_s (thenL_n (WC.cov hc143 (WC.seq (WC.region (WO.asg rfl (WO.nil (thenL_n (WC.ret ?_))))))))
    obtain rfl := someI h
    exact ⟨.inr rfl, _, _, rfl, rfl, ⟨S142, rfl, rfl, hM, rfl, hot0⟩⟩
  | inr b141 =>
    simp only at h
    rintro _ _ _ _ ⟨rfl, ⟨S144, rfl, rfl, hc145, hM, hot0⟩⟩
    refine blockL_r (thenL_r ?_)
    obtain rfl := someI h
    exact ⟨.inr rfl, _, _, (resK_cov hc145 rfl), rfl, ⟨S144, rfl, rfl, hM, rfl, hot0⟩⟩
end Go.Proofs.Ytaphdnpjpmnaeaa

namespace Go.Proofs.Ytaphdnpjpmnaeaa
open Go.Am
theorem F43_17.fn : E.fn 43 = some ⟨90, (Try.f43.body.getD .skip), Try.f43.results.toList, []⟩ := rfl
theorem F43_17_ok {F : Nat} {fl : Nat} {S0 : Cx fl} {r : Int × (List (List Int))} {t0 : List (List Int)} {t1 : Int} {t2 : Int} {t3 : Int} {vt0 : SV} (h : F43_17 F t0 t1 t2 t3 = some r) (hot0 : Ow Y23 S0 2 vt0 t0) : Ret E fl 43 [.sc vt0, .sc (.int .i64 t1), .sc (.int .i64 t2), .sc (.int .i64 t3), .sc (.fn 17 [])] S0.m S0.n (fun v m' n' => ∃ S' : Cx fl, S'.m = m' ∧ S'.n = n' ∧ ChM S0 S' ∧ (v = .sc (.int .i64 r.1) ∧ Ow Y23 S' 2 vt0 r.2)) := by
  unfold F43_17 at h
  refine Ret.walk F43_17.fn ?_
  have hM := ChM.refl S0
  refine WC.seq (WC.region (WO.asg rfl (WO.nil (thenL_n (WC.seq ?_)))))
  refine WC.drawN rfl rfl ?_
  have hot0z := hot0.oz
  refine WO.mv rfl (WO.mv rfl (WO.mv rfl (WO.mv rfl (WO.mv rfl (WO.mv rfl ?_)))))
  obtain ⟨L1, e2, h⟩ := bindS h
  refine WO.ixS rfl rfl hot0.slv (at?_lt e2) rfl ?_
  refine WO.ldS rfl hot0z (fun _ hi => hi.1) (at?_get e2) rfl (limLe_self _) (fun v3 ho4 => ?_)
  have ho4 : Rd Y3 S0 v3 L1 := ho4
  refine WO.mv rfl (WO.mv rfl ?_)
  obtain ⟨L5, e6, h⟩ := bindS h
  refine WO.ixS rfl rfl hot0.slv (at?_lt e6) rfl ?_
  refine WO.ldS rfl hot0z (fun _ hi => hi.1) (at?_get e6) rfl (limLe_self _) (fun v7 ho8 => ?_)
  have ho8 : Rd Y3 S0 v7 L5 := ho8
  obtain ⟨u9, e10, h⟩ := bindS h
  refine WO.ixS rfl rfl hot0.slv (ck_some e10) rfl ?_
  refine WO.stS (S := S0) rfl rfl hot0 (ck_nat e10) ho4 rfl rfl (fun S11 c12 hot0 => ?_)
  have hM := hM.to c12
  have ho4 := ho4.to c12
  have ho8 := ho8.to c12
  obtain ⟨u13, e14, h⟩ := bindS h
  refine WO.ixS rfl rfl hot0.slv (ck_some e14) rfl ?_
  refine WO.stS (S := S11) rfl rfl hot0 (ck_nat e14) ho8 rfl rfl (fun S15 c16 hot0 => ?_)
  have hM := hM.to c16
  have ho4 := ho4.to c16
  have ho8 := ho8.to c16
  refine WO.nil (thenL_n (WC.seq (WC.region (WO.mv rfl ?_))))
  refine WO.bin rfl rfl (by decide) (by decide) rfl ?_
  refine WO.mv rfl ?_
  refine WO.bin rfl rfl (by decide) (by decide) rfl ?_
  refine WO.asg rfl (WO.asg rfl (WO.nil (thenL_n (WC.seq (WC.block ?_)))))
  obtain ⟨b93, e94, h⟩ := bindS h
  refine WC.loopD e94 (fun s17 l' m' n' => ∃ S18 : Cx fl, S18.m = m' ∧ S18.n = n' ∧ Cov l' [(0, .sc vt0), (1, .sc (.int .i64 t1)), (4, .sc (.fn 17 [])), (11, .sc (.int .i64 s17.1)), (12, .sc (.int .i64 s17.2.1))] ∧ ChM S0 S18 ∧ Ow Y23 S18 2 vt0 s17.2.2) (fun b e l' m' n' => e = .exit 0 ∧ ∃ S19 : Cx fl, S19.m = m' ∧ S19.n = n' ∧ Cov l' [(0, .sc vt0), (11, .sc (.int .i64 b.1))] ∧ ChM S0 S19 ∧ Ow Y23 S19 2 vt0 b.2) (by exact ⟨S15, rfl, rfl, (Cov.cons rfl (Cov.cons rfl (Cov.cons rfl (Cov.cons rfl (Cov.cons rfl (Cov.nil _)))))), hM, hot0⟩) ?_ ?_
  · clear h
    rintro s17 q _ _ _ ⟨S20, rfl, rfl, hc21, hM, hot0⟩ h
    unfold F43_17_l2 at h
    refine WC.cov hc21 (WC.block (WC.seq (WC.block ?_)))
    obtain ⟨b45, e46, h⟩ := bindS h
    refine WC.loopD e46 (fun s22 l' m' n' => ∃ S23 : Cx fl, S23.m = m' ∧ S23.n = n' ∧ Cov l' [(0, .sc vt0), (1, .sc (.int .i64 t1)), (4, .sc (.fn 17 [])), (11, .sc (.int .i64 s22)), (12, .sc (.int .i64 s17.2.1))] ∧ ChM S0 S23 ∧ Ow Y23 S23 2 vt0 s17.2.2) (fun b e l' m' n' => e = .exit 2 ∧ ∃ S24 : Cx fl, S24.m = m' ∧ S24.n = n' ∧ Cov l' [(0, .sc vt0), (1, .sc (.int .i64 t1)), (4, .sc (.fn 17 [])), (11, .sc (.int .i64 b)), (12, .sc (.int .i64 s17.2.1))] ∧ ChM S0 S24 ∧ Ow Y23 S24 2 vt0 s17.2.2) (by exact ⟨S20, rfl, rfl, (Cov.cons rfl (Cov.cons rfl (Cov.cons rfl (Cov.cons rfl (Cov.cons rfl (Cov.nil _)))))), hM, hot0⟩) ?_ ?_
    · clear h
      rintro s22 q _ _ _ ⟨S25, rfl, rfl, hc26, hM, hot0⟩ h
      unfold F43_17_l0 at h
      refine WC.cov hc26 (WC.seq (WC.seq ?_))
      refine WC.drawN rfl rfl ?_
      have hot0z := hot0.oz
      refine WO.mv rfl (WO.mv rfl ?_)
      refine WO.bin rfl rfl (by decide) (by decide) rfl ?_
      refine WO.mv rfl ?_
      obtain ⟨y40, e41, h⟩ := bindS h
      refine WO.cutS (d := 47) (S := S25) 13 y40 (fun q39 => ?_) (fun q39 => ?_) (fun S42 c43 => ?_)
      · have h := e41
        have h := iteT q39 h
        refine WO.gyes rfl rfl (WO.mv rfl (WO.gyes rfl rfl (WO.mv rfl (WO.gyes rfl rfl (WO.mv rfl (WO.gyes rfl rfl ?_))))))
        obtain ⟨L27, e28, h⟩ := bindS h
        refine WO.ixS rfl rfl hot0.slv (at?_lt e28) rfl ?_
        refine WO.gyes rfl rfl ?_
        refine WO.ldS rfl hot0z (fun _ hi => hi.1) (at?_get e28) rfl (limLe_self _) (fun v29 ho30 => ?_)
        have ho30 : Rd Y3 S25 v29 L27 := ho30
        refine WO.gyes rfl rfl (WO.mv rfl (WO.gyes rfl rfl (WO.mv rfl (WO.gyes rfl rfl ?_))))
        obtain ⟨L31, e32, h⟩ := bindS h
        refine WO.ixS rfl rfl hot0.slv (at?_lt e32) rfl ?_
        refine WO.gyes rfl rfl ?_
        refine WO.ldS rfl hot0z (fun _ hi => hi.1) (at?_get e32) rfl (limLe_self _) (fun v33 ho34 => ?_)
        have ho34 : Rd Y3 S25 v33 L31 := ho34
        refine WO.gyes rfl rfl ?_
        obtain ⟨r35, e36, h⟩ := bindS h
        refine WO.callE (S := S25) rfl rfl (F17_ok e36 ho30.vw ho34.vw) (fun S37 c38 => ?_)
        have hot0z := hot0z.tow c38
        have hM := hM.to c38
        have hot0 := hot0.to c38
        have ho30 := ho30.to c38
        have ho34 := ho34.to c38
        refine WO.gyes rfl rfl ?_
        refine WO.bin rfl rfl (by decide) (by decide) rfl ?_
        refine WO.gyes rfl rfl ?_
        refine WO.do rfl rfl ?_
        obtain rfl := someI h
        refine WO.pickT rfl rfl ?_
        refine WO.nil ?_
        exact ⟨S37, rfl, rfl, c38, (Cov.cons rfl (Cov.skip rfl (Cov.skip rfl (Cov.skip rfl (Cov.skip rfl (Cov.skip rfl (Cov.skip rfl (Cov.skip rfl (Cov.skip rfl (Cov.skip rfl (Cov.skip rfl (Cov.skip rfl (Cov.skip rfl (Cov.skip rfl (Cov.skip rfl (Cov.refl _))))))))))))))))⟩
      · have h := e41
        have h := iteF q39 h
        obtain rfl := someI h
        refine WO.gno rfl rfl (WO.gno rfl rfl (WO.gno rfl rfl (WO.gno rfl rfl (WO.gno rfl rfl (WO.gno rfl rfl (WO.gno rfl rfl (WO.gno rfl rfl (WO.gno rfl rfl (WO.gno rfl rfl ?_)))))))))
        refine WO.gno rfl rfl (WO.gno rfl rfl ?_)
        refine WO.pickF rfl rfl ?_
        refine WO.nil ?_
        exact ⟨S25, rfl, rfl, Ch.refl _ _, (Cov.cons rfl (Cov.skip rfl (Cov.skip rfl (Cov.skip rfl (Cov.skip rfl (Cov.skip rfl (Cov.skip rfl (Cov.skip rfl (Cov.skip rfl (Cov.skip rfl (Cov.skip rfl (Cov.skip rfl (Cov.skip rfl (Cov.skip rfl (Cov.skip rfl (Cov.refl _))))))))))))))))⟩
      have hot0z := hot0z.tow c43
      have hM := hM.to c43
      have hot0 := hot0.to c43
      refine WO.nil (thenL_n ?_)
      refine WC.cond rfl (fun q44 => ?_) (fun q44 => ?_)
      · have h := iteT q44 h
        refine WC.skip (thenL_n (WC.block (WC.region (WO.mv rfl ?_))))
        refine WO.bin rfl rfl (by decide) (by decide) rfl ?_
        refine WO.asg rfl (WO.nil (blockL_n (thenL_n ?_)))
        obtain rfl := someI h
        exact ⟨_, rfl, ⟨S42, rfl, rfl, (Cov.cons rfl (Cov.cons rfl (Cov.cons rfl (Cov.cons rfl (Cov.cons rfl (Cov.nil _)))))), hM, hot0⟩⟩
      · have h := iteF q44 h
        refine WC.exit (thenL_e (thenL_e ?_))
        obtain rfl := someI h
        exact ⟨_, rfl, rfl, ⟨S42, rfl, rfl, (Cov.cons rfl (Cov.cons rfl (Cov.cons rfl (Cov.cons rfl (Cov.cons rfl (Cov.nil _)))))), hM, hot0⟩⟩
    rintro _ _ _ _ ⟨rfl, ⟨S47, rfl, rfl, hc48, hM, hot0⟩⟩
    refine blockL_s (thenL_n (WC.cov hc48 (WC.seq (WC.block ?_))))
    obtain ⟨b72, e73, h⟩ := bindS h
    refine WC.loopD e73 (fun s49 l' m' n' => ∃ S50 : Cx fl, S50.m = m' ∧ S50.n = n' ∧ Cov l' [(0, .sc vt0), (1, .sc (.int .i64 t1)), (4, .sc (.fn 17 [])), (11, .sc (.int .i64 b45)), (12, .sc (.int .i64 s49))] ∧ ChM S0 S50 ∧ Ow Y23 S50 2 vt0 s17.2.2) (fun b e l' m' n' => e = .exit 4 ∧ ∃ S51 : Cx fl, S51.m = m' ∧ S51.n = n' ∧ Cov l' [(0, .sc vt0), (1, .sc (.int .i64 t1)), (4, .sc (.fn 17 [])), (11, .sc (.int .i64 b45)), (12, .sc (.int .i64 b))] ∧ ChM S0 S51 ∧ Ow Y23 S51 2 vt0 s17.2.2) (by exact ⟨S47, rfl, rfl, (Cov.cons rfl (Cov.cons rfl (Cov.cons rfl (Cov.cons rfl (Cov.cons rfl (Cov.nil _)))))), hM, hot0⟩) ?_ ?_
    · clear h
      rintro s49 q _ _ _ ⟨S52, rfl, rfl, hc53, hM, hot0⟩ h
      unfold F43_17_l1 at h
      refine WC.cov hc53 (WC.seq (WC.seq ?_))
      refine WC.drawN rfl rfl ?_
      have hot0z := hot0.oz
      refine WO.mv rfl (WO.mv rfl ?_)
      refine WO.bin rfl rfl (by decide) (by decide) rfl ?_
      refine WO.mv rfl ?_
      obtain ⟨y67, e68, h⟩ := bindS h
      refine WO.cutS (d := 65) (S := S52) 12 y67 (fun q66 => ?_) (fun q66 => ?_) (fun S69 c70 => ?_)
      · have h := e68
        have h := iteT q66 h
        refine WO.gyes rfl rfl (WO.mv rfl (WO.gyes rfl rfl (WO.mv rfl (WO.gyes rfl rfl (WO.mv rfl (WO.gyes rfl rfl ?_))))))
        obtain ⟨L54, e55, h⟩ := bindS h
        refine WO.ixS rfl rfl hot0.slv (at?_lt e55) rfl ?_
        refine WO.gyes rfl rfl ?_
        refine WO.ldS rfl hot0z (fun _ hi => hi.1) (at?_get e55) rfl (limLe_self _) (fun v56 ho57 => ?_)
        have ho57 : Rd Y3 S52 v56 L54 := ho57
        refine WO.gyes rfl rfl (WO.mv rfl (WO.gyes rfl rfl (WO.mv rfl (WO.gyes rfl rfl ?_))))
        obtain ⟨L58, e59, h⟩ := bindS h
        refine WO.ixS rfl rfl hot0.slv (at?_lt e59) rfl ?_
        refine WO.gyes rfl rfl ?_
        refine WO.ldS rfl hot0z (fun _ hi => hi.1) (at?_get e59) rfl (limLe_self _) (fun v60 ho61 => ?_)
        have ho61 : Rd Y3 S52 v60 L58 := ho61
        refine WO.gyes rfl rfl ?_
        obtain ⟨r62, e63, h⟩ := bindS h
        refine WO.callE (S := S52) rfl rfl (F17_ok e63 ho57.vw ho61.vw) (fun S64 c65 => ?_)
        have hot0z := hot0z.tow c65
        have hM := hM.to c65
        have hot0 := hot0.to c65
        have ho57 := ho57.to c65
        have ho61 := ho61.to c65
        refine WO.gyes rfl rfl ?_
        refine WO.bin rfl rfl (by decide) (by decide) rfl ?_
        obtain rfl := someI h
        refine WO.pickT rfl rfl ?_
        refine WO.nil ?_
        exact ⟨S64, rfl, rfl, c65, (Cov.cons rfl (Cov.skip rfl (Cov.skip rfl (Cov.skip rfl (Cov.skip rfl (Cov.skip rfl (Cov.skip rfl (Cov.skip rfl (Cov.skip rfl (Cov.skip rfl (Cov.skip rfl (Cov.skip rfl (Cov.skip rfl (Cov.skip rfl (Cov.refl _)))))))))))))))⟩
      · have h := e68
        have h := iteF q66 h
        obtain rfl := someI h
        refine WO.gno rfl rfl (WO.gno rfl rfl (WO.gno rfl rfl (WO.gno rfl rfl (WO.gno rfl rfl (WO.gno rfl rfl (WO.gno rfl rfl (WO.gno rfl rfl (WO.gno rfl rfl (WO.gno rfl rfl ?_)))))))))
        refine WO.gno rfl rfl ?_
        refine WO.pickF rfl rfl ?_
        refine WO.nil ?_
        exact ⟨S52, rfl, rfl, Ch.refl _ _, (Cov.cons rfl (Cov.skip rfl (Cov.skip rfl (Cov.skip rfl (Cov.skip rfl (Cov.skip rfl (Cov.skip rfl (Cov.skip rfl (Cov.skip rfl (Cov.skip rfl (Cov.skip rfl (Cov.skip rfl (Cov.skip rfl (Cov.skip rfl (Cov.refl _)))))))))))))))⟩
      have hot0z := hot0z.tow c70
      have hM := hM.to c70
      have hot0 := hot0.to c70
      refine WO.nil (thenL_n ?_)
      refine WC.cond rfl (fun q71 => ?_) (fun q71 => ?_)
      · have h := iteT q71 h
        refine WC.skip (thenL_n (WC.block (WC.region (WO.mv rfl ?_))))
        refine WO.bin rfl rfl (by decide) (by decide) rfl ?_
        refine WO.asg rfl (WO.nil (blockL_n (thenL_n ?_)))
        obtain rfl := someI h
        exact ⟨_, rfl, ⟨S69, rfl, rfl, (Cov.cons rfl (Cov.cons rfl (Cov.cons rfl (Cov.cons rfl (Cov.cons rfl (Cov.nil _)))))), hM, hot0⟩⟩
      · have h := iteF q71 h
        refine WC.exit (thenL_e (thenL_e ?_))
        obtain rfl := someI h
        exact ⟨_, rfl, rfl, ⟨S69, rfl, rfl, (Cov.cons rfl (Cov.cons rfl (Cov.cons rfl (Cov.cons rfl (Cov.cons rfl (Cov.nil _)))))), hM, hot0⟩⟩
    rintro _ _ _ _ ⟨rfl, ⟨S74, rfl, rfl, hc75, hM, hot0⟩⟩
    refine blockL_s (thenL_n (WC.cov hc75 (WC.seq (WC.seq (WC.region (WO.mv rfl (WO.mv rfl ?_)))))))
    refine WO.bin rfl rfl (by decide) (by decide) rfl ?_
    refine WO.nil (thenL_n ?_)
    refine WC.cond rfl (fun q76 => ?_) (fun q76 => ?_)
    · have h := iteT q76 h
      refine WC.exit (thenL_e (blockL_e rfl (thenL_e ?_)))
      obtain rfl := someI h
      exact ⟨_, rfl, rfl, ⟨S74, rfl, rfl, (Cov.cons rfl (Cov.cons rfl (Cov.nil _))), hM, hot0⟩⟩
    · have h := iteF q76 h
      refine WC.skip (thenL_n (WC.seq ?_))
      refine WC.drawN rfl rfl ?_
      have hot0z := hot0.oz
      refine WO.mv rfl (WO.mv rfl (WO.mv rfl (WO.mv rfl (WO.mv rfl (WO.mv rfl ?_)))))
      obtain ⟨L77, e78, h⟩ := bindS h
      refine WO.ixS rfl rfl hot0.slv (at?_lt e78) rfl ?_
      refine WO.ldS rfl hot0z (fun _ hi => hi.1) (at?_get e78) rfl (limLe_self _) (fun v79 ho80 => ?_)
      have ho80 : Rd Y3 S74 v79 L77 := ho80
      refine WO.mv rfl (WO.mv rfl ?_)
      obtain ⟨L81, e82, h⟩ := bindS h
      refine WO.ixS rfl rfl hot0.slv (at?_lt e82) rfl ?_
      refine WO.ldS rfl hot0z (fun _ hi => hi.1) (at?_get e82) rfl (limLe_self _) (fun v83 ho84 => ?_)
      have ho84 : Rd Y3 S74 v83 L81 := ho84
      obtain ⟨u85, e86, h⟩ := bindS h
      refine WO.ixS rfl rfl hot0.slv (ck_some e86) rfl ?_
      refine WO.stS (S := S74) rfl rfl hot0 (ck_nat e86) ho80 rfl rfl (fun S87 c88 hot0 => ?_)
      have hM := hM.to c88
      have ho80 := ho80.to c88
      have ho84 := ho84.to c88
      obtain ⟨u89, e90, h⟩ := bindS h
      refine WO.ixS rfl rfl hot0.slv (ck_some e90) rfl ?_
      refine WO.stS (S := S87) rfl rfl hot0 (ck_nat e90) ho84 rfl rfl (fun S91 c92 hot0 => ?_)
      have hM := hM.to c92
      have ho80 := ho80.to c92
      have ho84 := ho84.to c92
      refine WO.nil (thenL_n (WC.seq (WC.region (WO.mv rfl ?_))))
      refine WO.bin rfl rfl (by decide) (by decide) rfl ?_
      refine WO.asg rfl (WO.nil (thenL_n (WC.region (WO.mv rfl ?_))))
      refine WO.bin rfl rfl (by decide) (by decide) rfl ?_
      refine WO.asg rfl (WO.nil (blockL_n (thenL_n ?_)))
      obtain rfl := someI h
      exact ⟨_, rfl, ⟨S91, rfl, rfl, (Cov.cons rfl (Cov.cons rfl (Cov.cons rfl (Cov.cons rfl (Cov.cons rfl (Cov.nil _)))))), hM, hot0⟩⟩
  rintro _ _ _ _ ⟨rfl, ⟨S95, rfl, rfl, hc96, hM, hot0⟩⟩
  refine blockL_s (thenL_n (WC.cov hc96 (WC.seq (WC.region (WO.mv rfl (WO.asg rfl (WO.nil (thenL_n (WC.ret ?_)))))))))
  obtain rfl := someI h
  exact ⟨.inr rfl, _, _, rfl, rfl, ⟨S95, rfl, rfl, hM, rfl, hot0⟩⟩
end Go.Proofs.Ytaphdnpjpmnaeaa

namespace Go.Proofs.Ytaphdnpjpmnaeaa
open Go.Am
theorem F44_17.fn : E.fn 44 = some ⟨178, (Try.f44.body.getD .skip), Try.f44.results.toList, []⟩ := rfl
theorem F44_17_ok {F : Nat} {fl : Nat} {S0 : Cx fl} {r : Int × Bool × (List (List Int))} {t0 : List (List Int)} {t1 : Int} {t2 : Int} {t3 : Int} {vt0 : SV} (h : F44_17 F t0 t1 t2 t3 = some r) (hot0 : Ow Y23 S0 2 vt0 t0) : Ret E fl 44 [.sc vt0, .sc (.int .i64 t1), .sc (.int .i64 t2), .sc (.int .i64 t3), .sc (.fn 17 [])] S0.m S0.n (fun v m' n' => ∃ S' : Cx fl, S'.m = m' ∧ S'.n = n' ∧ ChM S0 S' ∧ (v = .tup [.sc (.int .i64 r.1), .sc (.bool r.2.1)] ∧ Ow Y23 S' 2 vt0 r.2.2)) := by
  unfold F44_17 at h
  refine Ret.walk F44_17.fn ?_
  have hM := ChM.refl S0
  refine WC.seq (WC.region (WO.asg rfl (WO.asg rfl (WO.nil (thenL_n (WC.seq ?_))))))
  refine WC.drawN rfl rfl ?_
  have hot0z := hot0.oz
  refine WO.mv rfl (WO.mv rfl (WO.mv rfl (WO.mv rfl (WO.mv rfl (WO.mv rfl ?_)))))
  obtain ⟨L1, e2, h⟩ := bindS h
  refine WO.ixS rfl rfl hot0.slv (at?_lt e2) rfl ?_
  refine WO.ldS rfl hot0z (fun _ hi => hi.1) (at?_get e2) rfl (limLe_self _) (fun v3 ho4 => ?_)
  have ho4 : Rd Y3 S0 v3 L1 := ho4
  refine WO.mv rfl (WO.mv rfl ?_)
  obtain ⟨L5, e6, h⟩ := bindS h
  refine WO.ixS rfl rfl hot0.slv (at?_lt e6) rfl ?_
  refine WO.ldS rfl hot0z (fun _ hi => hi.1) (at?_get e6) rfl (limLe_self _) (fun v7 ho8 => ?_)
  have ho8 : Rd Y3 S0 v7 L5 := ho8
  obtain ⟨u9, e10, h⟩ := bindS h
  refine WO.ixS rfl rfl hot0.slv (ck_some e10) rfl ?_
  refine WO.stS (S := S0) rfl rfl hot0 (ck_nat e10) ho4 rfl rfl (fun S11 c12 hot0 => ?_)
  have hM := hM.to c12
  have ho4 := ho4.to c12
  have ho8 := ho8.to c12
  obtain ⟨u13, e14, h⟩ := bindS h
  refine WO.ixS rfl rfl hot0.slv (ck_some e14) rfl ?_
  refine WO.stS (S := S11) rfl rfl hot0 (ck_nat e14) ho8 rfl rfl (fun S15 c16 hot0 => ?_)
  have hM := hM.to c16
  have ho4 := ho4.to c16
  have ho8 := ho8.to c16
  refine WO.nil (thenL_n (WC.seq (WC.region (WO.mv rfl ?_))))
  refine WO.bin rfl rfl (by decide) (by decide) rfl ?_
  refine WO.mv rfl ?_
  refine WO.bin rfl rfl (by decide) (by decide) rfl ?_
  refine WO.asg rfl (WO.asg rfl (WO.nil (thenL_n (WC.seq (WC.block ?_)))))
  obtain ⟨b40, e41, h⟩ := bindS h
  refine WC.loopD e41 (fun s17 l' m' n' => ∃ S18 : Cx fl, S18.m = m' ∧ S18.n = n' ∧ Cov l' [(0, .sc vt0), (1, .sc (.int .i64 t1)), (4, .sc (.fn 17 [])), (12, .sc (.int .i64 s17)), (13, .sc (.int .i64 ((wrapA .i64 (t2 - 1)))))] ∧ ChM S0 S18 ∧ Ow Y23 S18 2 vt0 ((((t0.set ((Int.toNat t1)) L1)).set ((Int.toNat t3)) L5))) (fun b e l' m' n' => e = .exit 0 ∧ ∃ S19 : Cx fl, S19.m = m' ∧ S19.n = n' ∧ Cov l' [(0, .sc vt0), (1, .sc (.int .i64 t1)), (4, .sc (.fn 17 [])), (12, .sc (.int .i64 b)), (13, .sc (.int .i64 ((wrapA .i64 (t2 - 1)))))] ∧ ChM S0 S19 ∧ Ow Y23 S19 2 vt0 ((((t0.set ((Int.toNat t1)) L1)).set ((Int.toNat t3)) L5))) (by exact ⟨S15, rfl, rfl, (Cov.cons rfl (Cov.cons rfl (Cov.cons rfl (Cov.cons rfl (Cov.cons rfl (Cov.nil _)))))), hM, hot0⟩) ?_ ?_
  · clear h
    rintro s17 q _ _ _ ⟨S20, rfl, rfl, hc21, hM, hot0⟩ h
    unfold F44_17_l0 at h
    refine WC.cov hc21 (WC.seq (WC.seq ?_))
    refine WC.drawN rfl rfl ?_
    have hot0z := hot0.oz
    refine WO.mv rfl (WO.mv rfl ?_)
    refine WO.bin rfl rfl (by decide) (by decide) rfl ?_
    refine WO.mv rfl ?_
    obtain ⟨y35, e36, h⟩ := bindS h
    refine WO.cutS (d := 47) (S := S20) 12 y35 (fun q34 => ?_) (fun q34 => ?_) (fun S37 c38 => ?_)
    · have h := e36
      have h := iteT q34 h
      refine WO.gyes rfl rfl (WO.mv rfl (WO.gyes rfl rfl (WO.mv rfl (WO.gyes rfl rfl (WO.mv rfl (WO.gyes rfl rfl ?_))))))
      obtain ⟨L22, e23, h⟩ := bindS h
      refine WO.ixS rfl rfl hot0.slv (at?_lt e23) rfl ?_
      refine WO.gyes rfl rfl ?_
      refine WO.ldS rfl hot0z (fun _ hi => hi.1) (at?_get e23) rfl (limLe_self _) (fun v24 ho25 => ?_)
      have ho25 : Rd Y3 S20 v24 L22 := ho25
      refine WO.gyes rfl rfl (WO.mv rfl (WO.gyes rfl rfl (WO.mv rfl (WO.gyes rfl rfl ?_))))
      obtain ⟨L26, e27, h⟩ := bindS h
      refine WO.ixS rfl rfl hot0.slv (at?_lt e27) rfl ?_
      refine WO.gyes rfl rfl ?_
      refine WO.ldS rfl hot0z (fun _ hi => hi.1) (at?_get e27) rfl (limLe_self _) (fun v28 ho29 => ?_)
      have ho29 : Rd Y3 S20 v28 L26 := ho29
      refine WO.gyes rfl rfl ?_
      obtain ⟨r30, e31, h⟩ := bindS h
      refine WO.callE (S := S20) rfl rfl (F17_ok e31 ho25.vw ho29.vw) (fun S32 c33 => ?_)
      have hot0z := hot0z.tow c33
      have hM := hM.to c33
      have hot0 := hot0.to c33
      have ho25 := ho25.to c33
      have ho29 := ho29.to c33
      refine WO.gyes rfl rfl ?_
      refine WO.bin rfl rfl (by decide) (by decide) rfl ?_
      obtain rfl := someI h
      refine WO.pickT rfl rfl ?_
      refine WO.nil ?_
      exact ⟨S32, rfl, rfl, c33, (Cov.cons rfl (Cov.skip rfl (Cov.skip rfl (Cov.skip rfl (Cov.skip rfl (Cov.skip rfl (Cov.skip rfl (Cov.skip rfl (Cov.skip rfl (Cov.skip rfl (Cov.skip rfl (Cov.skip rfl (Cov.skip rfl (Cov.skip rfl (Cov.refl _)))))))))))))))⟩
    · have h := e36
      have h := iteF q34 h
      obtain rfl := someI h
      refine WO.gno rfl rfl (WO.gno rfl rfl (WO.gno rfl rfl (WO.gno rfl rfl (WO.gno rfl rfl (WO.gno rfl rfl (WO.gno rfl rfl (WO.gno rfl rfl (WO.gno rfl rfl (WO.gno rfl rfl ?_)))))))))
      refine WO.gno rfl rfl ?_
      refine WO.pickF rfl rfl ?_
      refine WO.nil ?_
      exact ⟨S20, rfl, rfl, Ch.refl _ _, (Cov.cons rfl (Cov.skip rfl (Cov.skip rfl (Cov.skip rfl (Cov.skip rfl (Cov.skip rfl (Cov.skip rfl (Cov.skip rfl (Cov.skip rfl (Cov.skip rfl (Cov.skip rfl (Cov.skip rfl (Cov.skip rfl (Cov.skip rfl (Cov.refl _)))))))))))))))⟩
    have hot0z := hot0z.tow c38
    have hM := hM.to c38
    have hot0 := hot0.to c38
    refine WO.nil (thenL_n ?_)
    refine WC.cond rfl (fun q39 => ?_) (fun q39 => ?_)
    · have h := iteT q39 h
      refine WC.skip (thenL_n (WC.block (WC.region (WO.mv rfl ?_))))
      refine WO.bin rfl rfl (by decide) (by decide) rfl ?_
      refine WO.asg rfl (WO.nil (blockL_n (thenL_n ?_)))
      obtain rfl := someI h
      exact ⟨_, rfl, ⟨S37, rfl, rfl, (Cov.cons rfl (Cov.cons rfl (Cov.cons rfl (Cov.cons rfl (Cov.cons rfl (Cov.nil _)))))), hM, hot0⟩⟩
    · have h := iteF q39 h
      refine WC.exit (thenL_e (thenL_e ?_))
      obtain rfl := someI h
      exact ⟨_, rfl, rfl, ⟨S37, rfl, rfl, (Cov.cons rfl (Cov.cons rfl (Cov.cons rfl (Cov.cons rfl (Cov.cons rfl (Cov.nil _)))))), hM, hot0⟩⟩
  rintro _ _ _ _ ⟨rfl, ⟨S42, rfl, rfl, hc43, hM, hot0⟩⟩
  refine blockL_s (thenL_n (WC.cov hc43 (WC.seq (WC.block ?_))))
  obtain ⟨b67, e68, h⟩ := bindS h
  refine WC.loopD e68 (fun s44 l' m' n' => ∃ S45 : Cx fl, S45.m = m' ∧ S45.n = n' ∧ Cov l' [(0, .sc vt0), (1, .sc (.int .i64 t1)), (4, .sc (.fn 17 [])), (12, .sc (.int .i64 b40)), (13, .sc (.int .i64 s44))] ∧ ChM S0 S45 ∧ Ow Y23 S45 2 vt0 ((((t0.set ((Int.toNat t1)) L1)).set ((Int.toNat t3)) L5))) (fun b e l' m' n' => e = .exit 2 ∧ ∃ S46 : Cx fl, S46.m = m' ∧ S46.n = n' ∧ Cov l' [(0, .sc vt0), (1, .sc (.int .i64 t1)), (4, .sc (.fn 17 [])), (12, .sc (.int .i64 b40)), (13, .sc (.int .i64 b))] ∧ ChM S0 S46 ∧ Ow Y23 S46 2 vt0 ((((t0.set ((Int.toNat t1)) L1)).set ((Int.toNat t3)) L5))) (by exact ⟨S42, rfl, rfl, (Cov.cons rfl (Cov.cons rfl (Cov.cons rfl (Cov.cons rfl (Cov.cons rfl (Cov.nil _)))))), hM, hot0⟩) ?_ ?_
  · clear h
    rintro s44 q _ _ _ ⟨S47, rfl, rfl, hc48, hM, hot0⟩ h
    unfold F44_17_l1 at h
    refine WC.cov hc48 (WC.seq (WC.seq ?_))
    refine WC.drawN rfl rfl ?_
    have hot0z := hot0.oz
    refine WO.mv rfl (WO.mv rfl ?_)
    refine WO.bin rfl rfl (by decide) (by decide) rfl ?_
    refine WO.mv rfl ?_
    obtain ⟨y62, e63, h⟩ := bindS h
    refine WO.cutS (d := 66) (S := S47) 13 y62 (fun q61 => ?_) (fun q61 => ?_) (fun S64 c65 => ?_)
    · have h := e63
      have h := iteT q61 h
      refine WO.gyes rfl rfl (WO.mv rfl (WO.gyes rfl rfl (WO.mv rfl (WO.gyes rfl rfl (WO.mv rfl (WO.gyes rfl rfl ?_))))))
      obtain ⟨L49, e50, h⟩ := bindS h
      refine WO.ixS rfl rfl hot0.slv (at?_lt e50) rfl ?_
      refine WO.gyes rfl rfl ?_
      refine WO.ldS rfl hot0z (fun _ hi => hi.1) (at?_get e50) rfl (limLe_self _) (fun v51 ho52 => ?_)
      have ho52 : Rd Y3 S47 v51 L49 := ho52
      refine WO.gyes rfl rfl (WO.mv rfl (WO.gyes rfl rfl (WO.mv rfl (WO.gyes rfl rfl ?_))))
      obtain ⟨L53, e54, h⟩ := bindS h
      refine WO.ixS rfl rfl hot0.slv (at?_lt e54) rfl ?_
      refine WO.gyes rfl rfl ?_
      refine WO.ldS rfl hot0z (fun _ hi => hi.1) (at?_get e54) rfl (limLe_self _) (fun v55 ho56 => ?_)
      have ho56 : Rd Y3 S47 v55 L53 := ho56
      refine WO.gyes rfl rfl ?_
      obtain ⟨r57, e58, h⟩ := bindS h
      refine WO.callE (S := S47) rfl rfl (F17_ok e58 ho52.vw ho56.vw) (fun S59 c60 => ?_)
      have hot0z := hot0z.tow c60
      have hM := hM.to c60
      have hot0 := hot0.to c60
      have ho52 := ho52.to c60
      have ho56 := ho56.to c60
      refine WO.gyes rfl rfl ?_
      refine WO.bin rfl rfl (by decide) (by decide) rfl ?_
      refine WO.gyes rfl rfl ?_
      refine WO.do rfl rfl ?_
      obtain rfl := someI h
      refine WO.pickT rfl rfl ?_
      refine WO.nil ?_
      exact ⟨S59, rfl, rfl, c60, (Cov.cons rfl (Cov.skip rfl (Cov.skip rfl (Cov.skip rfl (Cov.skip rfl (Cov.skip rfl (Cov.skip rfl (Cov.skip rfl (Cov.skip rfl (Cov.skip rfl (Cov.skip rfl (Cov.skip rfl (Cov.skip rfl (Cov.skip rfl (Cov.skip rfl (Cov.refl _))))))))))))))))⟩
    · have h := e63
      have h := iteF q61 h
      obtain rfl := someI h
      refine WO.gno rfl rfl (WO.gno rfl rfl (WO.gno rfl rfl (WO.gno rfl rfl (WO.gno rfl rfl (WO.gno rfl rfl (WO.gno rfl rfl (WO.gno rfl rfl (WO.gno rfl rfl (WO.gno rfl rfl ?_)))))))))
      refine WO.gno rfl rfl (WO.gno rfl rfl ?_)
      refine WO.pickF rfl rfl ?_
      refine WO.nil ?_
      exact ⟨S47, rfl, rfl, Ch.refl _ _, (Cov.cons rfl (Cov.skip rfl (Cov.skip rfl (Cov.skip rfl (Cov.skip rfl (Cov.skip rfl (Cov.skip rfl (Cov.skip rfl (Cov.skip rfl (Cov.skip rfl (Cov.skip rfl (Cov.skip rfl (Cov.skip rfl (Cov.skip rfl (Cov.skip rfl (Cov.refl _))))))))))))))))⟩
    have hot0z := hot0z.tow c65
    have hM := hM.to c65
    have hot0 := hot0.to c65
    refine WO.nil (thenL_n ?_)
    refine WC.cond rfl (fun q66 => ?_) (fun q66 => ?_)
    · have h := iteT q66 h
      refine WC.skip (thenL_n (WC.block (WC.region (WO.mv rfl ?_))))
      refine WO.bin rfl rfl (by decide) (by decide) rfl ?_
      refine WO.asg rfl (WO.nil (blockL_n (thenL_n ?_)))
      obtain rfl := someI h
      exact ⟨_, rfl, ⟨S64, rfl, rfl, (Cov.cons rfl (Cov.cons rfl (Cov.cons rfl (Cov.cons rfl (Cov.cons rfl (Cov.nil _)))))), hM, hot0⟩⟩
    · have h := iteF q66 h
      refine WC.exit (thenL_e (thenL_e ?_))
      obtain rfl := someI h
      exact ⟨_, rfl, rfl, ⟨S64, rfl, rfl, (Cov.cons rfl (Cov.cons rfl (Cov.cons rfl (Cov.cons rfl (Cov.cons rfl (Cov.nil _)))))), hM, hot0⟩⟩
  rintro _ _ _ _ ⟨rfl, ⟨S69, rfl, rfl, hc70, hM, hot0⟩⟩
  refine blockL_s (thenL_n (WC.cov hc70 (WC.seq (WC.seq (WC.region (WO.mv rfl (WO.mv rfl ?_)))))))
  refine WO.bin rfl rfl (by decide) (by decide) rfl ?_
  refine WO.nil (thenL_n ?_)
  refine WC.cond rfl (fun q71 => ?_) (fun q71 => ?_)
  · have h := iteT q71 h
    refine WC.seq ?_
    refine WC.drawN rfl rfl ?_
    have hot0z := hot0.oz
    refine WO.mv rfl (WO.mv rfl (WO.mv rfl (WO.mv rfl (WO.mv rfl (WO.mv rfl ?_)))))
    obtain ⟨L72, e73, h⟩ := bindS h
    refine WO.ixS rfl rfl hot0.slv (at?_lt e73) rfl ?_
    refine WO.ldS rfl hot0z (fun _ hi => hi.1) (at?_get e73) rfl (limLe_self _) (fun v74 ho75 => ?_)
    have ho75 : Rd Y3 S69 v74 L72 := ho75
    refine WO.mv rfl (WO.mv rfl ?_)
    obtain ⟨L76, e77, h⟩ := bindS h
    refine WO.ixS rfl rfl hot0.slv (at?_lt e77) rfl ?_
    refine WO.ldS rfl hot0z (fun _ hi => hi.1) (at?_get e77) rfl (limLe_self _) (fun v78 ho79 => ?_)
    have ho79 : Rd Y3 S69 v78 L76 := ho79
    obtain ⟨u80, e81, h⟩ := bindS h
    refine WO.ixS rfl rfl hot0.slv (ck_some e81) rfl ?_
    refine WO.stS (S := S69) rfl rfl hot0 (ck_nat e81) ho75 rfl rfl (fun S82 c83 hot0 => ?_)
    have hM := hM.to c83
    have ho75 := ho75.to c83
    have ho79 := ho79.to c83
    obtain ⟨u84, e85, h⟩ := bindS h
    refine WO.ixS rfl rfl hot0.slv (ck_some e85) rfl ?_
    refine WO.stS (S := S82) rfl rfl hot0 (ck_nat e85) ho79 rfl rfl (fun S86 c87 hot0 => ?_)
    have hM := hM.to c87
    have ho75 := ho75.to c87
    have ho79 := ho79.to c87
    refine WO.nil (thenL_n (WC.seq (WC.region (WO.mv rfl (WO.asg rfl (WO.asg rfl (WO.nil (thenL_n (WC.ret ?_)))))))))
    refine thenL_r ?_
    obtain rfl := someI h
    exact ⟨.inr rfl, _, _, rfl, rfl, ⟨S86, rfl, rfl, hM, rfl, hot0⟩⟩
  · have h := iteF q71 h
    refine WC.skip (thenL_n (WC.seq ?_))
    refine WC.drawN rfl rfl ?_
    have hot0z := hot0.oz
    refine WO.mv rfl (WO.mv rfl (WO.mv rfl (WO.mv rfl (WO.mv rfl (WO.mv rfl ?_)))))
    obtain ⟨L88, e89, h⟩ := bindS h
    refine WO.ixS rfl rfl hot0.slv (at?_lt e89) rfl ?_
    refine WO.ldS rfl hot0z (fun _ hi => hi.1) (at?_get e89) rfl (limLe_self _) (fun v90 ho91 => ?_)
    have ho91 : Rd Y3 S69 v90 L88 := ho91
    refine WO.mv rfl (WO.mv rfl ?_)
    obtain ⟨L92, e93, h⟩ := bindS h
    refine WO.ixS rfl rfl hot0.slv (at?_lt e93) rfl ?_
    refine WO.ldS rfl hot0z (fun _ hi => hi.1) (at?_get e93) rfl (limLe_self _) (fun v94 ho95 => ?_)
    have ho95 : Rd Y3 S69 v94 L92 := ho95
    obtain ⟨u96, e97, h⟩ := bindS h
    refine WO.ixS rfl rfl hot0.slv (ck_some e97) rfl ?_
    refine WO.stS (S := S69) rfl rfl hot0 (ck_nat e97) ho91 rfl rfl (fun S98 c99 hot0 => ?_)
    have hM := hM.to c99
    have ho91 := ho91.to c99
    have ho95 := ho95.to c99
    obtain ⟨u100, e101, h⟩ := bindS h
    refine WO.ixS rfl rfl hot0.slv (ck_some e101) rfl ?_
    refine WO.stS (S := S98) rfl rfl hot0 (ck_nat e101) ho95 rfl rfl (fun S102 c103 hot0 => ?_)
    have hM := hM.to c103
    have ho91 := ho91.to c103
    have ho95 := ho95.to c103
    refine WO.nil (thenL_n (WC.seq (WC.region (WO.mv rfl ?_))))
    refine WO.bin rfl rfl (by decide) (by decide) rfl ?_
    refine WO.asg rfl (WO.nil (thenL_n (WC.seq (WC.region (WO.mv rfl ?_)))))
    refine WO.bin rfl rfl (by decide) (by decide) rfl ?_
    refine WO.asg rfl (WO.nil (thenL_n (WC.seq (WC.block ?_))))
    obtain ⟨b180, e181, h⟩ := bindS h
    refine WC.loopD e181 (fun s104 l' m' n' => ∃ S105 : Cx fl, S105.m = m' ∧ S105.n = n' ∧ Cov l' [(0, .sc vt0), (1, .sc (.int .i64 t1)), (4, .sc (.fn 17 [])), (12, .sc (.int .i64 s104.1)), (13, .sc (.int .i64 s104.2.1))] ∧ ChM S0 S105 ∧ Ow Y23 S105 2 vt0 s104.2.2) (fun b e l' m' n' => e = .exit 4 ∧ ∃ S106 : Cx fl, S106.m = m' ∧ S106.n = n' ∧ Cov l' [(0, .sc vt0), (1, .sc (.int .i64 t1)), (13, .sc (.int .i64 b.1))] ∧ ChM S0 S106 ∧ Ow Y23 S106 2 vt0 b.2) (by exact ⟨S102, rfl, rfl, (Cov.cons rfl (Cov.cons rfl (Cov.cons rfl (Cov.cons rfl (Cov.cons rfl (Cov.nil _)))))), hM, hot0⟩) ?_ ?_
    · clear h
      rintro s104 q _ _ _ ⟨S107, rfl, rfl, hc108, hM, hot0⟩ h
      unfold F44_17_l4 at h
      refine WC.cov hc108 (WC.block (WC.seq (WC.block ?_)))
      obtain ⟨b132, e133, h⟩ := bindS h
      refine WC.loopD e133 (fun s109 l' m' n' => ∃ S110 : Cx fl, S110.m = m' ∧ S110.n = n' ∧ Cov l' [(0, .sc vt0), (1, .sc (.int .i64 t1)), (4, .sc (.fn 17 [])), (12, .sc (.int .i64 s109)), (13, .sc (.int .i64 s104.2.1))] ∧ ChM S0 S110 ∧ Ow Y23 S110 2 vt0 s104.2.2) (fun b e l' m' n' => e = .exit 6 ∧ ∃ S111 : Cx fl, S111.m = m' ∧ S111.n = n' ∧ Cov l' [(0, .sc vt0), (1, .sc (.int .i64 t1)), (4, .sc (.fn 17 [])), (12, .sc (.int .i64 b)), (13, .sc (.int .i64 s104.2.1))] ∧ ChM S0 S111 ∧ Ow Y23 S111 2 vt0 s104.2.2) (by exact ⟨S107, rfl, rfl, (Cov.cons rfl (Cov.cons rfl (Cov.cons rfl (Cov.cons rfl (Cov.cons rfl (Cov.nil _)))))), hM, hot0⟩) ?_ ?_
      · clear h
        rintro s109 q _ _ _ ⟨S112, rfl, rfl, hc113, hM, hot0⟩ h
        unfold F44_17_l2 at h
        refine WC.cov hc113 (WC.seq (WC.seq ?_))
        refine WC.drawN rfl rfl ?_
        have hot0z := hot0.oz
        refine WO.mv rfl (WO.mv rfl ?_)
        refine WO.bin rfl rfl (by decide) (by decide) rfl ?_
        refine WO.mv rfl ?_
        obtain ⟨y127, e128, h⟩ := bindS h
        refine WO.cutS (d := 120) (S := S112) 12 y127 (fun q126 => ?_) (fun q126 => ?_) (fun S129 c130 => ?_)
        · have h := e128
          have h := iteT q126 h
          refine WO.gyes rfl rfl (WO.mv rfl (WO.gyes rfl rfl (WO.mv rfl (WO.gyes rfl rfl (WO.mv rfl (WO.gyes rfl rfl ?_))))))
          obtain ⟨L114, e115, h⟩ := bindS h
          refine WO.ixS rfl rfl hot0.slv (at?_lt e115) rfl ?_
          refine WO.gyes rfl rfl ?_
          refine WO.ldS rfl hot0z (fun _ hi => hi.1) (at?_get e115) rfl (limLe_self _) (fun v116 ho117 => ?_)
          have ho117 : Rd Y3 S112 v116 L114 := ho117
          refine WO.gyes rfl rfl (WO.mv rfl (WO.gyes rfl rfl (WO.mv rfl (WO.gyes rfl rfl ?_))))
          obtain ⟨L118, e119, h⟩ := bindS h
          refine WO.ixS rfl rfl hot0.slv (at?_lt e119) rfl ?_
          refine WO.gyes rfl rfl ?_
          refine WO.ldS rfl hot0z (fun _ hi => hi.1) (at?_get e119) rfl (limLe_self _) (fun v120 ho121 => ?_)
          have ho121 : Rd Y3 S112 v120 L118 := ho121
          refine WO.gyes rfl rfl ?_
          obtain ⟨r122, e123, h⟩ := bindS h
          refine WO.callE (S := S112) rfl rfl (F17_ok e123 ho117.vw ho121.vw) (fun S124 c125 => ?_)
          have hot0z := hot0z.tow c125
          have hM := hM.to c125
          have hot0 := hot0.to c125
          have ho117 := ho117.to c125
          have ho121 := ho121.to c125
          refine WO.gyes rfl rfl ?_
          refine WO.bin rfl rfl (by decide) (by decide) rfl ?_
          obtain rfl := someI h
          refine WO.pickT rfl rfl ?_
          refine WO.nil ?_
          exact ⟨S124, rfl, rfl, c125, (Cov.cons rfl (Cov.skip rfl (Cov.skip rfl (Cov.skip rfl (Cov.skip rfl (Cov.skip rfl (Cov.skip rfl (Cov.skip rfl (Cov.skip rfl (Cov.skip rfl (Cov.skip rfl (Cov.skip rfl (Cov.skip rfl (Cov.skip rfl (Cov.refl _)))))))))))))))⟩
        · have h := e128
          have h := iteF q126 h
          obtain rfl := someI h
          refine WO.gno rfl rfl (WO.gno rfl rfl (WO.gno rfl rfl (WO.gno rfl rfl (WO.gno rfl rfl (WO.gno rfl rfl (WO.gno rfl rfl (WO.gno rfl rfl (WO.gno rfl rfl (WO.gno rfl rfl ?_)))))))))
          refine WO.gno rfl rfl ?_
          refine WO.pickF rfl rfl ?_
          refine WO.nil ?_
          exact ⟨S112, rfl, rfl, Ch.refl _ _, (Cov.cons rfl (Cov.skip rfl (Cov.skip rfl (Cov.skip rfl (Cov.skip rfl (Cov.skip rfl (Cov.skip rfl (Cov.skip rfl (Cov.skip rfl (Cov.skip rfl (Cov.skip rfl (Cov.skip rfl (Cov.skip rfl (Cov.skip rfl (Cov.refl _)))))))))))))))⟩
        have hot0z := hot0z.tow c130
        have hM := hM.to c130
        have hot0 := hot0.to c130
        refine WO.nil (thenL_n ?_)
        refine WC.cond rfl (fun q131 => ?_) (fun q131 => ?_)
        · have h := iteT q131 h
          refine WC.skip (thenL_n (WC.block (WC.region (WO.mv rfl ?_))))
          refine WO.bin rfl rfl (by decide) (by decide) rfl ?_
          refine WO.asg rfl (WO.nil (blockL_n (thenL_n ?_)))
          obtain rfl := someI h
          exact ⟨_, rfl, ⟨S129, rfl, rfl, (Cov.cons rfl (Cov.cons rfl (Cov.cons rfl (Cov.cons rfl (Cov.cons rfl (Cov.nil _)))))), hM, hot0⟩⟩
        · have h := iteF q131 h
          refine WC.exit (thenL_e (thenL_e ?_))
          obtain rfl := someI h
          exact ⟨_, rfl, rfl, ⟨S129, rfl, rfl, (Cov.cons rfl (Cov.cons rfl (Cov.cons rfl (Cov.cons rfl (Cov.cons rfl (Cov.nil _)))))), hM, hot0⟩⟩
      rintro _ _ _ _ ⟨rfl, ⟨S134, rfl, rfl, hc135, hM, hot0⟩⟩
      refine blockL_s (thenL_n (WC.cov hc135 (WC.seq (WC.block ?_))))
      obtain ⟨b159, e160, h⟩ := bindS h
      refine WC.loopD e160 (fun s136 l' m' n' => ∃ S137 : Cx fl, S137.m = m' ∧ S137.n = n' ∧ Cov l' [(0, .sc vt0), (1, .sc (.int .i64 t1)), (4, .sc (.fn 17 [])), (12, .sc (.int .i64 b132)), (13, .sc (.int .i64 s136))] ∧ ChM S0 S137 ∧ Ow Y23 S137 2 vt0 s104.2.2) (fun b e l' m' n' => e = .exit 8 ∧ ∃ S138 : Cx fl, S138.m = m' ∧ S138.n = n' ∧ Cov l' [(0, .sc vt0), (1, .sc (.int .i64 t1)), (4, .sc (.fn 17 [])), (12, .sc (.int .i64 b132)), (13, .sc (.int .i64 b))] ∧ ChM S0 S138 ∧ Ow Y23 S138 2 vt0 s104.2.2) (by exact ⟨S134, rfl, rfl, (Cov.cons rfl (Cov.cons rfl (Cov.cons rfl (Cov.cons rfl (Cov.cons rfl (Cov.nil _)))))), hM, hot0⟩) ?_ ?_
      · clear h
        rintro s136 q _ _ _ ⟨S139, rfl, rfl, hc140, hM, hot0⟩ h
        unfold F44_17_l3 at h
        refine WC.cov hc140 (WC.seq (WC.seq ?_))
        refine WC.drawN rfl rfl ?_
        have hot0z := hot0.oz
        refine WO.mv rfl (WO.mv rfl ?_)
        refine WO.bin rfl rfl (by decide) (by decide) rfl ?_
        refine WO.mv rfl ?_
        obtain ⟨y154, e155, h⟩ := bindS h
        refine WO.cutS (d := 139) (S := S139) 13 y154 (fun q153 => ?_) (fun q153 => ?_) (fun S156 c157 => ?_)
        · have h := e155
          have h := iteT q153 h
          refine WO.gyes rfl rfl (WO.mv rfl (WO.gyes rfl rfl (WO.mv rfl (WO.gyes rfl rfl (WO.mv rfl (WO.gyes rfl rfl ?_))))))
          obtain ⟨L141, e142, h⟩ := bindS h
          refine WO.ixS rfl rfl hot0.slv (at?_lt e142) rfl ?_
          refine WO.gyes rfl rfl ?_
          refine WO.ldS rfl hot0z (fun _ hi => hi.1) (at?_get e142) rfl (limLe_self _) (fun v143 ho144 => ?_)
          have ho144 : Rd Y3 S139 v143 L141 := ho144
          refine WO.gyes rfl rfl (WO.mv rfl (WO.gyes rfl rfl (WO.mv rfl (WO.gyes rfl rfl ?_))))
          obtain ⟨L145, e146, h⟩ := bindS h
          refine WO.ixS rfl rfl hot0.slv (at?_lt e146) rfl ?_
          refine WO.gyes rfl rfl ?_
          refine WO.ldS rfl hot0z (fun _ hi => hi.1) (at?_get e146) rfl (limLe_self _) (fun v147 ho148 => ?_)
          have ho148 : Rd Y3 S139 v147 L145 := ho148
          refine WO.gyes rfl rfl ?_
          obtain ⟨r149, e150, h⟩ := bindS h
          refine WO.callE (S := S139) rfl rfl (F17_ok e150 ho144.vw ho148.vw) (fun S151 c152 => ?_)
          have hot0z := hot0z.tow c152
          have hM := hM.to c152
          have hot0 := hot0.to c152
          have ho144 := ho144.to c152
          have ho148 := ho148.to c152
          refine WO.gyes rfl rfl ?_
          refine WO.bin rfl rfl (by decide) (by decide) rfl ?_
          refine WO.gyes rfl rfl ?_
          refine WO.do rfl rfl ?_
          obtain rfl := someI h
          refine WO.pickT rfl rfl ?_
          refine WO.nil ?_
          exact ⟨S151, rfl, rfl, c152, (Cov.cons rfl (Cov.skip rfl (Cov.skip rfl (Cov.skip rfl (Cov.skip rfl (Cov.skip rfl (Cov.skip rfl (Cov.skip rfl (Cov.skip rfl (Cov.skip rfl (Cov.skip rfl (Cov.skip rfl (Cov.skip rfl (Cov.skip rfl (Cov.skip rfl (Cov.refl _))))))))))))))))⟩
        · have h := e155
          have h := iteF q153 h
          obtain rfl := someI h
          refine WO.gno rfl rfl (WO.gno rfl rfl (WO.gno rfl rfl (WO.gno rfl rfl (WO.gno rfl rfl (WO.gno rfl rfl (WO.gno rfl rfl (WO.gno rfl rfl (WO.gno rfl rfl (WO.gno rfl rfl ?_)))))))))
          refine WO.gno rfl rfl (WO.gno rfl rfl ?_)
          refine WO.pickF rfl rfl ?_
          refine WO.nil ?_
          exact ⟨S139, rfl, rfl, Ch.refl _ _, (Cov.cons rfl (Cov.skip rfl (Cov.skip rfl (Cov.skip rfl (Cov.skip rfl (Cov.skip rfl (Cov.skip rfl (Cov.skip rfl (Cov.skip rfl (Cov.skip rfl (Cov.skip rfl (Cov.skip rfl (Cov.skip rfl (Cov.skip rfl (Cov.skip rfl (Cov.refl _))))))))))))))))⟩
        have hot0z := hot0z.tow c157
        have hM := hM.to c157
        have hot0 := hot0.to c157
        refine WO.nil (thenL_n ?_)
        refine WC.cond rfl (fun q158 => ?_) (fun q158 => ?_)
        · have h := iteT q158 h
          refine WC.skip (thenL_n (WC.block (WC.region (WO.mv rfl ?_))))
          refine WO.bin rfl rfl (by decide) (by decide) rfl ?_
          refine WO.asg rfl (WO.nil (blockL_n (thenL_n ?_)))
          obtain rfl := someI h
          exact ⟨_, rfl, ⟨S156, rfl, rfl, (Cov.cons rfl (Cov.cons rfl (Cov.cons rfl (Cov.cons rfl (Cov.cons rfl (Cov.nil _)))))), hM, hot0⟩⟩
        · have h := iteF q158 h
          refine WC.exit (thenL_e (thenL_e ?_))
          obtain rfl := someI h
          exact ⟨_, rfl, rfl, ⟨S156, rfl, rfl, (Cov.cons rfl (Cov.cons rfl (Cov.cons rfl (Cov.cons rfl (Cov.cons rfl (Cov.nil _)))))), hM, hot0⟩⟩
      rintro _ _ _ _ ⟨rfl, ⟨S161, rfl, rfl, hc162, hM, hot0⟩⟩
      refine blockL_s (thenL_n (WC.cov hc162 (WC.seq (WC.seq (WC.region (WO.mv rfl (WO.mv rfl ?_)))))))
      refine WO.bin rfl rfl (by decide) (by decide) rfl ?_
      refine WO.nil (thenL_n ?_)
      refine WC.cond rfl (fun q163 => ?_) (fun q163 => ?_)
      · have h := iteT q163 h
        refine WC.exit (thenL_e (blockL_e rfl (thenL_e ?_)))
        obtain rfl := someI h
        exact ⟨_, rfl, rfl, ⟨S161, rfl, rfl, (Cov.cons rfl (Cov.cons rfl (Cov.cons rfl (Cov.nil _)))), hM, hot0⟩⟩
      · have h := iteF q163 h
        refine WC.skip (thenL_n (WC.seq ?_))
        refine WC.drawN rfl rfl ?_
        have hot0z := hot0.oz
        refine WO.mv rfl (WO.mv rfl (WO.mv rfl (WO.mv rfl (WO.mv rfl (WO.mv rfl ?_)))))
        obtain ⟨L164, e165, h⟩ := bindS h
        refine WO.ixS rfl rfl hot0.slv (at?_lt e165) rfl ?_
        refine WO.ldS rfl hot0z (fun _ hi => hi.1) (at?_get e165) rfl (limLe_self _) (fun v166 ho167 => ?_)
        have ho167 : Rd Y3 S161 v166 L164 := ho167
        refine WO.mv rfl (WO.mv rfl ?_)
        obtain ⟨L168, e169, h⟩ := bindS h
        refine WO.ixS rfl rfl hot0.slv (at?_lt e169) rfl ?_
        refine WO.ldS rfl hot0z (fun _ hi => hi.1) (at?_get e169) rfl (limLe_self _) (fun v170 ho171 => ?_)
        have ho171 : Rd Y3 S161 v170 L168 := ho171
        obtain ⟨u172, e173, h⟩ := bindS h
        refine WO.ixS rfl rfl hot0.slv (ck_some e173) rfl ?_
        refine WO.stS (S := S161) rfl rfl hot0 (ck_nat e173) ho167 rfl rfl (fun S174 c175 hot0 => ?_)
        have hM := hM.to c175
        have ho167 := ho167.to c175
        have ho171 := ho171.to c175
        obtain ⟨u176, e177, h⟩ := bindS h
        refine WO.ixS rfl rfl hot0.slv (ck_some e177) rfl ?_
        refine WO.stS (S := S174) rfl rfl hot0 (ck_nat e177) ho171 rfl rfl (fun S178 c179 hot0 => ?_)
        have hM := hM.to c179
        have ho167 := ho167.to c179
        have ho171 := ho171.to c179
        refine WO.nil (thenL_n (WC.seq (WC.region (WO.mv rfl ?_))))
        refine WO.bin rfl rfl (by decide) (by decide) rfl ?_
        refine WO.asg rfl (WO.nil (thenL_n (WC.region (WO.mv rfl ?_))))
        refine WO.bin rfl rfl (by decide) (by decide) rfl ?_
        refine WO.asg rfl (WO.nil (blockL_n (thenL_n ?_)))
        obtain rfl := someI h
        exact ⟨_, rfl, ⟨S178, rfl, rfl, (Cov.cons rfl (Cov.cons rfl (Cov.cons rfl (Cov.cons rfl (Cov.cons rfl (Cov.nil _)))))), hM, hot0⟩⟩
    rintro _ _ _ _ ⟨rfl, ⟨S182, rfl, rfl, hc183, hM, hot0⟩⟩
    refine blockL_s (thenL_n (WC.cov hc183 (WC.seq ?_)))
    refine WC.drawN rfl rfl ?_
    have hot0z := hot0.oz
    refine WO.mv rfl (WO.mv rfl (WO.mv rfl (WO.mv rfl (WO.mv rfl (WO.mv rfl ?_)))))
    obtain ⟨L184, e185, h⟩ := bindS h
    refine WO.ixS rfl rfl hot0.slv (at?_lt e185) rfl ?_
    refine WO.ldS rfl hot0z (fun _ hi => hi.1) (at?_get e185) rfl (limLe_self _) (fun v186 ho187 => ?_)
    have ho187 : Rd Y3 S182 v186 L184 := ho187
    refine WO.mv rfl (WO.mv rfl ?_)
    obtain ⟨L188, e189, h⟩ := bindS h
    refine WO.ixS rfl rfl hot0.slv (at?_lt e189) rfl ?_
    refine WO.ldS rfl hot0z (fun _ hi => hi.1) (at?_get e189) rfl (limLe_self _) (fun v190 ho191 => ?_)
    have ho191 : Rd Y3 S182 v190 L188 := ho191
    obtain ⟨u192, e193, h⟩ := bindS h
    refine WO.ixS rfl rfl hot0.slv (ck_some e193) rfl ?_
    refine WO.stS (S := S182) rfl rfl hot0 (ck_nat e193) ho187 rfl rfl (fun S194 c195 hot0 => ?_)
    have hM := hM.to c195
    have ho187 := ho187.to c195
    have ho191 := ho191.to c195
    obtain ⟨u196, e197, h⟩ := bindS h
    refine WO.ixS rfl rfl hot0.slv (ck_some e197) rfl ?_
    refine WO.stS (S := S194) rfl rfl hot0 (ck_nat e197) ho191 rfl rfl (fun S198 c199 hot0 => ?_)
    have hM := hM.to c199
    have ho187 := ho187.to c199
    have ho191 := ho191.to c199
    refine WO.nil (thenL_n (WC.seq (WC.region (WO.mv rfl (WO.asg rfl (WO.asg rfl (WO.nil (thenL_n (WC.ret ?_)))))))))
    obtain rfl := someI h
    exact ⟨.inr rfl, _, _, rfl, rfl, ⟨S198, rfl, rfl, hM, rfl, hot0⟩⟩
end Go.Proofs.Ytaphdnpjpmnaeaa

namespace Go.Proofs.Ytaphdnpjpmnaeaa
open Go.Am
theorem F28_17.fn : E.fn 28 = some ⟨148, (Try.f28.body.getD .skip), Try.f28.results.toList, []⟩ := rfl
theorem F28_17_ok {F : Nat} : ∀ {fl : Nat} {S0 : Cx fl} {r : (List (List Int))} {t0 : List (List Int)} {t1 : Int} {t2 : Int} {t3 : Int} {vt0 : SV} (h : F28_17 F t0 t1 t2 t3 = some r) (hot0 : Ow Y23 S0 2 vt0 t0), Ret E fl 28 [.sc vt0, .sc (.int .i64 t1), .sc (.int .i64 t2), .sc (.int .i64 t3), .sc (.fn 17 [])] S0.m S0.n (fun v m' n' => ∃ S' : Cx fl, S'.m = m' ∧ S'.n = n' ∧ ChM S0 S' ∧ (v = .tup [] ∧ Ow Y23 S' 2 vt0 r)) := by
  induction F with
  | zero => intro fl S0 r t0 t1 t2 t3 vt0 h; cases h
  | succ F ih =>
    intro fl S0 r t0 t1 t2 t3 vt0 h hot0
    rw [F28_17] at h
    try dsimp only at h
    refine Ret.walk F28_17.fn ?_
    have hM := ChM.refl S0
    refine WC.seq (WC.region (WO.asg rfl (WO.nil (thenL_n (WC.seq (WC.region (WO.asg rfl (WO.nil (thenL_n ?_)))))))))
    refine WC.block ?_
    obtain ⟨b102, e103, h⟩ := bindS h
    refine WC.loopD e103 (fun s1 l' m' n' => ∃ S2 : Cx fl, S2.m = m' ∧ S2.n = n' ∧ Cov l' [(0, .sc vt0), (1, .sc (.int .i64 s1.1)), (2, .sc (.int .i64 s1.2.1)), (3, .sc (.int .i64 s1.2.2.1)), (4, .sc (.fn 17 [])), (10, .sc (.bool s1.2.2.2.1)), (11, .sc (.bool s1.2.2.2.2.1))] ∧ ChM S0 S2 ∧ Ow Y23 S2 2 vt0 s1.2.2.2.2.2) (fun b e l' m' n' => e = .ret ∧ ∃ S3 : Cx fl, S3.m = m' ∧ S3.n = n' ∧ Cov l' [(0, .sc vt0)] ∧ ChM S0 S3 ∧ Ow Y23 S3 2 vt0 b) (by exact ⟨S0, rfl, rfl, (Cov.cons rfl (Cov.cons rfl (Cov.cons rfl (Cov.cons rfl (Cov.cons rfl (Cov.cons rfl (Cov.cons rfl (Cov.nil _)))))))), hM, hot0⟩) ?_ ?_
    · clear h
      rintro s1 q _ _ _ ⟨S4, rfl, rfl, hc5, hM, hot0⟩ h
      unfold F28_17_l0 at h
      refine WC.cov hc5 (WC.block (WC.seq (WC.region (WO.mv rfl (WO.mv rfl ?_)))))
      refine WO.bin rfl rfl (by decide) (by decide) rfl ?_
      refine WO.asg rfl (WO.nil (thenL_n (WC.seq (WC.seq (WC.region (WO.mv rfl ?_))))))
      refine WO.bin rfl rfl (by decide) (by decide) rfl ?_
      refine WO.nil (thenL_n ?_)
      refine WC.cond rfl (fun q6 => ?_) (fun q6 => ?_)
      · have h := iteT q6 h
        refine WC.seq (WC.region (WO.mv rfl (WO.mv rfl (WO.mv rfl (WO.mv rfl ?_)))))
        obtain ⟨r7, e8, h⟩ := bindS h
        refine WO.callG (S := S4) [(2, 2)] [(2, 2)] rfl rfl (F37_17_ok (S0 := S4.mp [(2, 2)]) e8 (hot0.mp rfl)) (fun _ S9 S10 hb hR => ?_)
        obtain ⟨rfl, hR0⟩ := hR
        have c11 : Ch 2 S4 S10 := hb.ch [] 2
        have hM := hM.to c11
        have hot0 := hR0.bkS hb rfl rfl
        refine WO.nil (thenL_n (WC.ret (thenL_r (blockL_r (thenL_r ?_)))))
        obtain rfl := someI h
        exact ⟨_, rfl, rfl, ⟨S10, rfl, rfl, (Cov.cons rfl (Cov.nil _)), hM, hot0⟩⟩
      · have h := iteF q6 h
        refine WC.skip (thenL_n (WC.seq (WC.seq (WC.region (WO.mv rfl ?_)))))
        refine WO.bin rfl rfl (by decide) (by decide) rfl ?_
        refine WO.nil (thenL_n ?_)
        refine WC.cond rfl (fun q12 => ?_) (fun q12 => ?_)
        · have h := iteT q12 h
          refine WC.seq (WC.region (WO.mv rfl (WO.mv rfl (WO.mv rfl (WO.mv rfl ?_)))))
          obtain ⟨r13, e14, h⟩ := bindS h
          refine WO.callG (S := S4) [(2, 2)] [(2, 2)] rfl rfl (F38_17_ok (S0 := S4.mp [(2, 2)]) e14 (hot0.mp rfl)) (fun _ S15 S16 hb hR => ?_)
          obtain ⟨rfl, hR0⟩ := hR
          have c17 : Ch 2 S4 S16 := hb.ch [] 2
          have hM := hM.to c17
          have hot0 := hR0.bkS hb rfl rfl
          refine WO.nil (thenL_n (WC.ret (thenL_r (blockL_r (thenL_r ?_)))))
          obtain rfl := someI h
          exact ⟨_, rfl, rfl, ⟨S16, rfl, rfl, (Cov.cons rfl (Cov.nil _)), hM, hot0⟩⟩
        · have h := iteF q12 h
          refine WC.skip (thenL_n (WC.seq (WC.seq (WC.region (WO.mv rfl ?_)))))
          refine WO.do rfl rfl ?_
          refine WO.nil (thenL_n ?_)
          obtain ⟨b24, e25, h⟩ := bindS h
          refine WC.mono (Q' := (fun b e l' m' n' => e = .normal ∧ ∃ S26 : Cx fl, S26.m = m' ∧ S26.n = n' ∧ Cov l' [(0, .sc vt0), (1, .sc (.int .i64 s1.1)), (2, .sc (.int .i64 s1.2.1)), (3, .sc (.int .i64 b.1)), (4, .sc (.fn 17 [])), (10, .sc (.bool s1.2.2.2.1)), (11, .sc (.bool s1.2.2.2.2.1)), (12, .sc (.int .i64 ((wrapA .i64 (s1.2.1 - s1.1)))))] ∧ ChM S0 S26 ∧ Ow Y23 S26 2 vt0 b.2) b24) ?_ ?_
          · have h := e25
            dsimp only at h ⊢
            refine WC.cond rfl (fun q18 => ?_) (fun q18 => ?_)
            · have h := iteT q18 h
              refine WC.seq (WC.region (WO.mv rfl (WO.mv rfl (WO.mv rfl (WO.mv rfl ?_)))))
              obtain ⟨r19, e20, h⟩ := bindS h
              refine WO.callG (S := S4) [(2, 2)] [(2, 2)] rfl rfl (F39_17_ok (S0 := S4.mp [(2, 2)]) e20 (hot0.mp rfl)) (fun _ S21 S22 hb hR => ?_)
              obtain ⟨rfl, hR0⟩ := hR
              have c23 : Ch 2 S4 S22 := hb.ch [] 2
              have hM := hM.to c23
              have hot0 := hR0.bkS hb rfl rfl
              refine WO.nil (thenL_n (WC.region (WO.mv rfl ?_)))
              refine WO.bin rfl rfl (by decide) (by decide) rfl ?_
              refine WO.asg rfl (WO.nil ?_)
              obtain rfl := someI h
              exact ⟨rfl, ⟨S22, rfl, rfl, (Cov.cons rfl (Cov.cons rfl (Cov.cons rfl (Cov.cons rfl (Cov.cons rfl (Cov.cons rfl (Cov.cons rfl (Cov.cons rfl (Cov.nil _))))))))), hM, hot0⟩⟩
            · have h := iteF q18 h
              refine WC.skip ?_
              obtain rfl := someI h
              exact ⟨rfl, ⟨S4, rfl, rfl, (Cov.cons rfl (Cov.cons rfl (Cov.cons rfl (Cov.cons rfl (Cov.cons rfl (Cov.cons rfl (Cov.cons rfl (Cov.cons rfl (Cov.nil _))))))))), hM, hot0⟩⟩
          dsimp only
          rintro _ _ _ _ ⟨rfl, ⟨S27, rfl, rfl, hc28, hM, hot0⟩⟩
          refine thenL_n (WC.cov hc28 (WC.seq (WC.region (WO.mv rfl (WO.mv rfl (WO.mv rfl (WO.mv rfl ?_)))))))
          obtain ⟨r29, e30, h⟩ := bindS h
          refine WO.callE (S := S27) rfl rfl (F40_17_ok e30 hot0.vw) (fun S31 c32 => ?_)
          have hM := hM.to c32
          have hot0 := hot0.to c32
          refine WO.mv rfl ?_
          refine WO.do rfl rfl ?_
          refine WO.do rfl rfl ?_
          refine WO.asg rfl (WO.asg rfl (WO.nil (thenL_n (WC.seq (WC.seq (WC.region (WO.mv rfl ?_)))))))
          refine WO.bin rfl rfl (by decide) (by decide) rfl ?_
          refine WO.nil (thenL_n ?_)
          obtain ⟨b39, e40, h⟩ := bindS h
          refine WC.mono (Q' := (fun b e l' m' n' => e = .normal ∧ ∃ S41 : Cx fl, S41.m = m' ∧ S41.n = n' ∧ Cov l' [(0, .sc vt0), (1, .sc (.int .i64 s1.1)), (2, .sc (.int .i64 s1.2.1)), (3, .sc (.int .i64 b24.1)), (4, .sc (.fn 17 [])), (10, .sc (.bool s1.2.2.2.1)), (11, .sc (.bool s1.2.2.2.2.1)), (12, .sc (.int .i64 ((wrapA .i64 (s1.2.1 - s1.1))))), (13, .sc (.int .i64 b.1)), (14, .sc (.int .i64 b.2.1))] ∧ ChM S0 S41 ∧ Ow Y23 S41 2 vt0 b.2.2) b39) ?_ ?_
          · have h := e40
            dsimp only at h ⊢
            refine WC.cond rfl (fun q33 => ?_) (fun q33 => ?_)
            · have h := iteT q33 h
              refine WC.seq (WC.region (WO.mv rfl (WO.mv rfl (WO.mv rfl (WO.mv rfl ?_)))))
              obtain ⟨r34, e35, h⟩ := bindS h
              refine WO.callG (S := S31) [(2, 2)] [(2, 2)] rfl rfl (F41_17_ok (S0 := S31.mp [(2, 2)]) e35 (hot0.mp rfl)) (fun _ S36 S37 hb hR => ?_)
              obtain ⟨rfl, hR0⟩ := hR
              have c38 : Ch 2 S31 S37 := hb.ch [] 2
              have hM := hM.to c38
              have hot0 := hR0.bkS hb rfl rfl
              refine WO.nil (thenL_n (WC.seq (WC.region (WO.mv rfl ?_))))
              refine WO.bin rfl rfl (by decide) (by decide) rfl ?_
              refine WO.mv rfl (WO.mv rfl ?_)
              refine WO.bin rfl rfl (by decide) (by decide) rfl ?_
              refine WO.bin rfl rfl (by decide) (by decide) rfl ?_
              refine WO.asg rfl (WO.nil (thenL_n (WC.region (WO.asg rfl (WO.nil ?_)))))
              obtain rfl := someI h
              exact ⟨rfl, ⟨S37, rfl, rfl, (Cov.cons rfl (Cov.cons rfl (Cov.cons rfl (Cov.cons rfl (Cov.cons rfl (Cov.cons rfl (Cov.cons rfl (Cov.cons rfl (Cov.cons rfl (Cov.cons rfl (Cov.nil _))))))))))), hM, hot0⟩⟩
            · have h := iteF q33 h
              refine WC.skip ?_
              obtain rfl := someI h
              exact ⟨rfl, ⟨S31, rfl, rfl, (Cov.cons rfl (Cov.cons rfl (Cov.cons rfl (Cov.cons rfl (Cov.cons rfl (Cov.cons rfl (Cov.cons rfl (Cov.cons rfl (Cov.cons rfl (Cov.cons rfl (Cov.nil _))))))))))), hM, hot0⟩⟩
          dsimp only
          rintro _ _ _ _ ⟨rfl, ⟨S42, rfl, rfl, hc43, hM, hot0⟩⟩
          refine thenL_n (WC.cov hc43 (WC.seq (WC.seq (WC.region (WO.mv rfl (WO.mv rfl ?_))))))
          refine WO.cutB (d := 71) 2 (s1.2.2.2.1 && s1.2.2.2.2.1) (fun q44 => ?_) (fun q44 => ?_) ?_
          · skip
            refine WO.gyes rfl rfl (WO.mv rfl ?_)
            refine WO.pickT rfl rfl ?_
            refine WO.nil ?_
            exact ⟨rfl, rfl, (Cov.any rfl (andT q44) (Cov.skip rfl (Cov.skip rfl (Cov.skip rfl (Cov.refl _)))))⟩
          · refine WO.gno rfl rfl ?_
            refine WO.pickF rfl rfl ?_
            refine WO.nil ?_
            exact ⟨rfl, rfl, (Cov.any rfl (andF q44) (Cov.skip rfl (Cov.skip rfl (Cov.skip rfl (Cov.refl _)))))⟩
          refine WO.mv rfl ?_
          refine WO.cutB (d := 75) 3 ((s1.2.2.2.1 && s1.2.2.2.2.1) && (b39.2.1 == 1)) (fun q45 => ?_) (fun q45 => ?_) ?_
          · skip
            refine WO.gyes rfl rfl (WO.mv rfl (WO.gyes rfl rfl ?_))
            refine WO.bin rfl rfl (by decide) (by decide) rfl ?_
            refine WO.pickT rfl rfl ?_
            refine WO.nil ?_
            exact ⟨rfl, rfl, (Cov.any rfl (andT q45) (Cov.skip rfl (Cov.skip rfl (Cov.skip rfl (Cov.skip rfl (Cov.refl _))))))⟩
          · refine WO.gno rfl rfl (WO.gno rfl rfl ?_)
            refine WO.pickF rfl rfl ?_
            refine WO.nil ?_
            exact ⟨rfl, rfl, (Cov.any rfl (andF q45) (Cov.skip rfl (Cov.skip rfl (Cov.skip rfl (Cov.skip rfl (Cov.refl _))))))⟩
          refine WO.nil (thenL_n ?_)
          obtain ⟨b53, e54, h⟩ := bindS h
          refine WC.mono (Q' := (fun b e l' m' n' => (match b with | .inl b55 => e = .normal ∧ ∃ S56 : Cx fl, S56.m = m' ∧ S56.n = n' ∧ Cov l' [(0, .sc vt0), (1, .sc (.int .i64 s1.1)), (2, .sc (.int .i64 s1.2.1)), (3, .sc (.int .i64 b24.1)), (4, .sc (.fn 17 [])), (10, .sc (.bool s1.2.2.2.1)), (11, .sc (.bool s1.2.2.2.2.1)), (12, .sc (.int .i64 ((wrapA .i64 (s1.2.1 - s1.1))))), (13, .sc (.int .i64 b39.1))] ∧ ChM S0 S56 ∧ Ow Y23 S56 2 vt0 b55 | .inr b55 => e = .ret ∧ ∃ S57 : Cx fl, S57.m = m' ∧ S57.n = n' ∧ Cov l' [(0, .sc vt0)] ∧ ChM S0 S57 ∧ Ow Y23 S57 2 vt0 b55)) b53) ?_ ?_
          · have h := e54
            dsimp only at h ⊢
            refine WC.cond rfl (fun q46 => ?_) (fun q46 => ?_)
            · have h := iteT q46 h
              refine WC.seq (WC.region (WO.mv rfl (WO.mv rfl (WO.mv rfl (WO.mv rfl ?_)))))
              obtain ⟨r47, e48, h⟩ := bindS h
              refine WO.callG (S := S42) [(2, 2)] [(2, 2)] rfl rfl (F42_17_ok (S0 := S42.mp [(2, 2)]) e48 (hot0.mp rfl)) (fun _ S49 S50 hb hR => ?_)
              obtain ⟨rfl, hR0⟩ := hR
              have c51 : Ch 2 S42 S50 := hb.ch [] 2
              have hM := hM.to c51
              have hot0 := hR0.bkS hb rfl rfl
              refine WO.nil (thenL_n ?_)
              refine WC.cond rfl (fun q52 => ?_) (fun q52 => ?_)
              · have h := iteT q52 h
                refine WC.ret ?_
                obtain rfl := someI h
                exact ⟨rfl, ⟨S50, rfl, rfl, (Cov.cons rfl (Cov.nil _)), hM, hot0⟩⟩
              · have h := iteF q52 h
                refine WC.skip ?_
                obtain rfl := someI h
                exact ⟨rfl, ⟨S50, rfl, rfl, (Cov.cons rfl (Cov.cons rfl (Cov.cons rfl (Cov.cons rfl (Cov.cons rfl (Cov.cons rfl (Cov.cons rfl (Cov.cons rfl (Cov.cons rfl (Cov.nil _)))))))))), hM, hot0⟩⟩
            · have h := iteF q46 h
              refine WC.skip ?_
              obtain rfl := someI h
              exact ⟨rfl, ⟨S42, rfl, rfl, (Cov.cons rfl (Cov.cons rfl (Cov.cons rfl (Cov.cons rfl (Cov.cons rfl (Cov.cons rfl (Cov.cons rfl (Cov.cons rfl (Cov.cons rfl (Cov.nil _)))))))))), hM, hot0⟩⟩
          dsimp only
          cases b53 with
          | inl b58 =>
            simp only at h
            rintro _ _ _ _ ⟨rfl, ⟨S59, rfl, rfl, hc60, hM, hot0⟩⟩
            refine thenL_n (WC.cov hc60 (WC.seq (WC.seq ?_)))
            refine WC.drawN rfl rfl ?_
            have hot0z := hot0.oz
            refine WO.mv rfl ?_
            refine WO.bin rfl rfl (by decide) (by decide) rfl ?_
            refine WO.mv rfl ?_
            obtain ⟨y74, e75, h⟩ := bindS h
            refine WO.cutS (d := 97) (S := S59) 14 y74 (fun q73 => ?_) (fun q73 => ?_) (fun S76 c77 => ?_)
            · have h := e75
              have h := iteT q73 h
              refine WO.gyes rfl rfl (WO.mv rfl (WO.gyes rfl rfl (WO.mv rfl (WO.gyes rfl rfl (WO.mv rfl (WO.gyes rfl rfl ?_))))))
              refine WO.bin rfl rfl (by decide) (by decide) rfl ?_
              refine WO.gyes rfl rfl ?_
              obtain ⟨L61, e62, h⟩ := bindS h
              refine WO.ixS rfl rfl hot0.slv (at?_lt e62) rfl ?_
              refine WO.gyes rfl rfl ?_
              refine WO.ldS rfl hot0z (fun _ hi => hi.1) (at?_get e62) rfl (limLe_self _) (fun v63 ho64 => ?_)
              have ho64 : Rd Y3 S59 v63 L61 := ho64
              refine WO.gyes rfl rfl (WO.mv rfl (WO.gyes rfl rfl (WO.mv rfl (WO.gyes rfl rfl ?_))))
              obtain ⟨L65, e66, h⟩ := bindS h
              refine WO.ixS rfl rfl hot0.slv (at?_lt e66) rfl ?_
              refine WO.gyes rfl rfl ?_
              refine WO.ldS rfl hot0z (fun _ hi => hi.1) (at?_get e66) rfl (limLe_self _) (fun v67 ho68 => ?_)
              have ho68 : Rd Y3 S59 v67 L65 := ho68
              refine WO.gyes rfl rfl ?_
              obtain ⟨r69, e70, h⟩ := bindS h
              refine WO.callE (S := S59) rfl rfl (F17_ok e70 ho64.vw ho68.vw) (fun S71 c72 => ?_)
              have hot0z := hot0z.tow c72
              have hM := hM.to c72
              have hot0 := hot0.to c72
              have ho64 := ho64.to c72
              have ho68 := ho68.to c72
              refine WO.gyes rfl rfl ?_
              refine WO.bin rfl rfl (by decide) (by decide) rfl ?_
              refine WO.gyes rfl rfl ?_
              refine WO.do rfl rfl ?_
              obtain rfl := someI h
              refine WO.pickT rfl rfl ?_
              refine WO.nil ?_
              exact ⟨S71, rfl, rfl, c72, (Cov.cons rfl (Cov.skip rfl (Cov.skip rfl (Cov.skip rfl (Cov.skip rfl (Cov.skip rfl (Cov.skip rfl (Cov.skip rfl (Cov.skip rfl (Cov.skip rfl (Cov.skip rfl (Cov.skip rfl (Cov.skip rfl (Cov.skip rfl (Cov.skip rfl (Cov.skip rfl (Cov.refl _)))))))))))))))))⟩
            · have h := e75
              have h := iteF q73 h
              obtain rfl := someI h
              refine WO.gno rfl rfl (WO.gno rfl rfl (WO.gno rfl rfl (WO.gno rfl rfl (WO.gno rfl rfl (WO.gno rfl rfl (WO.gno rfl rfl (WO.gno rfl rfl (WO.gno rfl rfl (WO.gno rfl rfl ?_)))))))))
              refine WO.gno rfl rfl (WO.gno rfl rfl (WO.gno rfl rfl ?_))
              refine WO.pickF rfl rfl ?_
              refine WO.nil ?_
              exact ⟨S59, rfl, rfl, Ch.refl _ _, (Cov.cons rfl (Cov.skip rfl (Cov.skip rfl (Cov.skip rfl (Cov.skip rfl (Cov.skip rfl (Cov.skip rfl (Cov.skip rfl (Cov.skip rfl (Cov.skip rfl (Cov.skip rfl (Cov.skip rfl (Cov.skip rfl (Cov.skip rfl (Cov.skip rfl (Cov.skip rfl (Cov.refl _)))))))))))))))))⟩
            have hot0z := hot0z.tow c77
            have hM := hM.to c77
            have hot0 := hot0.to c77
            refine WO.nil (thenL_n ?_)
            refine WC.cond rfl (fun q78 => ?_) (fun q78 => ?_)
            · have h := iteT q78 h
              refine WC.seq (WC.region (WO.mv rfl (WO.mv rfl (WO.mv rfl (WO.mv rfl (WO.mv rfl ?_))))))
              obtain ⟨r79, e80, h⟩ := bindS h
              refine WO.callG (S := S76) [(2, 2)] [(2, 2)] rfl rfl (F43_17_ok (S0 := S76.mp [(2, 2)]) e80 (hot0.mp rfl)) (fun _ S81 S82 hb hR => ?_)
              obtain ⟨rfl, hR0⟩ := hR
              have c83 : Ch 2 S76 S82 := hb.ch [] 2
              have hM := hM.to c83
              have hot0 := hR0.bkS hb rfl rfl
              refine WO.asg rfl (WO.nil (thenL_n (WC.seq (WC.region (WO.mv rfl (WO.asg rfl (WO.nil (thenL_n (WC.exit ?_)))))))))
              refine thenL_e (blockL_s (thenL_n ?_))
              obtain rfl := someI h
              exact ⟨_, rfl, ⟨S82, rfl, rfl, (Cov.cons rfl (Cov.cons rfl (Cov.cons rfl (Cov.cons rfl (Cov.cons rfl (Cov.cons rfl (Cov.cons rfl (Cov.nil _)))))))), hM, hot0⟩⟩
            · have h := iteF q78 h
              refine WC.skip (thenL_n (WC.seq (WC.region (WO.mv rfl (WO.mv rfl (WO.mv rfl (WO.mv rfl (WO.mv rfl ?_))))))))
              obtain ⟨r84, e85, h⟩ := bindS h
              refine WO.callG (S := S76) [(2, 2)] [(2, 2)] rfl rfl (F44_17_ok (S0 := S76.mp [(2, 2)]) e85 (hot0.mp rfl)) (fun _ S86 S87 hb hR => ?_)
              obtain ⟨rfl, hR0⟩ := hR
              have c88 : Ch 2 S76 S87 := hb.ch [] 2
              have hM := hM.to c88
              have hot0 := hR0.bkS hb rfl rfl
              refine WO.mv rfl ?_
              refine WO.do rfl rfl ?_
              refine WO.do rfl rfl ?_
              refine WO.asg rfl (WO.asg rfl (WO.nil (thenL_n (WC.seq (WC.region (WO.mv rfl (WO.asg rfl (WO.nil (thenL_n ?_)))))))))
              refine WC.seq (WC.region (WO.mv rfl (WO.mv rfl ?_)))
              refine WO.bin rfl rfl (by decide) (by decide) rfl ?_
              refine WO.mv rfl (WO.mv rfl ?_)
              refine WO.bin rfl rfl (by decide) (by decide) rfl ?_
              refine WO.asg rfl (WO.asg rfl (WO.nil (thenL_n (WC.seq (WC.region (WO.mv rfl ?_))))))
              refine WO.bin rfl rfl (by decide) (by decide) rfl ?_
              refine WO.asg rfl (WO.nil (thenL_n (WC.seq (WC.region (WO.mv rfl (WO.mv rfl ?_))))))
              refine WO.bin rfl rfl (by decide) (by decide) rfl ?_
              refine WO.nil (thenL_n ?_)
              refine WC.cond rfl (fun q89 => ?_) (fun q89 => ?_)
              · have h := iteT q89 h
                refine WC.seq (WC.region (WO.mv rfl (WO.mv rfl ?_)))
                refine WO.bin rfl rfl (by decide) (by decide) rfl ?_
                refine WO.asg rfl (WO.nil (thenL_n (WC.seq (WC.region (WO.mv rfl (WO.mv rfl (WO.mv rfl (WO.mv rfl (WO.mv rfl ?_)))))))))
                obtain ⟨r90, e91, h⟩ := bindS h
                refine WO.callG (S := S87) [(2, 2)] [(2, 2)] rfl rfl (ih (S0 := S87.mp [(2, 2)]) e91 (hot0.mp rfl)) (fun _ S92 S93 hb hR => ?_)
                obtain ⟨rfl, hR0⟩ := hR
                have c94 : Ch 2 S87 S93 := hb.ch [] 2
                have hM := hM.to c94
                have hot0 := hR0.bkS hb rfl rfl
                refine WO.nil (thenL_n (WC.region (WO.mv rfl ?_)))
                refine WO.bin rfl rfl (by decide) (by decide) rfl ?_
                refine WO.asg rfl (WO.nil (blockL_n (thenL_n ?_)))
                obtain rfl := someI h
                exact ⟨_, rfl, ⟨S93, rfl, rfl, (Cov.cons rfl (Cov.cons rfl (Cov.cons rfl (Cov.cons rfl (Cov.cons rfl (Cov.cons rfl (Cov.cons rfl (Cov.nil _)))))))), hM, hot0⟩⟩
              · have h := iteF q89 h
                refine WC.seq (WC.region (WO.mv rfl (WO.mv rfl ?_)))
                refine WO.bin rfl rfl (by decide) (by decide) rfl ?_
                refine WO.asg rfl (WO.nil (thenL_n (WC.seq (WC.region (WO.mv rfl (WO.mv rfl ?_))))))
                refine WO.bin rfl rfl (by decide) (by decide) rfl ?_
                refine WO.mv rfl (WO.mv rfl (WO.mv rfl ?_))
                obtain ⟨r95, e96, h⟩ := bindS h
                refine WO.callG (S := S87) [(2, 2)] [(2, 2)] rfl rfl (ih (S0 := S87.mp [(2, 2)]) e96 (hot0.mp rfl)) (fun _ S97 S98 hb hR => ?_)
                obtain ⟨rfl, hR0⟩ := hR
                have c99 : Ch 2 S87 S98 := hb.ch [] 2
                have hM := hM.to c99
                have hot0 := hR0.bkS hb rfl rfl
                refine WO.nil (thenL_n (WC.region (WO.mv rfl (WO.asg rfl (WO.nil (blockL_n (thenL_n ?_)))))))
                obtain rfl := someI h
                exact ⟨_, rfl, ⟨S98, rfl, rfl, (Cov.cons rfl (Cov.cons rfl (Cov.cons rfl (Cov.cons rfl (Cov.cons rfl (Cov.cons rfl (Cov.cons rfl (Cov.nil _)))))))), hM, hot0⟩⟩
          | inr b58 =>
            simp only at h
            rintro _ _ _ _ ⟨rfl, ⟨S100, rfl, rfl, hc101, hM, hot0⟩⟩
            refine thenL_r (blockL_r (thenL_r ?_))
            obtain rfl := someI h
            exact ⟨_, rfl, rfl, ⟨S100, rfl, rfl, (Cov.trans hc101 (Cov.cons rfl (Cov.nil _))), hM, hot0⟩⟩
    rintro _ _ _ _ ⟨rfl, ⟨S104, rfl, rfl, hc105, hM, hot0⟩⟩
    refine blockL_r ?_
    obtain rfl := someI h
    exact ⟨.inr rfl, _, _, (resK_cov hc105 rfl), rfl, ⟨S104, rfl, rfl, hM, rfl, hot0⟩⟩
end Go.Proofs.Ytaphdnpjpmnaeaa

namespace Go.Proofs.Ytaphdnpjpmnaeaa
open Go.Am
theorem F16_17.fn : E.fn 16 = some ⟨14, (Try.f16.body.getD .skip), Try.f16.results.toList, []⟩ := rfl
theorem F16_17_ok {F : Nat} {fl : Nat} {S0 : Cx fl} {r : (List (List Int))} {t0 : List (List Int)} {vt0 : SV} (h : F16_17 F t0 = some r) (hot0 : Ow Y23 S0 2 vt0 t0) : Ret E fl 16 [.sc vt0, .sc (.fn 17 [])] S0.m S0.n (fun v m' n' => ∃ S' : Cx fl, S'.m = m' ∧ S'.n = n' ∧ ChM S0 S' ∧ (v = .tup [] ∧ Ow Y23 S' 2 vt0 r)) := by
  unfold F16_17 at h
  refine Ret.walk F16_17.fn ?_
  have hM := ChM.refl S0
  refine WC.seq (WC.region (WO.mv rfl ?_))
  refine WO.lenS rfl hot0.slv rfl ?_
  refine WO.asg rfl (WO.nil (thenL_n (WC.region (WO.mv rfl (WO.mv rfl (WO.mv rfl ?_))))))
  refine WO.conv rfl rfl rfl rfl ?_
  obtain ⟨r1, e2, h⟩ := bindS h
  refine WO.callE (S := S0) rfl rfl (F29_ok e2) (fun S3 c4 => ?_)
  have hot0 := hot0.to c4
  have hM := hM.to c4
  refine WO.mv rfl ?_
  obtain ⟨r5, e6, h⟩ := bindS h
  refine WO.callG (S := S3) [(2, 2)] [(2, 2)] rfl rfl (F28_17_ok (S0 := S3.mp [(2, 2)]) e6 (hot0.mp rfl)) (fun _ S7 S8 hb hR => ?_)
  obtain ⟨rfl, hR0⟩ := hR
  have c9 : Ch 2 S3 S8 := hb.ch [] 2
  have hM := hM.to c9
  have hot0 := hR0.bkS hb rfl rfl
  refine WO.nil ?_
  obtain rfl := someI h
  exact ⟨.inl rfl, _, _, rfl, rfl, ⟨S8, rfl, rfl, hM, rfl, hot0⟩⟩
end Go.Proofs.Ytaphdnpjpmnaeaa

namespace Go.Proofs.Ytaphdnpjpmnaeaa
open Go.Am
theorem F4.fn : E.fn 4 = some ⟨77, (Try.f4.body.getD .skip), Try.f4.results.toList, []⟩ := rfl
theorem F4_ok {F : Nat} {fl : Nat} {S0 : Cx fl} {r : (List (List Int)) × Int} {t0 : Int} {t1 : List (List Int)} {vt1 : SV} (h : F4 F t0 t1 = some r) (hot1 : Rd Y23 S0 vt1 t1) : Ret E fl 4 [.sc (.int .i64 t0), .sc vt1] S0.m S0.n (fun v m' n' => ∃ S' : Cx fl, S'.m = m' ∧ S'.n = n' ∧ ChM S0 S' ∧ (∃ w116 : SV, v = .tup [.sc w116, .sc (.int .i64 r.2)] ∧ Rd Y23 S' w116 r.1)) := by
  unfold F4 at h
  refine Ret.walk F4.fn ?_
  have hM := ChM.refl S0
  refine WC.seq (WC.region (WO.asg rfl (WO.asg rfl (WO.nil (thenL_n (WC.seq (WC.seq (WC.region (WO.mv rfl ?_)))))))))
  refine WO.mv rfl ?_
  obtain ⟨r1, e2, h⟩ := bindS h
  refine WO.callE (S := S0) rfl rfl (F8_ok e2 hot1.vw) (fun S3 c4 => ?_)
  have hot1 := hot1.to c4
  have hM := hM.to c4
  refine WO.asg rfl (WO.nil (thenL_n (WC.seq (WC.region (WO.mv rfl ?_)))))
  refine WO.bin rfl rfl (by decide) (by decide) rfl ?_
  refine WO.nil (thenL_n ?_)
  refine WC.cond rfl (fun q5 => ?_) (fun q5 => ?_)
  · have h := iteT q5 h
    refine WC.seq (WC.region (WO.mv rfl (WO.asg rfl (WO.asg rfl (WO.nil (thenL_n (WC.ret (thenL_r ?_))))))))
    obtain rfl := someI h
    exact ⟨.inr rfl, _, _, rfl, rfl, ⟨S3, rfl, rfl, hM, .nils, rfl, Rd.nil⟩⟩
  · have h := iteF q5 h
    refine WC.skip (thenL_n (WC.seq (WC.region (WO.mv rfl ?_))))
    obtain ⟨L6, e7, h⟩ := bindS h
    refine WO.mkS (A := Y3) (S := S3) 2 rfl rfl e7 rfl rfl rfl (fun v8 S9 c10 ho11 => ?_)
    have hot1 := hot1.to c10
    have hM := hM.to c10
    refine WO.asg rfl (WO.nil (thenL_n (WC.seq (WC.seq (WC.region (WO.mv rfl ?_))))))
    refine WO.lenS rfl ho11.slv rfl ?_
    refine WO.mv rfl (WO.nil (thenL_n (WC.block ?_)))
    obtain ⟨b22, e23, h⟩ := bindS h
    refine WC.loopD e23 (fun s12 l' m' n' => ∃ S13 : Cx fl, S13.m = m' ∧ S13.n = n' ∧ Cov l' [(1, .sc vt1), (7, .sc v8), (25, .sc (.int .i64 ((L6.length : Int)))), (26, .sc (.int .i64 s12.1))] ∧ ChM S0 S13 ∧ Rd Y23 S13 vt1 t1 ∧ Ow Y3 S13 2 v8 s12.2) (fun b e l' m' n' => e = .exit 0 ∧ ∃ S14 : Cx fl, S14.m = m' ∧ S14.n = n' ∧ Cov l' [(1, .sc vt1), (7, .sc v8)] ∧ ChM S0 S14 ∧ Rd Y23 S14 vt1 t1 ∧ Ow Y3 S14 2 v8 b) (by exact ⟨S9, rfl, rfl, (Cov.cons rfl (Cov.cons rfl (Cov.cons rfl (Cov.cons rfl (Cov.nil _))))), hM, hot1, ho11⟩) ?_ ?_
    · clear h
      rintro s12 q _ _ _ ⟨S15, rfl, rfl, hc16, hM, hot1, ho11⟩ h
      unfold F4_l0 at h
      refine WC.cov hc16 (WC.seq (WC.region ?_))
      refine WO.bin rfl rfl (by decide) (by decide) rfl ?_
      refine WO.nil (thenL_n (WC.seq ?_))
      refine WC.cond rfl (fun q17 => ?_) (fun q17 => ?_)
      · have h := iteT q17 h
        refine WC.skip (thenL_n (WC.seq (WC.block (WC.seq (WC.region (WO.mv rfl (WO.asg rfl (WO.nil (thenL_n ?_)))))))))
        refine WC.region (WO.mv rfl (WO.mv rfl (WO.mv rfl ?_)))
        obtain ⟨u18, e19, h⟩ := bindS h
        refine WO.ixS rfl rfl ho11.slv (ck_some e19) rfl ?_
        refine WO.st1 (u' := s12.1) rfl rfl ho11 (ck_nat e19) rfl rfl (fun S20 c21 ho11 => ?_)
        have hM := hM.to c21
        have hot1 := hot1.to c21
        refine WO.nil (blockL_n (thenL_n (WC.region ?_)))
        refine WO.bin rfl rfl (by decide) (by decide) rfl ?_
        refine WO.mv rfl (WO.nil (thenL_n ?_))
        obtain rfl := someI h
        exact ⟨_, rfl, ⟨S20, rfl, rfl, (Cov.cons rfl (Cov.cons rfl (Cov.cons rfl (Cov.cons rfl (Cov.nil _))))), hM, hot1, ho11⟩⟩
      · have h := iteF q17 h
        refine WC.exit (thenL_e (thenL_e ?_))
        obtain rfl := someI h
        exact ⟨_, rfl, rfl, ⟨S15, rfl, rfl, (Cov.cons rfl (Cov.cons rfl (Cov.nil _))), hM, hot1, ho11⟩⟩
    rintro _ _ _ _ ⟨rfl, ⟨S24, rfl, rfl, hc25, hM, hot1, ho11⟩⟩
    refine blockL_s (thenL_n (WC.cov hc25 (WC.seq (WC.region ?_))))
    refine WO.mkMp (S := S24) (mlI 6) 3 E.mt39 rfl (fun v26 S27 c28 ho29 => ?_)
    have hM := hM.to c28
    have hot1 := hot1.to c28
    have ho11 := ho11.to c28
    refine WO.mv rfl ?_
    obtain ⟨r30, e31, h⟩ := bindS h
    refine WO.callE (S := S27) rfl rfl (F14_ok e31 ho11.vw) (fun S32 c33 => ?_)
    have hM := hM.to c33
    have hot1 := hot1.to c33
    have ho11 := ho11.to c33
    have ho29 := ho29.to c33
    obtain ⟨u34, e35, h⟩ := bindS h
    refine WO.inI (S := S32) (q := r30) (u := 1) rfl ho29 rfl rfl E.mt39 (keyI?_ok e35) rfl (fun S36 c37 ho29 => ?_)
    have hM := hM.to c37
    have hot1 := hot1.to c37
    have ho11 := ho11.to c37
    refine WO.mv rfl (WO.asg rfl (WO.nil (thenL_n (WC.seq (WC.region (WO.mv rfl ?_))))))
    have hM := hM.drop 2
    have hot1 := hot1.drop 2
    have ho11 := ho11.freeze
    have ho29 := ho29.drop 2
    refine WO.bsS (A := Y23) (S := (S36.drop 2)) (M := [b22]) (cs := [v8]) 4 rfl rfl rfl ⟨_, _, rfl, ⟨v8, rfl, ho11⟩, rfl⟩ rfl (fun v38 S39 c40 ho41 => ?_)
    have hM := hM.to c40
    have hot1 := hot1.to c40
    have ho11 := ho11.to c40
    have ho29 := ho29.to c40
    refine WO.asg rfl (WO.nil (thenL_n (WC.seq (WC.seq (WC.region (WO.asg rfl (WO.nil (thenL_n (WC.block ?_)))))))))
    obtain ⟨b106, e107, h⟩ := bindS h
    refine WC.loopD e107 (fun s42 l' m' n' => ∃ S44 : Cx fl, ∃ v45 : SV, S44.m = m' ∧ S44.n = n' ∧ Cov l' [(1, .sc vt1), (9, .sc v26), (10, .sc v45), (11, .sc (.int .i64 s42.2.1))] ∧ ChM S0 S44 ∧ Rd Y23 S44 vt1 t1 ∧ Mp (mlI 6) S44 3 v26 s42.2.2 ∧ Ow Y23 S44 4 v45 s42.1) (fun b e l' m' n' => e = .exit 2 ∧ ∃ S46 : Cx fl, ∃ v47 : SV, S46.m = m' ∧ S46.n = n' ∧ Cov l' [(10, .sc v47)] ∧ ChM S0 S46 ∧ Ow Y23 S46 4 v47 b) (by exact ⟨S39, v38, rfl, rfl, (Cov.cons rfl (Cov.cons rfl (Cov.cons rfl (Cov.cons rfl (Cov.nil _))))), hM, hot1, ho29, ho41⟩) ?_ ?_
    · clear h
      rintro s42 q _ _ _ ⟨S48, v49, rfl, rfl, hc50, hM, hot1, ho29, ho10⟩ h
      unfold F4_l2 at h
      refine WC.cov hc50 (WC.seq (WC.seq (WC.region (WO.mv rfl (WO.mv rfl ?_)))))
      refine WO.lenS rfl ho10.slv rfl ?_
      refine WO.bin rfl rfl (by decide) (by decide) rfl ?_
      refine WO.nil (thenL_n ?_)
      refine WC.cond rfl (fun q51 => ?_) (fun q51 => ?_)
      · have h := iteT q51 h
        refine WC.skip (thenL_n (WC.seq (WC.block (WC.seq (WC.region (WO.mv rfl ?_))))))
        refine WO.lenS rfl hot1.slv rfl ?_
        refine WO.mv rfl (WO.nil (thenL_n (WC.block ?_)))
        obtain ⟨b101, e102, h⟩ := bindS h
        refine WC.loopD e102 (fun s52 l' m' n' => ∃ S54 : Cx fl, ∃ v55 : SV, S54.m = m' ∧ S54.n = n' ∧ Cov l' [(1, .sc vt1), (9, .sc v26), (10, .sc v55), (11, .sc (.int .i64 s42.2.1)), (46, .sc vt1), (47, .sc (.int .i64 ((t1.length : Int)))), (48, .sc (.int .i64 s52.2.1))] ∧ ChM S0 S54 ∧ Rd Y23 S54 vt1 t1 ∧ Mp (mlI 6) S54 3 v26 s52.2.2 ∧ Ow Y23 S54 4 v55 s52.1) (fun b e l' m' n' => e = .exit 4 ∧ ∃ S56 : Cx fl, ∃ v57 : SV, S56.m = m' ∧ S56.n = n' ∧ Cov l' [(1, .sc vt1), (9, .sc v26), (10, .sc v57), (11, .sc (.int .i64 s42.2.1))] ∧ ChM S0 S56 ∧ Rd Y23 S56 vt1 t1 ∧ Mp (mlI 6) S56 3 v26 b.2 ∧ Ow Y23 S56 4 v57 b.1) (by exact ⟨S48, v49, rfl, rfl, (Cov.cons rfl (Cov.cons rfl (Cov.cons rfl (Cov.cons rfl (Cov.cons rfl (Cov.cons rfl (Cov.cons rfl (Cov.nil _)))))))), hM, hot1, ho29, ho10⟩) ?_ ?_
        · clear h
          rintro s52 q _ _ _ ⟨S58, v59, rfl, rfl, hc60, hM, hot1, ho29, ho10⟩ h
          unfold F4_l1 at h
          refine WC.cov hc60 (WC.seq (WC.region ?_))
          refine WO.bin rfl rfl (by decide) (by decide) rfl ?_
          refine WO.nil (thenL_n (WC.seq ?_))
          refine WC.cond rfl (fun q61 => ?_) (fun q61 => ?_)
          · have h := iteT q61 h
            refine WC.skip (thenL_n (WC.seq (WC.block (WC.seq (WC.region ?_)))))
            obtain ⟨L62, e63, h⟩ := bindS h
            refine WO.ixS rfl rfl hot1.slv (at?_lt e63) rfl ?_
            refine WO.ldS rfl hot1.ro (fun _ hi => hi) (at?_get e63) rfl rfl (fun v64 ho65 => ?_)
            have ho65 : Rd Y3 S58 v64 L62 := ho65
            refine WO.asg rfl (WO.nil (thenL_n (WC.seq (WC.region (WO.mv rfl (WO.mv rfl (WO.mv rfl ?_)))))))
            obtain ⟨L66, e67, h⟩ := bindS h
            refine WO.ixS rfl rfl ho10.slv (at?_lt e67) rfl ?_
            refine WO.ldS rfl ho10.ro (fun _ hi => hi) (at?_get e67) rfl rfl (fun v68 ho69 => ?_)
            have ho69 : Rd Y3 S58 v68 L66 := ho69
            obtain ⟨r70, e71, h⟩ := bindS h
            refine WO.callF (S := S58) 5 rfl rfl (F15_ok e71 ho65.vw ho69.vw) Lay.flat_fl (fun v72 S74 c75 ho73 => ?_)
            have hM := hM.to c75
            have hot1 := hot1.to c75
            have ho29 := ho29.to c75
            have ho10 := ho10.to c75
            have ho65 := ho65.to c75
            have ho69 := ho69.to c75
            refine WO.mv rfl ?_
            refine WO.do rfl rfl ?_
            refine WO.do rfl rfl ?_
            refine WO.asg rfl (WO.asg rfl (WO.nil (thenL_n (WC.seq (WC.region (WO.mv rfl (WO.mv rfl ?_)))))))
            obtain ⟨r76, e77, h⟩ := bindS h
            refine WO.callE (S := S74) rfl rfl (F14_ok e77 ho73.vw) (fun S78 c79 => ?_)
            have hM := hM.to c79
            have hot1 := hot1.to c79
            have ho29 := ho29.to c79
            have ho10 := ho10.to c79
            have ho65 := ho65.to c79
            have ho69 := ho69.to c79
            have ho73 := ho73.to c79
            obtain ⟨u80, e81, h⟩ := bindS h
            refine WO.lkI (q := r76) rfl ho29 rfl E.mt39 (keyI?_ok e81) ?_
            refine WO.bin rfl rfl (by decide) (by decide) rfl ?_
            refine WO.nil (thenL_n ?_)
            refine WC.cond rfl (fun q82 => ?_) (fun q82 => ?_)
            · have h := iteT q82 h
              refine WC.seq (WC.region (WO.mv rfl (WO.mv rfl ?_)))
              obtain ⟨r83, e84, h⟩ := bindS h
              refine WO.callE (S := S78) rfl rfl (F14_ok e84 ho73.vw) (fun S85 c86 => ?_)
              have hM := hM.to c86
              have hot1 := hot1.to c86
              have ho29 := ho29.to c86
              have ho10 := ho10.to c86
              have ho65 := ho65.to c86
              have ho69 := ho69.to c86
              have ho73 := ho73.to c86
              obtain ⟨u87, e88, h⟩ := bindS h
              refine WO.upI (S := S85) (q := r83) (u := 1) rfl ho29 rfl rfl E.mt39 (keyI?_ok e88) rfl (fun S89 c90 ho29 => ?_)
              have hM := hM.to c90
              have hot1 := hot1.to c90
              have ho10 := ho10.to c90
              have ho65 := ho65.to c90
              have ho69 := ho69.to c90
              have ho73 := ho73.to c90
              refine WO.nil (thenL_n (WC.region (WO.mv rfl (WO.mv rfl ?_))))
              have hM := hM.drop 5
              have hot1 := hot1.drop 5
              have ho29 := ho29.drop 5
              have ho10 := ho10.drop 5
              have ho65 := ho65.drop 5
              have ho69 := ho69.drop 5
              have ho73 := ho73.freeze
              refine WO.bsS (A := Y23) (S := (S89.drop 5)) (M := [r70.1]) (cs := [v72]) 6 rfl rfl rfl ⟨_, _, rfl, ⟨v72, rfl, ho73⟩, rfl⟩ rfl (fun v91 S92 c93 ho94 => ?_)
              have hM := hM.to c93
              have hot1 := hot1.to c93
              have ho29 := ho29.to c93
              have ho10 := ho10.to c93
              have ho65 := ho65.to c93
              have ho69 := ho69.to c93
              have ho73 := ho73.to c93
              obtain ⟨L95, e96, h⟩ := bindS h
              refine WO.appS rfl rfl ho10 ho94.ro e96 rfl rfl (fun v97 S98 c99 ho100 => ?_)
              have hM := hM.to c99
              have hot1 := hot1.to c99
              have ho29 := ho29.to c99
              have ho65 := ho65.to c99
              have ho69 := ho69.to c99
              have ho73 := ho73.to c99
              have ho94 := ho94.to c99
              refine WO.asg rfl (WO.nil (blockL_n (thenL_n (WC.region ?_))))
              refine WO.bin rfl rfl (by decide) (by decide) rfl ?_
              refine WO.mv rfl (WO.nil (thenL_n ?_))
              obtain rfl := someI h
              exact ⟨_, rfl, ⟨S98, v97, rfl, rfl, (Cov.cons rfl (Cov.cons rfl (Cov.cons rfl (Cov.cons rfl (Cov.cons rfl (Cov.cons rfl (Cov.cons rfl (Cov.nil _)))))))), hM, hot1, ho29, ho100⟩⟩
            · have h := iteF q82 h
              refine WC.skip (blockL_n (thenL_n (WC.region ?_)))
              refine WO.bin rfl rfl (by decide) (by decide) rfl ?_
              refine WO.mv rfl (WO.nil (thenL_n ?_))
              obtain rfl := someI h
              exact ⟨_, rfl, ⟨S78, v59, rfl, rfl, (Cov.cons rfl (Cov.cons rfl (Cov.cons rfl (Cov.cons rfl (Cov.cons rfl (Cov.cons rfl (Cov.cons rfl (Cov.nil _)))))))), hM, hot1, ho29, ho10⟩⟩
          · have h := iteF q61 h
            refine WC.exit (thenL_e (thenL_e ?_))
            obtain rfl := someI h
            exact ⟨_, rfl, rfl, ⟨S58, v59, rfl, rfl, (Cov.cons rfl (Cov.cons rfl (Cov.cons rfl (Cov.cons rfl (Cov.nil _))))), hM, hot1, ho29, ho10⟩⟩
        rintro _ _ _ _ ⟨rfl, ⟨S103, v104, rfl, rfl, hc105, hM, hot1, ho29, ho10⟩⟩
        refine blockL_s (blockL_n (thenL_n (WC.cov hc105 (WC.region (WO.mv rfl ?_)))))
        refine WO.bin rfl rfl (by decide) (by decide) rfl ?_
        refine WO.asg rfl (WO.nil (thenL_n ?_))
        obtain rfl := someI h
        exact ⟨_, rfl, ⟨S103, v104, rfl, rfl, (Cov.cons rfl (Cov.cons rfl (Cov.cons rfl (Cov.cons rfl (Cov.nil _))))), hM, hot1, ho29, ho10⟩⟩
      · have h := iteF q51 h
        refine WC.exit (thenL_e (thenL_e ?_))
        obtain rfl := someI h
        exact ⟨_, rfl, rfl, ⟨S48, v49, rfl, rfl, (Cov.cons rfl (Cov.nil _)), hM, ho10⟩⟩
    rintro _ _ _ _ ⟨rfl, ⟨S108, v109, rfl, rfl, hc110, hM, ho10⟩⟩
    refine blockL_s (thenL_n (WC.cov hc110 (WC.seq (WC.region (WO.mv rfl ?_)))))
    obtain ⟨r111, e112, h⟩ := bindS h
    refine WO.callG (S := S108) [(4, 2)] [(2, 4)] rfl rfl (F16_17_ok (S0 := S108.mp [(4, 2)]) e112 (ho10.mp rfl)) (fun _ S113 S114 hb hR => ?_)
    obtain ⟨rfl, hR0⟩ := hR
    have c115 : Ch 4 S108 S114 := hb.ch [] 4
    have hM := hM.to c115
    have ho10 := hR0.bkS hb rfl rfl
    refine WO.nil (thenL_n (WC.seq (WC.region (WO.mv rfl (WO.asg rfl (WO.asg rfl (WO.nil (thenL_n (WC.ret ?_)))))))))
    have hM := hM.drop 4
    have ho10 := ho10.freeze
    obtain rfl := someI h
    exact ⟨.inr rfl, _, _, rfl, rfl, ⟨(S114.drop 4), rfl, rfl, hM, v109, rfl, ho10⟩⟩
end Go.Proofs.Ytaphdnpjpmnaeaa

namespace Go.Proofs.Ytaphdnpjpmnaeaa
open Go.Am
theorem F32.fn : E.fn 32 = some ⟨8, (Try.f32.body.getD .skip), Try.f32.results.toList, []⟩ := rfl
theorem F32_ok {F : Nat} {m : Mem} {n : Nat} {r : Int} {t0 : Int} {t1 : Int} (h : F32 F t0 t1 = some r)  : Ret E n 32 [.sc (.int .i64 t0), .sc (.int .i64 t1)] m n (fun v m' n' => v = .sc (.int .i64 r)) := by
  unfold F32 at h
  refine Ret.walk F32.fn ?_
  refine WC.start fun S0 em en hz => ?_
  refine WC.seq (WC.region (WO.asg rfl (WO.nil (thenL_n (WC.seq (WC.region (WO.mv rfl (WO.mv rfl ?_))))))))
  refine WO.bin rfl rfl (by decide) (by decide) rfl ?_
  refine WO.asg rfl (WO.nil (thenL_n (WC.ret ?_)))
  obtain rfl := someI h
  exact ⟨.inr rfl, _, _, rfl, rfl, rfl⟩
end Go.Proofs.Ytaphdnpjpmnaeaa

/- The machine answers the functions' texts: printed by a program of ours (gen.py). -/
import Derived.Test.YtaphdnpjpmnaeabDoorDef
import Derived.Test.YtaphdnpjpmnaeabDoorEnv
set_option linter.unusedVariables false
set_option maxRecDepth 20000
set_option maxHeartbeats 4000000
namespace Go.Proofs.YtaphdnpjpmnaeabDoor
open Go.Am
theorem F4.fn : E.fn 4 = some ⟨3, (Tryd.f4.body.getD .skip), Tryd.f4.results.toList, []⟩ := rfl
theorem F4_ok {F : Nat} {fl : Nat} {S0 : Cx fl} {r : (Option ((List ((List UInt8) × Int × Int)) × (List ((List UInt8) × (List UInt8) × Int))))}  (h : F4 F = some r)  : Ret E fl 4 [] S0.m S0.n (fun v m' n' => ∃ S' : Cx fl, S'.m = m' ∧ S'.n = n' ∧ ChM S0 S' ∧ (∃ w5 : SV, v = .sc w5 ∧ (match (generalizing := false) r with | none => w5 = .nilp | some x => ∃ b : Nat, ∃ w6 w7 : SV, w5 = .ptr b 0 ∧ Bw S' 902 (.ptr b 0) [w6, w7] ∧ Ow Y52 S' 904 w6 x.1 ∧ Ow Y82 S' 906 w7 x.2))) := by
  unfold F4 at h
  refine Ret.walk F4.fn ?_
  have hM := ChM.refl S0
  refine WC.seq (WC.region (WO.asg rfl (WO.nil (thenL_n (WC.seq (WC.region ?_))))))
  refine WO.do rfl rfl ?_
  refine WO.bxW (S := S0) (cs := [.nils, .nils]) 2 rfl rfl rfl (fun b1 S2 c3 ho4 => ?_)
  have hM := hM.to c3
  refine WO.asg rfl (WO.nil (thenL_n (WC.ret ?_)))
  have hM := hM.renO 2 902
  have ho4 := ho4.ren (j := 902)
  obtain rfl := someI h
  exact ⟨.inr rfl, _, _, rfl, rfl, ⟨(S2.ren 2 902), rfl, rfl, hM, (.ptr b1 0), rfl, ⟨_, .nils, .nils, rfl, ho4, Ow.nil, Ow.nil⟩⟩⟩
end Go.Proofs.YtaphdnpjpmnaeabDoor

namespace Go.Proofs.YtaphdnpjpmnaeabDoor
open Go.Am
theorem F5.fn : E.fn 5 = some ⟨22, (Tryd.f5.body.getD .skip), Tryd.f5.results.toList, []⟩ := rfl
theorem F5_ok {F : Nat} {m : Mem} {n : Nat} {r : (List (List UInt8))} {t0 : (List ((List UInt8) × Int × Int)) × (List ((List UInt8) × (List UInt8) × Int))} {bt0 : Nat} {vt0_0 : SV} {vt0_1 : SV} (h : F5 F t0 = some r) (kt0 : Pw n m (.ptr bt0 0) [vt0_0, vt0_1]) (kt0_0 : Vw Y52 n m vt0_0 t0.1) (kt0_1 : Vw Y82 n m vt0_1 t0.2) : Ret E n 5 [.sc (.ptr bt0 0)] m n (fun v m' n' => ∃ w, v = .sc w ∧ Fr Y9 n m' n' w r) := by
  unfold F5 at h
  refine Ret.walk F5.fn ?_
  refine WC.start fun S0 em en hz => ?_
  have hot0_0 := kt0_0.rdS em hz
  have hot0_1 := kt0_1.rdS em hz
  have hot0 := kt0.rwS em hz
  refine WC.seq (WC.region (WO.asg rfl (WO.nil (thenL_n (WC.seq (WC.region (WO.asg rfl (WO.nil (thenL_n ?_)))))))))
  refine WC.seq (WC.seq (WC.region (WO.mv rfl ?_)))
  refine WO.nck rfl hot0.isp ?_
  refine WO.fldS (j := 0) (q := 0) rfl hot0.at0 hot0.ptr rfl rfl rfl (by decide) ?_
  refine WO.ldRw rfl rfl hot0 rfl rfl hot0.lt rfl ?_
  refine WO.lenS rfl hot0_0.slv rfl ?_
  refine WO.mv rfl (WO.nil (thenL_n (WC.block ?_)))
  obtain ⟨b29, e30, h⟩ := bindS h
  refine WC.loopD e30 (fun s1 l' m' n' => ∃ S3 : Cx n, ∃ v4 : SV, S3.m = m' ∧ S3.n = n' ∧ Cov l' [(3, .sc v4), (9, .sc vt0_0), (10, .sc (.int .i64 ((t0.1.length : Int)))), (11, .sc (.int .i64 s1.2))] ∧ Rd Y52 S3 vt0_0 t0.1 ∧ Ow Y9 S3 2 v4 s1.1) (fun b e l' m' n' => e = .exit 0 ∧ ∃ S5 : Cx n, ∃ v6 : SV, S5.m = m' ∧ S5.n = n' ∧ Cov l' [(3, .sc v6)] ∧ Ow Y9 S5 2 v6 b) (by exact ⟨S0, .nils, rfl, rfl, (Cov.cons rfl (Cov.cons rfl (Cov.cons rfl (Cov.cons rfl (Cov.nil _))))), hot0_0, Ow.nil⟩) ?_ ?_
  · clear h
    rintro s1 q _ _ _ ⟨S7, v8, rfl, rfl, hc9, hot0_0, ho3⟩ h
    unfold F5_l0 at h
    refine WC.cov hc9 (WC.seq (WC.region ?_))
    refine WO.bin rfl rfl (by decide) (by decide) rfl ?_
    refine WO.nil (thenL_n (WC.seq ?_))
    refine WC.cond rfl (fun q10 => ?_) (fun q10 => ?_)
    · have h := iteT q10 h
      refine WC.skip (thenL_n (WC.seq (WC.block (WC.seq (WC.region ?_)))))
      obtain ⟨x11, e12, h⟩ := bindS h
      refine WO.ixS rfl rfl hot0_0.slv (at?_lt e12) rfl ?_
      refine WO.ldA rfl hot0_0.ro (fun _ hi => hi) (at?_get e12) rfl rfl ?_
      refine WO.alS (A := Y52) (S := S7) (z0 := (([], 0, 0) : (List UInt8) × Int × Int)) 3 rfl rfl rfl (fun v13 S14 c15 ho16 => ?_)
      have hot0_0 := hot0_0.to c15
      have ho3 := ho3.to c15
      refine WO.stBA (u' := (x11.1, x11.2.1, x11.2.2)) rfl ho16.at0 rfl ho16 rfl rfl (fun S17 c18 ho16 => ?_)
      have hot0_0 := hot0_0.to c18
      have ho3 := ho3.to c18
      refine WO.nil (thenL_n (WC.region (WO.mv rfl ?_)))
      refine WO.fldS (j := 0) (q := 0) rfl ho16.at0 ho16.ptr rfl rfl rfl (by decide) ?_
      refine WO.ldB (j := 0) (q := 0) rfl rfl ho16 rfl rfl rfl ?_
      refine WO.bsS (A := Y9) (S := S17) (M := [((x11.1, x11.2.1, x11.2.2)).1]) (cs := [.str (((x11.1, x11.2.1, x11.2.2)).1)]) 4 rfl rfl rfl ⟨[.str (((x11.1, x11.2.1, x11.2.2)).1)], _, rfl, rfl, rfl⟩ rfl (fun v19 S20 c21 ho22 => ?_)
      have hot0_0 := hot0_0.to c21
      have ho3 := ho3.to c21
      have ho16 := ho16.to c21
      obtain ⟨L23, e24, h⟩ := bindS h
      refine WO.appS rfl rfl ho3 ho22.ro e24 rfl rfl (fun v25 S26 c27 ho28 => ?_)
      have hot0_0 := hot0_0.to c27
      have ho16 := ho16.to c27
      have ho22 := ho22.to c27
      refine WO.asg rfl (WO.nil (blockL_n (thenL_n (WC.region ?_))))
      refine WO.bin rfl rfl (by decide) (by decide) rfl ?_
      refine WO.mv rfl (WO.nil (thenL_n ?_))
      obtain rfl := someI h
      exact ⟨_, rfl, ⟨S26, v25, rfl, rfl, (Cov.cons rfl (Cov.cons rfl (Cov.cons rfl (Cov.cons rfl (Cov.nil _))))), hot0_0, ho28⟩⟩
    · have h := iteF q10 h
      refine WC.exit (thenL_e (thenL_e ?_))
      obtain rfl := someI h
      exact ⟨_, rfl, rfl, ⟨S7, v8, rfl, rfl, (Cov.cons rfl (Cov.nil _)), ho3⟩⟩
  rintro _ _ _ _ ⟨rfl, ⟨S31, v32, rfl, rfl, hc33, ho3⟩⟩
  refine blockL_s (thenL_n (WC.cov hc33 (WC.seq (WC.region (WO.mv rfl (WO.asg rfl (WO.nil (thenL_n (WC.ret ?_)))))))))
  obtain rfl := someI h
  exact ⟨.inr rfl, _, _, rfl, rfl, ⟨v32, rfl, (ho3.fr Lay.flat_fl)⟩⟩
end Go.Proofs.YtaphdnpjpmnaeabDoor

namespace Go.Proofs.YtaphdnpjpmnaeabDoor
open Go.Am
theorem F13.fn : E.fn 13 = some ⟨22, (Tryd.f13.body.getD .skip), Tryd.f13.results.toList, []⟩ := rfl
theorem F13_ok {F : Nat} {m : Mem} {n : Nat} {r : (List Int)} {t0 : (List ((List UInt8) × Int × Int)) × (List ((List UInt8) × (List UInt8) × Int))} {bt0 : Nat} {vt0_0 : SV} {vt0_1 : SV} (h : F13 F t0 = some r) (kt0 : Pw n m (.ptr bt0 0) [vt0_0, vt0_1]) (kt0_0 : Vw Y52 n m vt0_0 t0.1) (kt0_1 : Vw Y82 n m vt0_1 t0.2) : Ret E n 13 [.sc (.ptr bt0 0)] m n (fun v m' n' => ∃ w, v = .sc w ∧ Fr Y3 n m' n' w r) := by
  unfold F13 at h
  refine Ret.walk F13.fn ?_
  refine WC.start fun S0 em en hz => ?_
  have hot0_0 := kt0_0.rdS em hz
  have hot0_1 := kt0_1.rdS em hz
  have hot0 := kt0.rwS em hz
  refine WC.seq (WC.region (WO.asg rfl (WO.nil (thenL_n (WC.seq (WC.region (WO.asg rfl (WO.nil (thenL_n ?_)))))))))
  refine WC.seq (WC.seq (WC.region (WO.mv rfl ?_)))
  refine WO.nck rfl hot0.isp ?_
  refine WO.fldS (j := 0) (q := 0) rfl hot0.at0 hot0.ptr rfl rfl rfl (by decide) ?_
  refine WO.ldRw rfl rfl hot0 rfl rfl hot0.lt rfl ?_
  refine WO.lenS rfl hot0_0.slv rfl ?_
  refine WO.mv rfl (WO.nil (thenL_n (WC.block ?_)))
  obtain ⟨b29, e30, h⟩ := bindS h
  refine WC.loopD e30 (fun s1 l' m' n' => ∃ S3 : Cx n, ∃ v4 : SV, S3.m = m' ∧ S3.n = n' ∧ Cov l' [(3, .sc v4), (9, .sc vt0_0), (10, .sc (.int .i64 ((t0.1.length : Int)))), (11, .sc (.int .i64 s1.2))] ∧ Rd Y52 S3 vt0_0 t0.1 ∧ Ow Y3 S3 2 v4 s1.1) (fun b e l' m' n' => e = .exit 0 ∧ ∃ S5 : Cx n, ∃ v6 : SV, S5.m = m' ∧ S5.n = n' ∧ Cov l' [(3, .sc v6)] ∧ Ow Y3 S5 2 v6 b) (by exact ⟨S0, .nils, rfl, rfl, (Cov.cons rfl (Cov.cons rfl (Cov.cons rfl (Cov.cons rfl (Cov.nil _))))), hot0_0, Ow.nil⟩) ?_ ?_
  · clear h
    rintro s1 q _ _ _ ⟨S7, v8, rfl, rfl, hc9, hot0_0, ho3⟩ h
    unfold F13_l0 at h
    refine WC.cov hc9 (WC.seq (WC.region ?_))
    refine WO.bin rfl rfl (by decide) (by decide) rfl ?_
    refine WO.nil (thenL_n (WC.seq ?_))
    refine WC.cond rfl (fun q10 => ?_) (fun q10 => ?_)
    · have h := iteT q10 h
      refine WC.skip (thenL_n (WC.seq (WC.block (WC.seq (WC.region ?_)))))
      obtain ⟨x11, e12, h⟩ := bindS h
      refine WO.ixS rfl rfl hot0_0.slv (at?_lt e12) rfl ?_
      refine WO.ldA rfl hot0_0.ro (fun _ hi => hi) (at?_get e12) rfl rfl ?_
      refine WO.alS (A := Y52) (S := S7) (z0 := (([], 0, 0) : (List UInt8) × Int × Int)) 3 rfl rfl rfl (fun v13 S14 c15 ho16 => ?_)
      have hot0_0 := hot0_0.to c15
      have ho3 := ho3.to c15
      refine WO.stBA (u' := (x11.1, x11.2.1, x11.2.2)) rfl ho16.at0 rfl ho16 rfl rfl (fun S17 c18 ho16 => ?_)
      have hot0_0 := hot0_0.to c18
      have ho3 := ho3.to c18
      refine WO.nil (thenL_n (WC.region (WO.mv rfl ?_)))
      refine WO.fldS (j := 0) (q := 0) rfl ho16.at0 ho16.ptr rfl rfl rfl (by decide) ?_
      refine WO.ldB (j := 0) (q := 1) rfl rfl ho16 rfl rfl rfl ?_
      refine WO.bsS (A := Y3) (S := S17) (M := [((x11.1, x11.2.1, x11.2.2)).2.1]) (cs := [.int .i64 (((x11.1, x11.2.1, x11.2.2)).2.1)]) 4 rfl rfl rfl ⟨[.int .i64 (((x11.1, x11.2.1, x11.2.2)).2.1)], _, rfl, rfl, rfl⟩ rfl (fun v19 S20 c21 ho22 => ?_)
      have hot0_0 := hot0_0.to c21
      have ho3 := ho3.to c21
      have ho16 := ho16.to c21
      obtain ⟨L23, e24, h⟩ := bindS h
      refine WO.appS rfl rfl ho3 ho22.ro e24 rfl rfl (fun v25 S26 c27 ho28 => ?_)
      have hot0_0 := hot0_0.to c27
      have ho16 := ho16.to c27
      have ho22 := ho22.to c27
      refine WO.asg rfl (WO.nil (blockL_n (thenL_n (WC.region ?_))))
      refine WO.bin rfl rfl (by decide) (by decide) rfl ?_
      refine WO.mv rfl (WO.nil (thenL_n ?_))
      obtain rfl := someI h
      exact ⟨_, rfl, ⟨S26, v25, rfl, rfl, (Cov.cons rfl (Cov.cons rfl (Cov.cons rfl (Cov.cons rfl (Cov.nil _))))), hot0_0, ho28⟩⟩
    · have h := iteF q10 h
      refine WC.exit (thenL_e (thenL_e ?_))
      obtain rfl := someI h
      exact ⟨_, rfl, rfl, ⟨S7, v8, rfl, rfl, (Cov.cons rfl (Cov.nil _)), ho3⟩⟩
  rintro _ _ _ _ ⟨rfl, ⟨S31, v32, rfl, rfl, hc33, ho3⟩⟩
  refine blockL_s (thenL_n (WC.cov hc33 (WC.seq (WC.region (WO.mv rfl (WO.asg rfl (WO.nil (thenL_n (WC.ret ?_)))))))))
  obtain rfl := someI h
  exact ⟨.inr rfl, _, _, rfl, rfl, ⟨v32, rfl, (ho3.fr Lay.flat_fl)⟩⟩
end Go.Proofs.YtaphdnpjpmnaeabDoor

namespace Go.Proofs.YtaphdnpjpmnaeabDoor
open Go.Am
theorem F35.fn : E.fn 35 = some ⟨21, (Tryd.f35.body.getD .skip), Tryd.f35.results.toList, []⟩ := rfl
theorem F35_ok {F : Nat} {m : Mem} {n : Nat} {r : Int} {t0 : List Int} {vt0 : SV} (h : F35 F t0 = some r) (kt0 : Vw Y3 n m vt0 t0) : Ret E n 35 [.sc vt0] m n (fun v m' n' => v = .sc (.int .i64 r)) := by
  unfold F35 at h
  refine Ret.walk F35.fn ?_
  refine WC.start fun S0 em en hz => ?_
  have hot0 := kt0.rdS em hz
  refine WC.seq (WC.region (WO.asg rfl (WO.nil (thenL_n (WC.seq (WC.seq (WC.region (WO.mv rfl ?_))))))))
  refine WO.lenS rfl hot0.slv rfl ?_
  refine WO.bin rfl rfl (by decide) (by decide) rfl ?_
  refine WO.nil (thenL_n ?_)
  refine WC.cond rfl (fun q1 => ?_) (fun q1 => ?_)
  · have h := iteT q1 h
    refine WC.seq (WC.region (WO.asg rfl (WO.nil (thenL_n (WC.ret (thenL_r ?_))))))
    obtain rfl := someI h
    exact ⟨.inr rfl, _, _, rfl, rfl, rfl⟩
  · have h := iteF q1 h
    refine WC.skip (thenL_n (WC.seq (WC.seq (WC.region (WO.mv rfl ?_)))))
    refine WO.lenS rfl hot0.slv rfl ?_
    refine WO.mv rfl (WO.nil (thenL_n (WC.block ?_)))
    obtain ⟨b14, e15, h⟩ := bindS h
    refine WC.loopD e15 (fun s2 l' m' n' => ∃ S3 : Cx n, S3.m = m' ∧ S3.n = n' ∧ Cov l' [(8, .sc vt0), (9, .sc (.int .i64 ((t0.length : Int)))), (10, .sc (.int .i64 s2))] ∧ Rd Y3 S3 vt0 t0) (fun b e l' m' n' => (match b with | .inl b4 => e = .exit 0 ∧ ∃ S5 : Cx n, S5.m = m' ∧ S5.n = n' ∧ Cov l' [] | .inr b4 => e = .ret ∧ ∃ S6 : Cx n, S6.m = m' ∧ S6.n = n' ∧ Cov l' [(2, .sc (.int .i64 b4))])) (by exact ⟨S0, rfl, rfl, (Cov.cons rfl (Cov.cons rfl (Cov.cons rfl (Cov.nil _)))), hot0⟩) ?_ ?_
    · clear h
      rintro s2 q _ _ _ ⟨S7, rfl, rfl, hc8, hot0⟩ h
      unfold F35_l0 at h
      refine WC.cov hc8 (WC.seq (WC.region ?_))
      refine WO.bin rfl rfl (by decide) (by decide) rfl ?_
      refine WO.nil (thenL_n (WC.seq ?_))
      refine WC.cond rfl (fun q9 => ?_) (fun q9 => ?_)
      · have h := iteT q9 h
        refine WC.skip (thenL_n (WC.seq (WC.block (WC.seq (WC.region ?_)))))
        obtain ⟨x10, e11, h⟩ := bindS h
        refine WO.ixS rfl rfl hot0.slv (at?_lt e11) rfl ?_
        refine WO.ldF rfl hot0.ro (fun _ hi => hi) (at?_get e11) rfl rfl rfl ?_
        refine WO.asg rfl (WO.nil (thenL_n (WC.seq (WC.region (WO.mv rfl ?_)))))
        refine WO.bin rfl rfl (by decide) (by decide) rfl ?_
        refine WO.mv rfl ?_
        refine WO.cutB (d := 19) 3 ((decide (x10 < 0)) || (decide (x10 > 100))) (fun q12 => ?_) (fun q12 => ?_) ?_
        · refine WO.gno rfl rfl (WO.gno rfl rfl ?_)
          refine WO.pickT rfl rfl ?_
          refine WO.nil ?_
          exact ⟨rfl, rfl, (Cov.any rfl (orT q12) (Cov.skip rfl (Cov.skip rfl (Cov.skip rfl (Cov.skip rfl (Cov.refl _))))))⟩
        · skip
          refine WO.gyes rfl rfl (WO.mv rfl (WO.gyes rfl rfl ?_))
          refine WO.bin rfl rfl (by decide) (by decide) rfl ?_
          refine WO.pickF rfl rfl ?_
          refine WO.nil ?_
          exact ⟨rfl, rfl, (Cov.any rfl (orF q12) (Cov.skip rfl (Cov.skip rfl (Cov.skip rfl (Cov.skip rfl (Cov.refl _))))))⟩
        refine WO.nil (thenL_n ?_)
        refine WC.cond rfl (fun q13 => ?_) (fun q13 => ?_)
        · have h := iteT q13 h
          refine WC.seq (WC.region (WO.asg rfl (WO.nil (thenL_n (WC.ret (blockL_r (thenL_r (thenL_r ?_))))))))
          obtain rfl := someI h
          exact ⟨_, rfl, rfl, ⟨S7, rfl, rfl, (Cov.cons rfl (Cov.nil _))⟩⟩
        · have h := iteF q13 h
          refine WC.skip (blockL_n (thenL_n (WC.region ?_)))
          refine WO.bin rfl rfl (by decide) (by decide) rfl ?_
          refine WO.mv rfl (WO.nil (thenL_n ?_))
          obtain rfl := someI h
          exact ⟨_, rfl, ⟨S7, rfl, rfl, (Cov.cons rfl (Cov.cons rfl (Cov.cons rfl (Cov.nil _)))), hot0⟩⟩
      · have h := iteF q9 h
        refine WC.exit (thenL_e (thenL_e ?_))
        obtain rfl := someI h
        exact ⟨_, rfl, rfl, ⟨S7, rfl, rfl, (Cov.nil _)⟩⟩
    cases b14 with
    | inl b16 =>
      simp only at h
      rintro _ _ _ _ ⟨rfl, ⟨S17, rfl, rfl, hc18⟩⟩
      refine blockL_s (thenL_n (WC.cov hc18 (WC.seq (WC.region (WO.asg rfl (WO.nil (thenL_n (WC.ret ?_))))))))
      obtain rfl := someI h
      exact ⟨.inr rfl, _, _, rfl, rfl, rfl⟩
    | inr b16 =>
      simp only at h
      rintro _ _ _ _ ⟨rfl, ⟨S19, rfl, rfl, hc20⟩⟩
      refine blockL_r (thenL_r ?_)
      obtain rfl := someI h
      exact ⟨.inr rfl, _, _, (resK_cov hc20 rfl), rfl, rfl⟩
end Go.Proofs.YtaphdnpjpmnaeabDoor

namespace Go.Proofs.YtaphdnpjpmnaeabDoor
open Go.Am
theorem F34.fn : E.fn 34 = some ⟨24, (Tryd.f34.body.getD .skip), Tryd.f34.results.toList, []⟩ := rfl
theorem F34_ok {F : Nat} {m : Mem} {n : Nat} {r : Int × Int} {t0 : List Int} {vt0 : SV} (h : F34 F t0 = some r) (kt0 : Vw Y3 n m vt0 t0) : Ret E n 34 [.sc vt0] m n (fun v m' n' => v = .tup [.sc (.int .i64 r.1), .sc (.int .i64 r.2)]) := by
  unfold F34 at h
  refine Ret.walk F34.fn ?_
  refine WC.start fun S0 em en hz => ?_
  have hot0 := kt0.rdS em hz
  refine WC.seq (WC.region (WO.asg rfl (WO.asg rfl (WO.nil (thenL_n (WC.seq (WC.seq (WC.region (WO.mv rfl ?_)))))))))
  obtain ⟨r1, e2, h⟩ := bindS h
  refine WO.callE (S := S0) rfl rfl (F35_ok e2 hot0.vw) (fun S3 c4 => ?_)
  have hot0 := hot0.to c4
  refine WO.asg rfl (WO.nil (thenL_n (WC.seq (WC.region (WO.mv rfl ?_)))))
  refine WO.bin rfl rfl (by decide) (by decide) rfl ?_
  refine WO.nil (thenL_n ?_)
  refine WC.cond rfl (fun q5 => ?_) (fun q5 => ?_)
  · have h := iteT q5 h
    refine WC.seq (WC.region (WO.mv rfl (WO.asg rfl (WO.asg rfl (WO.nil (thenL_n (WC.ret (thenL_r ?_))))))))
    obtain rfl := someI h
    exact ⟨.inr rfl, _, _, rfl, rfl, rfl⟩
  · have h := iteF q5 h
    refine WC.skip (thenL_n (WC.seq (WC.region (WO.asg rfl (WO.nil (thenL_n (WC.seq (WC.seq (WC.region ?_)))))))))
    refine WO.mv rfl ?_
    refine WO.lenS rfl hot0.slv rfl ?_
    refine WO.mv rfl (WO.nil (thenL_n (WC.block ?_)))
    obtain ⟨b14, e15, h⟩ := bindS h
    refine WC.loopD e15 (fun s6 l' m' n' => ∃ S7 : Cx n, S7.m = m' ∧ S7.n = n' ∧ Cov l' [(5, .sc (.int .i64 s6.1)), (13, .sc vt0), (14, .sc (.int .i64 ((t0.length : Int)))), (15, .sc (.int .i64 s6.2))] ∧ Rd Y3 S7 vt0 t0) (fun b e l' m' n' => e = .exit 0 ∧ ∃ S8 : Cx n, S8.m = m' ∧ S8.n = n' ∧ Cov l' [(5, .sc (.int .i64 b))]) (by exact ⟨S3, rfl, rfl, (Cov.cons rfl (Cov.cons rfl (Cov.cons rfl (Cov.cons rfl (Cov.nil _))))), hot0⟩) ?_ ?_
    · clear h
      rintro s6 q _ _ _ ⟨S9, rfl, rfl, hc10, hot0⟩ h
      unfold F34_l0 at h
      refine WC.cov hc10 (WC.seq (WC.region ?_))
      refine WO.bin rfl rfl (by decide) (by decide) rfl ?_
      refine WO.nil (thenL_n (WC.seq ?_))
      refine WC.cond rfl (fun q11 => ?_) (fun q11 => ?_)
      · have h := iteT q11 h
        refine WC.skip (thenL_n (WC.seq (WC.block (WC.seq (WC.region ?_)))))
        obtain ⟨x12, e13, h⟩ := bindS h
        refine WO.ixS rfl rfl hot0.slv (at?_lt e13) rfl ?_
        refine WO.ldF rfl hot0.ro (fun _ hi => hi) (at?_get e13) rfl rfl rfl ?_
        refine WO.asg rfl (WO.nil (thenL_n (WC.region (WO.mv rfl (WO.mv rfl ?_)))))
        refine WO.bin rfl rfl (by decide) (by decide) rfl ?_
        refine WO.asg rfl (WO.nil (blockL_n (thenL_n (WC.region ?_))))
        refine WO.bin rfl rfl (by decide) (by decide) rfl ?_
        refine WO.mv rfl (WO.nil (thenL_n ?_))
        obtain rfl := someI h
        exact ⟨_, rfl, ⟨S9, rfl, rfl, (Cov.cons rfl (Cov.cons rfl (Cov.cons rfl (Cov.cons rfl (Cov.nil _))))), hot0⟩⟩
      · have h := iteF q11 h
        refine WC.exit (thenL_e (thenL_e ?_))
        obtain rfl := someI h
        exact ⟨_, rfl, rfl, ⟨S9, rfl, rfl, (Cov.cons rfl (Cov.nil _))⟩⟩
    rintro _ _ _ _ ⟨rfl, ⟨S16, rfl, rfl, hc17⟩⟩
    refine blockL_s (thenL_n (WC.cov hc17 (WC.seq (WC.region (WO.mv rfl (WO.asg rfl (WO.asg rfl (WO.nil (thenL_n ?_)))))))))
    refine WC.ret ?_
    obtain rfl := someI h
    exact ⟨.inr rfl, _, _, rfl, rfl, rfl⟩
end Go.Proofs.YtaphdnpjpmnaeabDoor

namespace Go.Proofs.YtaphdnpjpmnaeabDoor
open Go.Am
theorem F12.fn : E.fn 12 = some ⟨41, (Tryd.f12.body.getD .skip), Tryd.f12.results.toList, []⟩ := rfl
theorem F12_ok {F : Nat} {m : Mem} {n : Nat} {r : Int × Int} {t0 : List Int} {t1 : Int} {vt0 : SV} (h : F12 F t0 t1 = some r) (kt0 : Vw Y3 n m vt0 t0) : Ret E n 12 [.sc vt0, .sc (.int .i64 t1)] m n (fun v m' n' => v = .tup [.sc (.int .i64 r.1), .sc (.int .i64 r.2)]) := by
  unfold F12 at h
  refine Ret.walk F12.fn ?_
  refine WC.start fun S0 em en hz => ?_
  have hot0 := kt0.rdS em hz
  refine WC.seq (WC.region (WO.asg rfl (WO.asg rfl (WO.nil (thenL_n (WC.seq (WC.region (WO.mv rfl ?_))))))))
  obtain ⟨r1, e2, h⟩ := bindS h
  refine WO.callE (S := S0) rfl rfl (F34_ok e2 hot0.vw) (fun S3 c4 => ?_)
  have hot0 := hot0.to c4
  refine WO.mv rfl ?_
  refine WO.do rfl rfl ?_
  refine WO.do rfl rfl ?_
  refine WO.asg rfl (WO.asg rfl (WO.nil (thenL_n (WC.seq (WC.seq (WC.region (WO.mv rfl ?_)))))))
  refine WO.bin rfl rfl (by decide) (by decide) rfl ?_
  refine WO.nil (thenL_n ?_)
  refine WC.cond rfl (fun q5 => ?_) (fun q5 => ?_)
  · have h := iteT q5 h
    refine WC.seq (WC.region (WO.mv rfl (WO.asg rfl (WO.asg rfl (WO.nil (thenL_n (WC.ret (thenL_r ?_))))))))
    obtain rfl := someI h
    exact ⟨.inr rfl, _, _, rfl, rfl, rfl⟩
  · have h := iteF q5 h
    refine WC.skip (thenL_n (WC.seq (WC.seq (WC.region (WO.mv rfl ?_)))))
    refine WO.bin rfl rfl (by decide) (by decide) rfl ?_
    refine WO.nil (thenL_n ?_)
    refine WC.cond rfl (fun q6 => ?_) (fun q6 => ?_)
    · have h := iteT q6 h
      refine WC.seq (WC.region (WO.asg rfl (WO.asg rfl (WO.nil (thenL_n (WC.ret (thenL_r ?_)))))))
      obtain rfl := someI h
      exact ⟨.inr rfl, _, _, rfl, rfl, rfl⟩
    · have h := iteF q6 h
      refine WC.skip (thenL_n (WC.seq (WC.seq (WC.region (WO.mv rfl ?_)))))
      refine WO.bin rfl rfl (by decide) (by decide) rfl ?_
      refine WO.mv rfl ?_
      refine WO.cutB (d := 25) 4 ((decide (t1 < 0)) || (decide (t1 ≥ r1.1))) (fun q7 => ?_) (fun q7 => ?_) ?_
      · refine WO.gno rfl rfl (WO.gno rfl rfl (WO.gno rfl rfl ?_))
        refine WO.pickT rfl rfl ?_
        refine WO.nil ?_
        exact ⟨rfl, rfl, (Cov.any rfl (orT q7) (Cov.skip rfl (Cov.skip rfl (Cov.skip rfl (Cov.skip rfl (Cov.skip rfl (Cov.refl _)))))))⟩
      · skip
        refine WO.gyes rfl rfl (WO.mv rfl (WO.gyes rfl rfl (WO.mv rfl (WO.gyes rfl rfl ?_))))
        refine WO.bin rfl rfl (by decide) (by decide) rfl ?_
        refine WO.pickF rfl rfl ?_
        refine WO.nil ?_
        exact ⟨rfl, rfl, (Cov.any rfl (orF q7) (Cov.skip rfl (Cov.skip rfl (Cov.skip rfl (Cov.skip rfl (Cov.skip rfl (Cov.refl _)))))))⟩
      refine WO.nil (thenL_n ?_)
      refine WC.cond rfl (fun q8 => ?_) (fun q8 => ?_)
      · have h := iteT q8 h
        refine WC.seq (WC.region (WO.asg rfl (WO.asg rfl (WO.nil (thenL_n (WC.ret (thenL_r ?_)))))))
        obtain rfl := someI h
        exact ⟨.inr rfl, _, _, rfl, rfl, rfl⟩
      · have h := iteF q8 h
        refine WC.skip (thenL_n (WC.seq (WC.region (WO.asg rfl (WO.nil (thenL_n (WC.seq (WC.block ?_))))))))
        obtain ⟨b19, e20, h⟩ := bindS h
        refine WC.loopD e20 (fun s9 l' m' n' => ∃ S10 : Cx n, S10.m = m' ∧ S10.n = n' ∧ Cov l' [(0, .sc vt0), (1, .sc (.int .i64 s9.1)), (8, .sc (.int .i64 s9.2))] ∧ Rd Y3 S10 vt0 t0) (fun b e l' m' n' => e = .exit 0 ∧ ∃ S11 : Cx n, S11.m = m' ∧ S11.n = n' ∧ Cov l' [(8, .sc (.int .i64 b))]) (by exact ⟨S3, rfl, rfl, (Cov.cons rfl (Cov.cons rfl (Cov.cons rfl (Cov.nil _)))), hot0⟩) ?_ ?_
        · clear h
          rintro s9 q _ _ _ ⟨S12, rfl, rfl, hc13, hot0⟩ h
          unfold F12_l0 at h
          refine WC.cov hc13 (WC.seq (WC.seq (WC.region (WO.mv rfl (WO.mv rfl (WO.mv rfl ?_))))))
          obtain ⟨x14, e15, h⟩ := bindS h
          refine WO.ixS rfl rfl hot0.slv (at?_lt e15) rfl ?_
          refine WO.ldF rfl hot0.ro (fun _ hi => hi) (at?_get e15) rfl rfl rfl ?_
          refine WO.bin rfl rfl (by decide) (by decide) rfl ?_
          refine WO.nil (thenL_n ?_)
          refine WC.cond rfl (fun q16 => ?_) (fun q16 => ?_)
          · have h := iteT q16 h
            refine WC.skip (thenL_n (WC.block (WC.seq (WC.region (WO.mv rfl (WO.mv rfl (WO.mv rfl ?_)))))))
            obtain ⟨x17, e18, h⟩ := bindS h
            refine WO.ixS rfl rfl hot0.slv (at?_lt e18) rfl ?_
            refine WO.ldF rfl hot0.ro (fun _ hi => hi) (at?_get e18) rfl rfl rfl ?_
            refine WO.bin rfl rfl (by decide) (by decide) rfl ?_
            refine WO.asg rfl (WO.nil (thenL_n (WC.region (WO.mv rfl ?_))))
            refine WO.bin rfl rfl (by decide) (by decide) rfl ?_
            refine WO.asg rfl (WO.nil (blockL_n (thenL_n ?_)))
            obtain rfl := someI h
            exact ⟨_, rfl, ⟨S12, rfl, rfl, (Cov.cons rfl (Cov.cons rfl (Cov.cons rfl (Cov.nil _)))), hot0⟩⟩
          · have h := iteF q16 h
            refine WC.exit (thenL_e (thenL_e ?_))
            obtain rfl := someI h
            exact ⟨_, rfl, rfl, ⟨S12, rfl, rfl, (Cov.cons rfl (Cov.nil _))⟩⟩
        rintro _ _ _ _ ⟨rfl, ⟨S21, rfl, rfl, hc22⟩⟩
        refine blockL_s (thenL_n (WC.cov hc22 (WC.seq (WC.region (WO.mv rfl (WO.asg rfl (WO.asg rfl (WO.nil (thenL_n ?_)))))))))
        refine WC.ret ?_
        obtain rfl := someI h
        exact ⟨.inr rfl, _, _, rfl, rfl, rfl⟩
end Go.Proofs.YtaphdnpjpmnaeabDoor

namespace Go.Proofs.YtaphdnpjpmnaeabDoor
open Go.Am
theorem F11.fn : E.fn 11 = some ⟨40, (Tryd.f11.body.getD .skip), Tryd.f11.results.toList, []⟩ := rfl
theorem F11_ok {F : Nat} {fl : Nat} {S0 : Cx fl} {r : ((List UInt8) × Int) × Int × ((List ((List UInt8) × Int × Int)) × (List ((List UInt8) × (List UInt8) × Int)))} {t0 : (List ((List UInt8) × Int × Int)) × (List ((List UInt8) × (List UInt8) × Int))} {t1 : Int} {t2 : Int} {bt0 : Nat} {vt0_0 : SV} {vt0_1 : SV} (h : F11 F t0 t1 t2 = some r) (hot0 : Bw S0 2 (.ptr bt0 0) [vt0_0, vt0_1]) (hot0_0 : Ow Y52 S0 3 vt0_0 t0.1) (hot0_1 : Ow Y82 S0 4 vt0_1 t0.2) : Ret E fl 11 [.sc (.ptr bt0 0), .sc (.int .i64 t1), .sc (.int .i64 t2)] S0.m S0.n (fun v m' n' => ∃ S' : Cx fl, S'.m = m' ∧ S'.n = n' ∧ ChM S0 S' ∧ (∃ w22 w23 : SV, v = .tup [.agg [.str r.1.1, .int .i64 r.1.2], .sc (.int .i64 r.2.1)] ∧ Bw S' 2 (.ptr bt0 0) [w22, w23] ∧ Ow Y52 S' 3 w22 r.2.2.1 ∧ Ow Y82 S' 4 w23 r.2.2.2)) := by
  unfold F11 at h
  refine Ret.walk F11.fn ?_
  have hM := ChM.refl S0
  refine WC.seq (WC.region ?_)
  refine WO.alS (A := Y34) (S := S0) (z0 := (([], 0) : (List UInt8) × Int)) 5 rfl rfl rfl (fun v1 S2 c3 ho4 => ?_)
  have hot0_0 := hot0_0.to c3
  have hot0_1 := hot0_1.to c3
  have hot0 := hot0.to c3
  have hM := hM.to c3
  refine WO.asg rfl (WO.nil (thenL_n (WC.seq (WC.seq (WC.region (WO.mv rfl ?_))))))
  refine WO.bin rfl rfl (by decide) (by decide) rfl ?_
  refine WO.nil (thenL_n ?_)
  refine WC.cond rfl (fun q5 => ?_) (fun q5 => ?_)
  · have h := iteT q5 h
    refine WC.seq (WC.region ?_)
    refine WO.do rfl rfl ?_
    refine WO.mv rfl ?_
    refine WO.stBA (u' := (([], 0) : (List UInt8) × Int)) rfl ho4.at0 rfl ho4 rfl rfl (fun S6 c7 ho4 => ?_)
    have hot0_0 := hot0_0.to c7
    have hot0_1 := hot0_1.to c7
    have hot0 := hot0.to c7
    have hM := hM.to c7
    refine WO.asg rfl (WO.nil (thenL_n (WC.ret (thenL_r ?_))))
    have hcell8 := ho4
    obtain rfl := someI h
    exact ⟨.inr rfl, _, _, (resK_b hcell8 (Cov.refl _) rfl rfl (resK_t (Cov.refl _) rfl rfl)), rfl, ⟨S6, rfl, rfl, hM, vt0_0, vt0_1, rfl, hot0, hot0_0, hot0_1⟩⟩
  · have h := iteF q5 h
    refine WC.skip (thenL_n (WC.seq (WC.region (WO.mv rfl ?_))))
    refine WO.nck rfl hot0.isp ?_
    refine WO.fldS (j := 0) (q := 0) rfl hot0.at0 hot0.ptr rfl rfl rfl (by decide) ?_
    refine WO.ldW rfl rfl hot0 rfl rfl hot0.lt rfl ?_
    refine WO.mv rfl ?_
    obtain ⟨x9, e10, h⟩ := bindS h
    refine WO.ixS rfl rfl hot0_0.slv (at?_lt e10) rfl ?_
    refine WO.fldS rfl rfl (SlV.ptr hot0_0.slv (at?_nat e10)) rfl rfl rfl (by decide) ?_
    refine WO.ldF rfl hot0_0.ro (fun _ hi => hi) (at?_get e10) rfl rfl rfl ?_
    refine WO.bin rfl rfl (by decide) (by decide) rfl ?_
    obtain ⟨x11, e12, h⟩ := bindS h
    refine WO.ixS rfl rfl hot0_0.slv (at?_lt e12) rfl ?_
    refine WO.fldS rfl rfl (SlV.ptr hot0_0.slv (at?_nat e12)) rfl rfl rfl (by decide) ?_
    refine WO.stF (q := 2) (u' := (x11.1, x11.2.1, (wrapA .i64 (x9.2.2 + 1)))) rfl rfl hot0_0 (at?_get e12) rfl (by decide) rfl rfl (fun S13 c14 hot0_0 => ?_)
    have hot0_1 := hot0_1.to c14
    have hot0 := hot0.to c14
    have hM := hM.to c14
    have ho4 := ho4.to c14
    refine WO.nil (thenL_n (WC.seq ?_))
    refine WC.drawN rfl rfl ?_
    have hot0_0z := hot0_0.oz
    have hot0_1z := hot0_1.oz
    have hot0z := hot0.lt
    have ho4z := ho4.lt
    refine WO.mv rfl ?_
    refine WO.nck rfl hot0.isp ?_
    refine WO.fldS (j := 0) (q := 0) rfl hot0.at0 hot0.ptr rfl rfl rfl (by decide) ?_
    refine WO.ldW rfl rfl hot0 rfl rfl hot0z (limLe_self _) ?_
    refine WO.mv rfl ?_
    obtain ⟨x15, e16, h⟩ := bindS h
    refine WO.ixS rfl rfl hot0_0.slv (at?_lt e16) rfl ?_
    refine WO.fldS rfl rfl (SlV.ptr hot0_0.slv (at?_nat e16)) rfl rfl rfl (by decide) ?_
    refine WO.ldF rfl hot0_0z (fun _ hi => hi.1) (at?_get e16) rfl rfl (limLe_self _) ?_
    refine WO.mv rfl ?_
    refine WO.nck rfl hot0.isp ?_
    refine WO.fldS (j := 0) (q := 0) rfl hot0.at0 hot0.ptr rfl rfl rfl (by decide) ?_
    refine WO.ldW rfl rfl hot0 rfl rfl hot0z (limLe_self _) ?_
    refine WO.mv rfl ?_
    obtain ⟨x17, e18, h⟩ := bindS h
    refine WO.ixS rfl rfl hot0_0.slv (at?_lt e18) rfl ?_
    refine WO.fldS rfl rfl (SlV.ptr hot0_0.slv (at?_nat e18)) rfl rfl rfl (by decide) ?_
    refine WO.ldF rfl hot0_0z (fun _ hi => hi.1) (at?_get e18) rfl rfl (limLe_self _) ?_
    refine WO.do rfl rfl ?_
    refine WO.stBA (u' := (x15.1, x17.2.2)) rfl ho4.at0 rfl ho4 rfl rfl (fun S19 c20 ho4 => ?_)
    have hot0_0z := hot0_0z.tow c20
    have hot0_1z := hot0_1z.tow c20
    have hot0_0 := hot0_0.to c20
    have hot0_1 := hot0_1.to c20
    have hot0 := hot0.to c20
    have hM := hM.to c20
    refine WO.asg rfl (WO.nil (thenL_n (WC.ret ?_)))
    have hcell21 := ho4
    obtain rfl := someI h
    exact ⟨.inr rfl, _, _, (resK_b hcell21 (Cov.refl _) rfl rfl (resK_t (Cov.refl _) rfl rfl)), rfl, ⟨S19, rfl, rfl, hM, vt0_0, vt0_1, rfl, hot0, hot0_0, hot0_1⟩⟩
end Go.Proofs.YtaphdnpjpmnaeabDoor

namespace Go.Proofs.YtaphdnpjpmnaeabDoor
open Go.Am
theorem F36.fn : E.fn 36 = some ⟨42, (Tryd.f36.body.getD .skip), Tryd.f36.results.toList, []⟩ := rfl
theorem F36_ok {F : Nat} {m : Mem} {n : Nat} {r : Int} {t0 : List Int} {t1 : List Int} {vt0 : SV} {vt1 : SV} (h : F36 F t0 t1 = some r) (kt0 : Vw Y3 n m vt0 t0) (kt1 : Vw Y3 n m vt1 t1) : Ret E n 36 [.sc vt0, .sc vt1] m n (fun v m' n' => v = .sc (.int .i64 r)) := by
  unfold F36 at h
  refine Ret.walk F36.fn ?_
  refine WC.start fun S0 em en hz => ?_
  have hot0 := kt0.rdS em hz
  have hot1 := kt1.rdS em hz
  refine WC.seq (WC.region (WO.asg rfl (WO.nil (thenL_n (WC.seq (WC.region (WO.asg rfl (WO.nil (thenL_n ?_)))))))))
  refine WC.seq (WC.seq (WC.region (WO.mv rfl ?_)))
  refine WO.lenS rfl hot0.slv rfl ?_
  refine WO.mv rfl (WO.nil (thenL_n (WC.block ?_)))
  obtain ⟨b22, e23, h⟩ := bindS h
  refine WC.loopD e23 (fun s1 l' m' n' => ∃ S2 : Cx n, S2.m = m' ∧ S2.n = n' ∧ Cov l' [(0, .sc vt0), (1, .sc vt1), (5, .sc (.int .i64 s1.1)), (8, .sc vt0), (9, .sc (.int .i64 ((t0.length : Int)))), (10, .sc (.int .i64 s1.2))] ∧ Rd Y3 S2 vt0 t0 ∧ Rd Y3 S2 vt1 t1) (fun b e l' m' n' => e = .exit 0 ∧ ∃ S3 : Cx n, S3.m = m' ∧ S3.n = n' ∧ Cov l' [(5, .sc (.int .i64 b))]) (by exact ⟨S0, rfl, rfl, (Cov.cons rfl (Cov.cons rfl (Cov.cons rfl (Cov.cons rfl (Cov.cons rfl (Cov.cons rfl (Cov.nil _))))))), hot0, hot1⟩) ?_ ?_
  · clear h
    rintro s1 q _ _ _ ⟨S4, rfl, rfl, hc5, hot0, hot1⟩ h
    unfold F36_l0 at h
    refine WC.cov hc5 (WC.seq (WC.region ?_))
    refine WO.bin rfl rfl (by decide) (by decide) rfl ?_
    refine WO.nil (thenL_n (WC.seq ?_))
    refine WC.cond rfl (fun q6 => ?_) (fun q6 => ?_)
    · have h := iteT q6 h
      refine WC.skip (thenL_n (WC.seq (WC.block (WC.seq (WC.region (WO.mv rfl ?_))))))
      obtain ⟨x7, e8, h⟩ := bindS h
      refine WO.ixS rfl rfl hot0.slv (at?_lt e8) rfl ?_
      refine WO.ldF rfl hot0.ro (fun _ hi => hi) (at?_get e8) rfl rfl rfl ?_
      refine WO.asg rfl (WO.asg rfl (WO.nil (thenL_n (WC.seq ?_))))
      refine WC.drawP rfl rfl ?_
      refine WO.mv rfl ?_
      refine WO.bin rfl rfl (by decide) (by decide) rfl ?_
      refine WO.mv rfl ?_
      obtain ⟨y19, e20, h⟩ := bindS h
      refine WO.cutB (d := 38) 21 y19 (fun q18 => ?_) (fun q18 => ?_) ?_
      · have h := e20
        have h := iteT q18 h
        refine WO.gyes rfl rfl (WO.mv rfl (WO.gyes rfl rfl ?_))
        refine WO.bin rfl rfl (by decide) (by decide) rfl ?_
        refine WO.gyes rfl rfl (WO.mv rfl ?_)
        obtain ⟨y16, e17, h⟩ := bindS h
        refine WO.cutB (d := 37) 17 y16 (fun q15 => ?_) (fun q15 => ?_) ?_
        · have h := e17
          have h := iteT q15 h
          obtain rfl := someI h
          refine WO.gno rfl rfl (WO.gno rfl rfl (WO.gno rfl rfl (WO.gno rfl rfl (WO.gno rfl rfl (WO.gno rfl rfl (WO.gno rfl rfl (WO.gno rfl rfl (WO.gno rfl rfl (WO.gno rfl rfl ?_)))))))))
          refine WO.gno rfl rfl (WO.gno rfl rfl (WO.gno rfl rfl (WO.gno rfl rfl (WO.gno rfl rfl (WO.gno rfl rfl (WO.gyes rfl rfl ?_))))))
          refine WO.pickT rfl rfl ?_
          refine WO.nil ?_
          exact ⟨rfl, rfl, (Cov.cons rfl (Cov.skip rfl (Cov.skip rfl (Cov.skip rfl (Cov.skip rfl (Cov.skip rfl (Cov.skip rfl (Cov.skip rfl (Cov.skip rfl (Cov.skip rfl (Cov.skip rfl (Cov.skip rfl (Cov.skip rfl (Cov.skip rfl (Cov.skip rfl (Cov.skip rfl (Cov.skip rfl (Cov.skip rfl (Cov.skip rfl (Cov.refl _))))))))))))))))))))⟩
        · have h := e17
          have h := iteF q15 h
          refine WO.gyes rfl rfl (WO.mv rfl (WO.gyes rfl rfl (WO.mv rfl (WO.gyes rfl rfl ?_))))
          obtain ⟨x9, e10, h⟩ := bindS h
          refine WO.ixS rfl rfl hot1.slv (at?_lt e10) rfl ?_
          refine WO.gyes rfl rfl ?_
          refine WO.ldF rfl hot1.ro (fun _ hi => hi) (at?_get e10) rfl rfl (limLe_self _) ?_
          refine WO.gyes rfl rfl (WO.mv rfl (WO.gyes rfl rfl (WO.mv rfl (WO.gyes rfl rfl ?_))))
          obtain ⟨x11, e12, h⟩ := bindS h
          refine WO.ixS rfl rfl hot0.slv (at?_lt e12) rfl ?_
          refine WO.gyes rfl rfl ?_
          refine WO.ldF rfl hot0.ro (fun _ hi => hi) (at?_get e12) rfl rfl (limLe_self _) ?_
          refine WO.gyes rfl rfl ?_
          refine WO.bin rfl rfl (by decide) (by decide) rfl ?_
          refine WO.gyes rfl rfl (WO.mv rfl (WO.gyes rfl rfl (WO.mv rfl (WO.gyes rfl rfl ?_))))
          obtain ⟨x13, e14, h⟩ := bindS h
          refine WO.ixS rfl rfl hot1.slv (at?_lt e14) rfl ?_
          refine WO.gyes rfl rfl ?_
          refine WO.ldF rfl hot1.ro (fun _ hi => hi) (at?_get e14) rfl rfl (limLe_self _) ?_
          refine WO.gyes rfl rfl (WO.mv rfl (WO.gyes rfl rfl ?_))
          refine WO.bin rfl rfl (by decide) (by decide) rfl ?_
          refine WO.gyes rfl rfl ?_
          refine WO.bin rfl rfl (by decide) (by decide) rfl ?_
          obtain rfl := someI h
          refine WO.gyes rfl rfl ?_
          refine WO.pickF rfl rfl ?_
          refine WO.nil ?_
          exact ⟨rfl, rfl, (Cov.cons rfl (Cov.skip rfl (Cov.skip rfl (Cov.skip rfl (Cov.skip rfl (Cov.skip rfl (Cov.skip rfl (Cov.skip rfl (Cov.skip rfl (Cov.skip rfl (Cov.skip rfl (Cov.skip rfl (Cov.skip rfl (Cov.skip rfl (Cov.skip rfl (Cov.skip rfl (Cov.skip rfl (Cov.skip rfl (Cov.skip rfl (Cov.refl _))))))))))))))))))))⟩
        obtain rfl := someI h
        refine WO.pickT rfl rfl ?_
        refine WO.nil ?_
        exact ⟨rfl, rfl, (Cov.cons rfl (Cov.skip rfl (Cov.skip rfl (Cov.skip rfl (Cov.skip rfl (Cov.skip rfl (Cov.refl _)))))))⟩
      · have h := e20
        have h := iteF q18 h
        obtain rfl := someI h
        refine WO.gno rfl rfl (WO.gno rfl rfl (WO.gno rfl rfl (WO.gskip rfl rfl (WO.gskip rfl rfl (WO.gskip rfl rfl (WO.gskip rfl rfl (WO.gskip rfl rfl (WO.gskip rfl rfl (WO.gskip rfl rfl ?_)))))))))
        refine WO.gskip rfl rfl (WO.gskip rfl rfl (WO.gskip rfl rfl (WO.gskip rfl rfl (WO.gskip rfl rfl (WO.gskip rfl rfl (WO.gskip rfl rfl (WO.gskip rfl rfl (WO.gskip rfl rfl (WO.gno rfl rfl ?_)))))))))
        refine WO.pickF rfl rfl ?_
        refine WO.nil ?_
        exact ⟨rfl, rfl, (Cov.cons rfl (Cov.skip rfl (Cov.skip rfl (Cov.skip rfl (Cov.skip rfl (Cov.skip rfl (Cov.skip rfl (Cov.skip rfl (Cov.skip rfl (Cov.skip rfl (Cov.skip rfl (Cov.skip rfl (Cov.skip rfl (Cov.skip rfl (Cov.skip rfl (Cov.skip rfl (Cov.skip rfl (Cov.skip rfl (Cov.skip rfl (Cov.skip rfl (Cov.skip rfl (Cov.skip rfl (Cov.skip rfl (Cov.refl _))))))))))))))))))))))))⟩
      refine WO.nil (thenL_n ?_)
      refine WC.cond rfl (fun q21 => ?_) (fun q21 => ?_)
      · have h := iteT q21 h
        refine WC.region (WO.mv rfl (WO.asg rfl (WO.nil (blockL_n (thenL_n (WC.region ?_))))))
        refine WO.bin rfl rfl (by decide) (by decide) rfl ?_
        refine WO.mv rfl (WO.nil (thenL_n ?_))
        obtain rfl := someI h
        exact ⟨_, rfl, ⟨S4, rfl, rfl, (Cov.cons rfl (Cov.cons rfl (Cov.cons rfl (Cov.cons rfl (Cov.cons rfl (Cov.cons rfl (Cov.nil _))))))), hot0, hot1⟩⟩
      · have h := iteF q21 h
        refine WC.skip (blockL_n (thenL_n (WC.region ?_)))
        refine WO.bin rfl rfl (by decide) (by decide) rfl ?_
        refine WO.mv rfl (WO.nil (thenL_n ?_))
        obtain rfl := someI h
        exact ⟨_, rfl, ⟨S4, rfl, rfl, (Cov.cons rfl (Cov.cons rfl (Cov.cons rfl (Cov.cons rfl (Cov.cons rfl (Cov.cons rfl (Cov.nil _))))))), hot0, hot1⟩⟩
    · have h := iteF q6 h
      refine WC.exit (thenL_e (thenL_e ?_))
      obtain rfl := someI h
      exact ⟨_, rfl, rfl, ⟨S4, rfl, rfl, (Cov.cons rfl (Cov.nil _))⟩⟩
  rintro _ _ _ _ ⟨rfl, ⟨S24, rfl, rfl, hc25⟩⟩
  refine blockL_s (thenL_n (WC.cov hc25 (WC.seq (WC.region (WO.mv rfl (WO.asg rfl (WO.nil (thenL_n (WC.ret ?_)))))))))
  obtain rfl := someI h
  exact ⟨.inr rfl, _, _, rfl, rfl, rfl⟩
end Go.Proofs.YtaphdnpjpmnaeabDoor

namespace Go.Proofs.YtaphdnpjpmnaeabDoor
open Go.Am
theorem F14.fn : E.fn 14 = some ⟨39, (Tryd.f14.body.getD .skip), Tryd.f14.results.toList, []⟩ := rfl
theorem F14_ok {F : Nat} {m : Mem} {n : Nat} {r : Int × Int} {t0 : List Int} {t1 : List Int} {vt0 : SV} {vt1 : SV} (h : F14 F t0 t1 = some r) (kt0 : Vw Y3 n m vt0 t0) (kt1 : Vw Y3 n m vt1 t1) : Ret E n 14 [.sc vt0, .sc vt1] m n (fun v m' n' => v = .tup [.sc (.int .i64 r.1), .sc (.int .i64 r.2)]) := by
  unfold F14 at h
  refine Ret.walk F14.fn ?_
  refine WC.start fun S0 em en hz => ?_
  have hot0 := kt0.rdS em hz
  have hot1 := kt1.rdS em hz
  refine WC.seq (WC.region (WO.asg rfl (WO.asg rfl (WO.nil (thenL_n (WC.seq (WC.seq (WC.region (WO.mv rfl ?_)))))))))
  obtain ⟨r1, e2, h⟩ := bindS h
  refine WO.callE (S := S0) rfl rfl (F35_ok e2 hot0.vw) (fun S3 c4 => ?_)
  have hot0 := hot0.to c4
  have hot1 := hot1.to c4
  refine WO.asg rfl (WO.nil (thenL_n (WC.seq (WC.region (WO.mv rfl ?_)))))
  refine WO.bin rfl rfl (by decide) (by decide) rfl ?_
  refine WO.nil (thenL_n ?_)
  refine WC.cond rfl (fun q5 => ?_) (fun q5 => ?_)
  · have h := iteT q5 h
    refine WC.seq (WC.region (WO.mv rfl (WO.asg rfl (WO.asg rfl (WO.nil (thenL_n (WC.ret (thenL_r ?_))))))))
    obtain rfl := someI h
    exact ⟨.inr rfl, _, _, rfl, rfl, rfl⟩
  · have h := iteF q5 h
    refine WC.skip (thenL_n (WC.seq (WC.seq (WC.region (WO.mv rfl ?_)))))
    refine WO.lenS rfl hot1.slv rfl ?_
    refine WO.mv rfl ?_
    refine WO.lenS rfl hot0.slv rfl ?_
    refine WO.bin rfl rfl (by decide) (by decide) rfl ?_
    refine WO.nil (thenL_n ?_)
    refine WC.cond rfl (fun q6 => ?_) (fun q6 => ?_)
    · have h := iteT q6 h
      refine WC.seq (WC.region (WO.asg rfl (WO.asg rfl (WO.nil (thenL_n (WC.ret (thenL_r ?_)))))))
      obtain rfl := someI h
      exact ⟨.inr rfl, _, _, rfl, rfl, rfl⟩
    · have h := iteF q6 h
      refine WC.skip (thenL_n (WC.seq (WC.seq (WC.region (WO.mv rfl ?_)))))
      refine WO.lenS rfl hot1.slv rfl ?_
      refine WO.mv rfl (WO.nil (thenL_n (WC.block ?_)))
      obtain ⟨b19, e20, h⟩ := bindS h
      refine WC.loopD e20 (fun s7 l' m' n' => ∃ S8 : Cx n, S8.m = m' ∧ S8.n = n' ∧ Cov l' [(0, .sc vt0), (1, .sc vt1), (20, .sc vt1), (21, .sc (.int .i64 ((t1.length : Int)))), (22, .sc (.int .i64 s7))] ∧ Rd Y3 S8 vt0 t0 ∧ Rd Y3 S8 vt1 t1) (fun b e l' m' n' => (match b with | .inl b9 => e = .exit 0 ∧ ∃ S10 : Cx n, S10.m = m' ∧ S10.n = n' ∧ Cov l' [(0, .sc vt0), (1, .sc vt1)] ∧ Rd Y3 S10 vt0 t0 ∧ Rd Y3 S10 vt1 t1 | .inr b9 => e = .ret ∧ ∃ S11 : Cx n, S11.m = m' ∧ S11.n = n' ∧ Cov l' [(4, .sc (.int .i64 b9.1)), (5, .sc (.int .i64 b9.2))])) (by exact ⟨S3, rfl, rfl, (Cov.cons rfl (Cov.cons rfl (Cov.cons rfl (Cov.cons rfl (Cov.cons rfl (Cov.nil _)))))), hot0, hot1⟩) ?_ ?_
      · clear h
        rintro s7 q _ _ _ ⟨S12, rfl, rfl, hc13, hot0, hot1⟩ h
        unfold F14_l0 at h
        refine WC.cov hc13 (WC.seq (WC.region ?_))
        refine WO.bin rfl rfl (by decide) (by decide) rfl ?_
        refine WO.nil (thenL_n (WC.seq ?_))
        refine WC.cond rfl (fun q14 => ?_) (fun q14 => ?_)
        · have h := iteT q14 h
          refine WC.skip (thenL_n (WC.seq (WC.block (WC.seq (WC.region ?_)))))
          obtain ⟨x15, e16, h⟩ := bindS h
          refine WO.ixS rfl rfl hot1.slv (at?_lt e16) rfl ?_
          refine WO.ldF rfl hot1.ro (fun _ hi => hi) (at?_get e16) rfl rfl rfl ?_
          refine WO.asg rfl (WO.nil (thenL_n (WC.seq (WC.region (WO.mv rfl ?_)))))
          refine WO.bin rfl rfl (by decide) (by decide) rfl ?_
          refine WO.mv rfl ?_
          refine WO.cutB (d := 31) 3 ((decide (x15 < 0)) || (decide (x15 > 1000000000))) (fun q17 => ?_) (fun q17 => ?_) ?_
          · refine WO.gno rfl rfl (WO.gno rfl rfl ?_)
            refine WO.pickT rfl rfl ?_
            refine WO.nil ?_
            exact ⟨rfl, rfl, (Cov.any rfl (orT q17) (Cov.skip rfl (Cov.skip rfl (Cov.skip rfl (Cov.skip rfl (Cov.refl _))))))⟩
          · skip
            refine WO.gyes rfl rfl (WO.mv rfl (WO.gyes rfl rfl ?_))
            refine WO.bin rfl rfl (by decide) (by decide) rfl ?_
            refine WO.pickF rfl rfl ?_
            refine WO.nil ?_
            exact ⟨rfl, rfl, (Cov.any rfl (orF q17) (Cov.skip rfl (Cov.skip rfl (Cov.skip rfl (Cov.skip rfl (Cov.refl _))))))⟩
          refine WO.nil (thenL_n ?_)
          refine WC.cond rfl (fun q18 => ?_) (fun q18 => ?_)
          · have h := iteT q18 h
            refine WC.seq (WC.region (WO.asg rfl (WO.asg rfl (WO.nil (thenL_n (WC.ret (blockL_r (thenL_r (thenL_r ?_)))))))))
            obtain rfl := someI h
            exact ⟨_, rfl, rfl, ⟨S12, rfl, rfl, (Cov.cons rfl (Cov.cons rfl (Cov.nil _)))⟩⟩
          · have h := iteF q18 h
            refine WC.skip (blockL_n (thenL_n (WC.region ?_)))
            refine WO.bin rfl rfl (by decide) (by decide) rfl ?_
            refine WO.mv rfl (WO.nil (thenL_n ?_))
            obtain rfl := someI h
            exact ⟨_, rfl, ⟨S12, rfl, rfl, (Cov.cons rfl (Cov.cons rfl (Cov.cons rfl (Cov.cons rfl (Cov.cons rfl (Cov.nil _)))))), hot0, hot1⟩⟩
        · have h := iteF q14 h
          refine WC.exit (thenL_e (thenL_e ?_))
          obtain rfl := someI h
          exact ⟨_, rfl, rfl, ⟨S12, rfl, rfl, (Cov.cons rfl (Cov.cons rfl (Cov.nil _))), hot0, hot1⟩⟩
      cases b19 with
      | inl b21 =>
        simp only at h
        rintro _ _ _ _ ⟨rfl, ⟨S22, rfl, rfl, hc23, hot0, hot1⟩⟩
        refine blockL_s (thenL_n (WC.cov hc23 (WC.seq (WC.region (WO.mv rfl (WO.mv rfl ?_))))))
        obtain ⟨r24, e25, h⟩ := bindS h
        refine WO.callE (S := S22) rfl rfl (F36_ok e25 hot0.vw hot1.vw) (fun S26 c27 => ?_)
        have hot0 := hot0.to c27
        have hot1 := hot1.to c27
        refine WO.asg rfl (WO.nil (thenL_n (WC.seq (WC.seq (WC.region (WO.mv rfl ?_))))))
        refine WO.bin rfl rfl (by decide) (by decide) rfl ?_
        refine WO.nil (thenL_n ?_)
        refine WC.cond rfl (fun q28 => ?_) (fun q28 => ?_)
        · have h := iteT q28 h
          refine WC.seq (WC.region (WO.asg rfl (WO.asg rfl (WO.nil (thenL_n (WC.ret (thenL_r ?_)))))))
          obtain rfl := someI h
          exact ⟨.inr rfl, _, _, rfl, rfl, rfl⟩
        · have h := iteF q28 h
          refine WC.skip (thenL_n (WC.seq (WC.region (WO.mv rfl (WO.asg rfl (WO.asg rfl (WO.nil (thenL_n (WC.ret ?_)))))))))
          obtain rfl := someI h
          exact ⟨.inr rfl, _, _, rfl, rfl, rfl⟩
      | inr b21 =>
        simp only at h
        rintro _ _ _ _ ⟨rfl, ⟨S29, rfl, rfl, hc30⟩⟩
        refine blockL_r (thenL_r ?_)
        obtain rfl := someI h
        exact ⟨.inr rfl, _, _, (resK_cov hc30 rfl), rfl, rfl⟩
end Go.Proofs.YtaphdnpjpmnaeabDoor

namespace Go.Proofs.YtaphdnpjpmnaeabDoor
open Go.Am
theorem F15.fn : E.fn 15 = some ⟨27, (Tryd.f15.body.getD .skip), Tryd.f15.results.toList, []⟩ := rfl
theorem F15_ok {F : Nat} {m : Mem} {n : Nat} {r : Bool} {t0 : List UInt8} (h : F15 F t0 = some r)  : Ret E n 15 [.sc (.str t0)] m n (fun v m' n' => v = .sc (.bool r)) := by
  unfold F15 at h
  refine Ret.walk F15.fn ?_
  refine WC.start fun S0 em en hz => ?_
  refine WC.seq (WC.region (WO.asg rfl (WO.nil (thenL_n (WC.seq (WC.seq (WC.region (WO.mv rfl ?_))))))))
  obtain ⟨L1, e2, h⟩ := bindS h
  refine WO.cvB (S := S0) 2 rfl e2 rfl rfl rfl rfl rfl rfl rfl rfl rfl (fun v3 S4 c5 ho6 => ?_)
  refine WO.lenS rfl ho6.slv rfl ?_
  refine WO.mv rfl (WO.nil (thenL_n (WC.block ?_)))
  obtain ⟨b19, e20, h⟩ := bindS h
  refine WC.loopD e20 (fun s7 l' m' n' => ∃ S8 : Cx n, S8.m = m' ∧ S8.n = n' ∧ Cov l' [(0, .sc (.str t0)), (6, .sc v3), (7, .sc (.int .i64 ((L1.length : Int)))), (8, .sc (.int .i64 s7))] ∧ Ow Y5 S8 2 v3 L1) (fun b e l' m' n' => (match b with | .inl b9 => e = .exit 0 ∧ ∃ S10 : Cx n, S10.m = m' ∧ S10.n = n' ∧ Cov l' [(0, .sc (.str t0))] | .inr b9 => e = .ret ∧ ∃ S11 : Cx n, S11.m = m' ∧ S11.n = n' ∧ Cov l' [(2, .sc (.bool b9))])) (by exact ⟨S4, rfl, rfl, (Cov.cons rfl (Cov.cons rfl (Cov.cons rfl (Cov.cons rfl (Cov.nil _))))), ho6⟩) ?_ ?_
  · clear h
    rintro s7 q _ _ _ ⟨S12, rfl, rfl, hc13, ho6⟩ h
    unfold F15_l0 at h
    refine WC.cov hc13 (WC.seq (WC.region ?_))
    refine WO.bin rfl rfl (by decide) (by decide) rfl ?_
    refine WO.nil (thenL_n (WC.seq ?_))
    refine WC.cond rfl (fun q14 => ?_) (fun q14 => ?_)
    · have h := iteT q14 h
      refine WC.skip (thenL_n (WC.seq (WC.block (WC.seq (WC.region ?_)))))
      obtain ⟨x15, e16, h⟩ := bindS h
      refine WO.ixS rfl rfl ho6.slv (at?_lt e16) rfl ?_
      refine WO.ldF rfl ho6.ro (fun _ hi => hi) (at?_get e16) rfl rfl rfl ?_
      refine WO.asg rfl (WO.nil (thenL_n (WC.seq (WC.region (WO.mv rfl ?_)))))
      refine WO.bin rfl rfl (by decide) (by decide) rfl ?_
      refine WO.mv rfl ?_
      refine WO.cutB (d := 17) 3 ((decide (x15 < 97)) || (decide (x15 > 122))) (fun q17 => ?_) (fun q17 => ?_) ?_
      · refine WO.gno rfl rfl (WO.gno rfl rfl ?_)
        refine WO.pickT rfl rfl ?_
        refine WO.nil ?_
        exact ⟨rfl, rfl, (Cov.any rfl (orT q17) (Cov.skip rfl (Cov.skip rfl (Cov.skip rfl (Cov.skip rfl (Cov.refl _))))))⟩
      · skip
        refine WO.gyes rfl rfl (WO.mv rfl (WO.gyes rfl rfl ?_))
        refine WO.bin rfl rfl (by decide) (by decide) rfl ?_
        refine WO.pickF rfl rfl ?_
        refine WO.nil ?_
        exact ⟨rfl, rfl, (Cov.any rfl (orF q17) (Cov.skip rfl (Cov.skip rfl (Cov.skip rfl (Cov.skip rfl (Cov.refl _))))))⟩
      refine WO.nil (thenL_n ?_)
      refine WC.cond rfl (fun q18 => ?_) (fun q18 => ?_)
      · have h := iteT q18 h
        refine WC.seq (WC.region (WO.asg rfl (WO.nil (thenL_n (WC.ret (blockL_r (thenL_r (thenL_r ?_))))))))
        obtain rfl := someI h
        exact ⟨_, rfl, rfl, ⟨S12, rfl, rfl, (Cov.cons rfl (Cov.nil _))⟩⟩
      · have h := iteF q18 h
        refine WC.skip (blockL_n (thenL_n (WC.region ?_)))
        refine WO.bin rfl rfl (by decide) (by decide) rfl ?_
        refine WO.mv rfl (WO.nil (thenL_n ?_))
        obtain rfl := someI h
        exact ⟨_, rfl, ⟨S12, rfl, rfl, (Cov.cons rfl (Cov.cons rfl (Cov.cons rfl (Cov.cons rfl (Cov.nil _))))), ho6⟩⟩
    · have h := iteF q14 h
      refine WC.exit (thenL_e (thenL_e ?_))
      obtain rfl := someI h
      exact ⟨_, rfl, rfl, ⟨S12, rfl, rfl, (Cov.cons rfl (Cov.nil _))⟩⟩
  cases b19 with
  | inl b21 =>
    simp only at h
    rintro _ _ _ _ ⟨rfl, ⟨S22, rfl, rfl, hc23⟩⟩
    refine blockL_s (thenL_n (WC.cov hc23 (WC.seq (WC.region (WO.mv rfl ?_)))))
    refine WO.lenT rfl rfl rfl ?_
    refine WO.bin rfl rfl (by decide) (by decide) rfl ?_
    refine WO.mv rfl ?_
    refine WO.cutB (d := 26) 4 ((decide ((t0.length : Int) > 0)) && (decide ((t0.length : Int) ≤ 12))) (fun q24 => ?_) (fun q24 => ?_) ?_
    · skip
      refine WO.gyes rfl rfl (WO.mv rfl (WO.gyes rfl rfl ?_))
      refine WO.lenT rfl rfl rfl ?_
      refine WO.gyes rfl rfl ?_
      refine WO.bin rfl rfl (by decide) (by decide) rfl ?_
      refine WO.pickT rfl rfl ?_
      refine WO.nil ?_
      exact ⟨rfl, rfl, (Cov.any rfl (andT q24) (Cov.skip rfl (Cov.skip rfl (Cov.skip rfl (Cov.skip rfl (Cov.skip rfl (Cov.refl _)))))))⟩
    · refine WO.gno rfl rfl (WO.gno rfl rfl (WO.gno rfl rfl ?_))
      refine WO.pickF rfl rfl ?_
      refine WO.nil ?_
      exact ⟨rfl, rfl, (Cov.any rfl (andF q24) (Cov.skip rfl (Cov.skip rfl (Cov.skip rfl (Cov.skip rfl (Cov.skip rfl (Cov.refl _)))))))⟩
    refine WO.asg rfl (WO.nil (thenL_n (WC.ret ?_)))
    obtain rfl := someI h
    exact ⟨.inr rfl, _, _, rfl, rfl, rfl⟩
  | inr b21 =>
    simp only at h
    rintro _ _ _ _ ⟨rfl, ⟨S25, rfl, rfl, hc26⟩⟩
    refine blockL_r (thenL_r ?_)
    obtain rfl := someI h
    exact ⟨.inr rfl, _, _, (resK_cov hc26 rfl), rfl, rfl⟩
end Go.Proofs.YtaphdnpjpmnaeabDoor

namespace Go.Proofs.YtaphdnpjpmnaeabDoor
open Go.Am
theorem F38.fn : E.fn 38 = some ⟨8, (Tryd.f38.body.getD .skip), Tryd.f38.results.toList, []⟩ := rfl
theorem F38_ok {F : Nat} {m : Mem} {n : Nat} {r : Bool} {t0 : (List UInt8) × Int × Int} {c0 : List UInt8} {bc0 : Nat} (h : F38 F t0 c0 = some r) (kc0 : Pv Y9 n m bc0 c0) : Ret E n 38 [.agg [.str t0.1, .int .i64 t0.2.1, .int .i64 t0.2.2], .sc (.ptr bc0 0)] m n (fun v m' n' => v = .sc (.bool r)) := by
  unfold F38 at h
  refine Ret.walk F38.fn ?_
  refine WC.start fun S0 em en hz => ?_
  have hoc0 := kc0.rpS em hz
  refine WC.seq (WC.region ?_)
  refine WO.bxS (A := Y52) (S := S0) (u := (t0.1, t0.2.1, t0.2.2)) 2 rfl rfl rfl rfl (fun v1 S2 c3 ho4 => ?_)
  have hoc0 := hoc0.to c3
  refine WO.asg rfl (WO.nil (thenL_n (WC.seq (WC.region ?_))))
  refine WO.fldS (j := 0) (q := 0) rfl ho4.at0 ho4.ptr rfl rfl rfl (by decide) ?_
  refine WO.ldB (j := 0) (q := 0) rfl rfl ho4 rfl rfl rfl ?_
  refine WO.ldP rfl hoc0 rfl rfl rfl ?_
  refine WO.do rfl rfl ?_
  refine WO.asg rfl (WO.nil (thenL_n (WC.ret ?_)))
  obtain rfl := someI h
  exact ⟨.inr rfl, _, _, rfl, rfl, rfl⟩
end Go.Proofs.YtaphdnpjpmnaeabDoor

namespace Go.Proofs.YtaphdnpjpmnaeabDoor
open Go.Am
theorem F37_38.fn : E.fn 37 = some ⟨19, (Tryd.f37.body.getD .skip), Tryd.f37.results.toList, []⟩ := rfl
theorem F37_38_ok {F : Nat} {m : Mem} {n : Nat} {r : Int} {t0 : List ((List UInt8) × Int × Int)} {t1c0 : List UInt8} {vt0 : SV} {bt1c0 : Nat} (h : F37_38 F t0 t1c0 = some r) (kt0 : Vw Y52 n m vt0 t0) (kt1c0 : Pv Y9 n m bt1c0 t1c0) : Ret E n 37 [.sc vt0, .sc (.fn 38 [(bt1c0, 0)])] m n (fun v m' n' => v = .sc (.int .i64 r)) := by
  unfold F37_38 at h
  refine Ret.walk F37_38.fn ?_
  refine WC.start fun S0 em en hz => ?_
  have hot0 := kt0.rdS em hz
  have hot1c0 := kt1c0.rpS em hz
  refine WC.seq (WC.region (WO.asg rfl (WO.nil (thenL_n (WC.seq (WC.seq (WC.region (WO.mv rfl ?_))))))))
  refine WO.lenS rfl hot0.slv rfl ?_
  refine WO.mv rfl (WO.nil (thenL_n (WC.block ?_)))
  obtain ⟨b16, e17, h⟩ := bindS h
  refine WC.loopD e17 (fun s1 l' m' n' => ∃ S2 : Cx n, S2.m = m' ∧ S2.n = n' ∧ Cov l' [(0, .sc vt0), (1, .sc (.fn 38 [(bt1c0, 0)])), (7, .sc (.int .i64 ((t0.length : Int)))), (8, .sc (.int .i64 s1))] ∧ Rd Y52 S2 vt0 t0 ∧ Rp Y9 S2 (.ptr bt1c0 0) t1c0) (fun b e l' m' n' => (match b with | .inl b3 => e = .exit 0 ∧ ∃ S4 : Cx n, S4.m = m' ∧ S4.n = n' ∧ Cov l' [] | .inr b3 => e = .ret ∧ ∃ S5 : Cx n, S5.m = m' ∧ S5.n = n' ∧ Cov l' [(4, .sc (.int .i64 b3))])) (by exact ⟨S0, rfl, rfl, (Cov.cons rfl (Cov.cons rfl (Cov.cons rfl (Cov.cons rfl (Cov.nil _))))), hot0, hot1c0⟩) ?_ ?_
  · clear h
    rintro s1 q _ _ _ ⟨S6, rfl, rfl, hc7, hot0, hot1c0⟩ h
    unfold F37_38_l0 at h
    refine WC.cov hc7 (WC.seq (WC.region ?_))
    refine WO.bin rfl rfl (by decide) (by decide) rfl ?_
    refine WO.nil (thenL_n (WC.seq ?_))
    refine WC.cond rfl (fun q8 => ?_) (fun q8 => ?_)
    · have h := iteT q8 h
      refine WC.skip (thenL_n (WC.seq (WC.block (WC.seq (WC.region (WO.mv rfl (WO.asg rfl (WO.nil (thenL_n ?_)))))))))
      refine WC.seq (WC.region (WO.mv rfl (WO.mv rfl (WO.mv rfl ?_))))
      obtain ⟨x9, e10, h⟩ := bindS h
      refine WO.ixS rfl rfl hot0.slv (at?_lt e10) rfl ?_
      refine WO.ldA rfl hot0.ro (fun _ hi => hi) (at?_get e10) rfl rfl ?_
      obtain ⟨r11, e12, h⟩ := bindS h
      refine WO.callE (S := S6) rfl rfl (F38_ok e12 hot1c0.pv) (fun S13 c14 => ?_)
      have hot0 := hot0.to c14
      have hot1c0 := hot1c0.to c14
      refine WO.nil (thenL_n ?_)
      refine WC.cond rfl (fun q15 => ?_) (fun q15 => ?_)
      · have h := iteT q15 h
        refine WC.seq (WC.region (WO.mv rfl (WO.asg rfl (WO.nil (thenL_n (WC.ret (blockL_r (thenL_r (thenL_r ?_)))))))))
        obtain rfl := someI h
        exact ⟨_, rfl, rfl, ⟨S13, rfl, rfl, (Cov.cons rfl (Cov.nil _))⟩⟩
      · have h := iteF q15 h
        refine WC.skip (blockL_n (thenL_n (WC.region ?_)))
        refine WO.bin rfl rfl (by decide) (by decide) rfl ?_
        refine WO.mv rfl (WO.nil (thenL_n ?_))
        obtain rfl := someI h
        exact ⟨_, rfl, ⟨S13, rfl, rfl, (Cov.cons rfl (Cov.cons rfl (Cov.cons rfl (Cov.cons rfl (Cov.nil _))))), hot0, hot1c0⟩⟩
    · have h := iteF q8 h
      refine WC.exit (thenL_e (thenL_e ?_))
      obtain rfl := someI h
      exact ⟨_, rfl, rfl, ⟨S6, rfl, rfl, (Cov.nil _)⟩⟩
  cases b16 with
  | inl b18 =>
    simp only at h
    rintro _ _ _ _ ⟨rfl, ⟨S19, rfl, rfl, hc20⟩⟩
    refine blockL_s (thenL_n (WC.cov hc20 (WC.seq (WC.region (WO.asg rfl (WO.nil (thenL_n (WC.ret ?_))))))))
    obtain rfl := someI h
    exact ⟨.inr rfl, _, _, rfl, rfl, rfl⟩
  | inr b18 =>
    simp only at h
    rintro _ _ _ _ ⟨rfl, ⟨S21, rfl, rfl, hc22⟩⟩
    refine blockL_r (thenL_r ?_)
    obtain rfl := someI h
    exact ⟨.inr rfl, _, _, (resK_cov hc22 rfl), rfl, rfl⟩
end Go.Proofs.YtaphdnpjpmnaeabDoor

namespace Go.Proofs.YtaphdnpjpmnaeabDoor
open Go.Am
theorem F16.fn : E.fn 16 = some ⟨11, (Tryd.f16.body.getD .skip), Tryd.f16.results.toList, []⟩ := rfl
theorem F16_ok {F : Nat} {m : Mem} {n : Nat} {r : Int} {t0 : (List ((List UInt8) × Int × Int)) × (List ((List UInt8) × (List UInt8) × Int))} {t1 : List UInt8} {bt0 : Nat} {vt0_0 : SV} {vt0_1 : SV} (h : F16 F t0 t1 = some r) (kt0 : Pw n m (.ptr bt0 0) [vt0_0, vt0_1]) (kt0_0 : Vw Y52 n m vt0_0 t0.1) (kt0_1 : Vw Y82 n m vt0_1 t0.2) : Ret E n 16 [.sc (.ptr bt0 0), .sc (.str t1)] m n (fun v m' n' => v = .sc (.int .i64 r)) := by
  unfold F16 at h
  refine Ret.walk F16.fn ?_
  refine WC.start fun S0 em en hz => ?_
  have hot0_0 := kt0_0.rdS em hz
  have hot0_1 := kt0_1.rdS em hz
  have hot0 := kt0.rwS em hz
  refine WC.seq (WC.region ?_)
  refine WO.bxS (A := Y9) (S := S0) (u := t1) 2 rfl rfl rfl rfl (fun v1 S2 c3 ho4 => ?_)
  have hot0_0 := hot0_0.to c3
  have hot0_1 := hot0_1.to c3
  have hot0 := hot0.to c3
  refine WO.asg rfl (WO.nil (thenL_n (WC.seq (WC.region (WO.mv rfl ?_)))))
  refine WO.nck rfl hot0.isp ?_
  refine WO.fldS (j := 0) (q := 0) rfl hot0.at0 hot0.ptr rfl rfl rfl (by decide) ?_
  refine WO.ldRw rfl rfl hot0 rfl rfl hot0.lt rfl ?_
  obtain ⟨b5, rfl⟩ := ho4.isp
  refine WO.do rfl rfl ?_
  obtain ⟨r6, e7, h⟩ := bindS h
  refine WO.callE (S := S2) rfl rfl (F37_38_ok e7 hot0_0.vw ho4.pv) (fun S8 c9 => ?_)
  have hot0_0 := hot0_0.to c9
  have hot0_1 := hot0_1.to c9
  have hot0 := hot0.to c9
  have ho4 := ho4.to c9
  refine WO.asg rfl (WO.nil (thenL_n (WC.ret ?_)))
  obtain rfl := someI h
  exact ⟨.inr rfl, _, _, rfl, rfl, rfl⟩
end Go.Proofs.YtaphdnpjpmnaeabDoor

namespace Go.Proofs.YtaphdnpjpmnaeabDoor
open Go.Am
theorem F17.fn : E.fn 17 = some ⟨37, (Tryd.f17.body.getD .skip), Tryd.f17.results.toList, []⟩ := rfl
theorem F17_ok {F : Nat} {fl : Nat} {S0 : Cx fl} {r : Int × ((List ((List UInt8) × Int × Int)) × (List ((List UInt8) × (List UInt8) × Int)))} {t0 : (List ((List UInt8) × Int × Int)) × (List ((List UInt8) × (List UInt8) × Int))} {t1 : Int} {t2 : Int × Int × (List UInt8) × (List UInt8)} {bt0 : Nat} {vt0_0 : SV} {vt0_1 : SV} (h : F17 F t0 t1 t2 = some r) (hot0 : Bw S0 2 (.ptr bt0 0) [vt0_0, vt0_1]) (hot0_0 : Ow Y52 S0 3 vt0_0 t0.1) (hot0_1 : Ow Y82 S0 4 vt0_1 t0.2) : Ret E fl 17 [.sc (.ptr bt0 0), .sc (.int .i64 t1), .agg [.int .i64 t2.1, .int .i64 t2.2.1, .str t2.2.2.1, .str t2.2.2.2]] S0.m S0.n (fun v m' n' => ∃ S' : Cx fl, S'.m = m' ∧ S'.n = n' ∧ ChM S0 S' ∧ (∃ w21 w22 : SV, v = .sc (.int .i64 r.1) ∧ Bw S' 2 (.ptr bt0 0) [w21, w22] ∧ Ow Y52 S' 3 w21 r.2.1 ∧ Ow Y82 S' 4 w22 r.2.2)) := by
  unfold F17 at h
  refine Ret.walk F17.fn ?_
  have hM := ChM.refl S0
  refine WC.seq (WC.region ?_)
  refine WO.bxS (A := Y32) (S := S0) (u := (t2.1, t2.2.1, t2.2.2.1, t2.2.2.2)) 5 rfl rfl rfl rfl (fun v1 S2 c3 ho4 => ?_)
  have hot0_0 := hot0_0.to c3
  have hot0_1 := hot0_1.to c3
  have hot0 := hot0.to c3
  have hM := hM.to c3
  refine WO.asg rfl (WO.nil (thenL_n (WC.seq (WC.seq (WC.region (WO.mv rfl ?_))))))
  refine WO.bin rfl rfl (by decide) (by decide) rfl ?_
  refine WO.nil (thenL_n ?_)
  refine WC.cond rfl (fun q5 => ?_) (fun q5 => ?_)
  · have h := iteT q5 h
    refine WC.seq (WC.region (WO.asg rfl (WO.nil (thenL_n (WC.ret (thenL_r ?_))))))
    obtain rfl := someI h
    exact ⟨.inr rfl, _, _, rfl, rfl, ⟨S2, rfl, rfl, hM, vt0_0, vt0_1, rfl, hot0, hot0_0, hot0_1⟩⟩
  · have h := iteF q5 h
    refine WC.skip (thenL_n (WC.seq (WC.seq (WC.region ?_))))
    refine WO.fldS (j := 0) (q := 0) rfl ho4.at0 ho4.ptr rfl rfl rfl (by decide) ?_
    refine WO.ldB (j := 0) (q := 1) rfl rfl ho4 rfl rfl rfl ?_
    refine WO.bin rfl rfl (by decide) (by decide) rfl ?_
    refine WO.mv rfl ?_
    refine WO.cutB (d := 16) 4 ((decide (((t2.1, t2.2.1, t2.2.2.1, t2.2.2.2)).2.1 < 0)) || (decide (((t2.1, t2.2.1, t2.2.2.1, t2.2.2.2)).2.1 > 100))) (fun q6 => ?_) (fun q6 => ?_) ?_
    · refine WO.gno rfl rfl (WO.gno rfl rfl (WO.gno rfl rfl ?_))
      refine WO.pickT rfl rfl ?_
      refine WO.nil ?_
      exact ⟨rfl, rfl, (Cov.any rfl (orT q6) (Cov.skip rfl (Cov.skip rfl (Cov.skip rfl (Cov.skip rfl (Cov.skip rfl (Cov.refl _)))))))⟩
    · skip
      refine WO.gyes rfl rfl ?_
      refine WO.fldS (j := 0) (q := 0) rfl ho4.at0 ho4.ptr rfl rfl rfl (by decide) ?_
      refine WO.gyes rfl rfl ?_
      refine WO.ldB (j := 0) (q := 1) rfl rfl ho4 rfl rfl rfl ?_
      refine WO.gyes rfl rfl ?_
      refine WO.bin rfl rfl (by decide) (by decide) rfl ?_
      refine WO.pickF rfl rfl ?_
      refine WO.nil ?_
      exact ⟨rfl, rfl, (Cov.any rfl (orF q6) (Cov.skip rfl (Cov.skip rfl (Cov.skip rfl (Cov.skip rfl (Cov.skip rfl (Cov.refl _)))))))⟩
    refine WO.nil (thenL_n ?_)
    refine WC.cond rfl (fun q7 => ?_) (fun q7 => ?_)
    · have h := iteT q7 h
      refine WC.seq (WC.region (WO.asg rfl (WO.nil (thenL_n (WC.ret (thenL_r ?_))))))
      obtain rfl := someI h
      exact ⟨.inr rfl, _, _, rfl, rfl, ⟨S2, rfl, rfl, hM, vt0_0, vt0_1, rfl, hot0, hot0_0, hot0_1⟩⟩
    · have h := iteF q7 h
      refine WC.skip (thenL_n (WC.seq (WC.seq (WC.region (WO.mv rfl ?_)))))
      refine WO.nck rfl hot0.isp ?_
      refine WO.fldS (j := 0) (q := 0) rfl hot0.at0 hot0.ptr rfl rfl rfl (by decide) ?_
      refine WO.ldW rfl rfl hot0 rfl rfl hot0.lt rfl ?_
      refine WO.lenS rfl hot0_0.slv rfl ?_
      refine WO.bin rfl rfl (by decide) (by decide) rfl ?_
      refine WO.nil (thenL_n ?_)
      refine WC.cond rfl (fun q8 => ?_) (fun q8 => ?_)
      · have h := iteT q8 h
        refine WC.seq (WC.region (WO.asg rfl (WO.nil (thenL_n (WC.ret (thenL_r ?_))))))
        obtain rfl := someI h
        exact ⟨.inr rfl, _, _, rfl, rfl, ⟨S2, rfl, rfl, hM, vt0_0, vt0_1, rfl, hot0, hot0_0, hot0_1⟩⟩
      · have h := iteF q8 h
        refine WC.skip (thenL_n (WC.seq ?_))
        refine WC.drawN rfl rfl ?_
        have hot0_0z := hot0_0.oz
        have hot0_1z := hot0_1.oz
        have hot0z := hot0.lt
        have ho4z := ho4.lt
        refine WO.mv rfl (WO.mv rfl ?_)
        refine WO.nck rfl hot0.isp ?_
        refine WO.fldS (j := 0) (q := 0) rfl hot0.at0 hot0.ptr rfl rfl rfl (by decide) ?_
        refine WO.ldW rfl rfl hot0 rfl rfl hot0z (limLe_self _) ?_
        refine WO.fldS (j := 0) (q := 0) rfl ho4.at0 ho4.ptr rfl rfl rfl (by decide) ?_
        refine WO.ldBz (j := 0) (q := 2) rfl rfl ho4 rfl rfl ho4z (limLe_self _) ?_
        refine WO.fldS (j := 0) (q := 0) rfl ho4.at0 ho4.ptr rfl rfl rfl (by decide) ?_
        refine WO.ldBz (j := 0) (q := 1) rfl rfl ho4 rfl rfl ho4z (limLe_self _) ?_
        refine WO.do rfl rfl ?_
        refine WO.bsS (A := Y52) (S := S2) (M := [(((t2.1, t2.2.1, t2.2.2.1, t2.2.2.2)).2.2.1, ((t2.1, t2.2.1, t2.2.2.1, t2.2.2.2)).2.1, 0)]) (cs := [.str (((t2.1, t2.2.1, t2.2.2.1, t2.2.2.2)).2.2.1), .int .i64 (((t2.1, t2.2.1, t2.2.2.1, t2.2.2.2)).2.1), .int .i64 0]) 6 rfl rfl rfl ⟨[.str (((t2.1, t2.2.1, t2.2.2.1, t2.2.2.2)).2.2.1), .int .i64 (((t2.1, t2.2.1, t2.2.2.1, t2.2.2.2)).2.1), .int .i64 0], _, rfl, rfl, rfl⟩ rfl (fun v9 S10 c11 ho12 => ?_)
        have hot0_0z := hot0_0z.tow c11
        have hot0_1z := hot0_1z.tow c11
        have hot0_0 := hot0_0.to c11
        have hot0_1 := hot0_1.to c11
        have hot0 := hot0.to c11
        have hM := hM.to c11
        have ho4 := ho4.to c11
        obtain ⟨L13, e14, h⟩ := bindS h
        refine WO.appSB rfl rfl hot0_0 ho12.ro e14 rfl rfl rfl (fun v15 S16 c17 ho18 => ?_)
        have hot0_1z := hot0_1z.tow c17
        have hot0_1 := hot0_1.to c17
        have hot0 := hot0.to c17
        have hM := hM.to c17
        have ho4 := ho4.to c17
        have ho12 := ho12.to c17
        refine WO.nck rfl hot0.isp ?_
        refine WO.fldS (j := 0) (q := 0) rfl hot0.at0 hot0.ptr rfl rfl rfl (by decide) ?_
        refine WO.stW (S := S16) (r := [v15, vt0_1]) rfl rfl rfl rfl hot0 rfl rfl rfl rfl rfl (fun S19 c20 hot0 => ?_)
        have hot0_1z := hot0_1z.tow c20
        have hot0_1 := hot0_1.to c20
        have hM := hM.to c20
        have ho4 := ho4.to c20
        have ho12 := ho12.to c20
        have ho18 := ho18.to c20
        refine WO.nil (thenL_n (WC.seq (WC.region (WO.asg rfl (WO.nil (thenL_n (WC.ret ?_)))))))
        obtain rfl := someI h
        exact ⟨.inr rfl, _, _, rfl, rfl, ⟨S19, rfl, rfl, hM, v15, vt0_1, rfl, hot0, ho18, hot0_1⟩⟩
end Go.Proofs.YtaphdnpjpmnaeabDoor

namespace Go.Proofs.YtaphdnpjpmnaeabDoor
open Go.Am
theorem F40.fn : E.fn 40 = some ⟨14, (Tryd.f40.body.getD .skip), Tryd.f40.results.toList, []⟩ := rfl
theorem F40_ok {F : Nat} {m : Mem} {n : Nat} {r : Bool} {t0 : (List UInt8) × (List UInt8) × Int} {c0 : List UInt8} {bc0 : Nat} (h : F40 F t0 c0 = some r) (kc0 : Pv Y9 n m bc0 c0) : Ret E n 40 [.agg [.str t0.1, .str t0.2.1, .int .i64 t0.2.2], .sc (.ptr bc0 0)] m n (fun v m' n' => v = .sc (.bool r)) := by
  unfold F40 at h
  refine Ret.walk F40.fn ?_
  refine WC.start fun S0 em en hz => ?_
  have hoc0 := kc0.rpS em hz
  refine WC.seq (WC.region ?_)
  refine WO.bxS (A := Y82) (S := S0) (u := (t0.1, t0.2.1, t0.2.2)) 2 rfl rfl rfl rfl (fun v1 S2 c3 ho4 => ?_)
  have hoc0 := hoc0.to c3
  refine WO.asg rfl (WO.nil (thenL_n (WC.seq (WC.region ?_))))
  refine WO.fldS (j := 0) (q := 0) rfl ho4.at0 ho4.ptr rfl rfl rfl (by decide) ?_
  refine WO.ldB (j := 0) (q := 0) rfl rfl ho4 rfl rfl rfl ?_
  refine WO.ldP rfl hoc0 rfl rfl rfl ?_
  refine WO.do rfl rfl ?_
  refine WO.mv rfl ?_
  refine WO.cutB (d := 13) 5 ((((t0.1, t0.2.1, t0.2.2)).1 == c0) || (((t0.1, t0.2.1, t0.2.2)).2.1 == c0)) (fun q5 => ?_) (fun q5 => ?_) ?_
  · refine WO.gno rfl rfl (WO.gno rfl rfl (WO.gno rfl rfl (WO.gno rfl rfl ?_)))
    refine WO.pickT rfl rfl ?_
    refine WO.nil ?_
    exact ⟨rfl, rfl, (Cov.any rfl (orT q5) (Cov.skip rfl (Cov.skip rfl (Cov.skip rfl (Cov.skip rfl (Cov.skip rfl (Cov.skip rfl (Cov.refl _))))))))⟩
  · skip
    refine WO.gyes rfl rfl ?_
    refine WO.fldS (j := 0) (q := 0) rfl ho4.at0 ho4.ptr rfl rfl rfl (by decide) ?_
    refine WO.gyes rfl rfl ?_
    refine WO.ldB (j := 0) (q := 1) rfl rfl ho4 rfl rfl rfl ?_
    refine WO.gyes rfl rfl ?_
    refine WO.ldP rfl hoc0 rfl rfl rfl ?_
    refine WO.gyes rfl rfl ?_
    refine WO.do rfl rfl ?_
    refine WO.pickF rfl rfl ?_
    refine WO.nil ?_
    exact ⟨rfl, rfl, (Cov.any rfl (orF q5) (Cov.skip rfl (Cov.skip rfl (Cov.skip rfl (Cov.skip rfl (Cov.skip rfl (Cov.skip rfl (Cov.refl _))))))))⟩
  refine WO.asg rfl (WO.nil (thenL_n (WC.ret ?_)))
  obtain rfl := someI h
  exact ⟨.inr rfl, _, _, rfl, rfl, rfl⟩
end Go.Proofs.YtaphdnpjpmnaeabDoor

namespace Go.Proofs.YtaphdnpjpmnaeabDoor
open Go.Am
theorem F47_40.fn : E.fn 47 = some ⟨19, (Tryd.f47.body.getD .skip), Tryd.f47.results.toList, []⟩ := rfl
theorem F47_40_ok {F : Nat} {m : Mem} {n : Nat} {r : Int} {t0 : List ((List UInt8) × (List UInt8) × Int)} {t1c0 : List UInt8} {vt0 : SV} {bt1c0 : Nat} (h : F47_40 F t0 t1c0 = some r) (kt0 : Vw Y82 n m vt0 t0) (kt1c0 : Pv Y9 n m bt1c0 t1c0) : Ret E n 47 [.sc vt0, .sc (.fn 40 [(bt1c0, 0)])] m n (fun v m' n' => v = .sc (.int .i64 r)) := by
  unfold F47_40 at h
  refine Ret.walk F47_40.fn ?_
  refine WC.start fun S0 em en hz => ?_
  have hot0 := kt0.rdS em hz
  have hot1c0 := kt1c0.rpS em hz
  refine WC.seq (WC.region (WO.asg rfl (WO.nil (thenL_n (WC.seq (WC.seq (WC.region (WO.mv rfl ?_))))))))
  refine WO.lenS rfl hot0.slv rfl ?_
  refine WO.mv rfl (WO.nil (thenL_n (WC.block ?_)))
  obtain ⟨b16, e17, h⟩ := bindS h
  refine WC.loopD e17 (fun s1 l' m' n' => ∃ S2 : Cx n, S2.m = m' ∧ S2.n = n' ∧ Cov l' [(0, .sc vt0), (1, .sc (.fn 40 [(bt1c0, 0)])), (7, .sc (.int .i64 ((t0.length : Int)))), (8, .sc (.int .i64 s1))] ∧ Rd Y82 S2 vt0 t0 ∧ Rp Y9 S2 (.ptr bt1c0 0) t1c0) (fun b e l' m' n' => (match b with | .inl b3 => e = .exit 0 ∧ ∃ S4 : Cx n, S4.m = m' ∧ S4.n = n' ∧ Cov l' [] | .inr b3 => e = .ret ∧ ∃ S5 : Cx n, S5.m = m' ∧ S5.n = n' ∧ Cov l' [(4, .sc (.int .i64 b3))])) (by exact ⟨S0, rfl, rfl, (Cov.cons rfl (Cov.cons rfl (Cov.cons rfl (Cov.cons rfl (Cov.nil _))))), hot0, hot1c0⟩) ?_ ?_
  · clear h
    rintro s1 q _ _ _ ⟨S6, rfl, rfl, hc7, hot0, hot1c0⟩ h
    unfold F47_40_l0 at h
    refine WC.cov hc7 (WC.seq (WC.region ?_))
    refine WO.bin rfl rfl (by decide) (by decide) rfl ?_
    refine WO.nil (thenL_n (WC.seq ?_))
    refine WC.cond rfl (fun q8 => ?_) (fun q8 => ?_)
    · have h := iteT q8 h
      refine WC.skip (thenL_n (WC.seq (WC.block (WC.seq (WC.region (WO.mv rfl (WO.asg rfl (WO.nil (thenL_n ?_)))))))))
      refine WC.seq (WC.region (WO.mv rfl (WO.mv rfl (WO.mv rfl ?_))))
      obtain ⟨x9, e10, h⟩ := bindS h
      refine WO.ixS rfl rfl hot0.slv (at?_lt e10) rfl ?_
      refine WO.ldA rfl hot0.ro (fun _ hi => hi) (at?_get e10) rfl rfl ?_
      obtain ⟨r11, e12, h⟩ := bindS h
      refine WO.callE (S := S6) rfl rfl (F40_ok e12 hot1c0.pv) (fun S13 c14 => ?_)
      have hot0 := hot0.to c14
      have hot1c0 := hot1c0.to c14
      refine WO.nil (thenL_n ?_)
      refine WC.cond rfl (fun q15 => ?_) (fun q15 => ?_)
      · have h := iteT q15 h
        refine WC.seq (WC.region (WO.mv rfl (WO.asg rfl (WO.nil (thenL_n (WC.ret (blockL_r (thenL_r (thenL_r ?_)))))))))
        obtain rfl := someI h
        exact ⟨_, rfl, rfl, ⟨S13, rfl, rfl, (Cov.cons rfl (Cov.nil _))⟩⟩
      · have h := iteF q15 h
        refine WC.skip (blockL_n (thenL_n (WC.region ?_)))
        refine WO.bin rfl rfl (by decide) (by decide) rfl ?_
        refine WO.mv rfl (WO.nil (thenL_n ?_))
        obtain rfl := someI h
        exact ⟨_, rfl, ⟨S13, rfl, rfl, (Cov.cons rfl (Cov.cons rfl (Cov.cons rfl (Cov.cons rfl (Cov.nil _))))), hot0, hot1c0⟩⟩
    · have h := iteF q8 h
      refine WC.exit (thenL_e (thenL_e ?_))
      obtain rfl := someI h
      exact ⟨_, rfl, rfl, ⟨S6, rfl, rfl, (Cov.nil _)⟩⟩
  cases b16 with
  | inl b18 =>
    simp only at h
    rintro _ _ _ _ ⟨rfl, ⟨S19, rfl, rfl, hc20⟩⟩
    refine blockL_s (thenL_n (WC.cov hc20 (WC.seq (WC.region (WO.asg rfl (WO.nil (thenL_n (WC.ret ?_))))))))
    obtain rfl := someI h
    exact ⟨.inr rfl, _, _, rfl, rfl, rfl⟩
  | inr b18 =>
    simp only at h
    rintro _ _ _ _ ⟨rfl, ⟨S21, rfl, rfl, hc22⟩⟩
    refine blockL_r (thenL_r ?_)
    obtain rfl := someI h
    exact ⟨.inr rfl, _, _, (resK_cov hc22 rfl), rfl, rfl⟩
end Go.Proofs.YtaphdnpjpmnaeabDoor

namespace Go.Proofs.YtaphdnpjpmnaeabDoor
open Go.Am
theorem F39_40.fn : E.fn 39 = some ⟨9, (Tryd.f39.body.getD .skip), Tryd.f39.results.toList, []⟩ := rfl
theorem F39_40_ok {F : Nat} {m : Mem} {n : Nat} {r : Bool} {t0 : List ((List UInt8) × (List UInt8) × Int)} {t1c0 : List UInt8} {vt0 : SV} {bt1c0 : Nat} (h : F39_40 F t0 t1c0 = some r) (kt0 : Vw Y82 n m vt0 t0) (kt1c0 : Pv Y9 n m bt1c0 t1c0) : Ret E n 39 [.sc vt0, .sc (.fn 40 [(bt1c0, 0)])] m n (fun v m' n' => v = .sc (.bool r)) := by
  unfold F39_40 at h
  refine Ret.walk F39_40.fn ?_
  refine WC.start fun S0 em en hz => ?_
  have hot0 := kt0.rdS em hz
  have hot1c0 := kt1c0.rpS em hz
  refine WC.seq (WC.region (WO.asg rfl (WO.nil (thenL_n (WC.seq (WC.region (WO.mv rfl (WO.mv rfl ?_))))))))
  obtain ⟨r1, e2, h⟩ := bindS h
  refine WO.callE (S := S0) rfl rfl (F47_40_ok e2 hot0.vw hot1c0.pv) (fun S3 c4 => ?_)
  have hot0 := hot0.to c4
  have hot1c0 := hot1c0.to c4
  refine WO.bin rfl rfl (by decide) (by decide) rfl ?_
  refine WO.asg rfl (WO.nil (thenL_n (WC.ret ?_)))
  obtain rfl := someI h
  exact ⟨.inr rfl, _, _, rfl, rfl, rfl⟩
end Go.Proofs.YtaphdnpjpmnaeabDoor

namespace Go.Proofs.YtaphdnpjpmnaeabDoor
open Go.Am
theorem F41.fn : E.fn 41 = some ⟨33, (Tryd.f41.body.getD .skip), Tryd.f41.results.toList, []⟩ := rfl
theorem F41_ok {F : Nat} {fl n b : Nat} {m : Mem} {v : SV} {t0 M : (List ((List UInt8) × Int × Int))} {t1 t2 : Int} (h : F41 F t0 t1 t2 = some M) (hfl : fl ≤ n) (kt0 : Ov Y52 fl n b m v t0) : Ret E fl 41 [.sc v, .sc (.int .i64 t1), .sc (.int .i64 t2)] m n (fun v' m' n' => ∃ w, v' = .sc w ∧ Oq Y52 n b m m' w M) := by
  unfold F41 at h
  replace h : delB? 4398046511104 t0 t1 t2 = some M := by split at h; exact h; cases h
  obtain ⟨⟨hq0, hq1, hq2, hq3, hq4⟩, rfl⟩ := delB?_some h
  obtain ⟨c, cs, rfl, h1, h2, h3, h4, h5, h6⟩ := kt0
  have h5 : cs.length = c * 3 := h5
  have hsz : Y52.sz = 3 := rfl
  refine Ret.walk F41.fn ?_
  repeat (first | refine WC.seq ?_ | refine thenL_n ?_ | refine thenL_r ?_ | refine WC.region ?_ | refine WO.nil ?_ | refine WC.skip ?_ | refine WC.ret ?_ | refine WO.asg rfl ?_ | refine WO.mv rfl ?_)
  refine WO.lenS rfl (.inr ⟨b, 0, c, rfl, h1⟩) rfl ?_
  refine WO.slH3 rfl rfl rfl rfl ⟨hq0, hq1, hq2, by omega⟩ rfl (fun w0 => ?_)
  repeat (first | refine WC.seq ?_ | refine thenL_n ?_ | refine thenL_r ?_ | refine WC.region ?_ | refine WO.nil ?_ | refine WC.skip ?_ | refine WC.ret ?_ | refine WO.asg rfl ?_ | refine WO.mv rfl ?_)
  refine WO.bin rfl rfl (by decide) (by decide) rfl ?_
  repeat (first | refine WC.seq ?_ | refine thenL_n ?_ | refine thenL_r ?_ | refine WC.region ?_ | refine WO.nil ?_ | refine WC.skip ?_ | refine WC.ret ?_ | refine WO.asg rfl ?_ | refine WO.mv rfl ?_)
  refine WC.cond rfl (fun q => ?_) (fun q => ?_)
  · repeat (first | refine WC.seq ?_ | refine thenL_n ?_ | refine thenL_r ?_ | refine WC.region ?_ | refine WO.nil ?_ | refine WC.skip ?_ | refine WC.ret ?_ | refine WO.asg rfl ?_ | refine WO.mv rfl ?_)
    have e : t1 = t2 := by simpa using q
    subst e
    have eL : t0.take t1.toNat ++ t0.drop t1.toNat = t0 := List.take_append_drop _ _
    exact ⟨.inr rfl, _, _, rfl, rfl, _, rfl, fun _ _ _ => rfl, c, cs, by rw [eL], by rw [eL]; exact h1, h4, h5, by rw [eL]; exact h6⟩
  · have e : ¬ t1 = t2 := by simpa using q
    repeat (first | refine WC.seq ?_ | refine thenL_n ?_ | refine thenL_r ?_ | refine WC.region ?_ | refine WO.nil ?_ | refine WC.skip ?_ | refine WC.ret ?_ | refine WO.asg rfl ?_ | refine WO.mv rfl ?_)
    refine WO.lenS rfl (.inr ⟨b, 0, c, rfl, h1⟩) rfl ?_
    repeat (first | refine WC.seq ?_ | refine thenL_n ?_ | refine thenL_r ?_ | refine WC.region ?_ | refine WO.nil ?_ | refine WC.skip ?_ | refine WC.ret ?_ | refine WO.asg rfl ?_ | refine WO.mv rfl ?_)
    refine WC.drawN rfl rfl ?_
    repeat (first | refine WC.seq ?_ | refine thenL_n ?_ | refine thenL_r ?_ | refine WC.region ?_ | refine WO.nil ?_ | refine WC.skip ?_ | refine WC.ret ?_ | refine WO.asg rfl ?_ | refine WO.mv rfl ?_)
    refine WO.slHto rfl rfl ⟨by omega, by omega⟩ rfl ?_
    repeat (first | refine WC.seq ?_ | refine thenL_n ?_ | refine thenL_r ?_ | refine WC.region ?_ | refine WO.nil ?_ | refine WC.skip ?_ | refine WC.ret ?_ | refine WO.asg rfl ?_ | refine WO.mv rfl ?_)
    refine WO.slHfrom rfl rfl ⟨by omega, by omega, h1⟩ h4 (by show 0 + t0.length * 3 ≤ cs.length; omega) rfl (fun w1 hw1 => ?_)
    refine WO.appHB (bnd := 4398046511104) rfl rfl hw1 h4 (by show 0 + c * 3 ≤ cs.length; omega) (by omega) (by omega) rfl h2 rfl ?_
    repeat (first | refine WC.seq ?_ | refine thenL_n ?_ | refine thenL_r ?_ | refine WC.region ?_ | refine WO.nil ?_ | refine WC.skip ?_ | refine WC.ret ?_ | refine WO.asg rfl ?_ | refine WO.mv rfl ?_)
    refine WO.lenS rfl (.inr ⟨b, 0, c, rfl, by omega⟩) rfl ?_
    repeat (first | refine WC.seq ?_ | refine thenL_n ?_ | refine thenL_r ?_ | refine WC.region ?_ | refine WO.nil ?_ | refine WC.skip ?_ | refine WC.ret ?_ | refine WO.asg rfl ?_ | refine WO.mv rfl ?_)
    refine WO.slHmid rfl rfl rfl ⟨by omega, by omega, by omega, by omega⟩ rfl ?_
    refine WO.clrH rfl (Tr.get_set_same _ _ _) ?_ h2 rfl (fun z hz => ?_)
    · show _ ≤ (splice cs (0 + t1.toNat * 3) _).length
      simp only [splice, List.length_append, List.length_take, List.length_drop, Int.toNat_natCast, hsz, Nat.zero_add]
      omega
    · repeat (first | refine WC.seq ?_ | refine thenL_n ?_ | refine thenL_r ?_ | refine WC.region ?_ | refine WO.nil ?_ | refine WC.skip ?_ | refine WC.ret ?_ | refine WO.asg rfl ?_ | refine WO.mv rfl ?_)
      have hl : (t0.take t1.toNat ++ t0.drop t2.toNat).length = t1.toNat + (t0.length - t2.toNat) := by simp; omega
      refine ⟨.inr rfl, _, _, rfl, rfl, _, rfl, fun i _ hb => by rw [Tr.get_set_ne _ _ hb, Tr.get_set_ne _ _ hb], c, _, by rw [hl], by rw [hl]; omega, Tr.get_set_same _ _ _, ?_, ?_⟩
      · simp only [splice, List.length_append, List.length_take, List.length_drop, Int.toNat_natCast, hz, hsz, Nat.zero_add]
        omega
      · have hR : RL Y52 (fun i => i < n ∧ i ≠ b) m _ _ := del_RL (zz := z) (p := t1.toNat) (r := t2.toNat) (lo := t1.toNat + (t0.length - t2.toNat)) h6 (by omega) (by omega) (by rw [hsz]; omega) rfl
        exact RL.fl Lay.flat_fl hR
end Go.Proofs.YtaphdnpjpmnaeabDoor

namespace Go.Proofs.YtaphdnpjpmnaeabDoor
open Go.Am
theorem F18.fn : E.fn 18 = some ⟨31, (Tryd.f18.body.getD .skip), Tryd.f18.results.toList, []⟩ := rfl
theorem F18_ok {F : Nat} {fl : Nat} {S0 : Cx fl} {r : Int × ((List ((List UInt8) × Int × Int)) × (List ((List UInt8) × (List UInt8) × Int)))} {t0 : (List ((List UInt8) × Int × Int)) × (List ((List UInt8) × (List UInt8) × Int))} {t1 : Int} {bt0 : Nat} {vt0_0 : SV} {vt0_1 : SV} (h : F18 F t0 t1 = some r) (hot0 : Bw S0 2 (.ptr bt0 0) [vt0_0, vt0_1]) (hot0_0 : Ow Y52 S0 3 vt0_0 t0.1) (hot0_1 : Ow Y82 S0 4 vt0_1 t0.2) : Ret E fl 18 [.sc (.ptr bt0 0), .sc (.int .i64 t1)] S0.m S0.n (fun v m' n' => ∃ S' : Cx fl, S'.m = m' ∧ S'.n = n' ∧ ChM S0 S' ∧ (∃ w23 w24 : SV, v = .sc (.int .i64 r.1) ∧ Bw S' 2 (.ptr bt0 0) [w23, w24] ∧ Ow Y52 S' 3 w23 r.2.1 ∧ Ow Y82 S' 4 w24 r.2.2)) := by
  unfold F18 at h
  refine Ret.walk F18.fn ?_
  have hM := ChM.refl S0
  refine WC.seq (WC.region (WO.asg rfl (WO.nil (thenL_n (WC.seq (WC.region (WO.mv rfl ?_)))))))
  refine WO.nck rfl hot0.isp ?_
  refine WO.fldS (j := 0) (q := 0) rfl hot0.at0 hot0.ptr rfl rfl rfl (by decide) ?_
  refine WO.ldW rfl rfl hot0 rfl rfl hot0.lt rfl ?_
  refine WO.mv rfl ?_
  obtain ⟨x1, e2, h⟩ := bindS h
  refine WO.ixS rfl rfl hot0_0.slv (at?_lt e2) rfl ?_
  refine WO.fldS rfl rfl (SlV.ptr hot0_0.slv (at?_nat e2)) rfl rfl rfl (by decide) ?_
  refine WO.ldF rfl hot0_0.ro (fun _ hi => hi) (at?_get e2) rfl rfl rfl ?_
  refine WO.alS (A := Y9) (S := S0) (z0 := []) 5 rfl rfl rfl (fun v3 S4 c5 ho6 => ?_)
  have hot0_0 := hot0_0.to c5
  have hot0_1 := hot0_1.to c5
  have hot0 := hot0.to c5
  have hM := hM.to c5
  refine WO.stB (j := 0) (q := 0) (u' := x1.1) rfl ho6.at0 rfl ho6 rfl (by decide) rfl rfl (fun S7 c8 ho6 => ?_)
  have hot0_0 := hot0_0.to c8
  have hot0_1 := hot0_1.to c8
  have hot0 := hot0.to c8
  have hM := hM.to c8
  refine WO.nil (thenL_n (WC.seq (WC.seq (WC.region (WO.mv rfl ?_)))))
  refine WO.nck rfl hot0.isp ?_
  refine WO.fldS (j := 0) (q := 0) rfl hot0.at0 hot0.ptr rfl rfl rfl (by decide) ?_
  refine WO.ldW rfl rfl hot0 rfl rfl hot0.lt rfl ?_
  obtain ⟨b9, rfl⟩ := ho6.isp
  refine WO.do rfl rfl ?_
  obtain ⟨r10, e11, h⟩ := bindS h
  refine WO.callE (S := S7) rfl rfl (F39_40_ok e11 hot0_1.vw ho6.pv) (fun S12 c13 => ?_)
  have hot0_0 := hot0_0.to c13
  have hot0_1 := hot0_1.to c13
  have hot0 := hot0.to c13
  have hM := hM.to c13
  have ho6 := ho6.to c13
  refine WO.nil (thenL_n ?_)
  refine WC.cond rfl (fun q14 => ?_) (fun q14 => ?_)
  · have h := iteT q14 h
    refine WC.seq (WC.region (WO.asg rfl (WO.nil (thenL_n (WC.ret (thenL_r ?_))))))
    obtain rfl := someI h
    exact ⟨.inr rfl, _, _, rfl, rfl, ⟨S12, rfl, rfl, hM, vt0_0, vt0_1, rfl, hot0, hot0_0, hot0_1⟩⟩
  · have h := iteF q14 h
    refine WC.skip (thenL_n (WC.seq (WC.region (WO.mv rfl (WO.mv rfl ?_)))))
    refine WO.nck rfl hot0.isp ?_
    refine WO.fldS (j := 0) (q := 0) rfl hot0.at0 hot0.ptr rfl rfl rfl (by decide) ?_
    refine WO.ldW rfl rfl hot0 rfl rfl hot0.lt rfl ?_
    refine WO.mv rfl (WO.mv rfl ?_)
    refine WO.bin rfl rfl (by decide) (by decide) rfl ?_
    obtain ⟨r15, e16, h⟩ := bindS h
    refine WO.callO (S := S12) hot0_0 (delB?_ne e16) rfl rfl (fun bq hI => F41_ok e16 S12.le hI) Lay.flat_fl (fun v17 S18 c19 ho20 => ?_)
    have hot0_1 := hot0_1.to c19
    have hot0 := hot0.to c19
    have hM := hM.to c19
    have ho6 := ho6.to c19
    refine WO.nck rfl hot0.isp ?_
    refine WO.fldS (j := 0) (q := 0) rfl hot0.at0 hot0.ptr rfl rfl rfl (by decide) ?_
    refine WO.stW (S := S18) (r := [v17, vt0_1]) rfl rfl rfl rfl hot0 rfl rfl rfl rfl rfl (fun S21 c22 hot0 => ?_)
    have hot0_1 := hot0_1.to c22
    have hM := hM.to c22
    have ho6 := ho6.to c22
    have ho20 := ho20.to c22
    refine WO.nil (thenL_n (WC.seq (WC.region (WO.asg rfl (WO.nil (thenL_n (WC.ret ?_)))))))
    obtain rfl := someI h
    exact ⟨.inr rfl, _, _, rfl, rfl, ⟨S21, rfl, rfl, hM, v17, vt0_1, rfl, hot0, ho20, hot0_1⟩⟩
end Go.Proofs.YtaphdnpjpmnaeabDoor

namespace Go.Proofs.YtaphdnpjpmnaeabDoor
open Go.Am
theorem F42.fn : E.fn 42 = some ⟨68, (Tryd.f42.body.getD .skip), Tryd.f42.results.toList, []⟩ := rfl
theorem F42_ok {F : Nat} {m : Mem} {n : Nat} {r : (List Int) × Int} {t0 : List Int} {t1 : Int} {t2 : Int} {t3 : Int} {vt0 : SV} (h : F42 F t0 t1 t2 t3 = some r) (kt0 : Vw Y3 n m vt0 t0) : Ret E n 42 [.sc vt0, .sc (.int .i64 t1), .sc (.int .i64 t2), .sc (.int .i64 t3)] m n (fun v m' n' => ∃ w, v = .tup [.sc w, .sc (.int .i64 r.2)] ∧ Fr Y3 n m' n' w r.1) := by
  unfold F42 at h
  refine Ret.walk F42.fn ?_
  refine WC.start fun S0 em en hz => ?_
  have hot0 := kt0.rdS em hz
  refine WC.seq (WC.region (WO.asg rfl (WO.asg rfl (WO.nil (thenL_n (WC.seq (WC.seq (WC.region (WO.mv rfl ?_)))))))))
  obtain ⟨r1, e2, h⟩ := bindS h
  refine WO.callE (S := S0) rfl rfl (F35_ok e2 hot0.vw) (fun S3 c4 => ?_)
  have hot0 := hot0.to c4
  refine WO.asg rfl (WO.nil (thenL_n (WC.seq (WC.region (WO.mv rfl ?_)))))
  refine WO.bin rfl rfl (by decide) (by decide) rfl ?_
  refine WO.nil (thenL_n ?_)
  refine WC.cond rfl (fun q5 => ?_) (fun q5 => ?_)
  · have h := iteT q5 h
    refine WC.seq (WC.region (WO.mv rfl (WO.asg rfl (WO.asg rfl (WO.nil (thenL_n (WC.ret (thenL_r ?_))))))))
    obtain rfl := someI h
    exact ⟨.inr rfl, _, _, rfl, rfl, ⟨.nils, rfl, Fr.nil⟩⟩
  · have h := iteF q5 h
    refine WC.skip (thenL_n (WC.seq (WC.seq (WC.region (WO.mv rfl ?_)))))
    refine WO.bin rfl rfl (by decide) (by decide) rfl ?_
    refine WO.mv rfl ?_
    refine WO.cutB (d := 24) 5 ((decide (t1 < 0)) || (decide (t1 ≥ (t0.length : Int)))) (fun q6 => ?_) (fun q6 => ?_) ?_
    · refine WO.gno rfl rfl (WO.gno rfl rfl (WO.gno rfl rfl (WO.gno rfl rfl ?_)))
      refine WO.pickT rfl rfl ?_
      refine WO.nil ?_
      exact ⟨rfl, rfl, (Cov.any rfl (orT q6) (Cov.skip rfl (Cov.skip rfl (Cov.skip rfl (Cov.skip rfl (Cov.skip rfl (Cov.skip rfl (Cov.refl _))))))))⟩
    · skip
      refine WO.gyes rfl rfl (WO.mv rfl (WO.gyes rfl rfl (WO.mv rfl (WO.gyes rfl rfl ?_))))
      refine WO.lenS rfl hot0.slv rfl ?_
      refine WO.gyes rfl rfl ?_
      refine WO.bin rfl rfl (by decide) (by decide) rfl ?_
      refine WO.pickF rfl rfl ?_
      refine WO.nil ?_
      exact ⟨rfl, rfl, (Cov.any rfl (orF q6) (Cov.skip rfl (Cov.skip rfl (Cov.skip rfl (Cov.skip rfl (Cov.skip rfl (Cov.skip rfl (Cov.refl _))))))))⟩
    refine WO.mv rfl ?_
    refine WO.cutB (d := 28) 3 (((decide (t1 < 0)) || (decide (t1 ≥ (t0.length : Int)))) || (decide (t2 < 0))) (fun q7 => ?_) (fun q7 => ?_) ?_
    · refine WO.gno rfl rfl (WO.gno rfl rfl ?_)
      refine WO.pickT rfl rfl ?_
      refine WO.nil ?_
      exact ⟨rfl, rfl, (Cov.any rfl (orT q7) (Cov.skip rfl (Cov.skip rfl (Cov.skip rfl (Cov.skip rfl (Cov.refl _))))))⟩
    · skip
      refine WO.gyes rfl rfl (WO.mv rfl (WO.gyes rfl rfl ?_))
      refine WO.bin rfl rfl (by decide) (by decide) rfl ?_
      refine WO.pickF rfl rfl ?_
      refine WO.nil ?_
      exact ⟨rfl, rfl, (Cov.any rfl (orF q7) (Cov.skip rfl (Cov.skip rfl (Cov.skip rfl (Cov.skip rfl (Cov.refl _))))))⟩
    refine WO.mv rfl ?_
    refine WO.cutB (d := 34) 5 ((((decide (t1 < 0)) || (decide (t1 ≥ (t0.length : Int)))) || (decide (t2 < 0))) || (decide (t2 ≥ (t0.length : Int)))) (fun q8 => ?_) (fun q8 => ?_) ?_
    · refine WO.gno rfl rfl (WO.gno rfl rfl (WO.gno rfl rfl (WO.gno rfl rfl ?_)))
      refine WO.pickT rfl rfl ?_
      refine WO.nil ?_
      exact ⟨rfl, rfl, (Cov.any rfl (orT q8) (Cov.skip rfl (Cov.skip rfl (Cov.skip rfl (Cov.skip rfl (Cov.skip rfl (Cov.skip rfl (Cov.refl _))))))))⟩
    · skip
      refine WO.gyes rfl rfl (WO.mv rfl (WO.gyes rfl rfl (WO.mv rfl (WO.gyes rfl rfl ?_))))
      refine WO.lenS rfl hot0.slv rfl ?_
      refine WO.gyes rfl rfl ?_
      refine WO.bin rfl rfl (by decide) (by decide) rfl ?_
      refine WO.pickF rfl rfl ?_
      refine WO.nil ?_
      exact ⟨rfl, rfl, (Cov.any rfl (orF q8) (Cov.skip rfl (Cov.skip rfl (Cov.skip rfl (Cov.skip rfl (Cov.skip rfl (Cov.skip rfl (Cov.refl _))))))))⟩
    refine WO.mv rfl ?_
    refine WO.cutB (d := 38) 3 (((((decide (t1 < 0)) || (decide (t1 ≥ (t0.length : Int)))) || (decide (t2 < 0))) || (decide (t2 ≥ (t0.length : Int)))) || (decide (t3 < 0))) (fun q9 => ?_) (fun q9 => ?_) ?_
    · refine WO.gno rfl rfl (WO.gno rfl rfl ?_)
      refine WO.pickT rfl rfl ?_
      refine WO.nil ?_
      exact ⟨rfl, rfl, (Cov.any rfl (orT q9) (Cov.skip rfl (Cov.skip rfl (Cov.skip rfl (Cov.skip rfl (Cov.refl _))))))⟩
    · skip
      refine WO.gyes rfl rfl (WO.mv rfl (WO.gyes rfl rfl ?_))
      refine WO.bin rfl rfl (by decide) (by decide) rfl ?_
      refine WO.pickF rfl rfl ?_
      refine WO.nil ?_
      exact ⟨rfl, rfl, (Cov.any rfl (orF q9) (Cov.skip rfl (Cov.skip rfl (Cov.skip rfl (Cov.skip rfl (Cov.refl _))))))⟩
    refine WO.nil (thenL_n ?_)
    refine WC.cond rfl (fun q10 => ?_) (fun q10 => ?_)
    · have h := iteT q10 h
      refine WC.seq (WC.region (WO.asg rfl (WO.asg rfl (WO.nil (thenL_n (WC.ret (thenL_r ?_)))))))
      obtain rfl := someI h
      exact ⟨.inr rfl, _, _, rfl, rfl, ⟨.nils, rfl, Fr.nil⟩⟩
    · have h := iteF q10 h
      refine WC.skip (thenL_n (WC.seq (WC.seq (WC.region (WO.mv rfl (WO.mv rfl (WO.mv rfl ?_)))))))
      obtain ⟨x11, e12, h⟩ := bindS h
      refine WO.ixS rfl rfl hot0.slv (at?_lt e12) rfl ?_
      refine WO.ldF rfl hot0.ro (fun _ hi => hi) (at?_get e12) rfl rfl rfl ?_
      refine WO.bin rfl rfl (by decide) (by decide) rfl ?_
      refine WO.nil (thenL_n ?_)
      refine WC.cond rfl (fun q13 => ?_) (fun q13 => ?_)
      · have h := iteT q13 h
        refine WC.seq (WC.region (WO.asg rfl (WO.asg rfl (WO.nil (thenL_n (WC.ret (thenL_r ?_)))))))
        obtain rfl := someI h
        exact ⟨.inr rfl, _, _, rfl, rfl, ⟨.nils, rfl, Fr.nil⟩⟩
      · have h := iteF q13 h
        refine WC.skip (thenL_n (WC.seq (WC.region ?_)))
        refine WO.bsS (A := Y3) (S := S3) (M := []) (cs := []) 2 rfl rfl rfl rfl rfl (fun v14 S15 c16 ho17 => ?_)
        have hot0 := hot0.to c16
        refine WO.mv rfl ?_
        obtain ⟨L18, e19, h⟩ := bindS h
        refine WO.appS rfl rfl ho17 hot0.ro e19 rfl rfl (fun v20 S21 c22 ho23 => ?_)
        have hot0 := hot0.to c22
        refine WO.asg rfl (WO.nil (thenL_n (WC.seq (WC.region (WO.mv rfl (WO.mv rfl ?_))))))
        obtain ⟨x24, e25, h⟩ := bindS h
        refine WO.ixS rfl rfl ho23.slv (at?_lt e25) rfl ?_
        refine WO.ldF rfl ho23.ro (fun _ hi => hi) (at?_get e25) rfl rfl rfl ?_
        refine WO.mv rfl ?_
        refine WO.bin rfl rfl (by decide) (by decide) rfl ?_
        obtain ⟨u26, e27, h⟩ := bindS h
        refine WO.ixS rfl rfl ho23.slv (ck_some e27) rfl ?_
        refine WO.st1 (u' := (wrapA .i64 (x24 - t3))) rfl rfl ho23 (ck_nat e27) rfl rfl (fun S28 c29 ho23 => ?_)
        have hot0 := hot0.to c29
        refine WO.nil (thenL_n (WC.seq (WC.region (WO.mv rfl (WO.mv rfl ?_)))))
        obtain ⟨x30, e31, h⟩ := bindS h
        refine WO.ixS rfl rfl ho23.slv (at?_lt e31) rfl ?_
        refine WO.ldF rfl ho23.ro (fun _ hi => hi) (at?_get e31) rfl rfl rfl ?_
        refine WO.mv rfl ?_
        refine WO.bin rfl rfl (by decide) (by decide) rfl ?_
        obtain ⟨u32, e33, h⟩ := bindS h
        refine WO.ixS rfl rfl ho23.slv (ck_some e33) rfl ?_
        refine WO.st1 (u' := (wrapA .i64 (x30 + t3))) rfl rfl ho23 (ck_nat e33) rfl rfl (fun S34 c35 ho23 => ?_)
        have hot0 := hot0.to c35
        refine WO.nil (thenL_n (WC.seq (WC.seq (WC.region (WO.mv rfl (WO.mv rfl ?_))))))
        obtain ⟨x36, e37, h⟩ := bindS h
        refine WO.ixS rfl rfl ho23.slv (at?_lt e37) rfl ?_
        refine WO.ldF rfl ho23.ro (fun _ hi => hi) (at?_get e37) rfl rfl rfl ?_
        refine WO.bin rfl rfl (by decide) (by decide) rfl ?_
        refine WO.nil (thenL_n ?_)
        refine WC.cond rfl (fun q38 => ?_) (fun q38 => ?_)
        · have h := iteT q38 h
          refine WC.seq (WC.region (WO.asg rfl (WO.asg rfl (WO.nil (thenL_n (WC.ret (thenL_r ?_)))))))
          obtain rfl := someI h
          exact ⟨.inr rfl, _, _, rfl, rfl, ⟨.nils, rfl, Fr.nil⟩⟩
        · have h := iteF q38 h
          refine WC.skip (thenL_n (WC.seq (WC.region (WO.mv rfl (WO.asg rfl (WO.asg rfl (WO.nil (thenL_n (WC.ret ?_)))))))))
          obtain rfl := someI h
          exact ⟨.inr rfl, _, _, rfl, rfl, ⟨v20, rfl, (ho23.fr Lay.flat_fl)⟩⟩
end Go.Proofs.YtaphdnpjpmnaeabDoor

namespace Go.Proofs.YtaphdnpjpmnaeabDoor
open Go.Am
theorem F19.fn : E.fn 19 = some ⟨75, (Tryd.f19.body.getD .skip), Tryd.f19.results.toList, [6, 2000016]⟩ := rfl
theorem F19_ok {F : Nat} {fl : Nat} {S0 : Cx fl} {r : Int × ((List ((List UInt8) × Int × Int)) × (List ((List UInt8) × (List UInt8) × Int)))} {t0 : (List ((List UInt8) × Int × Int)) × (List ((List UInt8) × (List UInt8) × Int))} {t1 : Int} {t2 : Int × Int × (List UInt8) × (List UInt8)} {bt0 : Nat} {vt0_0 : SV} {vt0_1 : SV} (h : F19 F t0 t1 t2 = some r) (hot0 : Bw S0 2 (.ptr bt0 0) [vt0_0, vt0_1]) (hot0_0 : Ow Y52 S0 3 vt0_0 t0.1) (hot0_1 : Ow Y82 S0 4 vt0_1 t0.2) : Ret E fl 19 [.sc (.ptr bt0 0), .sc (.int .i64 t1), .agg [.int .i64 t2.1, .int .i64 t2.2.1, .str t2.2.2.1, .str t2.2.2.2]] S0.m S0.n (fun v m' n' => ∃ S' : Cx fl, S'.m = m' ∧ S'.n = n' ∧ ChM S0 S' ∧ (∃ w49 w50 : SV, v = .sc (.int .i64 r.1) ∧ Bw S' 2 (.ptr bt0 0) [w49, w50] ∧ Ow Y52 S' 3 w49 r.2.1 ∧ Ow Y82 S' 4 w50 r.2.2)) := by
  unfold F19 at h
  refine Ret.walk F19.fn ?_
  have hM := ChM.refl S0
  refine WC.seq (WC.region ?_)
  refine WO.bxS (A := Y32) (S := S0) (u := (t2.1, t2.2.1, t2.2.2.1, t2.2.2.2)) 5 rfl rfl rfl rfl (fun v1 S2 c3 ho4 => ?_)
  have hot0_0 := hot0_0.to c3
  have hot0_1 := hot0_1.to c3
  have hot0 := hot0.to c3
  have hM := hM.to c3
  refine WO.asg rfl (WO.nil (thenL_n (WC.seq (WC.region (WO.mv rfl ?_)))))
  refine WO.fldS (j := 0) (q := 0) rfl ho4.at0 ho4.ptr rfl rfl rfl (by decide) ?_
  refine WO.ldB (j := 0) (q := 3) rfl rfl ho4 rfl rfl rfl ?_
  obtain ⟨r5, e6, h⟩ := bindS h
  refine WO.callE (S := S2) rfl rfl (F16_ok e6 hot0.pw hot0_0.vw hot0_1.vw) (fun S7 c8 => ?_)
  have hot0_0 := hot0_0.to c8
  have hot0_1 := hot0_1.to c8
  have hot0 := hot0.to c8
  have hM := hM.to c8
  have ho4 := ho4.to c8
  refine WO.asg rfl (WO.nil (thenL_n (WC.seq (WC.seq (WC.region (WO.mv rfl ?_))))))
  refine WO.bin rfl rfl (by decide) (by decide) rfl ?_
  refine WO.nil (thenL_n ?_)
  refine WC.cond rfl (fun q9 => ?_) (fun q9 => ?_)
  · have h := iteT q9 h
    refine WC.seq (WC.region (WO.asg rfl (WO.nil (thenL_n (WC.ret (thenL_r ?_))))))
    obtain rfl := someI h
    exact ⟨.inr rfl, _, _, rfl, rfl, ⟨S7, rfl, rfl, hM, vt0_0, vt0_1, rfl, hot0, hot0_0, hot0_1⟩⟩
  · have h := iteF q9 h
    refine WC.skip (thenL_n (WC.seq (WC.seq (WC.region (WO.mv rfl (WO.mv rfl ?_))))))
    refine WO.bin rfl rfl (by decide) (by decide) rfl ?_
    refine WO.mv rfl ?_
    refine WO.cutB (d := 23) 4 ((r5 == t1) || (decide (((t2.1, t2.2.1, t2.2.2.1, t2.2.2.2)).2.1 < 1))) (fun q10 => ?_) (fun q10 => ?_) ?_
    · refine WO.gno rfl rfl (WO.gno rfl rfl (WO.gno rfl rfl ?_))
      refine WO.pickT rfl rfl ?_
      refine WO.nil ?_
      exact ⟨rfl, rfl, (Cov.any rfl (orT q10) (Cov.skip rfl (Cov.skip rfl (Cov.skip rfl (Cov.skip rfl (Cov.skip rfl (Cov.refl _)))))))⟩
    · skip
      refine WO.gyes rfl rfl ?_
      refine WO.fldS (j := 0) (q := 0) rfl ho4.at0 ho4.ptr rfl rfl rfl (by decide) ?_
      refine WO.gyes rfl rfl ?_
      refine WO.ldB (j := 0) (q := 1) rfl rfl ho4 rfl rfl rfl ?_
      refine WO.gyes rfl rfl ?_
      refine WO.bin rfl rfl (by decide) (by decide) rfl ?_
      refine WO.pickF rfl rfl ?_
      refine WO.nil ?_
      exact ⟨rfl, rfl, (Cov.any rfl (orF q10) (Cov.skip rfl (Cov.skip rfl (Cov.skip rfl (Cov.skip rfl (Cov.skip rfl (Cov.refl _)))))))⟩
    refine WO.nil (thenL_n ?_)
    refine WC.cond rfl (fun q11 => ?_) (fun q11 => ?_)
    · have h := iteT q11 h
      refine WC.seq (WC.region (WO.asg rfl (WO.nil (thenL_n (WC.ret (thenL_r ?_))))))
      obtain rfl := someI h
      exact ⟨.inr rfl, _, _, rfl, rfl, ⟨S7, rfl, rfl, hM, vt0_0, vt0_1, rfl, hot0, hot0_0, hot0_1⟩⟩
    · have h := iteF q11 h
      refine WC.skip (thenL_n (WC.seq ?_))
      refine WC.drawN rfl rfl ?_
      have hot0_0z := hot0_0.oz
      have hot0_1z := hot0_1.oz
      have hot0z := hot0.lt
      have ho4z := ho4.lt
      refine WO.mv rfl ?_
      obtain ⟨r12, e13, h⟩ := bindS h
      refine WO.callF (S := S7) 6 rfl rfl (F13_ok e13 hot0.pw hot0_0.vw hot0_1.vw) Lay.flat_fl (fun v14 S16 c17 ho15 => ?_)
      have hot0_0z := hot0_0z.tow c17
      have hot0_1z := hot0_1z.tow c17
      have hot0_0 := hot0_0.to c17
      have hot0_1 := hot0_1.to c17
      have hot0 := hot0.to c17
      have hM := hM.to c17
      have ho4 := ho4.to c17
      refine WO.mv rfl (WO.mv rfl ?_)
      refine WO.fldS (j := 0) (q := 0) rfl ho4.at0 ho4.ptr rfl rfl rfl (by decide) ?_
      refine WO.ldBz (j := 0) (q := 1) rfl rfl ho4 rfl rfl ho4z (limLe_self _) ?_
      obtain ⟨r18, e19, h⟩ := bindS h
      refine WO.callF (S := S16) 7 rfl rfl (F42_ok e19 ho15.vw) Lay.flat_fl (fun v20 S22 c23 ho21 => ?_)
      have hot0_0z := hot0_0z.tow c23
      have hot0_1z := hot0_1z.tow c23
      have hot0_0 := hot0_0.to c23
      have hot0_1 := hot0_1.to c23
      have hot0 := hot0.to c23
      have hM := hM.to c23
      have ho4 := ho4.to c23
      have ho15 := ho15.to c23
      refine WO.mv rfl ?_
      refine WO.do rfl rfl ?_
      refine WO.do rfl rfl ?_
      refine WO.asg rfl (WO.asg rfl (WO.nil (thenL_n (WC.seq (WC.seq (WC.region (WO.mv rfl ?_)))))))
      refine WO.bin rfl rfl (by decide) (by decide) rfl ?_
      refine WO.nil (thenL_n ?_)
      refine WC.cond rfl (fun q24 => ?_) (fun q24 => ?_)
      · have h := iteT q24 h
        refine WC.seq (WC.region (WO.mv rfl (WO.asg rfl (WO.nil (thenL_n (WC.ret (thenL_r ?_)))))))
        obtain rfl := someI h
        exact ⟨.inr rfl, _, _, rfl, rfl, ⟨S22, rfl, rfl, hM, vt0_0, vt0_1, rfl, hot0, hot0_0, hot0_1⟩⟩
      · have h := iteF q24 h
        refine WC.skip (thenL_n (WC.seq ?_))
        refine WC.drawN rfl rfl ?_
        have hot0_0z := hot0_0.oz
        have hot0_1z := hot0_1.oz
        have hot0z := hot0.lt
        have ho4z := ho4.lt
        have ho15z := ho15.oz
        have ho21z := ho21.oz
        refine WO.mv rfl ?_
        refine WO.nck rfl hot0.isp ?_
        refine WO.fldS (j := 0) (q := 0) rfl hot0.at0 hot0.ptr rfl rfl rfl (by decide) ?_
        refine WO.ldW rfl rfl hot0 rfl rfl hot0z (limLe_self _) ?_
        refine WO.mv rfl (WO.mv rfl ?_)
        refine WO.nck rfl hot0.isp ?_
        refine WO.fldS (j := 0) (q := 0) rfl hot0.at0 hot0.ptr rfl rfl rfl (by decide) ?_
        refine WO.ldW rfl rfl hot0 rfl rfl hot0z (limLe_self _) ?_
        refine WO.mv rfl (WO.mv rfl (WO.mv rfl ?_))
        obtain ⟨x25, e26, h⟩ := bindS h
        refine WO.ixS rfl rfl ho21.slv (at?_lt e26) rfl ?_
        refine WO.ldF rfl ho21z (fun _ hi => hi.1) (at?_get e26) rfl rfl (limLe_self _) ?_
        refine WO.mv rfl (WO.mv rfl ?_)
        obtain ⟨x27, e28, h⟩ := bindS h
        refine WO.ixS rfl rfl ho21.slv (at?_lt e28) rfl ?_
        refine WO.ldF rfl ho21z (fun _ hi => hi.1) (at?_get e28) rfl rfl (limLe_self _) ?_
        obtain ⟨x29, e30, h⟩ := bindS h
        refine WO.ixS rfl rfl hot0_0.slv (at?_lt e30) rfl ?_
        refine WO.fldS rfl rfl (SlV.ptr hot0_0.slv (at?_nat e30)) rfl rfl rfl (by decide) ?_
        refine WO.stF (q := 1) (u' := (x29.1, x25, x29.2.2)) rfl rfl hot0_0 (at?_get e30) rfl (by decide) rfl rfl (fun S31 c32 hot0_0 => ?_)
        have hot0_1z := hot0_1z.tow c32
        have ho15z := ho15z.tow c32
        have ho21z := ho21z.tow c32
        have hot0_1 := hot0_1.to c32
        have hot0 := hot0.to c32
        have hM := hM.to c32
        have ho4 := ho4.to c32
        have ho15 := ho15.to c32
        have ho21 := ho21.to c32
        obtain ⟨x33, e34, h⟩ := bindS h
        refine WO.ixS rfl rfl hot0_0.slv (at?_lt e34) rfl ?_
        refine WO.fldS rfl rfl (SlV.ptr hot0_0.slv (at?_nat e34)) rfl rfl rfl (by decide) ?_
        refine WO.stF (q := 1) (u' := (x33.1, x27, x33.2.2)) rfl rfl hot0_0 (at?_get e34) rfl (by decide) rfl rfl (fun S35 c36 hot0_0 => ?_)
        have hot0_1z := hot0_1z.tow c36
        have ho15z := ho15z.tow c36
        have ho21z := ho21z.tow c36
        have hot0_1 := hot0_1.to c36
        have hot0 := hot0.to c36
        have hM := hM.to c36
        have ho4 := ho4.to c36
        have ho15 := ho15.to c36
        have ho21 := ho21.to c36
        refine WO.nil (thenL_n (WC.seq ?_))
        refine WC.drawN rfl rfl ?_
        have hot0_0z := hot0_0.oz
        have hot0_1z := hot0_1.oz
        have hot0z := hot0.lt
        have ho4z := ho4.lt
        have ho15z := ho15.oz
        have ho21z := ho21.oz
        refine WO.mv rfl (WO.mv rfl ?_)
        refine WO.nck rfl hot0.isp ?_
        refine WO.fldS (j := 0) (q := 0) rfl hot0.at0 hot0.ptr rfl rfl rfl (by decide) ?_
        refine WO.ldW rfl rfl hot0 rfl rfl hot0z (limLe_self _) ?_
        refine WO.fldS (j := 0) (q := 0) rfl ho4.at0 ho4.ptr rfl rfl rfl (by decide) ?_
        refine WO.ldBz (j := 0) (q := 2) rfl rfl ho4 rfl rfl ho4z (limLe_self _) ?_
        refine WO.fldS (j := 0) (q := 0) rfl ho4.at0 ho4.ptr rfl rfl rfl (by decide) ?_
        refine WO.ldBz (j := 0) (q := 3) rfl rfl ho4 rfl rfl ho4z (limLe_self _) ?_
        refine WO.fldS (j := 0) (q := 0) rfl ho4.at0 ho4.ptr rfl rfl rfl (by decide) ?_
        refine WO.ldBz (j := 0) (q := 1) rfl rfl ho4 rfl rfl ho4z (limLe_self _) ?_
        refine WO.do rfl rfl ?_
        refine WO.bsS (A := Y82) (S := S35) (M := [(((t2.1, t2.2.1, t2.2.2.1, t2.2.2.2)).2.2.1, ((t2.1, t2.2.1, t2.2.2.1, t2.2.2.2)).2.2.2, ((t2.1, t2.2.1, t2.2.2.1, t2.2.2.2)).2.1)]) (cs := [.str (((t2.1, t2.2.1, t2.2.2.1, t2.2.2.2)).2.2.1), .str (((t2.1, t2.2.1, t2.2.2.1, t2.2.2.2)).2.2.2), .int .i64 (((t2.1, t2.2.1, t2.2.2.1, t2.2.2.2)).2.1)]) 8 rfl rfl rfl ⟨[.str (((t2.1, t2.2.1, t2.2.2.1, t2.2.2.2)).2.2.1), .str (((t2.1, t2.2.1, t2.2.2.1, t2.2.2.2)).2.2.2), .int .i64 (((t2.1, t2.2.1, t2.2.2.1, t2.2.2.2)).2.1)], _, rfl, rfl, rfl⟩ rfl (fun v37 S38 c39 ho40 => ?_)
        have hot0_0z := hot0_0z.tow c39
        have hot0_1z := hot0_1z.tow c39
        have ho15z := ho15z.tow c39
        have ho21z := ho21z.tow c39
        have hot0_0 := hot0_0.to c39
        have hot0_1 := hot0_1.to c39
        have hot0 := hot0.to c39
        have hM := hM.to c39
        have ho4 := ho4.to c39
        have ho15 := ho15.to c39
        have ho21 := ho21.to c39
        obtain ⟨L41, e42, h⟩ := bindS h
        refine WO.appSB rfl rfl hot0_1 ho40.ro e42 rfl rfl rfl (fun v43 S44 c45 ho46 => ?_)
        have hot0_0z := hot0_0z.tow c45
        have ho15z := ho15z.tow c45
        have ho21z := ho21z.tow c45
        have hot0_0 := hot0_0.to c45
        have hot0 := hot0.to c45
        have hM := hM.to c45
        have ho4 := ho4.to c45
        have ho15 := ho15.to c45
        have ho21 := ho21.to c45
        have ho40 := ho40.to c45
        refine WO.nck rfl hot0.isp ?_
        refine WO.fldS (j := 0) (q := 0) rfl hot0.at0 hot0.ptr rfl rfl rfl (by decide) ?_
        refine WO.stW (S := S44) (r := [vt0_0, v43]) rfl rfl rfl rfl hot0 rfl rfl rfl rfl rfl (fun S47 c48 hot0 => ?_)
        have hot0_0z := hot0_0z.tow c48
        have ho15z := ho15z.tow c48
        have ho21z := ho21z.tow c48
        have hot0_0 := hot0_0.to c48
        have hM := hM.to c48
        have ho4 := ho4.to c48
        have ho15 := ho15.to c48
        have ho21 := ho21.to c48
        have ho40 := ho40.to c48
        have ho46 := ho46.to c48
        refine WO.nil (thenL_n (WC.seq (WC.region (WO.asg rfl (WO.nil (thenL_n (WC.ret ?_)))))))
        obtain rfl := someI h
        exact ⟨.inr rfl, _, _, rfl, rfl, ⟨S47, rfl, rfl, hM, vt0_0, v43, rfl, hot0, hot0_0, ho46⟩⟩
end Go.Proofs.YtaphdnpjpmnaeabDoor

namespace Go.Proofs.YtaphdnpjpmnaeabDoor
open Go.Am
theorem F43.fn : E.fn 43 = some ⟨33, (Tryd.f43.body.getD .skip), Tryd.f43.results.toList, []⟩ := rfl
theorem F43_ok {F : Nat} {fl n b : Nat} {m : Mem} {v : SV} {t0 M : (List ((List UInt8) × (List UInt8) × Int))} {t1 t2 : Int} (h : F43 F t0 t1 t2 = some M) (hfl : fl ≤ n) (kt0 : Ov Y82 fl n b m v t0) : Ret E fl 43 [.sc v, .sc (.int .i64 t1), .sc (.int .i64 t2)] m n (fun v' m' n' => ∃ w, v' = .sc w ∧ Oq Y82 n b m m' w M) := by
  unfold F43 at h
  replace h : delB? 3518437208883 t0 t1 t2 = some M := by split at h; exact h; cases h
  obtain ⟨⟨hq0, hq1, hq2, hq3, hq4⟩, rfl⟩ := delB?_some h
  obtain ⟨c, cs, rfl, h1, h2, h3, h4, h5, h6⟩ := kt0
  have h5 : cs.length = c * 3 := h5
  have hsz : Y82.sz = 3 := rfl
  refine Ret.walk F43.fn ?_
  repeat (first | refine WC.seq ?_ | refine thenL_n ?_ | refine thenL_r ?_ | refine WC.region ?_ | refine WO.nil ?_ | refine WC.skip ?_ | refine WC.ret ?_ | refine WO.asg rfl ?_ | refine WO.mv rfl ?_)
  refine WO.lenS rfl (.inr ⟨b, 0, c, rfl, h1⟩) rfl ?_
  refine WO.slH3 rfl rfl rfl rfl ⟨hq0, hq1, hq2, by omega⟩ rfl (fun w0 => ?_)
  repeat (first | refine WC.seq ?_ | refine thenL_n ?_ | refine thenL_r ?_ | refine WC.region ?_ | refine WO.nil ?_ | refine WC.skip ?_ | refine WC.ret ?_ | refine WO.asg rfl ?_ | refine WO.mv rfl ?_)
  refine WO.bin rfl rfl (by decide) (by decide) rfl ?_
  repeat (first | refine WC.seq ?_ | refine thenL_n ?_ | refine thenL_r ?_ | refine WC.region ?_ | refine WO.nil ?_ | refine WC.skip ?_ | refine WC.ret ?_ | refine WO.asg rfl ?_ | refine WO.mv rfl ?_)
  refine WC.cond rfl (fun q => ?_) (fun q => ?_)
  · repeat (first | refine WC.seq ?_ | refine thenL_n ?_ | refine thenL_r ?_ | refine WC.region ?_ | refine WO.nil ?_ | refine WC.skip ?_ | refine WC.ret ?_ | refine WO.asg rfl ?_ | refine WO.mv rfl ?_)
    have e : t1 = t2 := by simpa using q
    subst e
    have eL : t0.take t1.toNat ++ t0.drop t1.toNat = t0 := List.take_append_drop _ _
    exact ⟨.inr rfl, _, _, rfl, rfl, _, rfl, fun _ _ _ => rfl, c, cs, by rw [eL], by rw [eL]; exact h1, h4, h5, by rw [eL]; exact h6⟩
  · have e : ¬ t1 = t2 := by simpa using q
    repeat (first | refine WC.seq ?_ | refine thenL_n ?_ | refine thenL_r ?_ | refine WC.region ?_ | refine WO.nil ?_ | refine WC.skip ?_ | refine WC.ret ?_ | refine WO.asg rfl ?_ | refine WO.mv rfl ?_)
    refine WO.lenS rfl (.inr ⟨b, 0, c, rfl, h1⟩) rfl ?_
    repeat (first | refine WC.seq ?_ | refine thenL_n ?_ | refine thenL_r ?_ | refine WC.region ?_ | refine WO.nil ?_ | refine WC.skip ?_ | refine WC.ret ?_ | refine WO.asg rfl ?_ | refine WO.mv rfl ?_)
    refine WC.drawN rfl rfl ?_
    repeat (first | refine WC.seq ?_ | refine thenL_n ?_ | refine thenL_r ?_ | refine WC.region ?_ | refine WO.nil ?_ | refine WC.skip ?_ | refine WC.ret ?_ | refine WO.asg rfl ?_ | refine WO.mv rfl ?_)
    refine WO.slHto rfl rfl ⟨by omega, by omega⟩ rfl ?_
    repeat (first | refine WC.seq ?_ | refine thenL_n ?_ | refine thenL_r ?_ | refine WC.region ?_ | refine WO.nil ?_ | refine WC.skip ?_ | refine WC.ret ?_ | refine WO.asg rfl ?_ | refine WO.mv rfl ?_)
    refine WO.slHfrom rfl rfl ⟨by omega, by omega, h1⟩ h4 (by show 0 + t0.length * 3 ≤ cs.length; omega) rfl (fun w1 hw1 => ?_)
    refine WO.appHB (bnd := 3518437208883) rfl rfl hw1 h4 (by show 0 + c * 3 ≤ cs.length; omega) (by omega) (by omega) rfl h2 rfl ?_
    repeat (first | refine WC.seq ?_ | refine thenL_n ?_ | refine thenL_r ?_ | refine WC.region ?_ | refine WO.nil ?_ | refine WC.skip ?_ | refine WC.ret ?_ | refine WO.asg rfl ?_ | refine WO.mv rfl ?_)
    refine WO.lenS rfl (.inr ⟨b, 0, c, rfl, by omega⟩) rfl ?_
    repeat (first | refine WC.seq ?_ | refine thenL_n ?_ | refine thenL_r ?_ | refine WC.region ?_ | refine WO.nil ?_ | refine WC.skip ?_ | refine WC.ret ?_ | refine WO.asg rfl ?_ | refine WO.mv rfl ?_)
    refine WO.slHmid rfl rfl rfl ⟨by omega, by omega, by omega, by omega⟩ rfl ?_
    refine WO.clrH rfl (Tr.get_set_same _ _ _) ?_ h2 rfl (fun z hz => ?_)
    · show _ ≤ (splice cs (0 + t1.toNat * 3) _).length
      simp only [splice, List.length_append, List.length_take, List.length_drop, Int.toNat_natCast, hsz, Nat.zero_add]
      omega
    · repeat (first | refine WC.seq ?_ | refine thenL_n ?_ | refine thenL_r ?_ | refine WC.region ?_ | refine WO.nil ?_ | refine WC.skip ?_ | refine WC.ret ?_ | refine WO.asg rfl ?_ | refine WO.mv rfl ?_)
      have hl : (t0.take t1.toNat ++ t0.drop t2.toNat).length = t1.toNat + (t0.length - t2.toNat) := by simp; omega
      refine ⟨.inr rfl, _, _, rfl, rfl, _, rfl, fun i _ hb => by rw [Tr.get_set_ne _ _ hb, Tr.get_set_ne _ _ hb], c, _, by rw [hl], by rw [hl]; omega, Tr.get_set_same _ _ _, ?_, ?_⟩
      · simp only [splice, List.length_append, List.length_take, List.length_drop, Int.toNat_natCast, hz, hsz, Nat.zero_add]
        omega
      · have hR : RL Y82 (fun i => i < n ∧ i ≠ b) m _ _ := del_RL (zz := z) (p := t1.toNat) (r := t2.toNat) (lo := t1.toNat + (t0.length - t2.toNat)) h6 (by omega) (by omega) (by rw [hsz]; omega) rfl
        exact RL.fl Lay.flat_fl hR
end Go.Proofs.YtaphdnpjpmnaeabDoor

namespace Go.Proofs.YtaphdnpjpmnaeabDoor
open Go.Am
theorem F20.fn : E.fn 20 = some ⟨122, (Tryd.f20.body.getD .skip), Tryd.f20.results.toList, [7]⟩ := rfl
theorem F20_ok {F : Nat} {fl : Nat} {S0 : Cx fl} {r : ((List UInt8) × Int) × ((List ((List UInt8) × Int × Int)) × (List ((List UInt8) × (List UInt8) × Int)))} {t0 : (List ((List UInt8) × Int × Int)) × (List ((List UInt8) × (List UInt8) × Int))} {t1 : List UInt8} {bt0 : Nat} {vt0_0 : SV} {vt0_1 : SV} (h : F20 F t0 t1 = some r) (hot0 : Bw S0 2 (.ptr bt0 0) [vt0_0, vt0_1]) (hot0_0 : Ow Y52 S0 3 vt0_0 t0.1) (hot0_1 : Ow Y82 S0 4 vt0_1 t0.2) : Ret E fl 20 [.sc (.ptr bt0 0), .sc (.str t1)] S0.m S0.n (fun v m' n' => ∃ S' : Cx fl, S'.m = m' ∧ S'.n = n' ∧ ChM S0 S' ∧ (∃ w78 w79 : SV, v = .agg [.str r.1.1, .int .i64 r.1.2] ∧ Bw S' 2 (.ptr bt0 0) [w78, w79] ∧ Ow Y52 S' 3 w78 r.2.1 ∧ Ow Y82 S' 4 w79 r.2.2)) := by
  unfold F20 at h
  refine Ret.walk F20.fn ?_
  have hM := ChM.refl S0
  refine WC.seq (WC.region ?_)
  refine WO.alS (A := Y34) (S := S0) (z0 := (([], 0) : (List UInt8) × Int)) 5 rfl rfl rfl (fun v1 S2 c3 ho4 => ?_)
  have hot0_0 := hot0_0.to c3
  have hot0_1 := hot0_1.to c3
  have hot0 := hot0.to c3
  have hM := hM.to c3
  refine WO.nil (thenL_n (WC.seq (WC.region (WO.asg rfl (WO.nil (thenL_n (WC.seq (WC.seq (WC.region ?_)))))))))
  refine WO.mv rfl ?_
  refine WO.nck rfl hot0.isp ?_
  refine WO.fldS (j := 0) (q := 0) rfl hot0.at0 hot0.ptr rfl rfl rfl (by decide) ?_
  refine WO.ldW rfl rfl hot0 rfl rfl hot0.lt rfl ?_
  refine WO.lenS rfl hot0_1.slv rfl ?_
  refine WO.bin rfl rfl (by decide) (by decide) rfl ?_
  refine WO.asg rfl (WO.nil (thenL_n (WC.block ?_)))
  obtain ⟨b69, e70, h⟩ := bindS h
  refine WC.loopD e70 (fun s5 l' m' n' => ∃ S8 : Cx fl, ∃ v9 v10 : SV, S8.m = m' ∧ S8.n = n' ∧ Cov l' [(0, .sc ((.ptr bt0 0))), (1, .sc (.str t1)), (4, .sc v1), (5, .sc (.int .i64 s5.1)), (6, .sc (.int .i64 s5.2.1))] ∧ ChM S0 S8 ∧ Bw S8 2 (.ptr bt0 0) [v9, v10] ∧ Bk Y34 S8 5 v1 ((([], 0) : (List UInt8) × Int)) ∧ Ow Y52 S8 3 v9 s5.2.2.1 ∧ Ow Y82 S8 4 v10 s5.2.2.2) (fun b e l' m' n' => e = .exit 0 ∧ ∃ S11 : Cx fl, ∃ v12 v13 : SV, S11.m = m' ∧ S11.n = n' ∧ Cov l' [(0, .sc ((.ptr bt0 0))), (1, .sc (.str t1)), (4, .sc v1), (5, .sc (.int .i64 b.1))] ∧ ChM S0 S11 ∧ Bw S11 2 (.ptr bt0 0) [v12, v13] ∧ Bk Y34 S11 5 v1 ((([], 0) : (List UInt8) × Int)) ∧ Ow Y52 S11 3 v12 b.2.1 ∧ Ow Y82 S11 4 v13 b.2.2) (by exact ⟨S2, vt0_0, vt0_1, rfl, rfl, (Cov.cons rfl (Cov.cons rfl (Cov.cons rfl (Cov.cons rfl (Cov.cons rfl (Cov.nil _)))))), hM, hot0, ho4, hot0_0, hot0_1⟩) ?_ ?_
  · clear h
    rintro s5 q _ _ _ ⟨S14, v15, v16, rfl, rfl, hc17, hM, hot0, ho4, hot0c0, hot0c1⟩ h
    unfold F20_l0 at h
    refine WC.cov hc17 (WC.seq (WC.seq (WC.region (WO.mv rfl ?_))))
    refine WO.bin rfl rfl (by decide) (by decide) rfl ?_
    refine WO.nil (thenL_n ?_)
    refine WC.cond rfl (fun q18 => ?_) (fun q18 => ?_)
    · have h := iteT q18 h
      refine WC.skip (thenL_n (WC.seq (WC.block (WC.seq (WC.region (WO.mv rfl ?_))))))
      refine WO.nck rfl hot0.isp ?_
      refine WO.fldS (j := 0) (q := 0) rfl hot0.at0 hot0.ptr rfl rfl rfl (by decide) ?_
      refine WO.ldW rfl rfl hot0 rfl rfl hot0.lt rfl ?_
      refine WO.mv rfl ?_
      obtain ⟨x19, e20, h⟩ := bindS h
      refine WO.ixS rfl rfl hot0c1.slv (at?_lt e20) rfl ?_
      refine WO.ldA rfl hot0c1.ro (fun _ hi => hi) (at?_get e20) rfl rfl ?_
      refine WO.alS (A := Y82) (S := S14) (z0 := (([], [], 0) : (List UInt8) × (List UInt8) × Int)) 6 rfl rfl rfl (fun v21 S22 c23 ho24 => ?_)
      have hM := hM.to c23
      have hot0 := hot0.to c23
      have ho4 := ho4.to c23
      have hot0c0 := hot0c0.to c23
      have hot0c1 := hot0c1.to c23
      refine WO.stBA (u' := (x19.1, x19.2.1, x19.2.2)) rfl ho24.at0 rfl ho24 rfl rfl (fun S25 c26 ho24 => ?_)
      have hM := hM.to c26
      have hot0 := hot0.to c26
      have ho4 := ho4.to c26
      have hot0c0 := hot0c0.to c26
      have hot0c1 := hot0c1.to c26
      refine WO.nil (thenL_n (WC.seq (WC.seq (WC.region ?_))))
      refine WO.fldS (j := 0) (q := 0) rfl ho24.at0 ho24.ptr rfl rfl rfl (by decide) ?_
      refine WO.ldB (j := 0) (q := 0) rfl rfl ho24 rfl rfl rfl ?_
      refine WO.mv rfl ?_
      refine WO.do rfl rfl ?_
      refine WO.nil (thenL_n ?_)
      refine WC.cond rfl (fun q27 => ?_) (fun q27 => ?_)
      · have h := iteT q27 h
        refine WC.exit (thenL_e (blockL_s (thenL_n (WC.region (WO.mv rfl ?_)))))
        refine WO.bin rfl rfl (by decide) (by decide) rfl ?_
        refine WO.asg rfl (WO.nil (thenL_n ?_))
        obtain rfl := someI h
        exact ⟨_, rfl, ⟨S25, v15, v16, rfl, rfl, (Cov.cons rfl (Cov.cons rfl (Cov.cons rfl (Cov.cons rfl (Cov.cons rfl (Cov.nil _)))))), hM, hot0, ho4, hot0c0, hot0c1⟩⟩
      · have h := iteF q27 h
        refine WC.skip (thenL_n (WC.seq ?_))
        refine WC.drawN rfl rfl ?_
        have hot0z := hot0.lt
        have ho4z := ho4.lt
        have hot0c0z := hot0c0.oz
        have hot0c1z := hot0c1.oz
        have ho24z := ho24.lt
        refine WO.mv rfl ?_
        refine WO.fldS (j := 0) (q := 0) rfl ho24.at0 ho24.ptr rfl rfl rfl (by decide) ?_
        refine WO.ldBz (j := 0) (q := 0) rfl rfl ho24 rfl rfl ho24z (limLe_self _) ?_
        obtain ⟨r28, e29, h⟩ := bindS h
        refine WO.callE (S := S25) rfl rfl (F16_ok e29 hot0.pw hot0c0.vw hot0c1.vw) (fun S30 c31 => ?_)
        have hot0c0z := hot0c0z.tow c31
        have hot0c1z := hot0c1z.tow c31
        have hM := hM.to c31
        have hot0 := hot0.to c31
        have ho4 := ho4.to c31
        have hot0c0 := hot0c0.to c31
        have hot0c1 := hot0c1.to c31
        have ho24 := ho24.to c31
        refine WO.mv rfl ?_
        refine WO.fldS (j := 0) (q := 0) rfl ho24.at0 ho24.ptr rfl rfl rfl (by decide) ?_
        refine WO.ldBz (j := 0) (q := 1) rfl rfl ho24 rfl rfl ho24z (limLe_self _) ?_
        obtain ⟨r32, e33, h⟩ := bindS h
        refine WO.callE (S := S30) rfl rfl (F16_ok e33 hot0.pw hot0c0.vw hot0c1.vw) (fun S34 c35 => ?_)
        have hot0c0z := hot0c0z.tow c35
        have hot0c1z := hot0c1z.tow c35
        have hM := hM.to c35
        have hot0 := hot0.to c35
        have ho4 := ho4.to c35
        have hot0c0 := hot0c0.to c35
        have hot0c1 := hot0c1.to c35
        have ho24 := ho24.to c35
        refine WO.asg rfl (WO.asg rfl (WO.nil (thenL_n (WC.seq ?_))))
        refine WC.drawP rfl rfl ?_
        refine WO.fldS (j := 0) (q := 0) rfl ho24.at0 ho24.ptr rfl rfl rfl (by decide) ?_
        refine WO.ldB (j := 0) (q := 2) rfl rfl ho24 rfl rfl (limLe_self _) ?_
        refine WO.mv rfl ?_
        refine WO.nck rfl hot0.isp ?_
        refine WO.fldS (j := 0) (q := 0) rfl hot0.at0 hot0.ptr rfl rfl rfl (by decide) ?_
        refine WO.ldW rfl rfl hot0 rfl rfl hot0.lt (limLe_self _) ?_
        refine WO.mv rfl ?_
        obtain ⟨x36, e37, h⟩ := bindS h
        refine WO.ixS rfl rfl hot0c0.slv (at?_lt e37) rfl ?_
        refine WO.fldS rfl rfl (SlV.ptr hot0c0.slv (at?_nat e37)) rfl rfl rfl (by decide) ?_
        refine WO.ldF rfl hot0c0.ro (fun _ hi => hi) (at?_get e37) rfl rfl (limLe_self _) ?_
        refine WO.mv rfl ?_
        refine WO.nck rfl hot0.isp ?_
        refine WO.fldS (j := 0) (q := 0) rfl hot0.at0 hot0.ptr rfl rfl rfl (by decide) ?_
        refine WO.ldW rfl rfl hot0 rfl rfl hot0.lt (limLe_self _) ?_
        refine WO.mv rfl ?_
        obtain ⟨x38, e39, h⟩ := bindS h
        refine WO.ixS rfl rfl hot0c0.slv (at?_lt e39) rfl ?_
        refine WO.fldS rfl rfl (SlV.ptr hot0c0.slv (at?_nat e39)) rfl rfl rfl (by decide) ?_
        refine WO.ldF rfl hot0c0.ro (fun _ hi => hi) (at?_get e39) rfl rfl (limLe_self _) ?_
        refine WO.bin rfl rfl (by decide) (by decide) rfl ?_
        refine WO.min3 rfl rfl rfl rfl rfl ?_
        refine WO.asg rfl (WO.nil (thenL_n (WC.seq (WC.region (WO.mv rfl ?_)))))
        refine WO.nck rfl hot0.isp ?_
        refine WO.fldS (j := 0) (q := 0) rfl hot0.at0 hot0.ptr rfl rfl rfl (by decide) ?_
        refine WO.ldW rfl rfl hot0 rfl rfl hot0.lt rfl ?_
        refine WO.mv rfl ?_
        obtain ⟨x40, e41, h⟩ := bindS h
        refine WO.ixS rfl rfl hot0c0.slv (at?_lt e41) rfl ?_
        refine WO.fldS rfl rfl (SlV.ptr hot0c0.slv (at?_nat e41)) rfl rfl rfl (by decide) ?_
        refine WO.ldF rfl hot0c0.ro (fun _ hi => hi) (at?_get e41) rfl rfl rfl ?_
        refine WO.mv rfl ?_
        refine WO.bin rfl rfl (by decide) (by decide) rfl ?_
        obtain ⟨x42, e43, h⟩ := bindS h
        refine WO.ixS rfl rfl hot0c0.slv (at?_lt e43) rfl ?_
        refine WO.fldS rfl rfl (SlV.ptr hot0c0.slv (at?_nat e43)) rfl rfl rfl (by decide) ?_
        refine WO.stF (q := 1) (u' := (x42.1, (wrapA .i64 (x40.2.1 - (minI (minI ((x19.1, x19.2.1, x19.2.2)).2.2 x36.2.1) (wrapA .i64 (100 - x38.2.1))))), x42.2.2)) rfl rfl hot0c0 (at?_get e43) rfl (by decide) rfl rfl (fun S44 c45 hot0c0 => ?_)
        have hM := hM.to c45
        have hot0 := hot0.to c45
        have ho4 := ho4.to c45
        have hot0c1 := hot0c1.to c45
        have ho24 := ho24.to c45
        refine WO.nil (thenL_n (WC.seq (WC.region (WO.mv rfl ?_))))
        refine WO.nck rfl hot0.isp ?_
        refine WO.fldS (j := 0) (q := 0) rfl hot0.at0 hot0.ptr rfl rfl rfl (by decide) ?_
        refine WO.ldW rfl rfl hot0 rfl rfl hot0.lt rfl ?_
        refine WO.mv rfl ?_
        obtain ⟨x46, e47, h⟩ := bindS h
        refine WO.ixS rfl rfl hot0c0.slv (at?_lt e47) rfl ?_
        refine WO.fldS rfl rfl (SlV.ptr hot0c0.slv (at?_nat e47)) rfl rfl rfl (by decide) ?_
        refine WO.ldF rfl hot0c0.ro (fun _ hi => hi) (at?_get e47) rfl rfl rfl ?_
        refine WO.mv rfl ?_
        refine WO.bin rfl rfl (by decide) (by decide) rfl ?_
        obtain ⟨x48, e49, h⟩ := bindS h
        refine WO.ixS rfl rfl hot0c0.slv (at?_lt e49) rfl ?_
        refine WO.fldS rfl rfl (SlV.ptr hot0c0.slv (at?_nat e49)) rfl rfl rfl (by decide) ?_
        refine WO.stF (q := 1) (u' := (x48.1, (wrapA .i64 (x46.2.1 + (minI (minI ((x19.1, x19.2.1, x19.2.2)).2.2 x36.2.1) (wrapA .i64 (100 - x38.2.1))))), x48.2.2)) rfl rfl hot0c0 (at?_get e49) rfl (by decide) rfl rfl (fun S50 c51 hot0c0 => ?_)
        have hM := hM.to c51
        have hot0 := hot0.to c51
        have ho4 := ho4.to c51
        have hot0c1 := hot0c1.to c51
        have ho24 := ho24.to c51
        refine WO.nil (thenL_n (WC.seq (WC.region (WO.mv rfl (WO.mv rfl ?_)))))
        refine WO.bin rfl rfl (by decide) (by decide) rfl ?_
        refine WO.asg rfl (WO.nil (thenL_n (WC.seq (WC.region (WO.mv rfl ?_)))))
        refine WO.nck rfl hot0.isp ?_
        refine WO.fldS (j := 0) (q := 0) rfl hot0.at0 hot0.ptr rfl rfl rfl (by decide) ?_
        refine WO.ldW rfl rfl hot0 rfl rfl hot0.lt rfl ?_
        refine WO.mv rfl ?_
        obtain ⟨x52, e53, h⟩ := bindS h
        refine WO.ixS rfl rfl hot0c1.slv (at?_lt e53) rfl ?_
        refine WO.fldS rfl rfl (SlV.ptr hot0c1.slv (at?_nat e53)) rfl rfl rfl (by decide) ?_
        refine WO.ldF rfl hot0c1.ro (fun _ hi => hi) (at?_get e53) rfl rfl rfl ?_
        refine WO.mv rfl ?_
        refine WO.bin rfl rfl (by decide) (by decide) rfl ?_
        obtain ⟨x54, e55, h⟩ := bindS h
        refine WO.ixS rfl rfl hot0c1.slv (at?_lt e55) rfl ?_
        refine WO.fldS rfl rfl (SlV.ptr hot0c1.slv (at?_nat e55)) rfl rfl rfl (by decide) ?_
        refine WO.stF (q := 2) (u' := (x54.1, x54.2.1, (wrapA .i64 (x52.2.2 - (minI (minI ((x19.1, x19.2.1, x19.2.2)).2.2 x36.2.1) (wrapA .i64 (100 - x38.2.1))))))) rfl rfl hot0c1 (at?_get e55) rfl (by decide) rfl rfl (fun S56 c57 hot0c1 => ?_)
        have hM := hM.to c57
        have hot0 := hot0.to c57
        have ho4 := ho4.to c57
        have hot0c0 := hot0c0.to c57
        have ho24 := ho24.to c57
        refine WO.nil (thenL_n (WC.seq (WC.region (WO.mv rfl ?_))))
        refine WO.nck rfl hot0.isp ?_
        refine WO.fldS (j := 0) (q := 0) rfl hot0.at0 hot0.ptr rfl rfl rfl (by decide) ?_
        refine WO.ldW rfl rfl hot0 rfl rfl hot0.lt rfl ?_
        refine WO.mv rfl ?_
        obtain ⟨x58, e59, h⟩ := bindS h
        refine WO.ixS rfl rfl hot0c1.slv (at?_lt e59) rfl ?_
        refine WO.fldS rfl rfl (SlV.ptr hot0c1.slv (at?_nat e59)) rfl rfl rfl (by decide) ?_
        refine WO.ldF rfl hot0c1.ro (fun _ hi => hi) (at?_get e59) rfl rfl rfl ?_
        refine WO.bin rfl rfl (by decide) (by decide) rfl ?_
        refine WO.nil (thenL_n ?_)
        refine WC.cond rfl (fun q60 => ?_) (fun q60 => ?_)
        · have h := iteT q60 h
          refine WC.region (WO.mv rfl (WO.mv rfl ?_))
          refine WO.nck rfl hot0.isp ?_
          refine WO.fldS (j := 0) (q := 0) rfl hot0.at0 hot0.ptr rfl rfl rfl (by decide) ?_
          refine WO.ldW rfl rfl hot0 rfl rfl hot0.lt rfl ?_
          refine WO.mv rfl (WO.mv rfl ?_)
          refine WO.bin rfl rfl (by decide) (by decide) rfl ?_
          obtain ⟨r61, e62, h⟩ := bindS h
          refine WO.callO (S := S56) hot0c1 (delB?_ne e62) rfl rfl (fun bq hI => F43_ok e62 S56.le hI) Lay.flat_fl (fun v63 S64 c65 ho66 => ?_)
          have hM := hM.to c65
          have hot0 := hot0.to c65
          have ho4 := ho4.to c65
          have hot0c0 := hot0c0.to c65
          have ho24 := ho24.to c65
          refine WO.nck rfl hot0.isp ?_
          refine WO.fldS (j := 0) (q := 0) rfl hot0.at0 hot0.ptr rfl rfl rfl (by decide) ?_
          refine WO.stW (S := S64) (r := [v15, v63]) rfl rfl rfl rfl hot0 rfl rfl rfl rfl rfl (fun S67 c68 hot0 => ?_)
          have hM := hM.to c68
          have ho4 := ho4.to c68
          have hot0c0 := hot0c0.to c68
          have ho24 := ho24.to c68
          have ho66 := ho66.to c68
          refine WO.nil (blockL_n (thenL_n (WC.region (WO.mv rfl ?_))))
          refine WO.bin rfl rfl (by decide) (by decide) rfl ?_
          refine WO.asg rfl (WO.nil (thenL_n ?_))
          obtain rfl := someI h
          exact ⟨_, rfl, ⟨S67, v15, v63, rfl, rfl, (Cov.cons rfl (Cov.cons rfl (Cov.cons rfl (Cov.cons rfl (Cov.cons rfl (Cov.nil _)))))), hM, hot0, ho4, hot0c0, ho66⟩⟩
        · have h := iteF q60 h
          refine WC.skip (blockL_n (thenL_n (WC.region (WO.mv rfl ?_))))
          refine WO.bin rfl rfl (by decide) (by decide) rfl ?_
          refine WO.asg rfl (WO.nil (thenL_n ?_))
          obtain rfl := someI h
          exact ⟨_, rfl, ⟨S56, v15, v16, rfl, rfl, (Cov.cons rfl (Cov.cons rfl (Cov.cons rfl (Cov.cons rfl (Cov.cons rfl (Cov.nil _)))))), hM, hot0, ho4, hot0c0, hot0c1⟩⟩
    · have h := iteF q18 h
      refine WC.exit (thenL_e (thenL_e ?_))
      obtain rfl := someI h
      exact ⟨_, rfl, rfl, ⟨S14, v15, v16, rfl, rfl, (Cov.cons rfl (Cov.cons rfl (Cov.cons rfl (Cov.cons rfl (Cov.nil _))))), hM, hot0, ho4, hot0c0, hot0c1⟩⟩
  rintro _ _ _ _ ⟨rfl, ⟨S71, v72, v73, rfl, rfl, hc74, hM, hot0, ho4, hot0c0, hot0c1⟩⟩
  refine blockL_s (thenL_n (WC.cov hc74 (WC.seq (WC.region (WO.mv rfl (WO.mv rfl ?_))))))
  refine WO.do rfl rfl ?_
  refine WO.stBA (u' := (t1, b69.1)) rfl ho4.at0 rfl ho4 rfl rfl (fun S75 c76 ho4 => ?_)
  have hM := hM.to c76
  have hot0 := hot0.to c76
  have hot0c0 := hot0c0.to c76
  have hot0c1 := hot0c1.to c76
  refine WO.nil (thenL_n (WC.ret ?_))
  have hcell77 := ho4
  obtain rfl := someI h
  exact ⟨.inr rfl, _, _, (resK_b hcell77 (Cov.refl _) rfl rfl rfl), rfl, ⟨S75, rfl, rfl, hM, v72, v73, rfl, hot0, hot0c0, hot0c1⟩⟩
end Go.Proofs.YtaphdnpjpmnaeabDoor

namespace Go.Proofs.YtaphdnpjpmnaeabDoor
open Go.Am
theorem F6.fn : E.fn 6 = some ⟨113, (Tryd.f6.body.getD .skip), Tryd.f6.results.toList, [5, 3000023, 3000028, 3000030, 2000011, 2000016, 2000020]⟩ := rfl
theorem F6_ok {F : Nat} {fl : Nat} {S0 : Cx fl} {r : ((List UInt8) × Int) × Int × ((List ((List UInt8) × Int × Int)) × (List ((List UInt8) × (List UInt8) × Int)))} {t0 : (List ((List UInt8) × Int × Int)) × (List ((List UInt8) × (List UInt8) × Int))} {t1 : Int × Int × (List UInt8) × (List UInt8)} {bt0 : Nat} {vt0_0 : SV} {vt0_1 : SV} (h : F6 F t0 t1 = some r) (hot0 : Bw S0 2 (.ptr bt0 0) [vt0_0, vt0_1]) (hot0_0 : Ow Y52 S0 3 vt0_0 t0.1) (hot0_1 : Ow Y82 S0 4 vt0_1 t0.2) : Ret E fl 6 [.sc (.ptr bt0 0), .agg [.int .i64 t1.1, .int .i64 t1.2.1, .str t1.2.2.1, .str t1.2.2.2]] S0.m S0.n (fun v m' n' => ∃ S' : Cx fl, S'.m = m' ∧ S'.n = n' ∧ ChM S0 S' ∧ (∃ w197 w198 : SV, v = .tup [.agg [.str r.1.1, .int .i64 r.1.2], .sc (.int .i64 r.2.1)] ∧ Bw S' 2 (.ptr bt0 0) [w197, w198] ∧ Ow Y52 S' 3 w197 r.2.2.1 ∧ Ow Y82 S' 4 w198 r.2.2.2)) := by
  unfold F6 at h
  refine Ret.walk F6.fn ?_
  have hM := ChM.refl S0
  refine WC.seq (WC.region ?_)
  refine WO.bxS (A := Y32) (S := S0) (u := (t1.1, t1.2.1, t1.2.2.1, t1.2.2.2)) 5 rfl rfl rfl rfl (fun v1 S2 c3 ho4 => ?_)
  have hot0_0 := hot0_0.to c3
  have hot0_1 := hot0_1.to c3
  have hot0 := hot0.to c3
  have hM := hM.to c3
  refine WO.alS (A := Y34) (S := S2) (z0 := (([], 0) : (List UInt8) × Int)) 6 rfl rfl rfl (fun v5 S6 c7 ho8 => ?_)
  have hot0_0 := hot0_0.to c7
  have hot0_1 := hot0_1.to c7
  have hot0 := hot0.to c7
  have hM := hM.to c7
  have ho4 := ho4.to c7
  refine WO.asg rfl (WO.nil (thenL_n (WC.seq (WC.region ?_))))
  refine WO.do rfl rfl ?_
  refine WO.alS (A := Y34) (S := S6) (z0 := (([], 0) : (List UInt8) × Int)) 7 rfl rfl rfl (fun v9 S10 c11 ho12 => ?_)
  have hot0_0 := hot0_0.to c11
  have hot0_1 := hot0_1.to c11
  have hot0 := hot0.to c11
  have hM := hM.to c11
  have ho4 := ho4.to c11
  have ho8 := ho8.to c11
  refine WO.stBA (u' := (([], 0) : (List UInt8) × Int)) rfl ho12.at0 rfl ho12 rfl rfl (fun S13 c14 ho12 => ?_)
  have hot0_0 := hot0_0.to c14
  have hot0_1 := hot0_1.to c14
  have hot0 := hot0.to c14
  have hM := hM.to c14
  have ho4 := ho4.to c14
  have ho8 := ho8.to c14
  refine WO.nil (thenL_n (WC.seq (WC.seq (WC.region ?_))))
  refine WO.fldS (j := 0) (q := 0) rfl ho4.at0 ho4.ptr rfl rfl rfl (by decide) ?_
  refine WO.ldB (j := 0) (q := 0) rfl rfl ho4 rfl rfl rfl ?_
  refine WO.nil (thenL_n (WC.block (WC.seq (WC.region ?_))))
  refine WO.bin rfl rfl (by decide) (by decide) rfl ?_
  refine WO.asg rfl (WO.nil (thenL_n ?_))
  refine WC.cond rfl (fun q15 => ?_) (fun q15 => ?_)
  · have h := iteT q15 h
    refine WC.seq ?_
    refine WC.drawN rfl rfl ?_
    have hot0_0z := hot0_0.oz
    have hot0_1z := hot0_1.oz
    have hot0z := hot0.lt
    have ho4z := ho4.lt
    have ho8z := ho8.lt
    have ho12z := ho12.lt
    refine WO.mv rfl (WO.mv rfl ?_)
    obtain ⟨r16, e17, h⟩ := bindS h
    refine WO.callF (S := S13) 8 rfl rfl (F13_ok e17 hot0.pw hot0_0.vw hot0_1.vw) Lay.flat_fl (fun v18 S20 c21 ho19 => ?_)
    have hot0_0z := hot0_0z.tow c21
    have hot0_1z := hot0_1z.tow c21
    have hot0_0 := hot0_0.to c21
    have hot0_1 := hot0_1.to c21
    have hot0 := hot0.to c21
    have hM := hM.to c21
    have ho4 := ho4.to c21
    have ho8 := ho8.to c21
    have ho12 := ho12.to c21
    refine WO.fldS (j := 0) (q := 0) rfl ho4.at0 ho4.ptr rfl rfl rfl (by decide) ?_
    refine WO.ldBz (j := 0) (q := 1) rfl rfl ho4 rfl rfl ho4z (limLe_self _) ?_
    obtain ⟨r22, e23, h⟩ := bindS h
    refine WO.callE (S := S20) rfl rfl (F12_ok e23 ho19.vw) (fun S24 c25 => ?_)
    have hot0_0z := hot0_0z.tow c25
    have hot0_1z := hot0_1z.tow c25
    have hot0_0 := hot0_0.to c25
    have hot0_1 := hot0_1.to c25
    have hot0 := hot0.to c25
    have hM := hM.to c25
    have ho4 := ho4.to c25
    have ho8 := ho8.to c25
    have ho12 := ho12.to c25
    have ho19 := ho19.to c25
    refine WO.do rfl rfl ?_
    refine WO.do rfl rfl ?_
    obtain ⟨r26, e27, h⟩ := bindS h
    refine WO.callG (S := S24) [(2, 2), (3, 3), (4, 4)] [(2, 2), (3, 3), (4, 4)] rfl rfl (F11_ok (S0 := S24.mp [(2, 2), (3, 3), (4, 4)]) e27 (hot0.mp rfl) (hot0_0.mp rfl) (hot0_1.mp rfl)) (fun _ S32 S33 hb hR => ?_)
    obtain ⟨v28, v30, rfl, hR0, hR1, hR2⟩ := hR
    have c34 := Cx.mg_ch S24 3 2
    have hM := hM.to c34
    have ho4 := ho4.to c34
    have ho8 := ho8.to c34
    have ho12 := ho12.to c34
    have ho19 := ho19.to c34
    have c35 := Cx.mg_ch (S24.mg 3 2) 4 2
    have hM := hM.to c35
    have ho4 := ho4.to c35
    have ho8 := ho8.to c35
    have ho12 := ho12.to c35
    have ho19 := ho19.to c35
    have c36 : Ch 2 ((S24.mg 3 2).mg 4 2) S33 := hb.ch [3, 4] 2
    have hM := hM.to c36
    have ho4 := ho4.to c36
    have ho8 := ho8.to c36
    have ho12 := ho12.to c36
    have ho19 := ho19.to c36
    have hot0 := hR0.bk hb rfl
    have ho29 := hR1.bkF hb rfl Lay.flat_fl
    have ho31 := hR2.bkF hb rfl Lay.flat_fl
    refine WO.do rfl rfl ?_
    refine WO.do rfl rfl ?_
    refine WO.stBA (u' := (r26.1.1, r26.1.2)) rfl ho8.at0 rfl ho8 rfl rfl (fun S37 c38 ho8 => ?_)
    have hot0 := hot0.to c38
    have hM := hM.to c38
    have ho4 := ho4.to c38
    have ho12 := ho12.to c38
    have ho19 := ho19.to c38
    have ho29 := ho29.to c38
    have ho31 := ho31.to c38
    refine WO.asg rfl (WO.nil (thenL_n (WC.ret (blockL_r (thenL_r ?_)))))
    have hcell39 := ho8
    obtain rfl := someI h
    exact ⟨.inr rfl, _, _, (resK_b hcell39 (Cov.refl _) rfl rfl (resK_t (Cov.refl _) rfl rfl)), rfl, ⟨S37, rfl, rfl, hM, v28, v30, rfl, hot0, ho29, ho31⟩⟩
  · have h := iteF q15 h
    refine WC.seq (WC.region ?_)
    refine WO.bin rfl rfl (by decide) (by decide) rfl ?_
    refine WO.asg rfl (WO.nil (thenL_n ?_))
    refine WC.cond rfl (fun q40 => ?_) (fun q40 => ?_)
    · have h := iteT q40 h
      refine WC.seq (WC.region (WO.asg rfl (WO.nil (thenL_n (WC.seq (WC.seq (WC.region (WO.mv rfl ?_))))))))
      refine WO.nck rfl hot0.isp ?_
      refine WO.fldS (j := 0) (q := 0) rfl hot0.at0 hot0.ptr rfl rfl rfl (by decide) ?_
      refine WO.ldW rfl rfl hot0 rfl rfl hot0.lt rfl ?_
      refine WO.lenS rfl hot0_0.slv rfl ?_
      refine WO.mv rfl (WO.nil (thenL_n (WC.block ?_)))
      obtain ⟨b69, e70, h⟩ := bindS h
      refine WC.loopD e70 (fun s41 l' m' n' => ∃ S43 : Cx fl, ∃ v44 : SV, S43.m = m' ∧ S43.n = n' ∧ Cov l' [(0, .sc ((.ptr bt0 0))), (4, .sc v5), (7, .sc v44), (33, .sc vt0_0), (34, .sc (.int .i64 ((t0.1.length : Int)))), (35, .sc (.int .i64 s41.2))] ∧ ChM S0 S43 ∧ Bw S43 2 (.ptr bt0 0) [vt0_0, vt0_1] ∧ Ow Y52 S43 3 vt0_0 t0.1 ∧ Ow Y82 S43 4 vt0_1 t0.2 ∧ Bk Y34 S43 6 v5 ((([], 0) : (List UInt8) × Int)) ∧ Ow Y3 S43 11 v44 s41.1) (fun b e l' m' n' => e = .exit 1 ∧ ∃ S45 : Cx fl, ∃ v46 : SV, S45.m = m' ∧ S45.n = n' ∧ Cov l' [(0, .sc ((.ptr bt0 0))), (4, .sc v5), (7, .sc v46)] ∧ ChM S0 S45 ∧ Bw S45 2 (.ptr bt0 0) [vt0_0, vt0_1] ∧ Ow Y52 S45 3 vt0_0 t0.1 ∧ Ow Y82 S45 4 vt0_1 t0.2 ∧ Bk Y34 S45 6 v5 ((([], 0) : (List UInt8) × Int)) ∧ Ow Y3 S45 11 v46 b) (by exact ⟨S13, .nils, rfl, rfl, (Cov.cons rfl (Cov.cons rfl (Cov.cons rfl (Cov.cons rfl (Cov.cons rfl (Cov.cons rfl (Cov.nil _))))))), hM, hot0, hot0_0, hot0_1, ho8, Ow.nil⟩) ?_ ?_
      · clear h
        rintro s41 q _ _ _ ⟨S47, v48, rfl, rfl, hc49, hM, hot0, hot0_0, hot0_1, ho8, ho7⟩ h
        unfold F6_l0 at h
        refine WC.cov hc49 (WC.seq (WC.region ?_))
        refine WO.bin rfl rfl (by decide) (by decide) rfl ?_
        refine WO.nil (thenL_n (WC.seq ?_))
        refine WC.cond rfl (fun q50 => ?_) (fun q50 => ?_)
        · have h := iteT q50 h
          refine WC.skip (thenL_n (WC.seq (WC.block (WC.seq (WC.region ?_)))))
          obtain ⟨x51, e52, h⟩ := bindS h
          refine WO.ixS rfl rfl hot0_0.slv (at?_lt e52) rfl ?_
          refine WO.ldA rfl hot0_0.ro (fun _ hi => hi) (at?_get e52) rfl rfl ?_
          refine WO.alS (A := Y52) (S := S47) (z0 := (([], 0, 0) : (List UInt8) × Int × Int)) 12 rfl rfl rfl (fun v53 S54 c55 ho56 => ?_)
          have hM := hM.to c55
          have hot0 := hot0.to c55
          have hot0_0 := hot0_0.to c55
          have hot0_1 := hot0_1.to c55
          have ho8 := ho8.to c55
          have ho7 := ho7.to c55
          refine WO.stBA (u' := (x51.1, x51.2.1, x51.2.2)) rfl ho56.at0 rfl ho56 rfl rfl (fun S57 c58 ho56 => ?_)
          have hM := hM.to c58
          have hot0 := hot0.to c58
          have hot0_0 := hot0_0.to c58
          have hot0_1 := hot0_1.to c58
          have ho8 := ho8.to c58
          have ho7 := ho7.to c58
          refine WO.nil (thenL_n (WC.region (WO.mv rfl ?_)))
          refine WO.fldS (j := 0) (q := 0) rfl ho56.at0 ho56.ptr rfl rfl rfl (by decide) ?_
          refine WO.ldB (j := 0) (q := 2) rfl rfl ho56 rfl rfl rfl ?_
          refine WO.bsS (A := Y3) (S := S57) (M := [((x51.1, x51.2.1, x51.2.2)).2.2]) (cs := [.int .i64 (((x51.1, x51.2.1, x51.2.2)).2.2)]) 13 rfl rfl rfl ⟨[.int .i64 (((x51.1, x51.2.1, x51.2.2)).2.2)], _, rfl, rfl, rfl⟩ rfl (fun v59 S60 c61 ho62 => ?_)
          have hM := hM.to c61
          have hot0 := hot0.to c61
          have hot0_0 := hot0_0.to c61
          have hot0_1 := hot0_1.to c61
          have ho8 := ho8.to c61
          have ho7 := ho7.to c61
          have ho56 := ho56.to c61
          obtain ⟨L63, e64, h⟩ := bindS h
          refine WO.appS rfl rfl ho7 ho62.ro e64 rfl rfl (fun v65 S66 c67 ho68 => ?_)
          have hM := hM.to c67
          have hot0 := hot0.to c67
          have hot0_0 := hot0_0.to c67
          have hot0_1 := hot0_1.to c67
          have ho8 := ho8.to c67
          have ho56 := ho56.to c67
          have ho62 := ho62.to c67
          refine WO.asg rfl (WO.nil (blockL_n (thenL_n (WC.region ?_))))
          refine WO.bin rfl rfl (by decide) (by decide) rfl ?_
          refine WO.mv rfl (WO.nil (thenL_n ?_))
          obtain rfl := someI h
          exact ⟨_, rfl, ⟨S66, v65, rfl, rfl, (Cov.cons rfl (Cov.cons rfl (Cov.cons rfl (Cov.cons rfl (Cov.cons rfl (Cov.cons rfl (Cov.nil _))))))), hM, hot0, hot0_0, hot0_1, ho8, ho68⟩⟩
        · have h := iteF q50 h
          refine WC.exit (thenL_e (thenL_e ?_))
          obtain rfl := someI h
          exact ⟨_, rfl, rfl, ⟨S47, v48, rfl, rfl, (Cov.cons rfl (Cov.cons rfl (Cov.cons rfl (Cov.nil _)))), hM, hot0, hot0_0, hot0_1, ho8, ho7⟩⟩
      rintro _ _ _ _ ⟨rfl, ⟨S71, v72, rfl, rfl, hc73, hM, hot0, hot0_0, hot0_1, ho8, ho7⟩⟩
      refine blockL_s (thenL_n (WC.cov hc73 (WC.seq (WC.region (WO.mv rfl (WO.mv rfl ?_))))))
      obtain ⟨r74, e75, h⟩ := bindS h
      refine WO.callF (S := S71) 14 rfl rfl (F13_ok e75 hot0.pw hot0_0.vw hot0_1.vw) Lay.flat_fl (fun v76 S78 c79 ho77 => ?_)
      have hM := hM.to c79
      have hot0 := hot0.to c79
      have hot0_0 := hot0_0.to c79
      have hot0_1 := hot0_1.to c79
      have ho8 := ho8.to c79
      have ho7 := ho7.to c79
      refine WO.mv rfl ?_
      obtain ⟨r80, e81, h⟩ := bindS h
      refine WO.callE (S := S78) rfl rfl (F14_ok e81 ho77.vw ho7.vw) (fun S82 c83 => ?_)
      have hM := hM.to c83
      have hot0 := hot0.to c83
      have hot0_0 := hot0_0.to c83
      have hot0_1 := hot0_1.to c83
      have ho8 := ho8.to c83
      have ho7 := ho7.to c83
      have ho77 := ho77.to c83
      refine WO.do rfl rfl ?_
      refine WO.do rfl rfl ?_
      obtain ⟨r84, e85, h⟩ := bindS h
      refine WO.callG (S := S82) [(2, 2), (3, 3), (4, 4)] [(2, 2), (3, 3), (4, 4)] rfl rfl (F11_ok (S0 := S82.mp [(2, 2), (3, 3), (4, 4)]) e85 (hot0.mp rfl) (hot0_0.mp rfl) (hot0_1.mp rfl)) (fun _ S90 S91 hb hR => ?_)
      obtain ⟨v86, v88, rfl, hR0, hR1, hR2⟩ := hR
      have c92 := Cx.mg_ch S82 3 2
      have hM := hM.to c92
      have ho8 := ho8.to c92
      have ho7 := ho7.to c92
      have ho77 := ho77.to c92
      have c93 := Cx.mg_ch (S82.mg 3 2) 4 2
      have hM := hM.to c93
      have ho8 := ho8.to c93
      have ho7 := ho7.to c93
      have ho77 := ho77.to c93
      have c94 : Ch 2 ((S82.mg 3 2).mg 4 2) S91 := hb.ch [3, 4] 2
      have hM := hM.to c94
      have ho8 := ho8.to c94
      have ho7 := ho7.to c94
      have ho77 := ho77.to c94
      have hot0 := hR0.bk hb rfl
      have ho87 := hR1.bkF hb rfl Lay.flat_fl
      have ho89 := hR2.bkF hb rfl Lay.flat_fl
      refine WO.do rfl rfl ?_
      refine WO.do rfl rfl ?_
      refine WO.stBA (u' := (r84.1.1, r84.1.2)) rfl ho8.at0 rfl ho8 rfl rfl (fun S95 c96 ho8 => ?_)
      have hM := hM.to c96
      have hot0 := hot0.to c96
      have ho7 := ho7.to c96
      have ho77 := ho77.to c96
      have ho87 := ho87.to c96
      have ho89 := ho89.to c96
      refine WO.asg rfl (WO.nil (thenL_n (WC.ret (blockL_r (thenL_r ?_)))))
      have hcell97 := ho8
      obtain rfl := someI h
      exact ⟨.inr rfl, _, _, (resK_b hcell97 (Cov.refl _) rfl rfl (resK_t (Cov.refl _) rfl rfl)), rfl, ⟨S95, rfl, rfl, hM, v86, v88, rfl, hot0, ho87, ho89⟩⟩
    · have h := iteF q40 h
      refine WC.seq (WC.seq (WC.region ?_))
      refine WO.bin rfl rfl (by decide) (by decide) rfl ?_
      refine WO.asg rfl (WO.nil (thenL_n ?_))
      obtain ⟨b102, e103, h⟩ := bindS h
      refine WC.mono (Q' := (fun b e l' m' n' => e = .normal ∧ ∃ S104 : Cx fl, S104.m = m' ∧ S104.n = n' ∧ Cov l' [(0, .sc ((.ptr bt0 0))), (3, .sc v1), (4, .sc v5), (6, .sc v9), (55, .sc (.bool b))] ∧ ChM S0 S104 ∧ Bw S104 2 (.ptr bt0 0) [vt0_0, vt0_1] ∧ Ow Y52 S104 3 vt0_0 t0.1 ∧ Ow Y82 S104 4 vt0_1 t0.2 ∧ Bk Y32 S104 5 v1 ((t1.1, t1.2.1, t1.2.2.1, t1.2.2.2)) ∧ Bk Y34 S104 6 v5 ((([], 0) : (List UInt8) × Int)) ∧ Bk Y34 S104 7 v9 ((([], 0) : (List UInt8) × Int))) b102) ?_ ?_
      · have h := e103
        dsimp only at h ⊢
        refine WC.cond rfl (fun q98 => ?_) (fun q98 => ?_)
        · have h := iteT q98 h
          refine WC.skip ?_
          obtain rfl := someI h
          exact ⟨rfl, ⟨S13, rfl, rfl, (Cov.cons rfl (Cov.cons rfl (Cov.cons rfl (Cov.cons rfl (Cov.cons rfl (Cov.nil _)))))), hM, hot0, hot0_0, hot0_1, ho4, ho8, ho12⟩⟩
        · have h := iteF q98 h
          refine WC.seq (WC.region ?_)
          refine WO.bin rfl rfl (by decide) (by decide) rfl ?_
          refine WO.asg rfl (WO.nil (thenL_n ?_))
          refine WC.cond rfl (fun q99 => ?_) (fun q99 => ?_)
          · have h := iteT q99 h
            refine WC.skip ?_
            obtain rfl := someI h
            exact ⟨rfl, ⟨S13, rfl, rfl, (Cov.cons rfl (Cov.cons rfl (Cov.cons rfl (Cov.cons rfl (Cov.cons rfl (Cov.nil _)))))), hM, hot0, hot0_0, hot0_1, ho4, ho8, ho12⟩⟩
          · have h := iteF q99 h
            refine WC.seq (WC.region ?_)
            refine WO.bin rfl rfl (by decide) (by decide) rfl ?_
            refine WO.asg rfl (WO.nil (thenL_n ?_))
            refine WC.cond rfl (fun q100 => ?_) (fun q100 => ?_)
            · have h := iteT q100 h
              refine WC.skip ?_
              obtain rfl := someI h
              exact ⟨rfl, ⟨S13, rfl, rfl, (Cov.cons rfl (Cov.cons rfl (Cov.cons rfl (Cov.cons rfl (Cov.cons rfl (Cov.nil _)))))), hM, hot0, hot0_0, hot0_1, ho4, ho8, ho12⟩⟩
            · have h := iteF q100 h
              refine WC.seq (WC.region ?_)
              refine WO.bin rfl rfl (by decide) (by decide) rfl ?_
              refine WO.asg rfl (WO.nil (thenL_n ?_))
              refine WC.cond rfl (fun q101 => ?_) (fun q101 => ?_)
              · have h := iteT q101 h
                refine WC.skip ?_
                obtain rfl := someI h
                exact ⟨rfl, ⟨S13, rfl, rfl, (Cov.cons rfl (Cov.cons rfl (Cov.cons rfl (Cov.cons rfl (Cov.cons rfl (Cov.nil _)))))), hM, hot0, hot0_0, hot0_1, ho4, ho8, ho12⟩⟩
              · have h := iteF q101 h
                refine WC.region ?_
                refine WO.bin rfl rfl (by decide) (by decide) rfl ?_
                refine WO.asg rfl (WO.nil ?_)
                obtain rfl := someI h
                exact ⟨rfl, ⟨S13, rfl, rfl, (Cov.cons rfl (Cov.cons rfl (Cov.cons rfl (Cov.cons rfl (Cov.cons rfl (Cov.nil _)))))), hM, hot0, hot0_0, hot0_1, ho4, ho8, ho12⟩⟩
      dsimp only
      rintro _ _ _ _ ⟨rfl, ⟨S105, rfl, rfl, hc106, hM, hot0, hot0_0, hot0_1, ho4, ho8, ho12⟩⟩
      refine thenL_n (WC.cov hc106 ?_)
      refine WC.cond rfl (fun q107 => ?_) (fun q107 => ?_)
      · have h := iteT q107 h
        refine WC.skip (blockL_n (thenL_n (WC.seq (WC.seq (WC.region ?_)))))
        refine WO.fldS (j := 0) (q := 0) rfl ho4.at0 ho4.ptr rfl rfl rfl (by decide) ?_
        refine WO.ldB (j := 0) (q := 2) rfl rfl ho4 rfl rfl rfl ?_
        obtain ⟨r108, e109, h⟩ := bindS h
        refine WO.callE (S := S105) rfl rfl (F15_ok e109) (fun S110 c111 => ?_)
        have hM := hM.to c111
        have hot0 := hot0.to c111
        have hot0_0 := hot0_0.to c111
        have hot0_1 := hot0_1.to c111
        have ho4 := ho4.to c111
        have ho8 := ho8.to c111
        have ho12 := ho12.to c111
        refine WO.do rfl rfl ?_
        refine WO.nil (thenL_n ?_)
        refine WC.cond rfl (fun q112 => ?_) (fun q112 => ?_)
        · have h := iteT q112 h
          refine WC.seq (WC.region ?_)
          refine WO.ldBA (j := 0) rfl ho12.at0 ho12 rfl rfl ?_
          refine WO.stBA (u' := ((((([], 0) : (List UInt8) × Int)).1, ((([], 0) : (List UInt8) × Int)).2) : (List UInt8) × Int)) rfl ho8.at0 rfl ho8 rfl rfl (fun S113 c114 ho8 => ?_)
          have hM := hM.to c114
          have hot0 := hot0.to c114
          have hot0_0 := hot0_0.to c114
          have hot0_1 := hot0_1.to c114
          have ho4 := ho4.to c114
          have ho12 := ho12.to c114
          refine WO.asg rfl (WO.nil (thenL_n (WC.ret (thenL_r ?_))))
          have hcell115 := ho8
          obtain rfl := someI h
          exact ⟨.inr rfl, _, _, (resK_b hcell115 (Cov.refl _) rfl rfl (resK_t (Cov.refl _) rfl rfl)), rfl, ⟨S113, rfl, rfl, hM, vt0_0, vt0_1, rfl, hot0, hot0_0, hot0_1⟩⟩
        · have h := iteF q112 h
          refine WC.skip (thenL_n (WC.seq (WC.region (WO.mv rfl ?_))))
          refine WO.fldS (j := 0) (q := 0) rfl ho4.at0 ho4.ptr rfl rfl rfl (by decide) ?_
          refine WO.ldB (j := 0) (q := 2) rfl rfl ho4 rfl rfl rfl ?_
          obtain ⟨r116, e117, h⟩ := bindS h
          refine WO.callE (S := S110) rfl rfl (F16_ok e117 hot0.pw hot0_0.vw hot0_1.vw) (fun S118 c119 => ?_)
          have hM := hM.to c119
          have hot0 := hot0.to c119
          have hot0_0 := hot0_0.to c119
          have hot0_1 := hot0_1.to c119
          have ho4 := ho4.to c119
          have ho8 := ho8.to c119
          have ho12 := ho12.to c119
          refine WO.asg rfl (WO.nil (thenL_n (WC.seq (WC.seq (WC.region ?_)))))
          refine WO.fldS (j := 0) (q := 0) rfl ho4.at0 ho4.ptr rfl rfl rfl (by decide) ?_
          refine WO.ldB (j := 0) (q := 0) rfl rfl ho4 rfl rfl rfl ?_
          refine WO.bin rfl rfl (by decide) (by decide) rfl ?_
          refine WO.nil (thenL_n ?_)
          refine WC.cond rfl (fun q120 => ?_) (fun q120 => ?_)
          · have h := iteT q120 h
            refine WC.seq ?_
            obtain ⟨b121, rfl⟩ := ho12.isp
            obtain ⟨b122, rfl⟩ := ho4.isp
            refine WC.drawG [b121, b122] rfl rfl rfl (fun t ht => rdB_in ht rfl (by simp [SV.blk])) ?_
            have hot0z := hot0.lt
            have hot0_0z := hot0_0.oz
            have hot0_1z := hot0_1.oz
            have ho4z := ho4.lt
            have ho8z := ho8.lt
            have ho12z := ho12.lt
            refine WOG.split 4 rfl ?_
            refine WO.ldBAz (j := 0) rfl ho12.at0 ho12 rfl ho12z (limLe_self _) ?_
            refine WO.mv rfl (WO.mv rfl ?_)
            refine WO.ldBAz (j := 0) rfl ho4.at0 ho4 rfl ho4z (limLe_self _) ?_
            refine WO.nil ?_
            obtain ⟨r123, e124, h⟩ := bindS h
            refine WOG.callG (S := S118) [(2, 2), (3, 3), (4, 4)] [(2, 2), (3, 3), (4, 4)] ⟨ho12.apt rfl, ho4.apt rfl, trivial⟩ rfl rfl (F17_ok (S0 := S118.mp [(2, 2), (3, 3), (4, 4)]) e124 (hot0.mp rfl) (hot0_0.mp rfl) (hot0_1.mp rfl)) (fun _ S129 S130 hb hR => ?_)
            obtain ⟨v125, v127, rfl, hR0, hR1, hR2⟩ := hR
            have c131 := Cx.mg_ch S118 3 2
            have hM := hM.to c131
            have ho4 := ho4.to c131
            have ho8 := ho8.to c131
            have ho12 := ho12.to c131
            have c132 := Cx.mg_ch (S118.mg 3 2) 4 2
            have hM := hM.to c132
            have ho4 := ho4.to c132
            have ho8 := ho8.to c132
            have ho12 := ho12.to c132
            have c133 : Ch 2 ((S118.mg 3 2).mg 4 2) S130 := hb.ch [3, 4] 2
            have hM := hM.to c133
            have ho4 := ho4.to c133
            have ho8 := ho8.to c133
            have ho12 := ho12.to c133
            have hot0 := hR0.bk hb rfl
            have ho126 := hR1.bkF hb rfl Lay.flat_fl
            have ho128 := hR2.bkF hb rfl Lay.flat_fl
            refine WOG.split 2 rfl ?_
            refine WO.stBA (u' := ((((([], 0) : (List UInt8) × Int)).1, ((([], 0) : (List UInt8) × Int)).2) : (List UInt8) × Int)) rfl ho8.at0 rfl ho8 rfl rfl (fun S134 c135 ho8 => ?_)
            have hM := hM.to c135
            have hot0 := hot0.to c135
            have ho4 := ho4.to c135
            have ho12 := ho12.to c135
            have ho126 := ho126.to c135
            have ho128 := ho128.to c135
            refine WO.asg rfl (WO.nil ?_)
            refine WOG.nil ?_
            refine thenL_n (WC.ret (thenL_r ?_))
            have hcell136 := ho8
            obtain rfl := someI h
            exact ⟨.inr rfl, _, _, (resK_b hcell136 (Cov.refl _) rfl rfl (resK_t (Cov.refl _) rfl rfl)), rfl, ⟨S134, rfl, rfl, hM, v125, v127, rfl, hot0, ho126, ho128⟩⟩
          · have h := iteF q120 h
            refine WC.skip (thenL_n (WC.seq (WC.seq (WC.region (WO.mv rfl ?_)))))
            refine WO.bin rfl rfl (by decide) (by decide) rfl ?_
            refine WO.nil (thenL_n ?_)
            refine WC.cond rfl (fun q137 => ?_) (fun q137 => ?_)
            · have h := iteT q137 h
              refine WC.seq (WC.region ?_)
              refine WO.ldBA (j := 0) rfl ho12.at0 ho12 rfl rfl ?_
              refine WO.stBA (u' := ((((([], 0) : (List UInt8) × Int)).1, ((([], 0) : (List UInt8) × Int)).2) : (List UInt8) × Int)) rfl ho8.at0 rfl ho8 rfl rfl (fun S138 c139 ho8 => ?_)
              have hM := hM.to c139
              have hot0 := hot0.to c139
              have hot0_0 := hot0_0.to c139
              have hot0_1 := hot0_1.to c139
              have ho4 := ho4.to c139
              have ho12 := ho12.to c139
              refine WO.asg rfl (WO.nil (thenL_n (WC.ret (thenL_r ?_))))
              have hcell140 := ho8
              obtain rfl := someI h
              exact ⟨.inr rfl, _, _, (resK_b hcell140 (Cov.refl _) rfl rfl (resK_t (Cov.refl _) rfl rfl)), rfl, ⟨S138, rfl, rfl, hM, vt0_0, vt0_1, rfl, hot0, hot0_0, hot0_1⟩⟩
            · have h := iteF q137 h
              refine WC.skip (thenL_n (WC.seq (WC.seq (WC.region ?_))))
              refine WO.fldS (j := 0) (q := 0) rfl ho4.at0 ho4.ptr rfl rfl rfl (by decide) ?_
              refine WO.ldB (j := 0) (q := 0) rfl rfl ho4 rfl rfl rfl ?_
              refine WO.nil (thenL_n (WC.block (WC.seq (WC.region ?_))))
              refine WO.bin rfl rfl (by decide) (by decide) rfl ?_
              refine WO.asg rfl (WO.nil (thenL_n ?_))
              refine WC.cond rfl (fun q141 => ?_) (fun q141 => ?_)
              · have h := iteT q141 h
                refine WC.seq ?_
                obtain ⟨b142, rfl⟩ := ho12.isp
                refine WC.drawG [b142] rfl rfl rfl (fun t ht => rdB_in ht rfl (by simp [SV.blk])) ?_
                have hot0z := hot0.lt
                have hot0_0z := hot0_0.oz
                have hot0_1z := hot0_1.oz
                have ho4z := ho4.lt
                have ho8z := ho8.lt
                have ho12z := ho12.lt
                refine WOG.split 3 rfl ?_
                refine WO.ldBAz (j := 0) rfl ho12.at0 ho12 rfl ho12z (limLe_self _) ?_
                refine WO.mv rfl (WO.mv rfl (WO.nil ?_))
                obtain ⟨r143, e144, h⟩ := bindS h
                refine WOG.callG (S := S118) [(2, 2), (3, 3), (4, 4)] [(2, 2), (3, 3), (4, 4)] ⟨ho12.apt rfl, trivial⟩ rfl rfl (F18_ok (S0 := S118.mp [(2, 2), (3, 3), (4, 4)]) e144 (hot0.mp rfl) (hot0_0.mp rfl) (hot0_1.mp rfl)) (fun _ S149 S150 hb hR => ?_)
                obtain ⟨v145, v147, rfl, hR0, hR1, hR2⟩ := hR
                have c151 := Cx.mg_ch S118 3 2
                have hM := hM.to c151
                have ho4 := ho4.to c151
                have ho8 := ho8.to c151
                have ho12 := ho12.to c151
                have c152 := Cx.mg_ch (S118.mg 3 2) 4 2
                have hM := hM.to c152
                have ho4 := ho4.to c152
                have ho8 := ho8.to c152
                have ho12 := ho12.to c152
                have c153 : Ch 2 ((S118.mg 3 2).mg 4 2) S150 := hb.ch [3, 4] 2
                have hM := hM.to c153
                have ho4 := ho4.to c153
                have ho8 := ho8.to c153
                have ho12 := ho12.to c153
                have hot0 := hR0.bk hb rfl
                have ho146 := hR1.bkF hb rfl Lay.flat_fl
                have ho148 := hR2.bkF hb rfl Lay.flat_fl
                refine WOG.split 2 rfl ?_
                refine WO.stBA (u' := ((((([], 0) : (List UInt8) × Int)).1, ((([], 0) : (List UInt8) × Int)).2) : (List UInt8) × Int)) rfl ho8.at0 rfl ho8 rfl rfl (fun S154 c155 ho8 => ?_)
                have hM := hM.to c155
                have hot0 := hot0.to c155
                have ho4 := ho4.to c155
                have ho12 := ho12.to c155
                have ho146 := ho146.to c155
                have ho148 := ho148.to c155
                refine WO.asg rfl (WO.nil ?_)
                refine WOG.nil ?_
                refine thenL_n (WC.ret (blockL_r (thenL_r ?_)))
                have hcell156 := ho8
                obtain rfl := someI h
                exact ⟨.inr rfl, _, _, (resK_b hcell156 (Cov.refl _) rfl rfl (resK_t (Cov.refl _) rfl rfl)), rfl, ⟨S154, rfl, rfl, hM, v145, v147, rfl, hot0, ho146, ho148⟩⟩
              · have h := iteF q141 h
                refine WC.seq (WC.region ?_)
                refine WO.bin rfl rfl (by decide) (by decide) rfl ?_
                refine WO.asg rfl (WO.nil (thenL_n ?_))
                refine WC.cond rfl (fun q157 => ?_) (fun q157 => ?_)
                · have h := iteT q157 h
                  refine WC.seq ?_
                  obtain ⟨b158, rfl⟩ := ho12.isp
                  obtain ⟨b159, rfl⟩ := ho4.isp
                  refine WC.drawG [b158, b159] rfl rfl rfl (fun t ht => rdB_in ht rfl (by simp [SV.blk])) ?_
                  have hot0z := hot0.lt
                  have hot0_0z := hot0_0.oz
                  have hot0_1z := hot0_1.oz
                  have ho4z := ho4.lt
                  have ho8z := ho8.lt
                  have ho12z := ho12.lt
                  refine WOG.split 4 rfl ?_
                  refine WO.ldBAz (j := 0) rfl ho12.at0 ho12 rfl ho12z (limLe_self _) ?_
                  refine WO.mv rfl (WO.mv rfl ?_)
                  refine WO.ldBAz (j := 0) rfl ho4.at0 ho4 rfl ho4z (limLe_self _) ?_
                  refine WO.nil ?_
                  obtain ⟨r160, e161, h⟩ := bindS h
                  refine WOG.callG (S := S118) [(2, 2), (3, 3), (4, 4)] [(2, 2), (3, 3), (4, 4)] ⟨ho12.apt rfl, ho4.apt rfl, trivial⟩ rfl rfl (F19_ok (S0 := S118.mp [(2, 2), (3, 3), (4, 4)]) e161 (hot0.mp rfl) (hot0_0.mp rfl) (hot0_1.mp rfl)) (fun _ S166 S167 hb hR => ?_)
                  obtain ⟨v162, v164, rfl, hR0, hR1, hR2⟩ := hR
                  have c168 := Cx.mg_ch S118 3 2
                  have hM := hM.to c168
                  have ho4 := ho4.to c168
                  have ho8 := ho8.to c168
                  have ho12 := ho12.to c168
                  have c169 := Cx.mg_ch (S118.mg 3 2) 4 2
                  have hM := hM.to c169
                  have ho4 := ho4.to c169
                  have ho8 := ho8.to c169
                  have ho12 := ho12.to c169
                  have c170 : Ch 2 ((S118.mg 3 2).mg 4 2) S167 := hb.ch [3, 4] 2
                  have hM := hM.to c170
                  have ho4 := ho4.to c170
                  have ho8 := ho8.to c170
                  have ho12 := ho12.to c170
                  have hot0 := hR0.bk hb rfl
                  have ho163 := hR1.bkF hb rfl Lay.flat_fl
                  have ho165 := hR2.bkF hb rfl Lay.flat_fl
                  refine WOG.split 2 rfl ?_
                  refine WO.stBA (u' := ((((([], 0) : (List UInt8) × Int)).1, ((([], 0) : (List UInt8) × Int)).2) : (List UInt8) × Int)) rfl ho8.at0 rfl ho8 rfl rfl (fun S171 c172 ho8 => ?_)
                  have hM := hM.to c172
                  have hot0 := hot0.to c172
                  have ho4 := ho4.to c172
                  have ho12 := ho12.to c172
                  have ho163 := ho163.to c172
                  have ho165 := ho165.to c172
                  refine WO.asg rfl (WO.nil ?_)
                  refine WOG.nil ?_
                  refine thenL_n (WC.ret (blockL_r (thenL_r ?_)))
                  have hcell173 := ho8
                  obtain rfl := someI h
                  exact ⟨.inr rfl, _, _, (resK_b hcell173 (Cov.refl _) rfl rfl (resK_t (Cov.refl _) rfl rfl)), rfl, ⟨S171, rfl, rfl, hM, v162, v164, rfl, hot0, ho163, ho165⟩⟩
                · have h := iteF q157 h
                  refine WC.seq (WC.region ?_)
                  refine WO.bin rfl rfl (by decide) (by decide) rfl ?_
                  refine WO.asg rfl (WO.nil (thenL_n ?_))
                  refine WC.cond rfl (fun q174 => ?_) (fun q174 => ?_)
                  · have h := iteT q174 h
                    refine WC.seq (WC.region (WO.mv rfl ?_))
                    refine WO.fldS (j := 0) (q := 0) rfl ho4.at0 ho4.ptr rfl rfl rfl (by decide) ?_
                    refine WO.ldB (j := 0) (q := 2) rfl rfl ho4 rfl rfl rfl ?_
                    obtain ⟨r175, e176, h⟩ := bindS h
                    refine WO.callG (S := S118) [(2, 2), (3, 3), (4, 4)] [(2, 2), (3, 3), (4, 4)] rfl rfl (F20_ok (S0 := S118.mp [(2, 2), (3, 3), (4, 4)]) e176 (hot0.mp rfl) (hot0_0.mp rfl) (hot0_1.mp rfl)) (fun _ S181 S182 hb hR => ?_)
                    obtain ⟨v177, v179, rfl, hR0, hR1, hR2⟩ := hR
                    have c183 := Cx.mg_ch S118 3 2
                    have hM := hM.to c183
                    have ho4 := ho4.to c183
                    have ho8 := ho8.to c183
                    have ho12 := ho12.to c183
                    have c184 := Cx.mg_ch (S118.mg 3 2) 4 2
                    have hM := hM.to c184
                    have ho4 := ho4.to c184
                    have ho8 := ho8.to c184
                    have ho12 := ho12.to c184
                    have c185 : Ch 2 ((S118.mg 3 2).mg 4 2) S182 := hb.ch [3, 4] 2
                    have hM := hM.to c185
                    have ho4 := ho4.to c185
                    have ho8 := ho8.to c185
                    have ho12 := ho12.to c185
                    have hot0 := hR0.bk hb rfl
                    have ho178 := hR1.bkF hb rfl Lay.flat_fl
                    have ho180 := hR2.bkF hb rfl Lay.flat_fl
                    refine WO.stBA (u' := (r175.1.1, r175.1.2)) rfl ho8.at0 rfl ho8 rfl rfl (fun S186 c187 ho8 => ?_)
                    have hM := hM.to c187
                    have hot0 := hot0.to c187
                    have ho4 := ho4.to c187
                    have ho12 := ho12.to c187
                    have ho178 := ho178.to c187
                    have ho180 := ho180.to c187
                    refine WO.asg rfl (WO.nil (thenL_n (WC.ret (blockL_r (thenL_r ?_)))))
                    have hcell188 := ho8
                    obtain rfl := someI h
                    exact ⟨.inr rfl, _, _, (resK_b hcell188 (Cov.refl _) rfl rfl (resK_t (Cov.refl _) rfl rfl)), rfl, ⟨S186, rfl, rfl, hM, v177, v179, rfl, hot0, ho178, ho180⟩⟩
                  · have h := iteF q174 h
                    refine WC.skip (blockL_n (thenL_n (WC.seq ?_)))
                    refine WC.drawN rfl rfl ?_
                    have hot0z := hot0.lt
                    have hot0_0z := hot0_0.oz
                    have hot0_1z := hot0_1.oz
                    have ho4z := ho4.lt
                    have ho8z := ho8.lt
                    have ho12z := ho12.lt
                    refine WO.fldS (j := 0) (q := 0) rfl ho4.at0 ho4.ptr rfl rfl rfl (by decide) ?_
                    refine WO.ldBz (j := 0) (q := 2) rfl rfl ho4 rfl rfl ho4z (limLe_self _) ?_
                    refine WO.mv rfl ?_
                    refine WO.nck rfl hot0.isp ?_
                    refine WO.fldS (j := 0) (q := 0) rfl hot0.at0 hot0.ptr rfl rfl rfl (by decide) ?_
                    refine WO.ldW rfl rfl hot0 rfl rfl hot0z (limLe_self _) ?_
                    refine WO.mv rfl ?_
                    obtain ⟨x189, e190, h⟩ := bindS h
                    refine WO.ixS rfl rfl hot0_0.slv (at?_lt e190) rfl ?_
                    refine WO.fldS rfl rfl (SlV.ptr hot0_0.slv (at?_nat e190)) rfl rfl rfl (by decide) ?_
                    refine WO.ldF rfl hot0_0z (fun _ hi => hi.1) (at?_get e190) rfl rfl (limLe_self _) ?_
                    refine WO.do rfl rfl ?_
                    refine WO.stBA (u' := (((t1.1, t1.2.1, t1.2.2.1, t1.2.2.2)).2.2.1, x189.2.2)) rfl ho8.at0 rfl ho8 rfl rfl (fun S191 c192 ho8 => ?_)
                    have hot0_0z := hot0_0z.tow c192
                    have hot0_1z := hot0_1z.tow c192
                    have hM := hM.to c192
                    have hot0 := hot0.to c192
                    have hot0_0 := hot0_0.to c192
                    have hot0_1 := hot0_1.to c192
                    have ho4 := ho4.to c192
                    have ho12 := ho12.to c192
                    refine WO.asg rfl (WO.nil (thenL_n (WC.ret ?_)))
                    have hcell193 := ho8
                    obtain rfl := someI h
                    exact ⟨.inr rfl, _, _, (resK_b hcell193 (Cov.refl _) rfl rfl (resK_t (Cov.refl _) rfl rfl)), rfl, ⟨S191, rfl, rfl, hM, vt0_0, vt0_1, rfl, hot0, hot0_0, hot0_1⟩⟩
      · have h := iteF q107 h
        refine WC.seq (WC.region ?_)
        refine WO.ldBA (j := 0) rfl ho12.at0 ho12 rfl rfl ?_
        refine WO.stBA (u' := ((((([], 0) : (List UInt8) × Int)).1, ((([], 0) : (List UInt8) × Int)).2) : (List UInt8) × Int)) rfl ho8.at0 rfl ho8 rfl rfl (fun S194 c195 ho8 => ?_)
        have hM := hM.to c195
        have hot0 := hot0.to c195
        have hot0_0 := hot0_0.to c195
        have hot0_1 := hot0_1.to c195
        have ho4 := ho4.to c195
        have ho12 := ho12.to c195
        refine WO.asg rfl (WO.nil (thenL_n (WC.ret (blockL_r (thenL_r ?_)))))
        have hcell196 := ho8
        obtain rfl := someI h
        exact ⟨.inr rfl, _, _, (resK_b hcell196 (Cov.refl _) rfl rfl (resK_t (Cov.refl _) rfl rfl)), rfl, ⟨S194, rfl, rfl, hM, vt0_0, vt0_1, rfl, hot0, hot0_0, hot0_1⟩⟩
end Go.Proofs.YtaphdnpjpmnaeabDoor

namespace Go.Proofs.YtaphdnpjpmnaeabDoor
open Go.Am
theorem F21.fn : E.fn 21 = some ⟨8, (Tryd.f21.body.getD .skip), Tryd.f21.results.toList, []⟩ := rfl
theorem F21_ok {F : Nat} {m : Mem} {n : Nat} {r : (List ((List UInt8) × Int × Int))} {t0 : (List ((List UInt8) × Int × Int))} {vt0 : SV} (h : F21 F t0 = some r) (kt0 : Vw Y41 n m vt0 t0) : Ret E n 21 [.sc vt0] m n (fun v m' n' => ∃ w, v = .sc w ∧ Fr Y41 n m' n' w r) := by
  unfold F21 at h
  split at h
  · rename_i hq
    obtain rfl := someI h
    refine Ret.walk F21.fn ?_
    refine WC.start fun S0 em en hz => ?_
    have hR := kt0.rdS em hz
    rcases kt0 with ⟨hv | hv, rfl⟩ | ⟨i, o, c, cs, hv, _⟩
    · subst hv
      repeat (first | refine WC.seq ?_ | refine thenL_n ?_ | refine thenL_r ?_ | refine WC.region ?_ | refine WO.nil ?_ | refine WC.condT rfl ?_ | refine WC.condF rfl ?_ | refine WC.skip ?_ | refine WC.ret ?_ | refine WO.asg rfl ?_ | refine WO.mv rfl ?_)
      refine WO.do rfl rfl ?_
      repeat (first | refine WC.seq ?_ | refine thenL_n ?_ | refine thenL_r ?_ | refine WC.region ?_ | refine WO.nil ?_ | refine WC.condT rfl ?_ | refine WC.condF rfl ?_ | refine WC.skip ?_ | refine WC.ret ?_ | refine WO.asg rfl ?_ | refine WO.mv rfl ?_)
      exact ⟨.inr rfl, _, _, rfl, rfl, .nils, rfl, Fr.nil⟩
    all_goals
      subst hv
      repeat (first | refine WC.seq ?_ | refine thenL_n ?_ | refine thenL_r ?_ | refine WC.region ?_ | refine WO.nil ?_ | refine WC.condT rfl ?_ | refine WC.condF rfl ?_ | refine WC.skip ?_ | refine WC.ret ?_ | refine WO.asg rfl ?_ | refine WO.mv rfl ?_)
      refine WO.do rfl rfl ?_
      repeat (first | refine WC.seq ?_ | refine thenL_n ?_ | refine thenL_r ?_ | refine WC.region ?_ | refine WO.nil ?_ | refine WC.condT rfl ?_ | refine WC.condF rfl ?_ | refine WC.skip ?_ | refine WC.ret ?_ | refine WO.asg rfl ?_ | refine WO.mv rfl ?_)
      refine WO.bsS (A := Y41) (S := S0) (M := []) (cs := []) 2 rfl rfl rfl rfl rfl (fun v1 S1 c1 h1 => ?_)
      have hR := hR.to c1
      repeat (first | refine WC.seq ?_ | refine thenL_n ?_ | refine thenL_r ?_ | refine WC.region ?_ | refine WO.nil ?_ | refine WC.condT rfl ?_ | refine WC.condF rfl ?_ | refine WC.skip ?_ | refine WC.ret ?_ | refine WO.asg rfl ?_ | refine WO.mv rfl ?_)
      refine WO.appN rfl rfl h1 hR.ro hq (by decide) rfl rfl (fun v2 S2 c2 h2 => ?_)
      repeat (first | refine WC.seq ?_ | refine thenL_n ?_ | refine thenL_r ?_ | refine WC.region ?_ | refine WO.nil ?_ | refine WC.condT rfl ?_ | refine WC.condF rfl ?_ | refine WC.skip ?_ | refine WC.ret ?_ | refine WO.asg rfl ?_ | refine WO.mv rfl ?_)
      exact ⟨.inr rfl, _, _, rfl, rfl, _, rfl, h2.fr Lay.flat_fl⟩
  · cases h
end Go.Proofs.YtaphdnpjpmnaeabDoor

namespace Go.Proofs.YtaphdnpjpmnaeabDoor
open Go.Am
theorem F22.fn : E.fn 22 = some ⟨8, (Tryd.f22.body.getD .skip), Tryd.f22.results.toList, []⟩ := rfl
theorem F22_ok {F : Nat} {m : Mem} {n : Nat} {r : (List ((List UInt8) × (List UInt8) × Int))} {t0 : (List ((List UInt8) × (List UInt8) × Int))} {vt0 : SV} (h : F22 F t0 = some r) (kt0 : Vw Y65 n m vt0 t0) : Ret E n 22 [.sc vt0] m n (fun v m' n' => ∃ w, v = .sc w ∧ Fr Y65 n m' n' w r) := by
  unfold F22 at h
  split at h
  · rename_i hq
    obtain rfl := someI h
    refine Ret.walk F22.fn ?_
    refine WC.start fun S0 em en hz => ?_
    have hR := kt0.rdS em hz
    rcases kt0 with ⟨hv | hv, rfl⟩ | ⟨i, o, c, cs, hv, _⟩
    · subst hv
      repeat (first | refine WC.seq ?_ | refine thenL_n ?_ | refine thenL_r ?_ | refine WC.region ?_ | refine WO.nil ?_ | refine WC.condT rfl ?_ | refine WC.condF rfl ?_ | refine WC.skip ?_ | refine WC.ret ?_ | refine WO.asg rfl ?_ | refine WO.mv rfl ?_)
      refine WO.do rfl rfl ?_
      repeat (first | refine WC.seq ?_ | refine thenL_n ?_ | refine thenL_r ?_ | refine WC.region ?_ | refine WO.nil ?_ | refine WC.condT rfl ?_ | refine WC.condF rfl ?_ | refine WC.skip ?_ | refine WC.ret ?_ | refine WO.asg rfl ?_ | refine WO.mv rfl ?_)
      exact ⟨.inr rfl, _, _, rfl, rfl, .nils, rfl, Fr.nil⟩
    all_goals
      subst hv
      repeat (first | refine WC.seq ?_ | refine thenL_n ?_ | refine thenL_r ?_ | refine WC.region ?_ | refine WO.nil ?_ | refine WC.condT rfl ?_ | refine WC.condF rfl ?_ | refine WC.skip ?_ | refine WC.ret ?_ | refine WO.asg rfl ?_ | refine WO.mv rfl ?_)
      refine WO.do rfl rfl ?_
      repeat (first | refine WC.seq ?_ | refine thenL_n ?_ | refine thenL_r ?_ | refine WC.region ?_ | refine WO.nil ?_ | refine WC.condT rfl ?_ | refine WC.condF rfl ?_ | refine WC.skip ?_ | refine WC.ret ?_ | refine WO.asg rfl ?_ | refine WO.mv rfl ?_)
      refine WO.bsS (A := Y65) (S := S0) (M := []) (cs := []) 2 rfl rfl rfl rfl rfl (fun v1 S1 c1 h1 => ?_)
      have hR := hR.to c1
      repeat (first | refine WC.seq ?_ | refine thenL_n ?_ | refine thenL_r ?_ | refine WC.region ?_ | refine WO.nil ?_ | refine WC.condT rfl ?_ | refine WC.condF rfl ?_ | refine WC.skip ?_ | refine WC.ret ?_ | refine WO.asg rfl ?_ | refine WO.mv rfl ?_)
      refine WO.appN rfl rfl h1 hR.ro hq (by decide) rfl rfl (fun v2 S2 c2 h2 => ?_)
      repeat (first | refine WC.seq ?_ | refine thenL_n ?_ | refine thenL_r ?_ | refine WC.region ?_ | refine WO.nil ?_ | refine WC.condT rfl ?_ | refine WC.condF rfl ?_ | refine WC.skip ?_ | refine WC.ret ?_ | refine WO.asg rfl ?_ | refine WO.mv rfl ?_)
      exact ⟨.inr rfl, _, _, rfl, rfl, _, rfl, h2.fr Lay.flat_fl⟩
  · cases h
end Go.Proofs.YtaphdnpjpmnaeabDoor

namespace Go.Proofs.YtaphdnpjpmnaeabDoor
open Go.Am
theorem F23.fn : E.fn 23 = some ⟨28, (Tryd.f23.body.getD .skip), Tryd.f23.results.toList, [1000005]⟩ := rfl
theorem F23_ok {F : Nat} {fl : Nat} {S0 : Cx fl} {r : (List Int) × (List Int)} {t0 : (List ((List UInt8) × Int × Int)) × (List ((List UInt8) × (List UInt8) × Int))} {vt0_0 : SV} {vt0_1 : SV} (h : F23 F t0 = some r) (hot0_0 : Rd Y41 S0 vt0_0 t0.1) (hot0_1 : Rd Y65 S0 vt0_1 t0.2) : Ret E fl 23 [.agg [vt0_0, vt0_1]] S0.m S0.n (fun v m' n' => ∃ S' : Cx fl, S'.m = m' ∧ S'.n = n' ∧ ChM S0 S' ∧ (∃ w110 w111 : SV, v = .tup [.sc w110, .sc w111] ∧ Ow Y3 S' 902 w110 r.1 ∧ Ow Y3 S' 904 w111 r.2)) := by
  unfold F23 at h
  refine Ret.walk F23.fn ?_
  have hM := ChM.refl S0
  refine WC.seq (WC.region ?_)
  refine WO.bxW (S := S0) (cs := [vt0_0, vt0_1]) 2 rfl rfl rfl (fun b1 S2 c3 ho4 => ?_)
  have hot0_0 := hot0_0.to c3
  have hot0_1 := hot0_1.to c3
  have hM := hM.to c3
  refine WO.asg rfl (WO.asg rfl (WO.nil (thenL_n (WC.seq (WC.region (WO.asg rfl (WO.asg rfl (WO.nil (thenL_n ?_)))))))))
  refine WC.seq (WC.seq (WC.region ?_))
  refine WO.fldS (j := 0) (q := 0) rfl ho4.at0 ho4.ptr rfl rfl rfl (by decide) ?_
  refine WO.ldW rfl rfl ho4 rfl rfl ho4.lt rfl ?_
  refine WO.lenS rfl hot0_0.slv rfl ?_
  refine WO.mv rfl (WO.nil (thenL_n (WC.block ?_)))
  obtain ⟨b104, e105, h⟩ := bindS h
  refine WC.loopD e105 (fun s5 l' m' n' => ∃ S8 : Cx fl, ∃ v9 v10 : SV, S8.m = m' ∧ S8.n = n' ∧ Cov l' [(4, .sc v9), (5, .sc v10), (9, .sc vt0_0), (10, .sc (.int .i64 ((t0.1.length : Int)))), (11, .sc (.int .i64 s5.2.2))] ∧ ChM S0 S8 ∧ Rd Y41 S8 vt0_0 t0.1 ∧ Ow Y3 S8 3 v9 s5.1 ∧ Ow Y3 S8 4 v10 s5.2.1) (fun b e l' m' n' => e = .exit 0 ∧ ∃ S11 : Cx fl, ∃ v12 v13 : SV, S11.m = m' ∧ S11.n = n' ∧ Cov l' [(4, .sc v12), (5, .sc v13)] ∧ ChM S0 S11 ∧ Ow Y3 S11 3 v12 b.1 ∧ Ow Y3 S11 4 v13 b.2) (by exact ⟨S2, .nils, .nils, rfl, rfl, (Cov.cons rfl (Cov.cons rfl (Cov.cons rfl (Cov.cons rfl (Cov.cons rfl (Cov.nil _)))))), hM, hot0_0, Ow.nil, Ow.nil⟩) ?_ ?_
  · clear h
    rintro s5 q _ _ _ ⟨S14, v15, v16, rfl, rfl, hc17, hM, hot0_0, ho4, ho5⟩ h
    unfold F23_l0 at h
    refine WC.cov hc17 (WC.seq (WC.region ?_))
    refine WO.bin rfl rfl (by decide) (by decide) rfl ?_
    refine WO.nil (thenL_n (WC.seq ?_))
    refine WC.cond rfl (fun q18 => ?_) (fun q18 => ?_)
    · have h := iteT q18 h
      refine WC.skip (thenL_n (WC.seq (WC.block (WC.seq (WC.region ?_)))))
      obtain ⟨x19, e20, h⟩ := bindS h
      refine WO.ixS rfl rfl hot0_0.slv (at?_lt e20) rfl ?_
      refine WO.ldA rfl hot0_0.ro (fun _ hi => hi) (at?_get e20) rfl rfl ?_
      refine WO.alS (A := Y41) (S := S14) (z0 := (([], 0, 0) : (List UInt8) × Int × Int)) 5 rfl rfl rfl (fun v21 S22 c23 ho24 => ?_)
      have hM := hM.to c23
      have hot0_0 := hot0_0.to c23
      have ho4 := ho4.to c23
      have ho5 := ho5.to c23
      refine WO.stBA (u' := (x19.1, x19.2.1, x19.2.2)) rfl ho24.at0 rfl ho24 rfl rfl (fun S25 c26 ho24 => ?_)
      have hM := hM.to c26
      have hot0_0 := hot0_0.to c26
      have ho4 := ho4.to c26
      have ho5 := ho5.to c26
      refine WO.nil (thenL_n ?_)
      refine WC.drawDN rfl ?_
      have hot0_0z := hot0_0.oz
      have ho4z := ho4.oz
      have ho5z := ho5.oz
      have ho24z := ho24.lt
      have k27 := hot0_0.bko
      have k28 := ho4.bko
      have k29 := ho5.bko
      have k30 := ho24.bko
      refine WO.mv rfl ?_
      refine WO.fldS (j := 0) (q := 0) rfl ho24.at0 ho24.ptr rfl rfl rfl (by decide) ?_
      refine WO.ldBz (j := 0) (q := 1) rfl rfl ho24 rfl rfl ho24z (limLe_self _) ?_
      refine WO.bsD (A := Y3) (S := S25) (M := [((x19.1, x19.2.1, x19.2.2)).2.1]) (cs := [.int .i64 (((x19.1, x19.2.1, x19.2.2)).2.1)]) 6 rfl rfl rfl ⟨[.int .i64 (((x19.1, x19.2.1, x19.2.2)).2.1)], _, rfl, rfl, rfl⟩ rfl (fun v31 S32 ge35 c33 ho34 => ?_)
      have hot0_0z := hot0_0z.toz c33
      have ho4z := ho4z.tow c33
      have ho5z := ho5z.tow c33
      have hM := hM.to c33
      have hot0_0 := hot0_0.to c33
      have ho4 := ho4.to c33
      have ho5 := ho5.to c33
      have ho24 := ho24.to c33
      have n36 := c33.n
      have k37 := hot0_0.bko
      have k38 := ho4.bko
      have k39 := ho5.bko
      have k40 := ho24.bko
      have k41 := ho34.bko
      obtain ⟨L42, e43, h⟩ := bindS h
      refine WO.appS rfl rfl ho4 ho34.ro e43 rfl rfl (fun v44 S45 c46 ho47 => ?_)
      have hot0_0z := hot0_0z.toz c46
      have ho5z := ho5z.tow c46
      have hM := hM.to c46
      have hot0_0 := hot0_0.to c46
      have ho5 := ho5.to c46
      have ho24 := ho24.to c46
      have ho34 := ho34.to c46
      have n48 := c46.n
      have k49 := hot0_0.bko
      have k50 := ho5.bko
      have k51 := ho24.bko
      have k52 := ho34.bko
      have k53 := ho47.bko
      refine WO.mv rfl ?_
      refine WO.fldS (j := 0) (q := 0) rfl ho24.at0 ho24.ptr rfl rfl rfl (by decide) ?_
      refine WO.ldBz (j := 0) (q := 2) rfl rfl ho24 rfl rfl ho24z (limLe_self _) ?_
      refine WO.bsD (A := Y3) (S := S45) (M := [((x19.1, x19.2.1, x19.2.2)).2.2]) (cs := [.int .i64 (((x19.1, x19.2.1, x19.2.2)).2.2)]) 7 rfl rfl rfl ⟨[.int .i64 (((x19.1, x19.2.1, x19.2.2)).2.2)], _, rfl, rfl, rfl⟩ rfl (fun v54 S55 ge58 c56 ho57 => ?_)
      have hot0_0z := hot0_0z.toz c56
      have ho5z := ho5z.tow c56
      have hM := hM.to c56
      have hot0_0 := hot0_0.to c56
      have ho5 := ho5.to c56
      have ho24 := ho24.to c56
      have ho34 := ho34.to c56
      have ho47 := ho47.to c56
      have n59 := c56.n
      have k60 := hot0_0.bko
      have k61 := ho5.bko
      have k62 := ho24.bko
      have k63 := ho34.bko
      have k64 := ho47.bko
      have k65 := ho57.bko
      obtain ⟨L66, e67, h⟩ := bindS h
      refine WO.appS rfl rfl ho5 ho57.ro e67 rfl rfl (fun v68 S69 c70 ho71 => ?_)
      have hot0_0z := hot0_0z.toz c70
      have hM := hM.to c70
      have hot0_0 := hot0_0.to c70
      have ho24 := ho24.to c70
      have ho34 := ho34.to c70
      have ho47 := ho47.to c70
      have ho57 := ho57.to c70
      have n72 := c70.n
      have k73 := hot0_0.bko
      have k74 := ho24.bko
      have k75 := ho34.bko
      have k76 := ho47.bko
      have k77 := ho57.bko
      have k78 := ho71.bko
      refine WO.asg rfl (WO.asg rfl (WO.nil ?_))
      refine ⟨fun tt hs => dynOk_of [(4, 7), (4, 8)] (by kernel_rfl) ⟨?_, ?_, trivial⟩, ?_⟩
      · show djT tt _ _ = true
        have nb79 := k27.nb k28
        have nb80 := k27.nb k29
        have nb81 := k27.nb k30
        have nb82 := k37.nb k41
        have nb83 := k49.nb k53
        have nb84 := k60.nb k65
        have nb85 := k73.nb k78
        have nb86 := k28.nb k29
        have nb87 := k28.nb k30
        have nb88 := k38.nb k41
        have nb89 := k28.ge ge58 (by omega)
        have nb90 := k29.nb k30
        have nb91 := k39.nb k41
        have nb92 := k50.nb k53
        have nb93 := k61.nb k65
        have nb94 := k40.nb k41
        have nb95 := k51.nb k53
        have nb96 := k62.nb k65
        have nb97 := k74.nb k78
        have nb98 := k52.nb k53
        have nb99 := k63.nb k65
        have nb100 := k75.nb k78
        have nb101 := k64.nb k65
        have nb102 := k76.nb k78
        have nb103 := k77.nb k78
        refine djT_of hs rfl rfl rfl rfl rfl ?_ ?_ ?_ <;> simp only [NBs, NB1, and_true, true_and] <;> (repeat' apply And.intro) <;> (first | assumption | (apply NB.symm; assumption) | exact NB.none rfl | exact NB.noneR rfl | (apply NB.pt; first | assumption | (apply NB.symm; assumption)) | (apply NB.symm; apply NB.pt; first | assumption | (apply NB.symm; assumption) | (apply NB.symm; apply NB.pt; first | assumption | (apply NB.symm; assumption))))
      · show djT tt _ _ = true
        have nb79 := k27.nb k28
        have nb80 := k27.nb k29
        have nb81 := k27.nb k30
        have nb82 := k37.nb k41
        have nb83 := k49.nb k53
        have nb84 := k60.nb k65
        have nb85 := k73.nb k78
        have nb86 := k28.nb k29
        have nb87 := k28.nb k30
        have nb88 := k38.nb k41
        have nb89 := k28.ge ge58 (by omega)
        have nb90 := k29.nb k30
        have nb91 := k39.nb k41
        have nb92 := k50.nb k53
        have nb93 := k61.nb k65
        have nb94 := k40.nb k41
        have nb95 := k51.nb k53
        have nb96 := k62.nb k65
        have nb97 := k74.nb k78
        have nb98 := k52.nb k53
        have nb99 := k63.nb k65
        have nb100 := k75.nb k78
        have nb101 := k64.nb k65
        have nb102 := k76.nb k78
        have nb103 := k77.nb k78
        refine djT_of hs rfl rfl rfl rfl rfl ?_ ?_ ?_ <;> simp only [NBs, NB1, and_true, true_and] <;> (repeat' apply And.intro) <;> (first | assumption | (apply NB.symm; assumption) | exact NB.none rfl | exact NB.noneR rfl | (apply NB.pt; first | assumption | (apply NB.symm; assumption)) | (apply NB.symm; apply NB.pt; first | assumption | (apply NB.symm; assumption) | (apply NB.symm; apply NB.pt; first | assumption | (apply NB.symm; assumption))))
      clear k27 k28 k29 k30 k37 k38 k39 k40 k41 k49 k50 k51 k52 k53 k60 k61 k62 k63 k64 k65 k73 k74 k75 k76 k77 k78 ge35 ge58 n36 n48 n59 n72
      refine blockL_n (thenL_n (WC.region ?_))
      refine WO.bin rfl rfl (by decide) (by decide) rfl ?_
      refine WO.mv rfl (WO.nil (thenL_n ?_))
      obtain rfl := someI h
      exact ⟨_, rfl, ⟨S69, v44, v68, rfl, rfl, (Cov.cons rfl (Cov.cons rfl (Cov.cons rfl (Cov.cons rfl (Cov.cons rfl (Cov.nil _)))))), hM, hot0_0, ho47, ho71⟩⟩
    · have h := iteF q18 h
      refine WC.exit (thenL_e (thenL_e ?_))
      obtain rfl := someI h
      exact ⟨_, rfl, rfl, ⟨S14, v15, v16, rfl, rfl, (Cov.cons rfl (Cov.cons rfl (Cov.nil _))), hM, ho4, ho5⟩⟩
  rintro _ _ _ _ ⟨rfl, ⟨S106, v107, v108, rfl, rfl, hc109, hM, ho4, ho5⟩⟩
  refine blockL_s (thenL_n (WC.cov hc109 (WC.seq (WC.region (WO.mv rfl (WO.mv rfl (WO.asg rfl (WO.asg rfl (WO.nil ?_)))))))))
  refine thenL_n (WC.ret ?_)
  have hM := hM.renO 3 902
  have ho4 := ho4.ren (j := 902)
  have ho5 := ho5.renO 3 902
  have hM := hM.renO 4 904
  have ho4 := ho4.renO 4 904
  have ho5 := ho5.ren (j := 904)
  obtain rfl := someI h
  exact ⟨.inr rfl, _, _, rfl, rfl, ⟨((S106.ren 3 902).ren 4 904), rfl, rfl, hM, v107, v108, rfl, ho4, ho5⟩⟩
end Go.Proofs.YtaphdnpjpmnaeabDoor

namespace Go.Proofs.YtaphdnpjpmnaeabDoor
open Go.Am
theorem F24.fn : E.fn 24 = some ⟨40, (Tryd.f24.body.getD .skip), Tryd.f24.results.toList, []⟩ := rfl
theorem F24_ok {F : Nat} {m : Mem} {n : Nat} {r : Int × Int} {t0 : List Int} {t1 : Int} {vt0 : SV} (h : F24 F t0 t1 = some r) (kt0 : Vw Y3 n m vt0 t0) : Ret E n 24 [.sc vt0, .sc (.int .i64 t1)] m n (fun v m' n' => v = .tup [.sc (.int .i64 r.1), .sc (.int .i64 r.2)]) := by
  unfold F24 at h
  refine Ret.walk F24.fn ?_
  refine WC.start fun S0 em en hz => ?_
  have hot0 := kt0.rdS em hz
  refine WC.seq (WC.region (WO.asg rfl (WO.asg rfl (WO.nil (thenL_n (WC.seq (WC.region (WO.asg rfl (WO.nil ?_)))))))))
  refine thenL_n (WC.seq (WC.seq (WC.region (WO.mv rfl ?_))))
  refine WO.lenS rfl hot0.slv rfl ?_
  refine WO.mv rfl (WO.nil (thenL_n (WC.block ?_)))
  obtain ⟨b38, e39, h⟩ := bindS h
  refine WC.loopD e39 (fun s1 l' m' n' => ∃ S3 : Cx n, ∃ v4 : SV, S3.m = m' ∧ S3.n = n' ∧ Cov l' [(1, .sc (.int .i64 t1)), (6, .sc v4), (9, .sc vt0), (10, .sc (.int .i64 ((t0.length : Int)))), (11, .sc (.int .i64 s1.2))] ∧ Rd Y3 S3 vt0 t0 ∧ Ow Y3 S3 2 v4 s1.1) (fun b e l' m' n' => e = .exit 0 ∧ ∃ S5 : Cx n, ∃ v6 : SV, S5.m = m' ∧ S5.n = n' ∧ Cov l' [(1, .sc (.int .i64 t1)), (6, .sc v6)] ∧ Ow Y3 S5 2 v6 b) (by exact ⟨S0, .nils, rfl, rfl, (Cov.cons rfl (Cov.cons rfl (Cov.cons rfl (Cov.cons rfl (Cov.cons rfl (Cov.nil _)))))), hot0, Ow.nil⟩) ?_ ?_
  · clear h
    rintro s1 q _ _ _ ⟨S7, v8, rfl, rfl, hc9, hot0, ho6⟩ h
    unfold F24_l1 at h
    refine WC.cov hc9 (WC.seq (WC.region ?_))
    refine WO.bin rfl rfl (by decide) (by decide) rfl ?_
    refine WO.nil (thenL_n (WC.seq ?_))
    refine WC.cond rfl (fun q10 => ?_) (fun q10 => ?_)
    · have h := iteT q10 h
      refine WC.skip (thenL_n (WC.seq (WC.block (WC.seq (WC.region (WO.mv rfl ?_))))))
      obtain ⟨x11, e12, h⟩ := bindS h
      refine WO.ixS rfl rfl hot0.slv (at?_lt e12) rfl ?_
      refine WO.ldF rfl hot0.ro (fun _ hi => hi) (at?_get e12) rfl rfl rfl ?_
      refine WO.asg rfl (WO.asg rfl (WO.nil (thenL_n (WC.seq (WC.region (WO.mv rfl (WO.mv rfl (WO.nil (thenL_n ?_)))))))))
      refine WC.block ?_
      obtain ⟨b33, e34, h⟩ := bindS h
      refine WC.loopD e34 (fun s13 l' m' n' => ∃ S15 : Cx n, ∃ v16 : SV, S15.m = m' ∧ S15.n = n' ∧ Cov l' [(1, .sc (.int .i64 t1)), (6, .sc v16), (7, .sc (.int .i64 s1.2)), (9, .sc vt0), (10, .sc (.int .i64 ((t0.length : Int)))), (11, .sc (.int .i64 s1.2)), (16, .sc (.int .i64 x11)), (17, .sc (.int .i64 s13.2))] ∧ Rd Y3 S15 vt0 t0 ∧ Ow Y3 S15 2 v16 s13.1) (fun b e l' m' n' => e = .exit 2 ∧ ∃ S17 : Cx n, ∃ v18 : SV, S17.m = m' ∧ S17.n = n' ∧ Cov l' [(1, .sc (.int .i64 t1)), (6, .sc v18), (9, .sc vt0), (10, .sc (.int .i64 ((t0.length : Int)))), (11, .sc (.int .i64 s1.2))] ∧ Rd Y3 S17 vt0 t0 ∧ Ow Y3 S17 2 v18 b) (by exact ⟨S7, v8, rfl, rfl, (Cov.cons rfl (Cov.cons rfl (Cov.cons rfl (Cov.cons rfl (Cov.cons rfl (Cov.cons rfl (Cov.cons rfl (Cov.cons rfl (Cov.nil _))))))))), hot0, ho6⟩) ?_ ?_
      · clear h
        rintro s13 q _ _ _ ⟨S19, v20, rfl, rfl, hc21, hot0, ho6⟩ h
        unfold F24_l0 at h
        refine WC.cov hc21 (WC.seq (WC.region ?_))
        refine WO.bin rfl rfl (by decide) (by decide) rfl ?_
        refine WO.nil (thenL_n (WC.seq ?_))
        refine WC.cond rfl (fun q22 => ?_) (fun q22 => ?_)
        · have h := iteT q22 h
          refine WC.skip (thenL_n (WC.seq (WC.block (WC.region (WO.mv rfl (WO.mv rfl ?_))))))
          refine WO.bsS (A := Y3) (S := S19) (M := [s1.2]) (cs := [.int .i64 s1.2]) 3 rfl rfl rfl ⟨[.int .i64 s1.2], _, rfl, rfl, rfl⟩ rfl (fun v23 S24 c25 ho26 => ?_)
          have hot0 := hot0.to c25
          have ho6 := ho6.to c25
          obtain ⟨L27, e28, h⟩ := bindS h
          refine WO.appS rfl rfl ho6 ho26.ro e28 rfl rfl (fun v29 S30 c31 ho32 => ?_)
          have hot0 := hot0.to c31
          have ho26 := ho26.to c31
          refine WO.asg rfl (WO.nil (blockL_n (thenL_n (WC.region ?_))))
          refine WO.bin rfl rfl (by decide) (by decide) rfl ?_
          refine WO.mv rfl (WO.nil (thenL_n ?_))
          obtain rfl := someI h
          exact ⟨_, rfl, ⟨S30, v29, rfl, rfl, (Cov.cons rfl (Cov.cons rfl (Cov.cons rfl (Cov.cons rfl (Cov.cons rfl (Cov.cons rfl (Cov.cons rfl (Cov.cons rfl (Cov.nil _))))))))), hot0, ho32⟩⟩
        · have h := iteF q22 h
          refine WC.exit (thenL_e (thenL_e ?_))
          obtain rfl := someI h
          exact ⟨_, rfl, rfl, ⟨S19, v20, rfl, rfl, (Cov.cons rfl (Cov.cons rfl (Cov.cons rfl (Cov.cons rfl (Cov.cons rfl (Cov.nil _)))))), hot0, ho6⟩⟩
      rintro _ _ _ _ ⟨rfl, ⟨S35, v36, rfl, rfl, hc37, hot0, ho6⟩⟩
      refine blockL_s (blockL_n (thenL_n (WC.cov hc37 (WC.region ?_))))
      refine WO.bin rfl rfl (by decide) (by decide) rfl ?_
      refine WO.mv rfl (WO.nil (thenL_n ?_))
      obtain rfl := someI h
      exact ⟨_, rfl, ⟨S35, v36, rfl, rfl, (Cov.cons rfl (Cov.cons rfl (Cov.cons rfl (Cov.cons rfl (Cov.cons rfl (Cov.nil _)))))), hot0, ho6⟩⟩
    · have h := iteF q10 h
      refine WC.exit (thenL_e (thenL_e ?_))
      obtain rfl := someI h
      exact ⟨_, rfl, rfl, ⟨S7, v8, rfl, rfl, (Cov.cons rfl (Cov.cons rfl (Cov.nil _))), ho6⟩⟩
  rintro _ _ _ _ ⟨rfl, ⟨S40, v41, rfl, rfl, hc42, ho6⟩⟩
  refine blockL_s (thenL_n (WC.cov hc42 (WC.seq (WC.seq (WC.region (WO.mv rfl ?_))))))
  refine WO.lenS rfl ho6.slv rfl ?_
  refine WO.bin rfl rfl (by decide) (by decide) rfl ?_
  refine WO.nil (thenL_n ?_)
  refine WC.cond rfl (fun q43 => ?_) (fun q43 => ?_)
  · have h := iteT q43 h
    refine WC.seq (WC.region (WO.asg rfl (WO.asg rfl (WO.nil (thenL_n (WC.ret (thenL_r ?_)))))))
    obtain rfl := someI h
    exact ⟨.inr rfl, _, _, rfl, rfl, rfl⟩
  · have h := iteF q43 h
    refine WC.skip (thenL_n (WC.seq (WC.seq (WC.region (WO.mv rfl ?_)))))
    refine WO.bin rfl rfl (by decide) (by decide) rfl ?_
    refine WO.mv rfl ?_
    refine WO.cutB (d := 35) 5 ((decide (t1 < 0)) || (decide (t1 ≥ (b38.length : Int)))) (fun q44 => ?_) (fun q44 => ?_) ?_
    · refine WO.gno rfl rfl (WO.gno rfl rfl (WO.gno rfl rfl (WO.gno rfl rfl ?_)))
      refine WO.pickT rfl rfl ?_
      refine WO.nil ?_
      exact ⟨rfl, rfl, (Cov.any rfl (orT q44) (Cov.skip rfl (Cov.skip rfl (Cov.skip rfl (Cov.skip rfl (Cov.skip rfl (Cov.skip rfl (Cov.refl _))))))))⟩
    · skip
      refine WO.gyes rfl rfl (WO.mv rfl (WO.gyes rfl rfl (WO.mv rfl (WO.gyes rfl rfl ?_))))
      refine WO.lenS rfl ho6.slv rfl ?_
      refine WO.gyes rfl rfl ?_
      refine WO.bin rfl rfl (by decide) (by decide) rfl ?_
      refine WO.pickF rfl rfl ?_
      refine WO.nil ?_
      exact ⟨rfl, rfl, (Cov.any rfl (orF q44) (Cov.skip rfl (Cov.skip rfl (Cov.skip rfl (Cov.skip rfl (Cov.skip rfl (Cov.skip rfl (Cov.refl _))))))))⟩
    refine WO.nil (thenL_n ?_)
    refine WC.cond rfl (fun q45 => ?_) (fun q45 => ?_)
    · have h := iteT q45 h
      refine WC.seq (WC.region (WO.asg rfl (WO.asg rfl (WO.nil (thenL_n (WC.ret (thenL_r ?_)))))))
      obtain rfl := someI h
      exact ⟨.inr rfl, _, _, rfl, rfl, rfl⟩
    · have h := iteF q45 h
      refine WC.skip (thenL_n (WC.seq (WC.region (WO.mv rfl (WO.mv rfl ?_)))))
      obtain ⟨x46, e47, h⟩ := bindS h
      refine WO.ixS rfl rfl ho6.slv (at?_lt e47) rfl ?_
      refine WO.ldF rfl ho6.ro (fun _ hi => hi) (at?_get e47) rfl rfl rfl ?_
      refine WO.asg rfl (WO.asg rfl (WO.nil (thenL_n (WC.ret ?_))))
      obtain rfl := someI h
      exact ⟨.inr rfl, _, _, rfl, rfl, rfl⟩
end Go.Proofs.YtaphdnpjpmnaeabDoor

namespace Go.Proofs.YtaphdnpjpmnaeabDoor
open Go.Am
theorem F26.fn : E.fn 26 = some ⟨5, (Tryd.f26.body.getD .skip), Tryd.f26.results.toList, []⟩ := rfl
theorem F26_ok {F : Nat} {m : Mem} {n : Nat} {r : Bool} {t0 : Int} (h : F26 F t0 = some r)  : Ret E n 26 [.sc (.int .i64 t0)] m n (fun v m' n' => v = .sc (.bool r)) := by
  unfold F26 at h
  refine Ret.walk F26.fn ?_
  refine WC.start fun S0 em en hz => ?_
  refine WC.seq (WC.region (WO.asg rfl (WO.nil (thenL_n (WC.seq (WC.region (WO.mv rfl ?_)))))))
  refine WO.bin rfl rfl (by decide) (by decide) rfl ?_
  refine WO.asg rfl (WO.nil (thenL_n (WC.ret ?_)))
  obtain rfl := someI h
  exact ⟨.inr rfl, _, _, rfl, rfl, rfl⟩
end Go.Proofs.YtaphdnpjpmnaeabDoor

namespace Go.Proofs.YtaphdnpjpmnaeabDoor
open Go.Am
theorem F44_26.fn : E.fn 44 = some ⟨19, (Tryd.f44.body.getD .skip), Tryd.f44.results.toList, []⟩ := rfl
theorem F44_26_ok {F : Nat} {m : Mem} {n : Nat} {r : Int} {t0 : List Int} {vt0 : SV} (h : F44_26 F t0 = some r) (kt0 : Vw Y3 n m vt0 t0) : Ret E n 44 [.sc vt0, .sc (.fn 26 [])] m n (fun v m' n' => v = .sc (.int .i64 r)) := by
  unfold F44_26 at h
  refine Ret.walk F44_26.fn ?_
  refine WC.start fun S0 em en hz => ?_
  have hot0 := kt0.rdS em hz
  refine WC.seq (WC.region (WO.asg rfl (WO.nil (thenL_n (WC.seq (WC.seq (WC.region (WO.mv rfl ?_))))))))
  refine WO.lenS rfl hot0.slv rfl ?_
  refine WO.mv rfl (WO.nil (thenL_n (WC.block ?_)))
  obtain ⟨b16, e17, h⟩ := bindS h
  refine WC.loopD e17 (fun s1 l' m' n' => ∃ S2 : Cx n, S2.m = m' ∧ S2.n = n' ∧ Cov l' [(0, .sc vt0), (1, .sc (.fn 26 [])), (7, .sc (.int .i64 ((t0.length : Int)))), (8, .sc (.int .i64 s1))] ∧ Rd Y3 S2 vt0 t0) (fun b e l' m' n' => (match b with | .inl b3 => e = .exit 0 ∧ ∃ S4 : Cx n, S4.m = m' ∧ S4.n = n' ∧ Cov l' [] | .inr b3 => e = .ret ∧ ∃ S5 : Cx n, S5.m = m' ∧ S5.n = n' ∧ Cov l' [(4, .sc (.int .i64 b3))])) (by exact ⟨S0, rfl, rfl, (Cov.cons rfl (Cov.cons rfl (Cov.cons rfl (Cov.cons rfl (Cov.nil _))))), hot0⟩) ?_ ?_
  · clear h
    rintro s1 q _ _ _ ⟨S6, rfl, rfl, hc7, hot0⟩ h
    unfold F44_26_l0 at h
    refine WC.cov hc7 (WC.seq (WC.region ?_))
    refine WO.bin rfl rfl (by decide) (by decide) rfl ?_
    refine WO.nil (thenL_n (WC.seq ?_))
    refine WC.cond rfl (fun q8 => ?_) (fun q8 => ?_)
    · have h := iteT q8 h
      refine WC.skip (thenL_n (WC.seq (WC.block (WC.seq (WC.region (WO.mv rfl (WO.asg rfl (WO.nil (thenL_n ?_)))))))))
      refine WC.seq (WC.region (WO.mv rfl (WO.mv rfl (WO.mv rfl ?_))))
      obtain ⟨x9, e10, h⟩ := bindS h
      refine WO.ixS rfl rfl hot0.slv (at?_lt e10) rfl ?_
      refine WO.ldF rfl hot0.ro (fun _ hi => hi) (at?_get e10) rfl rfl rfl ?_
      obtain ⟨r11, e12, h⟩ := bindS h
      refine WO.callE (S := S6) rfl rfl (F26_ok e12) (fun S13 c14 => ?_)
      have hot0 := hot0.to c14
      refine WO.nil (thenL_n ?_)
      refine WC.cond rfl (fun q15 => ?_) (fun q15 => ?_)
      · have h := iteT q15 h
        refine WC.seq (WC.region (WO.mv rfl (WO.asg rfl (WO.nil (thenL_n (WC.ret (blockL_r (thenL_r (thenL_r ?_)))))))))
        obtain rfl := someI h
        exact ⟨_, rfl, rfl, ⟨S13, rfl, rfl, (Cov.cons rfl (Cov.nil _))⟩⟩
      · have h := iteF q15 h
        refine WC.skip (blockL_n (thenL_n (WC.region ?_)))
        refine WO.bin rfl rfl (by decide) (by decide) rfl ?_
        refine WO.mv rfl (WO.nil (thenL_n ?_))
        obtain rfl := someI h
        exact ⟨_, rfl, ⟨S13, rfl, rfl, (Cov.cons rfl (Cov.cons rfl (Cov.cons rfl (Cov.cons rfl (Cov.nil _))))), hot0⟩⟩
    · have h := iteF q8 h
      refine WC.exit (thenL_e (thenL_e ?_))
      obtain rfl := someI h
      exact ⟨_, rfl, rfl, ⟨S6, rfl, rfl, (Cov.nil _)⟩⟩
  cases b16 with
  | inl b18 =>
    simp only at h
    rintro _ _ _ _ ⟨rfl, ⟨S19, rfl, rfl, hc20⟩⟩
    refine blockL_s (thenL_n (WC.cov hc20 (WC.seq (WC.region (WO.asg rfl (WO.nil (thenL_n (WC.ret ?_))))))))
    obtain rfl := someI h
    exact ⟨.inr rfl, _, _, rfl, rfl, rfl⟩
  | inr b18 =>
    simp only at h
    rintro _ _ _ _ ⟨rfl, ⟨S21, rfl, rfl, hc22⟩⟩
    refine blockL_r (thenL_r ?_)
    obtain rfl := someI h
    exact ⟨.inr rfl, _, _, (resK_cov hc22 rfl), rfl, rfl⟩
end Go.Proofs.YtaphdnpjpmnaeabDoor

namespace Go.Proofs.YtaphdnpjpmnaeabDoor
open Go.Am
theorem F25_26.fn : E.fn 25 = some ⟨9, (Tryd.f25.body.getD .skip), Tryd.f25.results.toList, []⟩ := rfl
theorem F25_26_ok {F : Nat} {m : Mem} {n : Nat} {r : Bool} {t0 : List Int} {vt0 : SV} (h : F25_26 F t0 = some r) (kt0 : Vw Y3 n m vt0 t0) : Ret E n 25 [.sc vt0, .sc (.fn 26 [])] m n (fun v m' n' => v = .sc (.bool r)) := by
  unfold F25_26 at h
  refine Ret.walk F25_26.fn ?_
  refine WC.start fun S0 em en hz => ?_
  have hot0 := kt0.rdS em hz
  refine WC.seq (WC.region (WO.asg rfl (WO.nil (thenL_n (WC.seq (WC.region (WO.mv rfl (WO.mv rfl ?_))))))))
  obtain ⟨r1, e2, h⟩ := bindS h
  refine WO.callE (S := S0) rfl rfl (F44_26_ok e2 hot0.vw) (fun S3 c4 => ?_)
  have hot0 := hot0.to c4
  refine WO.bin rfl rfl (by decide) (by decide) rfl ?_
  refine WO.asg rfl (WO.nil (thenL_n (WC.ret ?_)))
  obtain rfl := someI h
  exact ⟨.inr rfl, _, _, rfl, rfl, rfl⟩
end Go.Proofs.YtaphdnpjpmnaeabDoor

namespace Go.Proofs.YtaphdnpjpmnaeabDoor
open Go.Am
theorem F27.fn : E.fn 27 = some ⟨79, (Tryd.f27.body.getD .skip), Tryd.f27.results.toList, []⟩ := rfl
theorem F27_ok {F : Nat} {m : Mem} {n : Nat} {r : Int} {t0 : List Int} {t1 : List Int} {vt0 : SV} {vt1 : SV} (h : F27 F t0 t1 = some r) (kt0 : Vw Y3 n m vt0 t0) (kt1 : Vw Y3 n m vt1 t1) : Ret E n 27 [.sc vt0, .sc vt1] m n (fun v m' n' => v = .sc (.int .i64 r)) := by
  unfold F27 at h
  refine Ret.walk F27.fn ?_
  refine WC.start fun S0 em en hz => ?_
  have hot0 := kt0.rdS em hz
  have hot1 := kt1.rdS em hz
  refine WC.seq (WC.region (WO.asg rfl (WO.nil (thenL_n (WC.seq (WC.seq (WC.region (WO.mv rfl ?_))))))))
  refine WO.lenS rfl hot0.slv rfl ?_
  refine WO.mv rfl (WO.nil (thenL_n (WC.block ?_)))
  obtain ⟨b51, e52, h⟩ := bindS h
  refine WC.loopD e52 (fun s1 l' m' n' => ∃ S2 : Cx n, S2.m = m' ∧ S2.n = n' ∧ Cov l' [(0, .sc vt0), (1, .sc vt1), (9, .sc (.int .i64 ((t0.length : Int)))), (10, .sc (.int .i64 s1))] ∧ Rd Y3 S2 vt0 t0 ∧ Rd Y3 S2 vt1 t1) (fun b e l' m' n' => (match b with | .inl b3 => e = .exit 0 ∧ ∃ S4 : Cx n, S4.m = m' ∧ S4.n = n' ∧ Cov l' [] | .inr b3 => e = .ret ∧ ∃ S5 : Cx n, S5.m = m' ∧ S5.n = n' ∧ Cov l' [(4, .sc (.int .i64 b3))])) (by exact ⟨S0, rfl, rfl, (Cov.cons rfl (Cov.cons rfl (Cov.cons rfl (Cov.cons rfl (Cov.nil _))))), hot0, hot1⟩) ?_ ?_
  · clear h
    rintro s1 q _ _ _ ⟨S6, rfl, rfl, hc7, hot0, hot1⟩ h
    unfold F27_l1 at h
    refine WC.cov hc7 (WC.seq (WC.region ?_))
    refine WO.bin rfl rfl (by decide) (by decide) rfl ?_
    refine WO.nil (thenL_n (WC.seq ?_))
    refine WC.cond rfl (fun q8 => ?_) (fun q8 => ?_)
    · have h := iteT q8 h
      refine WC.skip (thenL_n (WC.seq (WC.block (WC.seq (WC.region (WO.mv rfl (WO.asg rfl (WO.nil (thenL_n ?_)))))))))
      refine WC.seq (WC.seq (WC.region (WO.mv rfl (WO.mv rfl ?_))))
      obtain ⟨x9, e10, h⟩ := bindS h
      refine WO.ixS rfl rfl hot0.slv (at?_lt e10) rfl ?_
      refine WO.ldF rfl hot0.ro (fun _ hi => hi) (at?_get e10) rfl rfl rfl ?_
      refine WO.bin rfl rfl (by decide) (by decide) rfl ?_
      refine WO.nil (thenL_n ?_)
      refine WC.cond rfl (fun q11 => ?_) (fun q11 => ?_)
      · have h := iteT q11 h
        refine WC.exit (thenL_e (blockL_s (thenL_n (WC.region ?_))))
        refine WO.bin rfl rfl (by decide) (by decide) rfl ?_
        refine WO.mv rfl (WO.nil (thenL_n ?_))
        obtain rfl := someI h
        exact ⟨_, rfl, ⟨S6, rfl, rfl, (Cov.cons rfl (Cov.cons rfl (Cov.cons rfl (Cov.cons rfl (Cov.nil _))))), hot0, hot1⟩⟩
      · have h := iteF q11 h
        refine WC.skip (thenL_n (WC.seq (WC.region (WO.asg rfl (WO.nil (thenL_n (WC.seq (WC.seq (WC.region ?_)))))))))
        refine WO.mv rfl ?_
        refine WO.lenS rfl hot0.slv rfl ?_
        refine WO.mv rfl (WO.nil (thenL_n (WC.block ?_)))
        obtain ⟨b46, e47, h⟩ := bindS h
        refine WC.loopD e47 (fun s12 l' m' n' => ∃ S13 : Cx n, S13.m = m' ∧ S13.n = n' ∧ Cov l' [(0, .sc vt0), (1, .sc vt1), (5, .sc (.int .i64 s1)), (6, .sc (.bool s12.1)), (9, .sc (.int .i64 ((t0.length : Int)))), (10, .sc (.int .i64 s1)), (19, .sc (.int .i64 ((t0.length : Int)))), (20, .sc (.int .i64 s12.2))] ∧ Rd Y3 S13 vt0 t0 ∧ Rd Y3 S13 vt1 t1) (fun b e l' m' n' => e = .exit 2 ∧ ∃ S14 : Cx n, S14.m = m' ∧ S14.n = n' ∧ Cov l' [(0, .sc vt0), (1, .sc vt1), (5, .sc (.int .i64 s1)), (6, .sc (.bool b)), (9, .sc (.int .i64 ((t0.length : Int)))), (10, .sc (.int .i64 s1))] ∧ Rd Y3 S14 vt0 t0 ∧ Rd Y3 S14 vt1 t1) (by exact ⟨S6, rfl, rfl, (Cov.cons rfl (Cov.cons rfl (Cov.cons rfl (Cov.cons rfl (Cov.cons rfl (Cov.cons rfl (Cov.cons rfl (Cov.cons rfl (Cov.nil _))))))))), hot0, hot1⟩) ?_ ?_
        · clear h
          rintro s12 q _ _ _ ⟨S15, rfl, rfl, hc16, hot0, hot1⟩ h
          unfold F27_l0 at h
          refine WC.cov hc16 (WC.seq (WC.region ?_))
          refine WO.bin rfl rfl (by decide) (by decide) rfl ?_
          refine WO.nil (thenL_n (WC.seq ?_))
          refine WC.cond rfl (fun q17 => ?_) (fun q17 => ?_)
          · have h := iteT q17 h
            refine WC.skip (thenL_n (WC.seq (WC.block (WC.seq (WC.region (WO.mv rfl (WO.asg rfl (WO.nil (thenL_n ?_)))))))))
            refine WC.seq ?_
            refine WC.drawP rfl rfl ?_
            refine WO.mv rfl (WO.mv rfl ?_)
            obtain ⟨x18, e19, h⟩ := bindS h
            refine WO.ixS rfl rfl hot0.slv (at?_lt e19) rfl ?_
            refine WO.ldF rfl hot0.ro (fun _ hi => hi) (at?_get e19) rfl rfl (limLe_self _) ?_
            refine WO.bin rfl rfl (by decide) (by decide) rfl ?_
            refine WO.mv rfl ?_
            obtain ⟨y43, e44, h⟩ := bindS h
            refine WO.cutB (d := 74) 46 y43 (fun q42 => ?_) (fun q42 => ?_) ?_
            · have h := e44
              have h := iteT q42 h
              refine WO.gyes rfl rfl (WO.mv rfl (WO.gyes rfl rfl (WO.mv rfl (WO.gyes rfl rfl ?_))))
              obtain ⟨x20, e21, h⟩ := bindS h
              refine WO.ixS rfl rfl hot1.slv (at?_lt e21) rfl ?_
              refine WO.gyes rfl rfl ?_
              refine WO.ldF rfl hot1.ro (fun _ hi => hi) (at?_get e21) rfl rfl (limLe_self _) ?_
              refine WO.gyes rfl rfl (WO.mv rfl (WO.gyes rfl rfl (WO.mv rfl (WO.gyes rfl rfl ?_))))
              obtain ⟨x22, e23, h⟩ := bindS h
              refine WO.ixS rfl rfl hot0.slv (at?_lt e23) rfl ?_
              refine WO.gyes rfl rfl ?_
              refine WO.ldF rfl hot0.ro (fun _ hi => hi) (at?_get e23) rfl rfl (limLe_self _) ?_
              refine WO.gyes rfl rfl ?_
              refine WO.bin rfl rfl (by decide) (by decide) rfl ?_
              refine WO.gyes rfl rfl (WO.mv rfl (WO.gyes rfl rfl (WO.mv rfl (WO.gyes rfl rfl ?_))))
              obtain ⟨x24, e25, h⟩ := bindS h
              refine WO.ixS rfl rfl hot1.slv (at?_lt e25) rfl ?_
              refine WO.gyes rfl rfl ?_
              refine WO.ldF rfl hot1.ro (fun _ hi => hi) (at?_get e25) rfl rfl (limLe_self _) ?_
              refine WO.gyes rfl rfl (WO.mv rfl (WO.gyes rfl rfl (WO.mv rfl (WO.gyes rfl rfl ?_))))
              obtain ⟨x26, e27, h⟩ := bindS h
              refine WO.ixS rfl rfl hot0.slv (at?_lt e27) rfl ?_
              refine WO.gyes rfl rfl ?_
              refine WO.ldF rfl hot0.ro (fun _ hi => hi) (at?_get e27) rfl rfl (limLe_self _) ?_
              refine WO.gyes rfl rfl ?_
              refine WO.bin rfl rfl (by decide) (by decide) rfl ?_
              refine WO.gyes rfl rfl ?_
              refine WO.bin rfl rfl (by decide) (by decide) rfl ?_
              refine WO.gyes rfl rfl (WO.mv rfl ?_)
              obtain ⟨y40, e41, h⟩ := bindS h
              refine WO.cutB (d := 73) 25 y40 (fun q39 => ?_) (fun q39 => ?_) ?_
              · have h := e41
                have h := iteT q39 h
                obtain rfl := someI h
                refine WO.gno rfl rfl (WO.gno rfl rfl (WO.gno rfl rfl (WO.gno rfl rfl (WO.gskip rfl rfl (WO.gskip rfl rfl (WO.gskip rfl rfl (WO.gskip rfl rfl (WO.gskip rfl rfl (WO.gskip rfl rfl ?_)))))))))
                refine WO.gskip rfl rfl (WO.gskip rfl rfl (WO.gskip rfl rfl (WO.gskip rfl rfl (WO.gskip rfl rfl (WO.gskip rfl rfl (WO.gskip rfl rfl (WO.gskip rfl rfl (WO.gskip rfl rfl (WO.gskip rfl rfl ?_)))))))))
                refine WO.gskip rfl rfl (WO.gskip rfl rfl (WO.gskip rfl rfl (WO.gno rfl rfl (WO.gyes rfl rfl ?_))))
                refine WO.pickT rfl rfl ?_
                refine WO.nil ?_
                exact ⟨rfl, rfl, (Cov.cons rfl (Cov.skip rfl (Cov.skip rfl (Cov.skip rfl (Cov.skip rfl (Cov.skip rfl (Cov.skip rfl (Cov.skip rfl (Cov.skip rfl (Cov.skip rfl (Cov.skip rfl (Cov.skip rfl (Cov.skip rfl (Cov.skip rfl (Cov.skip rfl (Cov.skip rfl (Cov.skip rfl (Cov.skip rfl (Cov.skip rfl (Cov.skip rfl (Cov.skip rfl (Cov.skip rfl (Cov.skip rfl (Cov.skip rfl (Cov.skip rfl (Cov.skip rfl (Cov.skip rfl (Cov.refl _))))))))))))))))))))))))))))⟩
              · have h := e41
                have h := iteF q39 h
                refine WO.gyes rfl rfl (WO.mv rfl (WO.gyes rfl rfl (WO.mv rfl (WO.gyes rfl rfl ?_))))
                refine WO.bin rfl rfl (by decide) (by decide) rfl ?_
                refine WO.gyes rfl rfl (WO.mv rfl ?_)
                obtain ⟨y37, e38, h⟩ := bindS h
                refine WO.cutB (d := 72) 20 y37 (fun q36 => ?_) (fun q36 => ?_) ?_
                · have h := e38
                  have h := iteT q36 h
                  refine WO.gyes rfl rfl (WO.mv rfl (WO.gyes rfl rfl (WO.mv rfl (WO.gyes rfl rfl ?_))))
                  obtain ⟨x28, e29, h⟩ := bindS h
                  refine WO.ixS rfl rfl hot1.slv (at?_lt e29) rfl ?_
                  refine WO.gyes rfl rfl ?_
                  refine WO.ldF rfl hot1.ro (fun _ hi => hi) (at?_get e29) rfl rfl (limLe_self _) ?_
                  refine WO.gyes rfl rfl (WO.mv rfl (WO.gyes rfl rfl (WO.mv rfl (WO.gyes rfl rfl ?_))))
                  obtain ⟨x30, e31, h⟩ := bindS h
                  refine WO.ixS rfl rfl hot0.slv (at?_lt e31) rfl ?_
                  refine WO.gyes rfl rfl ?_
                  refine WO.ldF rfl hot0.ro (fun _ hi => hi) (at?_get e31) rfl rfl (limLe_self _) ?_
                  refine WO.gyes rfl rfl ?_
                  refine WO.bin rfl rfl (by decide) (by decide) rfl ?_
                  refine WO.gyes rfl rfl (WO.mv rfl (WO.gyes rfl rfl (WO.mv rfl (WO.gyes rfl rfl ?_))))
                  obtain ⟨x32, e33, h⟩ := bindS h
                  refine WO.ixS rfl rfl hot1.slv (at?_lt e33) rfl ?_
                  refine WO.gyes rfl rfl ?_
                  refine WO.ldF rfl hot1.ro (fun _ hi => hi) (at?_get e33) rfl rfl (limLe_self _) ?_
                  refine WO.gyes rfl rfl (WO.mv rfl (WO.gyes rfl rfl (WO.mv rfl (WO.gyes rfl rfl ?_))))
                  obtain ⟨x34, e35, h⟩ := bindS h
                  refine WO.ixS rfl rfl hot0.slv (at?_lt e35) rfl ?_
                  refine WO.gyes rfl rfl ?_
                  refine WO.ldF rfl hot0.ro (fun _ hi => hi) (at?_get e35) rfl rfl (limLe_self _) ?_
                  refine WO.gyes rfl rfl ?_
                  refine WO.bin rfl rfl (by decide) (by decide) rfl ?_
                  refine WO.gyes rfl rfl ?_
                  refine WO.bin rfl rfl (by decide) (by decide) rfl ?_
                  obtain rfl := someI h
                  refine WO.gyes rfl rfl ?_
                  refine WO.pickT rfl rfl ?_
                  refine WO.nil ?_
                  exact ⟨rfl, rfl, (Cov.cons rfl (Cov.skip rfl (Cov.skip rfl (Cov.skip rfl (Cov.skip rfl (Cov.skip rfl (Cov.skip rfl (Cov.skip rfl (Cov.skip rfl (Cov.skip rfl (Cov.skip rfl (Cov.skip rfl (Cov.skip rfl (Cov.skip rfl (Cov.skip rfl (Cov.skip rfl (Cov.skip rfl (Cov.skip rfl (Cov.skip rfl (Cov.skip rfl (Cov.skip rfl (Cov.skip rfl (Cov.refl _)))))))))))))))))))))))⟩
                · have h := e38
                  have h := iteF q36 h
                  obtain rfl := someI h
                  refine WO.gno rfl rfl (WO.gno rfl rfl (WO.gno rfl rfl (WO.gno rfl rfl (WO.gno rfl rfl (WO.gno rfl rfl (WO.gno rfl rfl (WO.gno rfl rfl (WO.gno rfl rfl (WO.gno rfl rfl ?_)))))))))
                  refine WO.gno rfl rfl (WO.gno rfl rfl (WO.gno rfl rfl (WO.gno rfl rfl (WO.gno rfl rfl (WO.gno rfl rfl (WO.gno rfl rfl (WO.gno rfl rfl (WO.gno rfl rfl (WO.gyes rfl rfl ?_)))))))))
                  refine WO.pickF rfl rfl ?_
                  refine WO.nil ?_
                  exact ⟨rfl, rfl, (Cov.cons rfl (Cov.skip rfl (Cov.skip rfl (Cov.skip rfl (Cov.skip rfl (Cov.skip rfl (Cov.skip rfl (Cov.skip rfl (Cov.skip rfl (Cov.skip rfl (Cov.skip rfl (Cov.skip rfl (Cov.skip rfl (Cov.skip rfl (Cov.skip rfl (Cov.skip rfl (Cov.skip rfl (Cov.skip rfl (Cov.skip rfl (Cov.skip rfl (Cov.skip rfl (Cov.skip rfl (Cov.refl _)))))))))))))))))))))))⟩
                obtain rfl := someI h
                refine WO.gyes rfl rfl ?_
                refine WO.pickF rfl rfl ?_
                refine WO.nil ?_
                exact ⟨rfl, rfl, (Cov.cons rfl (Cov.skip rfl (Cov.skip rfl (Cov.skip rfl (Cov.skip rfl (Cov.skip rfl (Cov.skip rfl (Cov.refl _))))))))⟩
              obtain rfl := someI h
              refine WO.pickT rfl rfl ?_
              refine WO.nil ?_
              exact ⟨rfl, rfl, (Cov.cons rfl (Cov.skip rfl (Cov.skip rfl (Cov.skip rfl (Cov.skip rfl (Cov.skip rfl (Cov.skip rfl (Cov.skip rfl (Cov.skip rfl (Cov.skip rfl (Cov.skip rfl (Cov.skip rfl (Cov.skip rfl (Cov.skip rfl (Cov.skip rfl (Cov.skip rfl (Cov.skip rfl (Cov.skip rfl (Cov.skip rfl (Cov.skip rfl (Cov.skip rfl (Cov.skip rfl (Cov.skip rfl (Cov.refl _))))))))))))))))))))))))⟩
            · have h := e44
              have h := iteF q42 h
              obtain rfl := someI h
              refine WO.gno rfl rfl (WO.gno rfl rfl (WO.gno rfl rfl (WO.gno rfl rfl (WO.gno rfl rfl (WO.gno rfl rfl (WO.gno rfl rfl (WO.gno rfl rfl (WO.gno rfl rfl (WO.gno rfl rfl ?_)))))))))
              refine WO.gno rfl rfl (WO.gno rfl rfl (WO.gno rfl rfl (WO.gno rfl rfl (WO.gno rfl rfl (WO.gno rfl rfl (WO.gno rfl rfl (WO.gno rfl rfl (WO.gno rfl rfl (WO.gno rfl rfl ?_)))))))))
              refine WO.gskip rfl rfl (WO.gskip rfl rfl (WO.gskip rfl rfl (WO.gskip rfl rfl (WO.gskip rfl rfl (WO.gskip rfl rfl (WO.gskip rfl rfl (WO.gskip rfl rfl (WO.gskip rfl rfl (WO.gskip rfl rfl ?_)))))))))
              refine WO.gskip rfl rfl (WO.gskip rfl rfl (WO.gskip rfl rfl (WO.gskip rfl rfl (WO.gskip rfl rfl (WO.gskip rfl rfl (WO.gskip rfl rfl (WO.gskip rfl rfl (WO.gskip rfl rfl (WO.gskip rfl rfl ?_)))))))))
              refine WO.gskip rfl rfl (WO.gskip rfl rfl (WO.gskip rfl rfl (WO.gskip rfl rfl (WO.gno rfl rfl ?_))))
              refine WO.pickF rfl rfl ?_
              refine WO.nil ?_
              exact ⟨rfl, rfl, (Cov.cons rfl (Cov.skip rfl (Cov.skip rfl (Cov.skip rfl (Cov.skip rfl (Cov.skip rfl (Cov.skip rfl (Cov.skip rfl (Cov.skip rfl (Cov.skip rfl (Cov.skip rfl (Cov.skip rfl (Cov.skip rfl (Cov.skip rfl (Cov.skip rfl (Cov.skip rfl (Cov.skip rfl (Cov.skip rfl (Cov.skip rfl (Cov.skip rfl (Cov.skip rfl (Cov.skip rfl (Cov.skip rfl (Cov.skip rfl (Cov.skip rfl (Cov.skip rfl (Cov.skip rfl (Cov.skip rfl (Cov.skip rfl (Cov.skip rfl (Cov.skip rfl (Cov.skip rfl (Cov.skip rfl (Cov.skip rfl (Cov.skip rfl (Cov.skip rfl (Cov.skip rfl (Cov.skip rfl (Cov.skip rfl (Cov.skip rfl (Cov.skip rfl (Cov.skip rfl (Cov.skip rfl (Cov.skip rfl (Cov.skip rfl (Cov.skip rfl (Cov.skip rfl (Cov.skip rfl (Cov.refl _)))))))))))))))))))))))))))))))))))))))))))))))))⟩
            refine WO.nil (thenL_n ?_)
            refine WC.cond rfl (fun q45 => ?_) (fun q45 => ?_)
            · have h := iteT q45 h
              refine WC.region (WO.asg rfl (WO.nil (blockL_n (thenL_n (WC.region ?_)))))
              refine WO.bin rfl rfl (by decide) (by decide) rfl ?_
              refine WO.mv rfl (WO.nil (thenL_n ?_))
              obtain rfl := someI h
              exact ⟨_, rfl, ⟨S15, rfl, rfl, (Cov.cons rfl (Cov.cons rfl (Cov.cons rfl (Cov.cons rfl (Cov.cons rfl (Cov.cons rfl (Cov.cons rfl (Cov.cons rfl (Cov.nil _))))))))), hot0, hot1⟩⟩
            · have h := iteF q45 h
              refine WC.skip (blockL_n (thenL_n (WC.region ?_)))
              refine WO.bin rfl rfl (by decide) (by decide) rfl ?_
              refine WO.mv rfl (WO.nil (thenL_n ?_))
              obtain rfl := someI h
              exact ⟨_, rfl, ⟨S15, rfl, rfl, (Cov.cons rfl (Cov.cons rfl (Cov.cons rfl (Cov.cons rfl (Cov.cons rfl (Cov.cons rfl (Cov.cons rfl (Cov.cons rfl (Cov.nil _))))))))), hot0, hot1⟩⟩
          · have h := iteF q17 h
            refine WC.exit (thenL_e (thenL_e ?_))
            obtain rfl := someI h
            exact ⟨_, rfl, rfl, ⟨S15, rfl, rfl, (Cov.cons rfl (Cov.cons rfl (Cov.cons rfl (Cov.cons rfl (Cov.cons rfl (Cov.cons rfl (Cov.nil _))))))), hot0, hot1⟩⟩
        rintro _ _ _ _ ⟨rfl, ⟨S48, rfl, rfl, hc49, hot0, hot1⟩⟩
        refine blockL_s (thenL_n (WC.cov hc49 (WC.seq (WC.region (WO.mv rfl (WO.nil (thenL_n ?_)))))))
        refine WC.cond rfl (fun q50 => ?_) (fun q50 => ?_)
        · have h := iteT q50 h
          refine WC.seq (WC.region (WO.mv rfl (WO.asg rfl (WO.nil (thenL_n (WC.ret (blockL_r (thenL_r (thenL_r ?_)))))))))
          obtain rfl := someI h
          exact ⟨_, rfl, rfl, ⟨S48, rfl, rfl, (Cov.cons rfl (Cov.nil _))⟩⟩
        · have h := iteF q50 h
          refine WC.skip (blockL_n (thenL_n (WC.region ?_)))
          refine WO.bin rfl rfl (by decide) (by decide) rfl ?_
          refine WO.mv rfl (WO.nil (thenL_n ?_))
          obtain rfl := someI h
          exact ⟨_, rfl, ⟨S48, rfl, rfl, (Cov.cons rfl (Cov.cons rfl (Cov.cons rfl (Cov.cons rfl (Cov.nil _))))), hot0, hot1⟩⟩
    · have h := iteF q8 h
      refine WC.exit (thenL_e (thenL_e ?_))
      obtain rfl := someI h
      exact ⟨_, rfl, rfl, ⟨S6, rfl, rfl, (Cov.nil _)⟩⟩
  cases b51 with
  | inl b53 =>
    simp only at h
    rintro _ _ _ _ ⟨rfl, ⟨S54, rfl, rfl, hc55⟩⟩
    refine blockL_s (thenL_n (WC.cov hc55 (WC.seq (WC.region (WO.asg rfl (WO.nil (thenL_n (WC.ret ?_))))))))
    obtain rfl := someI h
    exact ⟨.inr rfl, _, _, rfl, rfl, rfl⟩
  | inr b53 =>
    simp only at h
    rintro _ _ _ _ ⟨rfl, ⟨S56, rfl, rfl, hc57⟩⟩
    refine blockL_r (thenL_r ?_)
    obtain rfl := someI h
    exact ⟨.inr rfl, _, _, (resK_cov hc57 rfl), rfl, rfl⟩
end Go.Proofs.YtaphdnpjpmnaeabDoor

namespace Go.Proofs.YtaphdnpjpmnaeabDoor
open Go.Am
theorem F49.fn : E.fn 49 = some ⟨23, (Tryd.f49.body.getD .skip), Tryd.f49.results.toList, []⟩ := rfl
theorem F49_ok {F : Nat} {m : Mem} {n : Nat} {r : (List UInt8)} {t0 : List UInt8} {t1 : Int} (h : F49 F t0 t1 = some r)  : Ret E n 49 [.sc (.str t0), .sc (.int .u8 t1)] m n (fun v m' n' => v = .sc (.str r)) := by
  unfold F49 at h
  refine Ret.walk F49.fn ?_
  refine WC.start fun S0 em en hz => ?_
  refine WC.seq (WC.region (WO.asg rfl (WO.nil (thenL_n (WC.seq (WC.block ?_))))))
  obtain ⟨b14, e15, h⟩ := bindS h
  refine WC.loopD e15 (fun s1 l' m' n' => ∃ S2 : Cx n, S2.m = m' ∧ S2.n = n' ∧ Cov l' [(0, .sc (.str s1)), (1, .sc (.int .u8 t1))]) (fun b e l' m' n' => e = .exit 0 ∧ ∃ S3 : Cx n, S3.m = m' ∧ S3.n = n' ∧ Cov l' [(0, .sc (.str b))]) (by exact ⟨S0, rfl, rfl, (Cov.cons rfl (Cov.cons rfl (Cov.nil _)))⟩) ?_ ?_
  · clear h
    rintro s1 q _ _ _ ⟨S4, rfl, rfl, hc5⟩ h
    unfold F49_l0 at h
    refine WC.cov hc5 (WC.seq (WC.seq (WC.region (WO.mv rfl ?_))))
    refine WO.lenT rfl rfl rfl ?_
    refine WO.bin rfl rfl (by decide) (by decide) rfl ?_
    refine WO.mv rfl ?_
    obtain ⟨y9, e10, h⟩ := bindS h
    refine WO.cutB (d := 16) 8 y9 (fun q8 => ?_) (fun q8 => ?_) ?_
    · have h := e10
      have h := iteT q8 h
      refine WO.gyes rfl rfl (WO.mv rfl (WO.gyes rfl rfl (WO.mv rfl (WO.gyes rfl rfl ?_))))
      refine WO.lenT rfl rfl rfl ?_
      refine WO.gyes rfl rfl ?_
      refine WO.bin rfl rfl (by decide) (by decide) rfl ?_
      refine WO.gyes rfl rfl ?_
      obtain ⟨x6, e7, h⟩ := bindS h
      refine WO.ixT rfl rfl e7 rfl rfl ?_
      refine WO.gyes rfl rfl (WO.mv rfl (WO.gyes rfl rfl ?_))
      refine WO.bin rfl rfl (by decide) (by decide) rfl ?_
      obtain rfl := someI h
      refine WO.pickT rfl rfl ?_
      refine WO.nil ?_
      exact ⟨rfl, rfl, (Cov.cons rfl (Cov.skip rfl (Cov.skip rfl (Cov.skip rfl (Cov.skip rfl (Cov.skip rfl (Cov.skip rfl (Cov.skip rfl (Cov.skip rfl (Cov.skip rfl (Cov.refl _)))))))))))⟩
    · have h := e10
      have h := iteF q8 h
      obtain rfl := someI h
      refine WO.gno rfl rfl (WO.gno rfl rfl (WO.gno rfl rfl (WO.gno rfl rfl (WO.gno rfl rfl (WO.gno rfl rfl (WO.gno rfl rfl ?_))))))
      refine WO.pickF rfl rfl ?_
      refine WO.nil ?_
      exact ⟨rfl, rfl, (Cov.cons rfl (Cov.skip rfl (Cov.skip rfl (Cov.skip rfl (Cov.skip rfl (Cov.skip rfl (Cov.skip rfl (Cov.skip rfl (Cov.skip rfl (Cov.skip rfl (Cov.refl _)))))))))))⟩
    refine WO.nil (thenL_n ?_)
    refine WC.cond rfl (fun q11 => ?_) (fun q11 => ?_)
    · have h := iteT q11 h
      refine WC.skip (thenL_n (WC.block (WC.region (WO.mv rfl (WO.mv rfl ?_)))))
      refine WO.lenT rfl rfl rfl ?_
      refine WO.bin rfl rfl (by decide) (by decide) rfl ?_
      obtain ⟨x12, e13, h⟩ := bindS h
      refine WO.slcT (k := .i64) rfl (.inr ⟨rfl, rfl⟩) (.inl ⟨_, rfl, rfl⟩) e13 rfl rfl ?_
      refine WO.asg rfl (WO.nil (blockL_n (thenL_n ?_)))
      obtain rfl := someI h
      exact ⟨_, rfl, ⟨S4, rfl, rfl, (Cov.cons rfl (Cov.cons rfl (Cov.nil _)))⟩⟩
    · have h := iteF q11 h
      refine WC.exit (thenL_e (thenL_e ?_))
      obtain rfl := someI h
      exact ⟨_, rfl, rfl, ⟨S4, rfl, rfl, (Cov.cons rfl (Cov.nil _))⟩⟩
  rintro _ _ _ _ ⟨rfl, ⟨S16, rfl, rfl, hc17⟩⟩
  refine blockL_s (thenL_n (WC.cov hc17 (WC.seq (WC.region (WO.mv rfl (WO.asg rfl (WO.nil (thenL_n (WC.ret ?_)))))))))
  obtain rfl := someI h
  exact ⟨.inr rfl, _, _, rfl, rfl, rfl⟩
end Go.Proofs.YtaphdnpjpmnaeabDoor

namespace Go.Proofs.YtaphdnpjpmnaeabDoor
open Go.Am
theorem F48.fn : E.fn 48 = some ⟨17, (Tryd.f48.body.getD .skip), Tryd.f48.results.toList, []⟩ := rfl
theorem F48_ok {F : Nat} {m : Mem} {n : Nat} {r : (List UInt8)} {t0 : List UInt8} {t1 : Int} (h : F48 F t0 t1 = some r)  : Ret E n 48 [.sc (.str t0), .sc (.int .u8 t1)] m n (fun v m' n' => v = .sc (.str r)) := by
  unfold F48 at h
  refine Ret.walk F48.fn ?_
  refine WC.start fun S0 em en hz => ?_
  refine WC.seq (WC.region (WO.asg rfl (WO.nil (thenL_n (WC.seq (WC.block ?_))))))
  obtain ⟨b14, e15, h⟩ := bindS h
  refine WC.loopD e15 (fun s1 l' m' n' => ∃ S2 : Cx n, S2.m = m' ∧ S2.n = n' ∧ Cov l' [(0, .sc (.str s1)), (1, .sc (.int .u8 t1))]) (fun b e l' m' n' => e = .exit 0 ∧ ∃ S3 : Cx n, S3.m = m' ∧ S3.n = n' ∧ Cov l' [(0, .sc (.str b))]) (by exact ⟨S0, rfl, rfl, (Cov.cons rfl (Cov.cons rfl (Cov.nil _)))⟩) ?_ ?_
  · clear h
    rintro s1 q _ _ _ ⟨S4, rfl, rfl, hc5⟩ h
    unfold F48_l0 at h
    refine WC.cov hc5 (WC.seq (WC.seq (WC.region (WO.mv rfl ?_))))
    refine WO.lenT rfl rfl rfl ?_
    refine WO.bin rfl rfl (by decide) (by decide) rfl ?_
    refine WO.mv rfl ?_
    obtain ⟨y9, e10, h⟩ := bindS h
    refine WO.cutB (d := 13) 5 y9 (fun q8 => ?_) (fun q8 => ?_) ?_
    · have h := e10
      have h := iteT q8 h
      refine WO.gyes rfl rfl (WO.mv rfl (WO.gyes rfl rfl ?_))
      obtain ⟨x6, e7, h⟩ := bindS h
      refine WO.ixT rfl rfl e7 rfl rfl ?_
      refine WO.gyes rfl rfl (WO.mv rfl (WO.gyes rfl rfl ?_))
      refine WO.bin rfl rfl (by decide) (by decide) rfl ?_
      obtain rfl := someI h
      refine WO.pickT rfl rfl ?_
      refine WO.nil ?_
      exact ⟨rfl, rfl, (Cov.cons rfl (Cov.skip rfl (Cov.skip rfl (Cov.skip rfl (Cov.skip rfl (Cov.skip rfl (Cov.skip rfl (Cov.refl _))))))))⟩
    · have h := e10
      have h := iteF q8 h
      obtain rfl := someI h
      refine WO.gno rfl rfl (WO.gno rfl rfl (WO.gno rfl rfl (WO.gno rfl rfl ?_)))
      refine WO.pickF rfl rfl ?_
      refine WO.nil ?_
      exact ⟨rfl, rfl, (Cov.cons rfl (Cov.skip rfl (Cov.skip rfl (Cov.skip rfl (Cov.skip rfl (Cov.skip rfl (Cov.skip rfl (Cov.refl _))))))))⟩
    refine WO.nil (thenL_n ?_)
    refine WC.cond rfl (fun q11 => ?_) (fun q11 => ?_)
    · have h := iteT q11 h
      refine WC.skip (thenL_n (WC.block (WC.region (WO.mv rfl ?_))))
      obtain ⟨x12, e13, h⟩ := bindS h
      refine WO.slcT (k' := .i64) rfl (.inl ⟨_, rfl, rfl⟩) (.inr ⟨rfl, rfl⟩) e13 rfl rfl ?_
      refine WO.asg rfl (WO.nil (blockL_n (thenL_n ?_)))
      obtain rfl := someI h
      exact ⟨_, rfl, ⟨S4, rfl, rfl, (Cov.cons rfl (Cov.cons rfl (Cov.nil _)))⟩⟩
    · have h := iteF q11 h
      refine WC.exit (thenL_e (thenL_e ?_))
      obtain rfl := someI h
      exact ⟨_, rfl, rfl, ⟨S4, rfl, rfl, (Cov.cons rfl (Cov.nil _))⟩⟩
  rintro _ _ _ _ ⟨rfl, ⟨S16, rfl, rfl, hc17⟩⟩
  refine blockL_s (thenL_n (WC.cov hc17 (WC.seq (WC.region (WO.mv rfl (WO.asg rfl (WO.nil (thenL_n (WC.ret ?_)))))))))
  obtain rfl := someI h
  exact ⟨.inr rfl, _, _, rfl, rfl, rfl⟩
end Go.Proofs.YtaphdnpjpmnaeabDoor

namespace Go.Proofs.YtaphdnpjpmnaeabDoor
open Go.Am
theorem F50.fn : E.fn 50 = some ⟨21, (Tryd.f50.body.getD .skip), Tryd.f50.results.toList, []⟩ := rfl
theorem F50_ok {F : Nat} {m : Mem} {n : Nat} {r : (List Bool) × Bool} {t0 : List UInt8} (h : F50 F t0 = some r)  : Ret E n 50 [.sc (.str t0)] m n (fun v m' n' => v = .tup [.agg (List.map SV.bool r.1), .sc (.bool r.2)]) := by
  unfold F50 at h
  refine Ret.walk F50.fn ?_
  refine WC.start fun S0 em en hz => ?_
  refine WC.seq (WC.region ?_)
  refine WO.alS (A := Y94) (S := S0) (z0 := (List.replicate 256 false)) 2 rfl ⟨List.length_replicate, List.map_replicate.symm⟩ rfl (fun v1 S2 c3 ho4 => ?_)
  refine WO.asg rfl (WO.nil (thenL_n (WC.seq (WC.seq (WC.region (WO.asg rfl (WO.nil (thenL_n (WC.block ?_)))))))))
  obtain ⟨b23, e24, h⟩ := bindS h
  refine WC.loopD e24 (fun s5 l' m' n' => ∃ S6 : Cx n, S6.m = m' ∧ S6.n = n' ∧ Cov l' [(0, .sc (.str t0)), (2, .sc v1), (4, .sc (.int .i64 s5.1))] ∧ Bk Y94 S6 2 v1 s5.2) (fun b e l' m' n' => (match b with | .inl b7 => e = .exit 0 ∧ ∃ S8 : Cx n, S8.m = m' ∧ S8.n = n' ∧ Cov l' [(2, .sc v1)] ∧ Bk Y94 S8 2 v1 b7 | .inr b7 => e = .ret ∧ ∃ S9 : Cx n, S9.m = m' ∧ S9.n = n' ∧ Cov l' [(2, .sc v1), (3, .sc (.bool b7.1))] ∧ Bk Y94 S9 2 v1 b7.2)) (by exact ⟨S2, rfl, rfl, (Cov.cons rfl (Cov.cons rfl (Cov.cons rfl (Cov.nil _)))), ho4⟩) ?_ ?_
  · clear h
    rintro s5 q _ _ _ ⟨S10, rfl, rfl, hc11, ho4⟩ h
    unfold F50_l0 at h
    refine WC.cov hc11 (WC.seq (WC.seq (WC.region (WO.mv rfl (WO.mv rfl ?_)))))
    refine WO.lenT rfl rfl rfl ?_
    refine WO.bin rfl rfl (by decide) (by decide) rfl ?_
    refine WO.nil (thenL_n ?_)
    refine WC.cond rfl (fun q12 => ?_) (fun q12 => ?_)
    · have h := iteT q12 h
      refine WC.skip (thenL_n (WC.seq (WC.block (WC.seq (WC.region (WO.mv rfl (WO.mv rfl ?_)))))))
      obtain ⟨x13, e14, h⟩ := bindS h
      refine WO.ixT rfl rfl e14 rfl rfl ?_
      refine WO.asg rfl (WO.nil (thenL_n (WC.seq (WC.seq (WC.region (WO.mv rfl ?_))))))
      refine WO.bin rfl rfl (by decide) (by decide) rfl ?_
      refine WO.nil (thenL_n ?_)
      refine WC.cond rfl (fun q15 => ?_) (fun q15 => ?_)
      · have h := iteT q15 h
        refine WC.seq (WC.region ?_)
        refine WO.ldV (j := 0) rfl ho4.at0 ho4 rfl rfl (fun hv16 => ?_)
        refine WO.stV (S := S10) rfl ho4.at0 rfl ho4 hv16 rfl rfl (fun S17 c18 ho4 => ?_)
        refine WO.asg rfl (WO.nil (thenL_n (WC.ret (thenL_r (blockL_r (thenL_r (thenL_r ?_)))))))
        obtain rfl := someI h
        exact ⟨_, rfl, rfl, ⟨S17, rfl, rfl, (Cov.cons rfl (Cov.cons rfl (Cov.nil _))), ho4⟩⟩
      · have h := iteF q15 h
        refine WC.skip (thenL_n (WC.region (WO.mv rfl ?_)))
        obtain ⟨u19, e20, h⟩ := bindS h
        refine WO.ixR rfl ho4 rfl (ck_some e20) rfl ?_
        refine WO.stR rfl rfl rfl ho4 (ck_nat e20) rfl rfl (fun S21 c22 ho4 => ?_)
        refine WO.nil (blockL_n (thenL_n (WC.region (WO.mv rfl ?_))))
        refine WO.bin rfl rfl (by decide) (by decide) rfl ?_
        refine WO.asg rfl (WO.nil (thenL_n ?_))
        obtain rfl := someI h
        exact ⟨_, rfl, ⟨S21, rfl, rfl, (Cov.cons rfl (Cov.cons rfl (Cov.cons rfl (Cov.nil _)))), ho4⟩⟩
    · have h := iteF q12 h
      refine WC.exit (thenL_e (thenL_e ?_))
      obtain rfl := someI h
      exact ⟨_, rfl, rfl, ⟨S10, rfl, rfl, (Cov.cons rfl (Cov.nil _)), ho4⟩⟩
  cases b23 with
  | inl b25 =>
    simp only at h
    rintro _ _ _ _ ⟨rfl, ⟨S26, rfl, rfl, hc27, ho4⟩⟩
    refine blockL_s (thenL_n (WC.cov hc27 (WC.seq (WC.region ?_))))
    refine WO.ldV (j := 0) rfl ho4.at0 ho4 rfl rfl (fun hv28 => ?_)
    refine WO.stV (S := S26) rfl ho4.at0 rfl ho4 hv28 rfl rfl (fun S29 c30 ho4 => ?_)
    refine WO.asg rfl (WO.nil (thenL_n (WC.ret ?_)))
    have hcell := ho4
    obtain rfl := someI h
    exact ⟨.inr rfl, _, _, (resK_ar hcell (Cov.refl _) rfl rfl (resK_t (Cov.refl _) rfl rfl)), rfl, rfl⟩
  | inr b25 =>
    simp only at h
    rintro _ _ _ _ ⟨rfl, ⟨S31, rfl, rfl, hc32, ho4⟩⟩
    refine blockL_r (thenL_r ?_)
    have hcell := ho4
    obtain rfl := someI h
    exact ⟨.inr rfl, _, _, (resK_ar hcell hc32 rfl rfl (resK_t hc32 rfl rfl)), rfl, rfl⟩
end Go.Proofs.YtaphdnpjpmnaeabDoor

namespace Go.Proofs.YtaphdnpjpmnaeabDoor
open Go.Am
theorem F55.fn : E.fn 55 = some ⟨10, (Tryd.f55.body.getD .skip), Tryd.f55.results.toList, []⟩ := rfl
theorem F55_ok {F : Nat} {m : Mem} {n : Nat} {r : Bool} {t0 : List Bool} {t1 : Int} {bt0 : Nat} (h : F55 F t0 t1 = some r) (kt0 : Pv Y94 n m bt0 t0) : Ret E n 55 [.sc (.ptr bt0 0), .sc (.int .u8 t1)] m n (fun v m' n' => v = .sc (.bool r)) := by
  unfold F55 at h
  refine Ret.walk F55.fn ?_
  refine WC.start fun S0 em en hz => ?_
  have hot0 := kt0.rpS em hz
  refine WC.seq (WC.region (WO.asg rfl (WO.nil (thenL_n (WC.seq (WC.region (WO.mv rfl (WO.mv rfl ?_))))))))
  refine WO.nck rfl hot0.isp ?_
  obtain ⟨x1, e2, h⟩ := bindS h
  refine WO.ixRp rfl hot0 rfl (at?_lt e2) rfl ?_
  refine WO.ldRp rfl rfl hot0 (at?_get e2) rfl rfl ?_
  refine WO.asg rfl (WO.nil (thenL_n (WC.ret ?_)))
  obtain rfl := someI h
  exact ⟨.inr rfl, _, _, rfl, rfl, rfl⟩
end Go.Proofs.YtaphdnpjpmnaeabDoor

/- The machine answers the functions' texts: printed by a program of ours (gen.py). -/
import Derived.Test.YtaphdnpjpmnaeabDoorG3
set_option linter.unusedVariables false
set_option maxRecDepth 20000
set_option maxHeartbeats 4000000
namespace Go.Proofs.YtaphdnpjpmnaeabDoor
open Go.Am
theorem F8.fn : E.fn 8 = some ⟨20, (Tryd.f8.body.getD .skip), Tryd.f8.results.toList, []⟩ := rfl
theorem F8_ok {F : Nat} {m : Mem} {n : Nat} {r : Int × Int} {t0 : (List ((List UInt8) × Int × Int)) × (List ((List UInt8) × (List UInt8) × Int))} {t1 : List UInt8} {bt0 : Nat} {vt0_0 : SV} {vt0_1 : SV} (h : F8 F t0 t1 = some r) (kt0 : Pw n m (.ptr bt0 0) [vt0_0, vt0_1]) (kt0_0 : Vw Y52 n m vt0_0 t0.1) (kt0_1 : Vw Y82 n m vt0_1 t0.2) : Ret E n 8 [.sc (.ptr bt0 0), .sc (.str t1)] m n (fun v m' n' => v = .tup [.sc (.int .i64 r.1), .sc (.int .i64 r.2)]) := by
  unfold F8 at h
  refine Ret.walk F8.fn ?_
  refine WC.start fun S0 em en hz => ?_
  have hot0_0 := kt0_0.rdS em hz
  have hot0_1 := kt0_1.rdS em hz
  have hot0 := kt0.rwS em hz
  refine WC.seq (WC.region (WO.asg rfl (WO.asg rfl (WO.nil (thenL_n (WC.seq (WC.region (WO.mv rfl (WO.mv rfl ?_)))))))))
  obtain ⟨r1, e2, h⟩ := bindS h
  refine WO.callE (S := S0) rfl rfl (F16_ok e2 hot0.pw hot0_0.vw hot0_1.vw) (fun S3 c4 => ?_)
  have hot0_0 := hot0_0.to c4
  have hot0_1 := hot0_1.to c4
  have hot0 := hot0.to c4
  refine WO.asg rfl (WO.nil (thenL_n (WC.seq (WC.seq (WC.region (WO.mv rfl ?_))))))
  refine WO.bin rfl rfl (by decide) (by decide) rfl ?_
  refine WO.nil (thenL_n ?_)
  refine WC.cond rfl (fun q5 => ?_) (fun q5 => ?_)
  · have h := iteT q5 h
    refine WC.seq (WC.region (WO.asg rfl (WO.asg rfl (WO.nil (thenL_n (WC.ret (thenL_r ?_)))))))
    obtain rfl := someI h
    exact ⟨.inr rfl, _, _, rfl, rfl, rfl⟩
  · have h := iteF q5 h
    refine WC.skip (thenL_n (WC.seq (WC.region (WO.mv rfl ?_))))
    refine WO.nck rfl hot0.isp ?_
    refine WO.fldS (j := 0) (q := 0) rfl hot0.at0 hot0.ptr rfl rfl rfl (by decide) ?_
    refine WO.ldRw rfl rfl hot0 rfl rfl hot0.lt rfl ?_
    refine WO.mv rfl ?_
    obtain ⟨x6, e7, h⟩ := bindS h
    refine WO.ixS rfl rfl hot0_0.slv (at?_lt e7) rfl ?_
    refine WO.fldS rfl rfl (SlV.ptr hot0_0.slv (at?_nat e7)) rfl rfl rfl (by decide) ?_
    refine WO.ldF rfl hot0_0.ro (fun _ hi => hi) (at?_get e7) rfl rfl rfl ?_
    refine WO.asg rfl (WO.asg rfl (WO.nil (thenL_n (WC.ret ?_))))
    obtain rfl := someI h
    exact ⟨.inr rfl, _, _, rfl, rfl, rfl⟩
end Go.Proofs.YtaphdnpjpmnaeabDoor

namespace Go.Proofs.YtaphdnpjpmnaeabDoor
open Go.Am
theorem F31.fn : E.fn 31 = some ⟨26, (Tryd.f31.body.getD .skip), Tryd.f31.results.toList, []⟩ := rfl
theorem F31_ok {F : Nat} {m : Mem} {n : Nat} {r : Bool} {t0 : List (List UInt8)} {t1 : List (List UInt8)} {vt0 : SV} {vt1 : SV} (h : F31 F t0 t1 = some r) (kt0 : Vw Y9 n m vt0 t0) (kt1 : Vw Y9 n m vt1 t1) : Ret E n 31 [.sc vt0, .sc vt1] m n (fun v m' n' => v = .sc (.bool r)) := by
  unfold F31 at h
  refine Ret.walk F31.fn ?_
  refine WC.start fun S0 em en hz => ?_
  have hot0 := kt0.rdS em hz
  have hot1 := kt1.rdS em hz
  refine WC.seq (WC.region (WO.asg rfl (WO.nil (thenL_n (WC.seq (WC.seq (WC.region (WO.mv rfl ?_))))))))
  refine WO.lenS rfl hot0.slv rfl ?_
  refine WO.mv rfl ?_
  refine WO.lenS rfl hot1.slv rfl ?_
  refine WO.bin rfl rfl (by decide) (by decide) rfl ?_
  refine WO.nil (thenL_n ?_)
  refine WC.cond rfl (fun q1 => ?_) (fun q1 => ?_)
  · have h := iteT q1 h
    refine WC.seq (WC.region (WO.asg rfl (WO.nil (thenL_n (WC.ret (thenL_r ?_))))))
    obtain rfl := someI h
    exact ⟨.inr rfl, _, _, rfl, rfl, rfl⟩
  · have h := iteF q1 h
    refine WC.skip (thenL_n (WC.seq (WC.seq (WC.region (WO.mv rfl ?_)))))
    refine WO.lenS rfl hot0.slv rfl ?_
    refine WO.mv rfl (WO.nil (thenL_n (WC.block ?_)))
    obtain ⟨b15, e16, h⟩ := bindS h
    refine WC.loopD e16 (fun s2 l' m' n' => ∃ S3 : Cx n, S3.m = m' ∧ S3.n = n' ∧ Cov l' [(0, .sc vt0), (1, .sc vt1), (12, .sc (.int .i64 ((t0.length : Int)))), (13, .sc (.int .i64 s2))] ∧ Rd Y9 S3 vt0 t0 ∧ Rd Y9 S3 vt1 t1) (fun b e l' m' n' => (match b with | .inl b4 => e = .exit 0 ∧ ∃ S5 : Cx n, S5.m = m' ∧ S5.n = n' ∧ Cov l' [] | .inr b4 => e = .ret ∧ ∃ S6 : Cx n, S6.m = m' ∧ S6.n = n' ∧ Cov l' [(4, .sc (.bool b4))])) (by exact ⟨S0, rfl, rfl, (Cov.cons rfl (Cov.cons rfl (Cov.cons rfl (Cov.cons rfl (Cov.nil _))))), hot0, hot1⟩) ?_ ?_
    · clear h
      rintro s2 q _ _ _ ⟨S7, rfl, rfl, hc8, hot0, hot1⟩ h
      unfold F31_l0 at h
      refine WC.cov hc8 (WC.seq (WC.region ?_))
      refine WO.bin rfl rfl (by decide) (by decide) rfl ?_
      refine WO.nil (thenL_n (WC.seq ?_))
      refine WC.cond rfl (fun q9 => ?_) (fun q9 => ?_)
      · have h := iteT q9 h
        refine WC.skip (thenL_n (WC.seq (WC.block (WC.seq (WC.region (WO.mv rfl (WO.asg rfl (WO.nil (thenL_n ?_)))))))))
        refine WC.seq ?_
        refine WC.drawP rfl rfl ?_
        refine WO.mv rfl (WO.mv rfl ?_)
        obtain ⟨x10, e11, h⟩ := bindS h
        refine WO.ixS rfl rfl hot0.slv (at?_lt e11) rfl ?_
        refine WO.ldF rfl hot0.ro (fun _ hi => hi) (at?_get e11) rfl rfl (limLe_self _) ?_
        refine WO.mv rfl (WO.mv rfl ?_)
        obtain ⟨x12, e13, h⟩ := bindS h
        refine WO.ixS rfl rfl hot1.slv (at?_lt e13) rfl ?_
        refine WO.ldF rfl hot1.ro (fun _ hi => hi) (at?_get e13) rfl rfl (limLe_self _) ?_
        refine WO.do rfl rfl ?_
        refine WO.nil (thenL_n ?_)
        refine WC.cond rfl (fun q14 => ?_) (fun q14 => ?_)
        · have h := iteT q14 h
          refine WC.seq (WC.region (WO.asg rfl (WO.nil (thenL_n (WC.ret (blockL_r (thenL_r (thenL_r ?_))))))))
          obtain rfl := someI h
          exact ⟨_, rfl, rfl, ⟨S7, rfl, rfl, (Cov.cons rfl (Cov.nil _))⟩⟩
        · have h := iteF q14 h
          refine WC.skip (blockL_n (thenL_n (WC.region ?_)))
          refine WO.bin rfl rfl (by decide) (by decide) rfl ?_
          refine WO.mv rfl (WO.nil (thenL_n ?_))
          obtain rfl := someI h
          exact ⟨_, rfl, ⟨S7, rfl, rfl, (Cov.cons rfl (Cov.cons rfl (Cov.cons rfl (Cov.cons rfl (Cov.nil _))))), hot0, hot1⟩⟩
      · have h := iteF q9 h
        refine WC.exit (thenL_e (thenL_e ?_))
        obtain rfl := someI h
        exact ⟨_, rfl, rfl, ⟨S7, rfl, rfl, (Cov.nil _)⟩⟩
    cases b15 with
    | inl b17 =>
      simp only at h
      rintro _ _ _ _ ⟨rfl, ⟨S18, rfl, rfl, hc19⟩⟩
      refine blockL_s (thenL_n (WC.cov hc19 (WC.seq (WC.region (WO.asg rfl (WO.nil (thenL_n (WC.ret ?_))))))))
      obtain rfl := someI h
      exact ⟨.inr rfl, _, _, rfl, rfl, rfl⟩
    | inr b17 =>
      simp only at h
      rintro _ _ _ _ ⟨rfl, ⟨S20, rfl, rfl, hc21⟩⟩
      refine blockL_r (thenL_r ?_)
      obtain rfl := someI h
      exact ⟨.inr rfl, _, _, (resK_cov hc21 rfl), rfl, rfl⟩
end Go.Proofs.YtaphdnpjpmnaeabDoor

namespace Go.Proofs.YtaphdnpjpmnaeabDoor
open Go.Am
theorem F9.fn : E.fn 9 = some ⟨8, (Tryd.f9.body.getD .skip), Tryd.f9.results.toList, []⟩ := rfl
theorem F9_ok {F : Nat} {m : Mem} {n : Nat} {r : Bool} {t0 : List (List UInt8)} {t1 : List (List UInt8)} {vt0 : SV} {vt1 : SV} (h : F9 F t0 t1 = some r) (kt0 : Vw Y9 n m vt0 t0) (kt1 : Vw Y9 n m vt1 t1) : Ret E n 9 [.sc vt0, .sc vt1] m n (fun v m' n' => v = .sc (.bool r)) := by
  unfold F9 at h
  refine Ret.walk F9.fn ?_
  refine WC.start fun S0 em en hz => ?_
  have hot0 := kt0.rdS em hz
  have hot1 := kt1.rdS em hz
  refine WC.seq (WC.region (WO.asg rfl (WO.nil (thenL_n (WC.seq (WC.region (WO.mv rfl (WO.mv rfl ?_))))))))
  obtain ⟨r1, e2, h⟩ := bindS h
  refine WO.callE (S := S0) rfl rfl (F31_ok e2 hot0.vw hot1.vw) (fun S3 c4 => ?_)
  have hot0 := hot0.to c4
  have hot1 := hot1.to c4
  refine WO.asg rfl (WO.nil (thenL_n (WC.ret ?_)))
  obtain rfl := someI h
  exact ⟨.inr rfl, _, _, rfl, rfl, rfl⟩
end Go.Proofs.YtaphdnpjpmnaeabDoor

namespace Go.Proofs.YtaphdnpjpmnaeabDoor
open Go.Am
theorem F3.fn : E.fn 3 = some ⟨123, (Tryd.f3.body.getD .skip), Tryd.f3.results.toList, []⟩ := rfl
theorem F3_ok {F : Nat} {m : Mem} {n : Nat} {r : Bool} {t0 : List (Int × Int × (List UInt8) × (List UInt8))} {t1 : List UInt8} {vt0 : SV} (h : F3 F t0 t1 = some r) (kt0 : Vw Y32 n m vt0 t0) : Ret E n 3 [.sc vt0, .sc (.str t1)] m n (fun v m' n' => v = .sc (.bool r)) := by
  unfold F3 at h
  refine Ret.walk F3.fn ?_
  refine WC.start fun S0 em en hz => ?_
  have hot0 := kt0.rdS em hz
  refine WC.seq (WC.region (WO.asg rfl (WO.nil (thenL_n (WC.seq (WC.region ?_))))))
  obtain ⟨r1, e2, h⟩ := bindS h
  refine WO.callG (S := S0) [] [(904, 2), (906, 3), (902, 4)] rfl rfl (F4_ok (S0 := S0.mp []) e2) (fun _ S4 S5 hb hR => ?_)
  obtain ⟨v3, rfl, hR⟩ := hR
  have c6 : Ch 1 S0 S5 := hb.ch [] 1
  have hot0 := hot0.to c6
  cases hN : r1 with
  | none =>
    rw [hN] at h hR
    simp only at h hR
    subst hR
    refine WO.asg rfl (WO.nil (thenL_n (WC.seq (WC.seq (WC.region (WO.mv rfl ?_))))))
    refine WO.do rfl rfl ?_
    refine WO.mv rfl ?_
    cases h
  | some x7 =>
    rw [hN] at h hR
    simp only at h hR
    obtain ⟨b8, v9, v11, rfl, hR, hR500, hR501⟩ := hR
    have ho13 := hR.bk hb rfl
    have ho10 := hR500.bkF hb rfl Lay.flat_fl
    have ho12 := hR501.bkF hb rfl Lay.flat_fl
    refine WO.asg rfl (WO.nil (thenL_n (WC.seq (WC.seq (WC.region (WO.mv rfl ?_))))))
    refine WO.do rfl rfl ?_
    refine WO.mv rfl ?_
    obtain ⟨y21, e22, h⟩ := bindS h
    refine WO.cutS (d := 29) (S := S5) 5 y21 (fun q20 => ?_) (fun q20 => ?_) (fun S23 c24 => ?_)
    · have h := e22
      have h := iteT q20 h
      obtain rfl := someI h
      refine WO.gno rfl rfl (WO.gno rfl rfl (WO.gno rfl rfl (WO.gno rfl rfl ?_)))
      refine WO.pickT rfl rfl ?_
      refine WO.nil ?_
      exact ⟨S5, rfl, rfl, Ch.refl _ _, (Cov.cons rfl (Cov.skip rfl (Cov.skip rfl (Cov.skip rfl (Cov.skip rfl (Cov.skip rfl (Cov.skip rfl (Cov.refl _))))))))⟩
    · have h := e22
      have h := iteF q20 h
      refine WO.gyes rfl rfl (WO.mv rfl (WO.gyes rfl rfl ?_))
      obtain ⟨r14, e15, h⟩ := bindS h
      refine WO.callF (S := S5) 1 rfl rfl (F5_ok e15 ho13.pw ho10.vw ho12.vw) Lay.flat_fl (fun v16 S18 c19 ho17 => ?_)
      have hot0 := hot0.to c19
      have ho10 := ho10.to c19
      have ho12 := ho12.to c19
      have ho13 := ho13.to c19
      refine WO.gyes rfl rfl ?_
      refine WO.lenS rfl ho17.slv rfl ?_
      refine WO.gyes rfl rfl ?_
      refine WO.bin rfl rfl (by decide) (by decide) rfl ?_
      obtain rfl := someI h
      refine WO.pickF rfl rfl ?_
      refine WO.nil ?_
      exact ⟨S18, rfl, rfl, c19, (Cov.cons rfl (Cov.skip rfl (Cov.skip rfl (Cov.skip rfl (Cov.skip rfl (Cov.skip rfl (Cov.skip rfl (Cov.refl _))))))))⟩
    have hot0 := hot0.to c24
    have ho10 := ho10.to c24
    have ho12 := ho12.to c24
    have ho13 := ho13.to c24
    refine WO.nil (thenL_n ?_)
    refine WC.cond rfl (fun q25 => ?_) (fun q25 => ?_)
    · have h := iteT q25 h
      refine WC.seq (WC.region (WO.asg rfl (WO.nil (thenL_n (WC.ret (thenL_r ?_))))))
      obtain rfl := someI h
      exact ⟨.inr rfl, _, _, rfl, rfl, rfl⟩
    · have h := iteF q25 h
      refine WC.skip (thenL_n (WC.seq (WC.region ?_)))
      refine WO.do rfl rfl ?_
      refine WO.alW (S := S23) (cs := [.nils, .nils]) 5 rfl rfl rfl (fun b26 S27 c28 ho29 => ?_)
      have hot0 := hot0.to c28
      have ho10 := ho10.to c28
      have ho12 := ho12.to c28
      have ho13 := ho13.to c28
      refine WO.stW (S := S27) (r := [.nils, .nils]) rfl ho29.at0 rfl rfl ho29 rfl rfl rfl rfl rfl (fun S30 c31 ho29 => ?_)
      have hot0 := hot0.to c31
      have ho10 := ho10.to c31
      have ho12 := ho12.to c31
      have ho13 := ho13.to c31
      refine WO.nil (thenL_n (WC.seq (WC.seq (WC.region (WO.mv rfl ?_)))))
      refine WO.lenS rfl hot0.slv rfl ?_
      refine WO.mv rfl (WO.nil (thenL_n (WC.block ?_)))
      obtain ⟨b165, e166, h⟩ := bindS h
      refine WC.loopD e166 (fun s32 l' m' n' => ∃ S37 : Cx n, ∃ v38 v39 v40 v41 : SV, S37.m = m' ∧ S37.n = n' ∧ Cov l' [(1, .sc (.str t1)), (5, .sc ((.ptr b8 0))), (6, .sc ((.ptr b26 0))), (31, .sc vt0), (32, .sc (.int .i64 ((t0.length : Int)))), (33, .sc (.int .i64 s32.1))] ∧ Bw S37 4 (.ptr b8 0) [v38, v39] ∧ Bw S37 5 (.ptr b26 0) [v40, v41] ∧ Rd Y32 S37 vt0 t0 ∧ Ow Y52 S37 2 v38 s32.2.1 ∧ Ow Y82 S37 3 v39 s32.2.2.1 ∧ Rd Y41 S37 v40 s32.2.2.2.1 ∧ Rd Y65 S37 v41 s32.2.2.2.2) (fun b e l' m' n' => (match b with | .inl b42 => e = .exit 0 ∧ ∃ S43 : Cx n, ∃ v44 v45 v46 v47 : SV, S43.m = m' ∧ S43.n = n' ∧ Cov l' [(1, .sc (.str t1)), (5, .sc ((.ptr b8 0))), (6, .sc ((.ptr b26 0)))] ∧ Bw S43 4 (.ptr b8 0) [v44, v45] ∧ Bw S43 5 (.ptr b26 0) [v46, v47] ∧ Ow Y52 S43 2 v44 b42.1 ∧ Ow Y82 S43 3 v45 b42.2.1 ∧ Rd Y41 S43 v46 b42.2.2.1 ∧ Rd Y65 S43 v47 b42.2.2.2 | .inr b42 => e = .ret ∧ ∃ S48 : Cx n, S48.m = m' ∧ S48.n = n' ∧ Cov l' [(4, .sc (.bool b42))])) (by exact ⟨S30, v9, v11, .nils, .nils, rfl, rfl, (Cov.cons rfl (Cov.cons rfl (Cov.cons rfl (Cov.cons rfl (Cov.cons rfl (Cov.cons rfl (Cov.nil _))))))), ho13, ho29, hot0, ho10, ho12, Rd.nil, Rd.nil⟩) ?_ ?_
      · clear h
        rintro s32 q _ _ _ ⟨S49, v50, v51, v52, v53, rfl, rfl, hc54, ho13, ho29, hot0, ho13c0, ho13c1, ho29c0, ho29c1⟩ h
        unfold F3_l1 at h
        refine WC.cov hc54 (WC.seq (WC.region ?_))
        refine WO.bin rfl rfl (by decide) (by decide) rfl ?_
        refine WO.nil (thenL_n (WC.seq ?_))
        refine WC.cond rfl (fun q55 => ?_) (fun q55 => ?_)
        · have h := iteT q55 h
          refine WC.skip (thenL_n (WC.seq (WC.block (WC.seq (WC.region ?_)))))
          obtain ⟨x56, e57, h⟩ := bindS h
          refine WO.ixS rfl rfl hot0.slv (at?_lt e57) rfl ?_
          refine WO.ldA rfl hot0.ro (fun _ hi => hi) (at?_get e57) rfl rfl ?_
          refine WO.alS (A := Y32) (S := S49) (z0 := ((0, 0, [], []) : Int × Int × (List UInt8) × (List UInt8))) 6 rfl rfl rfl (fun v58 S59 c60 ho61 => ?_)
          have ho13 := ho13.to c60
          have ho29 := ho29.to c60
          have hot0 := hot0.to c60
          have ho13c0 := ho13c0.to c60
          have ho13c1 := ho13c1.to c60
          have ho29c0 := ho29c0.to c60
          have ho29c1 := ho29c1.to c60
          refine WO.stBA (u' := (x56.1, x56.2.1, x56.2.2.1, x56.2.2.2)) rfl ho61.at0 rfl ho61 rfl rfl (fun S62 c63 ho61 => ?_)
          have ho13 := ho13.to c63
          have ho29 := ho29.to c63
          have hot0 := hot0.to c63
          have ho13c0 := ho13c0.to c63
          have ho13c1 := ho13c1.to c63
          have ho29c0 := ho29c0.to c63
          have ho29c1 := ho29c1.to c63
          refine WO.nil (thenL_n (WC.seq (WC.region (WO.mv rfl ?_))))
          refine WO.ldBA (j := 0) rfl ho61.at0 ho61 rfl rfl ?_
          obtain ⟨r64, e65, h⟩ := bindS h
          refine WO.callG (S := S62) [(4, 2), (2, 3), (3, 4)] [(2, 4), (3, 2), (4, 3)] rfl rfl (F6_ok (S0 := S62.mp [(4, 2), (2, 3), (3, 4)]) e65 (ho13.mp rfl) (ho13c0.mp rfl) (ho13c1.mp rfl)) (fun _ S70 S71 hb hR => ?_)
          obtain ⟨v66, v68, rfl, hR0, hR1, hR2⟩ := hR
          have c72 := Cx.mg_ch S62 2 4
          have ho29 := ho29.to c72
          have hot0 := hot0.to c72
          have ho29c0 := ho29c0.to c72
          have ho29c1 := ho29c1.to c72
          have ho61 := ho61.to c72
          have c73 := Cx.mg_ch (S62.mg 2 4) 3 4
          have ho29 := ho29.to c73
          have hot0 := hot0.to c73
          have ho29c0 := ho29c0.to c73
          have ho29c1 := ho29c1.to c73
          have ho61 := ho61.to c73
          have c74 : Ch 4 ((S62.mg 2 4).mg 3 4) S71 := hb.ch [2, 3] 4
          have ho29 := ho29.to c74
          have hot0 := hot0.to c74
          have ho29c0 := ho29c0.to c74
          have ho29c1 := ho29c1.to c74
          have ho61 := ho61.to c74
          have ho13 := hR0.bk hb rfl
          have ho67 := hR1.bkF hb rfl Lay.flat_fl
          have ho69 := hR2.bkF hb rfl Lay.flat_fl
          refine WO.mv rfl ?_
          refine WO.do rfl rfl ?_
          refine WO.do rfl rfl ?_
          refine WO.alS (A := Y34) (S := S71) (z0 := (([], 0) : (List UInt8) × Int)) 9 rfl rfl rfl (fun v75 S76 c77 ho78 => ?_)
          have ho13 := ho13.to c77
          have ho29 := ho29.to c77
          have hot0 := hot0.to c77
          have ho29c0 := ho29c0.to c77
          have ho29c1 := ho29c1.to c77
          have ho61 := ho61.to c77
          have ho67 := ho67.to c77
          have ho69 := ho69.to c77
          refine WO.stBA (u' := (r64.1.1, r64.1.2)) rfl ho78.at0 rfl ho78 rfl rfl (fun S79 c80 ho78 => ?_)
          have ho13 := ho13.to c80
          have ho29 := ho29.to c80
          have hot0 := hot0.to c80
          have ho29c0 := ho29c0.to c80
          have ho29c1 := ho29c1.to c80
          have ho61 := ho61.to c80
          have ho67 := ho67.to c80
          have ho69 := ho69.to c80
          refine WO.asg rfl (WO.nil (thenL_n (WC.seq (WC.region ?_))))
          refine WO.ldWA (sz := 2) (r := [v52, v53]) rfl ho29.at0 ho29 rfl rfl rfl ho29.lt rfl ?_
          refine WO.ldBA (j := 0) rfl ho61.at0 ho61 rfl rfl ?_
          obtain ⟨r81, e82, h⟩ := bindS h
          refine WO.callG (S := S79) [] [] rfl rfl (F7_ok (S0 := S79.mp []) e82 ho29c0.mp ho29c1.mp) (fun _ S87 S88 hb hR => ?_)
          obtain ⟨v83, v85, rfl, hR0, hR1⟩ := hR
          have c89 : Ch 1 S79 S88 := hb.ch [] 1
          have ho13 := ho13.to c89
          have ho29 := ho29.to c89
          have hot0 := hot0.to c89
          have ho29c0 := ho29c0.to c89
          have ho29c1 := ho29c1.to c89
          have ho61 := ho61.to c89
          have ho67 := ho67.to c89
          have ho69 := ho69.to c89
          have ho78 := ho78.to c89
          have ho84 := hR0.bkS hb rfl
          have ho86 := hR1.bkS hb rfl
          refine WO.mv rfl ?_
          refine WO.do rfl rfl ?_
          refine WO.do rfl rfl ?_
          refine WO.do rfl rfl ?_
          refine WO.alW (S := S88) (cs := [.nils, .nils]) 10 rfl rfl rfl (fun b90 S91 c92 ho93 => ?_)
          have ho13 := ho13.to c92
          have ho29 := ho29.to c92
          have hot0 := hot0.to c92
          have ho29c0 := ho29c0.to c92
          have ho29c1 := ho29c1.to c92
          have ho61 := ho61.to c92
          have ho67 := ho67.to c92
          have ho69 := ho69.to c92
          have ho78 := ho78.to c92
          have ho84 := ho84.to c92
          have ho86 := ho86.to c92
          refine WO.alS (A := Y34) (S := S91) (z0 := (([], 0) : (List UInt8) × Int)) 11 rfl rfl rfl (fun v94 S95 c96 ho97 => ?_)
          have ho13 := ho13.to c96
          have ho29 := ho29.to c96
          have hot0 := hot0.to c96
          have ho29c0 := ho29c0.to c96
          have ho29c1 := ho29c1.to c96
          have ho61 := ho61.to c96
          have ho67 := ho67.to c96
          have ho69 := ho69.to c96
          have ho78 := ho78.to c96
          have ho84 := ho84.to c96
          have ho86 := ho86.to c96
          have ho93 := ho93.to c96
          refine WO.stW (S := S95) (r := [v83, v85]) rfl ho93.at0 rfl rfl ho93 rfl rfl rfl rfl rfl (fun S98 c99 ho93 => ?_)
          have ho13 := ho13.to c99
          have ho29 := ho29.to c99
          have hot0 := hot0.to c99
          have ho29c0 := ho29c0.to c99
          have ho29c1 := ho29c1.to c99
          have ho61 := ho61.to c99
          have ho67 := ho67.to c99
          have ho69 := ho69.to c99
          have ho78 := ho78.to c99
          have ho84 := ho84.to c99
          have ho86 := ho86.to c99
          have ho97 := ho97.to c99
          refine WO.stBA (u' := (r81.2.1.1, r81.2.1.2)) rfl ho97.at0 rfl ho97 rfl rfl (fun S100 c101 ho97 => ?_)
          have ho13 := ho13.to c101
          have ho29 := ho29.to c101
          have hot0 := hot0.to c101
          have ho29c0 := ho29c0.to c101
          have ho29c1 := ho29c1.to c101
          have ho61 := ho61.to c101
          have ho67 := ho67.to c101
          have ho69 := ho69.to c101
          have ho78 := ho78.to c101
          have ho84 := ho84.to c101
          have ho86 := ho86.to c101
          have ho93 := ho93.to c101
          refine WO.asg rfl (WO.nil (thenL_n (WC.seq (WC.region ?_))))
          refine WO.ldWA (sz := 2) (r := [v83, v85]) rfl ho93.at0 ho93 rfl rfl rfl ho93.lt rfl ?_
          refine WO.stW (S := S100) (r := [v83, v85]) rfl ho29.at0 rfl rfl ho29 rfl rfl rfl rfl rfl (fun S102 c103 ho29 => ?_)
          have ho13 := ho13.to c103
          have hot0 := hot0.to c103
          have ho29c0 := ho29c0.to c103
          have ho29c1 := ho29c1.to c103
          have ho61 := ho61.to c103
          have ho67 := ho67.to c103
          have ho69 := ho69.to c103
          have ho78 := ho78.to c103
          have ho84 := ho84.to c103
          have ho86 := ho86.to c103
          have ho93 := ho93.to c103
          have ho97 := ho97.to c103
          refine WO.nil (thenL_n (WC.seq (WC.region (WO.asg rfl (WO.nil (thenL_n (WC.seq (WC.seq (WC.region ?_)))))))))
          refine WO.fldS (j := 0) (q := 0) rfl ho29.at0 ho29.ptr rfl rfl rfl (by decide) ?_
          refine WO.ldW rfl rfl ho29 rfl rfl ho29.lt rfl ?_
          refine WO.lenS rfl ho84.slv rfl ?_
          refine WO.mv rfl (WO.nil (thenL_n (WC.block ?_)))
          obtain ⟨b140, e141, h⟩ := bindS h
          refine WC.loopD e141 (fun s104 l' m' n' => ∃ S106 : Cx n, ∃ v107 : SV, S106.m = m' ∧ S106.n = n' ∧ Cov l' [(1, .sc (.str t1)), (5, .sc ((.ptr b8 0))), (6, .sc ((.ptr b26 0))), (9, .sc v75), (10, .sc (.int .i64 r64.2.1)), (12, .sc v94), (13, .sc (.int .i64 r81.2.2)), (14, .sc v107), (31, .sc vt0), (32, .sc (.int .i64 ((t0.length : Int)))), (33, .sc (.int .i64 s32.1)), (52, .sc v83), (53, .sc (.int .i64 ((r81.1.1.length : Int)))), (54, .sc (.int .i64 s104.2))] ∧ Bw S106 4 (.ptr b8 0) [v66, v68] ∧ Ow Y52 S106 2 v66 r64.2.2.1 ∧ Ow Y82 S106 3 v68 r64.2.2.2 ∧ Bw S106 5 (.ptr b26 0) [v83, v85] ∧ Rd Y41 S106 v83 r81.1.1 ∧ Rd Y65 S106 v85 r81.1.2 ∧ Bk Y34 S106 9 v75 ((r64.1.1, r64.1.2)) ∧ Bk Y34 S106 11 v94 ((r81.2.1.1, r81.2.1.2)) ∧ Rd Y32 S106 vt0 t0 ∧ Ow Y9 S106 12 v107 s104.1) (fun b e l' m' n' => (match b with | .inl b108 => e = .exit 2 ∧ ∃ S109 : Cx n, ∃ v110 : SV, S109.m = m' ∧ S109.n = n' ∧ Cov l' [(1, .sc (.str t1)), (5, .sc ((.ptr b8 0))), (6, .sc ((.ptr b26 0))), (9, .sc v75), (10, .sc (.int .i64 r64.2.1)), (12, .sc v94), (13, .sc (.int .i64 r81.2.2)), (14, .sc v110), (31, .sc vt0), (32, .sc (.int .i64 ((t0.length : Int)))), (33, .sc (.int .i64 s32.1))] ∧ Bw S109 4 (.ptr b8 0) [v66, v68] ∧ Ow Y52 S109 2 v66 r64.2.2.1 ∧ Ow Y82 S109 3 v68 r64.2.2.2 ∧ Bw S109 5 (.ptr b26 0) [v83, v85] ∧ Rd Y41 S109 v83 r81.1.1 ∧ Rd Y65 S109 v85 r81.1.2 ∧ Bk Y34 S109 9 v75 ((r64.1.1, r64.1.2)) ∧ Bk Y34 S109 11 v94 ((r81.2.1.1, r81.2.1.2)) ∧ Rd Y32 S109 vt0 t0 ∧ Ow Y9 S109 12 v110 b108 | .inr b108 => e = .ret ∧ ∃ S111 : Cx n, S111.m = m' ∧ S111.n = n' ∧ Cov l' [(4, .sc (.bool b108))])) (by exact ⟨S102, .nils, rfl, rfl, (Cov.cons rfl (Cov.cons rfl (Cov.cons rfl (Cov.cons rfl (Cov.cons rfl (Cov.cons rfl (Cov.cons rfl (Cov.cons rfl (Cov.cons rfl (Cov.cons rfl (Cov.cons rfl (Cov.cons rfl (Cov.cons rfl (Cov.cons rfl (Cov.nil _))))))))))))))), ho13, ho67, ho69, ho29, ho84, ho86, ho78, ho97, hot0, Ow.nil⟩) ?_ ?_
          · clear h
            rintro s104 q _ _ _ ⟨S112, v113, rfl, rfl, hc114, ho13, ho67, ho69, ho29, ho84, ho86, ho78, ho97, hot0, ho14⟩ h
            unfold F3_l0 at h
            refine WC.cov hc114 (WC.seq (WC.region ?_))
            refine WO.bin rfl rfl (by decide) (by decide) rfl ?_
            refine WO.nil (thenL_n (WC.seq ?_))
            refine WC.cond rfl (fun q115 => ?_) (fun q115 => ?_)
            · have h := iteT q115 h
              refine WC.skip (thenL_n (WC.seq (WC.block (WC.seq (WC.region ?_)))))
              obtain ⟨x116, e117, h⟩ := bindS h
              refine WO.ixS rfl rfl ho84.slv (at?_lt e117) rfl ?_
              refine WO.ldA rfl ho84.ro (fun _ hi => hi) (at?_get e117) rfl rfl ?_
              refine WO.alS (A := Y41) (S := S112) (z0 := (([], 0, 0) : (List UInt8) × Int × Int)) 13 rfl rfl rfl (fun v118 S119 c120 ho121 => ?_)
              have ho13 := ho13.to c120
              have ho67 := ho67.to c120
              have ho69 := ho69.to c120
              have ho29 := ho29.to c120
              have ho84 := ho84.to c120
              have ho86 := ho86.to c120
              have ho78 := ho78.to c120
              have ho97 := ho97.to c120
              have hot0 := hot0.to c120
              have ho14 := ho14.to c120
              refine WO.stBA (u' := (x116.1, x116.2.1, x116.2.2)) rfl ho121.at0 rfl ho121 rfl rfl (fun S122 c123 ho121 => ?_)
              have ho13 := ho13.to c123
              have ho67 := ho67.to c123
              have ho69 := ho69.to c123
              have ho29 := ho29.to c123
              have ho84 := ho84.to c123
              have ho86 := ho86.to c123
              have ho78 := ho78.to c123
              have ho97 := ho97.to c123
              have hot0 := hot0.to c123
              have ho14 := ho14.to c123
              refine WO.nil (thenL_n (WC.seq (WC.region (WO.mv rfl ?_))))
              refine WO.fldS (j := 0) (q := 0) rfl ho121.at0 ho121.ptr rfl rfl rfl (by decide) ?_
              refine WO.ldB (j := 0) (q := 0) rfl rfl ho121 rfl rfl rfl ?_
              refine WO.bsS (A := Y9) (S := S122) (M := [((x116.1, x116.2.1, x116.2.2)).1]) (cs := [.str (((x116.1, x116.2.1, x116.2.2)).1)]) 14 rfl rfl rfl ⟨[.str (((x116.1, x116.2.1, x116.2.2)).1)], _, rfl, rfl, rfl⟩ rfl (fun v124 S125 c126 ho127 => ?_)
              have ho13 := ho13.to c126
              have ho67 := ho67.to c126
              have ho69 := ho69.to c126
              have ho29 := ho29.to c126
              have ho84 := ho84.to c126
              have ho86 := ho86.to c126
              have ho78 := ho78.to c126
              have ho97 := ho97.to c126
              have hot0 := hot0.to c126
              have ho14 := ho14.to c126
              have ho121 := ho121.to c126
              obtain ⟨L128, e129, h⟩ := bindS h
              refine WO.appS rfl rfl ho14 ho127.ro e129 rfl rfl (fun v130 S131 c132 ho133 => ?_)
              have ho13 := ho13.to c132
              have ho67 := ho67.to c132
              have ho69 := ho69.to c132
              have ho29 := ho29.to c132
              have ho84 := ho84.to c132
              have ho86 := ho86.to c132
              have ho78 := ho78.to c132
              have ho97 := ho97.to c132
              have hot0 := hot0.to c132
              have ho121 := ho121.to c132
              have ho127 := ho127.to c132
              refine WO.asg rfl (WO.nil (thenL_n (WC.seq (WC.region (WO.mv rfl ?_)))))
              refine WO.fldS (j := 0) (q := 0) rfl ho121.at0 ho121.ptr rfl rfl rfl (by decide) ?_
              refine WO.ldB (j := 0) (q := 0) rfl rfl ho121 rfl rfl rfl ?_
              obtain ⟨r134, e135, h⟩ := bindS h
              refine WO.callE (S := S131) rfl rfl (F8_ok e135 ho13.pw ho67.vw ho69.vw) (fun S136 c137 => ?_)
              have ho13 := ho13.to c137
              have ho67 := ho67.to c137
              have ho69 := ho69.to c137
              have ho29 := ho29.to c137
              have ho84 := ho84.to c137
              have ho86 := ho86.to c137
              have ho78 := ho78.to c137
              have ho97 := ho97.to c137
              have hot0 := hot0.to c137
              have ho121 := ho121.to c137
              have ho127 := ho127.to c137
              have ho133 := ho133.to c137
              refine WO.mv rfl ?_
              refine WO.do rfl rfl ?_
              refine WO.do rfl rfl ?_
              refine WO.asg rfl (WO.asg rfl (WO.nil (thenL_n (WC.seq (WC.region (WO.mv rfl ?_))))))
              refine WO.bin rfl rfl (by decide) (by decide) rfl ?_
              refine WO.mv rfl ?_
              refine WO.cutB (d := 77) 5 ((r134.2 != 0) || (r134.1 != ((x116.1, x116.2.1, x116.2.2)).2.1)) (fun q138 => ?_) (fun q138 => ?_) ?_
              · refine WO.gno rfl rfl (WO.gno rfl rfl (WO.gno rfl rfl (WO.gno rfl rfl ?_)))
                refine WO.pickT rfl rfl ?_
                refine WO.nil ?_
                exact ⟨rfl, rfl, (Cov.any rfl (orT q138) (Cov.skip rfl (Cov.skip rfl (Cov.skip rfl (Cov.skip rfl (Cov.skip rfl (Cov.skip rfl (Cov.refl _))))))))⟩
              · skip
                refine WO.gyes rfl rfl (WO.mv rfl (WO.gyes rfl rfl ?_))
                refine WO.fldS (j := 0) (q := 0) rfl ho121.at0 ho121.ptr rfl rfl rfl (by decide) ?_
                refine WO.gyes rfl rfl ?_
                refine WO.ldB (j := 0) (q := 1) rfl rfl ho121 rfl rfl rfl ?_
                refine WO.gyes rfl rfl ?_
                refine WO.bin rfl rfl (by decide) (by decide) rfl ?_
                refine WO.pickF rfl rfl ?_
                refine WO.nil ?_
                exact ⟨rfl, rfl, (Cov.any rfl (orF q138) (Cov.skip rfl (Cov.skip rfl (Cov.skip rfl (Cov.skip rfl (Cov.skip rfl (Cov.skip rfl (Cov.refl _))))))))⟩
              refine WO.nil (thenL_n ?_)
              refine WC.cond rfl (fun q139 => ?_) (fun q139 => ?_)
              · have h := iteT q139 h
                refine WC.seq (WC.region (WO.asg rfl (WO.nil (thenL_n (WC.ret (blockL_r (thenL_r (thenL_r ?_))))))))
                obtain rfl := someI h
                exact ⟨_, rfl, rfl, ⟨S136, rfl, rfl, (Cov.cons rfl (Cov.nil _))⟩⟩
              · have h := iteF q139 h
                refine WC.skip (blockL_n (thenL_n (WC.region ?_)))
                refine WO.bin rfl rfl (by decide) (by decide) rfl ?_
                refine WO.mv rfl (WO.nil (thenL_n ?_))
                obtain rfl := someI h
                exact ⟨_, rfl, ⟨S136, v130, rfl, rfl, (Cov.cons rfl (Cov.cons rfl (Cov.cons rfl (Cov.cons rfl (Cov.cons rfl (Cov.cons rfl (Cov.cons rfl (Cov.cons rfl (Cov.cons rfl (Cov.cons rfl (Cov.cons rfl (Cov.cons rfl (Cov.cons rfl (Cov.cons rfl (Cov.nil _))))))))))))))), ho13, ho67, ho69, ho29, ho84, ho86, ho78, ho97, hot0, ho133⟩⟩
            · have h := iteF q115 h
              refine WC.exit (thenL_e (thenL_e ?_))
              obtain rfl := someI h
              exact ⟨_, rfl, rfl, ⟨S112, v113, rfl, rfl, (Cov.cons rfl (Cov.cons rfl (Cov.cons rfl (Cov.cons rfl (Cov.cons rfl (Cov.cons rfl (Cov.cons rfl (Cov.cons rfl (Cov.cons rfl (Cov.cons rfl (Cov.cons rfl (Cov.nil _)))))))))))), ho13, ho67, ho69, ho29, ho84, ho86, ho78, ho97, hot0, ho14⟩⟩
          cases b140 with
          | inl b142 =>
            simp only at h
            rintro _ _ _ _ ⟨rfl, ⟨S143, v144, rfl, rfl, hc145, ho13, ho67, ho69, ho29, ho84, ho86, ho78, ho97, hot0, ho14⟩⟩
            refine blockL_s (thenL_n (WC.cov hc145 (WC.seq (WC.region ?_))))
            refine WO.ldBA (j := 0) rfl ho78.at0 ho78 rfl rfl ?_
            refine WO.ldBA (j := 0) rfl ho97.at0 ho97 rfl rfl ?_
            refine WO.neA rfl rfl rfl rfl (eqFields_cons rfl rfl rfl eqC_str (eqFields_cons rfl rfl rfl eqC_int rfl)) ?_
            refine WO.mv rfl ?_
            refine WO.cutB (d := 86) 4 ((!(((r64.1.1, r64.1.2)).1 == ((r81.2.1.1, r81.2.1.2)).1 && (((r64.1.1, r64.1.2)).2 == ((r81.2.1.1, r81.2.1.2)).2 && true))) || (r64.2.1 != r81.2.2)) (fun q146 => ?_) (fun q146 => ?_) ?_
            · refine WO.gno rfl rfl (WO.gno rfl rfl (WO.gno rfl rfl ?_))
              refine WO.pickT rfl rfl ?_
              refine WO.nil ?_
              exact ⟨rfl, rfl, (Cov.any rfl (orT q146) (Cov.skip rfl (Cov.skip rfl (Cov.skip rfl (Cov.skip rfl (Cov.skip rfl (Cov.refl _)))))))⟩
            · skip
              refine WO.gyes rfl rfl (WO.mv rfl (WO.gyes rfl rfl (WO.mv rfl (WO.gyes rfl rfl ?_))))
              refine WO.bin rfl rfl (by decide) (by decide) rfl ?_
              refine WO.pickF rfl rfl ?_
              refine WO.nil ?_
              exact ⟨rfl, rfl, (Cov.any rfl (orF q146) (Cov.skip rfl (Cov.skip rfl (Cov.skip rfl (Cov.skip rfl (Cov.skip rfl (Cov.refl _)))))))⟩
            refine WO.mv rfl ?_
            obtain ⟨y158, e159, h⟩ := bindS h
            refine WO.cutS (d := 93) (S := S143) 6 y158 (fun q157 => ?_) (fun q157 => ?_) (fun S160 c161 => ?_)
            · have h := e159
              have h := iteT q157 h
              obtain rfl := someI h
              refine WO.gno rfl rfl (WO.gno rfl rfl (WO.gno rfl rfl (WO.gno rfl rfl (WO.gno rfl rfl ?_))))
              refine WO.pickT rfl rfl ?_
              refine WO.nil ?_
              exact ⟨S143, rfl, rfl, Ch.refl _ _, (Cov.cons rfl (Cov.skip rfl (Cov.skip rfl (Cov.skip rfl (Cov.skip rfl (Cov.skip rfl (Cov.skip rfl (Cov.skip rfl (Cov.refl _)))))))))⟩
            · have h := e159
              have h := iteF q157 h
              refine WO.gyes rfl rfl (WO.mv rfl (WO.gyes rfl rfl ?_))
              obtain ⟨r147, e148, h⟩ := bindS h
              refine WO.callF (S := S143) 1 rfl rfl (F5_ok e148 ho13.pw ho67.vw ho69.vw) Lay.flat_fl (fun v149 S151 c152 ho150 => ?_)
              have ho13 := ho13.to c152
              have ho67 := ho67.to c152
              have ho69 := ho69.to c152
              have ho29 := ho29.to c152
              have ho84 := ho84.to c152
              have ho86 := ho86.to c152
              have ho78 := ho78.to c152
              have ho97 := ho97.to c152
              have hot0 := hot0.to c152
              have ho14 := ho14.to c152
              refine WO.gyes rfl rfl (WO.mv rfl (WO.gyes rfl rfl ?_))
              obtain ⟨r153, e154, h⟩ := bindS h
              refine WO.callE (S := S151) rfl rfl (F9_ok e154 ho150.vw ho14.vw) (fun S155 c156 => ?_)
              have ho13 := ho13.to c156
              have ho67 := ho67.to c156
              have ho69 := ho69.to c156
              have ho29 := ho29.to c156
              have ho84 := ho84.to c156
              have ho86 := ho86.to c156
              have ho78 := ho78.to c156
              have ho97 := ho97.to c156
              have hot0 := hot0.to c156
              have ho14 := ho14.to c156
              refine WO.gyes rfl rfl ?_
              refine WO.do rfl rfl ?_
              obtain rfl := someI h
              refine WO.pickF rfl rfl ?_
              refine WO.nil ?_
              exact ⟨S155, rfl, rfl, (c152.trans c156), (Cov.cons rfl (Cov.skip rfl (Cov.skip rfl (Cov.skip rfl (Cov.skip rfl (Cov.skip rfl (Cov.skip rfl (Cov.skip rfl (Cov.refl _)))))))))⟩
            have ho13 := ho13.to c161
            have ho67 := ho67.to c161
            have ho69 := ho69.to c161
            have ho29 := ho29.to c161
            have ho84 := ho84.to c161
            have ho86 := ho86.to c161
            have ho78 := ho78.to c161
            have ho97 := ho97.to c161
            have hot0 := hot0.to c161
            have ho14 := ho14.to c161
            refine WO.nil (thenL_n ?_)
            refine WC.cond rfl (fun q162 => ?_) (fun q162 => ?_)
            · have h := iteT q162 h
              refine WC.seq (WC.region (WO.asg rfl (WO.nil (thenL_n (WC.ret (blockL_r (thenL_r (thenL_r ?_))))))))
              obtain rfl := someI h
              exact ⟨_, rfl, rfl, ⟨S160, rfl, rfl, (Cov.cons rfl (Cov.nil _))⟩⟩
            · have h := iteF q162 h
              refine WC.skip (blockL_n (thenL_n (WC.region ?_)))
              refine WO.bin rfl rfl (by decide) (by decide) rfl ?_
              refine WO.mv rfl (WO.nil (thenL_n ?_))
              obtain rfl := someI h
              exact ⟨_, rfl, ⟨S160, v66, v68, v83, v85, rfl, rfl, (Cov.cons rfl (Cov.cons rfl (Cov.cons rfl (Cov.cons rfl (Cov.cons rfl (Cov.cons rfl (Cov.nil _))))))), ho13, ho29, hot0, ho67, ho69, ho84, ho86⟩⟩
          | inr b142 =>
            simp only at h
            rintro _ _ _ _ ⟨rfl, ⟨S163, rfl, rfl, hc164⟩⟩
            refine blockL_r (thenL_r (blockL_r (thenL_r (thenL_r ?_))))
            obtain rfl := someI h
            exact ⟨_, rfl, rfl, ⟨S163, rfl, rfl, (Cov.trans hc164 (Cov.cons rfl (Cov.nil _)))⟩⟩
        · have h := iteF q55 h
          refine WC.exit (thenL_e (thenL_e ?_))
          obtain rfl := someI h
          exact ⟨_, rfl, rfl, ⟨S49, v50, v51, v52, v53, rfl, rfl, (Cov.cons rfl (Cov.cons rfl (Cov.cons rfl (Cov.nil _)))), ho13, ho29, ho13c0, ho13c1, ho29c0, ho29c1⟩⟩
      cases b165 with
      | inl b167 =>
        simp only at h
        rintro _ _ _ _ ⟨rfl, ⟨S168, v169, v170, v171, v172, rfl, rfl, hc173, ho13, ho29, ho13c0, ho13c1, ho29c0, ho29c1⟩⟩
        refine blockL_s (thenL_n (WC.cov hc173 (WC.seq (WC.region (WO.mv rfl (WO.mv rfl ?_))))))
        obtain ⟨r174, e175, h⟩ := bindS h
        refine WO.callE (S := S168) rfl rfl (F8_ok e175 ho13.pw ho13c0.vw ho13c1.vw) (fun S176 c177 => ?_)
        have ho13 := ho13.to c177
        have ho29 := ho29.to c177
        have ho13c0 := ho13c0.to c177
        have ho13c1 := ho13c1.to c177
        have ho29c0 := ho29c0.to c177
        have ho29c1 := ho29c1.to c177
        refine WO.mv rfl ?_
        refine WO.do rfl rfl ?_
        refine WO.do rfl rfl ?_
        refine WO.asg rfl (WO.asg rfl (WO.nil (thenL_n (WC.seq (WC.region ?_)))))
        refine WO.ldWA (sz := 2) (r := [v171, v172]) rfl ho29.at0 ho29 rfl rfl rfl ho29.lt rfl ?_
        refine WO.mv rfl ?_
        obtain ⟨r178, e179, h⟩ := bindS h
        refine WO.callE (S := S176) rfl rfl (F10_ok e179 ho29c0.vw ho29c1.vw) (fun S180 c181 => ?_)
        have ho13 := ho13.to c181
        have ho29 := ho29.to c181
        have ho13c0 := ho13c0.to c181
        have ho13c1 := ho13c1.to c181
        have ho29c0 := ho29c0.to c181
        have ho29c1 := ho29c1.to c181
        refine WO.bin rfl rfl (by decide) (by decide) rfl ?_
        refine WO.mv rfl ?_
        refine WO.cutB (d := 108) 3 ((decide (r178 ≥ 0)) && (r174.2 == 0)) (fun q182 => ?_) (fun q182 => ?_) ?_
        · skip
          refine WO.gyes rfl rfl (WO.mv rfl (WO.gyes rfl rfl ?_))
          refine WO.bin rfl rfl (by decide) (by decide) rfl ?_
          refine WO.pickT rfl rfl ?_
          refine WO.nil ?_
          exact ⟨rfl, rfl, (Cov.any rfl (andT q182) (Cov.skip rfl (Cov.skip rfl (Cov.skip rfl (Cov.skip rfl (Cov.refl _))))))⟩
        · refine WO.gno rfl rfl (WO.gno rfl rfl ?_)
          refine WO.pickF rfl rfl ?_
          refine WO.nil ?_
          exact ⟨rfl, rfl, (Cov.any rfl (andF q182) (Cov.skip rfl (Cov.skip rfl (Cov.skip rfl (Cov.skip rfl (Cov.refl _))))))⟩
        refine WO.mv rfl ?_
        obtain ⟨y194, e195, h⟩ := bindS h
        refine WO.cutS (d := 122) (S := S180) 13 y194 (fun q193 => ?_) (fun q193 => ?_) (fun S196 c197 => ?_)
        · have h := e195
          have h := iteT q193 h
          obtain rfl := someI h
          refine WO.gno rfl rfl (WO.gno rfl rfl (WO.gno rfl rfl (WO.gskip rfl rfl (WO.gskip rfl rfl (WO.gno rfl rfl (WO.gno rfl rfl (WO.gskip rfl rfl (WO.gskip rfl rfl (WO.gskip rfl rfl ?_)))))))))
          refine WO.gskip rfl rfl (WO.gno rfl rfl ?_)
          refine WO.pickT rfl rfl ?_
          refine WO.nil ?_
          exact ⟨S180, rfl, rfl, Ch.refl _ _, (Cov.cons rfl (Cov.skip rfl (Cov.skip rfl (Cov.skip rfl (Cov.skip rfl (Cov.skip rfl (Cov.skip rfl (Cov.skip rfl (Cov.skip rfl (Cov.skip rfl (Cov.skip rfl (Cov.skip rfl (Cov.skip rfl (Cov.skip rfl (Cov.skip rfl (Cov.refl _))))))))))))))))⟩
        · have h := e195
          have h := iteF q193 h
          refine WO.gyes rfl rfl (WO.mv rfl (WO.gyes rfl rfl ?_))
          refine WO.bin rfl rfl (by decide) (by decide) rfl ?_
          refine WO.gyes rfl rfl (WO.mv rfl ?_)
          refine WO.cutB (d := 115) 3 ((r174.2 == 4) && (r174.1 == 0)) (fun q183 => ?_) (fun q183 => ?_) ?_
          · skip
            refine WO.gyes rfl rfl (WO.mv rfl (WO.gyes rfl rfl ?_))
            refine WO.bin rfl rfl (by decide) (by decide) rfl ?_
            refine WO.gyes rfl rfl ?_
            refine WO.pickT rfl rfl ?_
            refine WO.nil ?_
            exact ⟨rfl, rfl, (Cov.any rfl (andT q183) (Cov.skip rfl (Cov.skip rfl (Cov.skip rfl (Cov.skip rfl (Cov.refl _))))))⟩
          · refine WO.gno rfl rfl (WO.gno rfl rfl (WO.gyes rfl rfl ?_))
            refine WO.pickF rfl rfl ?_
            refine WO.nil ?_
            exact ⟨rfl, rfl, (Cov.any rfl (andF q183) (Cov.skip rfl (Cov.skip rfl (Cov.skip rfl (Cov.skip rfl (Cov.refl _))))))⟩
          refine WO.gyes rfl rfl (WO.mv rfl ?_)
          obtain ⟨y189, e190, h⟩ := bindS h
          refine WO.cutS (d := 121) (S := S180) 5 y189 (fun q188 => ?_) (fun q188 => ?_) (fun S191 c192 => ?_)
          · have h := e190
            have h := iteT q188 h
            refine WO.gyes rfl rfl ?_
            refine WO.ldWA (sz := 2) (r := [v171, v172]) rfl ho29.at0 ho29 rfl rfl rfl ho29.lt rfl ?_
            refine WO.gyes rfl rfl (WO.mv rfl (WO.gyes rfl rfl ?_))
            obtain ⟨r184, e185, h⟩ := bindS h
            refine WO.callE (S := S180) rfl rfl (F10_ok e185 ho29c0.vw ho29c1.vw) (fun S186 c187 => ?_)
            have ho13 := ho13.to c187
            have ho29 := ho29.to c187
            have ho13c0 := ho13c0.to c187
            have ho13c1 := ho13c1.to c187
            have ho29c0 := ho29c0.to c187
            have ho29c1 := ho29c1.to c187
            refine WO.gyes rfl rfl ?_
            refine WO.bin rfl rfl (by decide) (by decide) rfl ?_
            obtain rfl := someI h
            refine WO.gyes rfl rfl ?_
            refine WO.pickT rfl rfl ?_
            refine WO.nil ?_
            exact ⟨S186, rfl, rfl, c187, (Cov.cons rfl (Cov.skip rfl (Cov.skip rfl (Cov.skip rfl (Cov.skip rfl (Cov.skip rfl (Cov.skip rfl (Cov.refl _))))))))⟩
          · have h := e190
            have h := iteF q188 h
            obtain rfl := someI h
            refine WO.gno rfl rfl (WO.gno rfl rfl (WO.gno rfl rfl (WO.gno rfl rfl (WO.gyes rfl rfl ?_))))
            refine WO.pickF rfl rfl ?_
            refine WO.nil ?_
            exact ⟨S180, rfl, rfl, Ch.refl _ _, (Cov.cons rfl (Cov.skip rfl (Cov.skip rfl (Cov.skip rfl (Cov.skip rfl (Cov.skip rfl (Cov.skip rfl (Cov.refl _))))))))⟩
          have ho13 := ho13.to c192
          have ho29 := ho29.to c192
          have ho13c0 := ho13c0.to c192
          have ho13c1 := ho13c1.to c192
          have ho29c0 := ho29c0.to c192
          have ho29c1 := ho29c1.to c192
          obtain rfl := someI h
          refine WO.pickF rfl rfl ?_
          refine WO.nil ?_
          exact ⟨S191, rfl, rfl, c192, (Cov.cons rfl (Cov.skip rfl (Cov.skip rfl (Cov.skip rfl (Cov.skip rfl (Cov.skip rfl (Cov.skip rfl (Cov.refl _))))))))⟩
        have ho13 := ho13.to c197
        have ho29 := ho29.to c197
        have ho13c0 := ho13c0.to c197
        have ho13c1 := ho13c1.to c197
        have ho29c0 := ho29c0.to c197
        have ho29c1 := ho29c1.to c197
        refine WO.asg rfl (WO.nil (thenL_n (WC.ret ?_)))
        obtain rfl := someI h
        exact ⟨.inr rfl, _, _, rfl, rfl, rfl⟩
      | inr b167 =>
        simp only at h
        rintro _ _ _ _ ⟨rfl, ⟨S198, rfl, rfl, hc199⟩⟩
        refine blockL_r (thenL_r ?_)
        obtain rfl := someI h
        exact ⟨.inr rfl, _, _, (resK_cov hc199 rfl), rfl, rfl⟩
end Go.Proofs.YtaphdnpjpmnaeabDoor

/- The machine answers the functions' texts: printed by a program of ours (gen.py). -/
import Derived.Test.YtaphdnpjpmnaeabDoorG1
set_option linter.unusedVariables false
set_option maxRecDepth 20000
set_option maxHeartbeats 4000000
namespace Go.Proofs.YtaphdnpjpmnaeabDoor
open Go.Am
theorem F52.fn : E.fn 52 = some ⟨22, (Tryd.f52.body.getD .skip), Tryd.f52.results.toList, []⟩ := rfl
theorem F52_ok {F : Nat} {m : Mem} {n : Nat} {r : (List UInt8)} {t0 : List UInt8} {t1 : List Bool} {bt1 : Nat} (h : F52 F t0 t1 = some r) (kt1 : Pv Y94 n m bt1 t1) : Ret E n 52 [.sc (.str t0), .sc (.ptr bt1 0)] m n (fun v m' n' => v = .sc (.str r)) := by
  unfold F52 at h
  refine Ret.walk F52.fn ?_
  refine WC.start fun S0 em en hz => ?_
  have hot1 := kt1.rpS em hz
  refine WC.seq (WC.region (WO.asg rfl (WO.nil (thenL_n (WC.seq (WC.block ?_))))))
  obtain ⟨b16, e17, h⟩ := bindS h
  refine WC.loopD e17 (fun s1 l' m' n' => ∃ S2 : Cx n, S2.m = m' ∧ S2.n = n' ∧ Cov l' [(0, .sc (.str s1)), (1, .sc ((.ptr bt1 0)))] ∧ Rp Y94 S2 (.ptr bt1 0) t1) (fun b e l' m' n' => e = .exit 0 ∧ ∃ S3 : Cx n, S3.m = m' ∧ S3.n = n' ∧ Cov l' [(0, .sc (.str b))]) (by exact ⟨S0, rfl, rfl, (Cov.cons rfl (Cov.cons rfl (Cov.nil _))), hot1⟩) ?_ ?_
  · clear h
    rintro s1 q _ _ _ ⟨S4, rfl, rfl, hc5, hot1⟩ h
    unfold F52_l0 at h
    refine WC.cov hc5 (WC.seq (WC.seq (WC.region (WO.mv rfl ?_))))
    refine WO.lenT rfl rfl rfl ?_
    refine WO.bin rfl rfl (by decide) (by decide) rfl ?_
    refine WO.nil (thenL_n ?_)
    refine WC.cond rfl (fun q6 => ?_) (fun q6 => ?_)
    · have h := iteT q6 h
      refine WC.skip (thenL_n (WC.block (WC.seq (WC.seq (WC.region (WO.mv rfl (WO.mv rfl (WO.mv rfl ?_))))))))
      refine WO.lenT rfl rfl rfl ?_
      refine WO.bin rfl rfl (by decide) (by decide) rfl ?_
      obtain ⟨x7, e8, h⟩ := bindS h
      refine WO.ixT rfl rfl e8 rfl rfl ?_
      obtain ⟨r9, e10, h⟩ := bindS h
      refine WO.callE (S := S4) rfl rfl (F55_ok e10 hot1.pv) (fun S11 c12 => ?_)
      have hot1 := hot1.to c12
      refine WO.do rfl rfl ?_
      refine WO.nil (thenL_n ?_)
      refine WC.cond rfl (fun q13 => ?_) (fun q13 => ?_)
      · have h := iteT q13 h
        refine WC.exit (thenL_e (blockL_e rfl (thenL_e ?_)))
        obtain rfl := someI h
        exact ⟨_, rfl, rfl, ⟨S11, rfl, rfl, (Cov.cons rfl (Cov.nil _))⟩⟩
      · have h := iteF q13 h
        refine WC.skip (thenL_n (WC.region (WO.mv rfl (WO.mv rfl ?_))))
        refine WO.lenT rfl rfl rfl ?_
        refine WO.bin rfl rfl (by decide) (by decide) rfl ?_
        obtain ⟨x14, e15, h⟩ := bindS h
        refine WO.slcT (k := .i64) rfl (.inr ⟨rfl, rfl⟩) (.inl ⟨_, rfl, rfl⟩) e15 rfl rfl ?_
        refine WO.asg rfl (WO.nil (blockL_n (thenL_n ?_)))
        obtain rfl := someI h
        exact ⟨_, rfl, ⟨S11, rfl, rfl, (Cov.cons rfl (Cov.cons rfl (Cov.nil _))), hot1⟩⟩
    · have h := iteF q6 h
      refine WC.exit (thenL_e (thenL_e ?_))
      obtain rfl := someI h
      exact ⟨_, rfl, rfl, ⟨S4, rfl, rfl, (Cov.cons rfl (Cov.nil _))⟩⟩
  rintro _ _ _ _ ⟨rfl, ⟨S18, rfl, rfl, hc19⟩⟩
  refine blockL_s (thenL_n (WC.cov hc19 (WC.seq (WC.region (WO.mv rfl (WO.asg rfl (WO.nil (thenL_n (WC.ret ?_)))))))))
  obtain rfl := someI h
  exact ⟨.inr rfl, _, _, rfl, rfl, rfl⟩
end Go.Proofs.YtaphdnpjpmnaeabDoor

namespace Go.Proofs.YtaphdnpjpmnaeabDoor
open Go.Am
theorem F51.fn : E.fn 51 = some ⟨16, (Tryd.f51.body.getD .skip), Tryd.f51.results.toList, []⟩ := rfl
theorem F51_ok {F : Nat} {m : Mem} {n : Nat} {r : (List UInt8)} {t0 : List UInt8} {t1 : List Bool} {bt1 : Nat} (h : F51 F t0 t1 = some r) (kt1 : Pv Y94 n m bt1 t1) : Ret E n 51 [.sc (.str t0), .sc (.ptr bt1 0)] m n (fun v m' n' => v = .sc (.str r)) := by
  unfold F51 at h
  refine Ret.walk F51.fn ?_
  refine WC.start fun S0 em en hz => ?_
  have hot1 := kt1.rpS em hz
  refine WC.seq (WC.region (WO.asg rfl (WO.nil (thenL_n (WC.seq (WC.block ?_))))))
  obtain ⟨b16, e17, h⟩ := bindS h
  refine WC.loopD e17 (fun s1 l' m' n' => ∃ S2 : Cx n, S2.m = m' ∧ S2.n = n' ∧ Cov l' [(0, .sc (.str s1)), (1, .sc ((.ptr bt1 0)))] ∧ Rp Y94 S2 (.ptr bt1 0) t1) (fun b e l' m' n' => e = .exit 0 ∧ ∃ S3 : Cx n, S3.m = m' ∧ S3.n = n' ∧ Cov l' [(0, .sc (.str b))]) (by exact ⟨S0, rfl, rfl, (Cov.cons rfl (Cov.cons rfl (Cov.nil _))), hot1⟩) ?_ ?_
  · clear h
    rintro s1 q _ _ _ ⟨S4, rfl, rfl, hc5, hot1⟩ h
    unfold F51_l0 at h
    refine WC.cov hc5 (WC.seq (WC.seq (WC.region (WO.mv rfl ?_))))
    refine WO.lenT rfl rfl rfl ?_
    refine WO.bin rfl rfl (by decide) (by decide) rfl ?_
    refine WO.nil (thenL_n ?_)
    refine WC.cond rfl (fun q6 => ?_) (fun q6 => ?_)
    · have h := iteT q6 h
      refine WC.skip (thenL_n (WC.block (WC.seq (WC.seq (WC.region (WO.mv rfl (WO.mv rfl ?_)))))))
      obtain ⟨x7, e8, h⟩ := bindS h
      refine WO.ixT rfl rfl e8 rfl rfl ?_
      obtain ⟨r9, e10, h⟩ := bindS h
      refine WO.callE (S := S4) rfl rfl (F55_ok e10 hot1.pv) (fun S11 c12 => ?_)
      have hot1 := hot1.to c12
      refine WO.do rfl rfl ?_
      refine WO.nil (thenL_n ?_)
      refine WC.cond rfl (fun q13 => ?_) (fun q13 => ?_)
      · have h := iteT q13 h
        refine WC.exit (thenL_e (blockL_e rfl (thenL_e ?_)))
        obtain rfl := someI h
        exact ⟨_, rfl, rfl, ⟨S11, rfl, rfl, (Cov.cons rfl (Cov.nil _))⟩⟩
      · have h := iteF q13 h
        refine WC.skip (thenL_n (WC.region (WO.mv rfl ?_)))
        obtain ⟨x14, e15, h⟩ := bindS h
        refine WO.slcT (k' := .i64) rfl (.inl ⟨_, rfl, rfl⟩) (.inr ⟨rfl, rfl⟩) e15 rfl rfl ?_
        refine WO.asg rfl (WO.nil (blockL_n (thenL_n ?_)))
        obtain rfl := someI h
        exact ⟨_, rfl, ⟨S11, rfl, rfl, (Cov.cons rfl (Cov.cons rfl (Cov.nil _))), hot1⟩⟩
    · have h := iteF q6 h
      refine WC.exit (thenL_e (thenL_e ?_))
      obtain rfl := someI h
      exact ⟨_, rfl, rfl, ⟨S4, rfl, rfl, (Cov.cons rfl (Cov.nil _))⟩⟩
  rintro _ _ _ _ ⟨rfl, ⟨S18, rfl, rfl, hc19⟩⟩
  refine blockL_s (thenL_n (WC.cov hc19 (WC.seq (WC.region (WO.mv rfl (WO.asg rfl (WO.nil (thenL_n (WC.ret ?_)))))))))
  obtain rfl := someI h
  exact ⟨.inr rfl, _, _, rfl, rfl, rfl⟩
end Go.Proofs.YtaphdnpjpmnaeabDoor

namespace Go.Proofs.YtaphdnpjpmnaeabDoor
open Go.Am
theorem F45.fn : E.fn 45 = some ⟨43, (Tryd.f45.body.getD .skip), Tryd.f45.results.toList, []⟩ := rfl
theorem F45_ok {F : Nat} {m : Mem} {n : Nat} {r : (List UInt8)} {t0 : List UInt8} {t1 : List UInt8} (h : F45 F t0 t1 = some r)  : Ret E n 45 [.sc (.str t0), .sc (.str t1)] m n (fun v m' n' => v = .sc (.str r)) := by
  unfold F45 at h
  refine Ret.walk F45.fn ?_
  refine WC.start fun S0 em en hz => ?_
  refine WC.seq (WC.region (WO.asg rfl (WO.nil (thenL_n (WC.seq (WC.seq (WC.region (WO.mv rfl ?_))))))))
  refine WO.do rfl rfl ?_
  refine WO.mv rfl ?_
  refine WO.cutB (d := 12) 3 ((t0 == []) || (t1 == [])) (fun q1 => ?_) (fun q1 => ?_) ?_
  · refine WO.gno rfl rfl (WO.gno rfl rfl ?_)
    refine WO.pickT rfl rfl ?_
    refine WO.nil ?_
    exact ⟨rfl, rfl, (Cov.any rfl (orT q1) (Cov.skip rfl (Cov.skip rfl (Cov.skip rfl (Cov.skip rfl (Cov.refl _))))))⟩
  · skip
    refine WO.gyes rfl rfl (WO.mv rfl (WO.gyes rfl rfl ?_))
    refine WO.do rfl rfl ?_
    refine WO.pickF rfl rfl ?_
    refine WO.nil ?_
    exact ⟨rfl, rfl, (Cov.any rfl (orF q1) (Cov.skip rfl (Cov.skip rfl (Cov.skip rfl (Cov.skip rfl (Cov.refl _))))))⟩
  refine WO.nil (thenL_n ?_)
  refine WC.cond rfl (fun q2 => ?_) (fun q2 => ?_)
  · have h := iteT q2 h
    refine WC.seq (WC.region (WO.mv rfl (WO.asg rfl (WO.nil (thenL_n (WC.ret (thenL_r ?_)))))))
    obtain rfl := someI h
    exact ⟨.inr rfl, _, _, rfl, rfl, rfl⟩
  · have h := iteF q2 h
    refine WC.skip (thenL_n (WC.seq (WC.seq (WC.region (WO.mv rfl ?_)))))
    refine WO.lenT rfl rfl rfl ?_
    refine WO.bin rfl rfl (by decide) (by decide) rfl ?_
    refine WO.mv rfl ?_
    obtain ⟨y6, e7, h⟩ := bindS h
    refine WO.cutB (d := 21) 4 y6 (fun q5 => ?_) (fun q5 => ?_) ?_
    · have h := e7
      have h := iteT q5 h
      refine WO.gyes rfl rfl (WO.mv rfl (WO.gyes rfl rfl ?_))
      obtain ⟨x3, e4, h⟩ := bindS h
      refine WO.ixT rfl rfl e4 rfl rfl ?_
      refine WO.gyes rfl rfl ?_
      refine WO.bin rfl rfl (by decide) (by decide) rfl ?_
      obtain rfl := someI h
      refine WO.pickT rfl rfl ?_
      refine WO.nil ?_
      exact ⟨rfl, rfl, (Cov.cons rfl (Cov.skip rfl (Cov.skip rfl (Cov.skip rfl (Cov.skip rfl (Cov.skip rfl (Cov.refl _)))))))⟩
    · have h := e7
      have h := iteF q5 h
      obtain rfl := someI h
      refine WO.gno rfl rfl (WO.gno rfl rfl (WO.gno rfl rfl ?_))
      refine WO.pickF rfl rfl ?_
      refine WO.nil ?_
      exact ⟨rfl, rfl, (Cov.cons rfl (Cov.skip rfl (Cov.skip rfl (Cov.skip rfl (Cov.skip rfl (Cov.skip rfl (Cov.refl _)))))))⟩
    refine WO.nil (thenL_n ?_)
    refine WC.cond rfl (fun q8 => ?_) (fun q8 => ?_)
    · have h := iteT q8 h
      refine WC.seq ?_
      refine WC.drawN rfl rfl ?_
      refine WO.mv rfl (WO.mv rfl ?_)
      obtain ⟨x9, e10, h⟩ := bindS h
      refine WO.ixT rfl rfl e10 rfl rfl ?_
      obtain ⟨r11, e12, h⟩ := bindS h
      refine WO.callE (S := S0) rfl rfl (F49_ok e12) (fun S13 c14 => ?_)
      refine WO.mv rfl ?_
      obtain ⟨x15, e16, h⟩ := bindS h
      refine WO.ixT rfl rfl e16 rfl rfl ?_
      obtain ⟨r17, e18, h⟩ := bindS h
      refine WO.callE (S := S13) rfl rfl (F48_ok e18) (fun S19 c20 => ?_)
      refine WO.asg rfl (WO.nil (thenL_n (WC.ret (thenL_r ?_))))
      obtain rfl := someI h
      exact ⟨.inr rfl, _, _, rfl, rfl, rfl⟩
    · have h := iteF q8 h
      refine WC.skip (thenL_n (WC.seq (WC.seq (WC.region (WO.mv rfl ?_)))))
      obtain ⟨r21, e22, h⟩ := bindS h
      refine WO.callE (S := S0) rfl rfl (F50_ok e22) (fun S23 c24 => ?_)
      refine WO.mv rfl ?_
      refine WO.do rfl rfl ?_
      refine WO.do rfl rfl ?_
      refine WO.alS (A := Y94) (S := S23) (z0 := (List.replicate 256 false)) 2 rfl ⟨List.length_replicate, List.map_replicate.symm⟩ rfl (fun v25 S26 c27 ho28 => ?_)
      obtain ⟨u31, e32, h⟩ := bindS h
      refine WO.stV (S := S26) rfl ho28.at0 rfl ho28 (ckN?_ok e32) rfl rfl (fun S29 c30 ho28 => ?_)
      refine WO.asg rfl (WO.nil (thenL_n (WC.seq (WC.region (WO.mv rfl (WO.nil (thenL_n ?_)))))))
      refine WC.cond rfl (fun q33 => ?_) (fun q33 => ?_)
      · have h := iteT q33 h
        refine WC.seq (WC.region (WO.mv rfl ?_))
        obtain ⟨b34, rfl⟩ := ho28.isp
        obtain ⟨r35, e36, h⟩ := bindS h
        refine WO.callE (S := S29) rfl rfl (F52_ok e36 ho28.pv) (fun S37 c38 => ?_)
        have ho28 := ho28.to c38
        obtain ⟨r39, e40, h⟩ := bindS h
        refine WO.callE (S := S37) rfl rfl (F51_ok e40 ho28.pv) (fun S41 c42 => ?_)
        have ho28 := ho28.to c42
        refine WO.asg rfl (WO.nil (thenL_n (WC.ret (thenL_r ?_))))
        obtain rfl := someI h
        exact ⟨.inr rfl, _, _, rfl, rfl, rfl⟩
      · have h := iteF q33 h
        refine WC.skip (thenL_n (WC.seq (WC.region (WO.mv rfl (WO.mv rfl ?_)))))
        cases h
end Go.Proofs.YtaphdnpjpmnaeabDoor

namespace Go.Proofs.YtaphdnpjpmnaeabDoor
open Go.Am
theorem F28.fn : E.fn 28 = some ⟨15, (Tryd.f28.body.getD .skip), Tryd.f28.results.toList, []⟩ := rfl
theorem F28_ok {F : Nat} {m : Mem} {n : Nat} {r : Bool} {t0 : List UInt8} (h : F28 F t0 = some r)  : Ret E n 28 [.sc (.str t0)] m n (fun v m' n' => v = .sc (.bool r)) := by
  unfold F28 at h
  refine Ret.walk F28.fn ?_
  refine WC.start fun S0 em en hz => ?_
  refine WC.seq (WC.region (WO.asg rfl (WO.nil (thenL_n (WC.seq (WC.region (WO.mv rfl ?_)))))))
  refine WO.do rfl rfl ?_
  refine WO.mv rfl ?_
  refine WO.cutB (d := 9) 4 ((!(t0 == [])) && (decide ((t0.length : Int) < 13))) (fun q1 => ?_) (fun q1 => ?_) ?_
  · skip
    refine WO.gyes rfl rfl (WO.mv rfl (WO.gyes rfl rfl ?_))
    refine WO.lenT rfl rfl rfl ?_
    refine WO.gyes rfl rfl ?_
    refine WO.bin rfl rfl (by decide) (by decide) rfl ?_
    refine WO.pickT rfl rfl ?_
    refine WO.nil ?_
    exact ⟨rfl, rfl, (Cov.any rfl (andT q1) (Cov.skip rfl (Cov.skip rfl (Cov.skip rfl (Cov.skip rfl (Cov.skip rfl (Cov.refl _)))))))⟩
  · refine WO.gno rfl rfl (WO.gno rfl rfl (WO.gno rfl rfl ?_))
    refine WO.pickF rfl rfl ?_
    refine WO.nil ?_
    exact ⟨rfl, rfl, (Cov.any rfl (andF q1) (Cov.skip rfl (Cov.skip rfl (Cov.skip rfl (Cov.skip rfl (Cov.skip rfl (Cov.refl _)))))))⟩
  refine WO.mv rfl ?_
  obtain ⟨y7, e8, h⟩ := bindS h
  refine WO.cutS (d := 14) (S := S0) 4 y7 (fun q6 => ?_) (fun q6 => ?_) (fun S9 c10 => ?_)
  · have h := e8
    have h := iteT q6 h
    refine WO.gyes rfl rfl (WO.mv rfl (WO.gyes rfl rfl ?_))
    obtain ⟨r2, e3, h⟩ := bindS h
    refine WO.callE (S := S0) rfl rfl (F45_ok e3) (fun S4 c5 => ?_)
    refine WO.gyes rfl rfl ?_
    refine WO.do rfl rfl ?_
    obtain rfl := someI h
    refine WO.pickT rfl rfl ?_
    refine WO.nil ?_
    exact ⟨S4, rfl, rfl, c5, (Cov.cons rfl (Cov.skip rfl (Cov.skip rfl (Cov.skip rfl (Cov.skip rfl (Cov.skip rfl (Cov.refl _)))))))⟩
  · have h := e8
    have h := iteF q6 h
    obtain rfl := someI h
    refine WO.gno rfl rfl (WO.gno rfl rfl (WO.gno rfl rfl ?_))
    refine WO.pickF rfl rfl ?_
    refine WO.nil ?_
    exact ⟨S0, rfl, rfl, Ch.refl _ _, (Cov.cons rfl (Cov.skip rfl (Cov.skip rfl (Cov.skip rfl (Cov.skip rfl (Cov.skip rfl (Cov.refl _)))))))⟩
  refine WO.asg rfl (WO.nil (thenL_n (WC.ret ?_)))
  obtain rfl := someI h
  exact ⟨.inr rfl, _, _, rfl, rfl, rfl⟩
end Go.Proofs.YtaphdnpjpmnaeabDoor

namespace Go.Proofs.YtaphdnpjpmnaeabDoor
open Go.Am
theorem F33.fn : E.fn 33 = some ⟨8, (Tryd.f33.body.getD .skip), Tryd.f33.results.toList, []⟩ := rfl
theorem F33_ok {F : Nat} {m : Mem} {n : Nat} {r : Bool} {t0 : (List UInt8) × Int × Int} {c0 : List UInt8} {bc0 : Nat} (h : F33 F t0 c0 = some r) (kc0 : Pv Y9 n m bc0 c0) : Ret E n 33 [.agg [.str t0.1, .int .i64 t0.2.1, .int .i64 t0.2.2], .sc (.ptr bc0 0)] m n (fun v m' n' => v = .sc (.bool r)) := by
  unfold F33 at h
  refine Ret.walk F33.fn ?_
  refine WC.start fun S0 em en hz => ?_
  have hoc0 := kc0.rpS em hz
  refine WC.seq (WC.region ?_)
  refine WO.bxS (A := Y41) (S := S0) (u := (t0.1, t0.2.1, t0.2.2)) 2 rfl rfl rfl rfl (fun v1 S2 c3 ho4 => ?_)
  have hoc0 := hoc0.to c3
  refine WO.asg rfl (WO.nil (thenL_n (WC.seq (WC.region ?_))))
  refine WO.fldS (j := 0) (q := 0) rfl ho4.at0 ho4.ptr rfl rfl rfl (by decide) ?_
  refine WO.ldB (j := 0) (q := 0) rfl rfl ho4 rfl rfl rfl ?_
  refine WO.ldP rfl hoc0 rfl rfl rfl ?_
  refine WO.do rfl rfl ?_
  refine WO.asg rfl (WO.nil (thenL_n (WC.ret ?_)))
  obtain rfl := someI h
  exact ⟨.inr rfl, _, _, rfl, rfl, rfl⟩
end Go.Proofs.YtaphdnpjpmnaeabDoor

namespace Go.Proofs.YtaphdnpjpmnaeabDoor
open Go.Am
theorem F32_33.fn : E.fn 32 = some ⟨19, (Tryd.f32.body.getD .skip), Tryd.f32.results.toList, []⟩ := rfl
theorem F32_33_ok {F : Nat} {m : Mem} {n : Nat} {r : Int} {t0 : List ((List UInt8) × Int × Int)} {t1c0 : List UInt8} {vt0 : SV} {bt1c0 : Nat} (h : F32_33 F t0 t1c0 = some r) (kt0 : Vw Y41 n m vt0 t0) (kt1c0 : Pv Y9 n m bt1c0 t1c0) : Ret E n 32 [.sc vt0, .sc (.fn 33 [(bt1c0, 0)])] m n (fun v m' n' => v = .sc (.int .i64 r)) := by
  unfold F32_33 at h
  refine Ret.walk F32_33.fn ?_
  refine WC.start fun S0 em en hz => ?_
  have hot0 := kt0.rdS em hz
  have hot1c0 := kt1c0.rpS em hz
  refine WC.seq (WC.region (WO.asg rfl (WO.nil (thenL_n (WC.seq (WC.seq (WC.region (WO.mv rfl ?_))))))))
  refine WO.lenS rfl hot0.slv rfl ?_
  refine WO.mv rfl (WO.nil (thenL_n (WC.block ?_)))
  obtain ⟨b16, e17, h⟩ := bindS h
  refine WC.loopD e17 (fun s1 l' m' n' => ∃ S2 : Cx n, S2.m = m' ∧ S2.n = n' ∧ Cov l' [(0, .sc vt0), (1, .sc (.fn 33 [(bt1c0, 0)])), (7, .sc (.int .i64 ((t0.length : Int)))), (8, .sc (.int .i64 s1))] ∧ Rd Y41 S2 vt0 t0 ∧ Rp Y9 S2 (.ptr bt1c0 0) t1c0) (fun b e l' m' n' => (match b with | .inl b3 => e = .exit 0 ∧ ∃ S4 : Cx n, S4.m = m' ∧ S4.n = n' ∧ Cov l' [] | .inr b3 => e = .ret ∧ ∃ S5 : Cx n, S5.m = m' ∧ S5.n = n' ∧ Cov l' [(4, .sc (.int .i64 b3))])) (by exact ⟨S0, rfl, rfl, (Cov.cons rfl (Cov.cons rfl (Cov.cons rfl (Cov.cons rfl (Cov.nil _))))), hot0, hot1c0⟩) ?_ ?_
  · clear h
    rintro s1 q _ _ _ ⟨S6, rfl, rfl, hc7, hot0, hot1c0⟩ h
    unfold F32_33_l0 at h
    refine WC.cov hc7 (WC.seq (WC.region ?_))
    refine WO.bin rfl rfl (by decide) (by decide) rfl ?_
    refine WO.nil (thenL_n (WC.seq ?_))
    refine WC.cond rfl (fun q8 => ?_) (fun q8 => ?_)
    · have h := iteT q8 h
      refine WC.skip (thenL_n (WC.seq (WC.block (WC.seq (WC.region (WO.mv rfl (WO.asg rfl (WO.nil (thenL_n ?_)))))))))
      refine WC.seq (WC.region (WO.mv rfl (WO.mv rfl (WO.mv rfl ?_))))
      obtain ⟨x9, e10, h⟩ := bindS h
      refine WO.ixS rfl rfl hot0.slv (at?_lt e10) rfl ?_
      refine WO.ldA rfl hot0.ro (fun _ hi => hi) (at?_get e10) rfl rfl ?_
      obtain ⟨r11, e12, h⟩ := bindS h
      refine WO.callE (S := S6) rfl rfl (F33_ok e12 hot1c0.pv) (fun S13 c14 => ?_)
      have hot0 := hot0.to c14
      have hot1c0 := hot1c0.to c14
      refine WO.nil (thenL_n ?_)
      refine WC.cond rfl (fun q15 => ?_) (fun q15 => ?_)
      · have h := iteT q15 h
        refine WC.seq (WC.region (WO.mv rfl (WO.asg rfl (WO.nil (thenL_n (WC.ret (blockL_r (thenL_r (thenL_r ?_)))))))))
        obtain rfl := someI h
        exact ⟨_, rfl, rfl, ⟨S13, rfl, rfl, (Cov.cons rfl (Cov.nil _))⟩⟩
      · have h := iteF q15 h
        refine WC.skip (blockL_n (thenL_n (WC.region ?_)))
        refine WO.bin rfl rfl (by decide) (by decide) rfl ?_
        refine WO.mv rfl (WO.nil (thenL_n ?_))
        obtain rfl := someI h
        exact ⟨_, rfl, ⟨S13, rfl, rfl, (Cov.cons rfl (Cov.cons rfl (Cov.cons rfl (Cov.cons rfl (Cov.nil _))))), hot0, hot1c0⟩⟩
    · have h := iteF q8 h
      refine WC.exit (thenL_e (thenL_e ?_))
      obtain rfl := someI h
      exact ⟨_, rfl, rfl, ⟨S6, rfl, rfl, (Cov.nil _)⟩⟩
  cases b16 with
  | inl b18 =>
    simp only at h
    rintro _ _ _ _ ⟨rfl, ⟨S19, rfl, rfl, hc20⟩⟩
    refine blockL_s (thenL_n (WC.cov hc20 (WC.seq (WC.region (WO.asg rfl (WO.nil (thenL_n (WC.ret ?_))))))))
    obtain rfl := someI h
    exact ⟨.inr rfl, _, _, rfl, rfl, rfl⟩
  | inr b18 =>
    simp only at h
    rintro _ _ _ _ ⟨rfl, ⟨S21, rfl, rfl, hc22⟩⟩
    refine blockL_r (thenL_r ?_)
    obtain rfl := someI h
    exact ⟨.inr rfl, _, _, (resK_cov hc22 rfl), rfl, rfl⟩
end Go.Proofs.YtaphdnpjpmnaeabDoor

namespace Go.Proofs.YtaphdnpjpmnaeabDoor
open Go.Am
theorem F10.fn : E.fn 10 = some ⟨9, (Tryd.f10.body.getD .skip), Tryd.f10.results.toList, []⟩ := rfl
theorem F10_ok {F : Nat} {m : Mem} {n : Nat} {r : Int} {t0 : (List ((List UInt8) × Int × Int)) × (List ((List UInt8) × (List UInt8) × Int))} {t1 : List UInt8} {vt0_0 : SV} {vt0_1 : SV} (h : F10 F t0 t1 = some r) (kt0_0 : Vw Y41 n m vt0_0 t0.1) (kt0_1 : Vw Y65 n m vt0_1 t0.2) : Ret E n 10 [.agg [vt0_0, vt0_1], .sc (.str t1)] m n (fun v m' n' => v = .sc (.int .i64 r)) := by
  unfold F10 at h
  refine Ret.walk F10.fn ?_
  refine WC.start fun S0 em en hz => ?_
  have hot0_0 := kt0_0.rdS em hz
  have hot0_1 := kt0_1.rdS em hz
  refine WC.seq (WC.region ?_)
  refine WO.bxW (S := S0) (cs := [vt0_0, vt0_1]) 2 rfl rfl rfl (fun b1 S2 c3 ho4 => ?_)
  have hot0_0 := hot0_0.to c3
  have hot0_1 := hot0_1.to c3
  refine WO.bxS (A := Y9) (S := S2) (u := t1) 3 rfl rfl rfl rfl (fun v5 S6 c7 ho8 => ?_)
  have hot0_0 := hot0_0.to c7
  have hot0_1 := hot0_1.to c7
  have ho4 := ho4.to c7
  refine WO.asg rfl (WO.nil (thenL_n (WC.seq (WC.region ?_))))
  refine WO.fldS (j := 0) (q := 0) rfl ho4.at0 ho4.ptr rfl rfl rfl (by decide) ?_
  refine WO.ldW rfl rfl ho4 rfl rfl ho4.lt rfl ?_
  obtain ⟨b9, rfl⟩ := ho8.isp
  refine WO.do rfl rfl ?_
  obtain ⟨r10, e11, h⟩ := bindS h
  refine WO.callE (S := S6) rfl rfl (F32_33_ok e11 hot0_0.vw ho8.pv) (fun S12 c13 => ?_)
  have hot0_0 := hot0_0.to c13
  have hot0_1 := hot0_1.to c13
  have ho4 := ho4.to c13
  have ho8 := ho8.to c13
  refine WO.asg rfl (WO.nil (thenL_n (WC.ret ?_)))
  obtain rfl := someI h
  exact ⟨.inr rfl, _, _, rfl, rfl, rfl⟩
end Go.Proofs.YtaphdnpjpmnaeabDoor

namespace Go.Proofs.YtaphdnpjpmnaeabDoor
open Go.Am
theorem F30.fn : E.fn 30 = some ⟨6, (Tryd.f30.body.getD .skip), Tryd.f30.results.toList, []⟩ := rfl
theorem F30_ok {F : Nat} {m : Mem} {n : Nat} {r : Bool} {t0 : (List UInt8) × (List UInt8) × Int} (h : F30 F t0 = some r)  : Ret E n 30 [.agg [.str t0.1, .str t0.2.1, .int .i64 t0.2.2]] m n (fun v m' n' => v = .sc (.bool r)) := by
  unfold F30 at h
  refine Ret.walk F30.fn ?_
  refine WC.start fun S0 em en hz => ?_
  refine WC.seq (WC.region ?_)
  refine WO.bxS (A := Y65) (S := S0) (u := (t0.1, t0.2.1, t0.2.2)) 2 rfl rfl rfl rfl (fun v1 S2 c3 ho4 => ?_)
  refine WO.asg rfl (WO.nil (thenL_n (WC.seq (WC.region ?_))))
  refine WO.fldS (j := 0) (q := 0) rfl ho4.at0 ho4.ptr rfl rfl rfl (by decide) ?_
  refine WO.ldB (j := 0) (q := 2) rfl rfl ho4 rfl rfl rfl ?_
  refine WO.bin rfl rfl (by decide) (by decide) rfl ?_
  refine WO.asg rfl (WO.nil (thenL_n (WC.ret ?_)))
  obtain rfl := someI h
  exact ⟨.inr rfl, _, _, rfl, rfl, rfl⟩
end Go.Proofs.YtaphdnpjpmnaeabDoor

namespace Go.Proofs.YtaphdnpjpmnaeabDoor
open Go.Am
theorem F46_30.fn : E.fn 46 = some ⟨19, (Tryd.f46.body.getD .skip), Tryd.f46.results.toList, []⟩ := rfl
theorem F46_30_ok {F : Nat} {m : Mem} {n : Nat} {r : Int} {t0 : List ((List UInt8) × (List UInt8) × Int)} {vt0 : SV} (h : F46_30 F t0 = some r) (kt0 : Vw Y65 n m vt0 t0) : Ret E n 46 [.sc vt0, .sc (.fn 30 [])] m n (fun v m' n' => v = .sc (.int .i64 r)) := by
  unfold F46_30 at h
  refine Ret.walk F46_30.fn ?_
  refine WC.start fun S0 em en hz => ?_
  have hot0 := kt0.rdS em hz
  refine WC.seq (WC.region (WO.asg rfl (WO.nil (thenL_n (WC.seq (WC.seq (WC.region (WO.mv rfl ?_))))))))
  refine WO.lenS rfl hot0.slv rfl ?_
  refine WO.mv rfl (WO.nil (thenL_n (WC.block ?_)))
  obtain ⟨b16, e17, h⟩ := bindS h
  refine WC.loopD e17 (fun s1 l' m' n' => ∃ S2 : Cx n, S2.m = m' ∧ S2.n = n' ∧ Cov l' [(0, .sc vt0), (1, .sc (.fn 30 [])), (7, .sc (.int .i64 ((t0.length : Int)))), (8, .sc (.int .i64 s1))] ∧ Rd Y65 S2 vt0 t0) (fun b e l' m' n' => (match b with | .inl b3 => e = .exit 0 ∧ ∃ S4 : Cx n, S4.m = m' ∧ S4.n = n' ∧ Cov l' [] | .inr b3 => e = .ret ∧ ∃ S5 : Cx n, S5.m = m' ∧ S5.n = n' ∧ Cov l' [(4, .sc (.int .i64 b3))])) (by exact ⟨S0, rfl, rfl, (Cov.cons rfl (Cov.cons rfl (Cov.cons rfl (Cov.cons rfl (Cov.nil _))))), hot0⟩) ?_ ?_
  · clear h
    rintro s1 q _ _ _ ⟨S6, rfl, rfl, hc7, hot0⟩ h
    unfold F46_30_l0 at h
    refine WC.cov hc7 (WC.seq (WC.region ?_))
    refine WO.bin rfl rfl (by decide) (by decide) rfl ?_
    refine WO.nil (thenL_n (WC.seq ?_))
    refine WC.cond rfl (fun q8 => ?_) (fun q8 => ?_)
    · have h := iteT q8 h
      refine WC.skip (thenL_n (WC.seq (WC.block (WC.seq (WC.region (WO.mv rfl (WO.asg rfl (WO.nil (thenL_n ?_)))))))))
      refine WC.seq (WC.region (WO.mv rfl (WO.mv rfl (WO.mv rfl ?_))))
      obtain ⟨x9, e10, h⟩ := bindS h
      refine WO.ixS rfl rfl hot0.slv (at?_lt e10) rfl ?_
      refine WO.ldA rfl hot0.ro (fun _ hi => hi) (at?_get e10) rfl rfl ?_
      obtain ⟨r11, e12, h⟩ := bindS h
      refine WO.callE (S := S6) rfl rfl (F30_ok e12) (fun S13 c14 => ?_)
      have hot0 := hot0.to c14
      refine WO.nil (thenL_n ?_)
      refine WC.cond rfl (fun q15 => ?_) (fun q15 => ?_)
      · have h := iteT q15 h
        refine WC.seq (WC.region (WO.mv rfl (WO.asg rfl (WO.nil (thenL_n (WC.ret (blockL_r (thenL_r (thenL_r ?_)))))))))
        obtain rfl := someI h
        exact ⟨_, rfl, rfl, ⟨S13, rfl, rfl, (Cov.cons rfl (Cov.nil _))⟩⟩
      · have h := iteF q15 h
        refine WC.skip (blockL_n (thenL_n (WC.region ?_)))
        refine WO.bin rfl rfl (by decide) (by decide) rfl ?_
        refine WO.mv rfl (WO.nil (thenL_n ?_))
        obtain rfl := someI h
        exact ⟨_, rfl, ⟨S13, rfl, rfl, (Cov.cons rfl (Cov.cons rfl (Cov.cons rfl (Cov.cons rfl (Cov.nil _))))), hot0⟩⟩
    · have h := iteF q8 h
      refine WC.exit (thenL_e (thenL_e ?_))
      obtain rfl := someI h
      exact ⟨_, rfl, rfl, ⟨S6, rfl, rfl, (Cov.nil _)⟩⟩
  cases b16 with
  | inl b18 =>
    simp only at h
    rintro _ _ _ _ ⟨rfl, ⟨S19, rfl, rfl, hc20⟩⟩
    refine blockL_s (thenL_n (WC.cov hc20 (WC.seq (WC.region (WO.asg rfl (WO.nil (thenL_n (WC.ret ?_))))))))
    obtain rfl := someI h
    exact ⟨.inr rfl, _, _, rfl, rfl, rfl⟩
  | inr b18 =>
    simp only at h
    rintro _ _ _ _ ⟨rfl, ⟨S21, rfl, rfl, hc22⟩⟩
    refine blockL_r (thenL_r ?_)
    obtain rfl := someI h
    exact ⟨.inr rfl, _, _, (resK_cov hc22 rfl), rfl, rfl⟩
end Go.Proofs.YtaphdnpjpmnaeabDoor

namespace Go.Proofs.YtaphdnpjpmnaeabDoor
open Go.Am
theorem F29_30.fn : E.fn 29 = some ⟨42, (Tryd.f29.body.getD .skip), Tryd.f29.results.toList, []⟩ := rfl
theorem F29_30_ok {F : Nat} {fl : Nat} {S0 : Cx fl} {r : (List ((List UInt8) × (List UInt8) × Int))} {t0 : List ((List UInt8) × (List UInt8) × Int)} {vt0 : SV} (h : F29_30 F t0 = some r) (hot0 : Ow Y65 S0 2 vt0 t0) : Ret E fl 29 [.sc vt0, .sc (.fn 30 [])] S0.m S0.n (fun v m' n' => ∃ S' : Cx fl, S'.m = m' ∧ S'.n = n' ∧ ChM S0 S' ∧ (∃ w44 : SV, v = .sc w44 ∧ Ow Y65 S' 902 w44 r)) := by
  unfold F29_30 at h
  refine Ret.walk F29_30.fn ?_
  have hM := ChM.refl S0
  refine WC.seq (WC.region (WO.asg rfl (WO.nil (thenL_n (WC.seq (WC.region (WO.mv rfl (WO.mv rfl ?_))))))))
  obtain ⟨r1, e2, h⟩ := bindS h
  refine WO.callE (S := S0) rfl rfl (F46_30_ok e2 hot0.vw) (fun S3 c4 => ?_)
  have hot0 := hot0.to c4
  have hM := hM.to c4
  refine WO.asg rfl (WO.nil (thenL_n (WC.seq (WC.seq (WC.region (WO.mv rfl ?_))))))
  refine WO.bin rfl rfl (by decide) (by decide) rfl ?_
  refine WO.nil (thenL_n ?_)
  refine WC.cond rfl (fun q5 => ?_) (fun q5 => ?_)
  · have h := iteT q5 h
    refine WC.seq (WC.region (WO.mv rfl (WO.asg rfl (WO.nil (thenL_n (WC.ret (thenL_r ?_)))))))
    have hot0 := hot0.ren (j := 902)
    have hM := hM.renO 2 902
    obtain rfl := someI h
    exact ⟨.inr rfl, _, _, rfl, rfl, ⟨(S3.ren 2 902), rfl, rfl, hM, vt0, rfl, hot0⟩⟩
  · have h := iteF q5 h
    refine WC.skip (thenL_n (WC.seq (WC.seq (WC.region (WO.mv rfl ?_)))))
    refine WO.bin rfl rfl (by decide) (by decide) rfl ?_
    refine WO.asg rfl (WO.nil (thenL_n (WC.block ?_)))
    obtain ⟨b29, e30, h⟩ := bindS h
    refine WC.loopD e30 (fun s6 l' m' n' => ∃ S7 : Cx fl, S7.m = m' ∧ S7.n = n' ∧ Cov l' [(0, .sc vt0), (1, .sc (.fn 30 [])), (5, .sc (.int .i64 s6.1)), (6, .sc (.int .i64 s6.2.1))] ∧ ChM S0 S7 ∧ Ow Y65 S7 2 vt0 s6.2.2) (fun b e l' m' n' => e = .exit 0 ∧ ∃ S8 : Cx fl, S8.m = m' ∧ S8.n = n' ∧ Cov l' [(0, .sc vt0), (5, .sc (.int .i64 b.1))] ∧ ChM S0 S8 ∧ Ow Y65 S8 2 vt0 b.2) (by exact ⟨S3, rfl, rfl, (Cov.cons rfl (Cov.cons rfl (Cov.cons rfl (Cov.cons rfl (Cov.nil _))))), hM, hot0⟩) ?_ ?_
    · clear h
      rintro s6 q _ _ _ ⟨S9, rfl, rfl, hc10, hM, hot0⟩ h
      unfold F29_30_l0 at h
      refine WC.cov hc10 (WC.seq (WC.seq (WC.region (WO.mv rfl (WO.mv rfl ?_)))))
      refine WO.lenS rfl hot0.slv rfl ?_
      refine WO.bin rfl rfl (by decide) (by decide) rfl ?_
      refine WO.nil (thenL_n ?_)
      refine WC.cond rfl (fun q11 => ?_) (fun q11 => ?_)
      · have h := iteT q11 h
        refine WC.skip (thenL_n (WC.seq (WC.block (WC.seq (WC.region (WO.mv rfl (WO.mv rfl ?_)))))))
        obtain ⟨x12, e13, h⟩ := bindS h
        refine WO.ixS rfl rfl hot0.slv (at?_lt e13) rfl ?_
        refine WO.ldA rfl hot0.ro (fun _ hi => hi) (at?_get e13) rfl rfl ?_
        refine WO.alS (A := Y65) (S := S9) (z0 := (([], [], 0) : (List UInt8) × (List UInt8) × Int)) 3 rfl rfl rfl (fun v14 S15 c16 ho17 => ?_)
        have hM := hM.to c16
        have hot0 := hot0.to c16
        refine WO.stBA (u' := (x12.1, x12.2.1, x12.2.2)) rfl ho17.at0 rfl ho17 rfl rfl (fun S18 c19 ho17 => ?_)
        have hM := hM.to c19
        have hot0 := hot0.to c19
        refine WO.nil (thenL_n (WC.seq (WC.region (WO.mv rfl ?_))))
        refine WO.ldBA (j := 0) rfl ho17.at0 ho17 rfl rfl ?_
        obtain ⟨r20, e21, h⟩ := bindS h
        refine WO.callE (S := S18) rfl rfl (F30_ok e21) (fun S22 c23 => ?_)
        have hM := hM.to c23
        have hot0 := hot0.to c23
        have ho17 := ho17.to c23
        refine WO.do rfl rfl ?_
        refine WO.nil (thenL_n ?_)
        refine WC.cond rfl (fun q24 => ?_) (fun q24 => ?_)
        · have h := iteT q24 h
          refine WC.seq (WC.region (WO.mv rfl (WO.mv rfl ?_)))
          refine WO.ldBA (j := 0) rfl ho17.at0 ho17 rfl rfl ?_
          obtain ⟨u25, e26, h⟩ := bindS h
          refine WO.ixS rfl rfl hot0.slv (ck_some e26) rfl ?_
          refine WO.stA (u' := (((x12.1, x12.2.1, x12.2.2)).1, ((x12.1, x12.2.1, x12.2.2)).2.1, ((x12.1, x12.2.1, x12.2.2)).2.2)) rfl rfl hot0 (ck_nat e26) rfl rfl (fun S27 c28 hot0 => ?_)
          have hM := hM.to c28
          have ho17 := ho17.to c28
          refine WO.nil (thenL_n (WC.region (WO.mv rfl ?_)))
          refine WO.bin rfl rfl (by decide) (by decide) rfl ?_
          refine WO.asg rfl (WO.nil (blockL_n (thenL_n (WC.region (WO.mv rfl ?_)))))
          refine WO.bin rfl rfl (by decide) (by decide) rfl ?_
          refine WO.asg rfl (WO.nil (thenL_n ?_))
          obtain rfl := someI h
          exact ⟨_, rfl, ⟨S27, rfl, rfl, (Cov.cons rfl (Cov.cons rfl (Cov.cons rfl (Cov.cons rfl (Cov.nil _))))), hM, hot0⟩⟩
        · have h := iteF q24 h
          refine WC.skip (blockL_n (thenL_n (WC.region (WO.mv rfl ?_))))
          refine WO.bin rfl rfl (by decide) (by decide) rfl ?_
          refine WO.asg rfl (WO.nil (thenL_n ?_))
          obtain rfl := someI h
          exact ⟨_, rfl, ⟨S22, rfl, rfl, (Cov.cons rfl (Cov.cons rfl (Cov.cons rfl (Cov.cons rfl (Cov.nil _))))), hM, hot0⟩⟩
      · have h := iteF q11 h
        refine WC.exit (thenL_e (thenL_e ?_))
        obtain rfl := someI h
        exact ⟨_, rfl, rfl, ⟨S9, rfl, rfl, (Cov.cons rfl (Cov.cons rfl (Cov.nil _))), hM, hot0⟩⟩
    rintro _ _ _ _ ⟨rfl, ⟨S31, rfl, rfl, hc32, hM, hot0⟩⟩
    refine blockL_s (thenL_n (WC.cov hc32 (WC.seq (WC.region (WO.mv rfl (WO.mv rfl ?_))))))
    obtain ⟨L33, e34, h⟩ := bindS h
    refine WO.slcB (k' := .i64) rfl (.inl ⟨_, rfl, rfl⟩) (.inr ⟨rfl, rfl⟩) hot0.wk e34 rfl (fun v35 ho36 b37 => ?_)
    have ho36 : Wk Y65 S31 2 v35 L33 := ho36
    refine WO.clrB (S := S31) (z0 := (([], [], 0) : (List UInt8) × (List UInt8) × Int)) hot0 e34 b37 rfl rfl rfl rfl (fun S38 c39 hot0 => ?_)
    have hM := hM.to c39
    refine WO.nil (thenL_n (WC.seq (WC.region (WO.mv rfl (WO.mv rfl ?_)))))
    obtain ⟨L40, e41, h⟩ := bindS h
    refine WO.slcO rfl rfl hot0 e41 rfl (fun v42 ho43 => ?_)
    refine WO.asg rfl (WO.nil (thenL_n (WC.ret ?_)))
    have hM := hM.renO 2 902
    have ho43 := ho43.ren (j := 902)
    obtain rfl := someI h
    exact ⟨.inr rfl, _, _, rfl, rfl, ⟨(S38.ren 2 902), rfl, rfl, hM, v42, rfl, ho43⟩⟩
end Go.Proofs.YtaphdnpjpmnaeabDoor

/- The machine answers the functions' texts: printed by a program of ours (gen.py). -/
import Derived.Test.YtaphdnpjpmnaeaaG1
set_option linter.unusedVariables false
namespace Go.Proofs.Ytaphdnpjpmnaeaa
open Go.Am
theorem F56_32.fn : E.fn 56 = some ⟨53, (Try.f56.body.getD .skip), Try.f56.results.toList, []⟩ := rfl
theorem F56_32_ok {F : Nat} {m : Mem} {n : Nat} {r : (List Int)} {t0 : List Int} {t1 : Int} {t2 : Int} {vt0 : SV} {fl : Nat} {bw : Nat} (h : F56_32 F t0 t1 t2 = some r) (hfl : fl ≤ n) (kt0 : Iv Y3 fl n bw m vt0 t0) : Ret E fl 56 [.sc vt0, .sc (.int .i64 t1), .sc (.int .i64 t2), .sc (.fn 32 [])] m n (fun v m' n' => v = .tup [] ∧ Ip Y3 n bw m m' vt0 r) := by
  unfold F56_32 at h
  refine Ret.walk F56_32.fn ?_
  refine WC.startI (b := bw) hfl fun S0 em en hz hbw => ?_
  have hot0 := kt0.iw em en hz hbw
  refine WC.seq (WC.region (WO.mv rfl ?_))
  refine WO.bin rfl rfl (by decide) (by decide) rfl ?_
  refine WO.asg rfl (WO.nil (thenL_n (WC.block ?_)))
  obtain ⟨b42, e43, h⟩ := bindS h
  refine WC.loopD e43 (fun s1 l' m' n' => ∃ S2 : Cx fl, S2.m = m' ∧ S2.n = n' ∧ Cov l' [(0, .sc vt0), (1, .sc (.int .i64 t1)), (2, .sc (.int .i64 t2)), (3, .sc (.fn 32 [])), (8, .sc (.int .i64 s1.1))] ∧ Iw Y3 S2 2 n bw m vt0 s1.2) (fun b e l' m' n' => e = .exit 0 ∧ ∃ S3 : Cx fl, S3.m = m' ∧ S3.n = n' ∧ Cov l' [(0, .sc vt0)] ∧ Iw Y3 S3 2 n bw m vt0 b) (by exact ⟨S0, rfl, rfl, (Cov.cons rfl (Cov.cons rfl (Cov.cons rfl (Cov.cons rfl (Cov.cons rfl (Cov.nil _)))))), hot0⟩) ?_ ?_
  · clear h
    rintro s1 q _ _ _ ⟨S4, rfl, rfl, hc5, hot0⟩ h
    unfold F56_32_l1 at h
    refine WC.cov hc5 (WC.seq (WC.seq (WC.region (WO.mv rfl (WO.mv rfl ?_)))))
    refine WO.bin rfl rfl (by decide) (by decide) rfl ?_
    refine WO.nil (thenL_n ?_)
    refine WC.cond rfl (fun q6 => ?_) (fun q6 => ?_)
    · have h := iteT q6 h
      refine WC.skip (thenL_n (WC.seq (WC.block (WC.seq (WC.region (WO.mv rfl (WO.asg rfl (WO.nil (thenL_n ?_)))))))))
      refine WC.block ?_
      obtain ⟨b38, e39, h⟩ := bindS h
      refine WC.loopD e39 (fun s7 l' m' n' => ∃ S8 : Cx fl, S8.m = m' ∧ S8.n = n' ∧ Cov l' [(0, .sc vt0), (1, .sc (.int .i64 t1)), (2, .sc (.int .i64 t2)), (3, .sc (.fn 32 [])), (8, .sc (.int .i64 s1.1)), (9, .sc (.int .i64 s7.1))] ∧ Iw Y3 S8 2 n bw m vt0 s7.2) (fun b e l' m' n' => e = .exit 2 ∧ ∃ S9 : Cx fl, S9.m = m' ∧ S9.n = n' ∧ Cov l' [(0, .sc vt0), (1, .sc (.int .i64 t1)), (2, .sc (.int .i64 t2)), (3, .sc (.fn 32 [])), (8, .sc (.int .i64 s1.1))] ∧ Iw Y3 S9 2 n bw m vt0 b) (by exact ⟨S4, rfl, rfl, (Cov.cons rfl (Cov.cons rfl (Cov.cons rfl (Cov.cons rfl (Cov.cons rfl (Cov.cons rfl (Cov.nil _))))))), hot0⟩) ?_ ?_
      · clear h
        rintro s7 q _ _ _ ⟨S10, rfl, rfl, hc11, hot0⟩ h
        unfold F56_32_l0 at h
        refine WC.cov hc11 (WC.seq (WC.seq ?_))
        refine WC.drawN rfl rfl ?_
        have hot0z := hot0.oz
        refine WO.mv rfl (WO.mv rfl ?_)
        refine WO.bin rfl rfl (by decide) (by decide) rfl ?_
        refine WO.mv rfl ?_
        obtain ⟨y21, e22, h⟩ := bindS h
        refine WO.cutS (d := 34) (S := S10) 13 y21 (fun q20 => ?_) (fun q20 => ?_) (fun S23 c24 => ?_)
        · have h := e22
          have h := iteT q20 h
          refine WO.gyes rfl rfl (WO.mv rfl (WO.gyes rfl rfl (WO.mv rfl (WO.gyes rfl rfl (WO.mv rfl (WO.gyes rfl rfl ?_))))))
          obtain ⟨x12, e13, h⟩ := bindS h
          refine WO.ixS rfl rfl hot0.slv (at?_lt e13) rfl ?_
          refine WO.gyes rfl rfl ?_
          refine WO.ldF rfl hot0z (fun _ hi => hi.1) (at?_get e13) rfl rfl (limLe_self _) ?_
          refine WO.gyes rfl rfl (WO.mv rfl (WO.gyes rfl rfl (WO.mv rfl (WO.gyes rfl rfl ?_))))
          refine WO.bin rfl rfl (by decide) (by decide) rfl ?_
          refine WO.gyes rfl rfl ?_
          obtain ⟨x14, e15, h⟩ := bindS h
          refine WO.ixS rfl rfl hot0.slv (at?_lt e15) rfl ?_
          refine WO.gyes rfl rfl ?_
          refine WO.ldF rfl hot0z (fun _ hi => hi.1) (at?_get e15) rfl rfl (limLe_self _) ?_
          refine WO.gyes rfl rfl ?_
          obtain ⟨r16, e17, h⟩ := bindS h
          refine WO.callE (S := S10) rfl rfl (F32_ok e17) (fun S18 c19 => ?_)
          have hot0z := hot0z.tow c19
          have hot0 := hot0.to c19
          refine WO.gyes rfl rfl ?_
          refine WO.bin rfl rfl (by decide) (by decide) rfl ?_
          obtain rfl := someI h
          refine WO.pickT rfl rfl ?_
          refine WO.nil ?_
          exact ⟨S18, rfl, rfl, c19, (Cov.cons rfl (Cov.skip rfl (Cov.skip rfl (Cov.skip rfl (Cov.skip rfl (Cov.skip rfl (Cov.skip rfl (Cov.skip rfl (Cov.skip rfl (Cov.skip rfl (Cov.skip rfl (Cov.skip rfl (Cov.skip rfl (Cov.skip rfl (Cov.skip rfl (Cov.refl _))))))))))))))))⟩
        · have h := e22
          have h := iteF q20 h
          obtain rfl := someI h
          refine WO.gno rfl rfl (WO.gno rfl rfl (WO.gno rfl rfl (WO.gno rfl rfl (WO.gno rfl rfl (WO.gno rfl rfl (WO.gno rfl rfl (WO.gno rfl rfl (WO.gno rfl rfl (WO.gno rfl rfl ?_)))))))))
          refine WO.gno rfl rfl (WO.gno rfl rfl ?_)
          refine WO.pickF rfl rfl ?_
          refine WO.nil ?_
          exact ⟨S10, rfl, rfl, Ch.refl _ _, (Cov.cons rfl (Cov.skip rfl (Cov.skip rfl (Cov.skip rfl (Cov.skip rfl (Cov.skip rfl (Cov.skip rfl (Cov.skip rfl (Cov.skip rfl (Cov.skip rfl (Cov.skip rfl (Cov.skip rfl (Cov.skip rfl (Cov.skip rfl (Cov.skip rfl (Cov.refl _))))))))))))))))⟩
        have hot0z := hot0z.tow c24
        have hot0 := hot0.to c24
        refine WO.nil (thenL_n ?_)
        refine WC.cond rfl (fun q25 => ?_) (fun q25 => ?_)
        · have h := iteT q25 h
          refine WC.skip (thenL_n (WC.seq (WC.block ?_)))
          refine WC.drawN rfl rfl ?_
          have hot0z := hot0.oz
          refine WO.mv rfl (WO.mv rfl (WO.mv rfl (WO.mv rfl ?_)))
          refine WO.bin rfl rfl (by decide) (by decide) rfl ?_
          refine WO.mv rfl (WO.mv rfl ?_)
          refine WO.bin rfl rfl (by decide) (by decide) rfl ?_
          obtain ⟨x26, e27, h⟩ := bindS h
          refine WO.ixS rfl rfl hot0.slv (at?_lt e27) rfl ?_
          refine WO.ldF rfl hot0z (fun _ hi => hi.1) (at?_get e27) rfl rfl (limLe_self _) ?_
          refine WO.mv rfl (WO.mv rfl ?_)
          obtain ⟨x28, e29, h⟩ := bindS h
          refine WO.ixS rfl rfl hot0.slv (at?_lt e29) rfl ?_
          refine WO.ldF rfl hot0z (fun _ hi => hi.1) (at?_get e29) rfl rfl (limLe_self _) ?_
          obtain ⟨u30, e31, h⟩ := bindS h
          refine WO.ixS rfl rfl hot0.slv (ck_some e31) rfl ?_
          refine WO.stI (u' := x26) rfl rfl hot0 (ck_nat e31) rfl rfl (fun S32 c33 hot0 => ?_)
          obtain ⟨u34, e35, h⟩ := bindS h
          refine WO.ixS rfl rfl hot0.slv (ck_some e35) rfl ?_
          refine WO.stI (u' := x28) rfl rfl hot0 (ck_nat e35) rfl rfl (fun S36 c37 hot0 => ?_)
          refine WO.nil (blockL_n (thenL_n (WC.region (WO.mv rfl ?_))))
          refine WO.bin rfl rfl (by decide) (by decide) rfl ?_
          refine WO.asg rfl (WO.nil (thenL_n ?_))
          obtain rfl := someI h
          exact ⟨_, rfl, ⟨S36, rfl, rfl, (Cov.cons rfl (Cov.cons rfl (Cov.cons rfl (Cov.cons rfl (Cov.cons rfl (Cov.cons rfl (Cov.nil _))))))), hot0⟩⟩
        · have h := iteF q25 h
          refine WC.exit (thenL_e (thenL_e ?_))
          obtain rfl := someI h
          exact ⟨_, rfl, rfl, ⟨S23, rfl, rfl, (Cov.cons rfl (Cov.cons rfl (Cov.cons rfl (Cov.cons rfl (Cov.cons rfl (Cov.nil _)))))), hot0⟩⟩
      rintro _ _ _ _ ⟨rfl, ⟨S40, rfl, rfl, hc41, hot0⟩⟩
      refine blockL_s (blockL_n (thenL_n (WC.cov hc41 (WC.region (WO.mv rfl ?_)))))
      refine WO.bin rfl rfl (by decide) (by decide) rfl ?_
      refine WO.asg rfl (WO.nil (thenL_n ?_))
      obtain rfl := someI h
      exact ⟨_, rfl, ⟨S40, rfl, rfl, (Cov.cons rfl (Cov.cons rfl (Cov.cons rfl (Cov.cons rfl (Cov.cons rfl (Cov.nil _)))))), hot0⟩⟩
    · have h := iteF q6 h
      refine WC.exit (thenL_e (thenL_e ?_))
      obtain rfl := someI h
      exact ⟨_, rfl, rfl, ⟨S4, rfl, rfl, (Cov.cons rfl (Cov.nil _)), hot0⟩⟩
  rintro _ _ _ _ ⟨rfl, ⟨S44, rfl, rfl, hc45, hot0⟩⟩
  refine blockL_s ?_
  obtain rfl := someI h
  exact ⟨.inl rfl, _, _, (resK_cov hc45 rfl), rfl, ⟨rfl, hot0.ip Lay.flat_fl⟩⟩
end Go.Proofs.Ytaphdnpjpmnaeaa

namespace Go.Proofs.Ytaphdnpjpmnaeaa
open Go.Am
theorem F48_32.fn : E.fn 48 = some ⟨148, (Try.f48.body.getD .skip), Try.f48.results.toList, []⟩ := rfl
theorem F48_32_ok {F : Nat} {m : Mem} {n : Nat} {r : (List Int)} {t0 : List Int} {t1 : Int} {t2 : Int} {t3 : Int} {vt0 : SV} {fl : Nat} {bw : Nat} (h : F48_32 F t0 t1 t2 t3 = some r) (hfl : fl ≤ n) (kt0 : Iv Y3 fl n bw m vt0 t0) : Ret E fl 48 [.sc vt0, .sc (.int .i64 t1), .sc (.int .i64 t2), .sc (.int .i64 t3), .sc (.fn 32 [])] m n (fun v m' n' => v = .tup [] ∧ Ip Y3 n bw m m' vt0 r) := by
  unfold F48_32 at h
  refine Ret.walk F48_32.fn ?_
  refine WC.startI (b := bw) hfl fun S0 em en hz hbw => ?_
  have hot0 := kt0.iw em en hz hbw
  refine WC.seq (WC.region (WO.asg rfl (WO.nil (thenL_n (WC.seq (WC.region (WO.asg rfl (WO.nil (thenL_n ?_)))))))))
  refine WC.block ?_
  obtain ⟨b18, e19, h⟩ := bindS h
  refine WC.loopD e19 (fun s1 l' m' n' => ∃ S2 : Cx fl, S2.m = m' ∧ S2.n = n' ∧ Cov l' [(0, .sc vt0), (1, .sc (.int .i64 s1.1)), (2, .sc (.int .i64 s1.2.1)), (3, .sc (.int .i64 s1.2.2.1)), (4, .sc (.fn 32 [])), (10, .sc (.bool s1.2.2.2.1)), (11, .sc (.bool s1.2.2.2.2.1))] ∧ Iw Y3 S2 2 n bw m vt0 s1.2.2.2.2.2) (fun b e l' m' n' => e = .ret ∧ ∃ S3 : Cx fl, S3.m = m' ∧ S3.n = n' ∧ Cov l' [(0, .sc vt0)] ∧ Iw Y3 S3 2 n bw m vt0 b) (by exact ⟨S0, rfl, rfl, (Cov.cons rfl (Cov.cons rfl (Cov.cons rfl (Cov.cons rfl (Cov.cons rfl (Cov.cons rfl (Cov.cons rfl (Cov.nil _)))))))), hot0⟩) ?_ ?_
  · clear h
    rintro s1 q _ _ _ ⟨S4, rfl, rfl, hc5, hot0⟩ h
    unfold F48_32_l0 at h
    refine WC.cov hc5 (WC.block (WC.seq (WC.region (WO.mv rfl (WO.mv rfl ?_)))))
    refine WO.bin rfl rfl (by decide) (by decide) rfl ?_
    refine WO.asg rfl (WO.nil (thenL_n (WC.seq (WC.seq (WC.region (WO.mv rfl ?_))))))
    refine WO.bin rfl rfl (by decide) (by decide) rfl ?_
    refine WO.nil (thenL_n ?_)
    refine WC.cond rfl (fun q6 => ?_) (fun q6 => ?_)
    · have h := iteT q6 h
      refine WC.seq (WC.region (WO.mv rfl (WO.mv rfl (WO.mv rfl (WO.mv rfl ?_)))))
      obtain ⟨r7, e8, h⟩ := bindS h
      refine WO.callW (S := S4) hot0 rfl rfl rfl (fun bq hI hB => F56_32_ok e8 S4.le hI) Lay.flat_fl (fun S9 c10 hot0 => ?_)
      refine WO.nil (thenL_n (WC.ret (thenL_r (blockL_r (thenL_r ?_)))))
      obtain rfl := someI h
      exact ⟨_, rfl, rfl, ⟨S9, rfl, rfl, (Cov.cons rfl (Cov.nil _)), hot0⟩⟩
    · have h := iteF q6 h
      refine WC.skip (thenL_n (WC.seq (WC.seq (WC.region (WO.mv rfl ?_)))))
      refine WO.bin rfl rfl (by decide) (by decide) rfl ?_
      refine WO.nil (thenL_n ?_)
      refine WC.cond rfl (fun q11 => ?_) (fun q11 => ?_)
      · have h := iteT q11 h
        refine WC.seq (WC.region (WO.mv rfl (WO.mv rfl (WO.mv rfl (WO.mv rfl ?_)))))
        cases h
      · have h := iteF q11 h
        refine WC.skip (thenL_n (WC.seq (WC.seq (WC.region (WO.mv rfl ?_)))))
        refine WO.do rfl rfl ?_
        refine WO.nil (thenL_n ?_)
        obtain ⟨b13, e14, h⟩ := bindS h
        refine WC.mono (Q' := (fun b e l' m' n' => e = .normal ∧ ∃ S15 : Cx fl, S15.m = m' ∧ S15.n = n' ∧ Cov l' [(0, .sc vt0), (1, .sc (.int .i64 s1.1)), (2, .sc (.int .i64 s1.2.1)), (3, .sc (.int .i64 b.1)), (4, .sc (.fn 32 [])), (10, .sc (.bool s1.2.2.2.1)), (11, .sc (.bool s1.2.2.2.2.1)), (12, .sc (.int .i64 ((wrapA .i64 (s1.2.1 - s1.1)))))] ∧ Iw Y3 S15 2 n bw m vt0 b.2) b13) ?_ ?_
        · have h := e14
          dsimp only at h ⊢
          refine WC.cond rfl (fun q12 => ?_) (fun q12 => ?_)
          · have h := iteT q12 h
            refine WC.seq (WC.region (WO.mv rfl (WO.mv rfl (WO.mv rfl (WO.mv rfl ?_)))))
            cases h
          · have h := iteF q12 h
            refine WC.skip ?_
            obtain rfl := someI h
            exact ⟨rfl, ⟨S4, rfl, rfl, (Cov.cons rfl (Cov.cons rfl (Cov.cons rfl (Cov.cons rfl (Cov.cons rfl (Cov.cons rfl (Cov.cons rfl (Cov.cons rfl (Cov.nil _))))))))), hot0⟩⟩
        dsimp only
        rintro _ _ _ _ ⟨rfl, ⟨S16, rfl, rfl, hc17, hot0⟩⟩
        refine thenL_n (WC.cov hc17 (WC.seq (WC.region (WO.mv rfl (WO.mv rfl (WO.mv rfl (WO.mv rfl ?_)))))))
        cases h
  rintro _ _ _ _ ⟨rfl, ⟨S20, rfl, rfl, hc21, hot0⟩⟩
  refine blockL_r ?_
  obtain rfl := someI h
  exact ⟨.inr rfl, _, _, (resK_cov hc21 rfl), rfl, ⟨rfl, hot0.ip Lay.flat_fl⟩⟩
end Go.Proofs.Ytaphdnpjpmnaeaa

namespace Go.Proofs.Ytaphdnpjpmnaeaa
open Go.Am
theorem F31_32.fn : E.fn 31 = some ⟨14, (Try.f31.body.getD .skip), Try.f31.results.toList, []⟩ := rfl
theorem F31_32_ok {F : Nat} {m : Mem} {n : Nat} {r : (List Int)} {t0 : List Int} {vt0 : SV} {fl : Nat} {bw : Nat} (h : F31_32 F t0 = some r) (hfl : fl ≤ n) (kt0 : Iv Y3 fl n bw m vt0 t0) : Ret E fl 31 [.sc vt0, .sc (.fn 32 [])] m n (fun v m' n' => v = .tup [] ∧ Ip Y3 n bw m m' vt0 r) := by
  unfold F31_32 at h
  refine Ret.walk F31_32.fn ?_
  refine WC.startI (b := bw) hfl fun S0 em en hz hbw => ?_
  have hot0 := kt0.iw em en hz hbw
  refine WC.seq (WC.region (WO.mv rfl ?_))
  refine WO.lenS rfl hot0.slv rfl ?_
  refine WO.asg rfl (WO.nil (thenL_n (WC.region (WO.mv rfl (WO.mv rfl (WO.mv rfl ?_))))))
  refine WO.conv rfl rfl rfl rfl ?_
  obtain ⟨r1, e2, h⟩ := bindS h
  refine WO.callE (S := S0) rfl rfl (F29_ok e2) (fun S3 c4 => ?_)
  have hot0 := hot0.to c4
  refine WO.mv rfl ?_
  obtain ⟨r5, e6, h⟩ := bindS h
  refine WO.callW (S := S3) hot0 rfl rfl rfl (fun bq hI hB => F48_32_ok e6 S3.le hI) Lay.flat_fl (fun S7 c8 hot0 => ?_)
  refine WO.nil ?_
  obtain rfl := someI h
  exact ⟨.inl rfl, _, _, rfl, rfl, ⟨rfl, hot0.ip Lay.flat_fl⟩⟩
end Go.Proofs.Ytaphdnpjpmnaeaa

namespace Go.Proofs.Ytaphdnpjpmnaeaa
open Go.Am
theorem F18.fn : E.fn 18 = some ⟨43, (Try.f18.body.getD .skip), Try.f18.results.toList, []⟩ := rfl
theorem F18_ok {F : Nat} {m : Mem} {n : Nat} {r : (List Int) × Int} {t0 : List Int} {vt0 : SV} (h : F18 F t0 = some r) (kt0 : Vw Y3 n m vt0 t0) : Ret E n 18 [.sc vt0] m n (fun v m' n' => ∃ w, v = .tup [.sc w, .sc (.int .i64 r.2)] ∧ Fr Y3 n m' n' w r.1) := by
  unfold F18 at h
  refine Ret.walk F18.fn ?_
  refine WC.start fun S0 em en hz => ?_
  have hot0 := kt0.rdS em hz
  refine WC.seq (WC.region (WO.asg rfl (WO.asg rfl (WO.nil (thenL_n (WC.seq (WC.seq (WC.region (WO.mv rfl ?_)))))))))
  obtain ⟨r1, e2, h⟩ := bindS h
  refine WO.callE (S := S0) rfl rfl (F23_ok e2 hot0.vw) (fun S3 c4 => ?_)
  have hot0 := hot0.to c4
  refine WO.asg rfl (WO.nil (thenL_n (WC.seq (WC.region (WO.mv rfl ?_)))))
  refine WO.bin rfl rfl (by decide) (by decide) rfl ?_
  refine WO.nil (thenL_n ?_)
  refine WC.cond rfl (fun q5 => ?_) (fun q5 => ?_)
  · have h := iteT q5 h
    refine WC.seq (WC.region (WO.mv rfl (WO.asg rfl (WO.asg rfl (WO.nil (thenL_n (WC.ret (thenL_r ?_))))))))
    obtain rfl := someI h
    exact ⟨.inr rfl, _, _, rfl, rfl, ⟨.nils, rfl, Fr.nil⟩⟩
  · have h := iteF q5 h
    refine WC.skip (thenL_n (WC.seq (WC.region ?_)))
    refine WO.alS (A := Y54) (S := S3) (z0 := (List.replicate 10 false)) 2 rfl ⟨rfl, rfl⟩ rfl (fun v6 S7 c8 ho9 => ?_)
    have hot0 := hot0.to c8
    refine WO.nil (thenL_n (WC.seq (WC.region (WO.asg rfl (WO.nil (thenL_n (WC.seq (WC.seq (WC.region ?_)))))))))
    refine WO.mv rfl ?_
    refine WO.lenS rfl hot0.slv rfl ?_
    refine WO.mv rfl (WO.nil (thenL_n (WC.block ?_)))
    obtain ⟨b49, e50, h⟩ := bindS h
    refine WC.loopD e50 (fun s10 l' m' n' => ∃ S12 : Cx n, ∃ v13 : SV, S12.m = m' ∧ S12.n = n' ∧ Cov l' [(0, .sc vt0), (5, .sc v6), (6, .sc v13), (16, .sc (.int .i64 ((t0.length : Int)))), (17, .sc (.int .i64 s10.2.1))] ∧ Rd Y3 S12 vt0 t0 ∧ Bk Y54 S12 2 v6 s10.2.2 ∧ Ow Y3 S12 3 v13 s10.1) (fun b e l' m' n' => e = .exit 0 ∧ ∃ S14 : Cx n, ∃ v15 : SV, S14.m = m' ∧ S14.n = n' ∧ Cov l' [(6, .sc v15)] ∧ Ow Y3 S14 3 v15 b) (by exact ⟨S7, .nils, rfl, rfl, (Cov.cons rfl (Cov.cons rfl (Cov.cons rfl (Cov.cons rfl (Cov.cons rfl (Cov.nil _)))))), hot0, ho9, Ow.nil⟩) ?_ ?_
    · clear h
      rintro s10 q _ _ _ ⟨S16, v17, rfl, rfl, hc18, hot0, ho9, ho6⟩ h
      unfold F18_l1 at h
      refine WC.cov hc18 (WC.seq (WC.region ?_))
      refine WO.bin rfl rfl (by decide) (by decide) rfl ?_
      refine WO.nil (thenL_n (WC.seq ?_))
      refine WC.cond rfl (fun q19 => ?_) (fun q19 => ?_)
      · have h := iteT q19 h
        refine WC.skip (thenL_n (WC.seq (WC.block (WC.seq (WC.region (WO.mv rfl (WO.asg rfl (WO.nil (thenL_n ?_)))))))))
        refine WC.seq (WC.region (WO.asg rfl (WO.nil (thenL_n (WC.seq (WC.seq (WC.region (WO.mv rfl (WO.asg rfl ?_)))))))))
        refine WO.nil (thenL_n (WC.block ?_))
        obtain ⟨b34, e35, h⟩ := bindS h
        refine WC.loopD e35 (fun s20 l' m' n' => ∃ S21 : Cx n, S21.m = m' ∧ S21.n = n' ∧ Cov l' [(0, .sc vt0), (5, .sc v6), (6, .sc v17), (8, .sc (.int .i64 s20.1)), (9, .sc (.int .i64 s20.2.1)), (16, .sc (.int .i64 ((t0.length : Int)))), (17, .sc (.int .i64 s10.2.1))] ∧ Rd Y3 S21 vt0 t0 ∧ Bk Y54 S21 2 v6 s20.2.2 ∧ Ow Y3 S21 3 v17 s10.1) (fun b e l' m' n' => e = .exit 2 ∧ ∃ S22 : Cx n, S22.m = m' ∧ S22.n = n' ∧ Cov l' [(0, .sc vt0), (5, .sc v6), (6, .sc v17), (8, .sc (.int .i64 b.1)), (16, .sc (.int .i64 ((t0.length : Int)))), (17, .sc (.int .i64 s10.2.1))] ∧ Rd Y3 S22 vt0 t0 ∧ Bk Y54 S22 2 v6 b.2 ∧ Ow Y3 S22 3 v17 s10.1) (by exact ⟨S16, rfl, rfl, (Cov.cons rfl (Cov.cons rfl (Cov.cons rfl (Cov.cons rfl (Cov.cons rfl (Cov.cons rfl (Cov.cons rfl (Cov.nil _)))))))), hot0, ho9, ho6⟩) ?_ ?_
        · clear h
          rintro s20 q _ _ _ ⟨S23, rfl, rfl, hc24, hot0, ho9, ho6⟩ h
          unfold F18_l0 at h
          refine WC.cov hc24 (WC.seq (WC.seq (WC.region (WO.mv rfl ?_))))
          obtain ⟨x25, e26, h⟩ := bindS h
          refine WO.ixR rfl ho9 rfl (at?_lt e26) rfl ?_
          refine WO.ldR rfl rfl ho9 (at?_get e26) rfl rfl ?_
          refine WO.do rfl rfl ?_
          refine WO.nil (thenL_n ?_)
          refine WC.cond rfl (fun q27 => ?_) (fun q27 => ?_)
          · have h := iteT q27 h
            refine WC.skip (thenL_n (WC.seq (WC.block (WC.seq (WC.region (WO.mv rfl ?_))))))
            obtain ⟨u28, e29, h⟩ := bindS h
            refine WO.ixR rfl ho9 rfl (ck_some e29) rfl ?_
            refine WO.stR rfl rfl rfl ho9 (ck_nat e29) rfl rfl (fun S30 c31 ho9 => ?_)
            have hot0 := hot0.to c31
            have ho6 := ho6.to c31
            refine WO.nil (thenL_n (WC.region (WO.mv rfl ?_)))
            refine WO.bin rfl rfl (by decide) (by decide) rfl ?_
            refine WO.asg rfl (WO.nil (blockL_n (thenL_n (WC.region (WO.mv rfl (WO.mv rfl ?_))))))
            obtain ⟨x32, e33, h⟩ := bindS h
            refine WO.ixS rfl rfl hot0.slv (at?_lt e33) rfl ?_
            refine WO.ldF rfl hot0.ro (fun _ hi => hi) (at?_get e33) rfl rfl rfl ?_
            refine WO.asg rfl (WO.nil (thenL_n ?_))
            obtain rfl := someI h
            exact ⟨_, rfl, ⟨S30, rfl, rfl, (Cov.cons rfl (Cov.cons rfl (Cov.cons rfl (Cov.cons rfl (Cov.cons rfl (Cov.cons rfl (Cov.cons rfl (Cov.nil _)))))))), hot0, ho9, ho6⟩⟩
          · have h := iteF q27 h
            refine WC.exit (thenL_e (thenL_e ?_))
            obtain rfl := someI h
            exact ⟨_, rfl, rfl, ⟨S23, rfl, rfl, (Cov.cons rfl (Cov.cons rfl (Cov.cons rfl (Cov.cons rfl (Cov.cons rfl (Cov.cons rfl (Cov.nil _))))))), hot0, ho9, ho6⟩⟩
        rintro _ _ _ _ ⟨rfl, ⟨S36, rfl, rfl, hc37, hot0, ho9, ho6⟩⟩
        refine blockL_s (thenL_n (WC.cov hc37 (WC.seq (WC.region (WO.mv rfl ?_)))))
        refine WO.bin rfl rfl (by decide) (by decide) rfl ?_
        refine WO.nil (thenL_n ?_)
        refine WC.cond rfl (fun q38 => ?_) (fun q38 => ?_)
        · have h := iteT q38 h
          refine WC.region (WO.mv rfl (WO.mv rfl ?_))
          refine WO.bsS (A := Y3) (S := S36) (M := [b34.1]) (cs := [.int .i64 b34.1]) 4 rfl rfl rfl ⟨[.int .i64 b34.1], _, rfl, rfl, rfl⟩ rfl (fun v39 S40 c41 ho42 => ?_)
          have hot0 := hot0.to c41
          have ho9 := ho9.to c41
          have ho6 := ho6.to c41
          obtain ⟨L43, e44, h⟩ := bindS h
          refine WO.appS rfl rfl ho6 ho42.ro e44 rfl rfl (fun v45 S46 c47 ho48 => ?_)
          have hot0 := hot0.to c47
          have ho9 := ho9.to c47
          have ho42 := ho42.to c47
          refine WO.asg rfl (WO.nil (blockL_n (thenL_n (WC.region ?_))))
          refine WO.bin rfl rfl (by decide) (by decide) rfl ?_
          refine WO.mv rfl (WO.nil (thenL_n ?_))
          obtain rfl := someI h
          exact ⟨_, rfl, ⟨S46, v45, rfl, rfl, (Cov.cons rfl (Cov.cons rfl (Cov.cons rfl (Cov.cons rfl (Cov.cons rfl (Cov.nil _)))))), hot0, ho9, ho48⟩⟩
        · have h := iteF q38 h
          refine WC.skip (blockL_n (thenL_n (WC.region ?_)))
          refine WO.bin rfl rfl (by decide) (by decide) rfl ?_
          refine WO.mv rfl (WO.nil (thenL_n ?_))
          obtain rfl := someI h
          exact ⟨_, rfl, ⟨S36, v17, rfl, rfl, (Cov.cons rfl (Cov.cons rfl (Cov.cons rfl (Cov.cons rfl (Cov.cons rfl (Cov.nil _)))))), hot0, ho9, ho6⟩⟩
      · have h := iteF q19 h
        refine WC.exit (thenL_e (thenL_e ?_))
        obtain rfl := someI h
        exact ⟨_, rfl, rfl, ⟨S16, v17, rfl, rfl, (Cov.cons rfl (Cov.nil _)), ho6⟩⟩
    rintro _ _ _ _ ⟨rfl, ⟨S51, v52, rfl, rfl, hc53, ho6⟩⟩
    refine blockL_s (thenL_n (WC.cov hc53 (WC.seq (WC.region (WO.mv rfl ?_)))))
    obtain ⟨r54, e55, h⟩ := bindS h
    refine WO.callI (S := S51) ho6 rfl rfl (fun bq hI hB => F31_32_ok e55 S51.le hI) Lay.flat_fl (fun S56 c57 ho6 => ?_)
    refine WO.nil (thenL_n (WC.seq (WC.region (WO.mv rfl (WO.asg rfl (WO.asg rfl (WO.nil (thenL_n (WC.ret ?_)))))))))
    obtain rfl := someI h
    exact ⟨.inr rfl, _, _, rfl, rfl, ⟨v52, rfl, (ho6.fr Lay.flat_fl)⟩⟩
end Go.Proofs.Ytaphdnpjpmnaeaa

namespace Go.Proofs.Ytaphdnpjpmnaeaa
open Go.Am
theorem F5.fn : E.fn 5 = some ⟨58, (Try.f5.body.getD .skip), Try.f5.results.toList, []⟩ := rfl
theorem F5_ok {F : Nat} {m : Mem} {n : Nat} {r : Int × Int} {t0 : Int} {t1 : List (List Int)} {t2 : Int} {vt1 : SV} (h : F5 F t0 t1 t2 = some r) (kt1 : Vw Y23 n m vt1 t1) : Ret E n 5 [.sc (.int .i64 t0), .sc vt1, .sc (.int .i64 t2)] m n (fun v m' n' => v = .tup [.sc (.int .i64 r.1), .sc (.int .i64 r.2)]) := by
  unfold F5 at h
  refine Ret.walk F5.fn ?_
  refine WC.start fun S0 em en hz => ?_
  have hot1 := kt1.rdS em hz
  refine WC.seq (WC.region (WO.asg rfl (WO.asg rfl (WO.nil (thenL_n (WC.seq (WC.region (WO.mv rfl (WO.mv rfl ?_)))))))))
  obtain ⟨r1, e2, h⟩ := bindS h
  refine WO.callG (S := S0) [] [] rfl rfl (F4_ok (S0 := S0.mp []) e2 hot1.mp) (fun _ S5 S6 hb hR => ?_)
  obtain ⟨v3, rfl, hR0⟩ := hR
  have c7 : Ch 1 S0 S6 := hb.ch [] 1
  have hot1 := hot1.to c7
  have ho4 := hR0.bkS hb rfl
  refine WO.mv rfl ?_
  refine WO.do rfl rfl ?_
  refine WO.do rfl rfl ?_
  refine WO.asg rfl (WO.asg rfl (WO.nil (thenL_n (WC.seq (WC.seq (WC.region (WO.mv rfl ?_)))))))
  refine WO.bin rfl rfl (by decide) (by decide) rfl ?_
  refine WO.nil (thenL_n ?_)
  refine WC.cond rfl (fun q8 => ?_) (fun q8 => ?_)
  · have h := iteT q8 h
    refine WC.seq (WC.region (WO.mv rfl (WO.asg rfl (WO.asg rfl (WO.nil (thenL_n (WC.ret (thenL_r ?_))))))))
    obtain rfl := someI h
    exact ⟨.inr rfl, _, _, rfl, rfl, rfl⟩
  · have h := iteF q8 h
    refine WC.skip (thenL_n (WC.seq (WC.seq (WC.region (WO.mv rfl ?_)))))
    refine WO.bin rfl rfl (by decide) (by decide) rfl ?_
    refine WO.mv rfl ?_
    refine WO.cutB (d := 30) 3 ((decide (t2 < 0)) || (decide (t2 > 10))) (fun q9 => ?_) (fun q9 => ?_) ?_
    · refine WO.gno rfl rfl (WO.gno rfl rfl ?_)
      refine WO.pickT rfl rfl ?_
      refine WO.nil ?_
      exact ⟨rfl, rfl, (Cov.any rfl (orT q9) (Cov.skip rfl (Cov.skip rfl (Cov.skip rfl (Cov.skip rfl (Cov.refl _))))))⟩
    · skip
      refine WO.gyes rfl rfl (WO.mv rfl (WO.gyes rfl rfl ?_))
      refine WO.bin rfl rfl (by decide) (by decide) rfl ?_
      refine WO.pickF rfl rfl ?_
      refine WO.nil ?_
      exact ⟨rfl, rfl, (Cov.any rfl (orF q9) (Cov.skip rfl (Cov.skip rfl (Cov.skip rfl (Cov.skip rfl (Cov.refl _))))))⟩
    refine WO.nil (thenL_n ?_)
    refine WC.cond rfl (fun q10 => ?_) (fun q10 => ?_)
    · have h := iteT q10 h
      refine WC.seq (WC.region (WO.asg rfl (WO.asg rfl (WO.nil (thenL_n (WC.ret (thenL_r ?_)))))))
      obtain rfl := someI h
      exact ⟨.inr rfl, _, _, rfl, rfl, rfl⟩
    · have h := iteF q10 h
      refine WC.skip (thenL_n (WC.seq (WC.region (WO.asg rfl (WO.nil (thenL_n (WC.seq (WC.seq (WC.region ?_)))))))))
      refine WO.mv rfl ?_
      refine WO.lenS rfl ho4.slv rfl ?_
      refine WO.mv rfl (WO.nil (thenL_n (WC.block ?_)))
      obtain ⟨b37, e38, h⟩ := bindS h
      refine WC.loopD e38 (fun s11 l' m' n' => ∃ S12 : Cx n, S12.m = m' ∧ S12.n = n' ∧ Cov l' [(2, .sc (.int .i64 t2)), (8, .sc v3), (10, .sc (.int .i64 s11.1)), (31, .sc v3), (32, .sc (.int .i64 ((r1.1.length : Int)))), (33, .sc (.int .i64 s11.2))] ∧ Rd Y23 S12 v3 r1.1) (fun b e l' m' n' => e = .exit 0 ∧ ∃ S13 : Cx n, S13.m = m' ∧ S13.n = n' ∧ Cov l' [(8, .sc v3), (10, .sc (.int .i64 b))] ∧ Rd Y23 S13 v3 r1.1) (by exact ⟨S6, rfl, rfl, (Cov.cons rfl (Cov.cons rfl (Cov.cons rfl (Cov.cons rfl (Cov.cons rfl (Cov.cons rfl (Cov.nil _))))))), ho4⟩) ?_ ?_
      · clear h
        rintro s11 q _ _ _ ⟨S14, rfl, rfl, hc15, ho4⟩ h
        unfold F5_l1 at h
        refine WC.cov hc15 (WC.seq (WC.region ?_))
        refine WO.bin rfl rfl (by decide) (by decide) rfl ?_
        refine WO.nil (thenL_n (WC.seq ?_))
        refine WC.cond rfl (fun q16 => ?_) (fun q16 => ?_)
        · have h := iteT q16 h
          refine WC.skip (thenL_n (WC.seq (WC.block (WC.seq (WC.region ?_)))))
          obtain ⟨L17, e18, h⟩ := bindS h
          refine WO.ixS rfl rfl ho4.slv (at?_lt e18) rfl ?_
          refine WO.ldS rfl ho4.ro (fun _ hi => hi) (at?_get e18) rfl rfl (fun v19 ho20 => ?_)
          have ho20 : Rd Y3 S14 v19 L17 := ho20
          refine WO.asg rfl (WO.nil (thenL_n (WC.seq (WC.region (WO.mv rfl ?_)))))
          obtain ⟨r21, e22, h⟩ := bindS h
          refine WO.callF (S := S14) 2 rfl rfl (F18_ok e22 ho20.vw) Lay.flat_fl (fun v23 S25 c26 ho24 => ?_)
          have ho4 := ho4.to c26
          have ho20 := ho20.to c26
          refine WO.mv rfl ?_
          refine WO.do rfl rfl ?_
          refine WO.do rfl rfl ?_
          refine WO.asg rfl (WO.asg rfl (WO.nil (thenL_n (WC.seq (WC.region (WO.asg rfl (WO.nil (thenL_n (WC.seq ?_)))))))))
          refine WC.seq (WC.region (WO.mv rfl ?_))
          refine WO.lenS rfl ho24.slv rfl ?_
          refine WO.mv rfl (WO.nil (thenL_n (WC.block ?_)))
          obtain ⟨b33, e34, h⟩ := bindS h
          refine WC.loopD e34 (fun s27 l' m' n' => ∃ S28 : Cx n, S28.m = m' ∧ S28.n = n' ∧ Cov l' [(2, .sc (.int .i64 t2)), (8, .sc v3), (10, .sc (.int .i64 s11.1)), (15, .sc (.int .i64 s27.1)), (31, .sc v3), (32, .sc (.int .i64 ((r1.1.length : Int)))), (33, .sc (.int .i64 s11.2)), (43, .sc (.int .i64 ((r21.1.length : Int)))), (44, .sc (.int .i64 s27.2))] ∧ Rd Y23 S28 v3 r1.1) (fun b e l' m' n' => e = .exit 2 ∧ ∃ S29 : Cx n, S29.m = m' ∧ S29.n = n' ∧ Cov l' [(2, .sc (.int .i64 t2)), (8, .sc v3), (10, .sc (.int .i64 s11.1)), (15, .sc (.int .i64 b)), (31, .sc v3), (32, .sc (.int .i64 ((r1.1.length : Int)))), (33, .sc (.int .i64 s11.2))] ∧ Rd Y23 S29 v3 r1.1) (by exact ⟨S25, rfl, rfl, (Cov.cons rfl (Cov.cons rfl (Cov.cons rfl (Cov.cons rfl (Cov.cons rfl (Cov.cons rfl (Cov.cons rfl (Cov.cons rfl (Cov.cons rfl (Cov.nil _)))))))))), ho4⟩) ?_ ?_
          · clear h
            rintro s27 q _ _ _ ⟨S30, rfl, rfl, hc31, ho4⟩ h
            unfold F5_l0 at h
            refine WC.cov hc31 (WC.seq (WC.region ?_))
            refine WO.bin rfl rfl (by decide) (by decide) rfl ?_
            refine WO.nil (thenL_n (WC.seq ?_))
            refine WC.cond rfl (fun q32 => ?_) (fun q32 => ?_)
            · have h := iteT q32 h
              refine WC.skip (thenL_n (WC.seq (WC.block (WC.region (WO.mv rfl (WO.mv rfl ?_))))))
              refine WO.bin rfl rfl (by decide) (by decide) rfl ?_
              refine WO.asg rfl (WO.nil (blockL_n (thenL_n (WC.region ?_))))
              refine WO.bin rfl rfl (by decide) (by decide) rfl ?_
              refine WO.mv rfl (WO.nil (thenL_n ?_))
              obtain rfl := someI h
              exact ⟨_, rfl, ⟨S30, rfl, rfl, (Cov.cons rfl (Cov.cons rfl (Cov.cons rfl (Cov.cons rfl (Cov.cons rfl (Cov.cons rfl (Cov.cons rfl (Cov.cons rfl (Cov.cons rfl (Cov.nil _)))))))))), ho4⟩⟩
            · have h := iteF q32 h
              refine WC.exit (thenL_e (thenL_e ?_))
              obtain rfl := someI h
              exact ⟨_, rfl, rfl, ⟨S30, rfl, rfl, (Cov.cons rfl (Cov.cons rfl (Cov.cons rfl (Cov.cons rfl (Cov.cons rfl (Cov.cons rfl (Cov.cons rfl (Cov.nil _)))))))), ho4⟩⟩
          rintro _ _ _ _ ⟨rfl, ⟨S35, rfl, rfl, hc36, ho4⟩⟩
          refine blockL_s (thenL_n (WC.cov hc36 (WC.region (WO.mv rfl (WO.mv rfl ?_)))))
          refine WO.bin rfl rfl (by decide) (by decide) rfl ?_
          refine WO.asg rfl (WO.nil (blockL_n (thenL_n (WC.region ?_))))
          refine WO.bin rfl rfl (by decide) (by decide) rfl ?_
          refine WO.mv rfl (WO.nil (thenL_n ?_))
          obtain rfl := someI h
          exact ⟨_, rfl, ⟨S35, rfl, rfl, (Cov.cons rfl (Cov.cons rfl (Cov.cons rfl (Cov.cons rfl (Cov.cons rfl (Cov.cons rfl (Cov.nil _))))))), ho4⟩⟩
        · have h := iteF q16 h
          refine WC.exit (thenL_e (thenL_e ?_))
          obtain rfl := someI h
          exact ⟨_, rfl, rfl, ⟨S14, rfl, rfl, (Cov.cons rfl (Cov.cons rfl (Cov.nil _))), ho4⟩⟩
      rintro _ _ _ _ ⟨rfl, ⟨S39, rfl, rfl, hc40, ho4⟩⟩
      refine blockL_s (thenL_n (WC.cov hc40 (WC.seq (WC.region (WO.mv rfl (WO.mv rfl ?_))))))
      refine WO.lenS rfl ho4.slv rfl ?_
      obtain ⟨x41, e42, h⟩ := bindS h
      refine WO.quoD rfl rfl e42 ?_
      refine WO.asg rfl (WO.asg rfl (WO.nil (thenL_n (WC.ret ?_))))
      obtain rfl := someI h
      exact ⟨.inr rfl, _, _, rfl, rfl, rfl⟩
end Go.Proofs.Ytaphdnpjpmnaeaa

namespace Go.Proofs.Ytaphdnpjpmnaeaa
open Go.Am
theorem F19.fn : E.fn 19 = some ⟨8, (Try.f19.body.getD .skip), Try.f19.results.toList, []⟩ := rfl
theorem F19_ok {F : Nat} {m : Mem} {n : Nat} {r : (List Int)} {t0 : (List Int)} {vt0 : SV} (h : F19 F t0 = some r) (kt0 : Vw Y3 n m vt0 t0) : Ret E n 19 [.sc vt0] m n (fun v m' n' => ∃ w, v = .sc w ∧ Fr Y3 n m' n' w r) := by
  unfold F19 at h
  split at h
  · rename_i hq
    obtain rfl := someI h
    refine Ret.walk F19.fn ?_
    refine WC.start fun S0 em en hz => ?_
    have hR := kt0.rdS em hz
    rcases kt0 with ⟨hv | hv, rfl⟩ | ⟨i, o, c, cs, hv, _⟩
    · subst hv
      repeat (first | refine WC.seq ?_ | refine thenL_n ?_ | refine thenL_r ?_ | refine WC.region ?_ | refine WO.nil ?_ | refine WC.condT rfl ?_ | refine WC.condF rfl ?_ | refine WC.skip ?_ | refine WC.ret ?_ | refine WO.asg rfl ?_ | refine WO.mv rfl ?_)
      refine WO.do rfl rfl ?_
      repeat (first | refine WC.seq ?_ | refine thenL_n ?_ | refine thenL_r ?_ | refine WC.region ?_ | refine WO.nil ?_ | refine WC.condT rfl ?_ | refine WC.condF rfl ?_ | refine WC.skip ?_ | refine WC.ret ?_ | refine WO.asg rfl ?_ | refine WO.mv rfl ?_)
      exact ⟨.inr rfl, _, _, rfl, rfl, .nils, rfl, Fr.nil⟩
    all_goals
      subst hv
      repeat (first | refine WC.seq ?_ | refine thenL_n ?_ | refine thenL_r ?_ | refine WC.region ?_ | refine WO.nil ?_ | refine WC.condT rfl ?_ | refine WC.condF rfl ?_ | refine WC.skip ?_ | refine WC.ret ?_ | refine WO.asg rfl ?_ | refine WO.mv rfl ?_)
      refine WO.do rfl rfl ?_
      repeat (first | refine WC.seq ?_ | refine thenL_n ?_ | refine thenL_r ?_ | refine WC.region ?_ | refine WO.nil ?_ | refine WC.condT rfl ?_ | refine WC.condF rfl ?_ | refine WC.skip ?_ | refine WC.ret ?_ | refine WO.asg rfl ?_ | refine WO.mv rfl ?_)
      refine WO.bsS (A := Y3) (S := S0) (M := []) (cs := []) 2 rfl rfl rfl rfl rfl (fun v1 S1 c1 h1 => ?_)
      have hR := hR.to c1
      repeat (first | refine WC.seq ?_ | refine thenL_n ?_ | refine thenL_r ?_ | refine WC.region ?_ | refine WO.nil ?_ | refine WC.condT rfl ?_ | refine WC.condF rfl ?_ | refine WC.skip ?_ | refine WC.ret ?_ | refine WO.asg rfl ?_ | refine WO.mv rfl ?_)
      refine WO.appN rfl rfl h1 hR.ro hq (by decide) rfl rfl (fun v2 S2 c2 h2 => ?_)
      repeat (first | refine WC.seq ?_ | refine thenL_n ?_ | refine thenL_r ?_ | refine WC.region ?_ | refine WO.nil ?_ | refine WC.condT rfl ?_ | refine WC.condF rfl ?_ | refine WC.skip ?_ | refine WC.ret ?_ | refine WO.asg rfl ?_ | refine WO.mv rfl ?_)
      exact ⟨.inr rfl, _, _, rfl, rfl, _, rfl, h2.fr Lay.flat_fl⟩
  · cases h
end Go.Proofs.Ytaphdnpjpmnaeaa

namespace Go.Proofs.Ytaphdnpjpmnaeaa
open Go.Am
theorem F6.fn : E.fn 6 = some ⟨61, (Try.f6.body.getD .skip), Try.f6.results.toList, []⟩ := rfl
theorem F6_ok {F : Nat} {m : Mem} {n : Nat} {r : (List Int) × Int} {t0 : Int} {t1 : List (List Int)} {t2 : List Int} {vt1 : SV} {vt2 : SV} (h : F6 F t0 t1 t2 = some r) (kt1 : Vw Y23 n m vt1 t1) (kt2 : Vw Y3 n m vt2 t2) : Ret E n 6 [.sc (.int .i64 t0), .sc vt1, .sc vt2] m n (fun v m' n' => ∃ w, v = .tup [.sc w, .sc (.int .i64 r.2)] ∧ Fr Y3 n m' n' w r.1) := by
  unfold F6 at h
  refine Ret.walk F6.fn ?_
  refine WC.start fun S0 em en hz => ?_
  have hot1 := kt1.rdS em hz
  have hot2 := kt2.rdS em hz
  refine WC.seq (WC.region (WO.asg rfl (WO.asg rfl (WO.nil (thenL_n (WC.seq (WC.region (WO.mv rfl (WO.mv rfl ?_)))))))))
  obtain ⟨r1, e2, h⟩ := bindS h
  refine WO.callG (S := S0) [] [] rfl rfl (F4_ok (S0 := S0.mp []) e2 hot1.mp) (fun _ S5 S6 hb hR => ?_)
  obtain ⟨v3, rfl, hR0⟩ := hR
  have c7 : Ch 1 S0 S6 := hb.ch [] 1
  have hot1 := hot1.to c7
  have hot2 := hot2.to c7
  have ho4 := hR0.bkS hb rfl
  refine WO.mv rfl ?_
  refine WO.do rfl rfl ?_
  refine WO.do rfl rfl ?_
  refine WO.asg rfl (WO.asg rfl (WO.nil (thenL_n (WC.seq (WC.seq (WC.region (WO.mv rfl ?_)))))))
  refine WO.bin rfl rfl (by decide) (by decide) rfl ?_
  refine WO.nil (thenL_n ?_)
  refine WC.cond rfl (fun q8 => ?_) (fun q8 => ?_)
  · have h := iteT q8 h
    refine WC.seq (WC.region (WO.mv rfl (WO.asg rfl (WO.asg rfl (WO.nil (thenL_n (WC.ret (thenL_r ?_))))))))
    obtain rfl := someI h
    exact ⟨.inr rfl, _, _, rfl, rfl, ⟨.nils, rfl, Fr.nil⟩⟩
  · have h := iteF q8 h
    refine WC.skip (thenL_n (WC.seq (WC.seq (WC.region (WO.mv rfl ?_)))))
    refine WO.lenS rfl hot2.slv rfl ?_
    refine WO.mv rfl ?_
    refine WO.bin rfl rfl (by decide) (by decide) rfl ?_
    refine WO.nil (thenL_n ?_)
    refine WC.cond rfl (fun q9 => ?_) (fun q9 => ?_)
    · have h := iteT q9 h
      refine WC.seq (WC.region (WO.asg rfl (WO.asg rfl (WO.nil (thenL_n (WC.ret (thenL_r ?_)))))))
      obtain rfl := someI h
      exact ⟨.inr rfl, _, _, rfl, rfl, ⟨.nils, rfl, Fr.nil⟩⟩
    · have h := iteF q9 h
      refine WC.skip (thenL_n (WC.seq (WC.region (WO.mv rfl ?_))))
      obtain ⟨r10, e11, h⟩ := bindS h
      refine WO.callF (S := S6) 2 rfl rfl (F19_ok e11 hot2.vw) Lay.flat_fl (fun v12 S14 c15 ho13 => ?_)
      have hot1 := hot1.to c15
      have hot2 := hot2.to c15
      have ho4 := ho4.to c15
      refine WO.asg rfl (WO.nil (thenL_n (WC.seq (WC.seq (WC.region (WO.mv rfl ?_))))))
      refine WO.lenS rfl ho4.slv rfl ?_
      refine WO.mv rfl (WO.nil (thenL_n (WC.block ?_)))
      obtain ⟨b59, e60, h⟩ := bindS h
      refine WC.loopD e60 (fun s16 l' m' n' => ∃ S18 : Cx n, ∃ v19 : SV, S18.m = m' ∧ S18.n = n' ∧ Cov l' [(0, .sc (.int .i64 t0)), (2, .sc vt2), (10, .sc v19), (31, .sc v3), (32, .sc (.int .i64 ((r1.1.length : Int)))), (33, .sc (.int .i64 s16.2))] ∧ Rd Y3 S18 vt2 t2 ∧ Rd Y23 S18 v3 r1.1 ∧ Ow Y3 S18 2 v19 s16.1) (fun b e l' m' n' => e = .exit 0 ∧ ∃ S20 : Cx n, ∃ v21 : SV, S20.m = m' ∧ S20.n = n' ∧ Cov l' [(10, .sc v21)] ∧ Ow Y3 S20 2 v21 b) (by exact ⟨S14, v12, rfl, rfl, (Cov.cons rfl (Cov.cons rfl (Cov.cons rfl (Cov.cons rfl (Cov.cons rfl (Cov.cons rfl (Cov.nil _))))))), hot2, ho4, ho13⟩) ?_ ?_
      · clear h
        rintro s16 q _ _ _ ⟨S22, v23, rfl, rfl, hc24, hot2, ho4, ho10⟩ h
        unfold F6_l1 at h
        refine WC.cov hc24 (WC.seq (WC.region ?_))
        refine WO.bin rfl rfl (by decide) (by decide) rfl ?_
        refine WO.nil (thenL_n (WC.seq ?_))
        refine WC.cond rfl (fun q25 => ?_) (fun q25 => ?_)
        · have h := iteT q25 h
          refine WC.skip (thenL_n (WC.seq (WC.block (WC.seq (WC.region ?_)))))
          obtain ⟨L26, e27, h⟩ := bindS h
          refine WO.ixS rfl rfl ho4.slv (at?_lt e27) rfl ?_
          refine WO.ldS rfl ho4.ro (fun _ hi => hi) (at?_get e27) rfl rfl (fun v28 ho29 => ?_)
          have ho29 : Rd Y3 S22 v28 L26 := ho29
          refine WO.asg rfl (WO.nil (thenL_n (WC.seq (WC.region (WO.mv rfl ?_)))))
          obtain ⟨L30, e31, h⟩ := bindS h
          refine WO.mkS (A := Y3) (S := S22) 3 rfl rfl e31 rfl rfl rfl (fun v32 S33 c34 ho35 => ?_)
          have hot2 := hot2.to c34
          have ho4 := ho4.to c34
          have ho10 := ho10.to c34
          have ho29 := ho29.to c34
          refine WO.asg rfl (WO.nil (thenL_n (WC.seq (WC.seq (WC.region (WO.mv rfl ?_))))))
          refine WO.lenS rfl ho29.slv rfl ?_
          refine WO.mv rfl (WO.nil (thenL_n (WC.block ?_)))
          obtain ⟨b50, e51, h⟩ := bindS h
          refine WC.loopD e51 (fun s36 l' m' n' => ∃ S37 : Cx n, S37.m = m' ∧ S37.n = n' ∧ Cov l' [(0, .sc (.int .i64 t0)), (2, .sc vt2), (10, .sc v23), (13, .sc v32), (31, .sc v3), (32, .sc (.int .i64 ((r1.1.length : Int)))), (33, .sc (.int .i64 s16.2)), (39, .sc v28), (40, .sc (.int .i64 ((L26.length : Int)))), (41, .sc (.int .i64 s36.1))] ∧ Rd Y3 S37 vt2 t2 ∧ Ow Y3 S37 2 v23 s16.1 ∧ Ow Y3 S37 3 v32 s36.2 ∧ Rd Y23 S37 v3 r1.1 ∧ Rd Y3 S37 v28 L26) (fun b e l' m' n' => e = .exit 2 ∧ ∃ S38 : Cx n, S38.m = m' ∧ S38.n = n' ∧ Cov l' [(0, .sc (.int .i64 t0)), (2, .sc vt2), (10, .sc v23), (13, .sc v32), (31, .sc v3), (32, .sc (.int .i64 ((r1.1.length : Int)))), (33, .sc (.int .i64 s16.2))] ∧ Rd Y3 S38 vt2 t2 ∧ Ow Y3 S38 2 v23 s16.1 ∧ Ow Y3 S38 3 v32 b ∧ Rd Y23 S38 v3 r1.1) (by exact ⟨S33, rfl, rfl, (Cov.cons rfl (Cov.cons rfl (Cov.cons rfl (Cov.cons rfl (Cov.cons rfl (Cov.cons rfl (Cov.cons rfl (Cov.cons rfl (Cov.cons rfl (Cov.cons rfl (Cov.nil _))))))))))), hot2, ho10, ho35, ho4, ho29⟩) ?_ ?_
          · clear h
            rintro s36 q _ _ _ ⟨S39, rfl, rfl, hc40, hot2, ho10, ho35, ho4, ho29⟩ h
            unfold F6_l0 at h
            refine WC.cov hc40 (WC.seq (WC.region ?_))
            refine WO.bin rfl rfl (by decide) (by decide) rfl ?_
            refine WO.nil (thenL_n (WC.seq ?_))
            refine WC.cond rfl (fun q41 => ?_) (fun q41 => ?_)
            · have h := iteT q41 h
              refine WC.skip (thenL_n (WC.seq (WC.block (WC.seq (WC.region (WO.mv rfl ?_))))))
              obtain ⟨x42, e43, h⟩ := bindS h
              refine WO.ixS rfl rfl ho29.slv (at?_lt e43) rfl ?_
              refine WO.ldF rfl ho29.ro (fun _ hi => hi) (at?_get e43) rfl rfl rfl ?_
              refine WO.asg rfl (WO.asg rfl (WO.nil (thenL_n (WC.region (WO.mv rfl (WO.mv rfl (WO.mv rfl (WO.mv rfl ?_))))))))
              obtain ⟨x44, e45, h⟩ := bindS h
              refine WO.ixS rfl rfl hot2.slv (at?_lt e45) rfl ?_
              refine WO.ldF rfl hot2.ro (fun _ hi => hi) (at?_get e45) rfl rfl rfl ?_
              obtain ⟨u46, e47, h⟩ := bindS h
              refine WO.ixS rfl rfl ho35.slv (ck_some e47) rfl ?_
              refine WO.st1 (u' := x44) rfl rfl ho35 (ck_nat e47) rfl rfl (fun S48 c49 ho35 => ?_)
              have hot2 := hot2.to c49
              have ho10 := ho10.to c49
              have ho4 := ho4.to c49
              have ho29 := ho29.to c49
              refine WO.nil (blockL_n (thenL_n (WC.region ?_)))
              refine WO.bin rfl rfl (by decide) (by decide) rfl ?_
              refine WO.mv rfl (WO.nil (thenL_n ?_))
              obtain rfl := someI h
              exact ⟨_, rfl, ⟨S48, rfl, rfl, (Cov.cons rfl (Cov.cons rfl (Cov.cons rfl (Cov.cons rfl (Cov.cons rfl (Cov.cons rfl (Cov.cons rfl (Cov.cons rfl (Cov.cons rfl (Cov.cons rfl (Cov.nil _))))))))))), hot2, ho10, ho35, ho4, ho29⟩⟩
            · have h := iteF q41 h
              refine WC.exit (thenL_e (thenL_e ?_))
              obtain rfl := someI h
              exact ⟨_, rfl, rfl, ⟨S39, rfl, rfl, (Cov.cons rfl (Cov.cons rfl (Cov.cons rfl (Cov.cons rfl (Cov.cons rfl (Cov.cons rfl (Cov.cons rfl (Cov.nil _)))))))), hot2, ho10, ho35, ho4⟩⟩
          rintro _ _ _ _ ⟨rfl, ⟨S52, rfl, rfl, hc53, hot2, ho10, ho35, ho4⟩⟩
          refine blockL_s (thenL_n (WC.cov hc53 (WC.seq (WC.region (WO.mv rfl (WO.mv rfl ?_))))))
          obtain ⟨r54, e55, h⟩ := bindS h
          refine WO.callE (S := S52) rfl rfl (F17_ok e55 ho35.vw ho10.vw) (fun S56 c57 => ?_)
          have hot2 := hot2.to c57
          have ho10 := ho10.to c57
          have ho35 := ho35.to c57
          have ho4 := ho4.to c57
          refine WO.bin rfl rfl (by decide) (by decide) rfl ?_
          refine WO.nil (thenL_n ?_)
          refine WC.cond rfl (fun q58 => ?_) (fun q58 => ?_)
          · have h := iteT q58 h
            refine WC.region (WO.mv rfl (WO.asg rfl (WO.nil (blockL_n (thenL_n (WC.region ?_))))))
            refine WO.bin rfl rfl (by decide) (by decide) rfl ?_
            refine WO.mv rfl (WO.nil (thenL_n ?_))
            have hot2 := hot2.ren 3 2
            have ho35 := ho35.ren (j := 2)
            have ho4 := ho4.ren 3 2
            obtain rfl := someI h
            exact ⟨_, rfl, ⟨(S56.ren 3 2), v32, rfl, rfl, (Cov.cons rfl (Cov.cons rfl (Cov.cons rfl (Cov.cons rfl (Cov.cons rfl (Cov.cons rfl (Cov.nil _))))))), hot2, ho4, ho35⟩⟩
          · have h := iteF q58 h
            refine WC.skip (blockL_n (thenL_n (WC.region ?_)))
            refine WO.bin rfl rfl (by decide) (by decide) rfl ?_
            refine WO.mv rfl (WO.nil (thenL_n ?_))
            obtain rfl := someI h
            exact ⟨_, rfl, ⟨S56, v23, rfl, rfl, (Cov.cons rfl (Cov.cons rfl (Cov.cons rfl (Cov.cons rfl (Cov.cons rfl (Cov.cons rfl (Cov.nil _))))))), hot2, ho4, ho10⟩⟩
        · have h := iteF q25 h
          refine WC.exit (thenL_e (thenL_e ?_))
          obtain rfl := someI h
          exact ⟨_, rfl, rfl, ⟨S22, v23, rfl, rfl, (Cov.cons rfl (Cov.nil _)), ho10⟩⟩
      rintro _ _ _ _ ⟨rfl, ⟨S61, v62, rfl, rfl, hc63, ho10⟩⟩
      refine blockL_s (thenL_n (WC.cov hc63 (WC.seq (WC.region (WO.mv rfl (WO.asg rfl (WO.asg rfl (WO.nil (thenL_n ?_)))))))))
      refine WC.ret ?_
      obtain rfl := someI h
      exact ⟨.inr rfl, _, _, rfl, rfl, ⟨v62, rfl, (ho10.fr Lay.flat_fl)⟩⟩
end Go.Proofs.Ytaphdnpjpmnaeaa

namespace Go.Proofs.Ytaphdnpjpmnaeaa
open Go.Am
theorem F49.fn : E.fn 49 = some ⟨19, (Try.f49.body.getD .skip), Try.f49.results.toList, []⟩ := rfl
theorem F49_ok {F : Nat} {m : Mem} {n : Nat} {r : Int} {t0 : List Int} {t1 : Int} {vt0 : SV} (h : F49 F t0 t1 = some r) (kt0 : Vw Y3 n m vt0 t0) : Ret E n 49 [.sc vt0, .sc (.int .i64 t1)] m n (fun v m' n' => v = .sc (.int .i64 r)) := by
  unfold F49 at h
  refine Ret.walk F49.fn ?_
  refine WC.start fun S0 em en hz => ?_
  have hot0 := kt0.rdS em hz
  refine WC.seq (WC.region (WO.asg rfl (WO.nil (thenL_n (WC.seq (WC.seq (WC.region (WO.mv rfl ?_))))))))
  refine WO.lenS rfl hot0.slv rfl ?_
  refine WO.mv rfl (WO.nil (thenL_n (WC.block ?_)))
  obtain ⟨b12, e13, h⟩ := bindS h
  refine WC.loopD e13 (fun s1 l' m' n' => ∃ S2 : Cx n, S2.m = m' ∧ S2.n = n' ∧ Cov l' [(0, .sc vt0), (1, .sc (.int .i64 t1)), (7, .sc (.int .i64 ((t0.length : Int)))), (8, .sc (.int .i64 s1))] ∧ Rd Y3 S2 vt0 t0) (fun b e l' m' n' => (match b with | .inl b3 => e = .exit 0 ∧ ∃ S4 : Cx n, S4.m = m' ∧ S4.n = n' ∧ Cov l' [] | .inr b3 => e = .ret ∧ ∃ S5 : Cx n, S5.m = m' ∧ S5.n = n' ∧ Cov l' [(4, .sc (.int .i64 b3))])) (by exact ⟨S0, rfl, rfl, (Cov.cons rfl (Cov.cons rfl (Cov.cons rfl (Cov.cons rfl (Cov.nil _))))), hot0⟩) ?_ ?_
  · clear h
    rintro s1 q _ _ _ ⟨S6, rfl, rfl, hc7, hot0⟩ h
    unfold F49_l0 at h
    refine WC.cov hc7 (WC.seq (WC.region ?_))
    refine WO.bin rfl rfl (by decide) (by decide) rfl ?_
    refine WO.nil (thenL_n (WC.seq ?_))
    refine WC.cond rfl (fun q8 => ?_) (fun q8 => ?_)
    · have h := iteT q8 h
      refine WC.skip (thenL_n (WC.seq (WC.block (WC.seq (WC.region (WO.mv rfl (WO.asg rfl (WO.nil (thenL_n ?_)))))))))
      refine WC.seq (WC.region (WO.mv rfl (WO.mv rfl (WO.mv rfl ?_))))
      obtain ⟨x9, e10, h⟩ := bindS h
      refine WO.ixS rfl rfl hot0.slv (at?_lt e10) rfl ?_
      refine WO.ldF rfl hot0.ro (fun _ hi => hi) (at?_get e10) rfl rfl rfl ?_
      refine WO.bin rfl rfl (by decide) (by decide) rfl ?_
      refine WO.nil (thenL_n ?_)
      refine WC.cond rfl (fun q11 => ?_) (fun q11 => ?_)
      · have h := iteT q11 h
        refine WC.seq (WC.region (WO.mv rfl (WO.asg rfl (WO.nil (thenL_n (WC.ret (blockL_r (thenL_r (thenL_r ?_)))))))))
        obtain rfl := someI h
        exact ⟨_, rfl, rfl, ⟨S6, rfl, rfl, (Cov.cons rfl (Cov.nil _))⟩⟩
      · have h := iteF q11 h
        refine WC.skip (blockL_n (thenL_n (WC.region ?_)))
        refine WO.bin rfl rfl (by decide) (by decide) rfl ?_
        refine WO.mv rfl (WO.nil (thenL_n ?_))
        obtain rfl := someI h
        exact ⟨_, rfl, ⟨S6, rfl, rfl, (Cov.cons rfl (Cov.cons rfl (Cov.cons rfl (Cov.cons rfl (Cov.nil _))))), hot0⟩⟩
    · have h := iteF q8 h
      refine WC.exit (thenL_e (thenL_e ?_))
      obtain rfl := someI h
      exact ⟨_, rfl, rfl, ⟨S6, rfl, rfl, (Cov.nil _)⟩⟩
  cases b12 with
  | inl b14 =>
    simp only at h
    rintro _ _ _ _ ⟨rfl, ⟨S15, rfl, rfl, hc16⟩⟩
    refine blockL_s (thenL_n (WC.cov hc16 (WC.seq (WC.region (WO.asg rfl (WO.nil (thenL_n (WC.ret ?_))))))))
    obtain rfl := someI h
    exact ⟨.inr rfl, _, _, rfl, rfl, rfl⟩
  | inr b14 =>
    simp only at h
    rintro _ _ _ _ ⟨rfl, ⟨S17, rfl, rfl, hc18⟩⟩
    refine blockL_r (thenL_r ?_)
    obtain rfl := someI h
    exact ⟨.inr rfl, _, _, (resK_cov hc18 rfl), rfl, rfl⟩
end Go.Proofs.Ytaphdnpjpmnaeaa

namespace Go.Proofs.Ytaphdnpjpmnaeaa
open Go.Am
theorem F34.fn : E.fn 34 = some ⟨9, (Try.f34.body.getD .skip), Try.f34.results.toList, []⟩ := rfl
theorem F34_ok {F : Nat} {m : Mem} {n : Nat} {r : Bool} {t0 : List Int} {t1 : Int} {vt0 : SV} (h : F34 F t0 t1 = some r) (kt0 : Vw Y3 n m vt0 t0) : Ret E n 34 [.sc vt0, .sc (.int .i64 t1)] m n (fun v m' n' => v = .sc (.bool r)) := by
  unfold F34 at h
  refine Ret.walk F34.fn ?_
  refine WC.start fun S0 em en hz => ?_
  have hot0 := kt0.rdS em hz
  refine WC.seq (WC.region (WO.asg rfl (WO.nil (thenL_n (WC.seq (WC.region (WO.mv rfl (WO.mv rfl ?_))))))))
  obtain ⟨r1, e2, h⟩ := bindS h
  refine WO.callE (S := S0) rfl rfl (F49_ok e2 hot0.vw) (fun S3 c4 => ?_)
  have hot0 := hot0.to c4
  refine WO.bin rfl rfl (by decide) (by decide) rfl ?_
  refine WO.asg rfl (WO.nil (thenL_n (WC.ret ?_)))
  obtain rfl := someI h
  exact ⟨.inr rfl, _, _, rfl, rfl, rfl⟩
end Go.Proofs.Ytaphdnpjpmnaeaa

namespace Go.Proofs.Ytaphdnpjpmnaeaa
open Go.Am
theorem F22.fn : E.fn 22 = some ⟨17, (Try.f22.body.getD .skip), Try.f22.results.toList, []⟩ := rfl
theorem F22_ok {F : Nat} {m : Mem} {n : Nat} {r : Int} {t0 : List Int} {vt0 : SV} (h : F22 F t0 = some r) (kt0 : Vw Y3 n m vt0 t0) : Ret E n 22 [.sc vt0] m n (fun v m' n' => v = .sc (.int .i64 r)) := by
  unfold F22 at h
  refine Ret.walk F22.fn ?_
  refine WC.start fun S0 em en hz => ?_
  have hot0 := kt0.rdS em hz
  refine WC.seq (WC.region (WO.asg rfl (WO.nil (thenL_n (WC.seq (WC.seq (WC.region (WO.mv rfl ?_))))))))
  refine WO.lenS rfl hot0.slv rfl ?_
  refine WO.bin rfl rfl (by decide) (by decide) rfl ?_
  refine WO.nil (thenL_n ?_)
  refine WC.cond rfl (fun q1 => ?_) (fun q1 => ?_)
  · have h := iteT q1 h
    refine WC.seq (WC.region (WO.asg rfl (WO.nil (thenL_n (WC.ret (thenL_r ?_))))))
    obtain rfl := someI h
    exact ⟨.inr rfl, _, _, rfl, rfl, rfl⟩
  · have h := iteF q1 h
    refine WC.skip (thenL_n (WC.seq (WC.seq (WC.region (WO.mv rfl ?_)))))
    refine WO.lenS rfl hot0.slv rfl ?_
    refine WO.mv rfl (WO.nil (thenL_n (WC.block ?_)))
    obtain ⟨b15, e16, h⟩ := bindS h
    refine WC.loopD e16 (fun s2 l' m' n' => ∃ S3 : Cx n, S3.m = m' ∧ S3.n = n' ∧ Cov l' [(0, .sc vt0), (8, .sc (.int .i64 ((t0.length : Int)))), (9, .sc (.int .i64 s2))] ∧ Rd Y3 S3 vt0 t0) (fun b e l' m' n' => (match b with | .inl b4 => e = .exit 0 ∧ ∃ S5 : Cx n, S5.m = m' ∧ S5.n = n' ∧ Cov l' [] | .inr b4 => e = .ret ∧ ∃ S6 : Cx n, S6.m = m' ∧ S6.n = n' ∧ Cov l' [(2, .sc (.int .i64 b4))])) (by exact ⟨S0, rfl, rfl, (Cov.cons rfl (Cov.cons rfl (Cov.cons rfl (Cov.nil _)))), hot0⟩) ?_ ?_
    · clear h
      rintro s2 q _ _ _ ⟨S7, rfl, rfl, hc8, hot0⟩ h
      unfold F22_l0 at h
      refine WC.cov hc8 (WC.seq (WC.region ?_))
      refine WO.bin rfl rfl (by decide) (by decide) rfl ?_
      refine WO.nil (thenL_n (WC.seq ?_))
      refine WC.cond rfl (fun q9 => ?_) (fun q9 => ?_)
      · have h := iteT q9 h
        refine WC.skip (thenL_n (WC.seq (WC.block (WC.seq (WC.region (WO.mv rfl (WO.asg rfl (WO.nil (thenL_n ?_)))))))))
        refine WC.seq (WC.region (WO.mv rfl (WO.mv rfl ?_)))
        obtain ⟨r10, e11, h⟩ := bindS h
        refine WO.callE (S := S7) rfl rfl (F34_ok e11 hot0.vw) (fun S12 c13 => ?_)
        have hot0 := hot0.to c13
        refine WO.do rfl rfl ?_
        refine WO.nil (thenL_n ?_)
        refine WC.cond rfl (fun q14 => ?_) (fun q14 => ?_)
        · have h := iteT q14 h
          refine WC.seq (WC.region (WO.asg rfl (WO.nil (thenL_n (WC.ret (blockL_r (thenL_r (thenL_r ?_))))))))
          obtain rfl := someI h
          exact ⟨_, rfl, rfl, ⟨S12, rfl, rfl, (Cov.cons rfl (Cov.nil _))⟩⟩
        · have h := iteF q14 h
          refine WC.skip (blockL_n (thenL_n (WC.region ?_)))
          refine WO.bin rfl rfl (by decide) (by decide) rfl ?_
          refine WO.mv rfl (WO.nil (thenL_n ?_))
          obtain rfl := someI h
          exact ⟨_, rfl, ⟨S12, rfl, rfl, (Cov.cons rfl (Cov.cons rfl (Cov.cons rfl (Cov.nil _)))), hot0⟩⟩
      · have h := iteF q9 h
        refine WC.exit (thenL_e (thenL_e ?_))
        obtain rfl := someI h
        exact ⟨_, rfl, rfl, ⟨S7, rfl, rfl, (Cov.nil _)⟩⟩
    cases b15 with
    | inl b17 =>
      simp only at h
      rintro _ _ _ _ ⟨rfl, ⟨S18, rfl, rfl, hc19⟩⟩
      refine blockL_s (thenL_n (WC.cov hc19 (WC.seq (WC.region (WO.asg rfl (WO.nil (thenL_n (WC.ret ?_))))))))
      obtain rfl := someI h
      exact ⟨.inr rfl, _, _, rfl, rfl, rfl⟩
    | inr b17 =>
      simp only at h
      rintro _ _ _ _ ⟨rfl, ⟨S20, rfl, rfl, hc21⟩⟩
      refine blockL_r (thenL_r ?_)
      obtain rfl := someI h
      exact ⟨.inr rfl, _, _, (resK_cov hc21 rfl), rfl, rfl⟩
end Go.Proofs.Ytaphdnpjpmnaeaa

namespace Go.Proofs.Ytaphdnpjpmnaeaa
open Go.Am
theorem F21.fn : E.fn 21 = some ⟨13, (Try.f21.body.getD .skip), Try.f21.results.toList, []⟩ := rfl
theorem F21_ok {F : Nat} {m : Mem} {n : Nat} {r : Bool} {t0 : List Int} {c0 : Int} {vt0 : SV} {bc0 : Nat} (h : F21 F t0 c0 = some r) (kt0 : Vw Y3 n m vt0 t0) (kc0 : Pv Y3 n m bc0 c0) : Ret E n 21 [.sc vt0, .sc (.ptr bc0 0)] m n (fun v m' n' => v = .sc (.bool r)) := by
  unfold F21 at h
  refine Ret.walk F21.fn ?_
  refine WC.start fun S0 em en hz => ?_
  have hot0 := kt0.rdS em hz
  have hoc0 := kc0.rpS em hz
  refine WC.seq (WC.region (WO.asg rfl (WO.nil (thenL_n (WC.seq (WC.region (WO.mv rfl ?_)))))))
  refine WO.lenS rfl hot0.slv rfl ?_
  refine WO.ldP rfl hoc0 rfl rfl rfl ?_
  refine WO.bin rfl rfl (by decide) (by decide) rfl ?_
  refine WO.mv rfl ?_
  obtain ⟨y6, e7, h⟩ := bindS h
  refine WO.cutS (d := 12) (S := S0) 4 y6 (fun q5 => ?_) (fun q5 => ?_) (fun S8 c9 => ?_)
  · have h := e7
    have h := iteT q5 h
    obtain rfl := someI h
    refine WO.gno rfl rfl (WO.gno rfl rfl (WO.gno rfl rfl ?_))
    refine WO.pickT rfl rfl ?_
    refine WO.nil ?_
    exact ⟨S0, rfl, rfl, Ch.refl _ _, (Cov.cons rfl (Cov.skip rfl (Cov.skip rfl (Cov.skip rfl (Cov.skip rfl (Cov.skip rfl (Cov.refl _)))))))⟩
  · have h := e7
    have h := iteF q5 h
    refine WO.gyes rfl rfl (WO.mv rfl (WO.gyes rfl rfl ?_))
    obtain ⟨r1, e2, h⟩ := bindS h
    refine WO.callE (S := S0) rfl rfl (F22_ok e2 hot0.vw) (fun S3 c4 => ?_)
    have hot0 := hot0.to c4
    have hoc0 := hoc0.to c4
    refine WO.gyes rfl rfl ?_
    refine WO.bin rfl rfl (by decide) (by decide) rfl ?_
    obtain rfl := someI h
    refine WO.pickF rfl rfl ?_
    refine WO.nil ?_
    exact ⟨S3, rfl, rfl, c4, (Cov.cons rfl (Cov.skip rfl (Cov.skip rfl (Cov.skip rfl (Cov.skip rfl (Cov.skip rfl (Cov.refl _)))))))⟩
  have hot0 := hot0.to c9
  have hoc0 := hoc0.to c9
  refine WO.asg rfl (WO.nil (thenL_n (WC.ret ?_)))
  obtain rfl := someI h
  exact ⟨.inr rfl, _, _, rfl, rfl, rfl⟩
end Go.Proofs.Ytaphdnpjpmnaeaa

namespace Go.Proofs.Ytaphdnpjpmnaeaa
open Go.Am
theorem F33_21.fn : E.fn 33 = some ⟨19, (Try.f33.body.getD .skip), Try.f33.results.toList, []⟩ := rfl
theorem F33_21_ok {F : Nat} {m : Mem} {n : Nat} {r : Int} {t0 : List (List Int)} {t1c0 : Int} {vt0 : SV} {bt1c0 : Nat} (h : F33_21 F t0 t1c0 = some r) (kt0 : Vw Y23 n m vt0 t0) (kt1c0 : Pv Y3 n m bt1c0 t1c0) : Ret E n 33 [.sc vt0, .sc (.fn 21 [(bt1c0, 0)])] m n (fun v m' n' => v = .sc (.int .i64 r)) := by
  unfold F33_21 at h
  refine Ret.walk F33_21.fn ?_
  refine WC.start fun S0 em en hz => ?_
  have hot0 := kt0.rdS em hz
  have hot1c0 := kt1c0.rpS em hz
  refine WC.seq (WC.region (WO.asg rfl (WO.nil (thenL_n (WC.seq (WC.seq (WC.region (WO.mv rfl ?_))))))))
  refine WO.lenS rfl hot0.slv rfl ?_
  refine WO.mv rfl (WO.nil (thenL_n (WC.block ?_)))
  obtain ⟨b18, e19, h⟩ := bindS h
  refine WC.loopD e19 (fun s1 l' m' n' => ∃ S2 : Cx n, S2.m = m' ∧ S2.n = n' ∧ Cov l' [(0, .sc vt0), (1, .sc (.fn 21 [(bt1c0, 0)])), (7, .sc (.int .i64 ((t0.length : Int)))), (8, .sc (.int .i64 s1))] ∧ Rd Y23 S2 vt0 t0 ∧ Rp Y3 S2 (.ptr bt1c0 0) t1c0) (fun b e l' m' n' => (match b with | .inl b3 => e = .exit 0 ∧ ∃ S4 : Cx n, S4.m = m' ∧ S4.n = n' ∧ Cov l' [] | .inr b3 => e = .ret ∧ ∃ S5 : Cx n, S5.m = m' ∧ S5.n = n' ∧ Cov l' [(4, .sc (.int .i64 b3))])) (by exact ⟨S0, rfl, rfl, (Cov.cons rfl (Cov.cons rfl (Cov.cons rfl (Cov.cons rfl (Cov.nil _))))), hot0, hot1c0⟩) ?_ ?_
  · clear h
    rintro s1 q _ _ _ ⟨S6, rfl, rfl, hc7, hot0, hot1c0⟩ h
    unfold F33_21_l0 at h
    refine WC.cov hc7 (WC.seq (WC.region ?_))
    refine WO.bin rfl rfl (by decide) (by decide) rfl ?_
    refine WO.nil (thenL_n (WC.seq ?_))
    refine WC.cond rfl (fun q8 => ?_) (fun q8 => ?_)
    · have h := iteT q8 h
      refine WC.skip (thenL_n (WC.seq (WC.block (WC.seq (WC.region (WO.mv rfl (WO.asg rfl (WO.nil (thenL_n ?_)))))))))
      refine WC.seq (WC.region (WO.mv rfl (WO.mv rfl (WO.mv rfl ?_))))
      obtain ⟨L9, e10, h⟩ := bindS h
      refine WO.ixS rfl rfl hot0.slv (at?_lt e10) rfl ?_
      refine WO.ldS rfl hot0.ro (fun _ hi => hi) (at?_get e10) rfl rfl (fun v11 ho12 => ?_)
      have ho12 : Rd Y3 S6 v11 L9 := ho12
      obtain ⟨r13, e14, h⟩ := bindS h
      refine WO.callE (S := S6) rfl rfl (F21_ok e14 ho12.vw hot1c0.pv) (fun S15 c16 => ?_)
      have hot0 := hot0.to c16
      have hot1c0 := hot1c0.to c16
      have ho12 := ho12.to c16
      refine WO.nil (thenL_n ?_)
      refine WC.cond rfl (fun q17 => ?_) (fun q17 => ?_)
      · have h := iteT q17 h
        refine WC.seq (WC.region (WO.mv rfl (WO.asg rfl (WO.nil (thenL_n (WC.ret (blockL_r (thenL_r (thenL_r ?_)))))))))
        obtain rfl := someI h
        exact ⟨_, rfl, rfl, ⟨S15, rfl, rfl, (Cov.cons rfl (Cov.nil _))⟩⟩
      · have h := iteF q17 h
        refine WC.skip (blockL_n (thenL_n (WC.region ?_)))
        refine WO.bin rfl rfl (by decide) (by decide) rfl ?_
        refine WO.mv rfl (WO.nil (thenL_n ?_))
        obtain rfl := someI h
        exact ⟨_, rfl, ⟨S15, rfl, rfl, (Cov.cons rfl (Cov.cons rfl (Cov.cons rfl (Cov.cons rfl (Cov.nil _))))), hot0, hot1c0⟩⟩
    · have h := iteF q8 h
      refine WC.exit (thenL_e (thenL_e ?_))
      obtain rfl := someI h
      exact ⟨_, rfl, rfl, ⟨S6, rfl, rfl, (Cov.nil _)⟩⟩
  cases b18 with
  | inl b20 =>
    simp only at h
    rintro _ _ _ _ ⟨rfl, ⟨S21, rfl, rfl, hc22⟩⟩
    refine blockL_s (thenL_n (WC.cov hc22 (WC.seq (WC.region (WO.asg rfl (WO.nil (thenL_n (WC.ret ?_))))))))
    obtain rfl := someI h
    exact ⟨.inr rfl, _, _, rfl, rfl, rfl⟩
  | inr b20 =>
    simp only at h
    rintro _ _ _ _ ⟨rfl, ⟨S23, rfl, rfl, hc24⟩⟩
    refine blockL_r (thenL_r ?_)
    obtain rfl := someI h
    exact ⟨.inr rfl, _, _, (resK_cov hc24 rfl), rfl, rfl⟩
end Go.Proofs.Ytaphdnpjpmnaeaa

namespace Go.Proofs.Ytaphdnpjpmnaeaa
open Go.Am
theorem F20_21.fn : E.fn 20 = some ⟨9, (Try.f20.body.getD .skip), Try.f20.results.toList, []⟩ := rfl
theorem F20_21_ok {F : Nat} {m : Mem} {n : Nat} {r : Bool} {t0 : List (List Int)} {t1c0 : Int} {vt0 : SV} {bt1c0 : Nat} (h : F20_21 F t0 t1c0 = some r) (kt0 : Vw Y23 n m vt0 t0) (kt1c0 : Pv Y3 n m bt1c0 t1c0) : Ret E n 20 [.sc vt0, .sc (.fn 21 [(bt1c0, 0)])] m n (fun v m' n' => v = .sc (.bool r)) := by
  unfold F20_21 at h
  refine Ret.walk F20_21.fn ?_
  refine WC.start fun S0 em en hz => ?_
  have hot0 := kt0.rdS em hz
  have hot1c0 := kt1c0.rpS em hz
  refine WC.seq (WC.region (WO.asg rfl (WO.nil (thenL_n (WC.seq (WC.region (WO.mv rfl (WO.mv rfl ?_))))))))
  obtain ⟨r1, e2, h⟩ := bindS h
  refine WO.callE (S := S0) rfl rfl (F33_21_ok e2 hot0.vw hot1c0.pv) (fun S3 c4 => ?_)
  have hot0 := hot0.to c4
  have hot1c0 := hot1c0.to c4
  refine WO.bin rfl rfl (by decide) (by decide) rfl ?_
  refine WO.asg rfl (WO.nil (thenL_n (WC.ret ?_)))
  obtain rfl := someI h
  exact ⟨.inr rfl, _, _, rfl, rfl, rfl⟩
end Go.Proofs.Ytaphdnpjpmnaeaa

namespace Go.Proofs.Ytaphdnpjpmnaeaa
open Go.Am
theorem F7.fn : E.fn 7 = some ⟨17, (Try.f7.body.getD .skip), Try.f7.results.toList, []⟩ := rfl
theorem F7_ok {F : Nat} {m : Mem} {n : Nat} {r : Int} {t0 : Int} {t1 : List (List Int)} {vt1 : SV} (h : F7 F t0 t1 = some r) (kt1 : Vw Y23 n m vt1 t1) : Ret E n 7 [.sc (.int .i64 t0), .sc vt1] m n (fun v m' n' => v = .sc (.int .i64 r)) := by
  unfold F7 at h
  refine Ret.walk F7.fn ?_
  refine WC.start fun S0 em en hz => ?_
  have hot1 := kt1.rdS em hz
  refine WC.seq (WC.region ?_)
  refine WO.bxS (A := Y3) (S := S0) (u := t0) 2 rfl rfl rfl rfl (fun v1 S2 c3 ho4 => ?_)
  have hot1 := hot1.to c3
  refine WO.asg rfl (WO.nil (thenL_n (WC.seq (WC.seq (WC.region ?_)))))
  refine WO.ldB (j := 0) (q := 0) rfl ho4.at0 ho4 rfl rfl rfl ?_
  refine WO.bin rfl rfl (by decide) (by decide) rfl ?_
  refine WO.mv rfl ?_
  refine WO.cutB (d := 10) 3 ((decide (t0 < 0)) || (decide (t0 > 6))) (fun q5 => ?_) (fun q5 => ?_) ?_
  · refine WO.gno rfl rfl (WO.gno rfl rfl ?_)
    refine WO.pickT rfl rfl ?_
    refine WO.nil ?_
    exact ⟨rfl, rfl, (Cov.any rfl (orT q5) (Cov.skip rfl (Cov.skip rfl (Cov.skip rfl (Cov.skip rfl (Cov.refl _))))))⟩
  · skip
    refine WO.gyes rfl rfl ?_
    refine WO.ldB (j := 0) (q := 0) rfl ho4.at0 ho4 rfl rfl rfl ?_
    refine WO.gyes rfl rfl ?_
    refine WO.bin rfl rfl (by decide) (by decide) rfl ?_
    refine WO.pickF rfl rfl ?_
    refine WO.nil ?_
    exact ⟨rfl, rfl, (Cov.any rfl (orF q5) (Cov.skip rfl (Cov.skip rfl (Cov.skip rfl (Cov.skip rfl (Cov.refl _))))))⟩
  refine WO.nil (thenL_n ?_)
  refine WC.cond rfl (fun q6 => ?_) (fun q6 => ?_)
  · have h := iteT q6 h
    refine WC.seq (WC.region (WO.asg rfl (WO.nil (thenL_n (WC.ret (thenL_r ?_))))))
    obtain rfl := someI h
    exact ⟨.inr rfl, _, _, rfl, rfl, rfl⟩
  · have h := iteF q6 h
    refine WC.skip (thenL_n (WC.seq (WC.seq (WC.region (WO.mv rfl ?_)))))
    refine WO.lenS rfl hot1.slv rfl ?_
    refine WO.bin rfl rfl (by decide) (by decide) rfl ?_
    refine WO.nil (thenL_n ?_)
    refine WC.cond rfl (fun q7 => ?_) (fun q7 => ?_)
    · have h := iteT q7 h
      refine WC.seq (WC.region (WO.asg rfl (WO.nil (thenL_n (WC.ret (thenL_r ?_))))))
      obtain rfl := someI h
      exact ⟨.inr rfl, _, _, rfl, rfl, rfl⟩
    · have h := iteF q7 h
      refine WC.skip (thenL_n (WC.seq (WC.seq (WC.region (WO.mv rfl ?_)))))
      obtain ⟨b8, rfl⟩ := ho4.isp
      refine WO.do rfl rfl ?_
      obtain ⟨r9, e10, h⟩ := bindS h
      refine WO.callE (S := S2) rfl rfl (F20_21_ok e10 hot1.vw ho4.pv) (fun S11 c12 => ?_)
      have hot1 := hot1.to c12
      have ho4 := ho4.to c12
      refine WO.nil (thenL_n ?_)
      refine WC.cond rfl (fun q13 => ?_) (fun q13 => ?_)
      · have h := iteT q13 h
        refine WC.seq (WC.region (WO.asg rfl (WO.nil (thenL_n (WC.ret (thenL_r ?_))))))
        obtain rfl := someI h
        exact ⟨.inr rfl, _, _, rfl, rfl, rfl⟩
      · have h := iteF q13 h
        refine WC.skip (thenL_n (WC.seq (WC.region (WO.asg rfl (WO.nil (thenL_n (WC.ret ?_)))))))
        obtain rfl := someI h
        exact ⟨.inr rfl, _, _, rfl, rfl, rfl⟩
end Go.Proofs.Ytaphdnpjpmnaeaa

namespace Go.Proofs.Ytaphdnpjpmnaeaa
open Go.Am
theorem F24.fn : E.fn 24 = some ⟨23, (Try.f24.body.getD .skip), Try.f24.results.toList, []⟩ := rfl
theorem F24_ok {F : Nat} {m : Mem} {n : Nat} {r : (List Int)} {t0 : List Int} {t1 : List Int} {vt0 : SV} {vt1 : SV} (h : F24 F t0 t1 = some r) (kt0 : Vw Y3 n m vt0 t0) (kt1 : Vw Y3 n m vt1 t1) : Ret E n 24 [.sc vt0, .sc vt1] m n (fun v m' n' => ∃ w, v = .sc w ∧ Fr Y3 n m' n' w r) := by
  unfold F24 at h
  refine Ret.walk F24.fn ?_
  refine WC.start fun S0 em en hz => ?_
  have hot0 := kt0.rdS em hz
  have hot1 := kt1.rdS em hz
  refine WC.seq (WC.region (WO.asg rfl (WO.nil (thenL_n (WC.seq (WC.region (WO.asg rfl (WO.nil (thenL_n ?_)))))))))
  refine WC.seq (WC.seq (WC.region (WO.mv rfl ?_)))
  refine WO.lenS rfl hot1.slv rfl ?_
  refine WO.mv rfl (WO.nil (thenL_n (WC.block ?_)))
  obtain ⟨b25, e26, h⟩ := bindS h
  refine WC.loopD e26 (fun s1 l' m' n' => ∃ S3 : Cx n, ∃ v4 : SV, S3.m = m' ∧ S3.n = n' ∧ Cov l' [(0, .sc vt0), (5, .sc v4), (8, .sc vt1), (9, .sc (.int .i64 ((t1.length : Int)))), (10, .sc (.int .i64 s1.2))] ∧ Rd Y3 S3 vt0 t0 ∧ Rd Y3 S3 vt1 t1 ∧ Ow Y3 S3 2 v4 s1.1) (fun b e l' m' n' => e = .exit 0 ∧ ∃ S5 : Cx n, ∃ v6 : SV, S5.m = m' ∧ S5.n = n' ∧ Cov l' [(5, .sc v6)] ∧ Ow Y3 S5 2 v6 b) (by exact ⟨S0, .nils, rfl, rfl, (Cov.cons rfl (Cov.cons rfl (Cov.cons rfl (Cov.cons rfl (Cov.cons rfl (Cov.nil _)))))), hot0, hot1, Ow.nil⟩) ?_ ?_
  · clear h
    rintro s1 q _ _ _ ⟨S7, v8, rfl, rfl, hc9, hot0, hot1, ho5⟩ h
    unfold F24_l0 at h
    refine WC.cov hc9 (WC.seq (WC.region ?_))
    refine WO.bin rfl rfl (by decide) (by decide) rfl ?_
    refine WO.nil (thenL_n (WC.seq ?_))
    refine WC.cond rfl (fun q10 => ?_) (fun q10 => ?_)
    · have h := iteT q10 h
      refine WC.skip (thenL_n (WC.seq (WC.block (WC.seq (WC.region ?_)))))
      obtain ⟨x11, e12, h⟩ := bindS h
      refine WO.ixS rfl rfl hot1.slv (at?_lt e12) rfl ?_
      refine WO.ldF rfl hot1.ro (fun _ hi => hi) (at?_get e12) rfl rfl rfl ?_
      refine WO.asg rfl (WO.nil (thenL_n (WC.region (WO.mv rfl (WO.mv rfl (WO.mv rfl ?_))))))
      obtain ⟨x13, e14, h⟩ := bindS h
      refine WO.ixS rfl rfl hot0.slv (at?_lt e14) rfl ?_
      refine WO.ldF rfl hot0.ro (fun _ hi => hi) (at?_get e14) rfl rfl rfl ?_
      refine WO.bsS (A := Y3) (S := S7) (M := [x13]) (cs := [.int .i64 x13]) 3 rfl rfl rfl ⟨[.int .i64 x13], _, rfl, rfl, rfl⟩ rfl (fun v15 S16 c17 ho18 => ?_)
      have hot0 := hot0.to c17
      have hot1 := hot1.to c17
      have ho5 := ho5.to c17
      obtain ⟨L19, e20, h⟩ := bindS h
      refine WO.appS rfl rfl ho5 ho18.ro e20 rfl rfl (fun v21 S22 c23 ho24 => ?_)
      have hot0 := hot0.to c23
      have hot1 := hot1.to c23
      have ho18 := ho18.to c23
      refine WO.asg rfl (WO.nil (blockL_n (thenL_n (WC.region ?_))))
      refine WO.bin rfl rfl (by decide) (by decide) rfl ?_
      refine WO.mv rfl (WO.nil (thenL_n ?_))
      obtain rfl := someI h
      exact ⟨_, rfl, ⟨S22, v21, rfl, rfl, (Cov.cons rfl (Cov.cons rfl (Cov.cons rfl (Cov.cons rfl (Cov.cons rfl (Cov.nil _)))))), hot0, hot1, ho24⟩⟩
    · have h := iteF q10 h
      refine WC.exit (thenL_e (thenL_e ?_))
      obtain rfl := someI h
      exact ⟨_, rfl, rfl, ⟨S7, v8, rfl, rfl, (Cov.cons rfl (Cov.nil _)), ho5⟩⟩
  rintro _ _ _ _ ⟨rfl, ⟨S27, v28, rfl, rfl, hc29, ho5⟩⟩
  refine blockL_s (thenL_n (WC.cov hc29 (WC.seq (WC.region (WO.mv rfl (WO.asg rfl (WO.nil (thenL_n (WC.ret ?_)))))))))
  obtain rfl := someI h
  exact ⟨.inr rfl, _, _, rfl, rfl, ⟨v28, rfl, (ho5.fr Lay.flat_fl)⟩⟩
end Go.Proofs.Ytaphdnpjpmnaeaa

namespace Go.Proofs.Ytaphdnpjpmnaeaa
open Go.Am
theorem F10.fn : E.fn 10 = some ⟨26, (Try.f10.body.getD .skip), Try.f10.results.toList, []⟩ := rfl
theorem F10_ok {F : Nat} {m : Mem} {n : Nat} {r : Bool} {t0 : List Int} {t1 : List Int} {vt0 : SV} {vt1 : SV} (h : F10 F t0 t1 = some r) (kt0 : Vw Y3 n m vt0 t0) (kt1 : Vw Y3 n m vt1 t1) : Ret E n 10 [.sc vt0, .sc vt1] m n (fun v m' n' => v = .sc (.bool r)) := by
  unfold F10 at h
  refine Ret.walk F10.fn ?_
  refine WC.start fun S0 em en hz => ?_
  have hot0 := kt0.rdS em hz
  have hot1 := kt1.rdS em hz
  refine WC.seq (WC.region (WO.asg rfl (WO.nil (thenL_n (WC.seq (WC.seq (WC.region (WO.mv rfl ?_))))))))
  refine WO.lenS rfl hot0.slv rfl ?_
  refine WO.mv rfl ?_
  refine WO.lenS rfl hot1.slv rfl ?_
  refine WO.bin rfl rfl (by decide) (by decide) rfl ?_
  refine WO.nil (thenL_n ?_)
  refine WC.cond rfl (fun q1 => ?_) (fun q1 => ?_)
  · have h := iteT q1 h
    refine WC.seq (WC.region (WO.asg rfl (WO.nil (thenL_n (WC.ret (thenL_r ?_))))))
    obtain rfl := someI h
    exact ⟨.inr rfl, _, _, rfl, rfl, rfl⟩
  · have h := iteF q1 h
    refine WC.skip (thenL_n (WC.seq (WC.seq (WC.region (WO.mv rfl ?_)))))
    refine WO.lenS rfl hot0.slv rfl ?_
    refine WO.mv rfl (WO.nil (thenL_n (WC.block ?_)))
    obtain ⟨b15, e16, h⟩ := bindS h
    refine WC.loopD e16 (fun s2 l' m' n' => ∃ S3 : Cx n, S3.m = m' ∧ S3.n = n' ∧ Cov l' [(0, .sc vt0), (1, .sc vt1), (12, .sc (.int .i64 ((t0.length : Int)))), (13, .sc (.int .i64 s2))] ∧ Rd Y3 S3 vt0 t0 ∧ Rd Y3 S3 vt1 t1) (fun b e l' m' n' => (match b with | .inl b4 => e = .exit 0 ∧ ∃ S5 : Cx n, S5.m = m' ∧ S5.n = n' ∧ Cov l' [] | .inr b4 => e = .ret ∧ ∃ S6 : Cx n, S6.m = m' ∧ S6.n = n' ∧ Cov l' [(4, .sc (.bool b4))])) (by exact ⟨S0, rfl, rfl, (Cov.cons rfl (Cov.cons rfl (Cov.cons rfl (Cov.cons rfl (Cov.nil _))))), hot0, hot1⟩) ?_ ?_
    · clear h
      rintro s2 q _ _ _ ⟨S7, rfl, rfl, hc8, hot0, hot1⟩ h
      unfold F10_l0 at h
      refine WC.cov hc8 (WC.seq (WC.region ?_))
      refine WO.bin rfl rfl (by decide) (by decide) rfl ?_
      refine WO.nil (thenL_n (WC.seq ?_))
      refine WC.cond rfl (fun q9 => ?_) (fun q9 => ?_)
      · have h := iteT q9 h
        refine WC.skip (thenL_n (WC.seq (WC.block (WC.seq (WC.region (WO.mv rfl (WO.asg rfl (WO.nil (thenL_n ?_)))))))))
        refine WC.seq ?_
        refine WC.drawP rfl rfl ?_
        refine WO.mv rfl (WO.mv rfl ?_)
        obtain ⟨x10, e11, h⟩ := bindS h
        refine WO.ixS rfl rfl hot0.slv (at?_lt e11) rfl ?_
        refine WO.ldF rfl hot0.ro (fun _ hi => hi) (at?_get e11) rfl rfl (limLe_self _) ?_
        refine WO.mv rfl (WO.mv rfl ?_)
        obtain ⟨x12, e13, h⟩ := bindS h
        refine WO.ixS rfl rfl hot1.slv (at?_lt e13) rfl ?_
        refine WO.ldF rfl hot1.ro (fun _ hi => hi) (at?_get e13) rfl rfl (limLe_self _) ?_
        refine WO.bin rfl rfl (by decide) (by decide) rfl ?_
        refine WO.nil (thenL_n ?_)
        refine WC.cond rfl (fun q14 => ?_) (fun q14 => ?_)
        · have h := iteT q14 h
          refine WC.seq (WC.region (WO.asg rfl (WO.nil (thenL_n (WC.ret (blockL_r (thenL_r (thenL_r ?_))))))))
          obtain rfl := someI h
          exact ⟨_, rfl, rfl, ⟨S7, rfl, rfl, (Cov.cons rfl (Cov.nil _))⟩⟩
        · have h := iteF q14 h
          refine WC.skip (blockL_n (thenL_n (WC.region ?_)))
          refine WO.bin rfl rfl (by decide) (by decide) rfl ?_
          refine WO.mv rfl (WO.nil (thenL_n ?_))
          obtain rfl := someI h
          exact ⟨_, rfl, ⟨S7, rfl, rfl, (Cov.cons rfl (Cov.cons rfl (Cov.cons rfl (Cov.cons rfl (Cov.nil _))))), hot0, hot1⟩⟩
      · have h := iteF q9 h
        refine WC.exit (thenL_e (thenL_e ?_))
        obtain rfl := someI h
        exact ⟨_, rfl, rfl, ⟨S7, rfl, rfl, (Cov.nil _)⟩⟩
    cases b15 with
    | inl b17 =>
      simp only at h
      rintro _ _ _ _ ⟨rfl, ⟨S18, rfl, rfl, hc19⟩⟩
      refine blockL_s (thenL_n (WC.cov hc19 (WC.seq (WC.region (WO.asg rfl (WO.nil (thenL_n (WC.ret ?_))))))))
      obtain rfl := someI h
      exact ⟨.inr rfl, _, _, rfl, rfl, rfl⟩
    | inr b17 =>
      simp only at h
      rintro _ _ _ _ ⟨rfl, ⟨S20, rfl, rfl, hc21⟩⟩
      refine blockL_r (thenL_r ?_)
      obtain rfl := someI h
      exact ⟨.inr rfl, _, _, (resK_cov hc21 rfl), rfl, rfl⟩
end Go.Proofs.Ytaphdnpjpmnaeaa

namespace Go.Proofs.Ytaphdnpjpmnaeaa
open Go.Am
theorem F25_10.fn : E.fn 25 = some ⟨66, (Try.f25.body.getD .skip), Try.f25.results.toList, []⟩ := rfl
theorem F25_10_ok {F : Nat} {fl : Nat} {S0 : Cx fl} {r : (List (List Int))} {t0 : (List (List Int))} {vt0 : SV} (h : F25_10 F t0 = some r) (kt0 : Ow Y23 S0 2 vt0 t0) : Ret E fl 25 [.sc vt0, .sc (.fn 10 [])] S0.m S0.n (fun v m' n' => ∃ S' : Cx fl, S'.m = m' ∧ S'.n = n' ∧ ChM S0 S' ∧ (∃ w1 : SV, v = .sc w1 ∧ Ow Y23 S' 902 w1 r)) := by
  unfold F25_10 at h
  replace h : compF? (fun x p => F10 F x p) t0 = some r ∧ t0.length ≤ 1152921504606846976 := by split at h; exact ⟨h, by assumption⟩; cases h
  obtain ⟨h, hbd⟩ := h
  have hM := ChM.refl S0
  refine Ret.walk F25_10.fn ?_
  repeat (first | refine WC.seq ?_ | refine thenL_n ?_ | refine thenL_r ?_ | refine thenL_e ?_ | refine WC.region ?_ | refine WO.nil ?_ | refine WC.skip ?_ | refine WC.ret ?_ | refine WO.asg rfl ?_ | refine WO.mv rfl ?_ | refine WC.block ?_ | refine WC.exit ?_ | refine blockL_s ?_ | refine blockL_r ?_ | refine blockL_n ?_ | refine blockL_e rfl ?_)
  refine WO.lenS rfl kt0.slv rfl ?_
  refine WO.bin rfl rfl (by decide) (by decide) rfl ?_
  repeat (first | refine WC.seq ?_ | refine thenL_n ?_ | refine thenL_r ?_ | refine thenL_e ?_ | refine WC.region ?_ | refine WO.nil ?_ | refine WC.skip ?_ | refine WC.ret ?_ | refine WO.asg rfl ?_ | refine WO.mv rfl ?_ | refine WC.block ?_ | refine WC.exit ?_ | refine blockL_s ?_ | refine blockL_r ?_ | refine blockL_n ?_ | refine blockL_e rfl ?_)
  refine WC.cond rfl (fun q => ?_) (fun q => ?_)
  · repeat (first | refine WC.seq ?_ | refine thenL_n ?_ | refine thenL_r ?_ | refine thenL_e ?_ | refine WC.region ?_ | refine WO.nil ?_ | refine WC.skip ?_ | refine WC.ret ?_ | refine WO.asg rfl ?_ | refine WO.mv rfl ?_ | refine WC.block ?_ | refine WC.exit ?_ | refine blockL_s ?_ | refine blockL_r ?_ | refine blockL_n ?_ | refine blockL_e rfl ?_)
    have e := compF?_short h (by have := of_decide_eq_true q; omega)
    subst e
    exact ⟨.inr rfl, _, _, rfl, rfl, S0.ren 2 902, rfl, rfl, hM.renO 2 902, _, rfl, kt0.ren 902⟩
  · have hlen : 2 ≤ t0.length := by have := of_decide_eq_false q; omega
    obtain ⟨_, hD⟩ := DD.start h (by omega)
    obtain ⟨b, c, e, hc, hfl⟩ := kt0.hdr (by omega)
    subst e
    repeat (first | refine WC.seq ?_ | refine thenL_n ?_ | refine thenL_r ?_ | refine thenL_e ?_ | refine WC.region ?_ | refine WO.nil ?_ | refine WC.skip ?_ | refine WC.ret ?_ | refine WO.asg rfl ?_ | refine WO.mv rfl ?_ | refine WC.block ?_ | refine WC.exit ?_ | refine blockL_s ?_ | refine blockL_r ?_ | refine blockL_n ?_ | refine blockL_e rfl ?_)
    refine WC.loop (ι := Nat) (fun k => [(0, .sc (.sl b 0 t0.length c 1)), (1, .sc (.fn 10 [])), (5, .sc (.int .i64 (k : Int)))]) (fun k m n => ∃ S : Cx fl, S.m = m ∧ S.n = n ∧ ChM S0 S ∧ Ow Y23 S 2 (.sl b 0 t0.length c 1) t0 ∧ 1 ≤ k ∧ k ≤ t0.length ∧ DD (fun x p => F10 F x p) t0 r t0 k k) (fun k => t0.length - k) 1 (Cov.cons rfl (Cov.cons rfl (Cov.cons rfl (Cov.nil _)))) ⟨S0, rfl, rfl, hM, kt0, by omega, by omega, hD⟩ ?_
    rintro k _ _ ⟨S, rfl, rfl, hM, kt, hk1, hk2, hD⟩ _
    repeat (first | refine WC.seq ?_ | refine thenL_n ?_ | refine thenL_r ?_ | refine thenL_e ?_ | refine WC.region ?_ | refine WO.nil ?_ | refine WC.skip ?_ | refine WC.ret ?_ | refine WO.asg rfl ?_ | refine WO.mv rfl ?_ | refine WC.block ?_ | refine WC.exit ?_ | refine blockL_s ?_ | refine blockL_r ?_ | refine blockL_n ?_ | refine blockL_e rfl ?_)
    refine WO.lenS rfl kt.slv rfl ?_
    refine WO.bin rfl rfl (by decide) (by decide) rfl ?_
    repeat (first | refine WC.seq ?_ | refine thenL_n ?_ | refine thenL_r ?_ | refine thenL_e ?_ | refine WC.region ?_ | refine WO.nil ?_ | refine WC.skip ?_ | refine WC.ret ?_ | refine WO.asg rfl ?_ | refine WO.mv rfl ?_ | refine WC.block ?_ | refine WC.exit ?_ | refine blockL_s ?_ | refine blockL_r ?_ | refine blockL_n ?_ | refine blockL_e rfl ?_)
    refine WC.cond rfl (fun q => ?_) (fun q => ?_)
    · have hk : k < t0.length := by have := of_decide_eq_true q; omega
      obtain ⟨x, p, q2, hx, hp, e4, hT, hF⟩ := hD.step hk
      repeat (first | refine WC.seq ?_ | refine thenL_n ?_ | refine thenL_r ?_ | refine thenL_e ?_ | refine WC.region ?_ | refine WO.nil ?_ | refine WC.skip ?_ | refine WC.ret ?_ | refine WO.asg rfl ?_ | refine WO.mv rfl ?_ | refine WC.block ?_ | refine WC.exit ?_ | refine blockL_s ?_ | refine blockL_r ?_ | refine blockL_n ?_ | refine blockL_e rfl ?_)
      refine WC.drawN rfl rfl ?_
      repeat (first | refine WC.seq ?_ | refine thenL_n ?_ | refine thenL_r ?_ | refine thenL_e ?_ | refine WC.region ?_ | refine WO.nil ?_ | refine WC.skip ?_ | refine WC.ret ?_ | refine WO.asg rfl ?_ | refine WO.mv rfl ?_ | refine WC.block ?_ | refine WC.exit ?_ | refine blockL_s ?_ | refine blockL_r ?_ | refine blockL_n ?_ | refine blockL_e rfl ?_)
      refine WO.ixK rfl rfl (by omega) (by omega) rfl ?_
      rw [Nat.zero_add]
      refine WO.ldK rfl rfl kt hx rfl (limLe_self _) (fun s1 r1 => ?_)
      repeat (first | refine WC.seq ?_ | refine thenL_n ?_ | refine thenL_r ?_ | refine thenL_e ?_ | refine WC.region ?_ | refine WO.nil ?_ | refine WC.skip ?_ | refine WC.ret ?_ | refine WO.asg rfl ?_ | refine WO.mv rfl ?_ | refine WC.block ?_ | refine WC.exit ?_ | refine blockL_s ?_ | refine blockL_r ?_ | refine blockL_n ?_ | refine blockL_e rfl ?_)
      refine WO.bin rfl rfl (by decide) (by decide) rfl ?_
      rw [wrapA_pred (by omega) (by omega)]
      refine WO.ixK rfl rfl (by omega) (by omega) rfl ?_
      rw [Nat.zero_add]
      refine WO.ldK rfl rfl kt hp rfl (limLe_self _) (fun s2 r2 => ?_)
      obtain ⟨z1, ez1, r1⟩ := r1
      obtain ⟨z2, ez2, r2⟩ := r2
      obtain rfl := List.singleton_inj.1 ez1
      obtain rfl := List.singleton_inj.1 ez2
      have r1 : Rd Y3 S _ _ := r1
      have r2 : Rd Y3 S _ _ := r2
      refine WO.callE (S := S) rfl rfl (F10_ok e4 r1.vw r2.vw) (fun S2 c1 => ?_)
      have hM := hM.to c1
      have kt := kt.to c1
      repeat (first | refine WC.seq ?_ | refine thenL_n ?_ | refine thenL_r ?_ | refine thenL_e ?_ | refine WC.region ?_ | refine WO.nil ?_ | refine WC.skip ?_ | refine WC.ret ?_ | refine WO.asg rfl ?_ | refine WO.mv rfl ?_ | refine WC.block ?_ | refine WC.exit ?_ | refine blockL_s ?_ | refine blockL_r ?_ | refine blockL_n ?_ | refine blockL_e rfl ?_)
      refine WC.cond rfl (fun q => ?_) (fun q => ?_)
      · have hD := hT q
        repeat (first | refine WC.seq ?_ | refine thenL_n ?_ | refine thenL_r ?_ | refine thenL_e ?_ | refine WC.region ?_ | refine WO.nil ?_ | refine WC.skip ?_ | refine WC.ret ?_ | refine WO.asg rfl ?_ | refine WO.mv rfl ?_ | refine WC.block ?_ | refine WC.exit ?_ | refine blockL_s ?_ | refine blockL_r ?_ | refine blockL_n ?_ | refine blockL_e rfl ?_)
        refine WO.slK rfl rfl (by omega) (by omega) rfl ?_
        repeat (first | refine WC.seq ?_ | refine thenL_n ?_ | refine thenL_r ?_ | refine thenL_e ?_ | refine WC.region ?_ | refine WO.nil ?_ | refine WC.skip ?_ | refine WC.ret ?_ | refine WO.asg rfl ?_ | refine WO.mv rfl ?_ | refine WC.block ?_ | refine WC.exit ?_ | refine blockL_s ?_ | refine blockL_r ?_ | refine blockL_n ?_ | refine blockL_e rfl ?_)
        refine WC.loop (ι := Nat × Nat × (List (List Int))) (fun z => [(0, .sc (.sl b 0 t0.length c 1)), (1, .sc (.fn 10 [])), (5, .sc (.int .i64 (z.1 : Int))), (6, .sc (.sl b k (t0.length - k) (c - k) 1)), (7, .sc (.int .i64 (z.2.1 : Int)))]) (fun z m n => ∃ S : Cx fl, S.m = m ∧ S.n = n ∧ ChM S0 S ∧ Ow Y23 S 2 (.sl b 0 t0.length c 1) z.2.2 ∧ z.2.2.length = t0.length ∧ k + z.2.1 ≤ t0.length ∧ 1 ≤ z.2.1 ∧ 1 ≤ z.1 ∧ z.1 ≤ k + z.2.1 - 1 ∧ (∀ j, k + z.2.1 - 1 ≤ j → z.2.2[j]? = t0[j]?) ∧ DD (fun x p => F10 F x p) t0 r z.2.2 z.1 (k + z.2.1)) (fun z => t0.length - z.2.1) (k, 1, t0) (Cov.cons rfl (Cov.cons rfl (Cov.cons rfl (Cov.cons rfl (Cov.cons rfl (Cov.nil _)))))) ⟨_, rfl, rfl, hM, kt, rfl, (by omega : k + 1 ≤ _), Nat.le_refl 1, hk1, (by omega : k ≤ k + 1 - 1), fun _ _ => rfl, hD⟩ ?_
        clear hM kt hD hT hF hx hp c1 r1 r2 q e4
        rintro ⟨k1, i, L⟩ _ _ ⟨S, rfl, rfl, hM, kt, hl, hi1, hi2, hk3, hk4, hsame, hD⟩ _
        dsimp only at kt hl hi1 hi2 hk3 hk4 hsame hD ⊢
        repeat (first | refine WC.seq ?_ | refine thenL_n ?_ | refine thenL_r ?_ | refine thenL_e ?_ | refine WC.region ?_ | refine WO.nil ?_ | refine WC.skip ?_ | refine WC.ret ?_ | refine WO.asg rfl ?_ | refine WO.mv rfl ?_ | refine WC.block ?_ | refine WC.exit ?_ | refine blockL_s ?_ | refine blockL_r ?_ | refine blockL_n ?_ | refine blockL_e rfl ?_)
        refine WO.lenS (sz := 1) (len := t0.length - k) rfl (.inr ⟨_, _, _, rfl, by omega⟩) rfl ?_
        refine WO.bin rfl rfl (by decide) (by decide) rfl ?_
        repeat (first | refine WC.seq ?_ | refine thenL_n ?_ | refine thenL_r ?_ | refine thenL_e ?_ | refine WC.region ?_ | refine WO.nil ?_ | refine WC.skip ?_ | refine WC.ret ?_ | refine WO.asg rfl ?_ | refine WO.mv rfl ?_ | refine WC.block ?_ | refine WC.exit ?_ | refine blockL_s ?_ | refine blockL_r ?_ | refine blockL_n ?_ | refine blockL_e rfl ?_)
        refine WC.cond rfl (fun q => ?_) (fun q => ?_)
        · have hi : k + i < t0.length := by have := of_decide_eq_true q; omega
          obtain ⟨x, p, q2, hx, hp, e4, hT, hF⟩ := hD.step hi
          rw [← hsame _ (by omega)] at hx hp
          rw [Nat.add_sub_assoc hi2] at hp
          repeat (first | refine WC.seq ?_ | refine thenL_n ?_ | refine thenL_r ?_ | refine thenL_e ?_ | refine WC.region ?_ | refine WO.nil ?_ | refine WC.skip ?_ | refine WC.ret ?_ | refine WO.asg rfl ?_ | refine WO.mv rfl ?_ | refine WC.block ?_ | refine WC.exit ?_ | refine blockL_s ?_ | refine blockL_r ?_ | refine blockL_n ?_ | refine blockL_e rfl ?_)
          refine WC.drawN rfl rfl ?_
          repeat (first | refine WC.seq ?_ | refine thenL_n ?_ | refine thenL_r ?_ | refine thenL_e ?_ | refine WC.region ?_ | refine WO.nil ?_ | refine WC.skip ?_ | refine WC.ret ?_ | refine WO.asg rfl ?_ | refine WO.mv rfl ?_ | refine WC.block ?_ | refine WC.exit ?_ | refine blockL_s ?_ | refine blockL_r ?_ | refine blockL_n ?_ | refine blockL_e rfl ?_)
          refine WO.ixK rfl rfl (by omega) (by omega) rfl ?_
          refine WO.ldK rfl rfl kt hx rfl (limLe_self _) (fun s1 r1 => ?_)
          repeat (first | refine WC.seq ?_ | refine thenL_n ?_ | refine thenL_r ?_ | refine thenL_e ?_ | refine WC.region ?_ | refine WO.nil ?_ | refine WC.skip ?_ | refine WC.ret ?_ | refine WO.asg rfl ?_ | refine WO.mv rfl ?_ | refine WC.block ?_ | refine WC.exit ?_ | refine blockL_s ?_ | refine blockL_r ?_ | refine blockL_n ?_ | refine blockL_e rfl ?_)
          refine WO.bin rfl rfl (by decide) (by decide) rfl ?_
          rw [wrapA_pred (by omega) (by omega)]
          refine WO.ixK rfl rfl (by omega) (by omega) rfl ?_
          refine WO.ldK rfl rfl kt hp rfl (limLe_self _) (fun s2 r2 => ?_)
          obtain ⟨z1, ez1, r1⟩ := r1
          obtain ⟨z2, ez2, r2⟩ := r2
          obtain rfl := List.singleton_inj.1 ez1
          obtain rfl := List.singleton_inj.1 ez2
          have r1 : Rd Y3 S _ _ := r1
          have r2 : Rd Y3 S _ _ := r2
          refine WO.callE (S := S) rfl rfl (F10_ok e4 r1.vw r2.vw) (fun S2 c1 => ?_)
          have hM := hM.to c1
          have kt := kt.to c1
          refine WO.do rfl rfl ?_
          repeat (first | refine WC.seq ?_ | refine thenL_n ?_ | refine thenL_r ?_ | refine thenL_e ?_ | refine WC.region ?_ | refine WO.nil ?_ | refine WC.skip ?_ | refine WC.ret ?_ | refine WO.asg rfl ?_ | refine WO.mv rfl ?_ | refine WC.block ?_ | refine WC.exit ?_ | refine blockL_s ?_ | refine blockL_r ?_ | refine blockL_n ?_ | refine blockL_e rfl ?_)
          refine WC.cond rfl (fun q => ?_) (fun q => ?_)
          · have hD := hF (by simpa using q) (by omega)
            repeat (first | refine WC.seq ?_ | refine thenL_n ?_ | refine thenL_r ?_ | refine thenL_e ?_ | refine WC.region ?_ | refine WO.nil ?_ | refine WC.skip ?_ | refine WC.ret ?_ | refine WO.asg rfl ?_ | refine WO.mv rfl ?_ | refine WC.block ?_ | refine WC.exit ?_ | refine blockL_s ?_ | refine blockL_r ?_ | refine blockL_n ?_ | refine blockL_e rfl ?_)
            refine WO.ixK rfl rfl (by omega) (by omega) rfl ?_
            refine WO.ldK rfl rfl kt hx rfl rfl (fun s3 r3 => ?_)
            refine WO.ixK rfl rfl (by omega) (by omega) rfl ?_
            rw [Nat.zero_add]
            refine WO.stK rfl rfl rfl kt (by omega) r3 rfl rfl (fun S3 c3 kt => ?_)
            have hM := hM.to c3
            repeat (first | refine WC.seq ?_ | refine thenL_n ?_ | refine thenL_r ?_ | refine thenL_e ?_ | refine WC.region ?_ | refine WO.nil ?_ | refine WC.skip ?_ | refine WC.ret ?_ | refine WO.asg rfl ?_ | refine WO.mv rfl ?_ | refine WC.block ?_ | refine WC.exit ?_ | refine blockL_s ?_ | refine blockL_r ?_ | refine blockL_n ?_ | refine blockL_e rfl ?_)
            refine WO.bin rfl rfl (by decide) (by decide) rfl ?_
            rw [wrapA_succ (by omega)]
            repeat (first | refine WC.seq ?_ | refine thenL_n ?_ | refine thenL_r ?_ | refine thenL_e ?_ | refine WC.region ?_ | refine WO.nil ?_ | refine WC.skip ?_ | refine WC.ret ?_ | refine WO.asg rfl ?_ | refine WO.mv rfl ?_ | refine WC.block ?_ | refine WC.exit ?_ | refine blockL_s ?_ | refine blockL_r ?_ | refine blockL_n ?_ | refine blockL_e rfl ?_)
            refine WO.bin rfl rfl (by decide) (by decide) rfl ?_
            rw [wrapA_succ (by omega)]
            repeat (first | refine WC.seq ?_ | refine thenL_n ?_ | refine thenL_r ?_ | refine thenL_e ?_ | refine WC.region ?_ | refine WO.nil ?_ | refine WC.skip ?_ | refine WC.ret ?_ | refine WO.asg rfl ?_ | refine WO.mv rfl ?_ | refine WC.block ?_ | refine WC.exit ?_ | refine blockL_s ?_ | refine blockL_r ?_ | refine blockL_n ?_ | refine blockL_e rfl ?_)
            exact ⟨(k1 + 1, i + 1, L.set k1 x), Cov.cons rfl (Cov.cons rfl (Cov.cons rfl (Cov.cons rfl (Cov.cons rfl (Cov.nil _))))), ⟨_, rfl, rfl, hM, kt, by simp [hl], by simp only; omega, by simp only; omega, by simp only; omega, by simp only; omega, fun j hj => by simp only at hj ⊢; rw [List.getElem?_set_ne (by omega)]; exact hsame j (by omega), hD⟩, by simp only; omega⟩
          · have hD := hT (by simpa using q)
            repeat (first | refine WC.seq ?_ | refine thenL_n ?_ | refine thenL_r ?_ | refine thenL_e ?_ | refine WC.region ?_ | refine WO.nil ?_ | refine WC.skip ?_ | refine WC.ret ?_ | refine WO.asg rfl ?_ | refine WO.mv rfl ?_ | refine WC.block ?_ | refine WC.exit ?_ | refine blockL_s ?_ | refine blockL_r ?_ | refine blockL_n ?_ | refine blockL_e rfl ?_)
            refine WO.bin rfl rfl (by decide) (by decide) rfl ?_
            rw [wrapA_succ (by omega)]
            repeat (first | refine WC.seq ?_ | refine thenL_n ?_ | refine thenL_r ?_ | refine thenL_e ?_ | refine WC.region ?_ | refine WO.nil ?_ | refine WC.skip ?_ | refine WC.ret ?_ | refine WO.asg rfl ?_ | refine WO.mv rfl ?_ | refine WC.block ?_ | refine WC.exit ?_ | refine blockL_s ?_ | refine blockL_r ?_ | refine blockL_n ?_ | refine blockL_e rfl ?_)
            exact ⟨(k1, i + 1, L), Cov.cons rfl (Cov.cons rfl (Cov.cons rfl (Cov.cons rfl (Cov.cons rfl (Cov.nil _))))), ⟨_, rfl, rfl, hM, kt, hl, by simp only; omega, by simp only; omega, hk3, by simp only; omega, fun j hj => hsame j (by simp only at hj; omega), hD⟩, by simp only; omega⟩
        · have hi : k + i = t0.length := by have := of_decide_eq_false q; omega
          rw [hi] at hD
          have e := hD.fin
          subst e
          repeat (first | refine WC.seq ?_ | refine thenL_n ?_ | refine thenL_r ?_ | refine thenL_e ?_ | refine WC.region ?_ | refine WO.nil ?_ | refine WC.skip ?_ | refine WC.ret ?_ | refine WO.asg rfl ?_ | refine WO.mv rfl ?_ | refine WC.block ?_ | refine WC.exit ?_ | refine blockL_s ?_ | refine blockL_r ?_ | refine blockL_n ?_ | refine blockL_e rfl ?_)
          refine WO.slK rfl rfl (by omega) (by omega) rfl ?_
          refine WO.clK rfl rfl kt (by omega) rfl rfl (fun S3 c3 kt => ?_)
          have hM := hM.to c3
          repeat (first | refine WC.seq ?_ | refine thenL_n ?_ | refine thenL_r ?_ | refine thenL_e ?_ | refine WC.region ?_ | refine WO.nil ?_ | refine WC.skip ?_ | refine WC.ret ?_ | refine WO.asg rfl ?_ | refine WO.mv rfl ?_ | refine WC.block ?_ | refine WC.exit ?_ | refine blockL_s ?_ | refine blockL_r ?_ | refine blockL_n ?_ | refine blockL_e rfl ?_)
          refine WO.slHto rfl rfl ⟨by omega, by omega⟩ rfl ?_
          repeat (first | refine WC.seq ?_ | refine thenL_n ?_ | refine thenL_r ?_ | refine thenL_e ?_ | refine WC.region ?_ | refine WO.nil ?_ | refine WC.skip ?_ | refine WC.ret ?_ | refine WO.asg rfl ?_ | refine WO.mv rfl ?_ | refine WC.block ?_ | refine WC.exit ?_ | refine blockL_s ?_ | refine blockL_r ?_ | refine blockL_n ?_ | refine blockL_e rfl ?_)
          rw [Int.toNat_natCast]
          exact ⟨.inr rfl, _, _, rfl, rfl, S3.ren 2 902, rfl, rfl, hM.renO 2 902, _, rfl, kt.ren 902⟩
      · have hD := (hF (by simpa using q) (by omega)).same hx
        repeat (first | refine WC.seq ?_ | refine thenL_n ?_ | refine thenL_r ?_ | refine thenL_e ?_ | refine WC.region ?_ | refine WO.nil ?_ | refine WC.skip ?_ | refine WC.ret ?_ | refine WO.asg rfl ?_ | refine WO.mv rfl ?_ | refine WC.block ?_ | refine WC.exit ?_ | refine blockL_s ?_ | refine blockL_r ?_ | refine blockL_n ?_ | refine blockL_e rfl ?_)
        refine WO.bin rfl rfl (by decide) (by decide) rfl ?_
        rw [wrapA_succ (by omega)]
        repeat (first | refine WC.seq ?_ | refine thenL_n ?_ | refine thenL_r ?_ | refine thenL_e ?_ | refine WC.region ?_ | refine WO.nil ?_ | refine WC.skip ?_ | refine WC.ret ?_ | refine WO.asg rfl ?_ | refine WO.mv rfl ?_ | refine WC.block ?_ | refine WC.exit ?_ | refine blockL_s ?_ | refine blockL_r ?_ | refine blockL_n ?_ | refine blockL_e rfl ?_)
        exact ⟨k + 1, Cov.cons rfl (Cov.cons rfl (Cov.cons rfl (Cov.nil _))), ⟨_, rfl, rfl, hM, kt, by omega, by omega, hD⟩, by omega⟩
    · have hk : k = t0.length := by have := of_decide_eq_false q; omega
      rw [hk] at hD
      have e := hD.fin
      rw [List.take_of_length_le (Nat.le_refl _)] at e
      subst e
      repeat (first | refine WC.seq ?_ | refine thenL_n ?_ | refine thenL_r ?_ | refine thenL_e ?_ | refine WC.region ?_ | refine WO.nil ?_ | refine WC.skip ?_ | refine WC.ret ?_ | refine WO.asg rfl ?_ | refine WO.mv rfl ?_ | refine WC.block ?_ | refine WC.exit ?_ | refine blockL_s ?_ | refine blockL_r ?_ | refine blockL_n ?_ | refine blockL_e rfl ?_)
      exact ⟨.inr rfl, _, _, rfl, rfl, S.ren 2 902, rfl, rfl, hM.renO 2 902, _, rfl, kt.ren 902⟩
end Go.Proofs.Ytaphdnpjpmnaeaa

namespace Go.Proofs.Ytaphdnpjpmnaeaa
open Go.Am
theorem F9.fn : E.fn 9 = some ⟨59, (Try.f9.body.getD .skip), Try.f9.results.toList, []⟩ := rfl
theorem F9_ok {F : Nat} {fl : Nat} {S0 : Cx fl} {r : (List (List Int))} {t0 : Int} {t1 : List (List Int)} {vt1 : SV} (h : F9 F t0 t1 = some r) (hot1 : Rd Y23 S0 vt1 t1) : Ret E fl 9 [.sc (.int .i64 t0), .sc vt1] S0.m S0.n (fun v m' n' => ∃ S' : Cx fl, S'.m = m' ∧ S'.n = n' ∧ ChM S0 S' ∧ (∃ w121 : SV, v = .sc w121 ∧ Rd Y23 S' w121 r)) := by
  unfold F9 at h
  refine Ret.walk F9.fn ?_
  have hM := ChM.refl S0
  refine WC.seq (WC.region (WO.asg rfl (WO.nil (thenL_n (WC.seq (WC.region ?_))))))
  refine WO.bsS (A := Y3) (S := S0) (M := []) (cs := []) 2 rfl rfl rfl rfl rfl (fun v1 S2 c3 ho4 => ?_)
  have hot1 := hot1.to c3
  have hM := hM.to c3
  refine WO.asg rfl (WO.nil (thenL_n (WC.seq (WC.seq (WC.region (WO.mv rfl (WO.mv rfl (WO.nil (thenL_n ?_)))))))))
  refine WC.block ?_
  obtain ⟨b25, e26, h⟩ := bindS h
  refine WC.loopD e26 (fun s5 l' m' n' => ∃ S7 : Cx fl, ∃ v8 : SV, S7.m = m' ∧ S7.n = n' ∧ Cov l' [(1, .sc vt1), (5, .sc v8), (14, .sc (.int .i64 t0)), (15, .sc (.int .i64 s5.2))] ∧ ChM S0 S7 ∧ Rd Y23 S7 vt1 t1 ∧ Ow Y3 S7 2 v8 s5.1) (fun b e l' m' n' => e = .exit 0 ∧ ∃ S9 : Cx fl, ∃ v10 : SV, S9.m = m' ∧ S9.n = n' ∧ Cov l' [(1, .sc vt1), (5, .sc v10)] ∧ ChM S0 S9 ∧ Rd Y23 S9 vt1 t1 ∧ Ow Y3 S9 2 v10 b) (by exact ⟨S2, v1, rfl, rfl, (Cov.cons rfl (Cov.cons rfl (Cov.cons rfl (Cov.cons rfl (Cov.nil _))))), hM, hot1, ho4⟩) ?_ ?_
  · clear h
    rintro s5 q _ _ _ ⟨S11, v12, rfl, rfl, hc13, hM, hot1, ho5⟩ h
    unfold F9_l0 at h
    refine WC.cov hc13 (WC.seq (WC.region ?_))
    refine WO.bin rfl rfl (by decide) (by decide) rfl ?_
    refine WO.nil (thenL_n (WC.seq ?_))
    refine WC.cond rfl (fun q14 => ?_) (fun q14 => ?_)
    · have h := iteT q14 h
      refine WC.skip (thenL_n (WC.seq (WC.block (WC.seq (WC.region (WO.mv rfl (WO.asg rfl (WO.nil (thenL_n ?_)))))))))
      refine WC.region (WO.mv rfl (WO.mv rfl ?_))
      refine WO.bsS (A := Y3) (S := S11) (M := [s5.2]) (cs := [.int .i64 s5.2]) 3 rfl rfl rfl ⟨[.int .i64 s5.2], _, rfl, rfl, rfl⟩ rfl (fun v15 S16 c17 ho18 => ?_)
      have hM := hM.to c17
      have hot1 := hot1.to c17
      have ho5 := ho5.to c17
      obtain ⟨L19, e20, h⟩ := bindS h
      refine WO.appS rfl rfl ho5 ho18.ro e20 rfl rfl (fun v21 S22 c23 ho24 => ?_)
      have hM := hM.to c23
      have hot1 := hot1.to c23
      have ho18 := ho18.to c23
      refine WO.asg rfl (WO.nil (blockL_n (thenL_n (WC.region ?_))))
      refine WO.bin rfl rfl (by decide) (by decide) rfl ?_
      refine WO.mv rfl (WO.nil (thenL_n ?_))
      obtain rfl := someI h
      exact ⟨_, rfl, ⟨S22, v21, rfl, rfl, (Cov.cons rfl (Cov.cons rfl (Cov.cons rfl (Cov.cons rfl (Cov.nil _))))), hM, hot1, ho24⟩⟩
    · have h := iteF q14 h
      refine WC.exit (thenL_e (thenL_e ?_))
      obtain rfl := someI h
      exact ⟨_, rfl, rfl, ⟨S11, v12, rfl, rfl, (Cov.cons rfl (Cov.cons rfl (Cov.nil _))), hM, hot1, ho5⟩⟩
  rintro _ _ _ _ ⟨rfl, ⟨S27, v28, rfl, rfl, hc29, hM, hot1, ho5⟩⟩
  refine blockL_s (thenL_n (WC.cov hc29 (WC.seq (WC.region (WO.mv rfl ?_)))))
  have hM := hM.drop 2
  have hot1 := hot1.drop 2
  have ho5 := ho5.freeze
  refine WO.bsS (A := Y23) (S := (S27.drop 2)) (M := [b25]) (cs := [v28]) 4 rfl rfl rfl ⟨_, _, rfl, ⟨v28, rfl, ho5⟩, rfl⟩ rfl (fun v30 S31 c32 ho33 => ?_)
  have hM := hM.to c32
  have hot1 := hot1.to c32
  have ho5 := ho5.to c32
  refine WO.asg rfl (WO.nil (thenL_n (WC.block ?_)))
  obtain ⟨b116, e117, h⟩ := bindS h
  have hM := hM.drop 4
  have hot1 := hot1.drop 4
  have ho33 := ho33.freeze
  refine WC.loopD e117 (fun s34 l' m' n' => ∃ S36 : Cx fl, ∃ v37 : SV, S36.m = m' ∧ S36.n = n' ∧ Cov l' [(1, .sc vt1), (7, .sc v37)] ∧ ChM S0 S36 ∧ Rd Y23 S36 vt1 t1 ∧ Rd Y23 S36 v37 s34) (fun b e l' m' n' => e = .ret ∧ ∃ S38 : Cx fl, ∃ v39 : SV, S38.m = m' ∧ S38.n = n' ∧ Cov l' [(4, .sc v39)] ∧ ChM S0 S38 ∧ Ow Y23 S38 5 v39 b) (by exact ⟨(S31.drop 4), v30, rfl, rfl, (Cov.cons rfl (Cov.cons rfl (Cov.nil _))), hM, hot1, ho33⟩) ?_ ?_
  · clear h
    rintro s34 q _ _ _ ⟨S40, v41, rfl, rfl, hc42, hM, hot1, ho7⟩ h
    unfold F9_l3 at h
    refine WC.cov hc42 (WC.block (WC.seq (WC.region (WO.asg rfl (WO.nil (thenL_n (WC.seq (WC.seq (WC.region ?_)))))))))
    refine WO.mv rfl ?_
    refine WO.lenS rfl ho7.slv rfl ?_
    refine WO.mv rfl (WO.nil (thenL_n (WC.block ?_)))
    obtain ⟨b92, e93, h⟩ := bindS h
    refine WC.loopD e93 (fun s43 l' m' n' => ∃ S45 : Cx fl, ∃ v46 : SV, S45.m = m' ∧ S45.n = n' ∧ Cov l' [(1, .sc vt1), (7, .sc v41), (8, .sc v46), (25, .sc v41), (26, .sc (.int .i64 ((s34.length : Int)))), (27, .sc (.int .i64 s43.2))] ∧ ChM S0 S45 ∧ Rd Y23 S45 vt1 t1 ∧ Rd Y23 S45 v41 s34 ∧ Ow Y23 S45 6 v46 s43.1) (fun b e l' m' n' => e = .exit 4 ∧ ∃ S47 : Cx fl, ∃ v48 : SV, S47.m = m' ∧ S47.n = n' ∧ Cov l' [(1, .sc vt1), (7, .sc v41), (8, .sc v48)] ∧ ChM S0 S47 ∧ Rd Y23 S47 vt1 t1 ∧ Rd Y23 S47 v41 s34 ∧ Ow Y23 S47 6 v48 b) (by exact ⟨S40, .nils, rfl, rfl, (Cov.cons rfl (Cov.cons rfl (Cov.cons rfl (Cov.cons rfl (Cov.cons rfl (Cov.cons rfl (Cov.nil _))))))), hM, hot1, ho7, Ow.nil⟩) ?_ ?_
    · clear h
      rintro s43 q _ _ _ ⟨S49, v50, rfl, rfl, hc51, hM, hot1, ho7, ho8⟩ h
      unfold F9_l2 at h
      refine WC.cov hc51 (WC.seq (WC.region ?_))
      refine WO.bin rfl rfl (by decide) (by decide) rfl ?_
      refine WO.nil (thenL_n (WC.seq ?_))
      refine WC.cond rfl (fun q52 => ?_) (fun q52 => ?_)
      · have h := iteT q52 h
        refine WC.skip (thenL_n (WC.seq (WC.block (WC.seq (WC.region ?_)))))
        obtain ⟨L53, e54, h⟩ := bindS h
        refine WO.ixS rfl rfl ho7.slv (at?_lt e54) rfl ?_
        refine WO.ldS rfl ho7.ro (fun _ hi => hi) (at?_get e54) rfl rfl (fun v55 ho56 => ?_)
        have ho56 : Rd Y3 S49 v55 L53 := ho56
        refine WO.asg rfl (WO.nil (thenL_n (WC.seq (WC.region (WO.mv rfl ?_)))))
        refine WO.lenS rfl hot1.slv rfl ?_
        refine WO.mv rfl (WO.nil (thenL_n (WC.block ?_)))
        obtain ⟨b87, e88, h⟩ := bindS h
        refine WC.loopD e88 (fun s57 l' m' n' => ∃ S59 : Cx fl, ∃ v60 : SV, S59.m = m' ∧ S59.n = n' ∧ Cov l' [(1, .sc vt1), (7, .sc v41), (8, .sc v60), (10, .sc v55), (25, .sc v41), (26, .sc (.int .i64 ((s34.length : Int)))), (27, .sc (.int .i64 s43.2)), (31, .sc vt1), (32, .sc (.int .i64 ((t1.length : Int)))), (33, .sc (.int .i64 s57.2))] ∧ ChM S0 S59 ∧ Rd Y23 S59 vt1 t1 ∧ Rd Y23 S59 v41 s34 ∧ Rd Y3 S59 v55 L53 ∧ Ow Y23 S59 6 v60 s57.1) (fun b e l' m' n' => e = .exit 6 ∧ ∃ S61 : Cx fl, ∃ v62 : SV, S61.m = m' ∧ S61.n = n' ∧ Cov l' [(1, .sc vt1), (7, .sc v41), (8, .sc v62), (25, .sc v41), (26, .sc (.int .i64 ((s34.length : Int)))), (27, .sc (.int .i64 s43.2))] ∧ ChM S0 S61 ∧ Rd Y23 S61 vt1 t1 ∧ Rd Y23 S61 v41 s34 ∧ Ow Y23 S61 6 v62 b) (by exact ⟨S49, v50, rfl, rfl, (Cov.cons rfl (Cov.cons rfl (Cov.cons rfl (Cov.cons rfl (Cov.cons rfl (Cov.cons rfl (Cov.cons rfl (Cov.cons rfl (Cov.cons rfl (Cov.cons rfl (Cov.nil _))))))))))), hM, hot1, ho7, ho56, ho8⟩) ?_ ?_
        · clear h
          rintro s57 q _ _ _ ⟨S63, v64, rfl, rfl, hc65, hM, hot1, ho7, ho56, ho8⟩ h
          unfold F9_l1 at h
          refine WC.cov hc65 (WC.seq (WC.region ?_))
          refine WO.bin rfl rfl (by decide) (by decide) rfl ?_
          refine WO.nil (thenL_n (WC.seq ?_))
          refine WC.cond rfl (fun q66 => ?_) (fun q66 => ?_)
          · have h := iteT q66 h
            refine WC.skip (thenL_n (WC.seq (WC.block (WC.seq (WC.region ?_)))))
            obtain ⟨L67, e68, h⟩ := bindS h
            refine WO.ixS rfl rfl hot1.slv (at?_lt e68) rfl ?_
            refine WO.ldS rfl hot1.ro (fun _ hi => hi) (at?_get e68) rfl rfl (fun v69 ho70 => ?_)
            have ho70 : Rd Y3 S63 v69 L67 := ho70
            refine WO.asg rfl (WO.nil (thenL_n (WC.region (WO.mv rfl (WO.mv rfl (WO.mv rfl ?_))))))
            obtain ⟨r71, e72, h⟩ := bindS h
            refine WO.callF (S := S63) 7 rfl rfl (F24_ok e72 ho56.vw ho70.vw) Lay.flat_fl (fun v73 S75 c76 ho74 => ?_)
            have hM := hM.to c76
            have hot1 := hot1.to c76
            have ho7 := ho7.to c76
            have ho56 := ho56.to c76
            have ho8 := ho8.to c76
            have ho70 := ho70.to c76
            have hM := hM.drop 7
            have hot1 := hot1.drop 7
            have ho7 := ho7.drop 7
            have ho56 := ho56.drop 7
            have ho8 := ho8.drop 7
            have ho70 := ho70.drop 7
            have ho74 := ho74.freeze
            refine WO.bsS (A := Y23) (S := (S75.drop 7)) (M := [r71]) (cs := [v73]) 8 rfl rfl rfl ⟨_, _, rfl, ⟨v73, rfl, ho74⟩, rfl⟩ rfl (fun v77 S78 c79 ho80 => ?_)
            have hM := hM.to c79
            have hot1 := hot1.to c79
            have ho7 := ho7.to c79
            have ho56 := ho56.to c79
            have ho8 := ho8.to c79
            have ho70 := ho70.to c79
            have ho74 := ho74.to c79
            obtain ⟨L81, e82, h⟩ := bindS h
            refine WO.appS rfl rfl ho8 ho80.ro e82 rfl rfl (fun v83 S84 c85 ho86 => ?_)
            have hM := hM.to c85
            have hot1 := hot1.to c85
            have ho7 := ho7.to c85
            have ho56 := ho56.to c85
            have ho70 := ho70.to c85
            have ho74 := ho74.to c85
            have ho80 := ho80.to c85
            refine WO.asg rfl (WO.nil (blockL_n (thenL_n (WC.region ?_))))
            refine WO.bin rfl rfl (by decide) (by decide) rfl ?_
            refine WO.mv rfl (WO.nil (thenL_n ?_))
            obtain rfl := someI h
            exact ⟨_, rfl, ⟨S84, v83, rfl, rfl, (Cov.cons rfl (Cov.cons rfl (Cov.cons rfl (Cov.cons rfl (Cov.cons rfl (Cov.cons rfl (Cov.cons rfl (Cov.cons rfl (Cov.cons rfl (Cov.cons rfl (Cov.nil _))))))))))), hM, hot1, ho7, ho56, ho86⟩⟩
          · have h := iteF q66 h
            refine WC.exit (thenL_e (thenL_e ?_))
            obtain rfl := someI h
            exact ⟨_, rfl, rfl, ⟨S63, v64, rfl, rfl, (Cov.cons rfl (Cov.cons rfl (Cov.cons rfl (Cov.cons rfl (Cov.cons rfl (Cov.cons rfl (Cov.nil _))))))), hM, hot1, ho7, ho8⟩⟩
        rintro _ _ _ _ ⟨rfl, ⟨S89, v90, rfl, rfl, hc91, hM, hot1, ho7, ho8⟩⟩
        refine blockL_s (blockL_n (thenL_n (WC.cov hc91 (WC.region ?_))))
        refine WO.bin rfl rfl (by decide) (by decide) rfl ?_
        refine WO.mv rfl (WO.nil (thenL_n ?_))
        obtain rfl := someI h
        exact ⟨_, rfl, ⟨S89, v90, rfl, rfl, (Cov.cons rfl (Cov.cons rfl (Cov.cons rfl (Cov.cons rfl (Cov.cons rfl (Cov.cons rfl (Cov.nil _))))))), hM, hot1, ho7, ho8⟩⟩
      · have h := iteF q52 h
        refine WC.exit (thenL_e (thenL_e ?_))
        obtain rfl := someI h
        exact ⟨_, rfl, rfl, ⟨S49, v50, rfl, rfl, (Cov.cons rfl (Cov.cons rfl (Cov.cons rfl (Cov.nil _)))), hM, hot1, ho7, ho8⟩⟩
    rintro _ _ _ _ ⟨rfl, ⟨S94, v95, rfl, rfl, hc96, hM, hot1, ho7, ho8⟩⟩
    refine blockL_s (thenL_n (WC.cov hc96 (WC.seq (WC.region (WO.mv rfl (WO.mv rfl ?_))))))
    obtain ⟨L97, e98, h⟩ := bindS h
    refine WO.appS rfl rfl ho8 ho7.ro e98 rfl rfl (fun v99 S100 c101 ho102 => ?_)
    have hM := hM.to c101
    have hot1 := hot1.to c101
    have ho7 := ho7.to c101
    refine WO.asg rfl (WO.nil (thenL_n (WC.seq (WC.region (WO.mv rfl ?_)))))
    obtain ⟨r103, e104, h⟩ := bindS h
    refine WO.callG (S := S100) [(6, 2)] [(2, 6)] rfl rfl (F16_17_ok (S0 := S100.mp [(6, 2)]) e104 (ho102.mp rfl)) (fun _ S105 S106 hb hR => ?_)
    obtain ⟨rfl, hR0⟩ := hR
    have c107 : Ch 6 S100 S106 := hb.ch [] 6
    have hM := hM.to c107
    have hot1 := hot1.to c107
    have ho7 := ho7.to c107
    have ho102 := hR0.bkS hb rfl rfl
    refine WO.nil (thenL_n (WC.seq (WC.region (WO.mv rfl ?_))))
    obtain ⟨r108, e109, h⟩ := bindS h
    refine WO.callG (S := S106) [(6, 2)] [(902, 9)] rfl rfl (F25_10_ok (S0 := S106.mp [(6, 2)]) e109 (ho102.mp rfl)) (fun _ S112 S113 hb hR => ?_)
    obtain ⟨v110, rfl, hR0⟩ := hR
    have c114 : Ch 6 S106 S113 := hb.ch [] 6
    have hM := hM.to c114
    have hot1 := hot1.to c114
    have ho7 := ho7.to c114
    have ho111 := hR0.bkS hb rfl rfl
    refine WO.asg rfl (WO.nil (thenL_n (WC.seq (WC.seq (WC.region (WO.mv rfl ?_))))))
    refine WO.lenS rfl ho111.slv rfl ?_
    refine WO.mv rfl ?_
    refine WO.lenS rfl ho7.slv rfl ?_
    refine WO.bin rfl rfl (by decide) (by decide) rfl ?_
    refine WO.nil (thenL_n ?_)
    refine WC.cond rfl (fun q115 => ?_) (fun q115 => ?_)
    · have h := iteT q115 h
      refine WC.seq (WC.region (WO.mv rfl (WO.asg rfl (WO.nil (thenL_n (WC.ret (thenL_r (blockL_r (thenL_r ?_)))))))))
      have hM := hM.renO 9 5
      have ho111 := ho111.ren (j := 5)
      obtain rfl := someI h
      exact ⟨_, rfl, rfl, ⟨(S113.ren 9 5), v110, rfl, rfl, (Cov.cons rfl (Cov.nil _)), hM, ho111⟩⟩
    · have h := iteF q115 h
      refine WC.skip (thenL_n (WC.region (WO.mv rfl (WO.asg rfl (WO.nil (blockL_n (thenL_n ?_)))))))
      have hM := hM.drop 9
      have hot1 := hot1.drop 9
      have ho111 := ho111.freeze
      obtain rfl := someI h
      exact ⟨_, rfl, ⟨(S113.drop 9), v110, rfl, rfl, (Cov.cons rfl (Cov.cons rfl (Cov.nil _))), hM, hot1, ho111⟩⟩
  rintro _ _ _ _ ⟨rfl, ⟨S118, v119, rfl, rfl, hc120, hM, ho4⟩⟩
  refine blockL_r ?_
  have hM := hM.drop 5
  have ho4 := ho4.freeze
  obtain rfl := someI h
  exact ⟨.inr rfl, _, _, (resK_cov hc120 rfl), rfl, ⟨(S118.drop 5), rfl, rfl, hM, v119, rfl, ho4⟩⟩
end Go.Proofs.Ytaphdnpjpmnaeaa

namespace Go.Proofs.Ytaphdnpjpmnaeaa
open Go.Am
theorem F70.fn : E.fn 70 = some ⟨17, (Try.f70.body.getD .skip), Try.f70.results.toList, []⟩ := rfl
theorem F70_ok {F : Nat} {m : Mem} {n : Nat} {r : Bool} {t0 : Int} {t1 : Int} (h : F70 F t0 t1 = some r)  : Ret E n 70 [.sc (.int .i64 t0), .sc (.int .i64 t1)] m n (fun v m' n' => v = .sc (.bool r)) := by
  unfold F70 at h
  refine Ret.walk F70.fn ?_
  refine WC.start fun S0 em en hz => ?_
  refine WC.seq (WC.region (WO.asg rfl (WO.nil (thenL_n (WC.seq (WC.region (WO.mv rfl ?_)))))))
  obtain ⟨r1, e2, h⟩ := bindS h
  refine WO.callE (S := S0) rfl rfl (F47_ok e2) (fun S3 c4 => ?_)
  refine WO.mv rfl ?_
  obtain ⟨y10, e11, h⟩ := bindS h
  refine WO.cutS (d := 11) (S := S3) 4 y10 (fun q9 => ?_) (fun q9 => ?_) (fun S12 c13 => ?_)
  · have h := e11
    have h := iteT q9 h
    refine WO.gyes rfl rfl (WO.mv rfl (WO.gyes rfl rfl ?_))
    obtain ⟨r5, e6, h⟩ := bindS h
    refine WO.callE (S := S3) rfl rfl (F47_ok e6) (fun S7 c8 => ?_)
    refine WO.gyes rfl rfl ?_
    refine WO.do rfl rfl ?_
    obtain rfl := someI h
    refine WO.pickT rfl rfl ?_
    refine WO.nil ?_
    exact ⟨S7, rfl, rfl, c8, (Cov.cons rfl (Cov.skip rfl (Cov.skip rfl (Cov.skip rfl (Cov.skip rfl (Cov.skip rfl (Cov.refl _)))))))⟩
  · have h := e11
    have h := iteF q9 h
    obtain rfl := someI h
    refine WO.gno rfl rfl (WO.gno rfl rfl (WO.gno rfl rfl ?_))
    refine WO.pickF rfl rfl ?_
    refine WO.nil ?_
    exact ⟨S3, rfl, rfl, Ch.refl _ _, (Cov.cons rfl (Cov.skip rfl (Cov.skip rfl (Cov.skip rfl (Cov.skip rfl (Cov.skip rfl (Cov.refl _)))))))⟩
  refine WO.mv rfl ?_
  refine WO.cutB (d := 16) 4 (y10 || (decide (t0 < t1))) (fun q14 => ?_) (fun q14 => ?_) ?_
  · refine WO.gno rfl rfl (WO.gno rfl rfl (WO.gno rfl rfl ?_))
    refine WO.pickT rfl rfl ?_
    refine WO.nil ?_
    exact ⟨rfl, rfl, (Cov.any rfl (orT q14) (Cov.skip rfl (Cov.skip rfl (Cov.skip rfl (Cov.skip rfl (Cov.skip rfl (Cov.refl _)))))))⟩
  · skip
    refine WO.gyes rfl rfl (WO.mv rfl (WO.gyes rfl rfl (WO.mv rfl (WO.gyes rfl rfl ?_))))
    refine WO.bin rfl rfl (by decide) (by decide) rfl ?_
    refine WO.pickF rfl rfl ?_
    refine WO.nil ?_
    exact ⟨rfl, rfl, (Cov.any rfl (orF q14) (Cov.skip rfl (Cov.skip rfl (Cov.skip rfl (Cov.skip rfl (Cov.skip rfl (Cov.refl _)))))))⟩
  refine WO.asg rfl (WO.nil (thenL_n (WC.ret ?_)))
  obtain rfl := someI h
  exact ⟨.inr rfl, _, _, rfl, rfl, rfl⟩
end Go.Proofs.Ytaphdnpjpmnaeaa

namespace Go.Proofs.Ytaphdnpjpmnaeaa
open Go.Am
theorem F64.fn : E.fn 64 = some ⟨49, (Try.f64.body.getD .skip), Try.f64.results.toList, []⟩ := rfl
theorem F64_ok {F : Nat} {m : Mem} {n : Nat} {r : (List Int)} {t0 : List Int} {t1 : Int} {t2 : Int} {vt0 : SV} {fl : Nat} {bw : Nat} (h : F64 F t0 t1 t2 = some r) (hfl : fl ≤ n) (kt0 : Iv Y3 fl n bw m vt0 t0) : Ret E fl 64 [.sc vt0, .sc (.int .i64 t1), .sc (.int .i64 t2)] m n (fun v m' n' => v = .tup [] ∧ Ip Y3 n bw m m' vt0 r) := by
  unfold F64 at h
  refine Ret.walk F64.fn ?_
  refine WC.startI (b := bw) hfl fun S0 em en hz hbw => ?_
  have hot0 := kt0.iw em en hz hbw
  refine WC.seq (WC.region (WO.mv rfl ?_))
  refine WO.bin rfl rfl (by decide) (by decide) rfl ?_
  refine WO.asg rfl (WO.nil (thenL_n (WC.block ?_)))
  obtain ⟨b42, e43, h⟩ := bindS h
  refine WC.loopD e43 (fun s1 l' m' n' => ∃ S2 : Cx fl, S2.m = m' ∧ S2.n = n' ∧ Cov l' [(0, .sc vt0), (1, .sc (.int .i64 t1)), (2, .sc (.int .i64 t2)), (6, .sc (.int .i64 s1.1))] ∧ Iw Y3 S2 2 n bw m vt0 s1.2) (fun b e l' m' n' => e = .exit 0 ∧ ∃ S3 : Cx fl, S3.m = m' ∧ S3.n = n' ∧ Cov l' [(0, .sc vt0)] ∧ Iw Y3 S3 2 n bw m vt0 b) (by exact ⟨S0, rfl, rfl, (Cov.cons rfl (Cov.cons rfl (Cov.cons rfl (Cov.cons rfl (Cov.nil _))))), hot0⟩) ?_ ?_
  · clear h
    rintro s1 q _ _ _ ⟨S4, rfl, rfl, hc5, hot0⟩ h
    unfold F64_l1 at h
    refine WC.cov hc5 (WC.seq (WC.seq (WC.region (WO.mv rfl (WO.mv rfl ?_)))))
    refine WO.bin rfl rfl (by decide) (by decide) rfl ?_
    refine WO.nil (thenL_n ?_)
    refine WC.cond rfl (fun q6 => ?_) (fun q6 => ?_)
    · have h := iteT q6 h
      refine WC.skip (thenL_n (WC.seq (WC.block (WC.seq (WC.region (WO.mv rfl (WO.asg rfl (WO.nil (thenL_n ?_)))))))))
      refine WC.block ?_
      obtain ⟨b38, e39, h⟩ := bindS h
      refine WC.loopD e39 (fun s7 l' m' n' => ∃ S8 : Cx fl, S8.m = m' ∧ S8.n = n' ∧ Cov l' [(0, .sc vt0), (1, .sc (.int .i64 t1)), (2, .sc (.int .i64 t2)), (6, .sc (.int .i64 s1.1)), (7, .sc (.int .i64 s7.1))] ∧ Iw Y3 S8 2 n bw m vt0 s7.2) (fun b e l' m' n' => e = .exit 2 ∧ ∃ S9 : Cx fl, S9.m = m' ∧ S9.n = n' ∧ Cov l' [(0, .sc vt0), (1, .sc (.int .i64 t1)), (2, .sc (.int .i64 t2)), (6, .sc (.int .i64 s1.1))] ∧ Iw Y3 S9 2 n bw m vt0 b) (by exact ⟨S4, rfl, rfl, (Cov.cons rfl (Cov.cons rfl (Cov.cons rfl (Cov.cons rfl (Cov.cons rfl (Cov.nil _)))))), hot0⟩) ?_ ?_
      · clear h
        rintro s7 q _ _ _ ⟨S10, rfl, rfl, hc11, hot0⟩ h
        unfold F64_l0 at h
        refine WC.cov hc11 (WC.seq (WC.seq ?_))
        refine WC.drawN rfl rfl ?_
        have hot0z := hot0.oz
        refine WO.mv rfl (WO.mv rfl ?_)
        refine WO.bin rfl rfl (by decide) (by decide) rfl ?_
        refine WO.mv rfl ?_
        obtain ⟨y21, e22, h⟩ := bindS h
        refine WO.cutS (d := 30) (S := S10) 11 y21 (fun q20 => ?_) (fun q20 => ?_) (fun S23 c24 => ?_)
        · have h := e22
          have h := iteT q20 h
          refine WO.gyes rfl rfl (WO.mv rfl (WO.gyes rfl rfl (WO.mv rfl (WO.gyes rfl rfl ?_))))
          obtain ⟨x12, e13, h⟩ := bindS h
          refine WO.ixS rfl rfl hot0.slv (at?_lt e13) rfl ?_
          refine WO.gyes rfl rfl ?_
          refine WO.ldF rfl hot0z (fun _ hi => hi.1) (at?_get e13) rfl rfl (limLe_self _) ?_
          refine WO.gyes rfl rfl (WO.mv rfl (WO.gyes rfl rfl (WO.mv rfl (WO.gyes rfl rfl ?_))))
          refine WO.bin rfl rfl (by decide) (by decide) rfl ?_
          refine WO.gyes rfl rfl ?_
          obtain ⟨x14, e15, h⟩ := bindS h
          refine WO.ixS rfl rfl hot0.slv (at?_lt e15) rfl ?_
          refine WO.gyes rfl rfl ?_
          refine WO.ldF rfl hot0z (fun _ hi => hi.1) (at?_get e15) rfl rfl (limLe_self _) ?_
          refine WO.gyes rfl rfl ?_
          obtain ⟨r16, e17, h⟩ := bindS h
          refine WO.callE (S := S10) rfl rfl (F70_ok e17) (fun S18 c19 => ?_)
          have hot0z := hot0z.tow c19
          have hot0 := hot0.to c19
          obtain rfl := someI h
          refine WO.pickT rfl rfl ?_
          refine WO.nil ?_
          exact ⟨S18, rfl, rfl, c19, (Cov.cons rfl (Cov.skip rfl (Cov.skip rfl (Cov.skip rfl (Cov.skip rfl (Cov.skip rfl (Cov.skip rfl (Cov.skip rfl (Cov.skip rfl (Cov.skip rfl (Cov.skip rfl (Cov.skip rfl (Cov.skip rfl (Cov.refl _))))))))))))))⟩
        · have h := e22
          have h := iteF q20 h
          obtain rfl := someI h
          refine WO.gno rfl rfl (WO.gno rfl rfl (WO.gno rfl rfl (WO.gno rfl rfl (WO.gno rfl rfl (WO.gno rfl rfl (WO.gno rfl rfl (WO.gno rfl rfl (WO.gno rfl rfl (WO.gno rfl rfl ?_)))))))))
          refine WO.pickF rfl rfl ?_
          refine WO.nil ?_
          exact ⟨S10, rfl, rfl, Ch.refl _ _, (Cov.cons rfl (Cov.skip rfl (Cov.skip rfl (Cov.skip rfl (Cov.skip rfl (Cov.skip rfl (Cov.skip rfl (Cov.skip rfl (Cov.skip rfl (Cov.skip rfl (Cov.skip rfl (Cov.skip rfl (Cov.skip rfl (Cov.refl _))))))))))))))⟩
        have hot0z := hot0z.tow c24
        have hot0 := hot0.to c24
        refine WO.nil (thenL_n ?_)
        refine WC.cond rfl (fun q25 => ?_) (fun q25 => ?_)
        · have h := iteT q25 h
          refine WC.skip (thenL_n (WC.seq (WC.block ?_)))
          refine WC.drawN rfl rfl ?_
          have hot0z := hot0.oz
          refine WO.mv rfl (WO.mv rfl (WO.mv rfl (WO.mv rfl ?_)))
          refine WO.bin rfl rfl (by decide) (by decide) rfl ?_
          refine WO.mv rfl (WO.mv rfl ?_)
          refine WO.bin rfl rfl (by decide) (by decide) rfl ?_
          obtain ⟨x26, e27, h⟩ := bindS h
          refine WO.ixS rfl rfl hot0.slv (at?_lt e27) rfl ?_
          refine WO.ldF rfl hot0z (fun _ hi => hi.1) (at?_get e27) rfl rfl (limLe_self _) ?_
          refine WO.mv rfl (WO.mv rfl ?_)
          obtain ⟨x28, e29, h⟩ := bindS h
          refine WO.ixS rfl rfl hot0.slv (at?_lt e29) rfl ?_
          refine WO.ldF rfl hot0z (fun _ hi => hi.1) (at?_get e29) rfl rfl (limLe_self _) ?_
          obtain ⟨u30, e31, h⟩ := bindS h
          refine WO.ixS rfl rfl hot0.slv (ck_some e31) rfl ?_
          refine WO.stI (u' := x26) rfl rfl hot0 (ck_nat e31) rfl rfl (fun S32 c33 hot0 => ?_)
          obtain ⟨u34, e35, h⟩ := bindS h
          refine WO.ixS rfl rfl hot0.slv (ck_some e35) rfl ?_
          refine WO.stI (u' := x28) rfl rfl hot0 (ck_nat e35) rfl rfl (fun S36 c37 hot0 => ?_)
          refine WO.nil (blockL_n (thenL_n (WC.region (WO.mv rfl ?_))))
          refine WO.bin rfl rfl (by decide) (by decide) rfl ?_
          refine WO.asg rfl (WO.nil (thenL_n ?_))
          obtain rfl := someI h
          exact ⟨_, rfl, ⟨S36, rfl, rfl, (Cov.cons rfl (Cov.cons rfl (Cov.cons rfl (Cov.cons rfl (Cov.cons rfl (Cov.nil _)))))), hot0⟩⟩
        · have h := iteF q25 h
          refine WC.exit (thenL_e (thenL_e ?_))
          obtain rfl := someI h
          exact ⟨_, rfl, rfl, ⟨S23, rfl, rfl, (Cov.cons rfl (Cov.cons rfl (Cov.cons rfl (Cov.cons rfl (Cov.nil _))))), hot0⟩⟩
      rintro _ _ _ _ ⟨rfl, ⟨S40, rfl, rfl, hc41, hot0⟩⟩
      refine blockL_s (blockL_n (thenL_n (WC.cov hc41 (WC.region (WO.mv rfl ?_)))))
      refine WO.bin rfl rfl (by decide) (by decide) rfl ?_
      refine WO.asg rfl (WO.nil (thenL_n ?_))
      obtain rfl := someI h
      exact ⟨_, rfl, ⟨S40, rfl, rfl, (Cov.cons rfl (Cov.cons rfl (Cov.cons rfl (Cov.cons rfl (Cov.nil _))))), hot0⟩⟩
    · have h := iteF q6 h
      refine WC.exit (thenL_e (thenL_e ?_))
      obtain rfl := someI h
      exact ⟨_, rfl, rfl, ⟨S4, rfl, rfl, (Cov.cons rfl (Cov.nil _)), hot0⟩⟩
  rintro _ _ _ _ ⟨rfl, ⟨S44, rfl, rfl, hc45, hot0⟩⟩
  refine blockL_s ?_
  obtain rfl := someI h
  exact ⟨.inl rfl, _, _, (resK_cov hc45 rfl), rfl, ⟨rfl, hot0.ip Lay.flat_fl⟩⟩
end Go.Proofs.Ytaphdnpjpmnaeaa

namespace Go.Proofs.Ytaphdnpjpmnaeaa
open Go.Am
theorem F50.fn : E.fn 50 = some ⟨134, (Try.f50.body.getD .skip), Try.f50.results.toList, []⟩ := rfl
theorem F50_ok {F : Nat} {m : Mem} {n : Nat} {r : (List Int)} {t0 : List Int} {t1 : Int} {t2 : Int} {t3 : Int} {vt0 : SV} {fl : Nat} {bw : Nat} (h : F50 F t0 t1 t2 t3 = some r) (hfl : fl ≤ n) (kt0 : Iv Y3 fl n bw m vt0 t0) : Ret E fl 50 [.sc vt0, .sc (.int .i64 t1), .sc (.int .i64 t2), .sc (.int .i64 t3)] m n (fun v m' n' => v = .tup [] ∧ Ip Y3 n bw m m' vt0 r) := by
  unfold F50 at h
  refine Ret.walk F50.fn ?_
  refine WC.startI (b := bw) hfl fun S0 em en hz hbw => ?_
  have hot0 := kt0.iw em en hz hbw
  refine WC.seq (WC.region (WO.asg rfl (WO.nil (thenL_n (WC.seq (WC.region (WO.asg rfl (WO.nil (thenL_n ?_)))))))))
  refine WC.block ?_
  obtain ⟨b18, e19, h⟩ := bindS h
  refine WC.loopD e19 (fun s1 l' m' n' => ∃ S2 : Cx fl, S2.m = m' ∧ S2.n = n' ∧ Cov l' [(0, .sc vt0), (1, .sc (.int .i64 s1.1)), (2, .sc (.int .i64 s1.2.1)), (3, .sc (.int .i64 s1.2.2.1)), (8, .sc (.bool s1.2.2.2.1)), (9, .sc (.bool s1.2.2.2.2.1))] ∧ Iw Y3 S2 2 n bw m vt0 s1.2.2.2.2.2) (fun b e l' m' n' => e = .ret ∧ ∃ S3 : Cx fl, S3.m = m' ∧ S3.n = n' ∧ Cov l' [(0, .sc vt0)] ∧ Iw Y3 S3 2 n bw m vt0 b) (by exact ⟨S0, rfl, rfl, (Cov.cons rfl (Cov.cons rfl (Cov.cons rfl (Cov.cons rfl (Cov.cons rfl (Cov.cons rfl (Cov.nil _))))))), hot0⟩) ?_ ?_
  · clear h
    rintro s1 q _ _ _ ⟨S4, rfl, rfl, hc5, hot0⟩ h
    unfold F50_l0 at h
    refine WC.cov hc5 (WC.block (WC.seq (WC.region (WO.mv rfl (WO.mv rfl ?_)))))
    refine WO.bin rfl rfl (by decide) (by decide) rfl ?_
    refine WO.asg rfl (WO.nil (thenL_n (WC.seq (WC.seq (WC.region (WO.mv rfl ?_))))))
    refine WO.bin rfl rfl (by decide) (by decide) rfl ?_
    refine WO.nil (thenL_n ?_)
    refine WC.cond rfl (fun q6 => ?_) (fun q6 => ?_)
    · have h := iteT q6 h
      refine WC.seq (WC.region (WO.mv rfl (WO.mv rfl (WO.mv rfl ?_))))
      obtain ⟨r7, e8, h⟩ := bindS h
      refine WO.callW (S := S4) hot0 rfl rfl rfl (fun bq hI hB => F64_ok e8 S4.le hI) Lay.flat_fl (fun S9 c10 hot0 => ?_)
      refine WO.nil (thenL_n (WC.ret (thenL_r (blockL_r (thenL_r ?_)))))
      obtain rfl := someI h
      exact ⟨_, rfl, rfl, ⟨S9, rfl, rfl, (Cov.cons rfl (Cov.nil _)), hot0⟩⟩
    · have h := iteF q6 h
      refine WC.skip (thenL_n (WC.seq (WC.seq (WC.region (WO.mv rfl ?_)))))
      refine WO.bin rfl rfl (by decide) (by decide) rfl ?_
      refine WO.nil (thenL_n ?_)
      refine WC.cond rfl (fun q11 => ?_) (fun q11 => ?_)
      · have h := iteT q11 h
        refine WC.seq (WC.region (WO.mv rfl (WO.mv rfl (WO.mv rfl ?_))))
        cases h
      · have h := iteF q11 h
        refine WC.skip (thenL_n (WC.seq (WC.seq (WC.region (WO.mv rfl ?_)))))
        refine WO.do rfl rfl ?_
        refine WO.nil (thenL_n ?_)
        obtain ⟨b13, e14, h⟩ := bindS h
        refine WC.mono (Q' := (fun b e l' m' n' => e = .normal ∧ ∃ S15 : Cx fl, S15.m = m' ∧ S15.n = n' ∧ Cov l' [(0, .sc vt0), (1, .sc (.int .i64 s1.1)), (2, .sc (.int .i64 s1.2.1)), (3, .sc (.int .i64 b.1)), (8, .sc (.bool s1.2.2.2.1)), (9, .sc (.bool s1.2.2.2.2.1)), (10, .sc (.int .i64 ((wrapA .i64 (s1.2.1 - s1.1)))))] ∧ Iw Y3 S15 2 n bw m vt0 b.2) b13) ?_ ?_
        · have h := e14
          dsimp only at h ⊢
          refine WC.cond rfl (fun q12 => ?_) (fun q12 => ?_)
          · have h := iteT q12 h
            refine WC.seq (WC.region (WO.mv rfl (WO.mv rfl (WO.mv rfl ?_))))
            cases h
          · have h := iteF q12 h
            refine WC.skip ?_
            obtain rfl := someI h
            exact ⟨rfl, ⟨S4, rfl, rfl, (Cov.cons rfl (Cov.cons rfl (Cov.cons rfl (Cov.cons rfl (Cov.cons rfl (Cov.cons rfl (Cov.cons rfl (Cov.nil _)))))))), hot0⟩⟩
        dsimp only
        rintro _ _ _ _ ⟨rfl, ⟨S16, rfl, rfl, hc17, hot0⟩⟩
        refine thenL_n (WC.cov hc17 (WC.seq (WC.region (WO.mv rfl (WO.mv rfl (WO.mv rfl ?_))))))
        cases h
  rintro _ _ _ _ ⟨rfl, ⟨S20, rfl, rfl, hc21, hot0⟩⟩
  refine blockL_r ?_
  obtain rfl := someI h
  exact ⟨.inr rfl, _, _, (resK_cov hc21 rfl), rfl, ⟨rfl, hot0.ip Lay.flat_fl⟩⟩
end Go.Proofs.Ytaphdnpjpmnaeaa

namespace Go.Proofs.Ytaphdnpjpmnaeaa
open Go.Am
theorem F35.fn : E.fn 35 = some ⟨11, (Try.f35.body.getD .skip), Try.f35.results.toList, []⟩ := rfl
theorem F35_ok {F : Nat} {m : Mem} {n : Nat} {r : (List Int)} {t0 : List Int} {vt0 : SV} {fl : Nat} {bw : Nat} (h : F35 F t0 = some r) (hfl : fl ≤ n) (kt0 : Iv Y3 fl n bw m vt0 t0) : Ret E fl 35 [.sc vt0] m n (fun v m' n' => v = .tup [] ∧ Ip Y3 n bw m m' vt0 r) := by
  unfold F35 at h
  refine Ret.walk F35.fn ?_
  refine WC.startI (b := bw) hfl fun S0 em en hz hbw => ?_
  have hot0 := kt0.iw em en hz hbw
  refine WC.seq (WC.region (WO.mv rfl ?_))
  refine WO.lenS rfl hot0.slv rfl ?_
  refine WO.asg rfl (WO.nil (thenL_n (WC.region (WO.mv rfl (WO.mv rfl (WO.mv rfl ?_))))))
  refine WO.conv rfl rfl rfl rfl ?_
  obtain ⟨r1, e2, h⟩ := bindS h
  refine WO.callE (S := S0) rfl rfl (F29_ok e2) (fun S3 c4 => ?_)
  have hot0 := hot0.to c4
  obtain ⟨r5, e6, h⟩ := bindS h
  refine WO.callW (S := S3) hot0 rfl rfl rfl (fun bq hI hB => F50_ok e6 S3.le hI) Lay.flat_fl (fun S7 c8 hot0 => ?_)
  refine WO.nil ?_
  obtain rfl := someI h
  exact ⟨.inl rfl, _, _, rfl, rfl, ⟨rfl, hot0.ip Lay.flat_fl⟩⟩
end Go.Proofs.Ytaphdnpjpmnaeaa

namespace Go.Proofs.Ytaphdnpjpmnaeaa
open Go.Am
theorem F36.fn : E.fn 36 = some ⟨28, (Try.f36.body.getD .skip), Try.f36.results.toList, []⟩ := rfl
theorem F36_ok {F : Nat} {m : Mem} {n : Nat} {r : (List Int)} {t0 : List Int} {vt0 : SV} {fl : Nat} {bw : Nat} (h : F36 F t0 = some r) (hfl : fl ≤ n) (kt0 : Iv Y3 fl n bw m vt0 t0) : Ret E fl 36 [.sc vt0] m n (fun v m' n' => v = .tup [] ∧ Ip Y3 n bw m m' vt0 r) := by
  unfold F36 at h
  refine Ret.walk F36.fn ?_
  refine WC.startI (b := bw) hfl fun S0 em en hz hbw => ?_
  have hot0 := kt0.iw em en hz hbw
  refine WC.seq (WC.region (WO.mv rfl ?_))
  refine WO.lenS rfl hot0.slv rfl ?_
  refine WO.bin rfl rfl (by decide) (by decide) rfl ?_
  refine WO.asg rfl (WO.asg rfl (WO.nil (thenL_n (WC.block ?_))))
  obtain ⟨b19, e20, h⟩ := bindS h
  refine WC.loopD e20 (fun s1 l' m' n' => ∃ S2 : Cx fl, S2.m = m' ∧ S2.n = n' ∧ Cov l' [(0, .sc vt0), (2, .sc (.int .i64 s1.1)), (3, .sc (.int .i64 s1.2.1))] ∧ Iw Y3 S2 2 n bw m vt0 s1.2.2) (fun b e l' m' n' => e = .exit 0 ∧ ∃ S3 : Cx fl, S3.m = m' ∧ S3.n = n' ∧ Cov l' [(0, .sc vt0)] ∧ Iw Y3 S3 2 n bw m vt0 b) (by exact ⟨S0, rfl, rfl, (Cov.cons rfl (Cov.cons rfl (Cov.cons rfl (Cov.nil _)))), hot0⟩) ?_ ?_
  · clear h
    rintro s1 q _ _ _ ⟨S4, rfl, rfl, hc5, hot0⟩ h
    unfold F36_l0 at h
    refine WC.cov hc5 (WC.seq (WC.seq (WC.region (WO.mv rfl (WO.mv rfl ?_)))))
    refine WO.bin rfl rfl (by decide) (by decide) rfl ?_
    refine WO.nil (thenL_n ?_)
    refine WC.cond rfl (fun q6 => ?_) (fun q6 => ?_)
    · have h := iteT q6 h
      refine WC.skip (thenL_n (WC.seq (WC.block ?_)))
      refine WC.drawN rfl rfl ?_
      have hot0z := hot0.oz
      refine WO.mv rfl (WO.mv rfl (WO.mv rfl (WO.mv rfl (WO.mv rfl (WO.mv rfl ?_)))))
      obtain ⟨x7, e8, h⟩ := bindS h
      refine WO.ixS rfl rfl hot0.slv (at?_lt e8) rfl ?_
      refine WO.ldF rfl hot0z (fun _ hi => hi.1) (at?_get e8) rfl rfl (limLe_self _) ?_
      refine WO.mv rfl (WO.mv rfl ?_)
      obtain ⟨x9, e10, h⟩ := bindS h
      refine WO.ixS rfl rfl hot0.slv (at?_lt e10) rfl ?_
      refine WO.ldF rfl hot0z (fun _ hi => hi.1) (at?_get e10) rfl rfl (limLe_self _) ?_
      obtain ⟨u11, e12, h⟩ := bindS h
      refine WO.ixS rfl rfl hot0.slv (ck_some e12) rfl ?_
      refine WO.stI (u' := x7) rfl rfl hot0 (ck_nat e12) rfl rfl (fun S13 c14 hot0 => ?_)
      obtain ⟨u15, e16, h⟩ := bindS h
      refine WO.ixS rfl rfl hot0.slv (ck_some e16) rfl ?_
      refine WO.stI (u' := x9) rfl rfl hot0 (ck_nat e16) rfl rfl (fun S17 c18 hot0 => ?_)
      refine WO.nil (blockL_n (thenL_n (WC.region (WO.mv rfl ?_))))
      refine WO.bin rfl rfl (by decide) (by decide) rfl ?_
      refine WO.mv rfl ?_
      refine WO.bin rfl rfl (by decide) (by decide) rfl ?_
      refine WO.asg rfl (WO.asg rfl (WO.nil (thenL_n ?_)))
      obtain rfl := someI h
      exact ⟨_, rfl, ⟨S17, rfl, rfl, (Cov.cons rfl (Cov.cons rfl (Cov.cons rfl (Cov.nil _)))), hot0⟩⟩
    · have h := iteF q6 h
      refine WC.exit (thenL_e (thenL_e ?_))
      obtain rfl := someI h
      exact ⟨_, rfl, rfl, ⟨S4, rfl, rfl, (Cov.cons rfl (Cov.nil _)), hot0⟩⟩
  rintro _ _ _ _ ⟨rfl, ⟨S21, rfl, rfl, hc22, hot0⟩⟩
  refine blockL_s ?_
  obtain rfl := someI h
  exact ⟨.inl rfl, _, _, (resK_cov hc22 rfl), rfl, ⟨rfl, hot0.ip Lay.flat_fl⟩⟩
end Go.Proofs.Ytaphdnpjpmnaeaa

namespace Go.Proofs.Ytaphdnpjpmnaeaa
open Go.Am
theorem F26.fn : E.fn 26 = some ⟨43, (Try.f26.body.getD .skip), Try.f26.results.toList, []⟩ := rfl
theorem F26_ok {F : Nat} {m : Mem} {n : Nat} {r : (List Int)} {t0 : List Int} {vt0 : SV} (h : F26 F t0 = some r) (kt0 : Vw Y3 n m vt0 t0) : Ret E n 26 [.sc vt0] m n (fun v m' n' => ∃ w, v = .sc w ∧ Fr Y3 n m' n' w r) := by
  unfold F26 at h
  refine Ret.walk F26.fn ?_
  refine WC.start fun S0 em en hz => ?_
  have hot0 := kt0.rdS em hz
  refine WC.seq (WC.region (WO.asg rfl (WO.nil (thenL_n (WC.seq (WC.region (WO.asg rfl (WO.nil (thenL_n ?_)))))))))
  refine WC.seq (WC.seq (WC.region (WO.mv rfl ?_)))
  refine WO.lenS rfl hot0.slv rfl ?_
  refine WO.mv rfl (WO.nil (thenL_n (WC.block ?_)))
  obtain ⟨b36, e37, h⟩ := bindS h
  refine WC.loopD e37 (fun s1 l' m' n' => ∃ S3 : Cx n, ∃ v4 : SV, S3.m = m' ∧ S3.n = n' ∧ Cov l' [(0, .sc vt0), (3, .sc v4), (9, .sc (.int .i64 ((t0.length : Int)))), (10, .sc (.int .i64 s1.2))] ∧ Rd Y3 S3 vt0 t0 ∧ Ow Y3 S3 2 v4 s1.1) (fun b e l' m' n' => e = .exit 0 ∧ ∃ S5 : Cx n, ∃ v6 : SV, S5.m = m' ∧ S5.n = n' ∧ Cov l' [(3, .sc v6)] ∧ Ow Y3 S5 2 v6 b) (by exact ⟨S0, .nils, rfl, rfl, (Cov.cons rfl (Cov.cons rfl (Cov.cons rfl (Cov.cons rfl (Cov.nil _))))), hot0, Ow.nil⟩) ?_ ?_
  · clear h
    rintro s1 q _ _ _ ⟨S7, v8, rfl, rfl, hc9, hot0, ho3⟩ h
    unfold F26_l1 at h
    refine WC.cov hc9 (WC.seq (WC.region ?_))
    refine WO.bin rfl rfl (by decide) (by decide) rfl ?_
    refine WO.nil (thenL_n (WC.seq ?_))
    refine WC.cond rfl (fun q10 => ?_) (fun q10 => ?_)
    · have h := iteT q10 h
      refine WC.skip (thenL_n (WC.seq (WC.block (WC.seq (WC.region (WO.mv rfl (WO.asg rfl (WO.nil (thenL_n ?_)))))))))
      refine WC.seq (WC.region (WO.mv rfl (WO.asg rfl (WO.asg rfl (WO.nil (thenL_n (WC.seq (WC.seq (WC.region ?_)))))))))
      refine WO.mv rfl (WO.mv rfl ?_)
      obtain ⟨x11, e12, h⟩ := bindS h
      refine WO.ixS rfl rfl hot0.slv (at?_lt e12) rfl ?_
      refine WO.ldF rfl hot0.ro (fun _ hi => hi) (at?_get e12) rfl rfl rfl ?_
      refine WO.asg rfl (WO.nil (thenL_n (WC.block ?_)))
      obtain ⟨b21, e22, h⟩ := bindS h
      refine WC.loopD e22 (fun s13 l' m' n' => ∃ S14 : Cx n, S14.m = m' ∧ S14.n = n' ∧ Cov l' [(0, .sc vt0), (3, .sc v8), (4, .sc (.int .i64 s1.2)), (5, .sc (.int .i64 s13.1)), (6, .sc (.int .i64 s13.2.1)), (7, .sc (.int .i64 s13.2.2)), (9, .sc (.int .i64 ((t0.length : Int)))), (10, .sc (.int .i64 s1.2))] ∧ Rd Y3 S14 vt0 t0 ∧ Ow Y3 S14 2 v8 s1.1) (fun b e l' m' n' => e = .exit 2 ∧ ∃ S15 : Cx n, S15.m = m' ∧ S15.n = n' ∧ Cov l' [(0, .sc vt0), (3, .sc v8), (4, .sc (.int .i64 s1.2)), (5, .sc (.int .i64 b.1)), (6, .sc (.int .i64 b.2)), (9, .sc (.int .i64 ((t0.length : Int)))), (10, .sc (.int .i64 s1.2))] ∧ Rd Y3 S15 vt0 t0 ∧ Ow Y3 S15 2 v8 s1.1) (by exact ⟨S7, rfl, rfl, (Cov.cons rfl (Cov.cons rfl (Cov.cons rfl (Cov.cons rfl (Cov.cons rfl (Cov.cons rfl (Cov.cons rfl (Cov.cons rfl (Cov.nil _))))))))), hot0, ho3⟩) ?_ ?_
      · clear h
        rintro s13 q _ _ _ ⟨S16, rfl, rfl, hc17, hot0, ho3⟩ h
        unfold F26_l0 at h
        refine WC.cov hc17 (WC.seq (WC.seq (WC.region (WO.mv rfl (WO.mv rfl ?_)))))
        refine WO.bin rfl rfl (by decide) (by decide) rfl ?_
        refine WO.nil (thenL_n ?_)
        refine WC.cond rfl (fun q18 => ?_) (fun q18 => ?_)
        · have h := iteT q18 h
          refine WC.skip (thenL_n (WC.seq (WC.block (WC.region (WO.mv rfl ?_)))))
          refine WO.bin rfl rfl (by decide) (by decide) rfl ?_
          refine WO.mv rfl (WO.mv rfl ?_)
          refine WO.minD rfl rfl ?_
          refine WO.asg rfl (WO.asg rfl (WO.nil (blockL_n (thenL_n (WC.region (WO.mv rfl (WO.mv rfl ?_)))))))
          obtain ⟨x19, e20, h⟩ := bindS h
          refine WO.ixS rfl rfl hot0.slv (at?_lt e20) rfl ?_
          refine WO.ldF rfl hot0.ro (fun _ hi => hi) (at?_get e20) rfl rfl rfl ?_
          refine WO.asg rfl (WO.nil (thenL_n ?_))
          obtain rfl := someI h
          exact ⟨_, rfl, ⟨S16, rfl, rfl, (Cov.cons rfl (Cov.cons rfl (Cov.cons rfl (Cov.cons rfl (Cov.cons rfl (Cov.cons rfl (Cov.cons rfl (Cov.cons rfl (Cov.nil _))))))))), hot0, ho3⟩⟩
        · have h := iteF q18 h
          refine WC.exit (thenL_e (thenL_e ?_))
          obtain rfl := someI h
          exact ⟨_, rfl, rfl, ⟨S16, rfl, rfl, (Cov.cons rfl (Cov.cons rfl (Cov.cons rfl (Cov.cons rfl (Cov.cons rfl (Cov.cons rfl (Cov.cons rfl (Cov.nil _)))))))), hot0, ho3⟩⟩
      rintro _ _ _ _ ⟨rfl, ⟨S23, rfl, rfl, hc24, hot0, ho3⟩⟩
      refine blockL_s (thenL_n (WC.cov hc24 (WC.seq (WC.region (WO.mv rfl (WO.mv rfl ?_))))))
      refine WO.bin rfl rfl (by decide) (by decide) rfl ?_
      refine WO.nil (thenL_n ?_)
      refine WC.cond rfl (fun q25 => ?_) (fun q25 => ?_)
      · have h := iteT q25 h
        refine WC.region (WO.mv rfl (WO.mv rfl ?_))
        refine WO.bsS (A := Y3) (S := S23) (M := [b21.1]) (cs := [.int .i64 b21.1]) 3 rfl rfl rfl ⟨[.int .i64 b21.1], _, rfl, rfl, rfl⟩ rfl (fun v26 S27 c28 ho29 => ?_)
        have hot0 := hot0.to c28
        have ho3 := ho3.to c28
        obtain ⟨L30, e31, h⟩ := bindS h
        refine WO.appS rfl rfl ho3 ho29.ro e31 rfl rfl (fun v32 S33 c34 ho35 => ?_)
        have hot0 := hot0.to c34
        have ho29 := ho29.to c34
        refine WO.asg rfl (WO.nil (blockL_n (thenL_n (WC.region ?_))))
        refine WO.bin rfl rfl (by decide) (by decide) rfl ?_
        refine WO.mv rfl (WO.nil (thenL_n ?_))
        obtain rfl := someI h
        exact ⟨_, rfl, ⟨S33, v32, rfl, rfl, (Cov.cons rfl (Cov.cons rfl (Cov.cons rfl (Cov.cons rfl (Cov.nil _))))), hot0, ho35⟩⟩
      · have h := iteF q25 h
        refine WC.skip (blockL_n (thenL_n (WC.region ?_)))
        refine WO.bin rfl rfl (by decide) (by decide) rfl ?_
        refine WO.mv rfl (WO.nil (thenL_n ?_))
        obtain rfl := someI h
        exact ⟨_, rfl, ⟨S23, v8, rfl, rfl, (Cov.cons rfl (Cov.cons rfl (Cov.cons rfl (Cov.cons rfl (Cov.nil _))))), hot0, ho3⟩⟩
    · have h := iteF q10 h
      refine WC.exit (thenL_e (thenL_e ?_))
      obtain rfl := someI h
      exact ⟨_, rfl, rfl, ⟨S7, v8, rfl, rfl, (Cov.cons rfl (Cov.nil _)), ho3⟩⟩
  rintro _ _ _ _ ⟨rfl, ⟨S38, v39, rfl, rfl, hc40, ho3⟩⟩
  refine blockL_s (thenL_n (WC.cov hc40 (WC.seq (WC.region (WO.mv rfl ?_)))))
  obtain ⟨r41, e42, h⟩ := bindS h
  refine WO.callI (S := S38) ho3 rfl rfl (fun bq hI hB => F35_ok e42 S38.le hI) Lay.flat_fl (fun S43 c44 ho3 => ?_)
  refine WO.nil (thenL_n (WC.seq (WC.region (WO.mv rfl ?_))))
  obtain ⟨r45, e46, h⟩ := bindS h
  refine WO.callI (S := S43) ho3 rfl rfl (fun bq hI hB => F36_ok e46 S43.le hI) Lay.flat_fl (fun S47 c48 ho3 => ?_)
  refine WO.nil (thenL_n (WC.seq (WC.region (WO.mv rfl (WO.asg rfl (WO.nil (thenL_n (WC.ret ?_))))))))
  obtain rfl := someI h
  exact ⟨.inr rfl, _, _, rfl, rfl, ⟨v39, rfl, (ho3.fr Lay.flat_fl)⟩⟩
end Go.Proofs.Ytaphdnpjpmnaeaa

namespace Go.Proofs.Ytaphdnpjpmnaeaa
open Go.Am
theorem F11.fn : E.fn 11 = some ⟨32, (Try.f11.body.getD .skip), Try.f11.results.toList, []⟩ := rfl
theorem F11_ok {F : Nat} {m : Mem} {n : Nat} {r : Int} {t0 : List (List Int)} {t1 : Int} {vt0 : SV} (h : F11 F t0 t1 = some r) (kt0 : Vw Y23 n m vt0 t0) : Ret E n 11 [.sc vt0, .sc (.int .i64 t1)] m n (fun v m' n' => v = .sc (.int .i64 r)) := by
  unfold F11 at h
  refine Ret.walk F11.fn ?_
  refine WC.start fun S0 em en hz => ?_
  have hot0 := kt0.rdS em hz
  refine WC.seq (WC.region (WO.asg rfl (WO.nil (thenL_n (WC.seq (WC.region (WO.asg rfl (WO.nil (thenL_n ?_)))))))))
  refine WC.seq (WC.seq (WC.region (WO.mv rfl ?_)))
  refine WO.lenS rfl hot0.slv rfl ?_
  refine WO.mv rfl (WO.nil (thenL_n (WC.block ?_)))
  obtain ⟨b27, e28, h⟩ := bindS h
  refine WC.loopD e28 (fun s1 l' m' n' => ∃ S2 : Cx n, S2.m = m' ∧ S2.n = n' ∧ Cov l' [(0, .sc vt0), (1, .sc (.int .i64 t1)), (5, .sc (.int .i64 s1.1)), (9, .sc vt0), (10, .sc (.int .i64 ((t0.length : Int)))), (11, .sc (.int .i64 s1.2))] ∧ Rd Y23 S2 vt0 t0) (fun b e l' m' n' => e = .exit 0 ∧ ∃ S3 : Cx n, S3.m = m' ∧ S3.n = n' ∧ Cov l' [(0, .sc vt0), (5, .sc (.int .i64 b))] ∧ Rd Y23 S3 vt0 t0) (by exact ⟨S0, rfl, rfl, (Cov.cons rfl (Cov.cons rfl (Cov.cons rfl (Cov.cons rfl (Cov.cons rfl (Cov.cons rfl (Cov.nil _))))))), hot0⟩) ?_ ?_
  · clear h
    rintro s1 q _ _ _ ⟨S4, rfl, rfl, hc5, hot0⟩ h
    unfold F11_l1 at h
    refine WC.cov hc5 (WC.seq (WC.region ?_))
    refine WO.bin rfl rfl (by decide) (by decide) rfl ?_
    refine WO.nil (thenL_n (WC.seq ?_))
    refine WC.cond rfl (fun q6 => ?_) (fun q6 => ?_)
    · have h := iteT q6 h
      refine WC.skip (thenL_n (WC.seq (WC.block (WC.seq (WC.region ?_)))))
      obtain ⟨L7, e8, h⟩ := bindS h
      refine WO.ixS rfl rfl hot0.slv (at?_lt e8) rfl ?_
      refine WO.ldS rfl hot0.ro (fun _ hi => hi) (at?_get e8) rfl rfl (fun v9 ho10 => ?_)
      have ho10 : Rd Y3 S4 v9 L7 := ho10
      refine WO.asg rfl (WO.nil (thenL_n (WC.seq (WC.region (WO.asg rfl (WO.nil (thenL_n (WC.seq (WC.seq ?_)))))))))
      refine WC.region (WO.mv rfl ?_)
      obtain ⟨r11, e12, h⟩ := bindS h
      refine WO.callF (S := S4) 2 rfl rfl (F26_ok e12 ho10.vw) Lay.flat_fl (fun v13 S15 c16 ho14 => ?_)
      have hot0 := hot0.to c16
      have ho10 := ho10.to c16
      refine WO.lenS rfl ho14.slv rfl ?_
      refine WO.mv rfl (WO.nil (thenL_n (WC.block ?_)))
      obtain ⟨b23, e24, h⟩ := bindS h
      refine WC.loopD e24 (fun s17 l' m' n' => ∃ S18 : Cx n, S18.m = m' ∧ S18.n = n' ∧ Cov l' [(0, .sc vt0), (1, .sc (.int .i64 t1)), (5, .sc (.int .i64 s1.1)), (8, .sc (.int .i64 s17.1)), (9, .sc vt0), (10, .sc (.int .i64 ((t0.length : Int)))), (11, .sc (.int .i64 s1.2)), (17, .sc (.int .i64 ((r11.length : Int)))), (18, .sc (.int .i64 s17.2))] ∧ Rd Y23 S18 vt0 t0) (fun b e l' m' n' => e = .exit 2 ∧ ∃ S19 : Cx n, S19.m = m' ∧ S19.n = n' ∧ Cov l' [(0, .sc vt0), (1, .sc (.int .i64 t1)), (5, .sc (.int .i64 s1.1)), (8, .sc (.int .i64 b)), (9, .sc vt0), (10, .sc (.int .i64 ((t0.length : Int)))), (11, .sc (.int .i64 s1.2))] ∧ Rd Y23 S19 vt0 t0) (by exact ⟨S15, rfl, rfl, (Cov.cons rfl (Cov.cons rfl (Cov.cons rfl (Cov.cons rfl (Cov.cons rfl (Cov.cons rfl (Cov.cons rfl (Cov.cons rfl (Cov.cons rfl (Cov.nil _)))))))))), hot0⟩) ?_ ?_
      · clear h
        rintro s17 q _ _ _ ⟨S20, rfl, rfl, hc21, hot0⟩ h
        unfold F11_l0 at h
        refine WC.cov hc21 (WC.seq (WC.region ?_))
        refine WO.bin rfl rfl (by decide) (by decide) rfl ?_
        refine WO.nil (thenL_n (WC.seq ?_))
        refine WC.cond rfl (fun q22 => ?_) (fun q22 => ?_)
        · have h := iteT q22 h
          refine WC.skip (thenL_n (WC.seq (WC.block (WC.region (WO.mv rfl (WO.mv rfl ?_))))))
          refine WO.bin rfl rfl (by decide) (by decide) rfl ?_
          refine WO.asg rfl (WO.nil (blockL_n (thenL_n (WC.region ?_))))
          refine WO.bin rfl rfl (by decide) (by decide) rfl ?_
          refine WO.mv rfl (WO.nil (thenL_n ?_))
          obtain rfl := someI h
          exact ⟨_, rfl, ⟨S20, rfl, rfl, (Cov.cons rfl (Cov.cons rfl (Cov.cons rfl (Cov.cons rfl (Cov.cons rfl (Cov.cons rfl (Cov.cons rfl (Cov.cons rfl (Cov.cons rfl (Cov.nil _)))))))))), hot0⟩⟩
        · have h := iteF q22 h
          refine WC.exit (thenL_e (thenL_e ?_))
          obtain rfl := someI h
          exact ⟨_, rfl, rfl, ⟨S20, rfl, rfl, (Cov.cons rfl (Cov.cons rfl (Cov.cons rfl (Cov.cons rfl (Cov.cons rfl (Cov.cons rfl (Cov.cons rfl (Cov.nil _)))))))), hot0⟩⟩
      rintro _ _ _ _ ⟨rfl, ⟨S25, rfl, rfl, hc26, hot0⟩⟩
      refine blockL_s (thenL_n (WC.cov hc26 (WC.region (WO.mv rfl (WO.mv rfl ?_)))))
      refine WO.bin rfl rfl (by decide) (by decide) rfl ?_
      refine WO.asg rfl (WO.nil (blockL_n (thenL_n (WC.region ?_))))
      refine WO.bin rfl rfl (by decide) (by decide) rfl ?_
      refine WO.mv rfl (WO.nil (thenL_n ?_))
      obtain rfl := someI h
      exact ⟨_, rfl, ⟨S25, rfl, rfl, (Cov.cons rfl (Cov.cons rfl (Cov.cons rfl (Cov.cons rfl (Cov.cons rfl (Cov.cons rfl (Cov.nil _))))))), hot0⟩⟩
    · have h := iteF q6 h
      refine WC.exit (thenL_e (thenL_e ?_))
      obtain rfl := someI h
      exact ⟨_, rfl, rfl, ⟨S4, rfl, rfl, (Cov.cons rfl (Cov.cons rfl (Cov.nil _))), hot0⟩⟩
  rintro _ _ _ _ ⟨rfl, ⟨S29, rfl, rfl, hc30, hot0⟩⟩
  refine blockL_s (thenL_n (WC.cov hc30 (WC.seq (WC.region (WO.mv rfl (WO.mv rfl ?_))))))
  refine WO.lenS rfl hot0.slv rfl ?_
  obtain ⟨x31, e32, h⟩ := bindS h
  refine WO.quoD rfl rfl e32 ?_
  refine WO.asg rfl (WO.nil (thenL_n (WC.ret ?_)))
  obtain rfl := someI h
  exact ⟨.inr rfl, _, _, rfl, rfl, rfl⟩
end Go.Proofs.Ytaphdnpjpmnaeaa

namespace Go.Proofs.Ytaphdnpjpmnaeaa
open Go.Am
theorem F27.fn : E.fn 27 = some ⟨27, (Try.f27.body.getD .skip), Try.f27.results.toList, []⟩ := rfl
theorem F27_ok {F : Nat} {m : Mem} {n : Nat} {r : (List Int)} {t0 : List Int} {t1 : List Int} {vt0 : SV} {vt1 : SV} (h : F27 F t0 t1 = some r) (kt0 : Vw Y3 n m vt0 t0) (kt1 : Vw Y3 n m vt1 t1) : Ret E n 27 [.sc vt0, .sc vt1] m n (fun v m' n' => ∃ w, v = .sc w ∧ Fr Y3 n m' n' w r) := by
  unfold F27 at h
  refine Ret.walk F27.fn ?_
  refine WC.start fun S0 em en hz => ?_
  have hot0 := kt0.rdS em hz
  have hot1 := kt1.rdS em hz
  refine WC.seq (WC.region (WO.asg rfl (WO.nil (thenL_n (WC.seq (WC.region (WO.mv rfl ?_)))))))
  refine WO.lenS rfl hot1.slv rfl ?_
  obtain ⟨L1, e2, h⟩ := bindS h
  refine WO.mkS (A := Y3) (S := S0) 2 rfl rfl e2 rfl rfl rfl (fun v3 S4 c5 ho6 => ?_)
  have hot0 := hot0.to c5
  have hot1 := hot1.to c5
  refine WO.asg rfl (WO.nil (thenL_n (WC.seq (WC.seq (WC.region (WO.mv rfl ?_))))))
  refine WO.lenS rfl hot0.slv rfl ?_
  refine WO.mv rfl (WO.nil (thenL_n (WC.block ?_)))
  obtain ⟨b21, e22, h⟩ := bindS h
  refine WC.loopD e22 (fun s7 l' m' n' => ∃ S8 : Cx n, S8.m = m' ∧ S8.n = n' ∧ Cov l' [(1, .sc vt1), (5, .sc v3), (11, .sc vt0), (12, .sc (.int .i64 ((t0.length : Int)))), (13, .sc (.int .i64 s7.1))] ∧ Rd Y3 S8 vt1 t1 ∧ Ow Y3 S8 2 v3 s7.2 ∧ Rd Y3 S8 vt0 t0) (fun b e l' m' n' => e = .exit 0 ∧ ∃ S9 : Cx n, S9.m = m' ∧ S9.n = n' ∧ Cov l' [(5, .sc v3)] ∧ Ow Y3 S9 2 v3 b) (by exact ⟨S4, rfl, rfl, (Cov.cons rfl (Cov.cons rfl (Cov.cons rfl (Cov.cons rfl (Cov.cons rfl (Cov.nil _)))))), hot1, ho6, hot0⟩) ?_ ?_
  · clear h
    rintro s7 q _ _ _ ⟨S10, rfl, rfl, hc11, hot1, ho6, hot0⟩ h
    unfold F27_l0 at h
    refine WC.cov hc11 (WC.seq (WC.region ?_))
    refine WO.bin rfl rfl (by decide) (by decide) rfl ?_
    refine WO.nil (thenL_n (WC.seq ?_))
    refine WC.cond rfl (fun q12 => ?_) (fun q12 => ?_)
    · have h := iteT q12 h
      refine WC.skip (thenL_n (WC.seq (WC.block (WC.seq (WC.region (WO.mv rfl ?_))))))
      obtain ⟨x13, e14, h⟩ := bindS h
      refine WO.ixS rfl rfl hot0.slv (at?_lt e14) rfl ?_
      refine WO.ldF rfl hot0.ro (fun _ hi => hi) (at?_get e14) rfl rfl rfl ?_
      refine WO.asg rfl (WO.asg rfl (WO.nil (thenL_n (WC.region (WO.mv rfl (WO.mv rfl (WO.mv rfl (WO.mv rfl ?_))))))))
      obtain ⟨x15, e16, h⟩ := bindS h
      refine WO.ixS rfl rfl hot1.slv (at?_lt e16) rfl ?_
      refine WO.ldF rfl hot1.ro (fun _ hi => hi) (at?_get e16) rfl rfl rfl ?_
      obtain ⟨u17, e18, h⟩ := bindS h
      refine WO.ixS rfl rfl ho6.slv (ck_some e18) rfl ?_
      refine WO.st1 (u' := x15) rfl rfl ho6 (ck_nat e18) rfl rfl (fun S19 c20 ho6 => ?_)
      have hot1 := hot1.to c20
      have hot0 := hot0.to c20
      refine WO.nil (blockL_n (thenL_n (WC.region ?_)))
      refine WO.bin rfl rfl (by decide) (by decide) rfl ?_
      refine WO.mv rfl (WO.nil (thenL_n ?_))
      obtain rfl := someI h
      exact ⟨_, rfl, ⟨S19, rfl, rfl, (Cov.cons rfl (Cov.cons rfl (Cov.cons rfl (Cov.cons rfl (Cov.cons rfl (Cov.nil _)))))), hot1, ho6, hot0⟩⟩
    · have h := iteF q12 h
      refine WC.exit (thenL_e (thenL_e ?_))
      obtain rfl := someI h
      exact ⟨_, rfl, rfl, ⟨S10, rfl, rfl, (Cov.cons rfl (Cov.nil _)), ho6⟩⟩
  rintro _ _ _ _ ⟨rfl, ⟨S23, rfl, rfl, hc24, ho6⟩⟩
  refine blockL_s (thenL_n (WC.cov hc24 (WC.seq (WC.region (WO.mv rfl (WO.asg rfl (WO.nil (thenL_n (WC.ret ?_)))))))))
  obtain rfl := someI h
  exact ⟨.inr rfl, _, _, rfl, rfl, ⟨v3, rfl, (ho6.fr Lay.flat_fl)⟩⟩
end Go.Proofs.Ytaphdnpjpmnaeaa

namespace Go.Proofs.Ytaphdnpjpmnaeaa
open Go.Am
theorem F13.fn : E.fn 13 = some ⟨27, (Try.f13.body.getD .skip), Try.f13.results.toList, []⟩ := rfl
theorem F13_ok {F : Nat} {m : Mem} {n : Nat} {r : (List Int)} {t0 : List (List Int)} {t1 : List Int} {vt0 : SV} {vt1 : SV} (h : F13 F t0 t1 = some r) (kt0 : Vw Y23 n m vt0 t0) (kt1 : Vw Y3 n m vt1 t1) : Ret E n 13 [.sc vt0, .sc vt1] m n (fun v m' n' => ∃ w, v = .sc w ∧ Fr Y3 n m' n' w r) := by
  unfold F13 at h
  refine Ret.walk F13.fn ?_
  refine WC.start fun S0 em en hz => ?_
  have hot0 := kt0.rdS em hz
  have hot1 := kt1.rdS em hz
  refine WC.seq (WC.region (WO.asg rfl (WO.nil (thenL_n (WC.seq (WC.region (WO.mv rfl ?_)))))))
  obtain ⟨r1, e2, h⟩ := bindS h
  refine WO.callF (S := S0) 2 rfl rfl (F19_ok e2 hot1.vw) Lay.flat_fl (fun v3 S5 c6 ho4 => ?_)
  have hot0 := hot0.to c6
  have hot1 := hot1.to c6
  refine WO.asg rfl (WO.nil (thenL_n (WC.seq (WC.seq (WC.region (WO.mv rfl ?_))))))
  refine WO.lenS rfl hot0.slv rfl ?_
  refine WO.mv rfl (WO.nil (thenL_n (WC.block ?_)))
  obtain ⟨b32, e33, h⟩ := bindS h
  refine WC.loopD e33 (fun s7 l' m' n' => ∃ S9 : Cx n, ∃ v10 : SV, S9.m = m' ∧ S9.n = n' ∧ Cov l' [(1, .sc vt1), (5, .sc v10), (11, .sc vt0), (12, .sc (.int .i64 ((t0.length : Int)))), (13, .sc (.int .i64 s7.2))] ∧ Rd Y3 S9 vt1 t1 ∧ Rd Y23 S9 vt0 t0 ∧ Ow Y3 S9 2 v10 s7.1) (fun b e l' m' n' => e = .exit 0 ∧ ∃ S11 : Cx n, ∃ v12 : SV, S11.m = m' ∧ S11.n = n' ∧ Cov l' [(5, .sc v12)] ∧ Ow Y3 S11 2 v12 b) (by exact ⟨S5, v3, rfl, rfl, (Cov.cons rfl (Cov.cons rfl (Cov.cons rfl (Cov.cons rfl (Cov.cons rfl (Cov.nil _)))))), hot1, hot0, ho4⟩) ?_ ?_
  · clear h
    rintro s7 q _ _ _ ⟨S13, v14, rfl, rfl, hc15, hot1, hot0, ho5⟩ h
    unfold F13_l0 at h
    refine WC.cov hc15 (WC.seq (WC.region ?_))
    refine WO.bin rfl rfl (by decide) (by decide) rfl ?_
    refine WO.nil (thenL_n (WC.seq ?_))
    refine WC.cond rfl (fun q16 => ?_) (fun q16 => ?_)
    · have h := iteT q16 h
      refine WC.skip (thenL_n (WC.seq (WC.block (WC.seq (WC.region ?_)))))
      obtain ⟨L17, e18, h⟩ := bindS h
      refine WO.ixS rfl rfl hot0.slv (at?_lt e18) rfl ?_
      refine WO.ldS rfl hot0.ro (fun _ hi => hi) (at?_get e18) rfl rfl (fun v19 ho20 => ?_)
      have ho20 : Rd Y3 S13 v19 L17 := ho20
      refine WO.asg rfl (WO.nil (thenL_n (WC.seq (WC.region (WO.mv rfl (WO.mv rfl ?_))))))
      obtain ⟨r21, e22, h⟩ := bindS h
      refine WO.callF (S := S13) 3 rfl rfl (F27_ok e22 ho20.vw hot1.vw) Lay.flat_fl (fun v23 S25 c26 ho24 => ?_)
      have hot1 := hot1.to c26
      have hot0 := hot0.to c26
      have ho5 := ho5.to c26
      have ho20 := ho20.to c26
      refine WO.asg rfl (WO.nil (thenL_n (WC.seq (WC.region (WO.mv rfl (WO.mv rfl ?_))))))
      obtain ⟨r27, e28, h⟩ := bindS h
      refine WO.callE (S := S25) rfl rfl (F17_ok e28 ho24.vw ho5.vw) (fun S29 c30 => ?_)
      have hot1 := hot1.to c30
      have hot0 := hot0.to c30
      have ho5 := ho5.to c30
      have ho20 := ho20.to c30
      have ho24 := ho24.to c30
      refine WO.bin rfl rfl (by decide) (by decide) rfl ?_
      refine WO.nil (thenL_n ?_)
      refine WC.cond rfl (fun q31 => ?_) (fun q31 => ?_)
      · have h := iteT q31 h
        refine WC.region (WO.mv rfl (WO.asg rfl (WO.nil (blockL_n (thenL_n (WC.region ?_))))))
        refine WO.bin rfl rfl (by decide) (by decide) rfl ?_
        refine WO.mv rfl (WO.nil (thenL_n ?_))
        have hot1 := hot1.ren 3 2
        have hot0 := hot0.ren 3 2
        have ho24 := ho24.ren (j := 2)
        obtain rfl := someI h
        exact ⟨_, rfl, ⟨(S29.ren 3 2), v23, rfl, rfl, (Cov.cons rfl (Cov.cons rfl (Cov.cons rfl (Cov.cons rfl (Cov.cons rfl (Cov.nil _)))))), hot1, hot0, ho24⟩⟩
      · have h := iteF q31 h
        refine WC.skip (blockL_n (thenL_n (WC.region ?_)))
        refine WO.bin rfl rfl (by decide) (by decide) rfl ?_
        refine WO.mv rfl (WO.nil (thenL_n ?_))
        obtain rfl := someI h
        exact ⟨_, rfl, ⟨S29, v14, rfl, rfl, (Cov.cons rfl (Cov.cons rfl (Cov.cons rfl (Cov.cons rfl (Cov.cons rfl (Cov.nil _)))))), hot1, hot0, ho5⟩⟩
    · have h := iteF q16 h
      refine WC.exit (thenL_e (thenL_e ?_))
      obtain rfl := someI h
      exact ⟨_, rfl, rfl, ⟨S13, v14, rfl, rfl, (Cov.cons rfl (Cov.nil _)), ho5⟩⟩
  rintro _ _ _ _ ⟨rfl, ⟨S34, v35, rfl, rfl, hc36, ho5⟩⟩
  refine blockL_s (thenL_n (WC.cov hc36 (WC.seq (WC.region (WO.mv rfl (WO.asg rfl (WO.nil (thenL_n (WC.ret ?_)))))))))
  obtain rfl := someI h
  exact ⟨.inr rfl, _, _, rfl, rfl, ⟨v35, rfl, (ho5.fr Lay.flat_fl)⟩⟩
end Go.Proofs.Ytaphdnpjpmnaeaa

namespace Go.Proofs.Ytaphdnpjpmnaeaa
open Go.Am
theorem F12.fn : E.fn 12 = some ⟨8, (Try.f12.body.getD .skip), Try.f12.results.toList, []⟩ := rfl
theorem F12_ok {F : Nat} {m : Mem} {n : Nat} {r : Bool} {t0 : List Int} {t1 : List Int} {vt0 : SV} {vt1 : SV} (h : F12 F t0 t1 = some r) (kt0 : Vw Y3 n m vt0 t0) (kt1 : Vw Y3 n m vt1 t1) : Ret E n 12 [.sc vt0, .sc vt1] m n (fun v m' n' => v = .sc (.bool r)) := by
  unfold F12 at h
  refine Ret.walk F12.fn ?_
  refine WC.start fun S0 em en hz => ?_
  have hot0 := kt0.rdS em hz
  have hot1 := kt1.rdS em hz
  refine WC.seq (WC.region (WO.asg rfl (WO.nil (thenL_n (WC.seq (WC.region (WO.mv rfl (WO.mv rfl ?_))))))))
  obtain ⟨r1, e2, h⟩ := bindS h
  refine WO.callE (S := S0) rfl rfl (F10_ok e2 hot0.vw hot1.vw) (fun S3 c4 => ?_)
  have hot0 := hot0.to c4
  have hot1 := hot1.to c4
  refine WO.asg rfl (WO.nil (thenL_n (WC.ret ?_)))
  obtain rfl := someI h
  exact ⟨.inr rfl, _, _, rfl, rfl, rfl⟩
end Go.Proofs.Ytaphdnpjpmnaeaa

namespace Go.Proofs.Ytaphdnpjpmnaeaa
open Go.Am
theorem F3.fn : E.fn 3 = some ⟨142, (Try.f3.body.getD .skip), Try.f3.results.toList, []⟩ := rfl
theorem F3_ok {F : Nat} {m : Mem} {n : Nat} {r : Bool} {t0 : Int} {t1 : List (List Int)} {t2 : Int} {t3 : List Int} {vt1 : SV} {vt3 : SV} (h : F3 F t0 t1 t2 t3 = some r) (kt1 : Vw Y23 n m vt1 t1) (kt3 : Vw Y3 n m vt3 t3) : Ret E n 3 [.sc (.int .i64 t0), .sc vt1, .sc (.int .i64 t2), .sc vt3] m n (fun v m' n' => v = .sc (.bool r)) := by
  unfold F3 at h
  refine Ret.walk F3.fn ?_
  refine WC.start fun S0 em en hz => ?_
  have hot1 := kt1.rdS em hz
  have hot3 := kt3.rdS em hz
  refine WC.seq (WC.region (WO.asg rfl (WO.nil (thenL_n (WC.seq (WC.region (WO.mv rfl (WO.mv rfl ?_))))))))
  obtain ⟨r1, e2, h⟩ := bindS h
  refine WO.callG (S := S0) [] [] rfl rfl (F4_ok (S0 := S0.mp []) e2 hot1.mp) (fun _ S5 S6 hb hR => ?_)
  obtain ⟨v3, rfl, hR0⟩ := hR
  have c7 : Ch 1 S0 S6 := hb.ch [] 1
  have hot1 := hot1.to c7
  have hot3 := hot3.to c7
  have ho4 := hR0.bkS hb rfl
  refine WO.mv rfl ?_
  refine WO.do rfl rfl ?_
  refine WO.do rfl rfl ?_
  refine WO.asg rfl (WO.asg rfl (WO.nil (thenL_n (WC.seq (WC.region (WO.mv rfl (WO.mv rfl (WO.mv rfl ?_))))))))
  obtain ⟨r8, e9, h⟩ := bindS h
  refine WO.callE (S := S6) rfl rfl (F5_ok e9 hot1.vw) (fun S10 c11 => ?_)
  have hot1 := hot1.to c11
  have hot3 := hot3.to c11
  have ho4 := ho4.to c11
  refine WO.mv rfl ?_
  refine WO.do rfl rfl ?_
  refine WO.do rfl rfl ?_
  refine WO.asg rfl (WO.asg rfl (WO.nil (thenL_n (WC.seq (WC.region (WO.mv rfl (WO.mv rfl (WO.mv rfl ?_))))))))
  obtain ⟨r12, e13, h⟩ := bindS h
  refine WO.callF (S := S10) 2 rfl rfl (F6_ok e13 hot1.vw hot3.vw) Lay.flat_fl (fun v14 S16 c17 ho15 => ?_)
  have hot1 := hot1.to c17
  have hot3 := hot3.to c17
  have ho4 := ho4.to c17
  refine WO.mv rfl ?_
  refine WO.do rfl rfl ?_
  refine WO.do rfl rfl ?_
  refine WO.asg rfl (WO.asg rfl (WO.nil (thenL_n (WC.seq (WC.region (WO.mv rfl (WO.mv rfl ?_)))))))
  obtain ⟨r18, e19, h⟩ := bindS h
  refine WO.callE (S := S16) rfl rfl (F7_ok e19 hot1.vw) (fun S20 c21 => ?_)
  have hot1 := hot1.to c21
  have hot3 := hot3.to c21
  have ho4 := ho4.to c21
  have ho15 := ho15.to c21
  refine WO.asg rfl (WO.nil (thenL_n (WC.seq (WC.seq (WC.region (WO.mv rfl (WO.mv rfl ?_)))))))
  obtain ⟨r22, e23, h⟩ := bindS h
  refine WO.callE (S := S20) rfl rfl (F8_ok e23 hot1.vw) (fun S24 c25 => ?_)
  have hot1 := hot1.to c25
  have hot3 := hot3.to c25
  have ho4 := ho4.to c25
  have ho15 := ho15.to c25
  refine WO.mv rfl ?_
  refine WO.bin rfl rfl (by decide) (by decide) rfl ?_
  refine WO.nil (thenL_n ?_)
  refine WC.cond rfl (fun q26 => ?_) (fun q26 => ?_)
  · have h := iteT q26 h
    refine WC.seq (WC.region (WO.asg rfl (WO.nil (thenL_n (WC.ret (thenL_r ?_))))))
    obtain rfl := someI h
    exact ⟨.inr rfl, _, _, rfl, rfl, rfl⟩
  · have h := iteF q26 h
    refine WC.skip (thenL_n (WC.seq (WC.seq (WC.region (WO.mv rfl ?_)))))
    refine WO.bin rfl rfl (by decide) (by decide) rfl ?_
    refine WO.nil (thenL_n ?_)
    refine WC.cond rfl (fun q27 => ?_) (fun q27 => ?_)
    · have h := iteT q27 h
      refine WC.seq (WC.region (WO.mv rfl (WO.mv rfl ?_)))
      refine WO.bin rfl rfl (by decide) (by decide) rfl ?_
      refine WO.mv rfl ?_
      refine WO.cutB (d := 55) 4 ((r1.2 == r18) && (r8.2 == r18)) (fun q28 => ?_) (fun q28 => ?_) ?_
      · skip
        refine WO.gyes rfl rfl (WO.mv rfl (WO.gyes rfl rfl (WO.mv rfl (WO.gyes rfl rfl ?_))))
        refine WO.bin rfl rfl (by decide) (by decide) rfl ?_
        refine WO.pickT rfl rfl ?_
        refine WO.nil ?_
        exact ⟨rfl, rfl, (Cov.any rfl (andT q28) (Cov.skip rfl (Cov.skip rfl (Cov.skip rfl (Cov.skip rfl (Cov.skip rfl (Cov.refl _)))))))⟩
      · refine WO.gno rfl rfl (WO.gno rfl rfl (WO.gno rfl rfl ?_))
        refine WO.pickF rfl rfl ?_
        refine WO.nil ?_
        exact ⟨rfl, rfl, (Cov.any rfl (andF q28) (Cov.skip rfl (Cov.skip rfl (Cov.skip rfl (Cov.skip rfl (Cov.skip rfl (Cov.refl _)))))))⟩
      refine WO.mv rfl ?_
      refine WO.cutB (d := 60) 4 (((r1.2 == r18) && (r8.2 == r18)) && (r12.2 == r18)) (fun q29 => ?_) (fun q29 => ?_) ?_
      · skip
        refine WO.gyes rfl rfl (WO.mv rfl (WO.gyes rfl rfl (WO.mv rfl (WO.gyes rfl rfl ?_))))
        refine WO.bin rfl rfl (by decide) (by decide) rfl ?_
        refine WO.pickT rfl rfl ?_
        refine WO.nil ?_
        exact ⟨rfl, rfl, (Cov.any rfl (andT q29) (Cov.skip rfl (Cov.skip rfl (Cov.skip rfl (Cov.skip rfl (Cov.skip rfl (Cov.refl _)))))))⟩
      · refine WO.gno rfl rfl (WO.gno rfl rfl (WO.gno rfl rfl ?_))
        refine WO.pickF rfl rfl ?_
        refine WO.nil ?_
        exact ⟨rfl, rfl, (Cov.any rfl (andF q29) (Cov.skip rfl (Cov.skip rfl (Cov.skip rfl (Cov.skip rfl (Cov.skip rfl (Cov.refl _)))))))⟩
      refine WO.mv rfl ?_
      refine WO.cutB (d := 68) 7 ((((r1.2 == r18) && (r8.2 == r18)) && (r12.2 == r18)) && ((wrapA .i64 ((r1.1.length : Int) + (r12.1.length : Int))) == 0)) (fun q30 => ?_) (fun q30 => ?_) ?_
      · skip
        refine WO.gyes rfl rfl (WO.mv rfl (WO.gyes rfl rfl ?_))
        refine WO.lenS rfl ho4.slv rfl ?_
        refine WO.gyes rfl rfl (WO.mv rfl (WO.gyes rfl rfl ?_))
        refine WO.lenS rfl ho15.slv rfl ?_
        refine WO.gyes rfl rfl ?_
        refine WO.bin rfl rfl (by decide) (by decide) rfl ?_
        refine WO.gyes rfl rfl ?_
        refine WO.bin rfl rfl (by decide) (by decide) rfl ?_
        refine WO.pickT rfl rfl ?_
        refine WO.nil ?_
        exact ⟨rfl, rfl, (Cov.any rfl (andT q30) (Cov.skip rfl (Cov.skip rfl (Cov.skip rfl (Cov.skip rfl (Cov.skip rfl (Cov.skip rfl (Cov.skip rfl (Cov.skip rfl (Cov.refl _))))))))))⟩
      · refine WO.gno rfl rfl (WO.gno rfl rfl (WO.gno rfl rfl (WO.gno rfl rfl (WO.gno rfl rfl (WO.gno rfl rfl ?_)))))
        refine WO.pickF rfl rfl ?_
        refine WO.nil ?_
        exact ⟨rfl, rfl, (Cov.any rfl (andF q30) (Cov.skip rfl (Cov.skip rfl (Cov.skip rfl (Cov.skip rfl (Cov.skip rfl (Cov.skip rfl (Cov.skip rfl (Cov.skip rfl (Cov.refl _))))))))))⟩
      refine WO.mv rfl ?_
      refine WO.cutB (d := 72) 3 (((((r1.2 == r18) && (r8.2 == r18)) && (r12.2 == r18)) && ((wrapA .i64 ((r1.1.length : Int) + (r12.1.length : Int))) == 0)) && (r8.1 == 0)) (fun q31 => ?_) (fun q31 => ?_) ?_
      · skip
        refine WO.gyes rfl rfl (WO.mv rfl (WO.gyes rfl rfl ?_))
        refine WO.bin rfl rfl (by decide) (by decide) rfl ?_
        refine WO.pickT rfl rfl ?_
        refine WO.nil ?_
        exact ⟨rfl, rfl, (Cov.any rfl (andT q31) (Cov.skip rfl (Cov.skip rfl (Cov.skip rfl (Cov.skip rfl (Cov.refl _))))))⟩
      · refine WO.gno rfl rfl (WO.gno rfl rfl ?_)
        refine WO.pickF rfl rfl ?_
        refine WO.nil ?_
        exact ⟨rfl, rfl, (Cov.any rfl (andF q31) (Cov.skip rfl (Cov.skip rfl (Cov.skip rfl (Cov.skip rfl (Cov.refl _))))))⟩
      refine WO.asg rfl (WO.nil (thenL_n (WC.ret (thenL_r ?_))))
      obtain rfl := someI h
      exact ⟨.inr rfl, _, _, rfl, rfl, rfl⟩
    · have h := iteF q27 h
      refine WC.skip (thenL_n (WC.seq (WC.region (WO.mv rfl (WO.mv rfl ?_)))))
      obtain ⟨r32, e33, h⟩ := bindS h
      refine WO.callG (S := S24) [] [] rfl rfl (F9_ok (S0 := S24.mp []) e33 hot1.mp) (fun _ S36 S37 hb hR => ?_)
      obtain ⟨v34, rfl, hR0⟩ := hR
      have c38 : Ch 1 S24 S37 := hb.ch [] 1
      have hot1 := hot1.to c38
      have hot3 := hot3.to c38
      have ho4 := ho4.to c38
      have ho15 := ho15.to c38
      have ho35 := hR0.bkS hb rfl
      refine WO.asg rfl (WO.nil (thenL_n (WC.seq (WC.seq (WC.region (WO.mv rfl ?_))))))
      refine WO.bin rfl rfl (by decide) (by decide) rfl ?_
      refine WO.mv rfl ?_
      refine WO.cutB (d := 84) 6 ((r1.2 != 0) || ((r1.1.length : Int) != (r32.length : Int))) (fun q39 => ?_) (fun q39 => ?_) ?_
      · refine WO.gno rfl rfl (WO.gno rfl rfl (WO.gno rfl rfl (WO.gno rfl rfl (WO.gno rfl rfl ?_))))
        refine WO.pickT rfl rfl ?_
        refine WO.nil ?_
        exact ⟨rfl, rfl, (Cov.any rfl (orT q39) (Cov.skip rfl (Cov.skip rfl (Cov.skip rfl (Cov.skip rfl (Cov.skip rfl (Cov.skip rfl (Cov.skip rfl (Cov.refl _)))))))))⟩
      · skip
        refine WO.gyes rfl rfl (WO.mv rfl (WO.gyes rfl rfl ?_))
        refine WO.lenS rfl ho4.slv rfl ?_
        refine WO.gyes rfl rfl (WO.mv rfl (WO.gyes rfl rfl ?_))
        refine WO.lenS rfl ho35.slv rfl ?_
        refine WO.gyes rfl rfl ?_
        refine WO.bin rfl rfl (by decide) (by decide) rfl ?_
        refine WO.pickF rfl rfl ?_
        refine WO.nil ?_
        exact ⟨rfl, rfl, (Cov.any rfl (orF q39) (Cov.skip rfl (Cov.skip rfl (Cov.skip rfl (Cov.skip rfl (Cov.skip rfl (Cov.skip rfl (Cov.skip rfl (Cov.refl _)))))))))⟩
      refine WO.nil (thenL_n ?_)
      refine WC.cond rfl (fun q40 => ?_) (fun q40 => ?_)
      · have h := iteT q40 h
        refine WC.seq (WC.region (WO.asg rfl (WO.nil (thenL_n (WC.ret (thenL_r ?_))))))
        obtain rfl := someI h
        exact ⟨.inr rfl, _, _, rfl, rfl, rfl⟩
      · have h := iteF q40 h
        refine WC.skip (thenL_n (WC.seq (WC.seq (WC.region (WO.mv rfl ?_)))))
        refine WO.lenS rfl ho4.slv rfl ?_
        refine WO.mv rfl (WO.nil (thenL_n (WC.block ?_)))
        obtain ⟨b62, e63, h⟩ := bindS h
        refine WC.loopD e63 (fun s41 l' m' n' => ∃ S42 : Cx n, S42.m = m' ∧ S42.n = n' ∧ Cov l' [(0, .sc (.int .i64 t0)), (2, .sc (.int .i64 t2)), (3, .sc vt3), (9, .sc v3), (11, .sc (.int .i64 r8.1)), (12, .sc (.int .i64 r8.2)), (13, .sc v14), (14, .sc (.int .i64 r12.2)), (16, .sc v34), (86, .sc (.int .i64 ((r1.1.length : Int)))), (87, .sc (.int .i64 s41))] ∧ Rd Y3 S42 vt3 t3 ∧ Rd Y23 S42 v3 r1.1 ∧ Ow Y3 S42 2 v14 r12.1 ∧ Rd Y23 S42 v34 r32) (fun b e l' m' n' => (match b with | .inl b43 => e = .exit 0 ∧ ∃ S44 : Cx n, S44.m = m' ∧ S44.n = n' ∧ Cov l' [(0, .sc (.int .i64 t0)), (2, .sc (.int .i64 t2)), (3, .sc vt3), (11, .sc (.int .i64 r8.1)), (12, .sc (.int .i64 r8.2)), (13, .sc v14), (14, .sc (.int .i64 r12.2)), (16, .sc v34)] ∧ Rd Y3 S44 vt3 t3 ∧ Ow Y3 S44 2 v14 r12.1 ∧ Rd Y23 S44 v34 r32 | .inr b43 => e = .ret ∧ ∃ S45 : Cx n, S45.m = m' ∧ S45.n = n' ∧ Cov l' [(8, .sc (.bool b43))])) (by exact ⟨S37, rfl, rfl, (Cov.cons rfl (Cov.cons rfl (Cov.cons rfl (Cov.cons rfl (Cov.cons rfl (Cov.cons rfl (Cov.cons rfl (Cov.cons rfl (Cov.cons rfl (Cov.cons rfl (Cov.cons rfl (Cov.nil _)))))))))))), hot3, ho4, ho15, ho35⟩) ?_ ?_
        · clear h
          rintro s41 q _ _ _ ⟨S46, rfl, rfl, hc47, hot3, ho4, ho15, ho35⟩ h
          unfold F3_l0 at h
          refine WC.cov hc47 (WC.seq (WC.region ?_))
          refine WO.bin rfl rfl (by decide) (by decide) rfl ?_
          refine WO.nil (thenL_n (WC.seq ?_))
          refine WC.cond rfl (fun q48 => ?_) (fun q48 => ?_)
          · have h := iteT q48 h
            refine WC.skip (thenL_n (WC.seq (WC.block (WC.seq (WC.region (WO.mv rfl (WO.asg rfl (WO.nil (thenL_n ?_)))))))))
            refine WC.seq ?_
            refine WC.drawN rfl rfl ?_
            have hot3z := hot3.oz
            have ho4z := ho4.oz
            have ho15z := ho15.oz
            have ho35z := ho35.oz
            refine WO.mv rfl (WO.mv rfl ?_)
            obtain ⟨L49, e50, h⟩ := bindS h
            refine WO.ixS rfl rfl ho4.slv (at?_lt e50) rfl ?_
            refine WO.ldS rfl ho4z (fun _ hi => hi.1) (at?_get e50) rfl (limLe_self _) (fun v51 ho52 => ?_)
            have ho52 : Rd Y3 S46 v51 L49 := ho52
            refine WO.mv rfl (WO.mv rfl ?_)
            obtain ⟨L53, e54, h⟩ := bindS h
            refine WO.ixS rfl rfl ho35.slv (at?_lt e54) rfl ?_
            refine WO.ldS rfl ho35z (fun _ hi => hi.1) (at?_get e54) rfl (limLe_self _) (fun v55 ho56 => ?_)
            have ho56 : Rd Y3 S46 v55 L53 := ho56
            obtain ⟨r57, e58, h⟩ := bindS h
            refine WO.callE (S := S46) rfl rfl (F10_ok e58 ho52.vw ho56.vw) (fun S59 c60 => ?_)
            have hot3z := hot3z.toz c60
            have ho4z := ho4z.toz c60
            have ho15z := ho15z.tow c60
            have ho35z := ho35z.toz c60
            have hot3 := hot3.to c60
            have ho4 := ho4.to c60
            have ho15 := ho15.to c60
            have ho35 := ho35.to c60
            have ho52 := ho52.to c60
            have ho56 := ho56.to c60
            refine WO.do rfl rfl ?_
            refine WO.nil (thenL_n ?_)
            refine WC.cond rfl (fun q61 => ?_) (fun q61 => ?_)
            · have h := iteT q61 h
              refine WC.seq (WC.region (WO.asg rfl (WO.nil (thenL_n (WC.ret (blockL_r (thenL_r (thenL_r ?_))))))))
              obtain rfl := someI h
              exact ⟨_, rfl, rfl, ⟨S59, rfl, rfl, (Cov.cons rfl (Cov.nil _))⟩⟩
            · have h := iteF q61 h
              refine WC.skip (blockL_n (thenL_n (WC.region ?_)))
              refine WO.bin rfl rfl (by decide) (by decide) rfl ?_
              refine WO.mv rfl (WO.nil (thenL_n ?_))
              obtain rfl := someI h
              exact ⟨_, rfl, ⟨S59, rfl, rfl, (Cov.cons rfl (Cov.cons rfl (Cov.cons rfl (Cov.cons rfl (Cov.cons rfl (Cov.cons rfl (Cov.cons rfl (Cov.cons rfl (Cov.cons rfl (Cov.cons rfl (Cov.cons rfl (Cov.nil _)))))))))))), hot3, ho4, ho15, ho35⟩⟩
          · have h := iteF q48 h
            refine WC.exit (thenL_e (thenL_e ?_))
            obtain rfl := someI h
            exact ⟨_, rfl, rfl, ⟨S46, rfl, rfl, (Cov.cons rfl (Cov.cons rfl (Cov.cons rfl (Cov.cons rfl (Cov.cons rfl (Cov.cons rfl (Cov.cons rfl (Cov.cons rfl (Cov.nil _))))))))), hot3, ho15, ho35⟩⟩
        cases b62 with
        | inl b64 =>
          simp only at h
          rintro _ _ _ _ ⟨rfl, ⟨S65, rfl, rfl, hc66, hot3, ho15, ho35⟩⟩
          refine blockL_s (thenL_n (WC.cov hc66 (WC.seq (WC.seq (WC.region (WO.mv rfl ?_))))))
          refine WO.bin rfl rfl (by decide) (by decide) rfl ?_
          refine WO.mv rfl ?_
          refine WO.cutB (d := 106) 3 ((decide (t2 < 0)) || (decide (t2 > 10))) (fun q67 => ?_) (fun q67 => ?_) ?_
          · refine WO.gno rfl rfl (WO.gno rfl rfl ?_)
            refine WO.pickT rfl rfl ?_
            refine WO.nil ?_
            exact ⟨rfl, rfl, (Cov.any rfl (orT q67) (Cov.skip rfl (Cov.skip rfl (Cov.skip rfl (Cov.skip rfl (Cov.refl _))))))⟩
          · skip
            refine WO.gyes rfl rfl (WO.mv rfl (WO.gyes rfl rfl ?_))
            refine WO.bin rfl rfl (by decide) (by decide) rfl ?_
            refine WO.pickF rfl rfl ?_
            refine WO.nil ?_
            exact ⟨rfl, rfl, (Cov.any rfl (orF q67) (Cov.skip rfl (Cov.skip rfl (Cov.skip rfl (Cov.skip rfl (Cov.refl _))))))⟩
          refine WO.nil (thenL_n ?_)
          obtain ⟨b81, e82, h⟩ := bindS h
          refine WC.mono (Q' := (fun b e l' m' n' => (match b with | .inl b83 => e = .normal ∧ ∃ S84 : Cx n, S84.m = m' ∧ S84.n = n' ∧ Cov l' [(0, .sc (.int .i64 t0)), (3, .sc vt3), (13, .sc v14), (14, .sc (.int .i64 r12.2)), (16, .sc v34)] ∧ Rd Y3 S84 vt3 t3 ∧ Ow Y3 S84 2 v14 r12.1 ∧ Rd Y23 S84 v34 r32 | .inr b83 => e = .ret ∧ ∃ S85 : Cx n, S85.m = m' ∧ S85.n = n' ∧ Cov l' [(8, .sc (.bool b83))])) b81) ?_ ?_
          · have h := e82
            dsimp only at h ⊢
            refine WC.cond rfl (fun q68 => ?_) (fun q68 => ?_)
            · have h := iteT q68 h
              refine WC.seq (WC.region (WO.mv rfl ?_))
              refine WO.bin rfl rfl (by decide) (by decide) rfl ?_
              refine WO.mv rfl ?_
              refine WO.cutB (d := 112) 3 ((r8.2 != 1) || (r8.1 != 0)) (fun q69 => ?_) (fun q69 => ?_) ?_
              · refine WO.gno rfl rfl (WO.gno rfl rfl ?_)
                refine WO.pickT rfl rfl ?_
                refine WO.nil ?_
                exact ⟨rfl, rfl, (Cov.any rfl (orT q69) (Cov.skip rfl (Cov.skip rfl (Cov.skip rfl (Cov.skip rfl (Cov.refl _))))))⟩
              · skip
                refine WO.gyes rfl rfl (WO.mv rfl (WO.gyes rfl rfl ?_))
                refine WO.bin rfl rfl (by decide) (by decide) rfl ?_
                refine WO.pickF rfl rfl ?_
                refine WO.nil ?_
                exact ⟨rfl, rfl, (Cov.any rfl (orF q69) (Cov.skip rfl (Cov.skip rfl (Cov.skip rfl (Cov.skip rfl (Cov.refl _))))))⟩
              refine WO.nil (thenL_n ?_)
              refine WC.cond rfl (fun q70 => ?_) (fun q70 => ?_)
              · have h := iteT q70 h
                refine WC.seq (WC.region (WO.asg rfl (WO.nil (thenL_n (WC.ret ?_)))))
                obtain rfl := someI h
                exact ⟨rfl, ⟨S65, rfl, rfl, (Cov.cons rfl (Cov.nil _))⟩⟩
              · have h := iteF q70 h
                refine WC.skip ?_
                obtain rfl := someI h
                exact ⟨rfl, ⟨S65, rfl, rfl, (Cov.cons rfl (Cov.cons rfl (Cov.cons rfl (Cov.cons rfl (Cov.cons rfl (Cov.nil _)))))), hot3, ho15, ho35⟩⟩
            · have h := iteF q68 h
              refine WC.seq (WC.region (WO.mv rfl ?_))
              refine WO.bin rfl rfl (by decide) (by decide) rfl ?_
              refine WO.mv rfl ?_
              obtain ⟨y76, e77, h⟩ := bindS h
              refine WO.cutS (d := 121) (S := S65) 6 y76 (fun q75 => ?_) (fun q75 => ?_) (fun S78 c79 => ?_)
              · have h := e77
                have h := iteT q75 h
                obtain rfl := someI h
                refine WO.gno rfl rfl (WO.gno rfl rfl (WO.gno rfl rfl (WO.gno rfl rfl (WO.gno rfl rfl ?_))))
                refine WO.pickT rfl rfl ?_
                refine WO.nil ?_
                exact ⟨S65, rfl, rfl, Ch.refl _ _, (Cov.cons rfl (Cov.skip rfl (Cov.skip rfl (Cov.skip rfl (Cov.skip rfl (Cov.skip rfl (Cov.skip rfl (Cov.skip rfl (Cov.refl _)))))))))⟩
              · have h := e77
                have h := iteF q75 h
                refine WO.gyes rfl rfl (WO.mv rfl (WO.gyes rfl rfl (WO.mv rfl (WO.gyes rfl rfl (WO.mv rfl (WO.gyes rfl rfl ?_))))))
                obtain ⟨r71, e72, h⟩ := bindS h
                refine WO.callE (S := S65) rfl rfl (F11_ok e72 ho35.vw) (fun S73 c74 => ?_)
                have hot3 := hot3.to c74
                have ho15 := ho15.to c74
                have ho35 := ho35.to c74
                refine WO.gyes rfl rfl ?_
                refine WO.bin rfl rfl (by decide) (by decide) rfl ?_
                obtain rfl := someI h
                refine WO.pickF rfl rfl ?_
                refine WO.nil ?_
                exact ⟨S73, rfl, rfl, c74, (Cov.cons rfl (Cov.skip rfl (Cov.skip rfl (Cov.skip rfl (Cov.skip rfl (Cov.skip rfl (Cov.skip rfl (Cov.skip rfl (Cov.refl _)))))))))⟩
              have hot3 := hot3.to c79
              have ho15 := ho15.to c79
              have ho35 := ho35.to c79
              refine WO.nil (thenL_n ?_)
              refine WC.cond rfl (fun q80 => ?_) (fun q80 => ?_)
              · have h := iteT q80 h
                refine WC.seq (WC.region (WO.asg rfl (WO.nil (thenL_n (WC.ret ?_)))))
                obtain rfl := someI h
                exact ⟨rfl, ⟨S78, rfl, rfl, (Cov.cons rfl (Cov.nil _))⟩⟩
              · have h := iteF q80 h
                refine WC.skip ?_
                obtain rfl := someI h
                exact ⟨rfl, ⟨S78, rfl, rfl, (Cov.cons rfl (Cov.cons rfl (Cov.cons rfl (Cov.cons rfl (Cov.cons rfl (Cov.nil _)))))), hot3, ho15, ho35⟩⟩
          dsimp only
          cases b81 with
          | inl b86 =>
            simp only at h
            rintro _ _ _ _ ⟨rfl, ⟨S87, rfl, rfl, hc88, hot3, ho15, ho35⟩⟩
            refine thenL_n (WC.cov hc88 (WC.seq (WC.seq (WC.region (WO.mv rfl ?_)))))
            refine WO.lenS rfl hot3.slv rfl ?_
            refine WO.mv rfl ?_
            refine WO.bin rfl rfl (by decide) (by decide) rfl ?_
            refine WO.nil (thenL_n ?_)
            refine WC.cond rfl (fun q89 => ?_) (fun q89 => ?_)
            · have h := iteT q89 h
              refine WC.seq (WC.region (WO.mv rfl ?_))
              refine WO.bin rfl rfl (by decide) (by decide) rfl ?_
              refine WO.mv rfl ?_
              refine WO.cutB (d := 132) 4 ((r12.2 == 3) && ((r12.1.length : Int) == 0)) (fun q90 => ?_) (fun q90 => ?_) ?_
              · skip
                refine WO.gyes rfl rfl (WO.mv rfl (WO.gyes rfl rfl ?_))
                refine WO.lenS rfl ho15.slv rfl ?_
                refine WO.gyes rfl rfl ?_
                refine WO.bin rfl rfl (by decide) (by decide) rfl ?_
                refine WO.pickT rfl rfl ?_
                refine WO.nil ?_
                exact ⟨rfl, rfl, (Cov.any rfl (andT q90) (Cov.skip rfl (Cov.skip rfl (Cov.skip rfl (Cov.skip rfl (Cov.skip rfl (Cov.refl _)))))))⟩
              · refine WO.gno rfl rfl (WO.gno rfl rfl (WO.gno rfl rfl ?_))
                refine WO.pickF rfl rfl ?_
                refine WO.nil ?_
                exact ⟨rfl, rfl, (Cov.any rfl (andF q90) (Cov.skip rfl (Cov.skip rfl (Cov.skip rfl (Cov.skip rfl (Cov.skip rfl (Cov.refl _)))))))⟩
              refine WO.asg rfl (WO.nil (thenL_n (WC.ret (thenL_r ?_))))
              obtain rfl := someI h
              exact ⟨.inr rfl, _, _, rfl, rfl, rfl⟩
            · have h := iteF q89 h
              refine WC.skip (thenL_n (WC.seq (WC.region (WO.mv rfl ?_))))
              refine WO.bin rfl rfl (by decide) (by decide) rfl ?_
              refine WO.mv rfl ?_
              obtain ⟨y102, e103, h⟩ := bindS h
              refine WO.cutS (d := 141) (S := S87) 6 y102 (fun q101 => ?_) (fun q101 => ?_) (fun S104 c105 => ?_)
              · have h := e103
                have h := iteT q101 h
                refine WO.gyes rfl rfl (WO.mv rfl (WO.gyes rfl rfl (WO.mv rfl (WO.gyes rfl rfl (WO.mv rfl (WO.gyes rfl rfl ?_))))))
                obtain ⟨r91, e92, h⟩ := bindS h
                refine WO.callF (S := S87) 1 rfl rfl (F13_ok e92 ho35.vw hot3.vw) Lay.flat_fl (fun v93 S95 c96 ho94 => ?_)
                have hot3 := hot3.to c96
                have ho15 := ho15.to c96
                have ho35 := ho35.to c96
                refine WO.gyes rfl rfl ?_
                obtain ⟨r97, e98, h⟩ := bindS h
                refine WO.callE (S := S95) rfl rfl (F12_ok e98 ho15.vw ho94.vw) (fun S99 c100 => ?_)
                have hot3 := hot3.to c100
                have ho15 := ho15.to c100
                have ho35 := ho35.to c100
                obtain rfl := someI h
                refine WO.pickT rfl rfl ?_
                refine WO.nil ?_
                exact ⟨S99, rfl, rfl, (c96.trans c100), (Cov.cons rfl (Cov.skip rfl (Cov.skip rfl (Cov.skip rfl (Cov.skip rfl (Cov.skip rfl (Cov.skip rfl (Cov.skip rfl (Cov.refl _)))))))))⟩
              · have h := e103
                have h := iteF q101 h
                obtain rfl := someI h
                refine WO.gno rfl rfl (WO.gno rfl rfl (WO.gno rfl rfl (WO.gno rfl rfl (WO.gno rfl rfl ?_))))
                refine WO.pickF rfl rfl ?_
                refine WO.nil ?_
                exact ⟨S87, rfl, rfl, Ch.refl _ _, (Cov.cons rfl (Cov.skip rfl (Cov.skip rfl (Cov.skip rfl (Cov.skip rfl (Cov.skip rfl (Cov.skip rfl (Cov.skip rfl (Cov.refl _)))))))))⟩
              have hot3 := hot3.to c105
              have ho15 := ho15.to c105
              have ho35 := ho35.to c105
              refine WO.asg rfl (WO.nil (thenL_n (WC.ret ?_)))
              obtain rfl := someI h
              exact ⟨.inr rfl, _, _, rfl, rfl, rfl⟩
          | inr b86 =>
            simp only at h
            rintro _ _ _ _ ⟨rfl, ⟨S106, rfl, rfl, hc107⟩⟩
            refine thenL_r ?_
            obtain rfl := someI h
            exact ⟨.inr rfl, _, _, (resK_cov hc107 rfl), rfl, rfl⟩
        | inr b64 =>
          simp only at h
          rintro _ _ _ _ ⟨rfl, ⟨S108, rfl, rfl, hc109⟩⟩
          refine blockL_r (thenL_r ?_)
          obtain rfl := someI h
          exact ⟨.inr rfl, _, _, (resK_cov hc109 rfl), rfl, rfl⟩
end Go.Proofs.Ytaphdnpjpmnaeaa

/- The machine answers the functions' texts: printed by a program of ours (gen.py). -/
import Derived.Test.YtihmliblbhjlaaaG1
set_option linter.unusedVariables false
namespace Go.Proofs.Ytihmliblbhjlaaa
open Go.Am
theorem F69.fn : E.fn 69 = some ⟨36, (Try.f69.body.getD .skip), Try.f69.results.toList, []⟩ := rfl
theorem F69_ok {F : Nat} {m : Mem} {n : Nat} {r : (List (List UInt8))} {t0 : List (List (List UInt8))} {vt0 : SV} (h : F69 F t0 = some r) (kt0 : Vw Y78 n m vt0 t0) : Ret E n 69 [.sc vt0] m n (fun v m' n' => ∃ w, v = .sc w ∧ Fr Y9 n m' n' w r) := by
  unfold F69 at h
  refine Ret.walk F69.fn ?_
  refine WC.start fun S0 em en hz => ?_
  have hot0 := kt0.rdS em hz
  refine WC.seq (WC.region (WO.asg rfl (WO.nil (thenL_n (WC.seq (WC.region (WO.asg rfl (WO.nil (thenL_n ?_)))))))))
  refine WC.seq (WC.seq (WC.region (WO.mv rfl ?_)))
  refine WO.lenS rfl hot0.slv rfl ?_
  refine WO.mv rfl (WO.nil (thenL_n (WC.block ?_)))
  obtain ⟨b12, e13, h⟩ := bindS h
  refine WC.loopD e13 (fun s1 l' m' n' => ∃ S2 : Cx n, S2.m = m' ∧ S2.n = n' ∧ Cov l' [(0, .sc vt0), (3, .sc (.int .i64 s1.1)), (9, .sc vt0), (10, .sc (.int .i64 ((t0.length : Int)))), (11, .sc (.int .i64 s1.2))] ∧ Rd Y78 S2 vt0 t0) (fun b e l' m' n' => e = .exit 0 ∧ ∃ S3 : Cx n, S3.m = m' ∧ S3.n = n' ∧ Cov l' [(0, .sc vt0), (3, .sc (.int .i64 b))] ∧ Rd Y78 S3 vt0 t0) (by exact ⟨S0, rfl, rfl, (Cov.cons rfl (Cov.cons rfl (Cov.cons rfl (Cov.cons rfl (Cov.cons rfl (Cov.nil _)))))), hot0⟩) ?_ ?_
  · clear h
    rintro s1 q _ _ _ ⟨S4, rfl, rfl, hc5, hot0⟩ h
    unfold F69_l0 at h
    refine WC.cov hc5 (WC.seq (WC.region ?_))
    refine WO.bin rfl rfl (by decide) (by decide) rfl ?_
    refine WO.nil (thenL_n (WC.seq ?_))
    refine WC.cond rfl (fun q6 => ?_) (fun q6 => ?_)
    · have h := iteT q6 h
      refine WC.skip (thenL_n (WC.seq (WC.block (WC.seq (WC.region ?_)))))
      obtain ⟨L7, e8, h⟩ := bindS h
      refine WO.ixS rfl rfl hot0.slv (at?_lt e8) rfl ?_
      refine WO.ldS rfl hot0.ro (fun _ hi => hi) (at?_get e8) rfl rfl (fun v9 ho10 => ?_)
      have ho10 : Rd Y9 S4 v9 L7 := ho10
      refine WO.asg rfl (WO.nil (thenL_n (WC.seq (WC.region (WO.mv rfl (WO.mv rfl ?_))))))
      refine WO.lenS rfl ho10.slv rfl ?_
      refine WO.bin rfl rfl (by decide) (by decide) rfl ?_
      refine WO.asg rfl (WO.nil (thenL_n (WC.seq (WC.region (WO.mv rfl ?_)))))
      refine WO.bin rfl rfl (by decide) (by decide) rfl ?_
      refine WO.nil (thenL_n ?_)
      refine WC.cond rfl (fun q11 => ?_) (fun q11 => ?_)
      · have h := iteT q11 h
        refine WC.region ?_
        cases h
      · have h := iteF q11 h
        refine WC.skip (blockL_n (thenL_n (WC.region ?_)))
        refine WO.bin rfl rfl (by decide) (by decide) rfl ?_
        refine WO.mv rfl (WO.nil (thenL_n ?_))
        obtain rfl := someI h
        exact ⟨_, rfl, ⟨S4, rfl, rfl, (Cov.cons rfl (Cov.cons rfl (Cov.cons rfl (Cov.cons rfl (Cov.cons rfl (Cov.nil _)))))), hot0⟩⟩
    · have h := iteF q6 h
      refine WC.exit (thenL_e (thenL_e ?_))
      obtain rfl := someI h
      exact ⟨_, rfl, rfl, ⟨S4, rfl, rfl, (Cov.cons rfl (Cov.cons rfl (Cov.nil _))), hot0⟩⟩
  rintro _ _ _ _ ⟨rfl, ⟨S14, rfl, rfl, hc15, hot0⟩⟩
  refine blockL_s (thenL_n (WC.cov hc15 (WC.seq (WC.region (WO.mv rfl ?_)))))
  obtain ⟨r16, e17, h⟩ := bindS h
  refine WO.callF (S := S14) 2 rfl rfl (F133_ok e17 Vw.nil) Lay.flat_fl (fun v18 S20 c21 ho19 => ?_)
  have hot0 := hot0.to c21
  refine WO.asg rfl (WO.nil (thenL_n (WC.seq (WC.seq (WC.region (WO.mv rfl ?_))))))
  refine WO.lenS rfl hot0.slv rfl ?_
  refine WO.mv rfl (WO.nil (thenL_n (WC.block ?_)))
  obtain ⟨b42, e43, h⟩ := bindS h
  refine WC.loopD e43 (fun s22 l' m' n' => ∃ S24 : Cx n, ∃ v25 : SV, S24.m = m' ∧ S24.n = n' ∧ Cov l' [(6, .sc v25), (25, .sc vt0), (26, .sc (.int .i64 ((t0.length : Int)))), (27, .sc (.int .i64 s22.2))] ∧ Rd Y78 S24 vt0 t0 ∧ Ow Y9 S24 2 v25 s22.1) (fun b e l' m' n' => e = .exit 2 ∧ ∃ S26 : Cx n, ∃ v27 : SV, S26.m = m' ∧ S26.n = n' ∧ Cov l' [(6, .sc v27)] ∧ Ow Y9 S26 2 v27 b) (by exact ⟨S20, v18, rfl, rfl, (Cov.cons rfl (Cov.cons rfl (Cov.cons rfl (Cov.cons rfl (Cov.nil _))))), hot0, ho19⟩) ?_ ?_
  · clear h
    rintro s22 q _ _ _ ⟨S28, v29, rfl, rfl, hc30, hot0, ho6⟩ h
    unfold F69_l1 at h
    refine WC.cov hc30 (WC.seq (WC.region ?_))
    refine WO.bin rfl rfl (by decide) (by decide) rfl ?_
    refine WO.nil (thenL_n (WC.seq ?_))
    refine WC.cond rfl (fun q31 => ?_) (fun q31 => ?_)
    · have h := iteT q31 h
      refine WC.skip (thenL_n (WC.seq (WC.block (WC.seq (WC.region ?_)))))
      obtain ⟨L32, e33, h⟩ := bindS h
      refine WO.ixS rfl rfl hot0.slv (at?_lt e33) rfl ?_
      refine WO.ldS rfl hot0.ro (fun _ hi => hi) (at?_get e33) rfl rfl (fun v34 ho35 => ?_)
      have ho35 : Rd Y9 S28 v34 L32 := ho35
      refine WO.asg rfl (WO.nil (thenL_n (WC.region (WO.mv rfl (WO.mv rfl ?_)))))
      obtain ⟨L36, e37, h⟩ := bindS h
      refine WO.appS rfl rfl ho6 ho35.ro e37 rfl rfl (fun v38 S39 c40 ho41 => ?_)
      have hot0 := hot0.to c40
      have ho35 := ho35.to c40
      refine WO.asg rfl (WO.nil (blockL_n (thenL_n (WC.region ?_))))
      refine WO.bin rfl rfl (by decide) (by decide) rfl ?_
      refine WO.mv rfl (WO.nil (thenL_n ?_))
      obtain rfl := someI h
      exact ⟨_, rfl, ⟨S39, v38, rfl, rfl, (Cov.cons rfl (Cov.cons rfl (Cov.cons rfl (Cov.cons rfl (Cov.nil _))))), hot0, ho41⟩⟩
    · have h := iteF q31 h
      refine WC.exit (thenL_e (thenL_e ?_))
      obtain rfl := someI h
      exact ⟨_, rfl, rfl, ⟨S28, v29, rfl, rfl, (Cov.cons rfl (Cov.nil _)), ho6⟩⟩
  rintro _ _ _ _ ⟨rfl, ⟨S44, v45, rfl, rfl, hc46, ho6⟩⟩
  refine blockL_s (thenL_n (WC.cov hc46 (WC.seq (WC.region (WO.mv rfl (WO.asg rfl (WO.nil (thenL_n (WC.ret ?_)))))))))
  obtain rfl := someI h
  exact ⟨.inr rfl, _, _, rfl, rfl, ⟨v45, rfl, (ho6.fr Lay.flat_fl)⟩⟩
end Go.Proofs.Ytihmliblbhjlaaa

namespace Go.Proofs.Ytihmliblbhjlaaa
open Go.Am
theorem F59.fn : E.fn 59 = some ⟨35, (Try.f59.body.getD .skip), Try.f59.results.toList, [9]⟩ := rfl
theorem F59_ok {F : Nat} {fl : Nat} {S0 : Cx fl} {r : (Int × (List (List UInt8))) × Int} {t0 : Int × (List (List UInt8))} {t1 : Int × (List (List UInt8))} {vt0_1 : SV} {vt1_1 : SV} (h : F59 F t0 t1 = some r) (hot0_1 : Rd Y9 S0 vt0_1 t0.2) (hot1_1 : Rd Y9 S0 vt1_1 t1.2) : Ret E fl 59 [.agg [.int .i64 t0.1, vt0_1], .agg [.int .i64 t1.1, vt1_1]] S0.m S0.n (fun v m' n' => ∃ S' : Cx fl, S'.m = m' ∧ S'.n = n' ∧ ChM S0 S' ∧ (∃ w53 : SV, v = .tup [.agg [.int .i64 r.1.1, w53], .sc (.int .i64 r.2)] ∧ Ow Y9 S' 902 w53 r.1.2)) := by
  unfold F59 at h
  refine Ret.walk F59.fn ?_
  have hM := ChM.refl S0
  refine WC.seq (WC.region ?_)
  refine WO.bxW (S := S0) (cs := [.int .i64 t0.1, vt0_1]) 2 rfl rfl rfl (fun b1 S2 c3 ho4 => ?_)
  have hot0_1 := hot0_1.to c3
  have hot1_1 := hot1_1.to c3
  have hM := hM.to c3
  refine WO.bxW (S := S2) (cs := [.int .i64 t1.1, vt1_1]) 3 rfl rfl rfl (fun b5 S6 c7 ho8 => ?_)
  have hot0_1 := hot0_1.to c7
  have hot1_1 := hot1_1.to c7
  have hM := hM.to c7
  have ho4 := ho4.to c7
  refine WO.alW (S := S6) (cs := [.int .i64 0, .nils]) 4 rfl rfl rfl (fun b9 S10 c11 ho12 => ?_)
  have hot0_1 := hot0_1.to c11
  have hot1_1 := hot1_1.to c11
  have hM := hM.to c11
  have ho4 := ho4.to c11
  have ho8 := ho8.to c11
  refine WO.asg rfl (WO.nil (thenL_n (WC.seq (WC.seq (WC.region ?_)))))
  refine WO.ldWA (sz := 2) (r := [.int .i64 t0.1, vt0_1]) rfl ho4.at0 ho4 rfl rfl rfl ho4.lt rfl ?_
  obtain ⟨r13, e14, h⟩ := bindS h
  refine WO.callE (S := S10) rfl rfl (F68_ok e14 hot0_1.vw) (fun S15 c16 => ?_)
  have hot0_1 := hot0_1.to c16
  have hot1_1 := hot1_1.to c16
  have hM := hM.to c16
  have ho4 := ho4.to c16
  have ho8 := ho8.to c16
  have ho12 := ho12.to c16
  refine WO.asg rfl (WO.nil (thenL_n (WC.seq (WC.region (WO.mv rfl ?_)))))
  refine WO.bin rfl rfl (by decide) (by decide) rfl ?_
  refine WO.nil (thenL_n ?_)
  refine WC.cond rfl (fun q17 => ?_) (fun q17 => ?_)
  · have h := iteT q17 h
    refine WC.seq (WC.region ?_)
    refine WO.do rfl rfl ?_
    refine WO.mv rfl ?_
    refine WO.stW (S := S15) (r := [.int .i64 0, .nils]) rfl ho12.at0 rfl rfl ho12 rfl rfl rfl rfl rfl (fun S18 c19 ho12 => ?_)
    have hot0_1 := hot0_1.to c19
    have hot1_1 := hot1_1.to c19
    have hM := hM.to c19
    have ho4 := ho4.to c19
    have ho8 := ho8.to c19
    refine WO.asg rfl (WO.nil (thenL_n (WC.ret (thenL_r ?_))))
    have hcell20 := ho12
    obtain rfl := someI h
    exact ⟨.inr rfl, _, _, (resK_w (sz := 2) hcell20 (Cov.refl _) rfl rfl rfl (resK_t (Cov.refl _) rfl rfl)), rfl, ⟨S18, rfl, rfl, hM, .nils, rfl, Ow.nil⟩⟩
  · have h := iteF q17 h
    refine WC.skip (thenL_n (WC.seq (WC.seq (WC.region ?_))))
    refine WO.ldWA (sz := 2) (r := [.int .i64 t1.1, vt1_1]) rfl ho8.at0 ho8 rfl rfl rfl ho8.lt rfl ?_
    obtain ⟨r21, e22, h⟩ := bindS h
    refine WO.callE (S := S15) rfl rfl (F68_ok e22 hot1_1.vw) (fun S23 c24 => ?_)
    have hot0_1 := hot0_1.to c24
    have hot1_1 := hot1_1.to c24
    have hM := hM.to c24
    have ho4 := ho4.to c24
    have ho8 := ho8.to c24
    have ho12 := ho12.to c24
    refine WO.asg rfl (WO.nil (thenL_n (WC.seq (WC.region (WO.mv rfl ?_)))))
    refine WO.bin rfl rfl (by decide) (by decide) rfl ?_
    refine WO.nil (thenL_n ?_)
    refine WC.cond rfl (fun q25 => ?_) (fun q25 => ?_)
    · have h := iteT q25 h
      refine WC.seq (WC.region ?_)
      refine WO.do rfl rfl ?_
      refine WO.mv rfl ?_
      refine WO.stW (S := S23) (r := [.int .i64 0, .nils]) rfl ho12.at0 rfl rfl ho12 rfl rfl rfl rfl rfl (fun S26 c27 ho12 => ?_)
      have hot0_1 := hot0_1.to c27
      have hot1_1 := hot1_1.to c27
      have hM := hM.to c27
      have ho4 := ho4.to c27
      have ho8 := ho8.to c27
      refine WO.asg rfl (WO.nil (thenL_n (WC.ret (thenL_r ?_))))
      have hcell28 := ho12
      obtain rfl := someI h
      exact ⟨.inr rfl, _, _, (resK_w (sz := 2) hcell28 (Cov.refl _) rfl rfl rfl (resK_t (Cov.refl _) rfl rfl)), rfl, ⟨S26, rfl, rfl, hM, .nils, rfl, Ow.nil⟩⟩
    · have h := iteF q25 h
      refine WC.skip (thenL_n (WC.seq (WC.seq (WC.region ?_))))
      refine WO.fldS (j := 0) (q := 0) rfl ho4.at0 ho4.ptr rfl rfl rfl (by decide) ?_
      refine WO.ldW rfl rfl ho4 rfl rfl ho4.lt rfl ?_
      refine WO.fldS (j := 0) (q := 0) rfl ho8.at0 ho8.ptr rfl rfl rfl (by decide) ?_
      refine WO.ldW rfl rfl ho8 rfl rfl ho8.lt rfl ?_
      refine WO.bin rfl rfl (by decide) (by decide) rfl ?_
      refine WO.nil (thenL_n ?_)
      refine WC.cond rfl (fun q29 => ?_) (fun q29 => ?_)
      · have h := iteT q29 h
        refine WC.seq (WC.region ?_)
        refine WO.do rfl rfl ?_
        refine WO.stW (S := S23) (r := [.int .i64 0, .nils]) rfl ho12.at0 rfl rfl ho12 rfl rfl rfl rfl rfl (fun S30 c31 ho12 => ?_)
        have hot0_1 := hot0_1.to c31
        have hot1_1 := hot1_1.to c31
        have hM := hM.to c31
        have ho4 := ho4.to c31
        have ho8 := ho8.to c31
        refine WO.asg rfl (WO.nil (thenL_n (WC.ret (thenL_r ?_))))
        have hcell32 := ho12
        obtain rfl := someI h
        exact ⟨.inr rfl, _, _, (resK_w (sz := 2) hcell32 (Cov.refl _) rfl rfl rfl (resK_t (Cov.refl _) rfl rfl)), rfl, ⟨S30, rfl, rfl, hM, .nils, rfl, Ow.nil⟩⟩
      · have h := iteF q29 h
        refine WC.skip (thenL_n (WC.seq ?_))
        refine WC.drawN rfl rfl ?_
        have hot0_1z := hot0_1.oz
        have hot1_1z := hot1_1.oz
        have ho4z := ho4.lt
        have ho8z := ho8.lt
        have ho12z := ho12.lt
        refine WO.fldS (j := 0) (q := 0) rfl ho4.at0 ho4.ptr rfl rfl rfl (by decide) ?_
        refine WO.ldW rfl rfl ho4 rfl rfl ho4z (limLe_self _) ?_
        refine WO.fldS (j := 0) (q := 0) rfl ho4.at0 ho4.ptr rfl rfl rfl (by decide) ?_
        refine WO.ldW rfl rfl ho4 rfl rfl ho4z (limLe_self _) ?_
        refine WO.fldS (j := 0) (q := 0) rfl ho8.at0 ho8.ptr rfl rfl rfl (by decide) ?_
        refine WO.ldW rfl rfl ho8 rfl rfl ho8z (limLe_self _) ?_
        refine WO.bsS (A := Y78) (S := S23) (M := [t0.2, t1.2]) (cs := [vt0_1, vt1_1]) 5 rfl rfl rfl ⟨_, _, rfl, ⟨vt0_1, rfl, hot0_1⟩, ⟨_, _, rfl, ⟨vt1_1, rfl, hot1_1⟩, rfl⟩⟩ rfl (fun v33 S34 c35 ho36 => ?_)
        have hot0_1z := hot0_1z.toz c35
        have hot1_1z := hot1_1z.toz c35
        have hot0_1 := hot0_1.to c35
        have hot1_1 := hot1_1.to c35
        have hM := hM.to c35
        have ho4 := ho4.to c35
        have ho8 := ho8.to c35
        have ho12 := ho12.to c35
        obtain ⟨r37, e38, h⟩ := bindS h
        refine WO.callF (S := S34) 6 rfl rfl (F69_ok e38 ho36.vw) Lay.flat_fl (fun v39 S41 c42 ho40 => ?_)
        have hot0_1z := hot0_1z.toz c42
        have hot1_1z := hot1_1z.toz c42
        have hot0_1 := hot0_1.to c42
        have hot1_1 := hot1_1.to c42
        have hM := hM.to c42
        have ho4 := ho4.to c42
        have ho8 := ho8.to c42
        have ho12 := ho12.to c42
        have ho36 := ho36.to c42
        obtain ⟨r43, e44, h⟩ := bindS h
        refine WO.callG0 (S := S41) [(6, 0)] [(902, 7)] rfl rfl (F129_ok (S0 := S41.up [(6, 0)]) e44 (ho40.up0 rfl)) (fun _ S47 S48 hb hR => ?_)
        obtain ⟨v45, rfl, hR0⟩ := hR
        have c49 : Ch 1 S41 S48 := hb.ch [] 1
        have hot0_1z := hot0_1z.toz c49
        have hot1_1z := hot1_1z.toz c49
        have hot0_1 := hot0_1.to c49
        have hot1_1 := hot1_1.to c49
        have hM := hM.to c49
        have ho4 := ho4.to c49
        have ho8 := ho8.to c49
        have ho12 := ho12.to c49
        have ho36 := ho36.to c49
        have ho40 := ho40.to c49
        have ho46 := hR0.low.bkF hb rfl Lay.flat_fl
        refine WO.stW (S := S48) (r := [.int .i64 r43.1, v45]) rfl ho12.at0 rfl rfl ho12 rfl rfl rfl rfl rfl (fun S50 c51 ho12 => ?_)
        have hot0_1z := hot0_1z.toz c51
        have hot1_1z := hot1_1z.toz c51
        have hot0_1 := hot0_1.to c51
        have hot1_1 := hot1_1.to c51
        have hM := hM.to c51
        have ho4 := ho4.to c51
        have ho8 := ho8.to c51
        have ho36 := ho36.to c51
        have ho40 := ho40.to c51
        have ho46 := ho46.to c51
        refine WO.asg rfl (WO.nil (thenL_n (WC.ret ?_)))
        have hcell52 := ho12
        have hM := hM.renO 7 902
        have ho46 := ho46.ren (j := 902)
        obtain rfl := someI h
        exact ⟨.inr rfl, _, _, (resK_w (sz := 2) hcell52 (Cov.refl _) rfl rfl rfl (resK_t (Cov.refl _) rfl rfl)), rfl, ⟨(S50.ren 7 902), rfl, rfl, hM, v45, rfl, ho46⟩⟩
end Go.Proofs.Ytihmliblbhjlaaa

namespace Go.Proofs.Ytihmliblbhjlaaa
open Go.Am
theorem F86.fn : E.fn 86 = some ⟨26, (Try.f86.body.getD .skip), Try.f86.results.toList, []⟩ := rfl
theorem F86_ok {F : Nat} {m : Mem} {n : Nat} {r : Bool} {t0 : List (List UInt8)} {t1 : List (List UInt8)} {vt0 : SV} {vt1 : SV} (h : F86 F t0 t1 = some r) (kt0 : Vw Y9 n m vt0 t0) (kt1 : Vw Y9 n m vt1 t1) : Ret E n 86 [.sc vt0, .sc vt1] m n (fun v m' n' => v = .sc (.bool r)) := by
  unfold F86 at h
  refine Ret.walk F86.fn ?_
  refine WC.start fun S0 em en hz => ?_
  have hot0 := kt0.rdS em hz
  have hot1 := kt1.rdS em hz
  refine WC.seq (WC.region (WO.asg rfl (WO.nil (thenL_n (WC.seq (WC.seq (WC.region (WO.mv rfl ?_))))))))
  refine WO.lenS rfl hot0.slv rfl ?_
  refine WO.mv rfl ?_
  refine WO.lenS rfl hot1.slv rfl ?_
  refine WO.bin rfl rfl (by decide) (by decide) rfl ?_
  refine WO.nil (thenL_n ?_)
  refine WC.cond rfl (fun q1 => ?_) (fun q1 => ?_)
  · have h := iteT q1 h
    refine WC.seq (WC.region (WO.asg rfl (WO.nil (thenL_n (WC.ret (thenL_r ?_))))))
    obtain rfl := someI h
    exact ⟨.inr rfl, _, _, rfl, rfl, rfl⟩
  · have h := iteF q1 h
    refine WC.skip (thenL_n (WC.seq (WC.seq (WC.region (WO.mv rfl ?_)))))
    refine WO.lenS rfl hot0.slv rfl ?_
    refine WO.mv rfl (WO.nil (thenL_n (WC.block ?_)))
    obtain ⟨b15, e16, h⟩ := bindS h
    refine WC.loopD e16 (fun s2 l' m' n' => ∃ S3 : Cx n, S3.m = m' ∧ S3.n = n' ∧ Cov l' [(0, .sc vt0), (1, .sc vt1), (12, .sc (.int .i64 ((t0.length : Int)))), (13, .sc (.int .i64 s2))] ∧ Rd Y9 S3 vt0 t0 ∧ Rd Y9 S3 vt1 t1) (fun b e l' m' n' => (match b with | .inl b4 => e = .exit 0 ∧ ∃ S5 : Cx n, S5.m = m' ∧ S5.n = n' ∧ Cov l' [] | .inr b4 => e = .ret ∧ ∃ S6 : Cx n, S6.m = m' ∧ S6.n = n' ∧ Cov l' [(4, .sc (.bool b4))])) (by exact ⟨S0, rfl, rfl, (Cov.cons rfl (Cov.cons rfl (Cov.cons rfl (Cov.cons rfl (Cov.nil _))))), hot0, hot1⟩) ?_ ?_
    · clear h
      rintro s2 q _ _ _ ⟨S7, rfl, rfl, hc8, hot0, hot1⟩ h
      unfold F86_l0 at h
      refine WC.cov hc8 (WC.seq (WC.region ?_))
      refine WO.bin rfl rfl (by decide) (by decide) rfl ?_
      refine WO.nil (thenL_n (WC.seq ?_))
      refine WC.cond rfl (fun q9 => ?_) (fun q9 => ?_)
      · have h := iteT q9 h
        refine WC.skip (thenL_n (WC.seq (WC.block (WC.seq (WC.region (WO.mv rfl (WO.asg rfl (WO.nil (thenL_n ?_)))))))))
        refine WC.seq ?_
        refine WC.drawP rfl rfl ?_
        refine WO.mv rfl (WO.mv rfl ?_)
        obtain ⟨x10, e11, h⟩ := bindS h
        refine WO.ixS rfl rfl hot0.slv (at?_lt e11) rfl ?_
        refine WO.ldF rfl hot0.ro (fun _ hi => hi) (at?_get e11) rfl rfl rfl ?_
        refine WO.mv rfl (WO.mv rfl ?_)
        obtain ⟨x12, e13, h⟩ := bindS h
        refine WO.ixS rfl rfl hot1.slv (at?_lt e13) rfl ?_
        refine WO.ldF rfl hot1.ro (fun _ hi => hi) (at?_get e13) rfl rfl rfl ?_
        refine WO.do rfl rfl ?_
        refine WO.nil (thenL_n ?_)
        refine WC.cond rfl (fun q14 => ?_) (fun q14 => ?_)
        · have h := iteT q14 h
          refine WC.seq (WC.region (WO.asg rfl (WO.nil (thenL_n (WC.ret (blockL_r (thenL_r (thenL_r ?_))))))))
          obtain rfl := someI h
          exact ⟨_, rfl, rfl, ⟨S7, rfl, rfl, (Cov.cons rfl (Cov.nil _))⟩⟩
        · have h := iteF q14 h
          refine WC.skip (blockL_n (thenL_n (WC.region ?_)))
          refine WO.bin rfl rfl (by decide) (by decide) rfl ?_
          refine WO.mv rfl (WO.nil (thenL_n ?_))
          obtain rfl := someI h
          exact ⟨_, rfl, ⟨S7, rfl, rfl, (Cov.cons rfl (Cov.cons rfl (Cov.cons rfl (Cov.cons rfl (Cov.nil _))))), hot0, hot1⟩⟩
      · have h := iteF q9 h
        refine WC.exit (thenL_e (thenL_e ?_))
        obtain rfl := someI h
        exact ⟨_, rfl, rfl, ⟨S7, rfl, rfl, (Cov.nil _)⟩⟩
    cases b15 with
    | inl b17 =>
      simp only at h
      rintro _ _ _ _ ⟨rfl, ⟨S18, rfl, rfl, hc19⟩⟩
      refine blockL_s (thenL_n (WC.cov hc19 (WC.seq (WC.region (WO.asg rfl (WO.nil (thenL_n (WC.ret ?_))))))))
      obtain rfl := someI h
      exact ⟨.inr rfl, _, _, rfl, rfl, rfl⟩
    | inr b17 =>
      simp only at h
      rintro _ _ _ _ ⟨rfl, ⟨S20, rfl, rfl, hc21⟩⟩
      refine blockL_r (thenL_r ?_)
      obtain rfl := someI h
      exact ⟨.inr rfl, _, _, (resK_cov hc21 rfl), rfl, rfl⟩
end Go.Proofs.Ytihmliblbhjlaaa

namespace Go.Proofs.Ytihmliblbhjlaaa
open Go.Am
theorem F159.fn : E.fn 159 = some ⟨8, (Try.f159.body.getD .skip), Try.f159.results.toList, []⟩ := rfl
theorem F159_ok {F : Nat} {m : Mem} {n : Nat} {r : Int} {t0 : Int} {t1 : Int} (h : F159 F t0 t1 = some r)  : Ret E n 159 [.sc (.int .i64 t0), .sc (.int .i64 t1)] m n (fun v m' n' => v = .sc (.int .i64 r)) := by
  unfold F159 at h
  refine Ret.walk F159.fn ?_
  refine WC.start fun S0 em en hz => ?_
  refine WC.seq (WC.region (WO.asg rfl (WO.nil (thenL_n (WC.seq (WC.region (WO.mv rfl (WO.mv rfl ?_))))))))
  refine WO.bin rfl rfl (by decide) (by decide) rfl ?_
  refine WO.asg rfl (WO.nil (thenL_n (WC.ret ?_)))
  obtain rfl := someI h
  exact ⟨.inr rfl, _, _, rfl, rfl, rfl⟩
end Go.Proofs.Ytihmliblbhjlaaa

namespace Go.Proofs.Ytihmliblbhjlaaa
open Go.Am
theorem F169_159.fn : E.fn 169 = some ⟨53, (Try.f169.body.getD .skip), Try.f169.results.toList, []⟩ := rfl
theorem F169_159_ok {F : Nat} {m : Mem} {n : Nat} {r : (List Int)} {t0 : List Int} {t1 : Int} {t2 : Int} {vt0 : SV} {fl : Nat} {bw : Nat} (h : F169_159 F t0 t1 t2 = some r) (hfl : fl ≤ n) (kt0 : Iv Y3 fl n bw m vt0 t0) : Ret E fl 169 [.sc vt0, .sc (.int .i64 t1), .sc (.int .i64 t2), .sc (.fn 159 [])] m n (fun v m' n' => v = .tup [] ∧ Ip Y3 n bw m m' vt0 r) := by
  unfold F169_159 at h
  refine Ret.walk F169_159.fn ?_
  refine WC.startI (b := bw) hfl fun S0 em en hz hbw => ?_
  have hot0 := kt0.iw em en hz hbw
  refine WC.seq (WC.region (WO.mv rfl ?_))
  refine WO.bin rfl rfl (by decide) (by decide) rfl ?_
  refine WO.asg rfl (WO.nil (thenL_n (WC.block ?_)))
  obtain ⟨b42, e43, h⟩ := bindS h
  refine WC.loopD e43 (fun s1 l' m' n' => ∃ S2 : Cx fl, S2.m = m' ∧ S2.n = n' ∧ Cov l' [(0, .sc vt0), (1, .sc (.int .i64 t1)), (2, .sc (.int .i64 t2)), (3, .sc (.fn 159 [])), (8, .sc (.int .i64 s1.1))] ∧ Iw Y3 S2 2 n bw m vt0 s1.2) (fun b e l' m' n' => e = .exit 0 ∧ ∃ S3 : Cx fl, S3.m = m' ∧ S3.n = n' ∧ Cov l' [(0, .sc vt0)] ∧ Iw Y3 S3 2 n bw m vt0 b) (by exact ⟨S0, rfl, rfl, (Cov.cons rfl (Cov.cons rfl (Cov.cons rfl (Cov.cons rfl (Cov.cons rfl (Cov.nil _)))))), hot0⟩) ?_ ?_
  · clear h
    rintro s1 q _ _ _ ⟨S4, rfl, rfl, hc5, hot0⟩ h
    unfold F169_159_l1 at h
    refine WC.cov hc5 (WC.seq (WC.seq (WC.region (WO.mv rfl (WO.mv rfl ?_)))))
    refine WO.bin rfl rfl (by decide) (by decide) rfl ?_
    refine WO.nil (thenL_n ?_)
    refine WC.cond rfl (fun q6 => ?_) (fun q6 => ?_)
    · have h := iteT q6 h
      refine WC.skip (thenL_n (WC.seq (WC.block (WC.seq (WC.region (WO.mv rfl (WO.asg rfl (WO.nil (thenL_n ?_)))))))))
      refine WC.block ?_
      obtain ⟨b38, e39, h⟩ := bindS h
      refine WC.loopD e39 (fun s7 l' m' n' => ∃ S8 : Cx fl, S8.m = m' ∧ S8.n = n' ∧ Cov l' [(0, .sc vt0), (1, .sc (.int .i64 t1)), (2, .sc (.int .i64 t2)), (3, .sc (.fn 159 [])), (8, .sc (.int .i64 s1.1)), (9, .sc (.int .i64 s7.1))] ∧ Iw Y3 S8 2 n bw m vt0 s7.2) (fun b e l' m' n' => e = .exit 2 ∧ ∃ S9 : Cx fl, S9.m = m' ∧ S9.n = n' ∧ Cov l' [(0, .sc vt0), (1, .sc (.int .i64 t1)), (2, .sc (.int .i64 t2)), (3, .sc (.fn 159 [])), (8, .sc (.int .i64 s1.1))] ∧ Iw Y3 S9 2 n bw m vt0 b) (by exact ⟨S4, rfl, rfl, (Cov.cons rfl (Cov.cons rfl (Cov.cons rfl (Cov.cons rfl (Cov.cons rfl (Cov.cons rfl (Cov.nil _))))))), hot0⟩) ?_ ?_
      · clear h
        rintro s7 q _ _ _ ⟨S10, rfl, rfl, hc11, hot0⟩ h
        unfold F169_159_l0 at h
        refine WC.cov hc11 (WC.seq (WC.seq ?_))
        refine WC.drawN rfl rfl ?_
        have hot0z := hot0.oz
        refine WO.mv rfl (WO.mv rfl ?_)
        refine WO.bin rfl rfl (by decide) (by decide) rfl ?_
        refine WO.mv rfl ?_
        obtain ⟨y21, e22, h⟩ := bindS h
        refine WO.cutS (d := 34) (S := S10) 13 y21 (fun q20 => ?_) (fun q20 => ?_) (fun S23 c24 => ?_)
        · have h := e22
          have h := iteT q20 h
          refine WO.gyes rfl rfl (WO.mv rfl (WO.gyes rfl rfl (WO.mv rfl (WO.gyes rfl rfl (WO.mv rfl (WO.gyes rfl rfl ?_))))))
          obtain ⟨x12, e13, h⟩ := bindS h
          refine WO.ixS rfl rfl hot0.slv (at?_lt e13) rfl ?_
          refine WO.gyes rfl rfl ?_
          refine WO.ldF rfl hot0z (fun _ hi => hi.1) (at?_get e13) rfl rfl (limLe_self _) ?_
          refine WO.gyes rfl rfl (WO.mv rfl (WO.gyes rfl rfl (WO.mv rfl (WO.gyes rfl rfl ?_))))
          refine WO.bin rfl rfl (by decide) (by decide) rfl ?_
          refine WO.gyes rfl rfl ?_
          obtain ⟨x14, e15, h⟩ := bindS h
          refine WO.ixS rfl rfl hot0.slv (at?_lt e15) rfl ?_
          refine WO.gyes rfl rfl ?_
          refine WO.ldF rfl hot0z (fun _ hi => hi.1) (at?_get e15) rfl rfl (limLe_self _) ?_
          refine WO.gyes rfl rfl ?_
          obtain ⟨r16, e17, h⟩ := bindS h
          refine WO.callE (S := S10) rfl rfl (F159_ok e17) (fun S18 c19 => ?_)
          have hot0z := hot0z.tow c19
          have hot0 := hot0.to c19
          refine WO.gyes rfl rfl ?_
          refine WO.bin rfl rfl (by decide) (by decide) rfl ?_
          obtain rfl := someI h
          refine WO.pickT rfl rfl ?_
          refine WO.nil ?_
          exact ⟨S18, rfl, rfl, c19, (Cov.cons rfl (Cov.skip rfl (Cov.skip rfl (Cov.skip rfl (Cov.skip rfl (Cov.skip rfl (Cov.skip rfl (Cov.skip rfl (Cov.skip rfl (Cov.skip rfl (Cov.skip rfl (Cov.skip rfl (Cov.skip rfl (Cov.skip rfl (Cov.skip rfl (Cov.refl _))))))))))))))))⟩
        · have h := e22
          have h := iteF q20 h
          obtain rfl := someI h
          refine WO.gno rfl rfl (WO.gno rfl rfl (WO.gno rfl rfl (WO.gno rfl rfl (WO.gno rfl rfl (WO.gno rfl rfl (WO.gno rfl rfl (WO.gno rfl rfl (WO.gno rfl rfl (WO.gno rfl rfl ?_)))))))))
          refine WO.gno rfl rfl (WO.gno rfl rfl ?_)
          refine WO.pickF rfl rfl ?_
          refine WO.nil ?_
          exact ⟨S10, rfl, rfl, Ch.refl _ _, (Cov.cons rfl (Cov.skip rfl (Cov.skip rfl (Cov.skip rfl (Cov.skip rfl (Cov.skip rfl (Cov.skip rfl (Cov.skip rfl (Cov.skip rfl (Cov.skip rfl (Cov.skip rfl (Cov.skip rfl (Cov.skip rfl (Cov.skip rfl (Cov.skip rfl (Cov.refl _))))))))))))))))⟩
        have hot0z := hot0z.tow c24
        have hot0 := hot0.to c24
        refine WO.nil (thenL_n ?_)
        refine WC.cond rfl (fun q25 => ?_) (fun q25 => ?_)
        · have h := iteT q25 h
          refine WC.skip (thenL_n (WC.seq (WC.block ?_)))
          refine WC.drawN rfl rfl ?_
          have hot0z := hot0.oz
          refine WO.mv rfl (WO.mv rfl (WO.mv rfl (WO.mv rfl ?_)))
          refine WO.bin rfl rfl (by decide) (by decide) rfl ?_
          refine WO.mv rfl (WO.mv rfl ?_)
          refine WO.bin rfl rfl (by decide) (by decide) rfl ?_
          obtain ⟨x26, e27, h⟩ := bindS h
          refine WO.ixS rfl rfl hot0.slv (at?_lt e27) rfl ?_
          refine WO.ldF rfl hot0z (fun _ hi => hi.1) (at?_get e27) rfl rfl (limLe_self _) ?_
          refine WO.mv rfl (WO.mv rfl ?_)
          obtain ⟨x28, e29, h⟩ := bindS h
          refine WO.ixS rfl rfl hot0.slv (at?_lt e29) rfl ?_
          refine WO.ldF rfl hot0z (fun _ hi => hi.1) (at?_get e29) rfl rfl (limLe_self _) ?_
          obtain ⟨u30, e31, h⟩ := bindS h
          refine WO.ixS rfl rfl hot0.slv (ck_some e31) rfl ?_
          refine WO.stI (u' := x26) rfl rfl hot0 (ck_nat e31) rfl rfl (fun S32 c33 hot0 => ?_)
          obtain ⟨u34, e35, h⟩ := bindS h
          refine WO.ixS rfl rfl hot0.slv (ck_some e35) rfl ?_
          refine WO.stI (u' := x28) rfl rfl hot0 (ck_nat e35) rfl rfl (fun S36 c37 hot0 => ?_)
          refine WO.nil (blockL_n (thenL_n (WC.region (WO.mv rfl ?_))))
          refine WO.bin rfl rfl (by decide) (by decide) rfl ?_
          refine WO.asg rfl (WO.nil (thenL_n ?_))
          obtain rfl := someI h
          exact ⟨_, rfl, ⟨S36, rfl, rfl, (Cov.cons rfl (Cov.cons rfl (Cov.cons rfl (Cov.cons rfl (Cov.cons rfl (Cov.cons rfl (Cov.nil _))))))), hot0⟩⟩
        · have h := iteF q25 h
          refine WC.exit (thenL_e (thenL_e ?_))
          obtain rfl := someI h
          exact ⟨_, rfl, rfl, ⟨S23, rfl, rfl, (Cov.cons rfl (Cov.cons rfl (Cov.cons rfl (Cov.cons rfl (Cov.cons rfl (Cov.nil _)))))), hot0⟩⟩
      rintro _ _ _ _ ⟨rfl, ⟨S40, rfl, rfl, hc41, hot0⟩⟩
      refine blockL_s (blockL_n (thenL_n (WC.cov hc41 (WC.region (WO.mv rfl ?_)))))
      refine WO.bin rfl rfl (by decide) (by decide) rfl ?_
      refine WO.asg rfl (WO.nil (thenL_n ?_))
      obtain rfl := someI h
      exact ⟨_, rfl, ⟨S40, rfl, rfl, (Cov.cons rfl (Cov.cons rfl (Cov.cons rfl (Cov.cons rfl (Cov.cons rfl (Cov.nil _)))))), hot0⟩⟩
    · have h := iteF q6 h
      refine WC.exit (thenL_e (thenL_e ?_))
      obtain rfl := someI h
      exact ⟨_, rfl, rfl, ⟨S4, rfl, rfl, (Cov.cons rfl (Cov.nil _)), hot0⟩⟩
  rintro _ _ _ _ ⟨rfl, ⟨S44, rfl, rfl, hc45, hot0⟩⟩
  refine blockL_s ?_
  obtain rfl := someI h
  exact ⟨.inl rfl, _, _, (resK_cov hc45 rfl), rfl, ⟨rfl, hot0.ip Lay.flat_fl⟩⟩
end Go.Proofs.Ytihmliblbhjlaaa

namespace Go.Proofs.Ytihmliblbhjlaaa
open Go.Am
theorem F197_159.fn : E.fn 197 = some ⟨82, (Try.f197.body.getD .skip), Try.f197.results.toList, []⟩ := rfl
theorem F197_159_ok {F : Nat} {m : Mem} {n : Nat} {r : (List Int)} {t0 : List Int} {t1 : Int} {t2 : Int} {t3 : Int} {vt0 : SV} {fl : Nat} {bw : Nat} (h : F197_159 F t0 t1 t2 t3 = some r) (hfl : fl ≤ n) (kt0 : Iv Y3 fl n bw m vt0 t0) : Ret E fl 197 [.sc vt0, .sc (.int .i64 t1), .sc (.int .i64 t2), .sc (.int .i64 t3), .sc (.fn 159 [])] m n (fun v m' n' => v = .tup [] ∧ Ip Y3 n bw m m' vt0 r) := by
  unfold F197_159 at h
  refine Ret.walk F197_159.fn ?_
  refine WC.startI (b := bw) hfl fun S0 em en hz hbw => ?_
  have hot0 := kt0.iw em en hz hbw
  refine WC.seq (WC.region (WO.mv rfl (WO.asg rfl (WO.nil (thenL_n (WC.block ?_))))))
  obtain ⟨b49, e50, h⟩ := bindS h
  refine WC.loopD e50 (fun s1 l' m' n' => ∃ S2 : Cx fl, S2.m = m' ∧ S2.n = n' ∧ Cov l' [(0, .sc vt0), (2, .sc (.int .i64 t2)), (3, .sc (.int .i64 t3)), (4, .sc (.fn 159 [])), (10, .sc (.int .i64 s1.1))] ∧ Iw Y3 S2 2 n bw m vt0 s1.2) (fun b e l' m' n' => (match b with | .inl b3 => e = .exit 0 ∧ ∃ S4 : Cx fl, S4.m = m' ∧ S4.n = n' ∧ Cov l' [(0, .sc vt0)] ∧ Iw Y3 S4 2 n bw m vt0 b3 | .inr b3 => e = .ret ∧ ∃ S5 : Cx fl, S5.m = m' ∧ S5.n = n' ∧ Cov l' [(0, .sc vt0)] ∧ Iw Y3 S5 2 n bw m vt0 b3)) (by exact ⟨S0, rfl, rfl, (Cov.cons rfl (Cov.cons rfl (Cov.cons rfl (Cov.cons rfl (Cov.cons rfl (Cov.nil _)))))), hot0⟩) ?_ ?_
  · clear h
    rintro s1 q _ _ _ ⟨S6, rfl, rfl, hc7, hot0⟩ h
    unfold F197_159_l0 at h
    refine WC.cov hc7 (WC.block (WC.seq (WC.region (WO.mv rfl ?_))))
    refine WO.bin rfl rfl (by decide) (by decide) rfl ?_
    refine WO.bin rfl rfl (by decide) (by decide) rfl ?_
    refine WO.asg rfl (WO.nil (thenL_n (WC.seq (WC.seq (WC.region (WO.mv rfl (WO.mv rfl ?_)))))))
    refine WO.bin rfl rfl (by decide) (by decide) rfl ?_
    refine WO.nil (thenL_n ?_)
    refine WC.cond rfl (fun q8 => ?_) (fun q8 => ?_)
    · have h := iteT q8 h
      refine WC.exit (thenL_e (blockL_e rfl (thenL_e ?_)))
      obtain rfl := someI h
      exact ⟨_, rfl, rfl, ⟨S6, rfl, rfl, (Cov.cons rfl (Cov.nil _)), hot0⟩⟩
    · have h := iteF q8 h
      refine WC.skip (thenL_n (WC.seq (WC.seq ?_)))
      refine WC.drawN rfl rfl ?_
      have hot0z := hot0.oz
      refine WO.mv rfl ?_
      refine WO.bin rfl rfl (by decide) (by decide) rfl ?_
      refine WO.mv rfl ?_
      refine WO.bin rfl rfl (by decide) (by decide) rfl ?_
      refine WO.mv rfl ?_
      obtain ⟨y18, e19, h⟩ := bindS h
      refine WO.cutS (d := 40) (S := S6) 17 y18 (fun q17 => ?_) (fun q17 => ?_) (fun S20 c21 => ?_)
      · have h := e19
        have h := iteT q17 h
        refine WO.gyes rfl rfl (WO.mv rfl (WO.gyes rfl rfl (WO.mv rfl (WO.gyes rfl rfl (WO.mv rfl (WO.gyes rfl rfl (WO.mv rfl (WO.gyes rfl rfl ?_))))))))
        refine WO.bin rfl rfl (by decide) (by decide) rfl ?_
        refine WO.gyes rfl rfl ?_
        obtain ⟨x9, e10, h⟩ := bindS h
        refine WO.ixS rfl rfl hot0.slv (at?_lt e10) rfl ?_
        refine WO.gyes rfl rfl ?_
        refine WO.ldF rfl hot0z (fun _ hi => hi.1) (at?_get e10) rfl rfl (limLe_self _) ?_
        refine WO.gyes rfl rfl (WO.mv rfl (WO.gyes rfl rfl (WO.mv rfl (WO.gyes rfl rfl (WO.mv rfl (WO.gyes rfl rfl ?_))))))
        refine WO.bin rfl rfl (by decide) (by decide) rfl ?_
        refine WO.gyes rfl rfl ?_
        refine WO.bin rfl rfl (by decide) (by decide) rfl ?_
        refine WO.gyes rfl rfl ?_
        obtain ⟨x11, e12, h⟩ := bindS h
        refine WO.ixS rfl rfl hot0.slv (at?_lt e12) rfl ?_
        refine WO.gyes rfl rfl ?_
        refine WO.ldF rfl hot0z (fun _ hi => hi.1) (at?_get e12) rfl rfl (limLe_self _) ?_
        refine WO.gyes rfl rfl ?_
        obtain ⟨r13, e14, h⟩ := bindS h
        refine WO.callE (S := S6) rfl rfl (F159_ok e14) (fun S15 c16 => ?_)
        have hot0z := hot0z.tow c16
        have hot0 := hot0.to c16
        refine WO.gyes rfl rfl ?_
        refine WO.bin rfl rfl (by decide) (by decide) rfl ?_
        obtain rfl := someI h
        refine WO.pickT rfl rfl ?_
        refine WO.nil ?_
        exact ⟨S15, rfl, rfl, c16, (Cov.cons rfl (Cov.skip rfl (Cov.skip rfl (Cov.skip rfl (Cov.skip rfl (Cov.skip rfl (Cov.skip rfl (Cov.skip rfl (Cov.skip rfl (Cov.skip rfl (Cov.skip rfl (Cov.skip rfl (Cov.skip rfl (Cov.skip rfl (Cov.skip rfl (Cov.skip rfl (Cov.skip rfl (Cov.skip rfl (Cov.skip rfl (Cov.refl _))))))))))))))))))))⟩
      · have h := e19
        have h := iteF q17 h
        obtain rfl := someI h
        refine WO.gno rfl rfl (WO.gno rfl rfl (WO.gno rfl rfl (WO.gno rfl rfl (WO.gno rfl rfl (WO.gno rfl rfl (WO.gno rfl rfl (WO.gno rfl rfl (WO.gno rfl rfl (WO.gno rfl rfl ?_)))))))))
        refine WO.gno rfl rfl (WO.gno rfl rfl (WO.gno rfl rfl (WO.gno rfl rfl (WO.gno rfl rfl (WO.gno rfl rfl ?_)))))
        refine WO.pickF rfl rfl ?_
        refine WO.nil ?_
        exact ⟨S6, rfl, rfl, Ch.refl _ _, (Cov.cons rfl (Cov.skip rfl (Cov.skip rfl (Cov.skip rfl (Cov.skip rfl (Cov.skip rfl (Cov.skip rfl (Cov.skip rfl (Cov.skip rfl (Cov.skip rfl (Cov.skip rfl (Cov.skip rfl (Cov.skip rfl (Cov.skip rfl (Cov.skip rfl (Cov.skip rfl (Cov.skip rfl (Cov.skip rfl (Cov.skip rfl (Cov.refl _))))))))))))))))))))⟩
      have hot0z := hot0z.tow c21
      have hot0 := hot0.to c21
      refine WO.nil (thenL_n ?_)
      obtain ⟨b23, e24, h⟩ := bindS h
      refine WC.mono (Q' := (fun b e l' m' n' => e = .normal ∧ ∃ S25 : Cx fl, S25.m = m' ∧ S25.n = n' ∧ Cov l' [(0, .sc vt0), (2, .sc (.int .i64 t2)), (3, .sc (.int .i64 t3)), (4, .sc (.fn 159 [])), (10, .sc (.int .i64 s1.1)), (11, .sc (.int .i64 b))] ∧ Iw Y3 S25 2 n bw m vt0 s1.2) b23) ?_ ?_
      · have h := e24
        dsimp only at h ⊢
        refine WC.cond rfl (fun q22 => ?_) (fun q22 => ?_)
        · have h := iteT q22 h
          refine WC.region (WO.mv rfl ?_)
          refine WO.bin rfl rfl (by decide) (by decide) rfl ?_
          refine WO.asg rfl (WO.nil ?_)
          obtain rfl := someI h
          exact ⟨rfl, ⟨S20, rfl, rfl, (Cov.cons rfl (Cov.cons rfl (Cov.cons rfl (Cov.cons rfl (Cov.cons rfl (Cov.cons rfl (Cov.nil _))))))), hot0⟩⟩
        · have h := iteF q22 h
          refine WC.skip ?_
          obtain rfl := someI h
          exact ⟨rfl, ⟨S20, rfl, rfl, (Cov.cons rfl (Cov.cons rfl (Cov.cons rfl (Cov.cons rfl (Cov.cons rfl (Cov.cons rfl (Cov.nil _))))))), hot0⟩⟩
      dsimp only
      rintro _ _ _ _ ⟨rfl, ⟨S26, rfl, rfl, hc27, hot0⟩⟩
      refine thenL_n (WC.cov hc27 (WC.seq (WC.seq ?_)))
      refine WC.drawN rfl rfl ?_
      have hot0z := hot0.oz
      refine WO.mv rfl (WO.mv rfl (WO.mv rfl (WO.mv rfl ?_)))
      refine WO.bin rfl rfl (by decide) (by decide) rfl ?_
      obtain ⟨x28, e29, h⟩ := bindS h
      refine WO.ixS rfl rfl hot0.slv (at?_lt e29) rfl ?_
      refine WO.ldF rfl hot0z (fun _ hi => hi.1) (at?_get e29) rfl rfl (limLe_self _) ?_
      refine WO.mv rfl (WO.mv rfl (WO.mv rfl ?_))
      refine WO.bin rfl rfl (by decide) (by decide) rfl ?_
      obtain ⟨x30, e31, h⟩ := bindS h
      refine WO.ixS rfl rfl hot0.slv (at?_lt e31) rfl ?_
      refine WO.ldF rfl hot0z (fun _ hi => hi.1) (at?_get e31) rfl rfl (limLe_self _) ?_
      obtain ⟨r32, e33, h⟩ := bindS h
      refine WO.callE (S := S26) rfl rfl (F159_ok e33) (fun S34 c35 => ?_)
      have hot0z := hot0z.tow c35
      have hot0 := hot0.to c35
      refine WO.bin rfl rfl (by decide) (by decide) rfl ?_
      refine WO.do rfl rfl ?_
      refine WO.nil (thenL_n ?_)
      refine WC.cond rfl (fun q36 => ?_) (fun q36 => ?_)
      · have h := iteT q36 h
        refine WC.ret (thenL_r (blockL_r (thenL_r ?_)))
        obtain rfl := someI h
        exact ⟨_, rfl, rfl, ⟨S34, rfl, rfl, (Cov.cons rfl (Cov.nil _)), hot0⟩⟩
      · have h := iteF q36 h
        refine WC.skip (thenL_n (WC.seq ?_))
        refine WC.drawN rfl rfl ?_
        have hot0z := hot0.oz
        refine WO.mv rfl (WO.mv rfl (WO.mv rfl ?_))
        refine WO.bin rfl rfl (by decide) (by decide) rfl ?_
        refine WO.mv rfl (WO.mv rfl (WO.mv rfl ?_))
        refine WO.bin rfl rfl (by decide) (by decide) rfl ?_
        refine WO.mv rfl (WO.mv rfl (WO.mv rfl ?_))
        refine WO.bin rfl rfl (by decide) (by decide) rfl ?_
        obtain ⟨x37, e38, h⟩ := bindS h
        refine WO.ixS rfl rfl hot0.slv (at?_lt e38) rfl ?_
        refine WO.ldF rfl hot0z (fun _ hi => hi.1) (at?_get e38) rfl rfl (limLe_self _) ?_
        refine WO.mv rfl (WO.mv rfl (WO.mv rfl ?_))
        refine WO.bin rfl rfl (by decide) (by decide) rfl ?_
        obtain ⟨x39, e40, h⟩ := bindS h
        refine WO.ixS rfl rfl hot0.slv (at?_lt e40) rfl ?_
        refine WO.ldF rfl hot0z (fun _ hi => hi.1) (at?_get e40) rfl rfl (limLe_self _) ?_
        obtain ⟨u41, e42, h⟩ := bindS h
        refine WO.ixS rfl rfl hot0.slv (ck_some e42) rfl ?_
        refine WO.stI (u' := x37) rfl rfl hot0 (ck_nat e42) rfl rfl (fun S43 c44 hot0 => ?_)
        obtain ⟨u45, e46, h⟩ := bindS h
        refine WO.ixS rfl rfl hot0.slv (ck_some e46) rfl ?_
        refine WO.stI (u' := x39) rfl rfl hot0 (ck_nat e46) rfl rfl (fun S47 c48 hot0 => ?_)
        refine WO.nil (thenL_n (WC.region (WO.mv rfl (WO.asg rfl (WO.nil (blockL_n (thenL_n ?_)))))))
        obtain rfl := someI h
        exact ⟨_, rfl, ⟨S47, rfl, rfl, (Cov.cons rfl (Cov.cons rfl (Cov.cons rfl (Cov.cons rfl (Cov.cons rfl (Cov.nil _)))))), hot0⟩⟩
  cases b49 with
  | inl b51 =>
    simp only at h
    rintro _ _ _ _ ⟨rfl, ⟨S52, rfl, rfl, hc53, hot0⟩⟩
    refine blockL_s ?_
    obtain rfl := someI h
    exact ⟨.inl rfl, _, _, (resK_cov hc53 rfl), rfl, ⟨rfl, hot0.ip Lay.flat_fl⟩⟩
  | inr b51 =>
    simp only at h
    rintro _ _ _ _ ⟨rfl, ⟨S54, rfl, rfl, hc55, hot0⟩⟩
    refine blockL_r ?_
    obtain rfl := someI h
    exact ⟨.inr rfl, _, _, (resK_cov hc55 rfl), rfl, ⟨rfl, hot0.ip Lay.flat_fl⟩⟩
end Go.Proofs.Ytihmliblbhjlaaa

namespace Go.Proofs.Ytihmliblbhjlaaa
open Go.Am
theorem F170_159.fn : E.fn 170 = some ⟨60, (Try.f170.body.getD .skip), Try.f170.results.toList, []⟩ := rfl
theorem F170_159_ok {F : Nat} {m : Mem} {n : Nat} {r : (List Int)} {t0 : List Int} {t1 : Int} {t2 : Int} {vt0 : SV} {fl : Nat} {bw : Nat} (h : F170_159 F t0 t1 t2 = some r) (hfl : fl ≤ n) (kt0 : Iv Y3 fl n bw m vt0 t0) : Ret E fl 170 [.sc vt0, .sc (.int .i64 t1), .sc (.int .i64 t2), .sc (.fn 159 [])] m n (fun v m' n' => v = .tup [] ∧ Ip Y3 n bw m m' vt0 r) := by
  unfold F170_159 at h
  refine Ret.walk F170_159.fn ?_
  refine WC.startI (b := bw) hfl fun S0 em en hz hbw => ?_
  have hot0 := kt0.iw em en hz hbw
  refine WC.seq (WC.region (WO.mv rfl (WO.asg rfl (WO.nil (thenL_n (WC.seq (WC.region (WO.asg rfl (WO.nil ?_)))))))))
  refine thenL_n (WC.seq (WC.region (WO.mv rfl (WO.mv rfl ?_))))
  refine WO.bin rfl rfl (by decide) (by decide) rfl ?_
  refine WO.asg rfl (WO.nil (thenL_n (WC.seq (WC.seq (WC.region (WO.mv rfl ?_))))))
  refine WO.bin rfl rfl (by decide) (by decide) rfl ?_
  refine WO.bin rfl rfl (by decide) (by decide) rfl ?_
  refine WO.asg rfl (WO.nil (thenL_n (WC.block ?_)))
  obtain ⟨b11, e12, h⟩ := bindS h
  refine WC.loopD e12 (fun s1 l' m' n' => ∃ S2 : Cx fl, S2.m = m' ∧ S2.n = n' ∧ Cov l' [(0, .sc vt0), (3, .sc (.fn 159 [])), (8, .sc (.int .i64 t1)), (9, .sc (.int .i64 0)), (10, .sc (.int .i64 ((wrapA .i64 (t2 - t1))))), (11, .sc (.int .i64 s1.1))] ∧ Iw Y3 S2 2 n bw m vt0 s1.2) (fun b e l' m' n' => e = .exit 0 ∧ ∃ S3 : Cx fl, S3.m = m' ∧ S3.n = n' ∧ Cov l' [(0, .sc vt0), (3, .sc (.fn 159 [])), (8, .sc (.int .i64 t1)), (9, .sc (.int .i64 0)), (10, .sc (.int .i64 ((wrapA .i64 (t2 - t1)))))] ∧ Iw Y3 S3 2 n bw m vt0 b) (by exact ⟨S0, rfl, rfl, (Cov.cons rfl (Cov.cons rfl (Cov.cons rfl (Cov.cons rfl (Cov.cons rfl (Cov.cons rfl (Cov.nil _))))))), hot0⟩) ?_ ?_
  · clear h
    rintro s1 q _ _ _ ⟨S4, rfl, rfl, hc5, hot0⟩ h
    unfold F170_159_l0 at h
    refine WC.cov hc5 (WC.seq (WC.seq (WC.region (WO.mv rfl ?_))))
    refine WO.bin rfl rfl (by decide) (by decide) rfl ?_
    refine WO.nil (thenL_n ?_)
    refine WC.cond rfl (fun q6 => ?_) (fun q6 => ?_)
    · have h := iteT q6 h
      refine WC.skip (thenL_n (WC.seq (WC.block (WC.region (WO.mv rfl (WO.mv rfl (WO.mv rfl (WO.mv rfl (WO.mv rfl ?_)))))))))
      obtain ⟨r7, e8, h⟩ := bindS h
      refine WO.callW (S := S4) hot0 rfl rfl rfl (fun bq hI hB => F197_159_ok e8 S4.le hI) Lay.flat_fl (fun S9 c10 hot0 => ?_)
      refine WO.nil (blockL_n (thenL_n (WC.region (WO.mv rfl ?_))))
      refine WO.bin rfl rfl (by decide) (by decide) rfl ?_
      refine WO.asg rfl (WO.nil (thenL_n ?_))
      obtain rfl := someI h
      exact ⟨_, rfl, ⟨S9, rfl, rfl, (Cov.cons rfl (Cov.cons rfl (Cov.cons rfl (Cov.cons rfl (Cov.cons rfl (Cov.cons rfl (Cov.nil _))))))), hot0⟩⟩
    · have h := iteF q6 h
      refine WC.exit (thenL_e (thenL_e ?_))
      obtain rfl := someI h
      exact ⟨_, rfl, rfl, ⟨S4, rfl, rfl, (Cov.cons rfl (Cov.cons rfl (Cov.cons rfl (Cov.cons rfl (Cov.cons rfl (Cov.nil _)))))), hot0⟩⟩
  rintro _ _ _ _ ⟨rfl, ⟨S13, rfl, rfl, hc14, hot0⟩⟩
  refine blockL_s (thenL_n (WC.cov hc14 (WC.seq (WC.region (WO.mv rfl ?_)))))
  refine WO.bin rfl rfl (by decide) (by decide) rfl ?_
  refine WO.asg rfl (WO.nil (thenL_n (WC.block ?_)))
  obtain ⟨b37, e38, h⟩ := bindS h
  refine WC.loopD e38 (fun s15 l' m' n' => ∃ S16 : Cx fl, S16.m = m' ∧ S16.n = n' ∧ Cov l' [(0, .sc vt0), (3, .sc (.fn 159 [])), (8, .sc (.int .i64 t1)), (9, .sc (.int .i64 0)), (12, .sc (.int .i64 s15.1))] ∧ Iw Y3 S16 2 n bw m vt0 s15.2) (fun b e l' m' n' => e = .exit 2 ∧ ∃ S17 : Cx fl, S17.m = m' ∧ S17.n = n' ∧ Cov l' [(0, .sc vt0)] ∧ Iw Y3 S17 2 n bw m vt0 b) (by exact ⟨S13, rfl, rfl, (Cov.cons rfl (Cov.cons rfl (Cov.cons rfl (Cov.cons rfl (Cov.cons rfl (Cov.nil _)))))), hot0⟩) ?_ ?_
  · clear h
    rintro s15 q _ _ _ ⟨S18, rfl, rfl, hc19, hot0⟩ h
    unfold F170_159_l1 at h
    refine WC.cov hc19 (WC.seq (WC.seq (WC.region (WO.mv rfl ?_))))
    refine WO.bin rfl rfl (by decide) (by decide) rfl ?_
    refine WO.nil (thenL_n ?_)
    refine WC.cond rfl (fun q20 => ?_) (fun q20 => ?_)
    · have h := iteT q20 h
      refine WC.skip (thenL_n (WC.seq (WC.block (WC.seq ?_))))
      refine WC.drawN rfl rfl ?_
      have hot0z := hot0.oz
      refine WO.mv rfl (WO.mv rfl (WO.mv rfl (WO.mv rfl (WO.mv rfl ?_))))
      refine WO.bin rfl rfl (by decide) (by decide) rfl ?_
      refine WO.mv rfl (WO.mv rfl (WO.mv rfl ?_))
      refine WO.bin rfl rfl (by decide) (by decide) rfl ?_
      obtain ⟨x21, e22, h⟩ := bindS h
      refine WO.ixS rfl rfl hot0.slv (at?_lt e22) rfl ?_
      refine WO.ldF rfl hot0z (fun _ hi => hi.1) (at?_get e22) rfl rfl (limLe_self _) ?_
      refine WO.mv rfl (WO.mv rfl ?_)
      obtain ⟨x23, e24, h⟩ := bindS h
      refine WO.ixS rfl rfl hot0.slv (at?_lt e24) rfl ?_
      refine WO.ldF rfl hot0z (fun _ hi => hi.1) (at?_get e24) rfl rfl (limLe_self _) ?_
      obtain ⟨u25, e26, h⟩ := bindS h
      refine WO.ixS rfl rfl hot0.slv (ck_some e26) rfl ?_
      refine WO.stI (u' := x21) rfl rfl hot0 (ck_nat e26) rfl rfl (fun S27 c28 hot0 => ?_)
      obtain ⟨u29, e30, h⟩ := bindS h
      refine WO.ixS rfl rfl hot0.slv (ck_some e30) rfl ?_
      refine WO.stI (u' := x23) rfl rfl hot0 (ck_nat e30) rfl rfl (fun S31 c32 hot0 => ?_)
      refine WO.nil (thenL_n (WC.region (WO.mv rfl (WO.mv rfl (WO.mv rfl (WO.mv rfl (WO.mv rfl ?_)))))))
      obtain ⟨r33, e34, h⟩ := bindS h
      refine WO.callW (S := S31) hot0 rfl rfl rfl (fun bq hI hB => F197_159_ok e34 S31.le hI) Lay.flat_fl (fun S35 c36 hot0 => ?_)
      refine WO.nil (blockL_n (thenL_n (WC.region (WO.mv rfl ?_))))
      refine WO.bin rfl rfl (by decide) (by decide) rfl ?_
      refine WO.asg rfl (WO.nil (thenL_n ?_))
      obtain rfl := someI h
      exact ⟨_, rfl, ⟨S35, rfl, rfl, (Cov.cons rfl (Cov.cons rfl (Cov.cons rfl (Cov.cons rfl (Cov.cons rfl (Cov.nil _)))))), hot0⟩⟩
    · have h := iteF q20 h
      refine WC.exit (thenL_e (thenL_e ?_))
      obtain rfl := someI h
      exact ⟨_, rfl, rfl, ⟨S18, rfl, rfl, (Cov.cons rfl (Cov.nil _)), hot0⟩⟩
  rintro _ _ _ _ ⟨rfl, ⟨S39, rfl, rfl, hc40, hot0⟩⟩
  refine blockL_s ?_
  obtain rfl := someI h
  exact ⟨.inl rfl, _, _, (resK_cov hc40 rfl), rfl, ⟨rfl, hot0.ip Lay.flat_fl⟩⟩
end Go.Proofs.Ytihmliblbhjlaaa

namespace Go.Proofs.Ytihmliblbhjlaaa
open Go.Am
theorem F171_159.fn : E.fn 171 = some ⟨67, (Try.f171.body.getD .skip), Try.f171.results.toList, []⟩ := rfl
theorem F171_159_ok {F : Nat} {m : Mem} {n : Nat} {r : (List Int)} {t0 : List Int} {t1 : Int} {t2 : Int} {vt0 : SV} {fl : Nat} {bw : Nat} (h : F171_159 F t0 t1 t2 = some r) (hfl : fl ≤ n) (kt0 : Iv Y3 fl n bw m vt0 t0) : Ret E fl 171 [.sc vt0, .sc (.int .i64 t1), .sc (.int .i64 t2), .sc (.fn 159 [])] m n (fun v m' n' => v = .tup [] ∧ Ip Y3 n bw m m' vt0 r) := by
  unfold F171_159 at h
  refine Ret.walk F171_159.fn ?_
  refine WC.startI (b := bw) hfl fun S0 em en hz hbw => ?_
  have hot0 := kt0.iw em en hz hbw
  refine WC.seq (WC.region (WO.mv rfl (WO.mv rfl ?_)))
  refine WO.bin rfl rfl (by decide) (by decide) rfl ?_
  refine WO.asg rfl (WO.nil (thenL_n (WC.seq (WC.region (WO.mv rfl ?_)))))
  refine WO.bin rfl rfl (by decide) (by decide) rfl ?_
  refine WO.nil (thenL_n ?_)
  refine WC.cond rfl (fun q1 => ?_) (fun q1 => ?_)
  · have h := iteT q1 h
    refine WC.seq (WC.region (WO.mv rfl ?_))
    refine WO.conv rfl rfl rfl rfl ?_
    refine WO.alS (A := Y201) (S := S0) (z0 := 0) 3 rfl rfl rfl (fun v2 S3 c4 ho5 => ?_)
    have hot0 := hot0.to c4
    refine WO.stB (j := 0) (q := 0) (u' := (wrapA .u64 (wrapA .i64 (t2 - t1)))) rfl ho5.at0 rfl ho5 rfl (by decide) rfl rfl (fun S6 c7 ho5 => ?_)
    have hot0 := hot0.to c7
    refine WO.nil (thenL_n (WC.seq (WC.region (WO.mv rfl ?_))))
    obtain ⟨r8, e9, h⟩ := bindS h
    refine WO.callE (S := S6) rfl rfl (F198_ok e9) (fun S10 c11 => ?_)
    have hot0 := hot0.to c11
    have ho5 := ho5.to c11
    refine WO.asg rfl (WO.nil (thenL_n (WC.seq (WC.region (WO.mv rfl (WO.mv rfl ?_))))))
    refine WO.bin rfl rfl (by decide) (by decide) rfl ?_
    refine WO.bin rfl rfl (by decide) (by decide) rfl ?_
    refine WO.bin rfl rfl (by decide) (by decide) rfl ?_
    refine WO.bin rfl rfl (by decide) (by decide) rfl ?_
    refine WO.asg rfl (WO.nil (thenL_n (WC.block ?_)))
    obtain ⟨b42, e43, h⟩ := bindS h
    refine WC.loopD e43 (fun s12 l' m' n' => ∃ S13 : Cx fl, S13.m = m' ∧ S13.n = n' ∧ Cov l' [(0, .sc vt0), (1, .sc (.int .i64 t1)), (8, .sc (.int .i64 ((wrapA .i64 (t2 - t1))))), (9, .sc v2), (10, .sc (.int .u64 r8)), (11, .sc (.int .i64 s12.1))] ∧ Iw Y3 S13 2 n bw m vt0 s12.2.1 ∧ Bk Y201 S13 3 v2 s12.2.2) (fun b e l' m' n' => e = .exit 0 ∧ ∃ S14 : Cx fl, S14.m = m' ∧ S14.n = n' ∧ Cov l' [(0, .sc vt0)] ∧ Iw Y3 S14 2 n bw m vt0 b) (by exact ⟨S10, rfl, rfl, (Cov.cons rfl (Cov.cons rfl (Cov.cons rfl (Cov.cons rfl (Cov.cons rfl (Cov.cons rfl (Cov.nil _))))))), hot0, ho5⟩) ?_ ?_
    · clear h
      rintro s12 q _ _ _ ⟨S15, rfl, rfl, hc16, hot0, ho5⟩ h
      unfold F171_159_l0 at h
      refine WC.cov hc16 (WC.seq (WC.seq (WC.region (WO.mv rfl (WO.mv rfl (WO.mv rfl ?_))))))
      refine WO.bin rfl rfl (by decide) (by decide) rfl ?_
      refine WO.bin rfl rfl (by decide) (by decide) rfl ?_
      refine WO.bin rfl rfl (by decide) (by decide) rfl ?_
      refine WO.bin rfl rfl (by decide) (by decide) rfl ?_
      refine WO.bin rfl rfl (by decide) (by decide) rfl ?_
      refine WO.nil (thenL_n ?_)
      refine WC.cond rfl (fun q17 => ?_) (fun q17 => ?_)
      · have h := iteT q17 h
        refine WC.skip (thenL_n (WC.seq (WC.block (WC.seq (WC.region ?_)))))
        obtain ⟨b18, rfl⟩ := ho5.isp
        obtain ⟨r19, e20, h⟩ := bindS h
        refine WO.callG (S := S15) [(3, 2)] [(2, 3)] rfl rfl (F199_ok (S0 := S15.mp [(3, 2)]) e20 (ho5.mp rfl)) (fun _ S21 S22 hb hR => ?_)
        obtain ⟨rfl, hR0⟩ := hR
        have c23 : Ch 3 S15 S22 := hb.ch [] 3
        have hot0 := hot0.to c23
        have ho5 := hR0.bkF hb rfl Lay.flat_fl
        refine WO.mv rfl ?_
        refine WO.bin rfl rfl (by decide) (by decide) rfl ?_
        refine WO.bits rfl rfl rfl (by decide) (by decide) rfl ?_
        refine WO.conv rfl rfl rfl rfl ?_
        refine WO.asg rfl (WO.nil (thenL_n (WC.seq (WC.seq (WC.region (WO.mv rfl (WO.mv rfl ?_)))))))
        refine WO.bin rfl rfl (by decide) (by decide) rfl ?_
        refine WO.nil (thenL_n ?_)
        obtain ⟨b25, e26, h⟩ := bindS h
        refine WC.mono (Q' := (fun b e l' m' n' => e = .normal ∧ ∃ S27 : Cx fl, S27.m = m' ∧ S27.n = n' ∧ Cov l' [(0, .sc vt0), (1, .sc (.int .i64 t1)), (8, .sc (.int .i64 ((wrapA .i64 (t2 - t1))))), (9, .sc ((.ptr b18 0))), (10, .sc (.int .u64 r8)), (11, .sc (.int .i64 s12.1)), (12, .sc (.int .i64 b))] ∧ Iw Y3 S27 2 n bw m vt0 s12.2.1 ∧ Bk Y201 S27 3 (.ptr b18 0) r19.2) b25) ?_ ?_
        · have h := e26
          dsimp only at h ⊢
          refine WC.cond rfl (fun q24 => ?_) (fun q24 => ?_)
          · have h := iteT q24 h
            refine WC.region (WO.mv rfl (WO.mv rfl ?_))
            refine WO.bin rfl rfl (by decide) (by decide) rfl ?_
            refine WO.asg rfl (WO.nil ?_)
            obtain rfl := someI h
            exact ⟨rfl, ⟨S22, rfl, rfl, (Cov.cons rfl (Cov.cons rfl (Cov.cons rfl (Cov.cons rfl (Cov.cons rfl (Cov.cons rfl (Cov.cons rfl (Cov.nil _)))))))), hot0, ho5⟩⟩
          · have h := iteF q24 h
            refine WC.skip ?_
            obtain rfl := someI h
            exact ⟨rfl, ⟨S22, rfl, rfl, (Cov.cons rfl (Cov.cons rfl (Cov.cons rfl (Cov.cons rfl (Cov.cons rfl (Cov.cons rfl (Cov.cons rfl (Cov.nil _)))))))), hot0, ho5⟩⟩
        dsimp only
        rintro _ _ _ _ ⟨rfl, ⟨S28, rfl, rfl, hc29, hot0, ho5⟩⟩
        refine thenL_n (WC.cov hc29 ?_)
        refine WC.drawN rfl rfl ?_
        have hot0z := hot0.oz
        have ho5z := ho5.lt
        refine WO.mv rfl (WO.mv rfl (WO.mv rfl (WO.mv rfl (WO.mv rfl ?_))))
        refine WO.bin rfl rfl (by decide) (by decide) rfl ?_
        refine WO.mv rfl (WO.mv rfl (WO.mv rfl ?_))
        refine WO.bin rfl rfl (by decide) (by decide) rfl ?_
        obtain ⟨x30, e31, h⟩ := bindS h
        refine WO.ixS rfl rfl hot0.slv (at?_lt e31) rfl ?_
        refine WO.ldF rfl hot0z (fun _ hi => hi.1) (at?_get e31) rfl rfl (limLe_self _) ?_
        refine WO.mv rfl (WO.mv rfl ?_)
        obtain ⟨x32, e33, h⟩ := bindS h
        refine WO.ixS rfl rfl hot0.slv (at?_lt e33) rfl ?_
        refine WO.ldF rfl hot0z (fun _ hi => hi.1) (at?_get e33) rfl rfl (limLe_self _) ?_
        obtain ⟨u34, e35, h⟩ := bindS h
        refine WO.ixS rfl rfl hot0.slv (ck_some e35) rfl ?_
        refine WO.stI (u' := x30) rfl rfl hot0 (ck_nat e35) rfl rfl (fun S36 c37 hot0 => ?_)
        have ho5 := ho5.to c37
        obtain ⟨u38, e39, h⟩ := bindS h
        refine WO.ixS rfl rfl hot0.slv (ck_some e39) rfl ?_
        refine WO.stI (u' := x32) rfl rfl hot0 (ck_nat e39) rfl rfl (fun S40 c41 hot0 => ?_)
        have ho5 := ho5.to c41
        refine WO.nil (blockL_n (thenL_n (WC.region (WO.mv rfl ?_))))
        refine WO.bin rfl rfl (by decide) (by decide) rfl ?_
        refine WO.asg rfl (WO.nil (thenL_n ?_))
        obtain rfl := someI h
        exact ⟨_, rfl, ⟨S40, rfl, rfl, (Cov.cons rfl (Cov.cons rfl (Cov.cons rfl (Cov.cons rfl (Cov.cons rfl (Cov.cons rfl (Cov.nil _))))))), hot0, ho5⟩⟩
      · have h := iteF q17 h
        refine WC.exit (thenL_e (thenL_e ?_))
        obtain rfl := someI h
        exact ⟨_, rfl, rfl, ⟨S15, rfl, rfl, (Cov.cons rfl (Cov.nil _)), hot0⟩⟩
    rintro _ _ _ _ ⟨rfl, ⟨S44, rfl, rfl, hc45, hot0⟩⟩
    refine blockL_s ?_
    obtain rfl := someI h
    exact ⟨.inl rfl, _, _, (resK_cov hc45 rfl), rfl, ⟨rfl, hot0.ip Lay.flat_fl⟩⟩
  · have h := iteF q1 h
    refine WC.skip ?_
    obtain rfl := someI h
    exact ⟨.inl rfl, _, _, rfl, rfl, ⟨rfl, hot0.ip Lay.flat_fl⟩⟩
end Go.Proofs.Ytihmliblbhjlaaa

namespace Go.Proofs.Ytihmliblbhjlaaa
open Go.Am
theorem F216_159.fn : E.fn 216 = some ⟨32, (Try.f216.body.getD .skip), Try.f216.results.toList, []⟩ := rfl
theorem F216_159_ok {F : Nat} {fl : Nat} {S0 : Cx fl} {r : Int × Int × Int} {t0 : List Int} {t1 : Int} {t2 : Int} {t3 : Int} {vt0 : SV} {bt3 : Nat} (h : F216_159 F t0 t1 t2 t3 = some r) (hot0 : Rd Y3 S0 vt0 t0) (hot3 : Bk Y3 S0 2 (.ptr bt3 0) t3) : Ret E fl 216 [.sc vt0, .sc (.int .i64 t1), .sc (.int .i64 t2), .sc (.ptr bt3 0), .sc (.fn 159 [])] S0.m S0.n (fun v m' n' => ∃ S' : Cx fl, S'.m = m' ∧ S'.n = n' ∧ ChM S0 S' ∧ (v = .tup [.sc (.int .i64 r.1), .sc (.int .i64 r.2.1)] ∧ Bk Y3 S' 2 (.ptr bt3 0) r.2.2)) := by
  unfold F216_159 at h
  refine Ret.walk F216_159.fn ?_
  have hM := ChM.refl S0
  refine WC.seq (WC.region (WO.asg rfl (WO.asg rfl (WO.nil (thenL_n (WC.seq (WC.seq ?_)))))))
  refine WC.drawN rfl rfl ?_
  have hot0z := hot0.oz
  have hot3z := hot3.lt
  refine WO.mv rfl (WO.mv rfl (WO.mv rfl ?_))
  obtain ⟨x1, e2, h⟩ := bindS h
  refine WO.ixS rfl rfl hot0.slv (at?_lt e2) rfl ?_
  refine WO.ldF rfl hot0z (fun _ hi => hi.1) (at?_get e2) rfl rfl (limLe_self _) ?_
  refine WO.mv rfl (WO.mv rfl ?_)
  obtain ⟨x3, e4, h⟩ := bindS h
  refine WO.ixS rfl rfl hot0.slv (at?_lt e4) rfl ?_
  refine WO.ldF rfl hot0z (fun _ hi => hi.1) (at?_get e4) rfl rfl (limLe_self _) ?_
  obtain ⟨r5, e6, h⟩ := bindS h
  refine WO.callE (S := S0) rfl rfl (F159_ok e6) (fun S7 c8 => ?_)
  have hot0z := hot0z.toz c8
  have hot0 := hot0.to c8
  have hot3 := hot3.to c8
  have hM := hM.to c8
  refine WO.bin rfl rfl (by decide) (by decide) rfl ?_
  refine WO.nil (thenL_n ?_)
  refine WC.cond rfl (fun q9 => ?_) (fun q9 => ?_)
  · have h := iteT q9 h
    refine WC.seq (WC.region (WO.mv rfl ?_))
    refine WO.nck rfl hot3.isp ?_
    refine WO.ldB (j := 0) (q := 0) rfl hot3.at0 hot3 rfl rfl rfl ?_
    refine WO.bin rfl rfl (by decide) (by decide) rfl ?_
    refine WO.nck rfl hot3.isp ?_
    refine WO.stB (j := 0) (q := 0) (u' := (wrapA .i64 (t3 + 1))) rfl hot3.at0 rfl hot3 rfl (by decide) rfl rfl (fun S10 c11 hot3 => ?_)
    have hot0 := hot0.to c11
    have hM := hM.to c11
    refine WO.nil (thenL_n (WC.seq (WC.region (WO.mv rfl (WO.mv rfl (WO.asg rfl (WO.asg rfl (WO.nil (thenL_n ?_)))))))))
    refine WC.ret (thenL_r ?_)
    obtain rfl := someI h
    exact ⟨.inr rfl, _, _, rfl, rfl, ⟨S10, rfl, rfl, hM, rfl, hot3⟩⟩
  · have h := iteF q9 h
    refine WC.skip (thenL_n (WC.seq (WC.region (WO.mv rfl (WO.mv rfl (WO.asg rfl (WO.asg rfl (WO.nil (thenL_n ?_)))))))))
    refine WC.ret ?_
    obtain rfl := someI h
    exact ⟨.inr rfl, _, _, rfl, rfl, ⟨S7, rfl, rfl, hM, rfl, hot3⟩⟩
end Go.Proofs.Ytihmliblbhjlaaa

namespace Go.Proofs.Ytihmliblbhjlaaa
open Go.Am
theorem F201_159.fn : E.fn 201 = some ⟨41, (Try.f201.body.getD .skip), Try.f201.results.toList, []⟩ := rfl
theorem F201_159_ok {F : Nat} {fl : Nat} {S0 : Cx fl} {r : Int × Int} {t0 : List Int} {t1 : Int} {t2 : Int} {t3 : Int} {t4 : Int} {vt0 : SV} {bt4 : Nat} (h : F201_159 F t0 t1 t2 t3 t4 = some r) (hot0 : Rd Y3 S0 vt0 t0) (hot4 : Bk Y3 S0 2 (.ptr bt4 0) t4) : Ret E fl 201 [.sc vt0, .sc (.int .i64 t1), .sc (.int .i64 t2), .sc (.int .i64 t3), .sc (.ptr bt4 0), .sc (.fn 159 [])] S0.m S0.n (fun v m' n' => ∃ S' : Cx fl, S'.m = m' ∧ S'.n = n' ∧ ChM S0 S' ∧ (v = .sc (.int .i64 r.1) ∧ Bk Y3 S' 2 (.ptr bt4 0) r.2)) := by
  unfold F201_159 at h
  refine Ret.walk F201_159.fn ?_
  have hM := ChM.refl S0
  refine WC.seq (WC.region (WO.asg rfl (WO.nil (thenL_n (WC.seq (WC.region (WO.mv rfl (WO.mv rfl (WO.mv rfl ?_)))))))))
  refine WO.mv rfl (WO.mv rfl ?_)
  obtain ⟨r1, e2, h⟩ := bindS h
  refine WO.callG (S := S0) [(2, 2)] [(2, 2)] rfl rfl (F216_159_ok (S0 := S0.mp [(2, 2)]) e2 hot0.mp (hot4.mp rfl)) (fun _ S3 S4 hb hR => ?_)
  obtain ⟨rfl, hR0⟩ := hR
  have c5 : Ch 2 S0 S4 := hb.ch [] 2
  have hot0 := hot0.to c5
  have hM := hM.to c5
  have hot4 := hR0.bkF hb rfl Lay.flat_fl
  refine WO.mv rfl ?_
  refine WO.do rfl rfl ?_
  refine WO.do rfl rfl ?_
  refine WO.asg rfl (WO.asg rfl (WO.nil (thenL_n (WC.seq (WC.region (WO.mv rfl (WO.mv rfl (WO.mv rfl (WO.mv rfl ?_)))))))))
  refine WO.mv rfl ?_
  obtain ⟨r6, e7, h⟩ := bindS h
  refine WO.callG (S := S4) [(2, 2)] [(2, 2)] rfl rfl (F216_159_ok (S0 := S4.mp [(2, 2)]) e7 hot0.mp (hot4.mp rfl)) (fun _ S8 S9 hb hR => ?_)
  obtain ⟨rfl, hR0⟩ := hR
  have c10 : Ch 2 S4 S9 := hb.ch [] 2
  have hot0 := hot0.to c10
  have hM := hM.to c10
  have hot4 := hR0.bkF hb rfl Lay.flat_fl
  refine WO.mv rfl ?_
  refine WO.do rfl rfl ?_
  refine WO.do rfl rfl ?_
  refine WO.asg rfl (WO.asg rfl (WO.nil (thenL_n (WC.seq (WC.region (WO.mv rfl (WO.mv rfl (WO.mv rfl (WO.mv rfl ?_)))))))))
  refine WO.mv rfl ?_
  obtain ⟨r11, e12, h⟩ := bindS h
  refine WO.callG (S := S9) [(2, 2)] [(2, 2)] rfl rfl (F216_159_ok (S0 := S9.mp [(2, 2)]) e12 hot0.mp (hot4.mp rfl)) (fun _ S13 S14 hb hR => ?_)
  obtain ⟨rfl, hR0⟩ := hR
  have c15 : Ch 2 S9 S14 := hb.ch [] 2
  have hot0 := hot0.to c15
  have hM := hM.to c15
  have hot4 := hR0.bkF hb rfl Lay.flat_fl
  refine WO.mv rfl ?_
  refine WO.do rfl rfl ?_
  refine WO.do rfl rfl ?_
  refine WO.asg rfl (WO.asg rfl (WO.nil (thenL_n (WC.seq (WC.region (WO.mv rfl (WO.asg rfl (WO.nil (thenL_n ?_)))))))))
  refine WC.ret ?_
  obtain rfl := someI h
  exact ⟨.inr rfl, _, _, rfl, rfl, ⟨S14, rfl, rfl, hM, rfl, hot4⟩⟩
end Go.Proofs.Ytihmliblbhjlaaa

namespace Go.Proofs.Ytihmliblbhjlaaa
open Go.Am
theorem F200_159.fn : E.fn 200 = some ⟨18, (Try.f200.body.getD .skip), Try.f200.results.toList, []⟩ := rfl
theorem F200_159_ok {F : Nat} {fl : Nat} {S0 : Cx fl} {r : Int × Int} {t0 : List Int} {t1 : Int} {t2 : Int} {vt0 : SV} {bt2 : Nat} (h : F200_159 F t0 t1 t2 = some r) (hot0 : Rd Y3 S0 vt0 t0) (hot2 : Bk Y3 S0 2 (.ptr bt2 0) t2) : Ret E fl 200 [.sc vt0, .sc (.int .i64 t1), .sc (.ptr bt2 0), .sc (.fn 159 [])] S0.m S0.n (fun v m' n' => ∃ S' : Cx fl, S'.m = m' ∧ S'.n = n' ∧ ChM S0 S' ∧ (v = .sc (.int .i64 r.1) ∧ Bk Y3 S' 2 (.ptr bt2 0) r.2)) := by
  unfold F200_159 at h
  refine Ret.walk F200_159.fn ?_
  have hM := ChM.refl S0
  refine WC.seq (WC.region (WO.asg rfl (WO.nil (thenL_n (WC.seq (WC.region (WO.mv rfl (WO.mv rfl ?_))))))))
  refine WO.bin rfl rfl (by decide) (by decide) rfl ?_
  refine WO.mv rfl (WO.mv rfl ?_)
  refine WO.bin rfl rfl (by decide) (by decide) rfl ?_
  refine WO.mv rfl (WO.mv rfl ?_)
  obtain ⟨r1, e2, h⟩ := bindS h
  refine WO.callG (S := S0) [(2, 2)] [(2, 2)] rfl rfl (F201_159_ok (S0 := S0.mp [(2, 2)]) e2 hot0.mp (hot2.mp rfl)) (fun _ S3 S4 hb hR => ?_)
  obtain ⟨rfl, hR0⟩ := hR
  have c5 : Ch 2 S0 S4 := hb.ch [] 2
  have hot0 := hot0.to c5
  have hM := hM.to c5
  have hot2 := hR0.bkF hb rfl Lay.flat_fl
  refine WO.asg rfl (WO.nil (thenL_n (WC.ret ?_)))
  obtain rfl := someI h
  exact ⟨.inr rfl, _, _, rfl, rfl, ⟨S4, rfl, rfl, hM, rfl, hot2⟩⟩
end Go.Proofs.Ytihmliblbhjlaaa

namespace Go.Proofs.Ytihmliblbhjlaaa
open Go.Am
theorem F172_159.fn : E.fn 172 = some ⟨63, (Try.f172.body.getD .skip), Try.f172.results.toList, []⟩ := rfl
theorem F172_159_ok {F : Nat} {m : Mem} {n : Nat} {r : Int × Int} {t0 : List Int} {t1 : Int} {t2 : Int} {vt0 : SV} (h : F172_159 F t0 t1 t2 = some r) (kt0 : Vw Y3 n m vt0 t0) : Ret E n 172 [.sc vt0, .sc (.int .i64 t1), .sc (.int .i64 t2), .sc (.fn 159 [])] m n (fun v m' n' => v = .tup [.sc (.int .i64 r.1), .sc (.int .i64 r.2)]) := by
  unfold F172_159 at h
  refine Ret.walk F172_159.fn ?_
  refine WC.start fun S0 em en hz => ?_
  have hot0 := kt0.rdS em hz
  refine WC.seq (WC.region (WO.asg rfl (WO.asg rfl (WO.nil (thenL_n (WC.seq (WC.region (WO.mv rfl (WO.mv rfl ?_)))))))))
  refine WO.bin rfl rfl (by decide) (by decide) rfl ?_
  refine WO.asg rfl (WO.nil (thenL_n (WC.seq (WC.region ?_))))
  refine WO.alS (A := Y3) (S := S0) (z0 := 0) 2 rfl rfl rfl (fun v1 S2 c3 ho4 => ?_)
  have hot0 := hot0.to c3
  refine WO.nil (thenL_n (WC.seq (WC.region (WO.mv rfl (WO.mv rfl ?_)))))
  refine WO.bin rfl rfl (by decide) (by decide) rfl ?_
  refine WO.bin rfl rfl (by decide) (by decide) rfl ?_
  refine WO.bin rfl rfl (by decide) (by decide) rfl ?_
  refine WO.asg rfl (WO.nil (thenL_n (WC.seq (WC.region (WO.mv rfl (WO.mv rfl ?_))))))
  refine WO.bin rfl rfl (by decide) (by decide) rfl ?_
  refine WO.bin rfl rfl (by decide) (by decide) rfl ?_
  refine WO.bin rfl rfl (by decide) (by decide) rfl ?_
  refine WO.asg rfl (WO.nil (thenL_n (WC.seq (WC.region (WO.mv rfl (WO.mv rfl ?_))))))
  refine WO.bin rfl rfl (by decide) (by decide) rfl ?_
  refine WO.bin rfl rfl (by decide) (by decide) rfl ?_
  refine WO.bin rfl rfl (by decide) (by decide) rfl ?_
  refine WO.asg rfl (WO.nil (thenL_n (WC.seq (WC.seq (WC.region (WO.mv rfl ?_))))))
  refine WO.bin rfl rfl (by decide) (by decide) rfl ?_
  refine WO.nil (thenL_n ?_)
  obtain ⟨b34, e35, h⟩ := bindS h
  refine WC.mono (Q' := (fun b e l' m' n' => e = .normal ∧ ∃ S36 : Cx n, S36.m = m' ∧ S36.n = n' ∧ Cov l' [(11, .sc v1), (13, .sc (.int .i64 b.1))] ∧ Bk Y3 S36 2 v1 b.2) b34) ?_ ?_
  · have h := e35
    dsimp only at h ⊢
    refine WC.cond rfl (fun q5 => ?_) (fun q5 => ?_)
    · have h := iteT q5 h
      refine WC.seq (WC.seq (WC.region (WO.mv rfl ?_)))
      refine WO.bin rfl rfl (by decide) (by decide) rfl ?_
      refine WO.nil (thenL_n ?_)
      refine WC.cond rfl (fun q6 => ?_) (fun q6 => ?_)
      · have h := iteT q6 h
        refine WC.seq (WC.region (WO.mv rfl (WO.mv rfl (WO.mv rfl ?_))))
        obtain ⟨b7, rfl⟩ := ho4.isp
        obtain ⟨r8, e9, h⟩ := bindS h
        refine WO.callG (S := S2) [(2, 2)] [(2, 2)] rfl rfl (F200_159_ok (S0 := S2.mp [(2, 2)]) e9 hot0.mp (ho4.mp rfl)) (fun _ S10 S11 hb hR => ?_)
        obtain ⟨rfl, hR0⟩ := hR
        have c12 : Ch 2 S2 S11 := hb.ch [] 2
        have hot0 := hot0.to c12
        have ho4 := hR0.bkF hb rfl Lay.flat_fl
        refine WO.asg rfl (WO.nil (thenL_n (WC.seq (WC.region (WO.mv rfl (WO.mv rfl (WO.mv rfl ?_)))))))
        obtain ⟨r13, e14, h⟩ := bindS h
        refine WO.callG (S := S11) [(2, 2)] [(2, 2)] rfl rfl (F200_159_ok (S0 := S11.mp [(2, 2)]) e14 hot0.mp (ho4.mp rfl)) (fun _ S15 S16 hb hR => ?_)
        obtain ⟨rfl, hR0⟩ := hR
        have c17 : Ch 2 S11 S16 := hb.ch [] 2
        have hot0 := hot0.to c17
        have ho4 := hR0.bkF hb rfl Lay.flat_fl
        refine WO.asg rfl (WO.nil (thenL_n (WC.region (WO.mv rfl (WO.mv rfl (WO.mv rfl ?_))))))
        obtain ⟨r18, e19, h⟩ := bindS h
        refine WO.callG (S := S16) [(2, 2)] [(2, 2)] rfl rfl (F200_159_ok (S0 := S16.mp [(2, 2)]) e19 hot0.mp (ho4.mp rfl)) (fun _ S20 S21 hb hR => ?_)
        obtain ⟨rfl, hR0⟩ := hR
        have c22 : Ch 2 S16 S21 := hb.ch [] 2
        have hot0 := hot0.to c22
        have ho4 := hR0.bkF hb rfl Lay.flat_fl
        refine WO.asg rfl (WO.nil (thenL_n (WC.region (WO.mv rfl (WO.mv rfl (WO.mv rfl (WO.mv rfl (WO.mv rfl ?_))))))))
        obtain ⟨r23, e24, h⟩ := bindS h
        refine WO.callG (S := S21) [(2, 2)] [(2, 2)] rfl rfl (F201_159_ok (S0 := S21.mp [(2, 2)]) e24 hot0.mp (ho4.mp rfl)) (fun _ S25 S26 hb hR => ?_)
        obtain ⟨rfl, hR0⟩ := hR
        have c27 : Ch 2 S21 S26 := hb.ch [] 2
        have hot0 := hot0.to c27
        have ho4 := hR0.bkF hb rfl Lay.flat_fl
        refine WO.asg rfl (WO.nil ?_)
        obtain rfl := someI h
        exact ⟨rfl, ⟨S26, rfl, rfl, (Cov.cons rfl (Cov.cons rfl (Cov.nil _))), ho4⟩⟩
      · have h := iteF q6 h
        refine WC.skip (thenL_n (WC.region (WO.mv rfl (WO.mv rfl (WO.mv rfl (WO.mv rfl (WO.mv rfl ?_)))))))
        obtain ⟨b28, rfl⟩ := ho4.isp
        obtain ⟨r29, e30, h⟩ := bindS h
        refine WO.callG (S := S2) [(2, 2)] [(2, 2)] rfl rfl (F201_159_ok (S0 := S2.mp [(2, 2)]) e30 hot0.mp (ho4.mp rfl)) (fun _ S31 S32 hb hR => ?_)
        obtain ⟨rfl, hR0⟩ := hR
        have c33 : Ch 2 S2 S32 := hb.ch [] 2
        have hot0 := hot0.to c33
        have ho4 := hR0.bkF hb rfl Lay.flat_fl
        refine WO.asg rfl (WO.nil ?_)
        obtain rfl := someI h
        exact ⟨rfl, ⟨S32, rfl, rfl, (Cov.cons rfl (Cov.cons rfl (Cov.nil _))), ho4⟩⟩
    · have h := iteF q5 h
      refine WC.skip ?_
      obtain rfl := someI h
      exact ⟨rfl, ⟨S2, rfl, rfl, (Cov.cons rfl (Cov.cons rfl (Cov.nil _))), ho4⟩⟩
  dsimp only
  rintro _ _ _ _ ⟨rfl, ⟨S37, rfl, rfl, hc38, ho4⟩⟩
  refine thenL_n (WC.cov hc38 (WC.seq (WC.region ?_)))
  refine WO.ldB (j := 0) (q := 0) rfl ho4.at0 ho4 rfl rfl rfl ?_
  refine WO.nil (thenL_n (WC.block (WC.seq (WC.region ?_))))
  refine WO.bin rfl rfl (by decide) (by decide) rfl ?_
  refine WO.asg rfl (WO.nil (thenL_n ?_))
  refine WC.cond rfl (fun q39 => ?_) (fun q39 => ?_)
  · have h := iteT q39 h
    refine WC.seq (WC.region (WO.mv rfl (WO.asg rfl (WO.asg rfl (WO.nil (thenL_n (WC.ret (blockL_r ?_))))))))
    obtain rfl := someI h
    exact ⟨.inr rfl, _, _, rfl, rfl, rfl⟩
  · have h := iteF q39 h
    refine WC.seq (WC.region ?_)
    refine WO.bin rfl rfl (by decide) (by decide) rfl ?_
    refine WO.asg rfl (WO.nil (thenL_n ?_))
    refine WC.cond rfl (fun q40 => ?_) (fun q40 => ?_)
    · have h := iteT q40 h
      refine WC.seq (WC.region (WO.mv rfl (WO.asg rfl (WO.asg rfl (WO.nil (thenL_n (WC.ret (blockL_r ?_))))))))
      obtain rfl := someI h
      exact ⟨.inr rfl, _, _, rfl, rfl, rfl⟩
    · have h := iteF q40 h
      refine WC.seq (WC.region (WO.mv rfl (WO.asg rfl (WO.asg rfl (WO.nil (thenL_n (WC.ret (blockL_r ?_))))))))
      obtain rfl := someI h
      exact ⟨.inr rfl, _, _, rfl, rfl, rfl⟩
end Go.Proofs.Ytihmliblbhjlaaa

namespace Go.Proofs.Ytihmliblbhjlaaa
open Go.Am
theorem F173_159.fn : E.fn 173 = some ⟨34, (Try.f173.body.getD .skip), Try.f173.results.toList, []⟩ := rfl
theorem F173_159_ok {F : Nat} {m : Mem} {n : Nat} {r : (List Int)} {t0 : List Int} {t1 : Int} {t2 : Int} {vt0 : SV} {fl : Nat} {bw : Nat} (h : F173_159 F t0 t1 t2 = some r) (hfl : fl ≤ n) (kt0 : Iv Y3 fl n bw m vt0 t0) : Ret E fl 173 [.sc vt0, .sc (.int .i64 t1), .sc (.int .i64 t2), .sc (.fn 159 [])] m n (fun v m' n' => v = .tup [] ∧ Ip Y3 n bw m m' vt0 r) := by
  unfold F173_159 at h
  refine Ret.walk F173_159.fn ?_
  refine WC.startI (b := bw) hfl fun S0 em en hz hbw => ?_
  have hot0 := kt0.iw em en hz hbw
  refine WC.seq (WC.region (WO.mv rfl (WO.asg rfl (WO.nil (thenL_n (WC.seq (WC.region (WO.mv rfl ?_))))))))
  refine WO.bin rfl rfl (by decide) (by decide) rfl ?_
  refine WO.asg rfl (WO.nil (thenL_n (WC.block ?_)))
  obtain ⟨b19, e20, h⟩ := bindS h
  refine WC.loopD e20 (fun s1 l' m' n' => ∃ S2 : Cx fl, S2.m = m' ∧ S2.n = n' ∧ Cov l' [(0, .sc vt0), (8, .sc (.int .i64 s1.1)), (9, .sc (.int .i64 s1.2.1))] ∧ Iw Y3 S2 2 n bw m vt0 s1.2.2) (fun b e l' m' n' => e = .exit 0 ∧ ∃ S3 : Cx fl, S3.m = m' ∧ S3.n = n' ∧ Cov l' [(0, .sc vt0)] ∧ Iw Y3 S3 2 n bw m vt0 b) (by exact ⟨S0, rfl, rfl, (Cov.cons rfl (Cov.cons rfl (Cov.cons rfl (Cov.nil _)))), hot0⟩) ?_ ?_
  · clear h
    rintro s1 q _ _ _ ⟨S4, rfl, rfl, hc5, hot0⟩ h
    unfold F173_159_l0 at h
    refine WC.cov hc5 (WC.seq (WC.seq (WC.region (WO.mv rfl (WO.mv rfl ?_)))))
    refine WO.bin rfl rfl (by decide) (by decide) rfl ?_
    refine WO.nil (thenL_n ?_)
    refine WC.cond rfl (fun q6 => ?_) (fun q6 => ?_)
    · have h := iteT q6 h
      refine WC.skip (thenL_n (WC.block (WC.seq ?_)))
      refine WC.drawN rfl rfl ?_
      have hot0z := hot0.oz
      refine WO.mv rfl (WO.mv rfl (WO.mv rfl (WO.mv rfl (WO.mv rfl (WO.mv rfl ?_)))))
      obtain ⟨x7, e8, h⟩ := bindS h
      refine WO.ixS rfl rfl hot0.slv (at?_lt e8) rfl ?_
      refine WO.ldF rfl hot0z (fun _ hi => hi.1) (at?_get e8) rfl rfl (limLe_self _) ?_
      refine WO.mv rfl (WO.mv rfl ?_)
      obtain ⟨x9, e10, h⟩ := bindS h
      refine WO.ixS rfl rfl hot0.slv (at?_lt e10) rfl ?_
      refine WO.ldF rfl hot0z (fun _ hi => hi.1) (at?_get e10) rfl rfl (limLe_self _) ?_
      obtain ⟨u11, e12, h⟩ := bindS h
      refine WO.ixS rfl rfl hot0.slv (ck_some e12) rfl ?_
      refine WO.stI (u' := x7) rfl rfl hot0 (ck_nat e12) rfl rfl (fun S13 c14 hot0 => ?_)
      obtain ⟨u15, e16, h⟩ := bindS h
      refine WO.ixS rfl rfl hot0.slv (ck_some e16) rfl ?_
      refine WO.stI (u' := x9) rfl rfl hot0 (ck_nat e16) rfl rfl (fun S17 c18 hot0 => ?_)
      refine WO.nil (thenL_n (WC.seq (WC.region (WO.mv rfl ?_))))
      refine WO.bin rfl rfl (by decide) (by decide) rfl ?_
      refine WO.asg rfl (WO.nil (thenL_n (WC.region (WO.mv rfl ?_))))
      refine WO.bin rfl rfl (by decide) (by decide) rfl ?_
      refine WO.asg rfl (WO.nil (blockL_n (thenL_n ?_)))
      obtain rfl := someI h
      exact ⟨_, rfl, ⟨S17, rfl, rfl, (Cov.cons rfl (Cov.cons rfl (Cov.cons rfl (Cov.nil _)))), hot0⟩⟩
    · have h := iteF q6 h
      refine WC.exit (thenL_e (thenL_e ?_))
      obtain rfl := someI h
      exact ⟨_, rfl, rfl, ⟨S4, rfl, rfl, (Cov.cons rfl (Cov.nil _)), hot0⟩⟩
  rintro _ _ _ _ ⟨rfl, ⟨S21, rfl, rfl, hc22, hot0⟩⟩
  refine blockL_s ?_
  obtain rfl := someI h
  exact ⟨.inl rfl, _, _, (resK_cov hc22 rfl), rfl, ⟨rfl, hot0.ip Lay.flat_fl⟩⟩
end Go.Proofs.Ytihmliblbhjlaaa

namespace Go.Proofs.Ytihmliblbhjlaaa
open Go.Am
theorem F174_159.fn : E.fn 174 = some ⟨141, (Try.f174.body.getD .skip), Try.f174.results.toList, []⟩ := rfl
theorem F174_159_ok {F : Nat} {m : Mem} {n : Nat} {r : Bool × (List Int)} {t0 : List Int} {t1 : Int} {t2 : Int} {vt0 : SV} {fl : Nat} {bw : Nat} (h : F174_159 F t0 t1 t2 = some r) (hfl : fl ≤ n) (kt0 : Iv Y3 fl n bw m vt0 t0) : Ret E fl 174 [.sc vt0, .sc (.int .i64 t1), .sc (.int .i64 t2), .sc (.fn 159 [])] m n (fun v m' n' => v = .sc (.bool r.1) ∧ Ip Y3 n bw m m' vt0 r.2) := by
  unfold F174_159 at h
  refine Ret.walk F174_159.fn ?_
  refine WC.startI (b := bw) hfl fun S0 em en hz hbw => ?_
  have hot0 := kt0.iw em en hz hbw
  refine WC.seq (WC.region (WO.asg rfl (WO.nil (thenL_n (WC.seq (WC.region (WO.mv rfl ?_)))))))
  refine WO.bin rfl rfl (by decide) (by decide) rfl ?_
  refine WO.asg rfl (WO.nil (thenL_n (WC.seq (WC.seq (WC.region (WO.asg rfl (WO.nil (thenL_n (WC.block ?_)))))))))
  obtain ⟨b115, e116, h⟩ := bindS h
  refine WC.loopD e116 (fun s1 l' m' n' => ∃ S2 : Cx fl, S2.m = m' ∧ S2.n = n' ∧ Cov l' [(0, .sc vt0), (1, .sc (.int .i64 t1)), (2, .sc (.int .i64 t2)), (3, .sc (.fn 159 [])), (9, .sc (.int .i64 s1.1)), (10, .sc (.int .i64 s1.2.1))] ∧ Iw Y3 S2 2 n bw m vt0 s1.2.2) (fun b e l' m' n' => (match b with | .inl b3 => e = .exit 0 ∧ ∃ S4 : Cx fl, S4.m = m' ∧ S4.n = n' ∧ Cov l' [(0, .sc vt0)] ∧ Iw Y3 S4 2 n bw m vt0 b3 | .inr b3 => e = .ret ∧ ∃ S5 : Cx fl, S5.m = m' ∧ S5.n = n' ∧ Cov l' [(0, .sc vt0), (8, .sc (.bool b3.1))] ∧ Iw Y3 S5 2 n bw m vt0 b3.2)) (by exact ⟨S0, rfl, rfl, (Cov.cons rfl (Cov.cons rfl (Cov.cons rfl (Cov.cons rfl (Cov.cons rfl (Cov.cons rfl (Cov.nil _))))))), hot0⟩) ?_ ?_
  · clear h
    rintro s1 q _ _ _ ⟨S6, rfl, rfl, hc7, hot0⟩ h
    unfold F174_159_l3 at h
    refine WC.cov hc7 (WC.seq (WC.seq (WC.region (WO.mv rfl ?_))))
    refine WO.bin rfl rfl (by decide) (by decide) rfl ?_
    refine WO.nil (thenL_n ?_)
    refine WC.cond rfl (fun q8 => ?_) (fun q8 => ?_)
    · have h := iteT q8 h
      refine WC.skip (thenL_n (WC.seq (WC.block (WC.seq (WC.block ?_)))))
      obtain ⟨b28, e29, h⟩ := bindS h
      refine WC.loopD e29 (fun s9 l' m' n' => ∃ S10 : Cx fl, S10.m = m' ∧ S10.n = n' ∧ Cov l' [(0, .sc vt0), (1, .sc (.int .i64 t1)), (2, .sc (.int .i64 t2)), (3, .sc (.fn 159 [])), (9, .sc (.int .i64 s9)), (10, .sc (.int .i64 s1.2.1))] ∧ Iw Y3 S10 2 n bw m vt0 s1.2.2) (fun b e l' m' n' => e = .exit 2 ∧ ∃ S11 : Cx fl, S11.m = m' ∧ S11.n = n' ∧ Cov l' [(0, .sc vt0), (1, .sc (.int .i64 t1)), (2, .sc (.int .i64 t2)), (3, .sc (.fn 159 [])), (9, .sc (.int .i64 b)), (10, .sc (.int .i64 s1.2.1))] ∧ Iw Y3 S11 2 n bw m vt0 s1.2.2) (by exact ⟨S6, rfl, rfl, (Cov.cons rfl (Cov.cons rfl (Cov.cons rfl (Cov.cons rfl (Cov.cons rfl (Cov.cons rfl (Cov.nil _))))))), hot0⟩) ?_ ?_
      · clear h
        rintro s9 q _ _ _ ⟨S12, rfl, rfl, hc13, hot0⟩ h
        unfold F174_159_l0 at h
        refine WC.cov hc13 (WC.seq (WC.seq ?_))
        refine WC.drawN rfl rfl ?_
        have hot0z := hot0.oz
        refine WO.mv rfl (WO.mv rfl ?_)
        refine WO.bin rfl rfl (by decide) (by decide) rfl ?_
        refine WO.mv rfl ?_
        obtain ⟨y23, e24, h⟩ := bindS h
        refine WO.cutS (d := 36) (S := S12) 14 y23 (fun q22 => ?_) (fun q22 => ?_) (fun S25 c26 => ?_)
        · have h := e24
          have h := iteT q22 h
          refine WO.gyes rfl rfl (WO.mv rfl (WO.gyes rfl rfl (WO.mv rfl (WO.gyes rfl rfl (WO.mv rfl (WO.gyes rfl rfl ?_))))))
          obtain ⟨x14, e15, h⟩ := bindS h
          refine WO.ixS rfl rfl hot0.slv (at?_lt e15) rfl ?_
          refine WO.gyes rfl rfl ?_
          refine WO.ldF rfl hot0z (fun _ hi => hi.1) (at?_get e15) rfl rfl (limLe_self _) ?_
          refine WO.gyes rfl rfl (WO.mv rfl (WO.gyes rfl rfl (WO.mv rfl (WO.gyes rfl rfl ?_))))
          refine WO.bin rfl rfl (by decide) (by decide) rfl ?_
          refine WO.gyes rfl rfl ?_
          obtain ⟨x16, e17, h⟩ := bindS h
          refine WO.ixS rfl rfl hot0.slv (at?_lt e17) rfl ?_
          refine WO.gyes rfl rfl ?_
          refine WO.ldF rfl hot0z (fun _ hi => hi.1) (at?_get e17) rfl rfl (limLe_self _) ?_
          refine WO.gyes rfl rfl ?_
          obtain ⟨r18, e19, h⟩ := bindS h
          refine WO.callE (S := S12) rfl rfl (F159_ok e19) (fun S20 c21 => ?_)
          have hot0z := hot0z.tow c21
          have hot0 := hot0.to c21
          refine WO.gyes rfl rfl ?_
          refine WO.bin rfl rfl (by decide) (by decide) rfl ?_
          refine WO.gyes rfl rfl ?_
          refine WO.do rfl rfl ?_
          obtain rfl := someI h
          refine WO.pickT rfl rfl ?_
          refine WO.nil ?_
          exact ⟨S20, rfl, rfl, c21, (Cov.cons rfl (Cov.skip rfl (Cov.skip rfl (Cov.skip rfl (Cov.skip rfl (Cov.skip rfl (Cov.skip rfl (Cov.skip rfl (Cov.skip rfl (Cov.skip rfl (Cov.skip rfl (Cov.skip rfl (Cov.skip rfl (Cov.skip rfl (Cov.skip rfl (Cov.skip rfl (Cov.refl _)))))))))))))))))⟩
        · have h := e24
          have h := iteF q22 h
          obtain rfl := someI h
          refine WO.gno rfl rfl (WO.gno rfl rfl (WO.gno rfl rfl (WO.gno rfl rfl (WO.gno rfl rfl (WO.gno rfl rfl (WO.gno rfl rfl (WO.gno rfl rfl (WO.gno rfl rfl (WO.gno rfl rfl ?_)))))))))
          refine WO.gno rfl rfl (WO.gno rfl rfl (WO.gno rfl rfl ?_))
          refine WO.pickF rfl rfl ?_
          refine WO.nil ?_
          exact ⟨S12, rfl, rfl, Ch.refl _ _, (Cov.cons rfl (Cov.skip rfl (Cov.skip rfl (Cov.skip rfl (Cov.skip rfl (Cov.skip rfl (Cov.skip rfl (Cov.skip rfl (Cov.skip rfl (Cov.skip rfl (Cov.skip rfl (Cov.skip rfl (Cov.skip rfl (Cov.skip rfl (Cov.skip rfl (Cov.skip rfl (Cov.refl _)))))))))))))))))⟩
        have hot0z := hot0z.tow c26
        have hot0 := hot0.to c26
        refine WO.nil (thenL_n ?_)
        refine WC.cond rfl (fun q27 => ?_) (fun q27 => ?_)
        · have h := iteT q27 h
          refine WC.skip (thenL_n (WC.block (WC.region (WO.mv rfl ?_))))
          refine WO.bin rfl rfl (by decide) (by decide) rfl ?_
          refine WO.asg rfl (WO.nil (blockL_n (thenL_n ?_)))
          obtain rfl := someI h
          exact ⟨_, rfl, ⟨S25, rfl, rfl, (Cov.cons rfl (Cov.cons rfl (Cov.cons rfl (Cov.cons rfl (Cov.cons rfl (Cov.cons rfl (Cov.nil _))))))), hot0⟩⟩
        · have h := iteF q27 h
          refine WC.exit (thenL_e (thenL_e ?_))
          obtain rfl := someI h
          exact ⟨_, rfl, rfl, ⟨S25, rfl, rfl, (Cov.cons rfl (Cov.cons rfl (Cov.cons rfl (Cov.cons rfl (Cov.cons rfl (Cov.cons rfl (Cov.nil _))))))), hot0⟩⟩
      rintro _ _ _ _ ⟨rfl, ⟨S30, rfl, rfl, hc31, hot0⟩⟩
      refine blockL_s (thenL_n (WC.cov hc31 (WC.seq (WC.seq (WC.region (WO.mv rfl (WO.mv rfl ?_)))))))
      refine WO.bin rfl rfl (by decide) (by decide) rfl ?_
      refine WO.nil (thenL_n ?_)
      refine WC.cond rfl (fun q32 => ?_) (fun q32 => ?_)
      · have h := iteT q32 h
        refine WC.seq (WC.region (WO.asg rfl (WO.nil (thenL_n (WC.ret (thenL_r (blockL_r (thenL_r (thenL_r ?_)))))))))
        obtain rfl := someI h
        exact ⟨_, rfl, rfl, ⟨S30, rfl, rfl, (Cov.cons rfl (Cov.cons rfl (Cov.nil _))), hot0⟩⟩
      · have h := iteF q32 h
        refine WC.skip (thenL_n (WC.seq (WC.seq (WC.region (WO.mv rfl (WO.mv rfl ?_))))))
        refine WO.bin rfl rfl (by decide) (by decide) rfl ?_
        refine WO.bin rfl rfl (by decide) (by decide) rfl ?_
        refine WO.nil (thenL_n ?_)
        refine WC.cond rfl (fun q33 => ?_) (fun q33 => ?_)
        · have h := iteT q33 h
          refine WC.seq (WC.region (WO.asg rfl (WO.nil (thenL_n (WC.ret (thenL_r (blockL_r (thenL_r (thenL_r ?_)))))))))
          obtain rfl := someI h
          exact ⟨_, rfl, rfl, ⟨S30, rfl, rfl, (Cov.cons rfl (Cov.cons rfl (Cov.nil _))), hot0⟩⟩
        · have h := iteF q33 h
          refine WC.skip (thenL_n (WC.seq ?_))
          refine WC.drawN rfl rfl ?_
          have hot0z := hot0.oz
          refine WO.mv rfl (WO.mv rfl (WO.mv rfl (WO.mv rfl ?_)))
          refine WO.bin rfl rfl (by decide) (by decide) rfl ?_
          refine WO.mv rfl (WO.mv rfl ?_)
          refine WO.bin rfl rfl (by decide) (by decide) rfl ?_
          obtain ⟨x34, e35, h⟩ := bindS h
          refine WO.ixS rfl rfl hot0.slv (at?_lt e35) rfl ?_
          refine WO.ldF rfl hot0z (fun _ hi => hi.1) (at?_get e35) rfl rfl (limLe_self _) ?_
          refine WO.mv rfl (WO.mv rfl ?_)
          obtain ⟨x36, e37, h⟩ := bindS h
          refine WO.ixS rfl rfl hot0.slv (at?_lt e37) rfl ?_
          refine WO.ldF rfl hot0z (fun _ hi => hi.1) (at?_get e37) rfl rfl (limLe_self _) ?_
          obtain ⟨u38, e39, h⟩ := bindS h
          refine WO.ixS rfl rfl hot0.slv (ck_some e39) rfl ?_
          refine WO.stI (u' := x34) rfl rfl hot0 (ck_nat e39) rfl rfl (fun S40 c41 hot0 => ?_)
          obtain ⟨u42, e43, h⟩ := bindS h
          refine WO.ixS rfl rfl hot0.slv (ck_some e43) rfl ?_
          refine WO.stI (u' := x36) rfl rfl hot0 (ck_nat e43) rfl rfl (fun S44 c45 hot0 => ?_)
          refine WO.nil (thenL_n (WC.seq (WC.seq (WC.region (WO.mv rfl (WO.mv rfl ?_))))))
          refine WO.bin rfl rfl (by decide) (by decide) rfl ?_
          refine WO.bin rfl rfl (by decide) (by decide) rfl ?_
          refine WO.nil (thenL_n ?_)
          obtain ⟨b78, e79, h⟩ := bindS h
          refine WC.mono (Q' := (fun b e l' m' n' => e = .normal ∧ ∃ S80 : Cx fl, S80.m = m' ∧ S80.n = n' ∧ Cov l' [(0, .sc vt0), (1, .sc (.int .i64 t1)), (2, .sc (.int .i64 t2)), (3, .sc (.fn 159 [])), (9, .sc (.int .i64 b28)), (10, .sc (.int .i64 s1.2.1))] ∧ Iw Y3 S80 2 n bw m vt0 b) b78) ?_ ?_
          · have h := e79
            dsimp only at h ⊢
            refine WC.cond rfl (fun q46 => ?_) (fun q46 => ?_)
            · have h := iteT q46 h
              refine WC.seq (WC.region (WO.mv rfl ?_))
              refine WO.bin rfl rfl (by decide) (by decide) rfl ?_
              refine WO.asg rfl (WO.nil (thenL_n (WC.block ?_)))
              obtain ⟨b74, e75, h⟩ := bindS h
              refine WC.loopD e75 (fun s47 l' m' n' => ∃ S48 : Cx fl, S48.m = m' ∧ S48.n = n' ∧ Cov l' [(0, .sc vt0), (1, .sc (.int .i64 t1)), (2, .sc (.int .i64 t2)), (3, .sc (.fn 159 [])), (9, .sc (.int .i64 b28)), (10, .sc (.int .i64 s1.2.1)), (11, .sc (.int .i64 s47.1))] ∧ Iw Y3 S48 2 n bw m vt0 s47.2) (fun b e l' m' n' => e = .exit 4 ∧ ∃ S49 : Cx fl, S49.m = m' ∧ S49.n = n' ∧ Cov l' [(0, .sc vt0), (1, .sc (.int .i64 t1)), (2, .sc (.int .i64 t2)), (3, .sc (.fn 159 [])), (9, .sc (.int .i64 b28)), (10, .sc (.int .i64 s1.2.1))] ∧ Iw Y3 S49 2 n bw m vt0 b) (by exact ⟨S44, rfl, rfl, (Cov.cons rfl (Cov.cons rfl (Cov.cons rfl (Cov.cons rfl (Cov.cons rfl (Cov.cons rfl (Cov.cons rfl (Cov.nil _)))))))), hot0⟩) ?_ ?_
              · clear h
                rintro s47 q _ _ _ ⟨S50, rfl, rfl, hc51, hot0⟩ h
                unfold F174_159_l1 at h
                refine WC.cov hc51 (WC.seq (WC.seq (WC.region (WO.mv rfl ?_))))
                refine WO.bin rfl rfl (by decide) (by decide) rfl ?_
                refine WO.nil (thenL_n ?_)
                refine WC.cond rfl (fun q52 => ?_) (fun q52 => ?_)
                · have h := iteT q52 h
                  refine WC.skip (thenL_n (WC.seq (WC.block (WC.seq (WC.seq ?_)))))
                  refine WC.drawN rfl rfl ?_
                  have hot0z := hot0.oz
                  refine WO.mv rfl (WO.mv rfl (WO.mv rfl ?_))
                  obtain ⟨x53, e54, h⟩ := bindS h
                  refine WO.ixS rfl rfl hot0.slv (at?_lt e54) rfl ?_
                  refine WO.ldF rfl hot0z (fun _ hi => hi.1) (at?_get e54) rfl rfl (limLe_self _) ?_
                  refine WO.mv rfl (WO.mv rfl ?_)
                  refine WO.bin rfl rfl (by decide) (by decide) rfl ?_
                  obtain ⟨x55, e56, h⟩ := bindS h
                  refine WO.ixS rfl rfl hot0.slv (at?_lt e56) rfl ?_
                  refine WO.ldF rfl hot0z (fun _ hi => hi.1) (at?_get e56) rfl rfl (limLe_self _) ?_
                  obtain ⟨r57, e58, h⟩ := bindS h
                  refine WO.callE (S := S50) rfl rfl (F159_ok e58) (fun S59 c60 => ?_)
                  have hot0z := hot0z.tow c60
                  have hot0 := hot0.to c60
                  refine WO.bin rfl rfl (by decide) (by decide) rfl ?_
                  refine WO.do rfl rfl ?_
                  refine WO.nil (thenL_n ?_)
                  refine WC.cond rfl (fun q61 => ?_) (fun q61 => ?_)
                  · have h := iteT q61 h
                    refine WC.exit (thenL_e (blockL_e rfl (thenL_e (thenL_e ?_))))
                    obtain rfl := someI h
                    exact ⟨_, rfl, rfl, ⟨S59, rfl, rfl, (Cov.cons rfl (Cov.cons rfl (Cov.cons rfl (Cov.cons rfl (Cov.cons rfl (Cov.cons rfl (Cov.nil _))))))), hot0⟩⟩
                  · have h := iteF q61 h
                    refine WC.skip (thenL_n ?_)
                    refine WC.drawN rfl rfl ?_
                    have hot0z := hot0.oz
                    refine WO.mv rfl (WO.mv rfl (WO.mv rfl (WO.mv rfl ?_)))
                    refine WO.bin rfl rfl (by decide) (by decide) rfl ?_
                    refine WO.mv rfl (WO.mv rfl ?_)
                    refine WO.bin rfl rfl (by decide) (by decide) rfl ?_
                    obtain ⟨x62, e63, h⟩ := bindS h
                    refine WO.ixS rfl rfl hot0.slv (at?_lt e63) rfl ?_
                    refine WO.ldF rfl hot0z (fun _ hi => hi.1) (at?_get e63) rfl rfl (limLe_self _) ?_
                    refine WO.mv rfl (WO.mv rfl ?_)
                    obtain ⟨x64, e65, h⟩ := bindS h
                    refine WO.ixS rfl rfl hot0.slv (at?_lt e65) rfl ?_
                    refine WO.ldF rfl hot0z (fun _ hi => hi.1) (at?_get e65) rfl rfl (limLe_self _) ?_
                    obtain ⟨u66, e67, h⟩ := bindS h
                    refine WO.ixS rfl rfl hot0.slv (ck_some e67) rfl ?_
                    refine WO.stI (u' := x62) rfl rfl hot0 (ck_nat e67) rfl rfl (fun S68 c69 hot0 => ?_)
                    obtain ⟨u70, e71, h⟩ := bindS h
                    refine WO.ixS rfl rfl hot0.slv (ck_some e71) rfl ?_
                    refine WO.stI (u' := x64) rfl rfl hot0 (ck_nat e71) rfl rfl (fun S72 c73 hot0 => ?_)
                    refine WO.nil (blockL_n (thenL_n (WC.region (WO.mv rfl ?_))))
                    refine WO.bin rfl rfl (by decide) (by decide) rfl ?_
                    refine WO.asg rfl (WO.nil (thenL_n ?_))
                    obtain rfl := someI h
                    exact ⟨_, rfl, ⟨S72, rfl, rfl, (Cov.cons rfl (Cov.cons rfl (Cov.cons rfl (Cov.cons rfl (Cov.cons rfl (Cov.cons rfl (Cov.cons rfl (Cov.nil _)))))))), hot0⟩⟩
                · have h := iteF q52 h
                  refine WC.exit (thenL_e (thenL_e ?_))
                  obtain rfl := someI h
                  exact ⟨_, rfl, rfl, ⟨S50, rfl, rfl, (Cov.cons rfl (Cov.cons rfl (Cov.cons rfl (Cov.cons rfl (Cov.cons rfl (Cov.cons rfl (Cov.nil _))))))), hot0⟩⟩
              rintro _ _ _ _ ⟨rfl, ⟨S76, rfl, rfl, hc77, hot0⟩⟩
              refine blockL_s ?_
              obtain rfl := someI h
              exact ⟨rfl, ⟨S76, rfl, rfl, (Cov.trans hc77 (Cov.cons rfl (Cov.cons rfl (Cov.cons rfl (Cov.cons rfl (Cov.cons rfl (Cov.cons rfl (Cov.nil _)))))))), hot0⟩⟩
            · have h := iteF q46 h
              refine WC.skip ?_
              obtain rfl := someI h
              exact ⟨rfl, ⟨S44, rfl, rfl, (Cov.cons rfl (Cov.cons rfl (Cov.cons rfl (Cov.cons rfl (Cov.cons rfl (Cov.cons rfl (Cov.nil _))))))), hot0⟩⟩
          dsimp only
          rintro _ _ _ _ ⟨rfl, ⟨S81, rfl, rfl, hc82, hot0⟩⟩
          refine thenL_n (WC.cov hc82 (WC.seq (WC.region (WO.mv rfl (WO.mv rfl ?_)))))
          refine WO.bin rfl rfl (by decide) (by decide) rfl ?_
          refine WO.bin rfl rfl (by decide) (by decide) rfl ?_
          refine WO.nil (thenL_n ?_)
          refine WC.cond rfl (fun q83 => ?_) (fun q83 => ?_)
          · have h := iteT q83 h
            refine WC.seq (WC.region (WO.mv rfl ?_))
            refine WO.bin rfl rfl (by decide) (by decide) rfl ?_
            refine WO.asg rfl (WO.nil (thenL_n (WC.block ?_)))
            obtain ⟨b111, e112, h⟩ := bindS h
            refine WC.loopD e112 (fun s84 l' m' n' => ∃ S85 : Cx fl, S85.m = m' ∧ S85.n = n' ∧ Cov l' [(0, .sc vt0), (1, .sc (.int .i64 t1)), (2, .sc (.int .i64 t2)), (3, .sc (.fn 159 [])), (9, .sc (.int .i64 b28)), (10, .sc (.int .i64 s1.2.1)), (12, .sc (.int .i64 s84.1))] ∧ Iw Y3 S85 2 n bw m vt0 s84.2) (fun b e l' m' n' => e = .exit 6 ∧ ∃ S86 : Cx fl, S86.m = m' ∧ S86.n = n' ∧ Cov l' [(0, .sc vt0), (1, .sc (.int .i64 t1)), (2, .sc (.int .i64 t2)), (3, .sc (.fn 159 [])), (9, .sc (.int .i64 b28)), (10, .sc (.int .i64 s1.2.1))] ∧ Iw Y3 S86 2 n bw m vt0 b) (by exact ⟨S81, rfl, rfl, (Cov.cons rfl (Cov.cons rfl (Cov.cons rfl (Cov.cons rfl (Cov.cons rfl (Cov.cons rfl (Cov.cons rfl (Cov.nil _)))))))), hot0⟩) ?_ ?_
            · clear h
              rintro s84 q _ _ _ ⟨S87, rfl, rfl, hc88, hot0⟩ h
              unfold F174_159_l2 at h
              refine WC.cov hc88 (WC.seq (WC.seq (WC.region (WO.mv rfl (WO.mv rfl ?_)))))
              refine WO.bin rfl rfl (by decide) (by decide) rfl ?_
              refine WO.nil (thenL_n ?_)
              refine WC.cond rfl (fun q89 => ?_) (fun q89 => ?_)
              · have h := iteT q89 h
                refine WC.skip (thenL_n (WC.seq (WC.block (WC.seq (WC.seq ?_)))))
                refine WC.drawN rfl rfl ?_
                have hot0z := hot0.oz
                refine WO.mv rfl (WO.mv rfl (WO.mv rfl ?_))
                obtain ⟨x90, e91, h⟩ := bindS h
                refine WO.ixS rfl rfl hot0.slv (at?_lt e91) rfl ?_
                refine WO.ldF rfl hot0z (fun _ hi => hi.1) (at?_get e91) rfl rfl (limLe_self _) ?_
                refine WO.mv rfl (WO.mv rfl ?_)
                refine WO.bin rfl rfl (by decide) (by decide) rfl ?_
                obtain ⟨x92, e93, h⟩ := bindS h
                refine WO.ixS rfl rfl hot0.slv (at?_lt e93) rfl ?_
                refine WO.ldF rfl hot0z (fun _ hi => hi.1) (at?_get e93) rfl rfl (limLe_self _) ?_
                obtain ⟨r94, e95, h⟩ := bindS h
                refine WO.callE (S := S87) rfl rfl (F159_ok e95) (fun S96 c97 => ?_)
                have hot0z := hot0z.tow c97
                have hot0 := hot0.to c97
                refine WO.bin rfl rfl (by decide) (by decide) rfl ?_
                refine WO.do rfl rfl ?_
                refine WO.nil (thenL_n ?_)
                refine WC.cond rfl (fun q98 => ?_) (fun q98 => ?_)
                · have h := iteT q98 h
                  refine WC.exit (thenL_e (blockL_e rfl (thenL_e (thenL_e ?_))))
                  obtain rfl := someI h
                  exact ⟨_, rfl, rfl, ⟨S96, rfl, rfl, (Cov.cons rfl (Cov.cons rfl (Cov.cons rfl (Cov.cons rfl (Cov.cons rfl (Cov.cons rfl (Cov.nil _))))))), hot0⟩⟩
                · have h := iteF q98 h
                  refine WC.skip (thenL_n ?_)
                  refine WC.drawN rfl rfl ?_
                  have hot0z := hot0.oz
                  refine WO.mv rfl (WO.mv rfl (WO.mv rfl (WO.mv rfl ?_)))
                  refine WO.bin rfl rfl (by decide) (by decide) rfl ?_
                  refine WO.mv rfl (WO.mv rfl ?_)
                  refine WO.bin rfl rfl (by decide) (by decide) rfl ?_
                  obtain ⟨x99, e100, h⟩ := bindS h
                  refine WO.ixS rfl rfl hot0.slv (at?_lt e100) rfl ?_
                  refine WO.ldF rfl hot0z (fun _ hi => hi.1) (at?_get e100) rfl rfl (limLe_self _) ?_
                  refine WO.mv rfl (WO.mv rfl ?_)
                  obtain ⟨x101, e102, h⟩ := bindS h
                  refine WO.ixS rfl rfl hot0.slv (at?_lt e102) rfl ?_
                  refine WO.ldF rfl hot0z (fun _ hi => hi.1) (at?_get e102) rfl rfl (limLe_self _) ?_
                  obtain ⟨u103, e104, h⟩ := bindS h
                  refine WO.ixS rfl rfl hot0.slv (ck_some e104) rfl ?_
                  refine WO.stI (u' := x99) rfl rfl hot0 (ck_nat e104) rfl rfl (fun S105 c106 hot0 => ?_)
                  obtain ⟨u107, e108, h⟩ := bindS h
                  refine WO.ixS rfl rfl hot0.slv (ck_some e108) rfl ?_
                  refine WO.stI (u' := x101) rfl rfl hot0 (ck_nat e108) rfl rfl (fun S109 c110 hot0 => ?_)
                  refine WO.nil (blockL_n (thenL_n (WC.region (WO.mv rfl ?_))))
                  refine WO.bin rfl rfl (by decide) (by decide) rfl ?_
                  refine WO.asg rfl (WO.nil (thenL_n ?_))
                  obtain rfl := someI h
                  exact ⟨_, rfl, ⟨S109, rfl, rfl, (Cov.cons rfl (Cov.cons rfl (Cov.cons rfl (Cov.cons rfl (Cov.cons rfl (Cov.cons rfl (Cov.cons rfl (Cov.nil _)))))))), hot0⟩⟩
              · have h := iteF q89 h
                refine WC.exit (thenL_e (thenL_e ?_))
                obtain rfl := someI h
                exact ⟨_, rfl, rfl, ⟨S87, rfl, rfl, (Cov.cons rfl (Cov.cons rfl (Cov.cons rfl (Cov.cons rfl (Cov.cons rfl (Cov.cons rfl (Cov.nil _))))))), hot0⟩⟩
            rintro _ _ _ _ ⟨rfl, ⟨S113, rfl, rfl, hc114, hot0⟩⟩
            refine blockL_s (blockL_n (thenL_n (WC.cov hc114 (WC.region (WO.mv rfl ?_)))))
            refine WO.bin rfl rfl (by decide) (by decide) rfl ?_
            refine WO.asg rfl (WO.nil (thenL_n ?_))
            obtain rfl := someI h
            exact ⟨_, rfl, ⟨S113, rfl, rfl, (Cov.cons rfl (Cov.cons rfl (Cov.cons rfl (Cov.cons rfl (Cov.cons rfl (Cov.cons rfl (Cov.nil _))))))), hot0⟩⟩
          · have h := iteF q83 h
            refine WC.skip (blockL_n (thenL_n (WC.region (WO.mv rfl ?_))))
            refine WO.bin rfl rfl (by decide) (by decide) rfl ?_
            refine WO.asg rfl (WO.nil (thenL_n ?_))
            obtain rfl := someI h
            exact ⟨_, rfl, ⟨S81, rfl, rfl, (Cov.cons rfl (Cov.cons rfl (Cov.cons rfl (Cov.cons rfl (Cov.cons rfl (Cov.cons rfl (Cov.nil _))))))), hot0⟩⟩
    · have h := iteF q8 h
      refine WC.exit (thenL_e (thenL_e ?_))
      obtain rfl := someI h
      exact ⟨_, rfl, rfl, ⟨S6, rfl, rfl, (Cov.cons rfl (Cov.nil _)), hot0⟩⟩
  cases b115 with
  | inl b117 =>
    simp only at h
    rintro _ _ _ _ ⟨rfl, ⟨S118, rfl, rfl, hc119, hot0⟩⟩
    refine blockL_s (thenL_n (WC.cov hc119 (WC.seq (WC.region (WO.asg rfl (WO.nil (thenL_n (WC.ret ?_))))))))
    obtain rfl := someI h
    exact ⟨.inr rfl, _, _, rfl, rfl, ⟨rfl, hot0.ip Lay.flat_fl⟩⟩
  | inr b117 =>
    simp only at h
    rintro _ _ _ _ ⟨rfl, ⟨S120, rfl, rfl, hc121, hot0⟩⟩
    refine blockL_r (thenL_r ?_)
    obtain rfl := someI h
    exact ⟨.inr rfl, _, _, (resK_cov hc121 rfl), rfl, ⟨rfl, hot0.ip Lay.flat_fl⟩⟩
end Go.Proofs.Ytihmliblbhjlaaa

namespace Go.Proofs.Ytihmliblbhjlaaa
open Go.Am
theorem F175_159.fn : E.fn 175 = some ⟨90, (Try.f175.body.getD .skip), Try.f175.results.toList, []⟩ := rfl
theorem F175_159_ok {F : Nat} {m : Mem} {n : Nat} {r : Int × (List Int)} {t0 : List Int} {t1 : Int} {t2 : Int} {t3 : Int} {vt0 : SV} {fl : Nat} {bw : Nat} (h : F175_159 F t0 t1 t2 t3 = some r) (hfl : fl ≤ n) (kt0 : Iv Y3 fl n bw m vt0 t0) : Ret E fl 175 [.sc vt0, .sc (.int .i64 t1), .sc (.int .i64 t2), .sc (.int .i64 t3), .sc (.fn 159 [])] m n (fun v m' n' => v = .sc (.int .i64 r.1) ∧ Ip Y3 n bw m m' vt0 r.2) := by
  unfold F175_159 at h
  refine Ret.walk F175_159.fn ?_
  refine WC.startI (b := bw) hfl fun S0 em en hz hbw => ?_
  have hot0 := kt0.iw em en hz hbw
  refine WC.seq (WC.region (WO.asg rfl (WO.nil (thenL_n (WC.seq ?_)))))
  refine WC.drawN rfl rfl ?_
  have hot0z := hot0.oz
  refine WO.mv rfl (WO.mv rfl (WO.mv rfl (WO.mv rfl (WO.mv rfl (WO.mv rfl ?_)))))
  obtain ⟨x1, e2, h⟩ := bindS h
  refine WO.ixS rfl rfl hot0.slv (at?_lt e2) rfl ?_
  refine WO.ldF rfl hot0z (fun _ hi => hi.1) (at?_get e2) rfl rfl (limLe_self _) ?_
  refine WO.mv rfl (WO.mv rfl ?_)
  obtain ⟨x3, e4, h⟩ := bindS h
  refine WO.ixS rfl rfl hot0.slv (at?_lt e4) rfl ?_
  refine WO.ldF rfl hot0z (fun _ hi => hi.1) (at?_get e4) rfl rfl (limLe_self _) ?_
  obtain ⟨u5, e6, h⟩ := bindS h
  refine WO.ixS rfl rfl hot0.slv (ck_some e6) rfl ?_
  refine WO.stI (u' := x1) rfl rfl hot0 (ck_nat e6) rfl rfl (fun S7 c8 hot0 => ?_)
  obtain ⟨u9, e10, h⟩ := bindS h
  refine WO.ixS rfl rfl hot0.slv (ck_some e10) rfl ?_
  refine WO.stI (u' := x3) rfl rfl hot0 (ck_nat e10) rfl rfl (fun S11 c12 hot0 => ?_)
  refine WO.nil (thenL_n (WC.seq (WC.region (WO.mv rfl ?_))))
  refine WO.bin rfl rfl (by decide) (by decide) rfl ?_
  refine WO.mv rfl ?_
  refine WO.bin rfl rfl (by decide) (by decide) rfl ?_
  refine WO.asg rfl (WO.asg rfl (WO.nil (thenL_n (WC.seq (WC.block ?_)))))
  obtain ⟨b77, e78, h⟩ := bindS h
  refine WC.loopD e78 (fun s13 l' m' n' => ∃ S14 : Cx fl, S14.m = m' ∧ S14.n = n' ∧ Cov l' [(0, .sc vt0), (1, .sc (.int .i64 t1)), (4, .sc (.fn 159 [])), (11, .sc (.int .i64 s13.1)), (12, .sc (.int .i64 s13.2.1))] ∧ Iw Y3 S14 2 n bw m vt0 s13.2.2) (fun b e l' m' n' => e = .exit 0 ∧ ∃ S15 : Cx fl, S15.m = m' ∧ S15.n = n' ∧ Cov l' [(0, .sc vt0), (11, .sc (.int .i64 b.1))] ∧ Iw Y3 S15 2 n bw m vt0 b.2) (by exact ⟨S11, rfl, rfl, (Cov.cons rfl (Cov.cons rfl (Cov.cons rfl (Cov.cons rfl (Cov.cons rfl (Cov.nil _)))))), hot0⟩) ?_ ?_
  · clear h
    rintro s13 q _ _ _ ⟨S16, rfl, rfl, hc17, hot0⟩ h
    unfold F175_159_l2 at h
    refine WC.cov hc17 (WC.block (WC.seq (WC.block ?_)))
    obtain ⟨b37, e38, h⟩ := bindS h
    refine WC.loopD e38 (fun s18 l' m' n' => ∃ S19 : Cx fl, S19.m = m' ∧ S19.n = n' ∧ Cov l' [(0, .sc vt0), (1, .sc (.int .i64 t1)), (4, .sc (.fn 159 [])), (11, .sc (.int .i64 s18)), (12, .sc (.int .i64 s13.2.1))] ∧ Iw Y3 S19 2 n bw m vt0 s13.2.2) (fun b e l' m' n' => e = .exit 2 ∧ ∃ S20 : Cx fl, S20.m = m' ∧ S20.n = n' ∧ Cov l' [(0, .sc vt0), (1, .sc (.int .i64 t1)), (4, .sc (.fn 159 [])), (11, .sc (.int .i64 b)), (12, .sc (.int .i64 s13.2.1))] ∧ Iw Y3 S20 2 n bw m vt0 s13.2.2) (by exact ⟨S16, rfl, rfl, (Cov.cons rfl (Cov.cons rfl (Cov.cons rfl (Cov.cons rfl (Cov.cons rfl (Cov.nil _)))))), hot0⟩) ?_ ?_
    · clear h
      rintro s18 q _ _ _ ⟨S21, rfl, rfl, hc22, hot0⟩ h
      unfold F175_159_l0 at h
      refine WC.cov hc22 (WC.seq (WC.seq ?_))
      refine WC.drawN rfl rfl ?_
      have hot0z := hot0.oz
      refine WO.mv rfl (WO.mv rfl ?_)
      refine WO.bin rfl rfl (by decide) (by decide) rfl ?_
      refine WO.mv rfl ?_
      obtain ⟨y32, e33, h⟩ := bindS h
      refine WO.cutS (d := 47) (S := S21) 13 y32 (fun q31 => ?_) (fun q31 => ?_) (fun S34 c35 => ?_)
      · have h := e33
        have h := iteT q31 h
        refine WO.gyes rfl rfl (WO.mv rfl (WO.gyes rfl rfl (WO.mv rfl (WO.gyes rfl rfl (WO.mv rfl (WO.gyes rfl rfl ?_))))))
        obtain ⟨x23, e24, h⟩ := bindS h
        refine WO.ixS rfl rfl hot0.slv (at?_lt e24) rfl ?_
        refine WO.gyes rfl rfl ?_
        refine WO.ldF rfl hot0z (fun _ hi => hi.1) (at?_get e24) rfl rfl (limLe_self _) ?_
        refine WO.gyes rfl rfl (WO.mv rfl (WO.gyes rfl rfl (WO.mv rfl (WO.gyes rfl rfl ?_))))
        obtain ⟨x25, e26, h⟩ := bindS h
        refine WO.ixS rfl rfl hot0.slv (at?_lt e26) rfl ?_
        refine WO.gyes rfl rfl ?_
        refine WO.ldF rfl hot0z (fun _ hi => hi.1) (at?_get e26) rfl rfl (limLe_self _) ?_
        refine WO.gyes rfl rfl ?_
        obtain ⟨r27, e28, h⟩ := bindS h
        refine WO.callE (S := S21) rfl rfl (F159_ok e28) (fun S29 c30 => ?_)
        have hot0z := hot0z.tow c30
        have hot0 := hot0.to c30
        refine WO.gyes rfl rfl ?_
        refine WO.bin rfl rfl (by decide) (by decide) rfl ?_
        refine WO.gyes rfl rfl ?_
        refine WO.do rfl rfl ?_
        obtain rfl := someI h
        refine WO.pickT rfl rfl ?_
        refine WO.nil ?_
        exact ⟨S29, rfl, rfl, c30, (Cov.cons rfl (Cov.skip rfl (Cov.skip rfl (Cov.skip rfl (Cov.skip rfl (Cov.skip rfl (Cov.skip rfl (Cov.skip rfl (Cov.skip rfl (Cov.skip rfl (Cov.skip rfl (Cov.skip rfl (Cov.skip rfl (Cov.skip rfl (Cov.skip rfl (Cov.refl _))))))))))))))))⟩
      · have h := e33
        have h := iteF q31 h
        obtain rfl := someI h
        refine WO.gno rfl rfl (WO.gno rfl rfl (WO.gno rfl rfl (WO.gno rfl rfl (WO.gno rfl rfl (WO.gno rfl rfl (WO.gno rfl rfl (WO.gno rfl rfl (WO.gno rfl rfl (WO.gno rfl rfl ?_)))))))))
        refine WO.gno rfl rfl (WO.gno rfl rfl ?_)
        refine WO.pickF rfl rfl ?_
        refine WO.nil ?_
        exact ⟨S21, rfl, rfl, Ch.refl _ _, (Cov.cons rfl (Cov.skip rfl (Cov.skip rfl (Cov.skip rfl (Cov.skip rfl (Cov.skip rfl (Cov.skip rfl (Cov.skip rfl (Cov.skip rfl (Cov.skip rfl (Cov.skip rfl (Cov.skip rfl (Cov.skip rfl (Cov.skip rfl (Cov.skip rfl (Cov.refl _))))))))))))))))⟩
      have hot0z := hot0z.tow c35
      have hot0 := hot0.to c35
      refine WO.nil (thenL_n ?_)
      refine WC.cond rfl (fun q36 => ?_) (fun q36 => ?_)
      · have h := iteT q36 h
        refine WC.skip (thenL_n (WC.block (WC.region (WO.mv rfl ?_))))
        refine WO.bin rfl rfl (by decide) (by decide) rfl ?_
        refine WO.asg rfl (WO.nil (blockL_n (thenL_n ?_)))
        obtain rfl := someI h
        exact ⟨_, rfl, ⟨S34, rfl, rfl, (Cov.cons rfl (Cov.cons rfl (Cov.cons rfl (Cov.cons rfl (Cov.cons rfl (Cov.nil _)))))), hot0⟩⟩
      · have h := iteF q36 h
        refine WC.exit (thenL_e (thenL_e ?_))
        obtain rfl := someI h
        exact ⟨_, rfl, rfl, ⟨S34, rfl, rfl, (Cov.cons rfl (Cov.cons rfl (Cov.cons rfl (Cov.cons rfl (Cov.cons rfl (Cov.nil _)))))), hot0⟩⟩
    rintro _ _ _ _ ⟨rfl, ⟨S39, rfl, rfl, hc40, hot0⟩⟩
    refine blockL_s (thenL_n (WC.cov hc40 (WC.seq (WC.block ?_))))
    obtain ⟨b60, e61, h⟩ := bindS h
    refine WC.loopD e61 (fun s41 l' m' n' => ∃ S42 : Cx fl, S42.m = m' ∧ S42.n = n' ∧ Cov l' [(0, .sc vt0), (1, .sc (.int .i64 t1)), (4, .sc (.fn 159 [])), (11, .sc (.int .i64 b37)), (12, .sc (.int .i64 s41))] ∧ Iw Y3 S42 2 n bw m vt0 s13.2.2) (fun b e l' m' n' => e = .exit 4 ∧ ∃ S43 : Cx fl, S43.m = m' ∧ S43.n = n' ∧ Cov l' [(0, .sc vt0), (1, .sc (.int .i64 t1)), (4, .sc (.fn 159 [])), (11, .sc (.int .i64 b37)), (12, .sc (.int .i64 b))] ∧ Iw Y3 S43 2 n bw m vt0 s13.2.2) (by exact ⟨S39, rfl, rfl, (Cov.cons rfl (Cov.cons rfl (Cov.cons rfl (Cov.cons rfl (Cov.cons rfl (Cov.nil _)))))), hot0⟩) ?_ ?_
    · clear h
      rintro s41 q _ _ _ ⟨S44, rfl, rfl, hc45, hot0⟩ h
      unfold F175_159_l1 at h
      refine WC.cov hc45 (WC.seq (WC.seq ?_))
      refine WC.drawN rfl rfl ?_
      have hot0z := hot0.oz
      refine WO.mv rfl (WO.mv rfl ?_)
      refine WO.bin rfl rfl (by decide) (by decide) rfl ?_
      refine WO.mv rfl ?_
      obtain ⟨y55, e56, h⟩ := bindS h
      refine WO.cutS (d := 65) (S := S44) 12 y55 (fun q54 => ?_) (fun q54 => ?_) (fun S57 c58 => ?_)
      · have h := e56
        have h := iteT q54 h
        refine WO.gyes rfl rfl (WO.mv rfl (WO.gyes rfl rfl (WO.mv rfl (WO.gyes rfl rfl (WO.mv rfl (WO.gyes rfl rfl ?_))))))
        obtain ⟨x46, e47, h⟩ := bindS h
        refine WO.ixS rfl rfl hot0.slv (at?_lt e47) rfl ?_
        refine WO.gyes rfl rfl ?_
        refine WO.ldF rfl hot0z (fun _ hi => hi.1) (at?_get e47) rfl rfl (limLe_self _) ?_
        refine WO.gyes rfl rfl (WO.mv rfl (WO.gyes rfl rfl (WO.mv rfl (WO.gyes rfl rfl ?_))))
        obtain ⟨x48, e49, h⟩ := bindS h
        refine WO.ixS rfl rfl hot0.slv (at?_lt e49) rfl ?_
        refine WO.gyes rfl rfl ?_
        refine WO.ldF rfl hot0z (fun _ hi => hi.1) (at?_get e49) rfl rfl (limLe_self _) ?_
        refine WO.gyes rfl rfl ?_
        obtain ⟨r50, e51, h⟩ := bindS h
        refine WO.callE (S := S44) rfl rfl (F159_ok e51) (fun S52 c53 => ?_)
        have hot0z := hot0z.tow c53
        have hot0 := hot0.to c53
        refine WO.gyes rfl rfl ?_
        refine WO.bin rfl rfl (by decide) (by decide) rfl ?_
        obtain rfl := someI h
        refine WO.pickT rfl rfl ?_
        refine WO.nil ?_
        exact ⟨S52, rfl, rfl, c53, (Cov.cons rfl (Cov.skip rfl (Cov.skip rfl (Cov.skip rfl (Cov.skip rfl (Cov.skip rfl (Cov.skip rfl (Cov.skip rfl (Cov.skip rfl (Cov.skip rfl (Cov.skip rfl (Cov.skip rfl (Cov.skip rfl (Cov.skip rfl (Cov.refl _)))))))))))))))⟩
      · have h := e56
        have h := iteF q54 h
        obtain rfl := someI h
        refine WO.gno rfl rfl (WO.gno rfl rfl (WO.gno rfl rfl (WO.gno rfl rfl (WO.gno rfl rfl (WO.gno rfl rfl (WO.gno rfl rfl (WO.gno rfl rfl (WO.gno rfl rfl (WO.gno rfl rfl ?_)))))))))
        refine WO.gno rfl rfl ?_
        refine WO.pickF rfl rfl ?_
        refine WO.nil ?_
        exact ⟨S44, rfl, rfl, Ch.refl _ _, (Cov.cons rfl (Cov.skip rfl (Cov.skip rfl (Cov.skip rfl (Cov.skip rfl (Cov.skip rfl (Cov.skip rfl (Cov.skip rfl (Cov.skip rfl (Cov.skip rfl (Cov.skip rfl (Cov.skip rfl (Cov.skip rfl (Cov.skip rfl (Cov.refl _)))))))))))))))⟩
      have hot0z := hot0z.tow c58
      have hot0 := hot0.to c58
      refine WO.nil (thenL_n ?_)
      refine WC.cond rfl (fun q59 => ?_) (fun q59 => ?_)
      · have h := iteT q59 h
        refine WC.skip (thenL_n (WC.block (WC.region (WO.mv rfl ?_))))
        refine WO.bin rfl rfl (by decide) (by decide) rfl ?_
        refine WO.asg rfl (WO.nil (blockL_n (thenL_n ?_)))
        obtain rfl := someI h
        exact ⟨_, rfl, ⟨S57, rfl, rfl, (Cov.cons rfl (Cov.cons rfl (Cov.cons rfl (Cov.cons rfl (Cov.cons rfl (Cov.nil _)))))), hot0⟩⟩
      · have h := iteF q59 h
        refine WC.exit (thenL_e (thenL_e ?_))
        obtain rfl := someI h
        exact ⟨_, rfl, rfl, ⟨S57, rfl, rfl, (Cov.cons rfl (Cov.cons rfl (Cov.cons rfl (Cov.cons rfl (Cov.cons rfl (Cov.nil _)))))), hot0⟩⟩
    rintro _ _ _ _ ⟨rfl, ⟨S62, rfl, rfl, hc63, hot0⟩⟩
    refine blockL_s (thenL_n (WC.cov hc63 (WC.seq (WC.seq (WC.region (WO.mv rfl (WO.mv rfl ?_)))))))
    refine WO.bin rfl rfl (by decide) (by decide) rfl ?_
    refine WO.nil (thenL_n ?_)
    refine WC.cond rfl (fun q64 => ?_) (fun q64 => ?_)
    · have h := iteT q64 h
      refine WC.exit (thenL_e (blockL_e rfl (thenL_e ?_)))
      obtain rfl := someI h
      exact ⟨_, rfl, rfl, ⟨S62, rfl, rfl, (Cov.cons rfl (Cov.cons rfl (Cov.nil _))), hot0⟩⟩
    · have h := iteF q64 h
      refine WC.skip (thenL_n (WC.seq ?_))
      refine WC.drawN rfl rfl ?_
      have hot0z := hot0.oz
      refine WO.mv rfl (WO.mv rfl (WO.mv rfl (WO.mv rfl (WO.mv rfl (WO.mv rfl ?_)))))
      obtain ⟨x65, e66, h⟩ := bindS h
      refine WO.ixS rfl rfl hot0.slv (at?_lt e66) rfl ?_
      refine WO.ldF rfl hot0z (fun _ hi => hi.1) (at?_get e66) rfl rfl (limLe_self _) ?_
      refine WO.mv rfl (WO.mv rfl ?_)
      obtain ⟨x67, e68, h⟩ := bindS h
      refine WO.ixS rfl rfl hot0.slv (at?_lt e68) rfl ?_
      refine WO.ldF rfl hot0z (fun _ hi => hi.1) (at?_get e68) rfl rfl (limLe_self _) ?_
      obtain ⟨u69, e70, h⟩ := bindS h
      refine WO.ixS rfl rfl hot0.slv (ck_some e70) rfl ?_
      refine WO.stI (u' := x65) rfl rfl hot0 (ck_nat e70) rfl rfl (fun S71 c72 hot0 => ?_)
      obtain ⟨u73, e74, h⟩ := bindS h
      refine WO.ixS rfl rfl hot0.slv (ck_some e74) rfl ?_
      refine WO.stI (u' := x67) rfl rfl hot0 (ck_nat e74) rfl rfl (fun S75 c76 hot0 => ?_)
      refine WO.nil (thenL_n (WC.seq (WC.region (WO.mv rfl ?_))))
      refine WO.bin rfl rfl (by decide) (by decide) rfl ?_
      refine WO.asg rfl (WO.nil (thenL_n (WC.region (WO.mv rfl ?_))))
      refine WO.bin rfl rfl (by decide) (by decide) rfl ?_
      refine WO.asg rfl (WO.nil (blockL_n (thenL_n ?_)))
      obtain rfl := someI h
      exact ⟨_, rfl, ⟨S75, rfl, rfl, (Cov.cons rfl (Cov.cons rfl (Cov.cons rfl (Cov.cons rfl (Cov.cons rfl (Cov.nil _)))))), hot0⟩⟩
  rintro _ _ _ _ ⟨rfl, ⟨S79, rfl, rfl, hc80, hot0⟩⟩
  refine blockL_s (thenL_n (WC.cov hc80 (WC.seq (WC.region (WO.mv rfl (WO.asg rfl (WO.nil (thenL_n (WC.ret ?_)))))))))
  obtain rfl := someI h
  exact ⟨.inr rfl, _, _, rfl, rfl, ⟨rfl, hot0.ip Lay.flat_fl⟩⟩
end Go.Proofs.Ytihmliblbhjlaaa

namespace Go.Proofs.Ytihmliblbhjlaaa
open Go.Am
theorem F176_159.fn : E.fn 176 = some ⟨178, (Try.f176.body.getD .skip), Try.f176.results.toList, []⟩ := rfl
theorem F176_159_ok {F : Nat} {m : Mem} {n : Nat} {r : Int × Bool × (List Int)} {t0 : List Int} {t1 : Int} {t2 : Int} {t3 : Int} {vt0 : SV} {fl : Nat} {bw : Nat} (h : F176_159 F t0 t1 t2 t3 = some r) (hfl : fl ≤ n) (kt0 : Iv Y3 fl n bw m vt0 t0) : Ret E fl 176 [.sc vt0, .sc (.int .i64 t1), .sc (.int .i64 t2), .sc (.int .i64 t3), .sc (.fn 159 [])] m n (fun v m' n' => v = .tup [.sc (.int .i64 r.1), .sc (.bool r.2.1)] ∧ Ip Y3 n bw m m' vt0 r.2.2) := by
  unfold F176_159 at h
  refine Ret.walk F176_159.fn ?_
  refine WC.startI (b := bw) hfl fun S0 em en hz hbw => ?_
  have hot0 := kt0.iw em en hz hbw
  refine WC.seq (WC.region (WO.asg rfl (WO.asg rfl (WO.nil (thenL_n (WC.seq ?_))))))
  refine WC.drawN rfl rfl ?_
  have hot0z := hot0.oz
  refine WO.mv rfl (WO.mv rfl (WO.mv rfl (WO.mv rfl (WO.mv rfl (WO.mv rfl ?_)))))
  obtain ⟨x1, e2, h⟩ := bindS h
  refine WO.ixS rfl rfl hot0.slv (at?_lt e2) rfl ?_
  refine WO.ldF rfl hot0z (fun _ hi => hi.1) (at?_get e2) rfl rfl (limLe_self _) ?_
  refine WO.mv rfl (WO.mv rfl ?_)
  obtain ⟨x3, e4, h⟩ := bindS h
  refine WO.ixS rfl rfl hot0.slv (at?_lt e4) rfl ?_
  refine WO.ldF rfl hot0z (fun _ hi => hi.1) (at?_get e4) rfl rfl (limLe_self _) ?_
  obtain ⟨u5, e6, h⟩ := bindS h
  refine WO.ixS rfl rfl hot0.slv (ck_some e6) rfl ?_
  refine WO.stI (u' := x1) rfl rfl hot0 (ck_nat e6) rfl rfl (fun S7 c8 hot0 => ?_)
  obtain ⟨u9, e10, h⟩ := bindS h
  refine WO.ixS rfl rfl hot0.slv (ck_some e10) rfl ?_
  refine WO.stI (u' := x3) rfl rfl hot0 (ck_nat e10) rfl rfl (fun S11 c12 hot0 => ?_)
  refine WO.nil (thenL_n (WC.seq (WC.region (WO.mv rfl ?_))))
  refine WO.bin rfl rfl (by decide) (by decide) rfl ?_
  refine WO.mv rfl ?_
  refine WO.bin rfl rfl (by decide) (by decide) rfl ?_
  refine WO.asg rfl (WO.asg rfl (WO.nil (thenL_n (WC.seq (WC.block ?_)))))
  obtain ⟨b32, e33, h⟩ := bindS h
  refine WC.loopD e33 (fun s13 l' m' n' => ∃ S14 : Cx fl, S14.m = m' ∧ S14.n = n' ∧ Cov l' [(0, .sc vt0), (1, .sc (.int .i64 t1)), (4, .sc (.fn 159 [])), (12, .sc (.int .i64 s13)), (13, .sc (.int .i64 ((wrapA .i64 (t2 - 1)))))] ∧ Iw Y3 S14 2 n bw m vt0 ((((t0.set ((Int.toNat t1)) x1)).set ((Int.toNat t3)) x3))) (fun b e l' m' n' => e = .exit 0 ∧ ∃ S15 : Cx fl, S15.m = m' ∧ S15.n = n' ∧ Cov l' [(0, .sc vt0), (1, .sc (.int .i64 t1)), (4, .sc (.fn 159 [])), (12, .sc (.int .i64 b)), (13, .sc (.int .i64 ((wrapA .i64 (t2 - 1)))))] ∧ Iw Y3 S15 2 n bw m vt0 ((((t0.set ((Int.toNat t1)) x1)).set ((Int.toNat t3)) x3))) (by exact ⟨S11, rfl, rfl, (Cov.cons rfl (Cov.cons rfl (Cov.cons rfl (Cov.cons rfl (Cov.cons rfl (Cov.nil _)))))), hot0⟩) ?_ ?_
  · clear h
    rintro s13 q _ _ _ ⟨S16, rfl, rfl, hc17, hot0⟩ h
    unfold F176_159_l0 at h
    refine WC.cov hc17 (WC.seq (WC.seq ?_))
    refine WC.drawN rfl rfl ?_
    have hot0z := hot0.oz
    refine WO.mv rfl (WO.mv rfl ?_)
    refine WO.bin rfl rfl (by decide) (by decide) rfl ?_
    refine WO.mv rfl ?_
    obtain ⟨y27, e28, h⟩ := bindS h
    refine WO.cutS (d := 47) (S := S16) 12 y27 (fun q26 => ?_) (fun q26 => ?_) (fun S29 c30 => ?_)
    · have h := e28
      have h := iteT q26 h
      refine WO.gyes rfl rfl (WO.mv rfl (WO.gyes rfl rfl (WO.mv rfl (WO.gyes rfl rfl (WO.mv rfl (WO.gyes rfl rfl ?_))))))
      obtain ⟨x18, e19, h⟩ := bindS h
      refine WO.ixS rfl rfl hot0.slv (at?_lt e19) rfl ?_
      refine WO.gyes rfl rfl ?_
      refine WO.ldF rfl hot0z (fun _ hi => hi.1) (at?_get e19) rfl rfl (limLe_self _) ?_
      refine WO.gyes rfl rfl (WO.mv rfl (WO.gyes rfl rfl (WO.mv rfl (WO.gyes rfl rfl ?_))))
      obtain ⟨x20, e21, h⟩ := bindS h
      refine WO.ixS rfl rfl hot0.slv (at?_lt e21) rfl ?_
      refine WO.gyes rfl rfl ?_
      refine WO.ldF rfl hot0z (fun _ hi => hi.1) (at?_get e21) rfl rfl (limLe_self _) ?_
      refine WO.gyes rfl rfl ?_
      obtain ⟨r22, e23, h⟩ := bindS h
      refine WO.callE (S := S16) rfl rfl (F159_ok e23) (fun S24 c25 => ?_)
      have hot0z := hot0z.tow c25
      have hot0 := hot0.to c25
      refine WO.gyes rfl rfl ?_
      refine WO.bin rfl rfl (by decide) (by decide) rfl ?_
      obtain rfl := someI h
      refine WO.pickT rfl rfl ?_
      refine WO.nil ?_
      exact ⟨S24, rfl, rfl, c25, (Cov.cons rfl (Cov.skip rfl (Cov.skip rfl (Cov.skip rfl (Cov.skip rfl (Cov.skip rfl (Cov.skip rfl (Cov.skip rfl (Cov.skip rfl (Cov.skip rfl (Cov.skip rfl (Cov.skip rfl (Cov.skip rfl (Cov.skip rfl (Cov.refl _)))))))))))))))⟩
    · have h := e28
      have h := iteF q26 h
      obtain rfl := someI h
      refine WO.gno rfl rfl (WO.gno rfl rfl (WO.gno rfl rfl (WO.gno rfl rfl (WO.gno rfl rfl (WO.gno rfl rfl (WO.gno rfl rfl (WO.gno rfl rfl (WO.gno rfl rfl (WO.gno rfl rfl ?_)))))))))
      refine WO.gno rfl rfl ?_
      refine WO.pickF rfl rfl ?_
      refine WO.nil ?_
      exact ⟨S16, rfl, rfl, Ch.refl _ _, (Cov.cons rfl (Cov.skip rfl (Cov.skip rfl (Cov.skip rfl (Cov.skip rfl (Cov.skip rfl (Cov.skip rfl (Cov.skip rfl (Cov.skip rfl (Cov.skip rfl (Cov.skip rfl (Cov.skip rfl (Cov.skip rfl (Cov.skip rfl (Cov.refl _)))))))))))))))⟩
    have hot0z := hot0z.tow c30
    have hot0 := hot0.to c30
    refine WO.nil (thenL_n ?_)
    refine WC.cond rfl (fun q31 => ?_) (fun q31 => ?_)
    · have h := iteT q31 h
      refine WC.skip (thenL_n (WC.block (WC.region (WO.mv rfl ?_))))
      refine WO.bin rfl rfl (by decide) (by decide) rfl ?_
      refine WO.asg rfl (WO.nil (blockL_n (thenL_n ?_)))
      obtain rfl := someI h
      exact ⟨_, rfl, ⟨S29, rfl, rfl, (Cov.cons rfl (Cov.cons rfl (Cov.cons rfl (Cov.cons rfl (Cov.cons rfl (Cov.nil _)))))), hot0⟩⟩
    · have h := iteF q31 h
      refine WC.exit (thenL_e (thenL_e ?_))
      obtain rfl := someI h
      exact ⟨_, rfl, rfl, ⟨S29, rfl, rfl, (Cov.cons rfl (Cov.cons rfl (Cov.cons rfl (Cov.cons rfl (Cov.cons rfl (Cov.nil _)))))), hot0⟩⟩
  rintro _ _ _ _ ⟨rfl, ⟨S34, rfl, rfl, hc35, hot0⟩⟩
  refine blockL_s (thenL_n (WC.cov hc35 (WC.seq (WC.block ?_))))
  obtain ⟨b55, e56, h⟩ := bindS h
  refine WC.loopD e56 (fun s36 l' m' n' => ∃ S37 : Cx fl, S37.m = m' ∧ S37.n = n' ∧ Cov l' [(0, .sc vt0), (1, .sc (.int .i64 t1)), (4, .sc (.fn 159 [])), (12, .sc (.int .i64 b32)), (13, .sc (.int .i64 s36))] ∧ Iw Y3 S37 2 n bw m vt0 ((((t0.set ((Int.toNat t1)) x1)).set ((Int.toNat t3)) x3))) (fun b e l' m' n' => e = .exit 2 ∧ ∃ S38 : Cx fl, S38.m = m' ∧ S38.n = n' ∧ Cov l' [(0, .sc vt0), (1, .sc (.int .i64 t1)), (4, .sc (.fn 159 [])), (12, .sc (.int .i64 b32)), (13, .sc (.int .i64 b))] ∧ Iw Y3 S38 2 n bw m vt0 ((((t0.set ((Int.toNat t1)) x1)).set ((Int.toNat t3)) x3))) (by exact ⟨S34, rfl, rfl, (Cov.cons rfl (Cov.cons rfl (Cov.cons rfl (Cov.cons rfl (Cov.cons rfl (Cov.nil _)))))), hot0⟩) ?_ ?_
  · clear h
    rintro s36 q _ _ _ ⟨S39, rfl, rfl, hc40, hot0⟩ h
    unfold F176_159_l1 at h
    refine WC.cov hc40 (WC.seq (WC.seq ?_))
    refine WC.drawN rfl rfl ?_
    have hot0z := hot0.oz
    refine WO.mv rfl (WO.mv rfl ?_)
    refine WO.bin rfl rfl (by decide) (by decide) rfl ?_
    refine WO.mv rfl ?_
    obtain ⟨y50, e51, h⟩ := bindS h
    refine WO.cutS (d := 66) (S := S39) 13 y50 (fun q49 => ?_) (fun q49 => ?_) (fun S52 c53 => ?_)
    · have h := e51
      have h := iteT q49 h
      refine WO.gyes rfl rfl (WO.mv rfl (WO.gyes rfl rfl (WO.mv rfl (WO.gyes rfl rfl (WO.mv rfl (WO.gyes rfl rfl ?_))))))
      obtain ⟨x41, e42, h⟩ := bindS h
      refine WO.ixS rfl rfl hot0.slv (at?_lt e42) rfl ?_
      refine WO.gyes rfl rfl ?_
      refine WO.ldF rfl hot0z (fun _ hi => hi.1) (at?_get e42) rfl rfl (limLe_self _) ?_
      refine WO.gyes rfl rfl (WO.mv rfl (WO.gyes rfl rfl (WO.mv rfl (WO.gyes rfl rfl ?_))))
      obtain ⟨x43, e44, h⟩ := bindS h
      refine WO.ixS rfl rfl hot0.slv (at?_lt e44) rfl ?_
      refine WO.gyes rfl rfl ?_
      refine WO.ldF rfl hot0z (fun _ hi => hi.1) (at?_get e44) rfl rfl (limLe_self _) ?_
      refine WO.gyes rfl rfl ?_
      obtain ⟨r45, e46, h⟩ := bindS h
      refine WO.callE (S := S39) rfl rfl (F159_ok e46) (fun S47 c48 => ?_)
      have hot0z := hot0z.tow c48
      have hot0 := hot0.to c48
      refine WO.gyes rfl rfl ?_
      refine WO.bin rfl rfl (by decide) (by decide) rfl ?_
      refine WO.gyes rfl rfl ?_
      refine WO.do rfl rfl ?_
      obtain rfl := someI h
      refine WO.pickT rfl rfl ?_
      refine WO.nil ?_
      exact ⟨S47, rfl, rfl, c48, (Cov.cons rfl (Cov.skip rfl (Cov.skip rfl (Cov.skip rfl (Cov.skip rfl (Cov.skip rfl (Cov.skip rfl (Cov.skip rfl (Cov.skip rfl (Cov.skip rfl (Cov.skip rfl (Cov.skip rfl (Cov.skip rfl (Cov.skip rfl (Cov.skip rfl (Cov.refl _))))))))))))))))⟩
    · have h := e51
      have h := iteF q49 h
      obtain rfl := someI h
      refine WO.gno rfl rfl (WO.gno rfl rfl (WO.gno rfl rfl (WO.gno rfl rfl (WO.gno rfl rfl (WO.gno rfl rfl (WO.gno rfl rfl (WO.gno rfl rfl (WO.gno rfl rfl (WO.gno rfl rfl ?_)))))))))
      refine WO.gno rfl rfl (WO.gno rfl rfl ?_)
      refine WO.pickF rfl rfl ?_
      refine WO.nil ?_
      exact ⟨S39, rfl, rfl, Ch.refl _ _, (Cov.cons rfl (Cov.skip rfl (Cov.skip rfl (Cov.skip rfl (Cov.skip rfl (Cov.skip rfl (Cov.skip rfl (Cov.skip rfl (Cov.skip rfl (Cov.skip rfl (Cov.skip rfl (Cov.skip rfl (Cov.skip rfl (Cov.skip rfl (Cov.skip rfl (Cov.refl _))))))))))))))))⟩
    have hot0z := hot0z.tow c53
    have hot0 := hot0.to c53
    refine WO.nil (thenL_n ?_)
    refine WC.cond rfl (fun q54 => ?_) (fun q54 => ?_)
    · have h := iteT q54 h
      refine WC.skip (thenL_n (WC.block (WC.region (WO.mv rfl ?_))))
      refine WO.bin rfl rfl (by decide) (by decide) rfl ?_
      refine WO.asg rfl (WO.nil (blockL_n (thenL_n ?_)))
      obtain rfl := someI h
      exact ⟨_, rfl, ⟨S52, rfl, rfl, (Cov.cons rfl (Cov.cons rfl (Cov.cons rfl (Cov.cons rfl (Cov.cons rfl (Cov.nil _)))))), hot0⟩⟩
    · have h := iteF q54 h
      refine WC.exit (thenL_e (thenL_e ?_))
      obtain rfl := someI h
      exact ⟨_, rfl, rfl, ⟨S52, rfl, rfl, (Cov.cons rfl (Cov.cons rfl (Cov.cons rfl (Cov.cons rfl (Cov.cons rfl (Cov.nil _)))))), hot0⟩⟩
  rintro _ _ _ _ ⟨rfl, ⟨S57, rfl, rfl, hc58, hot0⟩⟩
  refine blockL_s (thenL_n (WC.cov hc58 (WC.seq (WC.seq (WC.region (WO.mv rfl (WO.mv rfl ?_)))))))
  refine WO.bin rfl rfl (by decide) (by decide) rfl ?_
  refine WO.nil (thenL_n ?_)
  refine WC.cond rfl (fun q59 => ?_) (fun q59 => ?_)
  · have h := iteT q59 h
    refine WC.seq ?_
    refine WC.drawN rfl rfl ?_
    have hot0z := hot0.oz
    refine WO.mv rfl (WO.mv rfl (WO.mv rfl (WO.mv rfl (WO.mv rfl (WO.mv rfl ?_)))))
    obtain ⟨x60, e61, h⟩ := bindS h
    refine WO.ixS rfl rfl hot0.slv (at?_lt e61) rfl ?_
    refine WO.ldF rfl hot0z (fun _ hi => hi.1) (at?_get e61) rfl rfl (limLe_self _) ?_
    refine WO.mv rfl (WO.mv rfl ?_)
    obtain ⟨x62, e63, h⟩ := bindS h
    refine WO.ixS rfl rfl hot0.slv (at?_lt e63) rfl ?_
    refine WO.ldF rfl hot0z (fun _ hi => hi.1) (at?_get e63) rfl rfl (limLe_self _) ?_
    obtain ⟨u64, e65, h⟩ := bindS h
    refine WO.ixS rfl rfl hot0.slv (ck_some e65) rfl ?_
    refine WO.stI (u' := x60) rfl rfl hot0 (ck_nat e65) rfl rfl (fun S66 c67 hot0 => ?_)
    obtain ⟨u68, e69, h⟩ := bindS h
    refine WO.ixS rfl rfl hot0.slv (ck_some e69) rfl ?_
    refine WO.stI (u' := x62) rfl rfl hot0 (ck_nat e69) rfl rfl (fun S70 c71 hot0 => ?_)
    refine WO.nil (thenL_n (WC.seq (WC.region (WO.mv rfl (WO.asg rfl (WO.asg rfl (WO.nil (thenL_n (WC.ret ?_)))))))))
    refine thenL_r ?_
    obtain rfl := someI h
    exact ⟨.inr rfl, _, _, rfl, rfl, ⟨rfl, hot0.ip Lay.flat_fl⟩⟩
  · have h := iteF q59 h
    refine WC.skip (thenL_n (WC.seq ?_))
    refine WC.drawN rfl rfl ?_
    have hot0z := hot0.oz
    refine WO.mv rfl (WO.mv rfl (WO.mv rfl (WO.mv rfl (WO.mv rfl (WO.mv rfl ?_)))))
    obtain ⟨x72, e73, h⟩ := bindS h
    refine WO.ixS rfl rfl hot0.slv (at?_lt e73) rfl ?_
    refine WO.ldF rfl hot0z (fun _ hi => hi.1) (at?_get e73) rfl rfl (limLe_self _) ?_
    refine WO.mv rfl (WO.mv rfl ?_)
    obtain ⟨x74, e75, h⟩ := bindS h
    refine WO.ixS rfl rfl hot0.slv (at?_lt e75) rfl ?_
    refine WO.ldF rfl hot0z (fun _ hi => hi.1) (at?_get e75) rfl rfl (limLe_self _) ?_
    obtain ⟨u76, e77, h⟩ := bindS h
    refine WO.ixS rfl rfl hot0.slv (ck_some e77) rfl ?_
    refine WO.stI (u' := x72) rfl rfl hot0 (ck_nat e77) rfl rfl (fun S78 c79 hot0 => ?_)
    obtain ⟨u80, e81, h⟩ := bindS h
    refine WO.ixS rfl rfl hot0.slv (ck_some e81) rfl ?_
    refine WO.stI (u' := x74) rfl rfl hot0 (ck_nat e81) rfl rfl (fun S82 c83 hot0 => ?_)
    refine WO.nil (thenL_n (WC.seq (WC.region (WO.mv rfl ?_))))
    refine WO.bin rfl rfl (by decide) (by decide) rfl ?_
    refine WO.asg rfl (WO.nil (thenL_n (WC.seq (WC.region (WO.mv rfl ?_)))))
    refine WO.bin rfl rfl (by decide) (by decide) rfl ?_
    refine WO.asg rfl (WO.nil (thenL_n (WC.seq (WC.block ?_))))
    obtain ⟨b148, e149, h⟩ := bindS h
    refine WC.loopD e149 (fun s84 l' m' n' => ∃ S85 : Cx fl, S85.m = m' ∧ S85.n = n' ∧ Cov l' [(0, .sc vt0), (1, .sc (.int .i64 t1)), (4, .sc (.fn 159 [])), (12, .sc (.int .i64 s84.1)), (13, .sc (.int .i64 s84.2.1))] ∧ Iw Y3 S85 2 n bw m vt0 s84.2.2) (fun b e l' m' n' => e = .exit 4 ∧ ∃ S86 : Cx fl, S86.m = m' ∧ S86.n = n' ∧ Cov l' [(0, .sc vt0), (1, .sc (.int .i64 t1)), (13, .sc (.int .i64 b.1))] ∧ Iw Y3 S86 2 n bw m vt0 b.2) (by exact ⟨S82, rfl, rfl, (Cov.cons rfl (Cov.cons rfl (Cov.cons rfl (Cov.cons rfl (Cov.cons rfl (Cov.nil _)))))), hot0⟩) ?_ ?_
    · clear h
      rintro s84 q _ _ _ ⟨S87, rfl, rfl, hc88, hot0⟩ h
      unfold F176_159_l4 at h
      refine WC.cov hc88 (WC.block (WC.seq (WC.block ?_)))
      obtain ⟨b108, e109, h⟩ := bindS h
      refine WC.loopD e109 (fun s89 l' m' n' => ∃ S90 : Cx fl, S90.m = m' ∧ S90.n = n' ∧ Cov l' [(0, .sc vt0), (1, .sc (.int .i64 t1)), (4, .sc (.fn 159 [])), (12, .sc (.int .i64 s89)), (13, .sc (.int .i64 s84.2.1))] ∧ Iw Y3 S90 2 n bw m vt0 s84.2.2) (fun b e l' m' n' => e = .exit 6 ∧ ∃ S91 : Cx fl, S91.m = m' ∧ S91.n = n' ∧ Cov l' [(0, .sc vt0), (1, .sc (.int .i64 t1)), (4, .sc (.fn 159 [])), (12, .sc (.int .i64 b)), (13, .sc (.int .i64 s84.2.1))] ∧ Iw Y3 S91 2 n bw m vt0 s84.2.2) (by exact ⟨S87, rfl, rfl, (Cov.cons rfl (Cov.cons rfl (Cov.cons rfl (Cov.cons rfl (Cov.cons rfl (Cov.nil _)))))), hot0⟩) ?_ ?_
      · clear h
        rintro s89 q _ _ _ ⟨S92, rfl, rfl, hc93, hot0⟩ h
        unfold F176_159_l2 at h
        refine WC.cov hc93 (WC.seq (WC.seq ?_))
        refine WC.drawN rfl rfl ?_
        have hot0z := hot0.oz
        refine WO.mv rfl (WO.mv rfl ?_)
        refine WO.bin rfl rfl (by decide) (by decide) rfl ?_
        refine WO.mv rfl ?_
        obtain ⟨y103, e104, h⟩ := bindS h
        refine WO.cutS (d := 120) (S := S92) 12 y103 (fun q102 => ?_) (fun q102 => ?_) (fun S105 c106 => ?_)
        · have h := e104
          have h := iteT q102 h
          refine WO.gyes rfl rfl (WO.mv rfl (WO.gyes rfl rfl (WO.mv rfl (WO.gyes rfl rfl (WO.mv rfl (WO.gyes rfl rfl ?_))))))
          obtain ⟨x94, e95, h⟩ := bindS h
          refine WO.ixS rfl rfl hot0.slv (at?_lt e95) rfl ?_
          refine WO.gyes rfl rfl ?_
          refine WO.ldF rfl hot0z (fun _ hi => hi.1) (at?_get e95) rfl rfl (limLe_self _) ?_
          refine WO.gyes rfl rfl (WO.mv rfl (WO.gyes rfl rfl (WO.mv rfl (WO.gyes rfl rfl ?_))))
          obtain ⟨x96, e97, h⟩ := bindS h
          refine WO.ixS rfl rfl hot0.slv (at?_lt e97) rfl ?_
          refine WO.gyes rfl rfl ?_
          refine WO.ldF rfl hot0z (fun _ hi => hi.1) (at?_get e97) rfl rfl (limLe_self _) ?_
          refine WO.gyes rfl rfl ?_
          obtain ⟨r98, e99, h⟩ := bindS h
          refine WO.callE (S := S92) rfl rfl (F159_ok e99) (fun S100 c101 => ?_)
          have hot0z := hot0z.tow c101
          have hot0 := hot0.to c101
          refine WO.gyes rfl rfl ?_
          refine WO.bin rfl rfl (by decide) (by decide) rfl ?_
          obtain rfl := someI h
          refine WO.pickT rfl rfl ?_
          refine WO.nil ?_
          exact ⟨S100, rfl, rfl, c101, (Cov.cons rfl (Cov.skip rfl (Cov.skip rfl (Cov.skip rfl (Cov.skip rfl (Cov.skip rfl (Cov.skip rfl (Cov.skip rfl (Cov.skip rfl (Cov.skip rfl (Cov.skip rfl (Cov.skip rfl (Cov.skip rfl (Cov.skip rfl (Cov.refl _)))))))))))))))⟩
        · have h := e104
          have h := iteF q102 h
          obtain rfl := someI h
          refine WO.gno rfl rfl (WO.gno rfl rfl (WO.gno rfl rfl (WO.gno rfl rfl (WO.gno rfl rfl (WO.gno rfl rfl (WO.gno rfl rfl (WO.gno rfl rfl (WO.gno rfl rfl (WO.gno rfl rfl ?_)))))))))
          refine WO.gno rfl rfl ?_
          refine WO.pickF rfl rfl ?_
          refine WO.nil ?_
          exact ⟨S92, rfl, rfl, Ch.refl _ _, (Cov.cons rfl (Cov.skip rfl (Cov.skip rfl (Cov.skip rfl (Cov.skip rfl (Cov.skip rfl (Cov.skip rfl (Cov.skip rfl (Cov.skip rfl (Cov.skip rfl (Cov.skip rfl (Cov.skip rfl (Cov.skip rfl (Cov.skip rfl (Cov.refl _)))))))))))))))⟩
        have hot0z := hot0z.tow c106
        have hot0 := hot0.to c106
        refine WO.nil (thenL_n ?_)
        refine WC.cond rfl (fun q107 => ?_) (fun q107 => ?_)
        · have h := iteT q107 h
          refine WC.skip (thenL_n (WC.block (WC.region (WO.mv rfl ?_))))
          refine WO.bin rfl rfl (by decide) (by decide) rfl ?_
          refine WO.asg rfl (WO.nil (blockL_n (thenL_n ?_)))
          obtain rfl := someI h
          exact ⟨_, rfl, ⟨S105, rfl, rfl, (Cov.cons rfl (Cov.cons rfl (Cov.cons rfl (Cov.cons rfl (Cov.cons rfl (Cov.nil _)))))), hot0⟩⟩
        · have h := iteF q107 h
          refine WC.exit (thenL_e (thenL_e ?_))
          obtain rfl := someI h
          exact ⟨_, rfl, rfl, ⟨S105, rfl, rfl, (Cov.cons rfl (Cov.cons rfl (Cov.cons rfl (Cov.cons rfl (Cov.cons rfl (Cov.nil _)))))), hot0⟩⟩
      rintro _ _ _ _ ⟨rfl, ⟨S110, rfl, rfl, hc111, hot0⟩⟩
      refine blockL_s (thenL_n (WC.cov hc111 (WC.seq (WC.block ?_))))
      obtain ⟨b131, e132, h⟩ := bindS h
      refine WC.loopD e132 (fun s112 l' m' n' => ∃ S113 : Cx fl, S113.m = m' ∧ S113.n = n' ∧ Cov l' [(0, .sc vt0), (1, .sc (.int .i64 t1)), (4, .sc (.fn 159 [])), (12, .sc (.int .i64 b108)), (13, .sc (.int .i64 s112))] ∧ Iw Y3 S113 2 n bw m vt0 s84.2.2) (fun b e l' m' n' => e = .exit 8 ∧ ∃ S114 : Cx fl, S114.m = m' ∧ S114.n = n' ∧ Cov l' [(0, .sc vt0), (1, .sc (.int .i64 t1)), (4, .sc (.fn 159 [])), (12, .sc (.int .i64 b108)), (13, .sc (.int .i64 b))] ∧ Iw Y3 S114 2 n bw m vt0 s84.2.2) (by exact ⟨S110, rfl, rfl, (Cov.cons rfl (Cov.cons rfl (Cov.cons rfl (Cov.cons rfl (Cov.cons rfl (Cov.nil _)))))), hot0⟩) ?_ ?_
      · clear h
        rintro s112 q _ _ _ ⟨S115, rfl, rfl, hc116, hot0⟩ h
        unfold F176_159_l3 at h
        refine WC.cov hc116 (WC.seq (WC.seq ?_))
        refine WC.drawN rfl rfl ?_
        have hot0z := hot0.oz
        refine WO.mv rfl (WO.mv rfl ?_)
        refine WO.bin rfl rfl (by decide) (by decide) rfl ?_
        refine WO.mv rfl ?_
        obtain ⟨y126, e127, h⟩ := bindS h
        refine WO.cutS (d := 139) (S := S115) 13 y126 (fun q125 => ?_) (fun q125 => ?_) (fun S128 c129 => ?_)
        · have h := e127
          have h := iteT q125 h
          refine WO.gyes rfl rfl (WO.mv rfl (WO.gyes rfl rfl (WO.mv rfl (WO.gyes rfl rfl (WO.mv rfl (WO.gyes rfl rfl ?_))))))
          obtain ⟨x117, e118, h⟩ := bindS h
          refine WO.ixS rfl rfl hot0.slv (at?_lt e118) rfl ?_
          refine WO.gyes rfl rfl ?_
          refine WO.ldF rfl hot0z (fun _ hi => hi.1) (at?_get e118) rfl rfl (limLe_self _) ?_
          refine WO.gyes rfl rfl (WO.mv rfl (WO.gyes rfl rfl (WO.mv rfl (WO.gyes rfl rfl ?_))))
          obtain ⟨x119, e120, h⟩ := bindS h
          refine WO.ixS rfl rfl hot0.slv (at?_lt e120) rfl ?_
          refine WO.gyes rfl rfl ?_
          refine WO.ldF rfl hot0z (fun _ hi => hi.1) (at?_get e120) rfl rfl (limLe_self _) ?_
          refine WO.gyes rfl rfl ?_
          obtain ⟨r121, e122, h⟩ := bindS h
          refine WO.callE (S := S115) rfl rfl (F159_ok e122) (fun S123 c124 => ?_)
          have hot0z := hot0z.tow c124
          have hot0 := hot0.to c124
          refine WO.gyes rfl rfl ?_
          refine WO.bin rfl rfl (by decide) (by decide) rfl ?_
          refine WO.gyes rfl rfl ?_
          refine WO.do rfl rfl ?_
          obtain rfl := someI h
          refine WO.pickT rfl rfl ?_
          refine WO.nil ?_
          exact ⟨S123, rfl, rfl, c124, (Cov.cons rfl (Cov.skip rfl (Cov.skip rfl (Cov.skip rfl (Cov.skip rfl (Cov.skip rfl (Cov.skip rfl (Cov.skip rfl (Cov.skip rfl (Cov.skip rfl (Cov.skip rfl (Cov.skip rfl (Cov.skip rfl (Cov.skip rfl (Cov.skip rfl (Cov.refl _))))))))))))))))⟩
        · have h := e127
          have h := iteF q125 h
          obtain rfl := someI h
          refine WO.gno rfl rfl (WO.gno rfl rfl (WO.gno rfl rfl (WO.gno rfl rfl (WO.gno rfl rfl (WO.gno rfl rfl (WO.gno rfl rfl (WO.gno rfl rfl (WO.gno rfl rfl (WO.gno rfl rfl ?_)))))))))
          refine WO.gno rfl rfl (WO.gno rfl rfl ?_)
          refine WO.pickF rfl rfl ?_
          refine WO.nil ?_
          exact ⟨S115, rfl, rfl, Ch.refl _ _, (Cov.cons rfl (Cov.skip rfl (Cov.skip rfl (Cov.skip rfl (Cov.skip rfl (Cov.skip rfl (Cov.skip rfl (Cov.skip rfl (Cov.skip rfl (Cov.skip rfl (Cov.skip rfl (Cov.skip rfl (Cov.skip rfl (Cov.skip rfl (Cov.skip rfl (Cov.refl _))))))))))))))))⟩
        have hot0z := hot0z.tow c129
        have hot0 := hot0.to c129
        refine WO.nil (thenL_n ?_)
        refine WC.cond rfl (fun q130 => ?_) (fun q130 => ?_)
        · have h := iteT q130 h
          refine WC.skip (thenL_n (WC.block (WC.region (WO.mv rfl ?_))))
          refine WO.bin rfl rfl (by decide) (by decide) rfl ?_
          refine WO.asg rfl (WO.nil (blockL_n (thenL_n ?_)))
          obtain rfl := someI h
          exact ⟨_, rfl, ⟨S128, rfl, rfl, (Cov.cons rfl (Cov.cons rfl (Cov.cons rfl (Cov.cons rfl (Cov.cons rfl (Cov.nil _)))))), hot0⟩⟩
        · have h := iteF q130 h
          refine WC.exit (thenL_e (thenL_e ?_))
          obtain rfl := someI h
          exact ⟨_, rfl, rfl, ⟨S128, rfl, rfl, (Cov.cons rfl (Cov.cons rfl (Cov.cons rfl (Cov.cons rfl (Cov.cons rfl (Cov.nil _)))))), hot0⟩⟩
      rintro _ _ _ _ ⟨rfl, ⟨S133, rfl, rfl, hc134, hot0⟩⟩
      refine blockL_s (thenL_n (WC.cov hc134 (WC.seq (WC.seq (WC.region (WO.mv rfl (WO.mv rfl ?_)))))))
      refine WO.bin rfl rfl (by decide) (by decide) rfl ?_
      refine WO.nil (thenL_n ?_)
      refine WC.cond rfl (fun q135 => ?_) (fun q135 => ?_)
      · have h := iteT q135 h
        refine WC.exit (thenL_e (blockL_e rfl (thenL_e ?_)))
        obtain rfl := someI h
        exact ⟨_, rfl, rfl, ⟨S133, rfl, rfl, (Cov.cons rfl (Cov.cons rfl (Cov.cons rfl (Cov.nil _)))), hot0⟩⟩
      · have h := iteF q135 h
        refine WC.skip (thenL_n (WC.seq ?_))
        refine WC.drawN rfl rfl ?_
        have hot0z := hot0.oz
        refine WO.mv rfl (WO.mv rfl (WO.mv rfl (WO.mv rfl (WO.mv rfl (WO.mv rfl ?_)))))
        obtain ⟨x136, e137, h⟩ := bindS h
        refine WO.ixS rfl rfl hot0.slv (at?_lt e137) rfl ?_
        refine WO.ldF rfl hot0z (fun _ hi => hi.1) (at?_get e137) rfl rfl (limLe_self _) ?_
        refine WO.mv rfl (WO.mv rfl ?_)
        obtain ⟨x138, e139, h⟩ := bindS h
        refine WO.ixS rfl rfl hot0.slv (at?_lt e139) rfl ?_
        refine WO.ldF rfl hot0z (fun _ hi => hi.1) (at?_get e139) rfl rfl (limLe_self _) ?_
        obtain ⟨u140, e141, h⟩ := bindS h
        refine WO.ixS rfl rfl hot0.slv (ck_some e141) rfl ?_
        refine WO.stI (u' := x136) rfl rfl hot0 (ck_nat e141) rfl rfl (fun S142 c143 hot0 => ?_)
        obtain ⟨u144, e145, h⟩ := bindS h
        refine WO.ixS rfl rfl hot0.slv (ck_some e145) rfl ?_
        refine WO.stI (u' := x138) rfl rfl hot0 (ck_nat e145) rfl rfl (fun S146 c147 hot0 => ?_)
        refine WO.nil (thenL_n (WC.seq (WC.region (WO.mv rfl ?_))))
        refine WO.bin rfl rfl (by decide) (by decide) rfl ?_
        refine WO.asg rfl (WO.nil (thenL_n (WC.region (WO.mv rfl ?_))))
        refine WO.bin rfl rfl (by decide) (by decide) rfl ?_
        refine WO.asg rfl (WO.nil (blockL_n (thenL_n ?_)))
        obtain rfl := someI h
        exact ⟨_, rfl, ⟨S146, rfl, rfl, (Cov.cons rfl (Cov.cons rfl (Cov.cons rfl (Cov.cons rfl (Cov.cons rfl (Cov.nil _)))))), hot0⟩⟩
    rintro _ _ _ _ ⟨rfl, ⟨S150, rfl, rfl, hc151, hot0⟩⟩
    refine blockL_s (thenL_n (WC.cov hc151 (WC.seq ?_)))
    refine WC.drawN rfl rfl ?_
    have hot0z := hot0.oz
    refine WO.mv rfl (WO.mv rfl (WO.mv rfl (WO.mv rfl (WO.mv rfl (WO.mv rfl ?_)))))
    obtain ⟨x152, e153, h⟩ := bindS h
    refine WO.ixS rfl rfl hot0.slv (at?_lt e153) rfl ?_
    refine WO.ldF rfl hot0z (fun _ hi => hi.1) (at?_get e153) rfl rfl (limLe_self _) ?_
    refine WO.mv rfl (WO.mv rfl ?_)
    obtain ⟨x154, e155, h⟩ := bindS h
    refine WO.ixS rfl rfl hot0.slv (at?_lt e155) rfl ?_
    refine WO.ldF rfl hot0z (fun _ hi => hi.1) (at?_get e155) rfl rfl (limLe_self _) ?_
    obtain ⟨u156, e157, h⟩ := bindS h
    refine WO.ixS rfl rfl hot0.slv (ck_some e157) rfl ?_
    refine WO.stI (u' := x152) rfl rfl hot0 (ck_nat e157) rfl rfl (fun S158 c159 hot0 => ?_)
    obtain ⟨u160, e161, h⟩ := bindS h
    refine WO.ixS rfl rfl hot0.slv (ck_some e161) rfl ?_
    refine WO.stI (u' := x154) rfl rfl hot0 (ck_nat e161) rfl rfl (fun S162 c163 hot0 => ?_)
    refine WO.nil (thenL_n (WC.seq (WC.region (WO.mv rfl (WO.asg rfl (WO.asg rfl (WO.nil (thenL_n (WC.ret ?_)))))))))
    obtain rfl := someI h
    exact ⟨.inr rfl, _, _, rfl, rfl, ⟨rfl, hot0.ip Lay.flat_fl⟩⟩
end Go.Proofs.Ytihmliblbhjlaaa

namespace Go.Proofs.Ytihmliblbhjlaaa
open Go.Am
theorem F154_159.fn : E.fn 154 = some ⟨148, (Try.f154.body.getD .skip), Try.f154.results.toList, []⟩ := rfl
theorem F154_159_ok {F : Nat} : ∀ {m : Mem} {n : Nat} {r : (List Int)} {t0 : List Int} {t1 : Int} {t2 : Int} {t3 : Int} {vt0 : SV} {fl : Nat} {bw : Nat} (h : F154_159 F t0 t1 t2 t3 = some r) (hfl : fl ≤ n) (kt0 : Iv Y3 fl n bw m vt0 t0), Ret E fl 154 [.sc vt0, .sc (.int .i64 t1), .sc (.int .i64 t2), .sc (.int .i64 t3), .sc (.fn 159 [])] m n (fun v m' n' => v = .tup [] ∧ Ip Y3 n bw m m' vt0 r) := by
  induction F with
  | zero => intro m n r t0 t1 t2 t3 vt0 fl bw h; cases h
  | succ F ih =>
    intro m n r t0 t1 t2 t3 vt0 fl bw h hfl kt0
    rw [F154_159] at h
    try dsimp only at h
    refine Ret.walk F154_159.fn ?_
    refine WC.startI (b := bw) hfl fun S0 em en hz hbw => ?_
    have hot0 := kt0.iw em en hz hbw
    refine WC.seq (WC.region (WO.asg rfl (WO.nil (thenL_n (WC.seq (WC.region (WO.asg rfl (WO.nil (thenL_n ?_)))))))))
    refine WC.block ?_
    obtain ⟨b89, e90, h⟩ := bindS h
    refine WC.loopD e90 (fun s1 l' m' n' => ∃ S2 : Cx fl, S2.m = m' ∧ S2.n = n' ∧ Cov l' [(0, .sc vt0), (1, .sc (.int .i64 s1.1)), (2, .sc (.int .i64 s1.2.1)), (3, .sc (.int .i64 s1.2.2.1)), (4, .sc (.fn 159 [])), (10, .sc (.bool s1.2.2.2.1)), (11, .sc (.bool s1.2.2.2.2.1))] ∧ Iw Y3 S2 2 n bw m vt0 s1.2.2.2.2.2) (fun b e l' m' n' => e = .ret ∧ ∃ S3 : Cx fl, S3.m = m' ∧ S3.n = n' ∧ Cov l' [(0, .sc vt0)] ∧ Iw Y3 S3 2 n bw m vt0 b) (by exact ⟨S0, rfl, rfl, (Cov.cons rfl (Cov.cons rfl (Cov.cons rfl (Cov.cons rfl (Cov.cons rfl (Cov.cons rfl (Cov.cons rfl (Cov.nil _)))))))), hot0⟩) ?_ ?_
    · clear h
      rintro s1 q _ _ _ ⟨S4, rfl, rfl, hc5, hot0⟩ h
      unfold F154_159_l0 at h
      refine WC.cov hc5 (WC.block (WC.seq (WC.region (WO.mv rfl (WO.mv rfl ?_)))))
      refine WO.bin rfl rfl (by decide) (by decide) rfl ?_
      refine WO.asg rfl (WO.nil (thenL_n (WC.seq (WC.seq (WC.region (WO.mv rfl ?_))))))
      refine WO.bin rfl rfl (by decide) (by decide) rfl ?_
      refine WO.nil (thenL_n ?_)
      refine WC.cond rfl (fun q6 => ?_) (fun q6 => ?_)
      · have h := iteT q6 h
        refine WC.seq (WC.region (WO.mv rfl (WO.mv rfl (WO.mv rfl (WO.mv rfl ?_)))))
        obtain ⟨r7, e8, h⟩ := bindS h
        refine WO.callW (S := S4) hot0 rfl rfl rfl (fun bq hI hB => F169_159_ok e8 S4.le hI) Lay.flat_fl (fun S9 c10 hot0 => ?_)
        refine WO.nil (thenL_n (WC.ret (thenL_r (blockL_r (thenL_r ?_)))))
        obtain rfl := someI h
        exact ⟨_, rfl, rfl, ⟨S9, rfl, rfl, (Cov.cons rfl (Cov.nil _)), hot0⟩⟩
      · have h := iteF q6 h
        refine WC.skip (thenL_n (WC.seq (WC.seq (WC.region (WO.mv rfl ?_)))))
        refine WO.bin rfl rfl (by decide) (by decide) rfl ?_
        refine WO.nil (thenL_n ?_)
        refine WC.cond rfl (fun q11 => ?_) (fun q11 => ?_)
        · have h := iteT q11 h
          refine WC.seq (WC.region (WO.mv rfl (WO.mv rfl (WO.mv rfl (WO.mv rfl ?_)))))
          obtain ⟨r12, e13, h⟩ := bindS h
          refine WO.callW (S := S4) hot0 rfl rfl rfl (fun bq hI hB => F170_159_ok e13 S4.le hI) Lay.flat_fl (fun S14 c15 hot0 => ?_)
          refine WO.nil (thenL_n (WC.ret (thenL_r (blockL_r (thenL_r ?_)))))
          obtain rfl := someI h
          exact ⟨_, rfl, rfl, ⟨S14, rfl, rfl, (Cov.cons rfl (Cov.nil _)), hot0⟩⟩
        · have h := iteF q11 h
          refine WC.skip (thenL_n (WC.seq (WC.seq (WC.region (WO.mv rfl ?_)))))
          refine WO.do rfl rfl ?_
          refine WO.nil (thenL_n ?_)
          obtain ⟨b21, e22, h⟩ := bindS h
          refine WC.mono (Q' := (fun b e l' m' n' => e = .normal ∧ ∃ S23 : Cx fl, S23.m = m' ∧ S23.n = n' ∧ Cov l' [(0, .sc vt0), (1, .sc (.int .i64 s1.1)), (2, .sc (.int .i64 s1.2.1)), (3, .sc (.int .i64 b.1)), (4, .sc (.fn 159 [])), (10, .sc (.bool s1.2.2.2.1)), (11, .sc (.bool s1.2.2.2.2.1)), (12, .sc (.int .i64 ((wrapA .i64 (s1.2.1 - s1.1)))))] ∧ Iw Y3 S23 2 n bw m vt0 b.2) b21) ?_ ?_
          · have h := e22
            dsimp only at h ⊢
            refine WC.cond rfl (fun q16 => ?_) (fun q16 => ?_)
            · have h := iteT q16 h
              refine WC.seq (WC.region (WO.mv rfl (WO.mv rfl (WO.mv rfl (WO.mv rfl ?_)))))
              obtain ⟨r17, e18, h⟩ := bindS h
              refine WO.callW (S := S4) hot0 rfl rfl rfl (fun bq hI hB => F171_159_ok e18 S4.le hI) Lay.flat_fl (fun S19 c20 hot0 => ?_)
              refine WO.nil (thenL_n (WC.region (WO.mv rfl ?_)))
              refine WO.bin rfl rfl (by decide) (by decide) rfl ?_
              refine WO.asg rfl (WO.nil ?_)
              obtain rfl := someI h
              exact ⟨rfl, ⟨S19, rfl, rfl, (Cov.cons rfl (Cov.cons rfl (Cov.cons rfl (Cov.cons rfl (Cov.cons rfl (Cov.cons rfl (Cov.cons rfl (Cov.cons rfl (Cov.nil _))))))))), hot0⟩⟩
            · have h := iteF q16 h
              refine WC.skip ?_
              obtain rfl := someI h
              exact ⟨rfl, ⟨S4, rfl, rfl, (Cov.cons rfl (Cov.cons rfl (Cov.cons rfl (Cov.cons rfl (Cov.cons rfl (Cov.cons rfl (Cov.cons rfl (Cov.cons rfl (Cov.nil _))))))))), hot0⟩⟩
          dsimp only
          rintro _ _ _ _ ⟨rfl, ⟨S24, rfl, rfl, hc25, hot0⟩⟩
          refine thenL_n (WC.cov hc25 (WC.seq (WC.region (WO.mv rfl (WO.mv rfl (WO.mv rfl (WO.mv rfl ?_)))))))
          obtain ⟨r26, e27, h⟩ := bindS h
          refine WO.callE (S := S24) rfl rfl (F172_159_ok e27 hot0.vw) (fun S28 c29 => ?_)
          have hot0 := hot0.to c29
          refine WO.mv rfl ?_
          refine WO.do rfl rfl ?_
          refine WO.do rfl rfl ?_
          refine WO.asg rfl (WO.asg rfl (WO.nil (thenL_n (WC.seq (WC.seq (WC.region (WO.mv rfl ?_)))))))
          refine WO.bin rfl rfl (by decide) (by decide) rfl ?_
          refine WO.nil (thenL_n ?_)
          obtain ⟨b35, e36, h⟩ := bindS h
          refine WC.mono (Q' := (fun b e l' m' n' => e = .normal ∧ ∃ S37 : Cx fl, S37.m = m' ∧ S37.n = n' ∧ Cov l' [(0, .sc vt0), (1, .sc (.int .i64 s1.1)), (2, .sc (.int .i64 s1.2.1)), (3, .sc (.int .i64 b21.1)), (4, .sc (.fn 159 [])), (10, .sc (.bool s1.2.2.2.1)), (11, .sc (.bool s1.2.2.2.2.1)), (12, .sc (.int .i64 ((wrapA .i64 (s1.2.1 - s1.1))))), (13, .sc (.int .i64 b.1)), (14, .sc (.int .i64 b.2.1))] ∧ Iw Y3 S37 2 n bw m vt0 b.2.2) b35) ?_ ?_
          · have h := e36
            dsimp only at h ⊢
            refine WC.cond rfl (fun q30 => ?_) (fun q30 => ?_)
            · have h := iteT q30 h
              refine WC.seq (WC.region (WO.mv rfl (WO.mv rfl (WO.mv rfl (WO.mv rfl ?_)))))
              obtain ⟨r31, e32, h⟩ := bindS h
              refine WO.callW (S := S28) hot0 rfl rfl rfl (fun bq hI hB => F173_159_ok e32 S28.le hI) Lay.flat_fl (fun S33 c34 hot0 => ?_)
              refine WO.nil (thenL_n (WC.seq (WC.region (WO.mv rfl ?_))))
              refine WO.bin rfl rfl (by decide) (by decide) rfl ?_
              refine WO.mv rfl (WO.mv rfl ?_)
              refine WO.bin rfl rfl (by decide) (by decide) rfl ?_
              refine WO.bin rfl rfl (by decide) (by decide) rfl ?_
              refine WO.asg rfl (WO.nil (thenL_n (WC.region (WO.asg rfl (WO.nil ?_)))))
              obtain rfl := someI h
              exact ⟨rfl, ⟨S33, rfl, rfl, (Cov.cons rfl (Cov.cons rfl (Cov.cons rfl (Cov.cons rfl (Cov.cons rfl (Cov.cons rfl (Cov.cons rfl (Cov.cons rfl (Cov.cons rfl (Cov.cons rfl (Cov.nil _))))))))))), hot0⟩⟩
            · have h := iteF q30 h
              refine WC.skip ?_
              obtain rfl := someI h
              exact ⟨rfl, ⟨S28, rfl, rfl, (Cov.cons rfl (Cov.cons rfl (Cov.cons rfl (Cov.cons rfl (Cov.cons rfl (Cov.cons rfl (Cov.cons rfl (Cov.cons rfl (Cov.cons rfl (Cov.cons rfl (Cov.nil _))))))))))), hot0⟩⟩
          dsimp only
          rintro _ _ _ _ ⟨rfl, ⟨S38, rfl, rfl, hc39, hot0⟩⟩
          refine thenL_n (WC.cov hc39 (WC.seq (WC.seq (WC.region (WO.mv rfl (WO.mv rfl ?_))))))
          refine WO.cutB (d := 71) 2 (s1.2.2.2.1 && s1.2.2.2.2.1) (fun q40 => ?_) (fun q40 => ?_) ?_
          · skip
            refine WO.gyes rfl rfl (WO.mv rfl ?_)
            refine WO.pickT rfl rfl ?_
            refine WO.nil ?_
            exact ⟨rfl, rfl, (Cov.any rfl (andT q40) (Cov.skip rfl (Cov.skip rfl (Cov.skip rfl (Cov.refl _)))))⟩
          · refine WO.gno rfl rfl ?_
            refine WO.pickF rfl rfl ?_
            refine WO.nil ?_
            exact ⟨rfl, rfl, (Cov.any rfl (andF q40) (Cov.skip rfl (Cov.skip rfl (Cov.skip rfl (Cov.refl _)))))⟩
          refine WO.mv rfl ?_
          refine WO.cutB (d := 75) 3 ((s1.2.2.2.1 && s1.2.2.2.2.1) && (b35.2.1 == 1)) (fun q41 => ?_) (fun q41 => ?_) ?_
          · skip
            refine WO.gyes rfl rfl (WO.mv rfl (WO.gyes rfl rfl ?_))
            refine WO.bin rfl rfl (by decide) (by decide) rfl ?_
            refine WO.pickT rfl rfl ?_
            refine WO.nil ?_
            exact ⟨rfl, rfl, (Cov.any rfl (andT q41) (Cov.skip rfl (Cov.skip rfl (Cov.skip rfl (Cov.skip rfl (Cov.refl _))))))⟩
          · refine WO.gno rfl rfl (WO.gno rfl rfl ?_)
            refine WO.pickF rfl rfl ?_
            refine WO.nil ?_
            exact ⟨rfl, rfl, (Cov.any rfl (andF q41) (Cov.skip rfl (Cov.skip rfl (Cov.skip rfl (Cov.skip rfl (Cov.refl _))))))⟩
          refine WO.nil (thenL_n ?_)
          obtain ⟨b48, e49, h⟩ := bindS h
          refine WC.mono (Q' := (fun b e l' m' n' => (match b with | .inl b50 => e = .normal ∧ ∃ S51 : Cx fl, S51.m = m' ∧ S51.n = n' ∧ Cov l' [(0, .sc vt0), (1, .sc (.int .i64 s1.1)), (2, .sc (.int .i64 s1.2.1)), (3, .sc (.int .i64 b21.1)), (4, .sc (.fn 159 [])), (10, .sc (.bool s1.2.2.2.1)), (11, .sc (.bool s1.2.2.2.2.1)), (12, .sc (.int .i64 ((wrapA .i64 (s1.2.1 - s1.1))))), (13, .sc (.int .i64 b35.1))] ∧ Iw Y3 S51 2 n bw m vt0 b50 | .inr b50 => e = .ret ∧ ∃ S52 : Cx fl, S52.m = m' ∧ S52.n = n' ∧ Cov l' [(0, .sc vt0)] ∧ Iw Y3 S52 2 n bw m vt0 b50)) b48) ?_ ?_
          · have h := e49
            dsimp only at h ⊢
            refine WC.cond rfl (fun q42 => ?_) (fun q42 => ?_)
            · have h := iteT q42 h
              refine WC.seq (WC.region (WO.mv rfl (WO.mv rfl (WO.mv rfl (WO.mv rfl ?_)))))
              obtain ⟨r43, e44, h⟩ := bindS h
              refine WO.callW (S := S38) hot0 rfl rfl rfl (fun bq hI hB => F174_159_ok e44 S38.le hI) Lay.flat_fl (fun S45 c46 hot0 => ?_)
              refine WO.nil (thenL_n ?_)
              refine WC.cond rfl (fun q47 => ?_) (fun q47 => ?_)
              · have h := iteT q47 h
                refine WC.ret ?_
                obtain rfl := someI h
                exact ⟨rfl, ⟨S45, rfl, rfl, (Cov.cons rfl (Cov.nil _)), hot0⟩⟩
              · have h := iteF q47 h
                refine WC.skip ?_
                obtain rfl := someI h
                exact ⟨rfl, ⟨S45, rfl, rfl, (Cov.cons rfl (Cov.cons rfl (Cov.cons rfl (Cov.cons rfl (Cov.cons rfl (Cov.cons rfl (Cov.cons rfl (Cov.cons rfl (Cov.cons rfl (Cov.nil _)))))))))), hot0⟩⟩
            · have h := iteF q42 h
              refine WC.skip ?_
              obtain rfl := someI h
              exact ⟨rfl, ⟨S38, rfl, rfl, (Cov.cons rfl (Cov.cons rfl (Cov.cons rfl (Cov.cons rfl (Cov.cons rfl (Cov.cons rfl (Cov.cons rfl (Cov.cons rfl (Cov.cons rfl (Cov.nil _)))))))))), hot0⟩⟩
          dsimp only
          cases b48 with
          | inl b53 =>
            simp only at h
            rintro _ _ _ _ ⟨rfl, ⟨S54, rfl, rfl, hc55, hot0⟩⟩
            refine thenL_n (WC.cov hc55 (WC.seq (WC.seq ?_)))
            refine WC.drawN rfl rfl ?_
            have hot0z := hot0.oz
            refine WO.mv rfl ?_
            refine WO.bin rfl rfl (by decide) (by decide) rfl ?_
            refine WO.mv rfl ?_
            obtain ⟨y65, e66, h⟩ := bindS h
            refine WO.cutS (d := 97) (S := S54) 14 y65 (fun q64 => ?_) (fun q64 => ?_) (fun S67 c68 => ?_)
            · have h := e66
              have h := iteT q64 h
              refine WO.gyes rfl rfl (WO.mv rfl (WO.gyes rfl rfl (WO.mv rfl (WO.gyes rfl rfl (WO.mv rfl (WO.gyes rfl rfl ?_))))))
              refine WO.bin rfl rfl (by decide) (by decide) rfl ?_
              refine WO.gyes rfl rfl ?_
              obtain ⟨x56, e57, h⟩ := bindS h
              refine WO.ixS rfl rfl hot0.slv (at?_lt e57) rfl ?_
              refine WO.gyes rfl rfl ?_
              refine WO.ldF rfl hot0z (fun _ hi => hi.1) (at?_get e57) rfl rfl (limLe_self _) ?_
              refine WO.gyes rfl rfl (WO.mv rfl (WO.gyes rfl rfl (WO.mv rfl (WO.gyes rfl rfl ?_))))
              obtain ⟨x58, e59, h⟩ := bindS h
              refine WO.ixS rfl rfl hot0.slv (at?_lt e59) rfl ?_
              refine WO.gyes rfl rfl ?_
              refine WO.ldF rfl hot0z (fun _ hi => hi.1) (at?_get e59) rfl rfl (limLe_self _) ?_
              refine WO.gyes rfl rfl ?_
              obtain ⟨r60, e61, h⟩ := bindS h
              refine WO.callE (S := S54) rfl rfl (F159_ok e61) (fun S62 c63 => ?_)
              have hot0z := hot0z.tow c63
              have hot0 := hot0.to c63
              refine WO.gyes rfl rfl ?_
              refine WO.bin rfl rfl (by decide) (by decide) rfl ?_
              refine WO.gyes rfl rfl ?_
              refine WO.do rfl rfl ?_
              obtain rfl := someI h
              refine WO.pickT rfl rfl ?_
              refine WO.nil ?_
              exact ⟨S62, rfl, rfl, c63, (Cov.cons rfl (Cov.skip rfl (Cov.skip rfl (Cov.skip rfl (Cov.skip rfl (Cov.skip rfl (Cov.skip rfl (Cov.skip rfl (Cov.skip rfl (Cov.skip rfl (Cov.skip rfl (Cov.skip rfl (Cov.skip rfl (Cov.skip rfl (Cov.skip rfl (Cov.skip rfl (Cov.refl _)))))))))))))))))⟩
            · have h := e66
              have h := iteF q64 h
              obtain rfl := someI h
              refine WO.gno rfl rfl (WO.gno rfl rfl (WO.gno rfl rfl (WO.gno rfl rfl (WO.gno rfl rfl (WO.gno rfl rfl (WO.gno rfl rfl (WO.gno rfl rfl (WO.gno rfl rfl (WO.gno rfl rfl ?_)))))))))
              refine WO.gno rfl rfl (WO.gno rfl rfl (WO.gno rfl rfl ?_))
              refine WO.pickF rfl rfl ?_
              refine WO.nil ?_
              exact ⟨S54, rfl, rfl, Ch.refl _ _, (Cov.cons rfl (Cov.skip rfl (Cov.skip rfl (Cov.skip rfl (Cov.skip rfl (Cov.skip rfl (Cov.skip rfl (Cov.skip rfl (Cov.skip rfl (Cov.skip rfl (Cov.skip rfl (Cov.skip rfl (Cov.skip rfl (Cov.skip rfl (Cov.skip rfl (Cov.skip rfl (Cov.refl _)))))))))))))))))⟩
            have hot0z := hot0z.tow c68
            have hot0 := hot0.to c68
            refine WO.nil (thenL_n ?_)
            refine WC.cond rfl (fun q69 => ?_) (fun q69 => ?_)
            · have h := iteT q69 h
              refine WC.seq (WC.region (WO.mv rfl (WO.mv rfl (WO.mv rfl (WO.mv rfl (WO.mv rfl ?_))))))
              obtain ⟨r70, e71, h⟩ := bindS h
              refine WO.callW (S := S67) hot0 rfl rfl rfl (fun bq hI hB => F175_159_ok e71 S67.le hI) Lay.flat_fl (fun S72 c73 hot0 => ?_)
              refine WO.asg rfl (WO.nil (thenL_n (WC.seq (WC.region (WO.mv rfl (WO.asg rfl (WO.nil (thenL_n (WC.exit ?_)))))))))
              refine thenL_e (blockL_s (thenL_n ?_))
              obtain rfl := someI h
              exact ⟨_, rfl, ⟨S72, rfl, rfl, (Cov.cons rfl (Cov.cons rfl (Cov.cons rfl (Cov.cons rfl (Cov.cons rfl (Cov.cons rfl (Cov.cons rfl (Cov.nil _)))))))), hot0⟩⟩
            · have h := iteF q69 h
              refine WC.skip (thenL_n (WC.seq (WC.region (WO.mv rfl (WO.mv rfl (WO.mv rfl (WO.mv rfl (WO.mv rfl ?_))))))))
              obtain ⟨r74, e75, h⟩ := bindS h
              refine WO.callW (S := S67) hot0 rfl rfl rfl (fun bq hI hB => F176_159_ok e75 S67.le hI) Lay.flat_fl (fun S76 c77 hot0 => ?_)
              refine WO.mv rfl ?_
              refine WO.do rfl rfl ?_
              refine WO.do rfl rfl ?_
              refine WO.asg rfl (WO.asg rfl (WO.nil (thenL_n (WC.seq (WC.region (WO.mv rfl (WO.asg rfl (WO.nil (thenL_n ?_)))))))))
              refine WC.seq (WC.region (WO.mv rfl (WO.mv rfl ?_)))
              refine WO.bin rfl rfl (by decide) (by decide) rfl ?_
              refine WO.mv rfl (WO.mv rfl ?_)
              refine WO.bin rfl rfl (by decide) (by decide) rfl ?_
              refine WO.asg rfl (WO.asg rfl (WO.nil (thenL_n (WC.seq (WC.region (WO.mv rfl ?_))))))
              refine WO.bin rfl rfl (by decide) (by decide) rfl ?_
              refine WO.asg rfl (WO.nil (thenL_n (WC.seq (WC.region (WO.mv rfl (WO.mv rfl ?_))))))
              refine WO.bin rfl rfl (by decide) (by decide) rfl ?_
              refine WO.nil (thenL_n ?_)
              refine WC.cond rfl (fun q78 => ?_) (fun q78 => ?_)
              · have h := iteT q78 h
                refine WC.seq (WC.region (WO.mv rfl (WO.mv rfl ?_)))
                refine WO.bin rfl rfl (by decide) (by decide) rfl ?_
                refine WO.asg rfl (WO.nil (thenL_n (WC.seq (WC.region (WO.mv rfl (WO.mv rfl (WO.mv rfl (WO.mv rfl (WO.mv rfl ?_)))))))))
                obtain ⟨r79, e80, h⟩ := bindS h
                refine WO.callW (S := S76) hot0 rfl rfl rfl (fun bq hI hB => ih e80 S76.le hI) Lay.flat_fl (fun S81 c82 hot0 => ?_)
                refine WO.nil (thenL_n (WC.region (WO.mv rfl ?_)))
                refine WO.bin rfl rfl (by decide) (by decide) rfl ?_
                refine WO.asg rfl (WO.nil (blockL_n (thenL_n ?_)))
                obtain rfl := someI h
                exact ⟨_, rfl, ⟨S81, rfl, rfl, (Cov.cons rfl (Cov.cons rfl (Cov.cons rfl (Cov.cons rfl (Cov.cons rfl (Cov.cons rfl (Cov.cons rfl (Cov.nil _)))))))), hot0⟩⟩
              · have h := iteF q78 h
                refine WC.seq (WC.region (WO.mv rfl (WO.mv rfl ?_)))
                refine WO.bin rfl rfl (by decide) (by decide) rfl ?_
                refine WO.asg rfl (WO.nil (thenL_n (WC.seq (WC.region (WO.mv rfl (WO.mv rfl ?_))))))
                refine WO.bin rfl rfl (by decide) (by decide) rfl ?_
                refine WO.mv rfl (WO.mv rfl (WO.mv rfl ?_))
                obtain ⟨r83, e84, h⟩ := bindS h
                refine WO.callW (S := S76) hot0 rfl rfl rfl (fun bq hI hB => ih e84 S76.le hI) Lay.flat_fl (fun S85 c86 hot0 => ?_)
                refine WO.nil (thenL_n (WC.region (WO.mv rfl (WO.asg rfl (WO.nil (blockL_n (thenL_n ?_)))))))
                obtain rfl := someI h
                exact ⟨_, rfl, ⟨S85, rfl, rfl, (Cov.cons rfl (Cov.cons rfl (Cov.cons rfl (Cov.cons rfl (Cov.cons rfl (Cov.cons rfl (Cov.cons rfl (Cov.nil _)))))))), hot0⟩⟩
          | inr b53 =>
            simp only at h
            rintro _ _ _ _ ⟨rfl, ⟨S87, rfl, rfl, hc88, hot0⟩⟩
            refine thenL_r (blockL_r (thenL_r ?_))
            obtain rfl := someI h
            exact ⟨_, rfl, rfl, ⟨S87, rfl, rfl, (Cov.trans hc88 (Cov.cons rfl (Cov.nil _))), hot0⟩⟩
    rintro _ _ _ _ ⟨rfl, ⟨S91, rfl, rfl, hc92, hot0⟩⟩
    refine blockL_r ?_
    obtain rfl := someI h
    exact ⟨.inr rfl, _, _, (resK_cov hc92 rfl), rfl, ⟨rfl, hot0.ip Lay.flat_fl⟩⟩
end Go.Proofs.Ytihmliblbhjlaaa

namespace Go.Proofs.Ytihmliblbhjlaaa
open Go.Am
theorem F110_159.fn : E.fn 110 = some ⟨14, (Try.f110.body.getD .skip), Try.f110.results.toList, []⟩ := rfl
theorem F110_159_ok {F : Nat} {m : Mem} {n : Nat} {r : (List Int)} {t0 : List Int} {vt0 : SV} {fl : Nat} {bw : Nat} (h : F110_159 F t0 = some r) (hfl : fl ≤ n) (kt0 : Iv Y3 fl n bw m vt0 t0) : Ret E fl 110 [.sc vt0, .sc (.fn 159 [])] m n (fun v m' n' => v = .tup [] ∧ Ip Y3 n bw m m' vt0 r) := by
  unfold F110_159 at h
  refine Ret.walk F110_159.fn ?_
  refine WC.startI (b := bw) hfl fun S0 em en hz hbw => ?_
  have hot0 := kt0.iw em en hz hbw
  refine WC.seq (WC.region (WO.mv rfl ?_))
  refine WO.lenS rfl hot0.slv rfl ?_
  refine WO.asg rfl (WO.nil (thenL_n (WC.region (WO.mv rfl (WO.mv rfl (WO.mv rfl ?_))))))
  refine WO.conv rfl rfl rfl rfl ?_
  obtain ⟨r1, e2, h⟩ := bindS h
  refine WO.callE (S := S0) rfl rfl (F155_ok e2) (fun S3 c4 => ?_)
  have hot0 := hot0.to c4
  refine WO.mv rfl ?_
  obtain ⟨r5, e6, h⟩ := bindS h
  refine WO.callW (S := S3) hot0 rfl rfl rfl (fun bq hI hB => F154_159_ok e6 S3.le hI) Lay.flat_fl (fun S7 c8 hot0 => ?_)
  refine WO.nil ?_
  obtain rfl := someI h
  exact ⟨.inl rfl, _, _, rfl, rfl, ⟨rfl, hot0.ip Lay.flat_fl⟩⟩
end Go.Proofs.Ytihmliblbhjlaaa

namespace Go.Proofs.Ytihmliblbhjlaaa
open Go.Am
theorem F122.fn : E.fn 122 = some ⟨43, (Try.f122.body.getD .skip), Try.f122.results.toList, []⟩ := rfl
theorem F122_ok {F : Nat} {m : Mem} {n : Nat} {r : (List Int) × Int} {t0 : List Int} {vt0 : SV} (h : F122 F t0 = some r) (kt0 : Vw Y3 n m vt0 t0) : Ret E n 122 [.sc vt0] m n (fun v m' n' => ∃ w, v = .tup [.sc w, .sc (.int .i64 r.2)] ∧ Fr Y3 n m' n' w r.1) := by
  unfold F122 at h
  refine Ret.walk F122.fn ?_
  refine WC.start fun S0 em en hz => ?_
  have hot0 := kt0.rdS em hz
  refine WC.seq (WC.region (WO.asg rfl (WO.asg rfl (WO.nil (thenL_n (WC.seq (WC.seq (WC.region (WO.mv rfl ?_)))))))))
  obtain ⟨r1, e2, h⟩ := bindS h
  refine WO.callE (S := S0) rfl rfl (F101_ok e2 hot0.vw) (fun S3 c4 => ?_)
  have hot0 := hot0.to c4
  refine WO.asg rfl (WO.nil (thenL_n (WC.seq (WC.region (WO.mv rfl ?_)))))
  refine WO.bin rfl rfl (by decide) (by decide) rfl ?_
  refine WO.nil (thenL_n ?_)
  refine WC.cond rfl (fun q5 => ?_) (fun q5 => ?_)
  · have h := iteT q5 h
    refine WC.seq (WC.region (WO.mv rfl (WO.asg rfl (WO.asg rfl (WO.nil (thenL_n (WC.ret (thenL_r ?_))))))))
    obtain rfl := someI h
    exact ⟨.inr rfl, _, _, rfl, rfl, ⟨.nils, rfl, Fr.nil⟩⟩
  · have h := iteF q5 h
    refine WC.skip (thenL_n (WC.seq (WC.region ?_)))
    refine WO.alS (A := Y130) (S := S3) (z0 := (List.replicate 10 false)) 2 rfl ⟨rfl, rfl⟩ rfl (fun v6 S7 c8 ho9 => ?_)
    have hot0 := hot0.to c8
    refine WO.nil (thenL_n (WC.seq (WC.region (WO.asg rfl (WO.nil (thenL_n (WC.seq (WC.seq (WC.region ?_)))))))))
    refine WO.mv rfl ?_
    refine WO.lenS rfl hot0.slv rfl ?_
    refine WO.mv rfl (WO.nil (thenL_n (WC.block ?_)))
    obtain ⟨b49, e50, h⟩ := bindS h
    refine WC.loopD e50 (fun s10 l' m' n' => ∃ S12 : Cx n, ∃ v13 : SV, S12.m = m' ∧ S12.n = n' ∧ Cov l' [(0, .sc vt0), (5, .sc v6), (6, .sc v13), (16, .sc (.int .i64 ((t0.length : Int)))), (17, .sc (.int .i64 s10.2.1))] ∧ Rd Y3 S12 vt0 t0 ∧ Bk Y130 S12 2 v6 s10.2.2 ∧ Ow Y3 S12 3 v13 s10.1) (fun b e l' m' n' => e = .exit 0 ∧ ∃ S14 : Cx n, ∃ v15 : SV, S14.m = m' ∧ S14.n = n' ∧ Cov l' [(6, .sc v15)] ∧ Ow Y3 S14 3 v15 b) (by exact ⟨S7, .nils, rfl, rfl, (Cov.cons rfl (Cov.cons rfl (Cov.cons rfl (Cov.cons rfl (Cov.cons rfl (Cov.nil _)))))), hot0, ho9, Ow.nil⟩) ?_ ?_
    · clear h
      rintro s10 q _ _ _ ⟨S16, v17, rfl, rfl, hc18, hot0, ho9, ho6⟩ h
      unfold F122_l1 at h
      refine WC.cov hc18 (WC.seq (WC.region ?_))
      refine WO.bin rfl rfl (by decide) (by decide) rfl ?_
      refine WO.nil (thenL_n (WC.seq ?_))
      refine WC.cond rfl (fun q19 => ?_) (fun q19 => ?_)
      · have h := iteT q19 h
        refine WC.skip (thenL_n (WC.seq (WC.block (WC.seq (WC.region (WO.mv rfl (WO.asg rfl (WO.nil (thenL_n ?_)))))))))
        refine WC.seq (WC.region (WO.asg rfl (WO.nil (thenL_n (WC.seq (WC.seq (WC.region (WO.mv rfl (WO.asg rfl ?_)))))))))
        refine WO.nil (thenL_n (WC.block ?_))
        obtain ⟨b34, e35, h⟩ := bindS h
        refine WC.loopD e35 (fun s20 l' m' n' => ∃ S21 : Cx n, S21.m = m' ∧ S21.n = n' ∧ Cov l' [(0, .sc vt0), (5, .sc v6), (6, .sc v17), (8, .sc (.int .i64 s20.1)), (9, .sc (.int .i64 s20.2.1)), (16, .sc (.int .i64 ((t0.length : Int)))), (17, .sc (.int .i64 s10.2.1))] ∧ Rd Y3 S21 vt0 t0 ∧ Bk Y130 S21 2 v6 s20.2.2 ∧ Ow Y3 S21 3 v17 s10.1) (fun b e l' m' n' => e = .exit 2 ∧ ∃ S22 : Cx n, S22.m = m' ∧ S22.n = n' ∧ Cov l' [(0, .sc vt0), (5, .sc v6), (6, .sc v17), (8, .sc (.int .i64 b.1)), (16, .sc (.int .i64 ((t0.length : Int)))), (17, .sc (.int .i64 s10.2.1))] ∧ Rd Y3 S22 vt0 t0 ∧ Bk Y130 S22 2 v6 b.2 ∧ Ow Y3 S22 3 v17 s10.1) (by exact ⟨S16, rfl, rfl, (Cov.cons rfl (Cov.cons rfl (Cov.cons rfl (Cov.cons rfl (Cov.cons rfl (Cov.cons rfl (Cov.cons rfl (Cov.nil _)))))))), hot0, ho9, ho6⟩) ?_ ?_
        · clear h
          rintro s20 q _ _ _ ⟨S23, rfl, rfl, hc24, hot0, ho9, ho6⟩ h
          unfold F122_l0 at h
          refine WC.cov hc24 (WC.seq (WC.seq (WC.region (WO.mv rfl ?_))))
          obtain ⟨x25, e26, h⟩ := bindS h
          refine WO.ixR rfl ho9 rfl (at?_lt e26) rfl ?_
          refine WO.ldR rfl rfl ho9 (at?_get e26) rfl rfl ?_
          refine WO.do rfl rfl ?_
          refine WO.nil (thenL_n ?_)
          refine WC.cond rfl (fun q27 => ?_) (fun q27 => ?_)
          · have h := iteT q27 h
            refine WC.skip (thenL_n (WC.seq (WC.block (WC.seq (WC.region (WO.mv rfl ?_))))))
            obtain ⟨u28, e29, h⟩ := bindS h
            refine WO.ixR rfl ho9 rfl (ck_some e29) rfl ?_
            refine WO.stR rfl rfl rfl ho9 (ck_nat e29) rfl rfl (fun S30 c31 ho9 => ?_)
            have hot0 := hot0.to c31
            have ho6 := ho6.to c31
            refine WO.nil (thenL_n (WC.region (WO.mv rfl ?_)))
            refine WO.bin rfl rfl (by decide) (by decide) rfl ?_
            refine WO.asg rfl (WO.nil (blockL_n (thenL_n (WC.region (WO.mv rfl (WO.mv rfl ?_))))))
            obtain ⟨x32, e33, h⟩ := bindS h
            refine WO.ixS rfl rfl hot0.slv (at?_lt e33) rfl ?_
            refine WO.ldF rfl hot0.ro (fun _ hi => hi) (at?_get e33) rfl rfl rfl ?_
            refine WO.asg rfl (WO.nil (thenL_n ?_))
            obtain rfl := someI h
            exact ⟨_, rfl, ⟨S30, rfl, rfl, (Cov.cons rfl (Cov.cons rfl (Cov.cons rfl (Cov.cons rfl (Cov.cons rfl (Cov.cons rfl (Cov.cons rfl (Cov.nil _)))))))), hot0, ho9, ho6⟩⟩
          · have h := iteF q27 h
            refine WC.exit (thenL_e (thenL_e ?_))
            obtain rfl := someI h
            exact ⟨_, rfl, rfl, ⟨S23, rfl, rfl, (Cov.cons rfl (Cov.cons rfl (Cov.cons rfl (Cov.cons rfl (Cov.cons rfl (Cov.cons rfl (Cov.nil _))))))), hot0, ho9, ho6⟩⟩
        rintro _ _ _ _ ⟨rfl, ⟨S36, rfl, rfl, hc37, hot0, ho9, ho6⟩⟩
        refine blockL_s (thenL_n (WC.cov hc37 (WC.seq (WC.region (WO.mv rfl ?_)))))
        refine WO.bin rfl rfl (by decide) (by decide) rfl ?_
        refine WO.nil (thenL_n ?_)
        refine WC.cond rfl (fun q38 => ?_) (fun q38 => ?_)
        · have h := iteT q38 h
          refine WC.region (WO.mv rfl (WO.mv rfl ?_))
          refine WO.bsS (A := Y3) (S := S36) (M := [b34.1]) (cs := [.int .i64 b34.1]) 4 rfl rfl rfl ⟨[.int .i64 b34.1], _, rfl, rfl, rfl⟩ rfl (fun v39 S40 c41 ho42 => ?_)
          have hot0 := hot0.to c41
          have ho9 := ho9.to c41
          have ho6 := ho6.to c41
          obtain ⟨L43, e44, h⟩ := bindS h
          refine WO.appS rfl rfl ho6 ho42.ro e44 rfl rfl (fun v45 S46 c47 ho48 => ?_)
          have hot0 := hot0.to c47
          have ho9 := ho9.to c47
          have ho42 := ho42.to c47
          refine WO.asg rfl (WO.nil (blockL_n (thenL_n (WC.region ?_))))
          refine WO.bin rfl rfl (by decide) (by decide) rfl ?_
          refine WO.mv rfl (WO.nil (thenL_n ?_))
          obtain rfl := someI h
          exact ⟨_, rfl, ⟨S46, v45, rfl, rfl, (Cov.cons rfl (Cov.cons rfl (Cov.cons rfl (Cov.cons rfl (Cov.cons rfl (Cov.nil _)))))), hot0, ho9, ho48⟩⟩
        · have h := iteF q38 h
          refine WC.skip (blockL_n (thenL_n (WC.region ?_)))
          refine WO.bin rfl rfl (by decide) (by decide) rfl ?_
          refine WO.mv rfl (WO.nil (thenL_n ?_))
          obtain rfl := someI h
          exact ⟨_, rfl, ⟨S36, v17, rfl, rfl, (Cov.cons rfl (Cov.cons rfl (Cov.cons rfl (Cov.cons rfl (Cov.cons rfl (Cov.nil _)))))), hot0, ho9, ho6⟩⟩
      · have h := iteF q19 h
        refine WC.exit (thenL_e (thenL_e ?_))
        obtain rfl := someI h
        exact ⟨_, rfl, rfl, ⟨S16, v17, rfl, rfl, (Cov.cons rfl (Cov.nil _)), ho6⟩⟩
    rintro _ _ _ _ ⟨rfl, ⟨S51, v52, rfl, rfl, hc53, ho6⟩⟩
    refine blockL_s (thenL_n (WC.cov hc53 (WC.seq (WC.region (WO.mv rfl ?_)))))
    obtain ⟨r54, e55, h⟩ := bindS h
    refine WO.callI (S := S51) ho6 rfl rfl (fun bq hI hB => F110_159_ok e55 S51.le hI) Lay.flat_fl (fun S56 c57 ho6 => ?_)
    refine WO.nil (thenL_n (WC.seq (WC.region (WO.mv rfl (WO.asg rfl (WO.asg rfl (WO.nil (thenL_n (WC.ret ?_)))))))))
    obtain rfl := someI h
    exact ⟨.inr rfl, _, _, rfl, rfl, ⟨v52, rfl, (ho6.fr Lay.flat_fl)⟩⟩
end Go.Proofs.Ytihmliblbhjlaaa

namespace Go.Proofs.Ytihmliblbhjlaaa
open Go.Am
theorem F137.fn : E.fn 137 = some ⟨40, (Try.f137.body.getD .skip), Try.f137.results.toList, []⟩ := rfl
theorem F137_ok {F : Nat} {m : Mem} {n : Nat} {r : Int × Int} {t0 : List Int} {vt0 : SV} (h : F137 F t0 = some r) (kt0 : Vw Y3 n m vt0 t0) : Ret E n 137 [.sc vt0] m n (fun v m' n' => v = .tup [.sc (.int .i64 r.1), .sc (.int .i64 r.2)]) := by
  unfold F137 at h
  refine Ret.walk F137.fn ?_
  refine WC.start fun S0 em en hz => ?_
  have hot0 := kt0.rdS em hz
  refine WC.seq (WC.region (WO.asg rfl (WO.asg rfl (WO.nil (thenL_n (WC.seq (WC.region (WO.mv rfl ?_))))))))
  obtain ⟨r1, e2, h⟩ := bindS h
  refine WO.callF (S := S0) 2 rfl rfl (F122_ok e2 hot0.vw) Lay.flat_fl (fun v3 S5 c6 ho4 => ?_)
  have hot0 := hot0.to c6
  refine WO.mv rfl ?_
  refine WO.do rfl rfl ?_
  refine WO.do rfl rfl ?_
  refine WO.asg rfl (WO.asg rfl (WO.nil (thenL_n (WC.seq (WC.seq (WC.region (WO.mv rfl ?_)))))))
  refine WO.bin rfl rfl (by decide) (by decide) rfl ?_
  refine WO.nil (thenL_n ?_)
  refine WC.cond rfl (fun q7 => ?_) (fun q7 => ?_)
  · have h := iteT q7 h
    refine WC.seq (WC.region (WO.mv rfl (WO.asg rfl (WO.asg rfl (WO.nil (thenL_n (WC.ret (thenL_r ?_))))))))
    obtain rfl := someI h
    exact ⟨.inr rfl, _, _, rfl, rfl, rfl⟩
  · have h := iteF q7 h
    refine WC.skip (thenL_n (WC.seq (WC.region (WO.asg rfl (WO.nil (thenL_n (WC.seq (WC.seq (WC.region ?_)))))))))
    refine WO.mv rfl ?_
    refine WO.lenS rfl ho4.slv rfl ?_
    refine WO.mv rfl (WO.nil (thenL_n (WC.block ?_)))
    obtain ⟨b30, e31, h⟩ := bindS h
    refine WC.loopD e31 (fun s8 l' m' n' => ∃ S9 : Cx n, S9.m = m' ∧ S9.n = n' ∧ Cov l' [(6, .sc (.int .i64 s8.1)), (19, .sc v3), (20, .sc (.int .i64 ((r1.1.length : Int)))), (21, .sc (.int .i64 s8.2))] ∧ Ow Y3 S9 2 v3 r1.1) (fun b e l' m' n' => e = .exit 0 ∧ ∃ S10 : Cx n, S10.m = m' ∧ S10.n = n' ∧ Cov l' [(6, .sc (.int .i64 b))]) (by exact ⟨S5, rfl, rfl, (Cov.cons rfl (Cov.cons rfl (Cov.cons rfl (Cov.cons rfl (Cov.nil _))))), ho4⟩) ?_ ?_
    · clear h
      rintro s8 q _ _ _ ⟨S11, rfl, rfl, hc12, ho4⟩ h
      unfold F137_l1 at h
      refine WC.cov hc12 (WC.seq (WC.region ?_))
      refine WO.bin rfl rfl (by decide) (by decide) rfl ?_
      refine WO.nil (thenL_n (WC.seq ?_))
      refine WC.cond rfl (fun q13 => ?_) (fun q13 => ?_)
      · have h := iteT q13 h
        refine WC.skip (thenL_n (WC.seq (WC.block (WC.seq (WC.region ?_)))))
        obtain ⟨x14, e15, h⟩ := bindS h
        refine WO.ixS rfl rfl ho4.slv (at?_lt e15) rfl ?_
        refine WO.ldF rfl ho4.ro (fun _ hi => hi) (at?_get e15) rfl rfl rfl ?_
        refine WO.asg rfl (WO.nil (thenL_n (WC.seq (WC.region (WO.mv rfl (WO.mv rfl (WO.asg rfl (WO.asg rfl (WO.nil ?_)))))))))
        refine thenL_n (WC.seq (WC.block ?_))
        obtain ⟨b24, e25, h⟩ := bindS h
        refine WC.loopD e25 (fun s16 l' m' n' => ∃ S17 : Cx n, S17.m = m' ∧ S17.n = n' ∧ Cov l' [(6, .sc (.int .i64 s8.1)), (8, .sc (.int .i64 x14)), (9, .sc (.int .i64 s16.1)), (10, .sc (.int .i64 s16.2)), (19, .sc v3), (20, .sc (.int .i64 ((r1.1.length : Int)))), (21, .sc (.int .i64 s8.2))] ∧ Ow Y3 S17 2 v3 r1.1) (fun b e l' m' n' => e = .exit 2 ∧ ∃ S18 : Cx n, S18.m = m' ∧ S18.n = n' ∧ Cov l' [(6, .sc (.int .i64 s8.1)), (8, .sc (.int .i64 x14)), (9, .sc (.int .i64 b)), (19, .sc v3), (20, .sc (.int .i64 ((r1.1.length : Int)))), (21, .sc (.int .i64 s8.2))] ∧ Ow Y3 S18 2 v3 r1.1) (by exact ⟨S11, rfl, rfl, (Cov.cons rfl (Cov.cons rfl (Cov.cons rfl (Cov.cons rfl (Cov.cons rfl (Cov.cons rfl (Cov.cons rfl (Cov.nil _)))))))), ho4⟩) ?_ ?_
        · clear h
          rintro s16 q _ _ _ ⟨S19, rfl, rfl, hc20, ho4⟩ h
          unfold F137_l0 at h
          refine WC.cov hc20 (WC.seq (WC.seq (WC.region (WO.mv rfl ?_))))
          refine WO.bin rfl rfl (by decide) (by decide) rfl ?_
          refine WO.nil (thenL_n ?_)
          refine WC.cond rfl (fun q21 => ?_) (fun q21 => ?_)
          · have h := iteT q21 h
            refine WC.skip (thenL_n (WC.block ?_))
            refine WC.drawP rfl rfl ?_
            refine WO.mv rfl (WO.mv rfl (WO.mv rfl ?_))
            obtain ⟨x22, e23, h⟩ := bindS h
            refine WO.remD rfl rfl e23 ?_
            refine WO.asg rfl (WO.asg rfl (WO.nil (blockL_n (thenL_n ?_))))
            obtain rfl := someI h
            exact ⟨_, rfl, ⟨S19, rfl, rfl, (Cov.cons rfl (Cov.cons rfl (Cov.cons rfl (Cov.cons rfl (Cov.cons rfl (Cov.cons rfl (Cov.cons rfl (Cov.nil _)))))))), ho4⟩⟩
          · have h := iteF q21 h
            refine WC.exit (thenL_e (thenL_e ?_))
            obtain rfl := someI h
            exact ⟨_, rfl, rfl, ⟨S19, rfl, rfl, (Cov.cons rfl (Cov.cons rfl (Cov.cons rfl (Cov.cons rfl (Cov.cons rfl (Cov.cons rfl (Cov.nil _))))))), ho4⟩⟩
        rintro _ _ _ _ ⟨rfl, ⟨S26, rfl, rfl, hc27, ho4⟩⟩
        refine blockL_s (thenL_n (WC.cov hc27 (WC.region (WO.mv rfl (WO.mv rfl ?_)))))
        obtain ⟨x28, e29, h⟩ := bindS h
        refine WO.quoD rfl rfl e29 ?_
        refine WO.mv rfl ?_
        refine WO.bin rfl rfl (by decide) (by decide) rfl ?_
        refine WO.asg rfl (WO.nil (blockL_n (thenL_n (WC.region ?_))))
        refine WO.bin rfl rfl (by decide) (by decide) rfl ?_
        refine WO.mv rfl (WO.nil (thenL_n ?_))
        obtain rfl := someI h
        exact ⟨_, rfl, ⟨S26, rfl, rfl, (Cov.cons rfl (Cov.cons rfl (Cov.cons rfl (Cov.cons rfl (Cov.nil _))))), ho4⟩⟩
      · have h := iteF q13 h
        refine WC.exit (thenL_e (thenL_e ?_))
        obtain rfl := someI h
        exact ⟨_, rfl, rfl, ⟨S11, rfl, rfl, (Cov.cons rfl (Cov.nil _))⟩⟩
    rintro _ _ _ _ ⟨rfl, ⟨S32, rfl, rfl, hc33⟩⟩
    refine blockL_s (thenL_n (WC.cov hc33 (WC.seq (WC.region (WO.mv rfl (WO.asg rfl (WO.asg rfl (WO.nil (thenL_n ?_)))))))))
    refine WC.ret ?_
    obtain rfl := someI h
    exact ⟨.inr rfl, _, _, rfl, rfl, rfl⟩
end Go.Proofs.Ytihmliblbhjlaaa

namespace Go.Proofs.Ytihmliblbhjlaaa
open Go.Am
theorem F196.fn : E.fn 196 = some ⟨27, (Try.f196.body.getD .skip), Try.f196.results.toList, []⟩ := rfl
theorem F196_ok {F : Nat} {m : Mem} {n : Nat} {r : Int} {t0 : Int × Int} (h : F196 F t0 = some r)  : Ret E n 196 [.agg [.int .i64 t0.1, .int .i64 t0.2]] m n (fun v m' n' => v = .sc (.int .i64 r)) := by
  unfold F196 at h
  refine Ret.walk F196.fn ?_
  refine WC.start fun S0 em en hz => ?_
  refine WC.seq (WC.region ?_)
  refine WO.bxS (A := Y26) (S := S0) (u := (t0.1, t0.2)) 2 rfl rfl rfl rfl (fun v1 S2 c3 ho4 => ?_)
  refine WO.asg rfl (WO.nil (thenL_n (WC.seq (WC.seq (WC.region ?_)))))
  refine WO.fldS (j := 0) (q := 0) rfl ho4.at0 ho4.ptr rfl rfl rfl (by decide) ?_
  refine WO.ldB (j := 0) (q := 1) rfl rfl ho4 rfl rfl rfl ?_
  refine WO.bin rfl rfl (by decide) (by decide) rfl ?_
  refine WO.mv rfl ?_
  refine WO.cutB (d := 10) 4 ((decide (((t0.1, t0.2)).2 < 1)) || (decide (((t0.1, t0.2)).2 > 1000000000))) (fun q5 => ?_) (fun q5 => ?_) ?_
  · refine WO.gno rfl rfl (WO.gno rfl rfl (WO.gno rfl rfl ?_))
    refine WO.pickT rfl rfl ?_
    refine WO.nil ?_
    exact ⟨rfl, rfl, (Cov.any rfl (orT q5) (Cov.skip rfl (Cov.skip rfl (Cov.skip rfl (Cov.skip rfl (Cov.skip rfl (Cov.refl _)))))))⟩
  · skip
    refine WO.gyes rfl rfl ?_
    refine WO.fldS (j := 0) (q := 0) rfl ho4.at0 ho4.ptr rfl rfl rfl (by decide) ?_
    refine WO.gyes rfl rfl ?_
    refine WO.ldB (j := 0) (q := 1) rfl rfl ho4 rfl rfl rfl ?_
    refine WO.gyes rfl rfl ?_
    refine WO.bin rfl rfl (by decide) (by decide) rfl ?_
    refine WO.pickF rfl rfl ?_
    refine WO.nil ?_
    exact ⟨rfl, rfl, (Cov.any rfl (orF q5) (Cov.skip rfl (Cov.skip rfl (Cov.skip rfl (Cov.skip rfl (Cov.skip rfl (Cov.refl _)))))))⟩
  refine WO.mv rfl ?_
  refine WO.cutB (d := 15) 4 (((decide (((t0.1, t0.2)).2 < 1)) || (decide (((t0.1, t0.2)).2 > 1000000000))) || (decide (((t0.1, t0.2)).1 < (-1000000000)))) (fun q6 => ?_) (fun q6 => ?_) ?_
  · refine WO.gno rfl rfl (WO.gno rfl rfl (WO.gno rfl rfl ?_))
    refine WO.pickT rfl rfl ?_
    refine WO.nil ?_
    exact ⟨rfl, rfl, (Cov.any rfl (orT q6) (Cov.skip rfl (Cov.skip rfl (Cov.skip rfl (Cov.skip rfl (Cov.skip rfl (Cov.refl _)))))))⟩
  · skip
    refine WO.gyes rfl rfl ?_
    refine WO.fldS (j := 0) (q := 0) rfl ho4.at0 ho4.ptr rfl rfl rfl (by decide) ?_
    refine WO.gyes rfl rfl ?_
    refine WO.ldB (j := 0) (q := 0) rfl rfl ho4 rfl rfl rfl ?_
    refine WO.gyes rfl rfl ?_
    refine WO.bin rfl rfl (by decide) (by decide) rfl ?_
    refine WO.pickF rfl rfl ?_
    refine WO.nil ?_
    exact ⟨rfl, rfl, (Cov.any rfl (orF q6) (Cov.skip rfl (Cov.skip rfl (Cov.skip rfl (Cov.skip rfl (Cov.skip rfl (Cov.refl _)))))))⟩
  refine WO.mv rfl ?_
  refine WO.cutB (d := 20) 4 ((((decide (((t0.1, t0.2)).2 < 1)) || (decide (((t0.1, t0.2)).2 > 1000000000))) || (decide (((t0.1, t0.2)).1 < (-1000000000)))) || (decide (((t0.1, t0.2)).1 > 1000000000))) (fun q7 => ?_) (fun q7 => ?_) ?_
  · refine WO.gno rfl rfl (WO.gno rfl rfl (WO.gno rfl rfl ?_))
    refine WO.pickT rfl rfl ?_
    refine WO.nil ?_
    exact ⟨rfl, rfl, (Cov.any rfl (orT q7) (Cov.skip rfl (Cov.skip rfl (Cov.skip rfl (Cov.skip rfl (Cov.skip rfl (Cov.refl _)))))))⟩
  · skip
    refine WO.gyes rfl rfl ?_
    refine WO.fldS (j := 0) (q := 0) rfl ho4.at0 ho4.ptr rfl rfl rfl (by decide) ?_
    refine WO.gyes rfl rfl ?_
    refine WO.ldB (j := 0) (q := 0) rfl rfl ho4 rfl rfl rfl ?_
    refine WO.gyes rfl rfl ?_
    refine WO.bin rfl rfl (by decide) (by decide) rfl ?_
    refine WO.pickF rfl rfl ?_
    refine WO.nil ?_
    exact ⟨rfl, rfl, (Cov.any rfl (orF q7) (Cov.skip rfl (Cov.skip rfl (Cov.skip rfl (Cov.skip rfl (Cov.skip rfl (Cov.refl _)))))))⟩
  refine WO.nil (thenL_n ?_)
  refine WC.cond rfl (fun q8 => ?_) (fun q8 => ?_)
  · have h := iteT q8 h
    refine WC.seq (WC.region (WO.asg rfl (WO.nil (thenL_n (WC.ret (thenL_r ?_))))))
    obtain rfl := someI h
    exact ⟨.inr rfl, _, _, rfl, rfl, rfl⟩
  · have h := iteF q8 h
    refine WC.skip (thenL_n (WC.seq (WC.seq (WC.region ?_))))
    refine WO.fldS (j := 0) (q := 0) rfl ho4.at0 ho4.ptr rfl rfl rfl (by decide) ?_
    refine WO.ldB (j := 0) (q := 0) rfl rfl ho4 rfl rfl rfl ?_
    refine WO.fldS (j := 0) (q := 0) rfl ho4.at0 ho4.ptr rfl rfl rfl (by decide) ?_
    refine WO.ldB (j := 0) (q := 1) rfl rfl ho4 rfl rfl rfl ?_
    obtain ⟨r9, e10, h⟩ := bindS h
    refine WO.callE (S := S2) rfl rfl (F166_ok e10) (fun S11 c12 => ?_)
    have ho4 := ho4.to c12
    refine WO.bin rfl rfl (by decide) (by decide) rfl ?_
    refine WO.nil (thenL_n ?_)
    refine WC.cond rfl (fun q13 => ?_) (fun q13 => ?_)
    · have h := iteT q13 h
      refine WC.seq (WC.region (WO.asg rfl (WO.nil (thenL_n (WC.ret (thenL_r ?_))))))
      obtain rfl := someI h
      exact ⟨.inr rfl, _, _, rfl, rfl, rfl⟩
    · have h := iteF q13 h
      refine WC.skip (thenL_n (WC.seq (WC.region (WO.asg rfl (WO.nil (thenL_n (WC.ret ?_)))))))
      obtain rfl := someI h
      exact ⟨.inr rfl, _, _, rfl, rfl, rfl⟩
end Go.Proofs.Ytihmliblbhjlaaa

namespace Go.Proofs.Ytihmliblbhjlaaa
open Go.Am
theorem F163.fn : E.fn 163 = some ⟨13, (Try.f163.body.getD .skip), Try.f163.results.toList, []⟩ := rfl
theorem F163_ok {F : Nat} {m : Mem} {n : Nat} {r : Int} {t0 : Int × Int} {t1 : Int × Int} (h : F163 F t0 t1 = some r)  : Ret E n 163 [.agg [.int .i64 t0.1, .int .i64 t0.2], .agg [.int .i64 t1.1, .int .i64 t1.2]] m n (fun v m' n' => v = .sc (.int .i64 r)) := by
  unfold F163 at h
  refine Ret.walk F163.fn ?_
  refine WC.start fun S0 em en hz => ?_
  refine WC.seq (WC.region ?_)
  refine WO.bxS (A := Y26) (S := S0) (u := (t0.1, t0.2)) 2 rfl rfl rfl rfl (fun v1 S2 c3 ho4 => ?_)
  refine WO.bxS (A := Y26) (S := S2) (u := (t1.1, t1.2)) 3 rfl rfl rfl rfl (fun v5 S6 c7 ho8 => ?_)
  have ho4 := ho4.to c7
  refine WO.asg rfl (WO.nil (thenL_n (WC.seq (WC.seq (WC.region ?_)))))
  refine WO.ldBA (j := 0) rfl ho4.at0 ho4 rfl rfl ?_
  obtain ⟨r9, e10, h⟩ := bindS h
  refine WO.callE (S := S6) rfl rfl (F196_ok e10) (fun S11 c12 => ?_)
  have ho4 := ho4.to c12
  have ho8 := ho8.to c12
  refine WO.asg rfl (WO.nil (thenL_n (WC.seq (WC.region (WO.mv rfl ?_)))))
  refine WO.bin rfl rfl (by decide) (by decide) rfl ?_
  refine WO.nil (thenL_n ?_)
  refine WC.cond rfl (fun q13 => ?_) (fun q13 => ?_)
  · have h := iteT q13 h
    refine WC.seq (WC.region (WO.mv rfl (WO.asg rfl (WO.nil (thenL_n (WC.ret (thenL_r ?_)))))))
    obtain rfl := someI h
    exact ⟨.inr rfl, _, _, rfl, rfl, rfl⟩
  · have h := iteF q13 h
    refine WC.skip (thenL_n (WC.seq (WC.region ?_)))
    refine WO.ldBA (j := 0) rfl ho8.at0 ho8 rfl rfl ?_
    obtain ⟨r14, e15, h⟩ := bindS h
    refine WO.callE (S := S11) rfl rfl (F196_ok e15) (fun S16 c17 => ?_)
    have ho4 := ho4.to c17
    have ho8 := ho8.to c17
    refine WO.asg rfl (WO.nil (thenL_n (WC.ret ?_)))
    obtain rfl := someI h
    exact ⟨.inr rfl, _, _, rfl, rfl, rfl⟩
end Go.Proofs.Ytihmliblbhjlaaa

namespace Go.Proofs.Ytihmliblbhjlaaa
open Go.Am
theorem F138.fn : E.fn 138 = some ⟨33, (Try.f138.body.getD .skip), Try.f138.results.toList, []⟩ := rfl
theorem F138_ok {F : Nat} {m : Mem} {n : Nat} {r : (Int × Int) × Int} {t0 : Int × Int} {t1 : Int × Int} (h : F138 F t0 t1 = some r)  : Ret E n 138 [.agg [.int .i64 t0.1, .int .i64 t0.2], .agg [.int .i64 t1.1, .int .i64 t1.2]] m n (fun v m' n' => v = .tup [.agg [.int .i64 r.1.1, .int .i64 r.1.2], .sc (.int .i64 r.2)]) := by
  unfold F138 at h
  refine Ret.walk F138.fn ?_
  refine WC.start fun S0 em en hz => ?_
  refine WC.seq (WC.region ?_)
  refine WO.bxS (A := Y26) (S := S0) (u := (t0.1, t0.2)) 2 rfl rfl rfl rfl (fun v1 S2 c3 ho4 => ?_)
  refine WO.bxS (A := Y26) (S := S2) (u := (t1.1, t1.2)) 3 rfl rfl rfl rfl (fun v5 S6 c7 ho8 => ?_)
  have ho4 := ho4.to c7
  refine WO.alS (A := Y26) (S := S6) (z0 := (0, 0)) 4 rfl rfl rfl (fun v9 S10 c11 ho12 => ?_)
  have ho4 := ho4.to c11
  have ho8 := ho8.to c11
  refine WO.asg rfl (WO.nil (thenL_n (WC.seq (WC.seq (WC.region ?_)))))
  refine WO.ldBA (j := 0) rfl ho4.at0 ho4 rfl rfl ?_
  refine WO.ldBA (j := 0) rfl ho8.at0 ho8 rfl rfl ?_
  obtain ⟨r13, e14, h⟩ := bindS h
  refine WO.callE (S := S10) rfl rfl (F163_ok e14) (fun S15 c16 => ?_)
  have ho4 := ho4.to c16
  have ho8 := ho8.to c16
  have ho12 := ho12.to c16
  refine WO.asg rfl (WO.nil (thenL_n (WC.seq (WC.region (WO.mv rfl ?_)))))
  refine WO.bin rfl rfl (by decide) (by decide) rfl ?_
  refine WO.nil (thenL_n ?_)
  refine WC.cond rfl (fun q17 => ?_) (fun q17 => ?_)
  · have h := iteT q17 h
    refine WC.seq (WC.region ?_)
    refine WO.do rfl rfl ?_
    refine WO.mv rfl ?_
    refine WO.stBA (u' := (0, 0)) rfl ho12.at0 rfl ho12 rfl rfl (fun S18 c19 ho12 => ?_)
    have ho4 := ho4.to c19
    have ho8 := ho8.to c19
    refine WO.asg rfl (WO.nil (thenL_n (WC.ret (thenL_r ?_))))
    have hcell := ho12
    obtain rfl := someI h
    exact ⟨.inr rfl, _, _, (resK_c2 hcell (Cov.refl _) rfl rfl rfl), rfl, rfl⟩
  · have h := iteF q17 h
    refine WC.skip (thenL_n (WC.seq (WC.region ?_)))
    refine WO.fldS (j := 0) (q := 0) rfl ho4.at0 ho4.ptr rfl rfl rfl (by decide) ?_
    refine WO.ldB (j := 0) (q := 0) rfl rfl ho4 rfl rfl rfl ?_
    refine WO.fldS (j := 0) (q := 0) rfl ho8.at0 ho8.ptr rfl rfl rfl (by decide) ?_
    refine WO.ldB (j := 0) (q := 1) rfl rfl ho8 rfl rfl rfl ?_
    refine WO.bin rfl rfl (by decide) (by decide) rfl ?_
    refine WO.fldS (j := 0) (q := 0) rfl ho8.at0 ho8.ptr rfl rfl rfl (by decide) ?_
    refine WO.ldB (j := 0) (q := 0) rfl rfl ho8 rfl rfl rfl ?_
    refine WO.fldS (j := 0) (q := 0) rfl ho4.at0 ho4.ptr rfl rfl rfl (by decide) ?_
    refine WO.ldB (j := 0) (q := 1) rfl rfl ho4 rfl rfl rfl ?_
    refine WO.bin rfl rfl (by decide) (by decide) rfl ?_
    refine WO.bin rfl rfl (by decide) (by decide) rfl ?_
    refine WO.fldS (j := 0) (q := 0) rfl ho4.at0 ho4.ptr rfl rfl rfl (by decide) ?_
    refine WO.ldB (j := 0) (q := 1) rfl rfl ho4 rfl rfl rfl ?_
    refine WO.fldS (j := 0) (q := 0) rfl ho8.at0 ho8.ptr rfl rfl rfl (by decide) ?_
    refine WO.ldB (j := 0) (q := 1) rfl rfl ho8 rfl rfl rfl ?_
    refine WO.bin rfl rfl (by decide) (by decide) rfl ?_
    obtain ⟨r20, e21, h⟩ := bindS h
    refine WO.callE (S := S15) rfl rfl (F149_ok e21) (fun S22 c23 => ?_)
    have ho4 := ho4.to c23
    have ho8 := ho8.to c23
    have ho12 := ho12.to c23
    refine WO.do rfl rfl ?_
    refine WO.do rfl rfl ?_
    refine WO.stBA (u' := (r20.1.1, r20.1.2)) rfl ho12.at0 rfl ho12 rfl rfl (fun S24 c25 ho12 => ?_)
    have ho4 := ho4.to c25
    have ho8 := ho8.to c25
    refine WO.asg rfl (WO.nil (thenL_n (WC.ret ?_)))
    have hcell := ho12
    obtain rfl := someI h
    exact ⟨.inr rfl, _, _, (resK_c2 hcell (Cov.refl _) rfl rfl rfl), rfl, rfl⟩
end Go.Proofs.Ytihmliblbhjlaaa

namespace Go.Proofs.Ytihmliblbhjlaaa
open Go.Am
theorem F73.fn : E.fn 73 = some ⟨31, (Try.f73.body.getD .skip), Try.f73.results.toList, []⟩ := rfl
theorem F73_ok {F : Nat} {m : Mem} {n : Nat} {r : Bool}  (h : F73 F = some r)  : Ret E n 73 [] m n (fun v m' n' => v = .sc (.bool r)) := by
  unfold F73 at h
  refine Ret.walk F73.fn ?_
  refine WC.start fun S0 em en hz => ?_
  refine WC.seq (WC.region (WO.asg rfl (WO.nil (thenL_n (WC.seq (WC.region ?_))))))
  refine WO.bsS (A := Y3) (S := S0) (M := [1, 2, 0]) (cs := [.int .i64 1, .int .i64 2, .int .i64 0]) 2 rfl rfl rfl ⟨[.int .i64 1], _, rfl, rfl, ⟨[.int .i64 2], _, rfl, rfl, ⟨[.int .i64 0], _, rfl, rfl, rfl⟩⟩⟩ rfl (fun v1 S2 c3 ho4 => ?_)
  obtain ⟨r5, e6, h⟩ := bindS h
  refine WO.callE (S := S2) rfl rfl (F137_ok e6 ho4.vw) (fun S7 c8 => ?_)
  have ho4 := ho4.to c8
  refine WO.mv rfl ?_
  refine WO.do rfl rfl ?_
  refine WO.do rfl rfl ?_
  refine WO.asg rfl (WO.asg rfl (WO.nil (thenL_n (WC.seq (WC.region ?_)))))
  refine WO.do rfl rfl ?_
  refine WO.do rfl rfl ?_
  obtain ⟨r9, e10, h⟩ := bindS h
  refine WO.callE (S := S7) rfl rfl (F138_ok e10) (fun S11 c12 => ?_)
  have ho4 := ho4.to c12
  refine WO.mv rfl ?_
  refine WO.do rfl rfl ?_
  refine WO.do rfl rfl ?_
  refine WO.alS (A := Y26) (S := S11) (z0 := (0, 0)) 3 rfl rfl rfl (fun v13 S14 c15 ho16 => ?_)
  have ho4 := ho4.to c15
  refine WO.stBA (u' := (r9.1.1, r9.1.2)) rfl ho16.at0 rfl ho16 rfl rfl (fun S17 c18 ho16 => ?_)
  have ho4 := ho4.to c18
  refine WO.asg rfl (WO.nil (thenL_n (WC.seq (WC.region (WO.mv rfl ?_)))))
  refine WO.bin rfl rfl (by decide) (by decide) rfl ?_
  refine WO.mv rfl ?_
  refine WO.cutB (d := 21) 3 ((r5.2 == 0) && (r9.2 == 0)) (fun q19 => ?_) (fun q19 => ?_) ?_
  · skip
    refine WO.gyes rfl rfl (WO.mv rfl (WO.gyes rfl rfl ?_))
    refine WO.bin rfl rfl (by decide) (by decide) rfl ?_
    refine WO.pickT rfl rfl ?_
    refine WO.nil ?_
    exact ⟨rfl, rfl, (Cov.any rfl (andT q19) (Cov.skip rfl (Cov.skip rfl (Cov.skip rfl (Cov.skip rfl (Cov.refl _))))))⟩
  · refine WO.gno rfl rfl (WO.gno rfl rfl ?_)
    refine WO.pickF rfl rfl ?_
    refine WO.nil ?_
    exact ⟨rfl, rfl, (Cov.any rfl (andF q19) (Cov.skip rfl (Cov.skip rfl (Cov.skip rfl (Cov.skip rfl (Cov.refl _))))))⟩
  refine WO.mv rfl ?_
  refine WO.cutB (d := 25) 3 (((r5.2 == 0) && (r9.2 == 0)) && (r5.1 == 3)) (fun q20 => ?_) (fun q20 => ?_) ?_
  · skip
    refine WO.gyes rfl rfl (WO.mv rfl (WO.gyes rfl rfl ?_))
    refine WO.bin rfl rfl (by decide) (by decide) rfl ?_
    refine WO.pickT rfl rfl ?_
    refine WO.nil ?_
    exact ⟨rfl, rfl, (Cov.any rfl (andT q20) (Cov.skip rfl (Cov.skip rfl (Cov.skip rfl (Cov.skip rfl (Cov.refl _))))))⟩
  · refine WO.gno rfl rfl (WO.gno rfl rfl ?_)
    refine WO.pickF rfl rfl ?_
    refine WO.nil ?_
    exact ⟨rfl, rfl, (Cov.any rfl (andF q20) (Cov.skip rfl (Cov.skip rfl (Cov.skip rfl (Cov.skip rfl (Cov.refl _))))))⟩
  refine WO.mv rfl ?_
  refine WO.cutB (d := 30) 4 ((((r5.2 == 0) && (r9.2 == 0)) && (r5.1 == 3)) && (((r9.1.1, r9.1.2)).1 == 5 && (((r9.1.1, r9.1.2)).2 == 6 && true))) (fun q21 => ?_) (fun q21 => ?_) ?_
  · skip
    refine WO.gyes rfl rfl ?_
    refine WO.ldBA (j := 0) rfl ho16.at0 ho16 rfl rfl ?_
    refine WO.gyes rfl rfl ?_
    refine WO.do rfl rfl ?_
    refine WO.gyes rfl rfl ?_
    refine WO.eqA rfl rfl rfl rfl (eqFields_cons rfl rfl rfl eqC_int (eqFields_cons rfl rfl rfl eqC_int rfl)) ?_
    refine WO.pickT rfl rfl ?_
    refine WO.nil ?_
    exact ⟨rfl, rfl, (Cov.any rfl (andT q21) (Cov.skip rfl (Cov.skip rfl (Cov.skip rfl (Cov.skip rfl (Cov.skip rfl (Cov.refl _)))))))⟩
  · refine WO.gno rfl rfl (WO.gno rfl rfl (WO.gno rfl rfl ?_))
    refine WO.pickF rfl rfl ?_
    refine WO.nil ?_
    exact ⟨rfl, rfl, (Cov.any rfl (andF q21) (Cov.skip rfl (Cov.skip rfl (Cov.skip rfl (Cov.skip rfl (Cov.skip rfl (Cov.refl _)))))))⟩
  refine WO.asg rfl (WO.nil (thenL_n (WC.ret ?_)))
  obtain rfl := someI h
  exact ⟨.inr rfl, _, _, rfl, rfl, rfl⟩
end Go.Proofs.Ytihmliblbhjlaaa

namespace Go.Proofs.Ytihmliblbhjlaaa
open Go.Am
theorem F141.fn : E.fn 141 = some ⟨5, (Try.f141.body.getD .skip), Try.f141.results.toList, []⟩ := rfl
theorem F141_ok {F : Nat} {m : Mem} {n : Nat} {r : Bool} {t0 : Int} (h : F141 F t0 = some r)  : Ret E n 141 [.sc (.int .i64 t0)] m n (fun v m' n' => v = .sc (.bool r)) := by
  unfold F141 at h
  refine Ret.walk F141.fn ?_
  refine WC.start fun S0 em en hz => ?_
  refine WC.seq (WC.region (WO.asg rfl (WO.nil (thenL_n (WC.seq (WC.region (WO.mv rfl ?_)))))))
  refine WO.bin rfl rfl (by decide) (by decide) rfl ?_
  refine WO.asg rfl (WO.nil (thenL_n (WC.ret ?_)))
  obtain rfl := someI h
  exact ⟨.inr rfl, _, _, rfl, rfl, rfl⟩
end Go.Proofs.Ytihmliblbhjlaaa

namespace Go.Proofs.Ytihmliblbhjlaaa
open Go.Am
theorem F164_141.fn : E.fn 164 = some ⟨19, (Try.f164.body.getD .skip), Try.f164.results.toList, []⟩ := rfl
theorem F164_141_ok {F : Nat} {m : Mem} {n : Nat} {r : Int} {t0 : List Int} {vt0 : SV} (h : F164_141 F t0 = some r) (kt0 : Vw Y27 n m vt0 t0) : Ret E n 164 [.sc vt0, .sc (.fn 141 [])] m n (fun v m' n' => v = .sc (.int .i64 r)) := by
  unfold F164_141 at h
  refine Ret.walk F164_141.fn ?_
  refine WC.start fun S0 em en hz => ?_
  have hot0 := kt0.rdS em hz
  refine WC.seq (WC.region (WO.asg rfl (WO.nil (thenL_n (WC.seq (WC.seq (WC.region (WO.mv rfl ?_))))))))
  refine WO.lenS rfl hot0.slv rfl ?_
  refine WO.mv rfl (WO.nil (thenL_n (WC.block ?_)))
  obtain ⟨b16, e17, h⟩ := bindS h
  refine WC.loopD e17 (fun s1 l' m' n' => ∃ S2 : Cx n, S2.m = m' ∧ S2.n = n' ∧ Cov l' [(0, .sc vt0), (1, .sc (.fn 141 [])), (7, .sc (.int .i64 ((t0.length : Int)))), (8, .sc (.int .i64 s1))] ∧ Rd Y27 S2 vt0 t0) (fun b e l' m' n' => (match b with | .inl b3 => e = .exit 0 ∧ ∃ S4 : Cx n, S4.m = m' ∧ S4.n = n' ∧ Cov l' [] | .inr b3 => e = .ret ∧ ∃ S5 : Cx n, S5.m = m' ∧ S5.n = n' ∧ Cov l' [(4, .sc (.int .i64 b3))])) (by exact ⟨S0, rfl, rfl, (Cov.cons rfl (Cov.cons rfl (Cov.cons rfl (Cov.cons rfl (Cov.nil _))))), hot0⟩) ?_ ?_
  · clear h
    rintro s1 q _ _ _ ⟨S6, rfl, rfl, hc7, hot0⟩ h
    unfold F164_141_l0 at h
    refine WC.cov hc7 (WC.seq (WC.region ?_))
    refine WO.bin rfl rfl (by decide) (by decide) rfl ?_
    refine WO.nil (thenL_n (WC.seq ?_))
    refine WC.cond rfl (fun q8 => ?_) (fun q8 => ?_)
    · have h := iteT q8 h
      refine WC.skip (thenL_n (WC.seq (WC.block (WC.seq (WC.region (WO.mv rfl (WO.asg rfl (WO.nil (thenL_n ?_)))))))))
      refine WC.seq (WC.region (WO.mv rfl (WO.mv rfl (WO.mv rfl ?_))))
      obtain ⟨x9, e10, h⟩ := bindS h
      refine WO.ixS rfl rfl hot0.slv (at?_lt e10) rfl ?_
      refine WO.ldF rfl hot0.ro (fun _ hi => hi) (at?_get e10) rfl rfl rfl ?_
      obtain ⟨r11, e12, h⟩ := bindS h
      refine WO.callE (S := S6) rfl rfl (F141_ok e12) (fun S13 c14 => ?_)
      have hot0 := hot0.to c14
      refine WO.nil (thenL_n ?_)
      refine WC.cond rfl (fun q15 => ?_) (fun q15 => ?_)
      · have h := iteT q15 h
        refine WC.seq (WC.region (WO.mv rfl (WO.asg rfl (WO.nil (thenL_n (WC.ret (blockL_r (thenL_r (thenL_r ?_)))))))))
        obtain rfl := someI h
        exact ⟨_, rfl, rfl, ⟨S13, rfl, rfl, (Cov.cons rfl (Cov.nil _))⟩⟩
      · have h := iteF q15 h
        refine WC.skip (blockL_n (thenL_n (WC.region ?_)))
        refine WO.bin rfl rfl (by decide) (by decide) rfl ?_
        refine WO.mv rfl (WO.nil (thenL_n ?_))
        obtain rfl := someI h
        exact ⟨_, rfl, ⟨S13, rfl, rfl, (Cov.cons rfl (Cov.cons rfl (Cov.cons rfl (Cov.cons rfl (Cov.nil _))))), hot0⟩⟩
    · have h := iteF q8 h
      refine WC.exit (thenL_e (thenL_e ?_))
      obtain rfl := someI h
      exact ⟨_, rfl, rfl, ⟨S6, rfl, rfl, (Cov.nil _)⟩⟩
  cases b16 with
  | inl b18 =>
    simp only at h
    rintro _ _ _ _ ⟨rfl, ⟨S19, rfl, rfl, hc20⟩⟩
    refine blockL_s (thenL_n (WC.cov hc20 (WC.seq (WC.region (WO.asg rfl (WO.nil (thenL_n (WC.ret ?_))))))))
    obtain rfl := someI h
    exact ⟨.inr rfl, _, _, rfl, rfl, rfl⟩
  | inr b18 =>
    simp only at h
    rintro _ _ _ _ ⟨rfl, ⟨S21, rfl, rfl, hc22⟩⟩
    refine blockL_r (thenL_r ?_)
    obtain rfl := someI h
    exact ⟨.inr rfl, _, _, (resK_cov hc22 rfl), rfl, rfl⟩
end Go.Proofs.Ytihmliblbhjlaaa

namespace Go.Proofs.Ytihmliblbhjlaaa
open Go.Am
theorem F140_141.fn : E.fn 140 = some ⟨9, (Try.f140.body.getD .skip), Try.f140.results.toList, []⟩ := rfl
theorem F140_141_ok {F : Nat} {m : Mem} {n : Nat} {r : Bool} {t0 : List Int} {vt0 : SV} (h : F140_141 F t0 = some r) (kt0 : Vw Y27 n m vt0 t0) : Ret E n 140 [.sc vt0, .sc (.fn 141 [])] m n (fun v m' n' => v = .sc (.bool r)) := by
  unfold F140_141 at h
  refine Ret.walk F140_141.fn ?_
  refine WC.start fun S0 em en hz => ?_
  have hot0 := kt0.rdS em hz
  refine WC.seq (WC.region (WO.asg rfl (WO.nil (thenL_n (WC.seq (WC.region (WO.mv rfl (WO.mv rfl ?_))))))))
  obtain ⟨r1, e2, h⟩ := bindS h
  refine WO.callE (S := S0) rfl rfl (F164_141_ok e2 hot0.vw) (fun S3 c4 => ?_)
  have hot0 := hot0.to c4
  refine WO.bin rfl rfl (by decide) (by decide) rfl ?_
  refine WO.asg rfl (WO.nil (thenL_n (WC.ret ?_)))
  obtain rfl := someI h
  exact ⟨.inr rfl, _, _, rfl, rfl, rfl⟩
end Go.Proofs.Ytihmliblbhjlaaa

namespace Go.Proofs.Ytihmliblbhjlaaa
open Go.Am
theorem F76.fn : E.fn 76 = some ⟨6, (Try.f76.body.getD .skip), Try.f76.results.toList, []⟩ := rfl
theorem F76_ok {F : Nat} {m : Mem} {n : Nat} {r : Bool} {t0 : List Int} {vt0 : SV} (h : F76 F t0 = some r) (kt0 : Vw Y27 n m vt0 t0) : Ret E n 76 [.sc vt0] m n (fun v m' n' => v = .sc (.bool r)) := by
  unfold F76 at h
  refine Ret.walk F76.fn ?_
  refine WC.start fun S0 em en hz => ?_
  have hot0 := kt0.rdS em hz
  refine WC.seq (WC.region (WO.asg rfl (WO.nil (thenL_n (WC.seq (WC.region (WO.mv rfl ?_)))))))
  obtain ⟨r1, e2, h⟩ := bindS h
  refine WO.callE (S := S0) rfl rfl (F140_141_ok e2 hot0.vw) (fun S3 c4 => ?_)
  have hot0 := hot0.to c4
  refine WO.do rfl rfl ?_
  refine WO.asg rfl (WO.nil (thenL_n (WC.ret ?_)))
  obtain rfl := someI h
  exact ⟨.inr rfl, _, _, rfl, rfl, rfl⟩
end Go.Proofs.Ytihmliblbhjlaaa

namespace Go.Proofs.Ytihmliblbhjlaaa
open Go.Am
theorem F146.fn : E.fn 146 = some ⟨32, (Try.f146.body.getD .skip), Try.f146.results.toList, []⟩ := rfl
theorem F146_ok {F : Nat} {m : Mem} {n : Nat} {r : Int} {t0 : List Int} {vt0 : SV} (h : F146 F t0 = some r) (kt0 : Vw Y3 n m vt0 t0) : Ret E n 146 [.sc vt0] m n (fun v m' n' => v = .sc (.int .i64 r)) := by
  unfold F146 at h
  refine Ret.walk F146.fn ?_
  refine WC.start fun S0 em en hz => ?_
  have hot0 := kt0.rdS em hz
  refine WC.seq (WC.region (WO.asg rfl (WO.nil (thenL_n (WC.seq (WC.seq (WC.region (WO.mv rfl ?_))))))))
  refine WO.lenS rfl hot0.slv rfl ?_
  refine WO.bin rfl rfl (by decide) (by decide) rfl ?_
  refine WO.mv rfl ?_
  refine WO.cutB (d := 13) 4 ((decide ((t0.length : Int) < 1)) || (decide ((t0.length : Int) > 12))) (fun q1 => ?_) (fun q1 => ?_) ?_
  · refine WO.gno rfl rfl (WO.gno rfl rfl (WO.gno rfl rfl ?_))
    refine WO.pickT rfl rfl ?_
    refine WO.nil ?_
    exact ⟨rfl, rfl, (Cov.any rfl (orT q1) (Cov.skip rfl (Cov.skip rfl (Cov.skip rfl (Cov.skip rfl (Cov.skip rfl (Cov.refl _)))))))⟩
  · skip
    refine WO.gyes rfl rfl (WO.mv rfl (WO.gyes rfl rfl ?_))
    refine WO.lenS rfl hot0.slv rfl ?_
    refine WO.gyes rfl rfl ?_
    refine WO.bin rfl rfl (by decide) (by decide) rfl ?_
    refine WO.pickF rfl rfl ?_
    refine WO.nil ?_
    exact ⟨rfl, rfl, (Cov.any rfl (orF q1) (Cov.skip rfl (Cov.skip rfl (Cov.skip rfl (Cov.skip rfl (Cov.skip rfl (Cov.refl _)))))))⟩
  refine WO.nil (thenL_n ?_)
  refine WC.cond rfl (fun q2 => ?_) (fun q2 => ?_)
  · have h := iteT q2 h
    refine WC.seq (WC.region (WO.asg rfl (WO.nil (thenL_n (WC.ret (thenL_r ?_))))))
    obtain rfl := someI h
    exact ⟨.inr rfl, _, _, rfl, rfl, rfl⟩
  · have h := iteF q2 h
    refine WC.skip (thenL_n (WC.seq (WC.region (WO.asg rfl (WO.nil (thenL_n (WC.seq (WC.seq (WC.region ?_)))))))))
    refine WO.mv rfl ?_
    refine WO.lenS rfl hot0.slv rfl ?_
    refine WO.mv rfl (WO.nil (thenL_n (WC.block ?_)))
    obtain ⟨b15, e16, h⟩ := bindS h
    refine WC.loopD e16 (fun s3 l' m' n' => ∃ S4 : Cx n, S4.m = m' ∧ S4.n = n' ∧ Cov l' [(3, .sc (.int .i64 s3.1)), (14, .sc vt0), (15, .sc (.int .i64 ((t0.length : Int)))), (16, .sc (.int .i64 s3.2))] ∧ Rd Y3 S4 vt0 t0) (fun b e l' m' n' => (match b with | .inl b5 => e = .exit 0 ∧ ∃ S6 : Cx n, S6.m = m' ∧ S6.n = n' ∧ Cov l' [(3, .sc (.int .i64 b5))] | .inr b5 => e = .ret ∧ ∃ S7 : Cx n, S7.m = m' ∧ S7.n = n' ∧ Cov l' [(2, .sc (.int .i64 b5))])) (by exact ⟨S0, rfl, rfl, (Cov.cons rfl (Cov.cons rfl (Cov.cons rfl (Cov.cons rfl (Cov.nil _))))), hot0⟩) ?_ ?_
    · clear h
      rintro s3 q _ _ _ ⟨S8, rfl, rfl, hc9, hot0⟩ h
      unfold F146_l0 at h
      refine WC.cov hc9 (WC.seq (WC.region ?_))
      refine WO.bin rfl rfl (by decide) (by decide) rfl ?_
      refine WO.nil (thenL_n (WC.seq ?_))
      refine WC.cond rfl (fun q10 => ?_) (fun q10 => ?_)
      · have h := iteT q10 h
        refine WC.skip (thenL_n (WC.seq (WC.block (WC.seq (WC.region ?_)))))
        obtain ⟨x11, e12, h⟩ := bindS h
        refine WO.ixS rfl rfl hot0.slv (at?_lt e12) rfl ?_
        refine WO.ldF rfl hot0.ro (fun _ hi => hi) (at?_get e12) rfl rfl rfl ?_
        refine WO.asg rfl (WO.nil (thenL_n (WC.seq (WC.seq (WC.region (WO.mv rfl ?_))))))
        refine WO.bin rfl rfl (by decide) (by decide) rfl ?_
        refine WO.mv rfl ?_
        refine WO.cutB (d := 25) 3 ((decide (x11 < 0)) || (decide (x11 > 100))) (fun q13 => ?_) (fun q13 => ?_) ?_
        · refine WO.gno rfl rfl (WO.gno rfl rfl ?_)
          refine WO.pickT rfl rfl ?_
          refine WO.nil ?_
          exact ⟨rfl, rfl, (Cov.any rfl (orT q13) (Cov.skip rfl (Cov.skip rfl (Cov.skip rfl (Cov.skip rfl (Cov.refl _))))))⟩
        · skip
          refine WO.gyes rfl rfl (WO.mv rfl (WO.gyes rfl rfl ?_))
          refine WO.bin rfl rfl (by decide) (by decide) rfl ?_
          refine WO.pickF rfl rfl ?_
          refine WO.nil ?_
          exact ⟨rfl, rfl, (Cov.any rfl (orF q13) (Cov.skip rfl (Cov.skip rfl (Cov.skip rfl (Cov.skip rfl (Cov.refl _))))))⟩
        refine WO.nil (thenL_n ?_)
        refine WC.cond rfl (fun q14 => ?_) (fun q14 => ?_)
        · have h := iteT q14 h
          refine WC.seq (WC.region (WO.asg rfl (WO.nil (thenL_n (WC.ret (thenL_r (blockL_r (thenL_r (thenL_r ?_)))))))))
          obtain rfl := someI h
          exact ⟨_, rfl, rfl, ⟨S8, rfl, rfl, (Cov.cons rfl (Cov.nil _))⟩⟩
        · have h := iteF q14 h
          refine WC.skip (thenL_n (WC.region (WO.mv rfl (WO.mv rfl ?_))))
          refine WO.bin rfl rfl (by decide) (by decide) rfl ?_
          refine WO.asg rfl (WO.nil (blockL_n (thenL_n (WC.region ?_))))
          refine WO.bin rfl rfl (by decide) (by decide) rfl ?_
          refine WO.mv rfl (WO.nil (thenL_n ?_))
          obtain rfl := someI h
          exact ⟨_, rfl, ⟨S8, rfl, rfl, (Cov.cons rfl (Cov.cons rfl (Cov.cons rfl (Cov.cons rfl (Cov.nil _))))), hot0⟩⟩
      · have h := iteF q10 h
        refine WC.exit (thenL_e (thenL_e ?_))
        obtain rfl := someI h
        exact ⟨_, rfl, rfl, ⟨S8, rfl, rfl, (Cov.cons rfl (Cov.nil _))⟩⟩
    cases b15 with
    | inl b17 =>
      simp only at h
      rintro _ _ _ _ ⟨rfl, ⟨S18, rfl, rfl, hc19⟩⟩
      refine blockL_s (thenL_n (WC.cov hc19 (WC.seq (WC.seq (WC.region (WO.mv rfl ?_))))))
      refine WO.bin rfl rfl (by decide) (by decide) rfl ?_
      refine WO.nil (thenL_n ?_)
      refine WC.cond rfl (fun q20 => ?_) (fun q20 => ?_)
      · have h := iteT q20 h
        refine WC.seq (WC.region (WO.asg rfl (WO.nil (thenL_n (WC.ret (thenL_r ?_))))))
        obtain rfl := someI h
        exact ⟨.inr rfl, _, _, rfl, rfl, rfl⟩
      · have h := iteF q20 h
        refine WC.skip (thenL_n (WC.seq (WC.region (WO.asg rfl (WO.nil (thenL_n (WC.ret ?_)))))))
        obtain rfl := someI h
        exact ⟨.inr rfl, _, _, rfl, rfl, rfl⟩
    | inr b17 =>
      simp only at h
      rintro _ _ _ _ ⟨rfl, ⟨S21, rfl, rfl, hc22⟩⟩
      refine blockL_r (thenL_r ?_)
      obtain rfl := someI h
      exact ⟨.inr rfl, _, _, (resK_cov hc22 rfl), rfl, rfl⟩
end Go.Proofs.Ytihmliblbhjlaaa

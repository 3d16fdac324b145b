/- The machine answers F13: printed by a program of ours (gen.py). -/
import Derived.Test.YtihmliblbhjlaaaDef
import Derived.Test.YtihmliblbhjlaaaEnv
import Derived.Test.YtihmliblbhjlaaaF17
import Derived.Test.YtihmliblbhjlaaaF87
import Derived.Test.YtihmliblbhjlaaaF88_90
import Derived.Test.YtihmliblbhjlaaaF88_91
import Derived.Test.YtihmliblbhjlaaaF88_92
set_option linter.unusedVariables false
namespace Go.Proofs.Ytihmliblbhjlaaa
open Go.Am
theorem F13.fn : E.fn 13 = some ⟨51, (Try.f13.body.getD .skip), Try.f13.results.toList, []⟩ := rfl
theorem F13_ok {F : Nat} {m : Mem} {n : Nat} {r : (Int × Int) × Int} {t0 : (List Int) × (List Int)} {vt0_0 : SV} {vt0_1 : SV} (h : F13 F t0 = some r) (kt0_0 : Vw Y3 n m vt0_0 t0.1) (kt0_1 : Vw Y3 n m vt0_1 t0.2) : Ret E n 13 [.agg [vt0_0, vt0_1]] m n (fun v m' n' => v = .tup [.agg [.int .i64 r.1.1, .int .i64 r.1.2], .sc (.int .i64 r.2)]) := by
  unfold F13 at h
  refine Ret.walk F13.fn ?_
  refine WC.start fun S0 em en hz => ?_
  have hot0_0 := kt0_0.rdS em hz
  have hot0_1 := kt0_1.rdS em hz
  refine WC.seq ?_
  refine WC.region ?_
  refine WO.bxW (S := S0) (cs := [vt0_0, vt0_1]) 2 rfl rfl rfl (fun b1 S2 c3 ho4 => ?_)
  have hot0_0 := hot0_0.to c3
  have hot0_1 := hot0_1.to c3
  refine WO.alS (A := Y26) (S := S2) (z0 := (0, 0)) 3 rfl rfl rfl (fun v5 S6 c7 ho8 => ?_)
  have hot0_0 := hot0_0.to c7
  have hot0_1 := hot0_1.to c7
  have ho4 := ho4.to c7
  refine WO.asg rfl ?_
  refine WO.nil ?_
  refine thenL_n ?_
  refine WC.seq ?_
  refine WC.seq ?_
  refine WC.region ?_
  refine WO.ldWA (sz := 2) (r := [vt0_0, vt0_1]) rfl ho4.at0 ho4 rfl rfl rfl ho4.lt rfl ?_
  obtain ⟨r9, e10, h⟩ := bindS h
  refine WO.callE (S := S6) rfl rfl (F17_ok e10 hot0_0.vw hot0_1.vw) (fun S11 c12 => ?_)
  have hot0_0 := hot0_0.to c12
  have hot0_1 := hot0_1.to c12
  have ho4 := ho4.to c12
  have ho8 := ho8.to c12
  refine WO.asg rfl ?_
  refine WO.nil ?_
  refine thenL_n ?_
  refine WC.seq ?_
  refine WC.region ?_
  refine WO.mv rfl ?_
  refine WO.bin rfl rfl (by decide) (by decide) rfl ?_
  refine WO.nil ?_
  refine thenL_n ?_
  refine WC.cond rfl (fun q13 => ?_) (fun q13 => ?_)
  · have h := iteT q13 h
    refine WC.seq ?_
    refine WC.region ?_
    refine WO.do rfl rfl ?_
    refine WO.mv rfl ?_
    refine WO.stBA (u' := (0, 0)) rfl ho8.at0 rfl ho8 rfl rfl (fun S14 c15 ho8 => ?_)
    have hot0_0 := hot0_0.to c15
    have hot0_1 := hot0_1.to c15
    have ho4 := ho4.to c15
    refine WO.asg rfl ?_
    refine WO.nil ?_
    refine thenL_n ?_
    refine WC.ret ?_
    refine thenL_r ?_
    have hcell := ho8
    obtain rfl := someI h
    exact ⟨.inr rfl, _, _, (resK_c2 hcell (Cov.refl _) rfl rfl rfl), rfl, rfl⟩
  · have h := iteF q13 h
    refine WC.skip ?_
    refine thenL_n ?_
    refine WC.seq ?_
    refine WC.region ?_
    refine WO.ldWA (sz := 2) (r := [vt0_0, vt0_1]) rfl ho4.at0 ho4 rfl rfl rfl ho4.lt rfl ?_
    obtain ⟨r16, e17, h⟩ := bindS h
    refine WO.callE (S := S11) rfl rfl (F88_90_ok e17 hot0_0.vw hot0_1.vw) (fun S18 c19 => ?_)
    have hot0_0 := hot0_0.to c19
    have hot0_1 := hot0_1.to c19
    have ho4 := ho4.to c19
    have ho8 := ho8.to c19
    refine WO.asg rfl ?_
    refine WO.nil ?_
    refine thenL_n ?_
    refine WC.seq ?_
    refine WC.region ?_
    refine WO.ldWA (sz := 2) (r := [vt0_0, vt0_1]) rfl ho4.at0 ho4 rfl rfl rfl ho4.lt rfl ?_
    obtain ⟨r20, e21, h⟩ := bindS h
    refine WO.callE (S := S18) rfl rfl (F88_91_ok e21 hot0_0.vw hot0_1.vw) (fun S22 c23 => ?_)
    have hot0_0 := hot0_0.to c23
    have hot0_1 := hot0_1.to c23
    have ho4 := ho4.to c23
    have ho8 := ho8.to c23
    refine WO.asg rfl ?_
    refine WO.nil ?_
    refine thenL_n ?_
    refine WC.seq ?_
    refine WC.region ?_
    refine WO.ldWA (sz := 2) (r := [vt0_0, vt0_1]) rfl ho4.at0 ho4 rfl rfl rfl ho4.lt rfl ?_
    obtain ⟨r24, e25, h⟩ := bindS h
    refine WO.callE (S := S22) rfl rfl (F88_92_ok e25 hot0_0.vw hot0_1.vw) (fun S26 c27 => ?_)
    have hot0_0 := hot0_0.to c27
    have hot0_1 := hot0_1.to c27
    have ho4 := ho4.to c27
    have ho8 := ho8.to c27
    refine WO.asg rfl ?_
    refine WO.nil ?_
    refine thenL_n ?_
    refine WC.seq ?_
    refine WC.region ?_
    refine WO.mv rfl ?_
    refine WO.mv rfl ?_
    refine WO.bin rfl rfl (by decide) (by decide) rfl ?_
    refine WO.mv rfl ?_
    refine WO.mv rfl ?_
    refine WO.bin rfl rfl (by decide) (by decide) rfl ?_
    refine WO.bin rfl rfl (by decide) (by decide) rfl ?_
    refine WO.mv rfl ?_
    refine WO.mv rfl ?_
    refine WO.bin rfl rfl (by decide) (by decide) rfl ?_
    refine WO.asg rfl ?_
    refine WO.asg rfl ?_
    refine WO.nil ?_
    refine thenL_n ?_
    refine WC.seq ?_
    refine WC.region ?_
    refine WO.mv rfl ?_
    refine WO.mv rfl ?_
    refine WO.asg rfl ?_
    refine WO.asg rfl ?_
    refine WO.nil ?_
    refine thenL_n ?_
    refine WC.block ?_
    obtain ⟨b46, e47, h⟩ := bindS h
    refine WC.loopD e47 (fun s28 l' m' n' => ∃ S29 : Cx n, S29.m = m' ∧ S29.n = n' ∧ Cov l' [(2, .sc v5), (8, .sc (.int .i64 ((wrapA .i64 ((wrapA .i64 (r16 * r24)) - (wrapA .i64 (r20 * r20))))))), (9, .sc (.int .i64 ((wrapA .i64 (r16 * r16))))), (10, .sc (.int .i64 s28.1)), (11, .sc (.int .i64 s28.2.1))] ∧ Bk Y26 S29 3 v5 s28.2.2) (fun b e l' m' n' => e = .ret ∧ ∃ S30 : Cx n, S30.m = m' ∧ S30.n = n' ∧ Cov l' [(2, .sc v5), (3, .sc (.int .i64 b.1))] ∧ Bk Y26 S30 3 v5 b.2) (by exact ⟨S26, rfl, rfl, (Cov.cons rfl (Cov.cons rfl (Cov.cons rfl (Cov.cons rfl (Cov.cons rfl (Cov.nil _)))))), ho8⟩) ?_ ?_
    · clear h
      rintro s28 q _ _ _ ⟨S31, rfl, rfl, hc32, ho8⟩ h
      unfold F13_l0 at h
      refine WC.cov hc32 ?_
      refine WC.block ?_
      refine WC.seq ?_
      refine WC.seq ?_
      refine WC.region ?_
      refine WO.mv rfl ?_
      refine WO.bin rfl rfl (by decide) (by decide) rfl ?_
      refine WO.nil ?_
      refine thenL_n ?_
      refine WC.cond rfl (fun q33 => ?_) (fun q33 => ?_)
      · have h := iteT q33 h
        refine WC.seq ?_
        refine WC.drawN rfl rfl ?_
        have ho8z := ho8.lt
        refine WO.mv rfl ?_
        refine WO.mv rfl ?_
        obtain ⟨x34, e35, h⟩ := bindS h
        refine WO.quoD rfl rfl e35 ?_
        refine WO.mv rfl ?_
        refine WO.mv rfl ?_
        obtain ⟨x36, e37, h⟩ := bindS h
        refine WO.quoD rfl rfl e37 ?_
        obtain ⟨r38, e39, h⟩ := bindS h
        refine WO.callE (S := S31) rfl rfl (F87_ok e39) (fun S40 c41 => ?_)
        have ho8 := ho8.to c41
        refine WO.do rfl rfl ?_
        refine WO.do rfl rfl ?_
        refine WO.stBA (u' := (r38.1.1, r38.1.2)) rfl ho8.at0 rfl ho8 rfl rfl (fun S42 c43 ho8 => ?_)
        refine WO.asg rfl ?_
        refine WO.nil ?_
        refine thenL_n ?_
        refine WC.ret ?_
        refine thenL_r ?_
        refine blockL_r ?_
        refine thenL_r ?_
        obtain rfl := someI h
        exact ⟨_, rfl, rfl, ⟨S42, rfl, rfl, (Cov.cons rfl (Cov.cons rfl (Cov.nil _))), ho8⟩⟩
      · have h := iteF q33 h
        refine WC.skip ?_
        refine thenL_n ?_
        refine WC.drawP rfl rfl ?_
        refine WO.mv rfl ?_
        refine WO.mv rfl ?_
        refine WO.mv rfl ?_
        obtain ⟨x44, e45, h⟩ := bindS h
        refine WO.remD rfl rfl e45 ?_
        refine WO.asg rfl ?_
        refine WO.asg rfl ?_
        refine WO.nil ?_
        refine blockL_n ?_
        refine thenL_n ?_
        obtain rfl := someI h
        exact ⟨_, rfl, ⟨S31, rfl, rfl, (Cov.cons rfl (Cov.cons rfl (Cov.cons rfl (Cov.cons rfl (Cov.cons rfl (Cov.nil _)))))), ho8⟩⟩
    rintro _ _ _ _ ⟨rfl, ⟨S48, rfl, rfl, hc49, ho8⟩⟩
    refine blockL_r ?_
    have hcell := ho8
    obtain rfl := someI h
    exact ⟨.inr rfl, _, _, (resK_c2 hcell hc49 rfl rfl rfl), rfl, rfl⟩
end Go.Proofs.Ytihmliblbhjlaaa

/- The machine answers F20: printed by a program of ours (gen.py). -/
import Derived.Test.YtihmliblbhjlaaaDef
import Derived.Test.YtihmliblbhjlaaaEnv
import Derived.Test.YtihmliblbhjlaaaF18
import Derived.Test.YtihmliblbhjlaaaF95
set_option linter.unusedVariables false
namespace Go.Proofs.Ytihmliblbhjlaaa
open Go.Am
theorem F20.fn : E.fn 20 = some ⟨58, (Try.f20.body.getD .skip), Try.f20.results.toList, []⟩ := rfl
theorem F20_ok {F : Nat} {m : Mem} {n : Nat} {r : (Int × Int)} {t0 : (List Int) × (List Int)} {vt0_0 : SV} {vt0_1 : SV} (h : F20 F t0 = some r) (kt0_0 : Vw Y3 n m vt0_0 t0.1) (kt0_1 : Vw Y3 n m vt0_1 t0.2) : Ret E n 20 [.agg [vt0_0, vt0_1]] m n (fun v m' n' => v = .agg [.int .i64 r.1, .int .i64 r.2]) := by
  unfold F20 at h
  refine Ret.walk F20.fn ?_
  refine WC.start fun S0 em en hz => ?_
  have hot0_0 := kt0_0.rdS em hz
  have hot0_1 := kt0_1.rdS em hz
  refine WC.seq ?_
  refine WC.region ?_
  refine WO.bxW (S := S0) (cs := [vt0_0, vt0_1]) 2 rfl rfl rfl (fun b1 S2 c3 ho4 => ?_)
  have hot0_0 := hot0_0.to c3
  have hot0_1 := hot0_1.to c3
  refine WO.alS (A := Y26) (S := S2) (z0 := (0, 0)) 3 rfl rfl rfl (fun v5 S6 c7 ho8 => ?_)
  have hot0_0 := hot0_0.to c7
  have hot0_1 := hot0_1.to c7
  have ho4 := ho4.to c7
  refine WO.nil ?_
  refine thenL_n ?_
  refine WC.seq ?_
  refine WC.region ?_
  refine WO.ldWA (sz := 2) (r := [vt0_0, vt0_1]) rfl ho4.at0 ho4 rfl rfl rfl ho4.lt rfl ?_
  obtain ⟨r9, e10, h⟩ := bindS h
  refine WO.callE (S := S6) rfl rfl (F18_ok e10 hot0_0.vw hot0_1.vw) (fun S11 c12 => ?_)
  have hot0_0 := hot0_0.to c12
  have hot0_1 := hot0_1.to c12
  have ho4 := ho4.to c12
  have ho8 := ho8.to c12
  refine WO.mv rfl ?_
  refine WO.do rfl rfl ?_
  refine WO.do rfl rfl ?_
  refine WO.asg rfl ?_
  refine WO.asg rfl ?_
  refine WO.nil ?_
  refine thenL_n ?_
  refine WC.seq ?_
  refine WC.region ?_
  refine WO.asg rfl ?_
  refine WO.nil ?_
  refine thenL_n ?_
  refine WC.seq ?_
  refine WC.seq ?_
  refine WC.region ?_
  refine WO.fldS (j := 0) (q := 0) rfl ho4.at0 ho4.ptr rfl rfl rfl (by decide) ?_
  refine WO.ldW rfl rfl ho4 rfl rfl ho4.lt rfl ?_
  refine WO.lenS rfl hot0_1.slv rfl ?_
  refine WO.mv rfl ?_
  refine WO.nil ?_
  refine thenL_n ?_
  refine WC.block ?_
  obtain ⟨b23, e24, h⟩ := bindS h
  refine WC.loopD e24 (fun s13 l' m' n' => ∃ S14 : Cx n, S14.m = m' ∧ S14.n = n' ∧ Cov l' [(1, .sc ((.ptr b1 0))), (2, .sc v5), (3, .sc (.int .i64 r9.1)), (4, .sc (.int .i64 r9.2)), (5, .sc (.int .i64 s13.1)), (16, .sc vt0_1), (17, .sc (.int .i64 ((t0.2.length : Int)))), (18, .sc (.int .i64 s13.2))] ∧ Bw S14 2 (.ptr b1 0) [vt0_0, vt0_1] ∧ Rd Y3 S14 vt0_0 t0.1 ∧ Rd Y3 S14 vt0_1 t0.2 ∧ Bk Y26 S14 3 v5 ((0, 0))) (fun b e l' m' n' => e = .exit 0 ∧ ∃ S15 : Cx n, S15.m = m' ∧ S15.n = n' ∧ Cov l' [(2, .sc v5), (3, .sc (.int .i64 r9.1)), (5, .sc (.int .i64 b))] ∧ Bk Y26 S15 3 v5 ((0, 0))) (by exact ⟨S11, rfl, rfl, (Cov.cons rfl (Cov.cons rfl (Cov.cons rfl (Cov.cons rfl (Cov.cons rfl (Cov.cons rfl (Cov.cons rfl (Cov.cons rfl (Cov.nil _))))))))), ho4, hot0_0, hot0_1, ho8⟩) ?_ ?_
  · clear h
    rintro s13 q _ _ _ ⟨S16, rfl, rfl, hc17, ho4, hot0_0, hot0_1, ho8⟩ h
    unfold F20_l0 at h
    refine WC.cov hc17 ?_
    refine WC.seq ?_
    refine WC.region ?_
    refine WO.bin rfl rfl (by decide) (by decide) rfl ?_
    refine WO.nil ?_
    refine thenL_n ?_
    refine WC.seq ?_
    refine WC.cond rfl (fun q18 => ?_) (fun q18 => ?_)
    · have h := iteT q18 h
      refine WC.skip ?_
      refine thenL_n ?_
      refine WC.seq ?_
      refine WC.block ?_
      refine WC.seq ?_
      refine WC.region ?_
      refine WO.mv rfl ?_
      obtain ⟨x19, e20, h⟩ := bindS h
      refine WO.ixS rfl rfl hot0_1.slv (at?_lt e20) rfl ?_
      refine WO.ldF rfl hot0_1.ro (fun _ hi => hi) (at?_get e20) rfl rfl rfl ?_
      refine WO.asg rfl ?_
      refine WO.asg rfl ?_
      refine WO.nil ?_
      refine thenL_n ?_
      refine WC.seq ?_
      refine WC.region ?_
      refine WO.mv rfl ?_
      refine WO.fldS (j := 0) (q := 0) rfl ho4.at0 ho4.ptr rfl rfl rfl (by decide) ?_
      refine WO.ldW rfl rfl ho4 rfl rfl ho4.lt rfl ?_
      refine WO.mv rfl ?_
      obtain ⟨x21, e22, h⟩ := bindS h
      refine WO.ixS rfl rfl hot0_0.slv (at?_lt e22) rfl ?_
      refine WO.ldF rfl hot0_0.ro (fun _ hi => hi) (at?_get e22) rfl rfl rfl ?_
      refine WO.bin rfl rfl (by decide) (by decide) rfl ?_
      refine WO.mv rfl ?_
      refine WO.bin rfl rfl (by decide) (by decide) rfl ?_
      refine WO.asg rfl ?_
      refine WO.nil ?_
      refine thenL_n ?_
      refine WC.region ?_
      refine WO.mv rfl ?_
      refine WO.mv rfl ?_
      refine WO.mv rfl ?_
      refine WO.bin rfl rfl (by decide) (by decide) rfl ?_
      refine WO.mv rfl ?_
      refine WO.bin rfl rfl (by decide) (by decide) rfl ?_
      refine WO.bin rfl rfl (by decide) (by decide) rfl ?_
      refine WO.asg rfl ?_
      refine WO.nil ?_
      refine blockL_n ?_
      refine thenL_n ?_
      refine WC.region ?_
      refine WO.bin rfl rfl (by decide) (by decide) rfl ?_
      refine WO.mv rfl ?_
      refine WO.nil ?_
      refine thenL_n ?_
      obtain rfl := someI h
      exact ⟨_, rfl, ⟨S16, rfl, rfl, (Cov.cons rfl (Cov.cons rfl (Cov.cons rfl (Cov.cons rfl (Cov.cons rfl (Cov.cons rfl (Cov.cons rfl (Cov.cons rfl (Cov.nil _))))))))), ho4, hot0_0, hot0_1, ho8⟩⟩
    · have h := iteF q18 h
      refine WC.exit ?_
      refine thenL_e ?_
      refine thenL_e ?_
      obtain rfl := someI h
      exact ⟨_, rfl, rfl, ⟨S16, rfl, rfl, (Cov.cons rfl (Cov.cons rfl (Cov.cons rfl (Cov.nil _)))), ho8⟩⟩
  rintro _ _ _ _ ⟨rfl, ⟨S25, rfl, rfl, hc26, ho8⟩⟩
  refine blockL_s ?_
  refine thenL_n ?_
  refine WC.cov hc26 ?_
  refine WC.seq ?_
  refine WC.region ?_
  refine WO.mv rfl ?_
  refine WO.mv rfl ?_
  refine WO.mv rfl ?_
  refine WO.bin rfl rfl (by decide) (by decide) rfl ?_
  refine WO.mv rfl ?_
  refine WO.bin rfl rfl (by decide) (by decide) rfl ?_
  obtain ⟨r27, e28, h⟩ := bindS h
  refine WO.callE (S := S25) rfl rfl (F95_ok e28) (fun S29 c30 => ?_)
  have ho8 := ho8.to c30
  refine WO.asg rfl ?_
  refine WO.nil ?_
  refine thenL_n ?_
  refine WC.seq ?_
  refine WC.drawN rfl rfl ?_
  have ho8z := ho8.lt
  refine WO.mv rfl ?_
  refine WO.mv rfl ?_
  obtain ⟨x31, e32, h⟩ := bindS h
  refine WO.quoD rfl rfl e32 ?_
  refine WO.mv rfl ?_
  refine WO.mv rfl ?_
  refine WO.bin rfl rfl (by decide) (by decide) rfl ?_
  refine WO.mv rfl ?_
  refine WO.bin rfl rfl (by decide) (by decide) rfl ?_
  refine WO.mv rfl ?_
  obtain ⟨x33, e34, h⟩ := bindS h
  refine WO.quoD rfl rfl e34 ?_
  refine WO.do rfl rfl ?_
  refine WO.stBA (u' := (x31, x33)) rfl ho8.at0 rfl ho8 rfl rfl (fun S35 c36 ho8 => ?_)
  refine WO.nil ?_
  refine thenL_n ?_
  refine WC.ret ?_
  have hcell := ho8
  obtain rfl := someI h
  exact ⟨.inr rfl, _, _, (resK_c1 hcell (Cov.refl _) rfl rfl), rfl, rfl⟩
end Go.Proofs.Ytihmliblbhjlaaa

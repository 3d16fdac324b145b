/- The machine answers F169_159: printed by a program of ours (gen.py). -/
import Derived.Test.YtihmliblbhjlaaaDef
import Derived.Test.YtihmliblbhjlaaaEnv
import Derived.Test.YtihmliblbhjlaaaF159
set_option linter.unusedVariables false
namespace Go.Proofs.Ytihmliblbhjlaaa
open Go.Am
theorem F169_159.fn : E.fn 169 = some ⟨53, (Try.f169.body.getD .skip), Try.f169.results.toList, []⟩ := rfl
theorem F169_159_ok {F : Nat} {m : Mem} {n : Nat} {r : (List Int)} {t0 : List Int} {t1 : Int} {t2 : Int} {vt0 : SV} {fl : Nat} {bw : Nat} (h : F169_159 F t0 t1 t2 = some r) (hfl : fl ≤ n) (kt0 : Iv Y3 fl n bw m vt0 t0) : Ret E fl 169 [.sc vt0, .sc (.int .i64 t1), .sc (.int .i64 t2), .sc (.fn 159 [])] m n (fun v m' n' => v = .tup [] ∧ Ip Y3 n bw m m' vt0 r) := by
  unfold F169_159 at h
  refine Ret.walk F169_159.fn ?_
  refine WC.startI (b := bw) hfl fun S0 em en hz hbw => ?_
  have hot0 := kt0.iw em en hz hbw
  refine WC.seq ?_
  refine WC.region ?_
  refine WO.mv rfl ?_
  refine WO.bin rfl rfl (by decide) (by decide) rfl ?_
  refine WO.asg rfl ?_
  refine WO.nil ?_
  refine thenL_n ?_
  refine WC.block ?_
  obtain ⟨b42, e43, h⟩ := bindS h
  refine WC.loopD e43 (fun s1 l' m' n' => ∃ S2 : Cx fl, S2.m = m' ∧ S2.n = n' ∧ Cov l' [(0, .sc vt0), (1, .sc (.int .i64 t1)), (2, .sc (.int .i64 t2)), (3, .sc (.fn 159 [])), (8, .sc (.int .i64 s1.1))] ∧ Iw Y3 S2 2 n bw m vt0 s1.2) (fun b e l' m' n' => e = .exit 0 ∧ ∃ S3 : Cx fl, S3.m = m' ∧ S3.n = n' ∧ Cov l' [(0, .sc vt0)] ∧ Iw Y3 S3 2 n bw m vt0 b) (by exact ⟨S0, rfl, rfl, (Cov.cons rfl (Cov.cons rfl (Cov.cons rfl (Cov.cons rfl (Cov.cons rfl (Cov.nil _)))))), hot0⟩) ?_ ?_
  · clear h
    rintro s1 q _ _ _ ⟨S4, rfl, rfl, hc5, hot0⟩ h
    unfold F169_159_l1 at h
    refine WC.cov hc5 ?_
    refine WC.seq ?_
    refine WC.seq ?_
    refine WC.region ?_
    refine WO.mv rfl ?_
    refine WO.mv rfl ?_
    refine WO.bin rfl rfl (by decide) (by decide) rfl ?_
    refine WO.nil ?_
    refine thenL_n ?_
    refine WC.cond rfl (fun q6 => ?_) (fun q6 => ?_)
    · have h := iteT q6 h
      refine WC.skip ?_
      refine thenL_n ?_
      refine WC.seq ?_
      refine WC.block ?_
      refine WC.seq ?_
      refine WC.region ?_
      refine WO.mv rfl ?_
      refine WO.asg rfl ?_
      refine WO.nil ?_
      refine thenL_n ?_
      refine WC.block ?_
      obtain ⟨b38, e39, h⟩ := bindS h
      refine WC.loopD e39 (fun s7 l' m' n' => ∃ S8 : Cx fl, S8.m = m' ∧ S8.n = n' ∧ Cov l' [(0, .sc vt0), (1, .sc (.int .i64 t1)), (2, .sc (.int .i64 t2)), (3, .sc (.fn 159 [])), (8, .sc (.int .i64 s1.1)), (9, .sc (.int .i64 s7.1))] ∧ Iw Y3 S8 2 n bw m vt0 s7.2) (fun b e l' m' n' => e = .exit 2 ∧ ∃ S9 : Cx fl, S9.m = m' ∧ S9.n = n' ∧ Cov l' [(0, .sc vt0), (1, .sc (.int .i64 t1)), (2, .sc (.int .i64 t2)), (3, .sc (.fn 159 [])), (8, .sc (.int .i64 s1.1))] ∧ Iw Y3 S9 2 n bw m vt0 b) (by exact ⟨S4, rfl, rfl, (Cov.cons rfl (Cov.cons rfl (Cov.cons rfl (Cov.cons rfl (Cov.cons rfl (Cov.cons rfl (Cov.nil _))))))), hot0⟩) ?_ ?_
      · clear h
        rintro s7 q _ _ _ ⟨S10, rfl, rfl, hc11, hot0⟩ h
        unfold F169_159_l0 at h
        refine WC.cov hc11 ?_
        refine WC.seq ?_
        refine WC.seq ?_
        refine WC.drawN rfl rfl ?_
        have hot0z := hot0.oz
        refine WO.mv rfl ?_
        refine WO.mv rfl ?_
        refine WO.bin rfl rfl (by decide) (by decide) rfl ?_
        refine WO.mv rfl ?_
        obtain ⟨y21, e22, h⟩ := bindS h
        refine WO.cutS (d := 34) (S := S10) 13 y21 (fun q20 => ?_) (fun q20 => ?_) (fun S23 c24 => ?_)
        · have h := e22
          have h := iteT q20 h
          refine WO.gyes rfl rfl ?_
          refine WO.mv rfl ?_
          refine WO.gyes rfl rfl ?_
          refine WO.mv rfl ?_
          refine WO.gyes rfl rfl ?_
          refine WO.mv rfl ?_
          refine WO.gyes rfl rfl ?_
          obtain ⟨x12, e13, h⟩ := bindS h
          refine WO.ixS rfl rfl hot0.slv (at?_lt e13) rfl ?_
          refine WO.gyes rfl rfl ?_
          refine WO.ldF rfl hot0z (fun _ hi => hi.1) (at?_get e13) rfl rfl (limLe_self _) ?_
          refine WO.gyes rfl rfl ?_
          refine WO.mv rfl ?_
          refine WO.gyes rfl rfl ?_
          refine WO.mv rfl ?_
          refine WO.gyes rfl rfl ?_
          refine WO.bin rfl rfl (by decide) (by decide) rfl ?_
          refine WO.gyes rfl rfl ?_
          obtain ⟨x14, e15, h⟩ := bindS h
          refine WO.ixS rfl rfl hot0.slv (at?_lt e15) rfl ?_
          refine WO.gyes rfl rfl ?_
          refine WO.ldF rfl hot0z (fun _ hi => hi.1) (at?_get e15) rfl rfl (limLe_self _) ?_
          refine WO.gyes rfl rfl ?_
          obtain ⟨r16, e17, h⟩ := bindS h
          refine WO.callE (S := S10) rfl rfl (F159_ok e17) (fun S18 c19 => ?_)
          have hot0z := hot0z.tow c19
          have hot0 := hot0.to c19
          refine WO.gyes rfl rfl ?_
          refine WO.bin rfl rfl (by decide) (by decide) rfl ?_
          obtain rfl := someI h
          refine WO.pickT rfl rfl ?_
          refine WO.nil ?_
          exact ⟨S18, rfl, rfl, c19, (Cov.cons rfl (Cov.skip rfl (Cov.skip rfl (Cov.skip rfl (Cov.skip rfl (Cov.skip rfl (Cov.skip rfl (Cov.skip rfl (Cov.skip rfl (Cov.skip rfl (Cov.skip rfl (Cov.skip rfl (Cov.skip rfl (Cov.skip rfl (Cov.skip rfl (Cov.refl _))))))))))))))))⟩
        · have h := e22
          have h := iteF q20 h
          obtain rfl := someI h
          refine WO.gno rfl rfl ?_
          refine WO.gno rfl rfl ?_
          refine WO.gno rfl rfl ?_
          refine WO.gno rfl rfl ?_
          refine WO.gno rfl rfl ?_
          refine WO.gno rfl rfl ?_
          refine WO.gno rfl rfl ?_
          refine WO.gno rfl rfl ?_
          refine WO.gno rfl rfl ?_
          refine WO.gno rfl rfl ?_
          refine WO.gno rfl rfl ?_
          refine WO.gno rfl rfl ?_
          refine WO.pickF rfl rfl ?_
          refine WO.nil ?_
          exact ⟨S10, rfl, rfl, Ch.refl _ _, (Cov.cons rfl (Cov.skip rfl (Cov.skip rfl (Cov.skip rfl (Cov.skip rfl (Cov.skip rfl (Cov.skip rfl (Cov.skip rfl (Cov.skip rfl (Cov.skip rfl (Cov.skip rfl (Cov.skip rfl (Cov.skip rfl (Cov.skip rfl (Cov.skip rfl (Cov.refl _))))))))))))))))⟩
        have hot0z := hot0z.tow c24
        have hot0 := hot0.to c24
        refine WO.nil ?_
        refine thenL_n ?_
        refine WC.cond rfl (fun q25 => ?_) (fun q25 => ?_)
        · have h := iteT q25 h
          refine WC.skip ?_
          refine thenL_n ?_
          refine WC.seq ?_
          refine WC.block ?_
          refine WC.drawN rfl rfl ?_
          have hot0z := hot0.oz
          refine WO.mv rfl ?_
          refine WO.mv rfl ?_
          refine WO.mv rfl ?_
          refine WO.mv rfl ?_
          refine WO.bin rfl rfl (by decide) (by decide) rfl ?_
          refine WO.mv rfl ?_
          refine WO.mv rfl ?_
          refine WO.bin rfl rfl (by decide) (by decide) rfl ?_
          obtain ⟨x26, e27, h⟩ := bindS h
          refine WO.ixS rfl rfl hot0.slv (at?_lt e27) rfl ?_
          refine WO.ldF rfl hot0z (fun _ hi => hi.1) (at?_get e27) rfl rfl (limLe_self _) ?_
          refine WO.mv rfl ?_
          refine WO.mv rfl ?_
          obtain ⟨x28, e29, h⟩ := bindS h
          refine WO.ixS rfl rfl hot0.slv (at?_lt e29) rfl ?_
          refine WO.ldF rfl hot0z (fun _ hi => hi.1) (at?_get e29) rfl rfl (limLe_self _) ?_
          obtain ⟨u30, e31, h⟩ := bindS h
          refine WO.ixS rfl rfl hot0.slv (ck_some e31) rfl ?_
          refine WO.stI (u' := x26) rfl rfl hot0 (ck_nat e31) rfl rfl (fun S32 c33 hot0 => ?_)
          obtain ⟨u34, e35, h⟩ := bindS h
          refine WO.ixS rfl rfl hot0.slv (ck_some e35) rfl ?_
          refine WO.stI (u' := x28) rfl rfl hot0 (ck_nat e35) rfl rfl (fun S36 c37 hot0 => ?_)
          refine WO.nil ?_
          refine blockL_n ?_
          refine thenL_n ?_
          refine WC.region ?_
          refine WO.mv rfl ?_
          refine WO.bin rfl rfl (by decide) (by decide) rfl ?_
          refine WO.asg rfl ?_
          refine WO.nil ?_
          refine thenL_n ?_
          obtain rfl := someI h
          exact ⟨_, rfl, ⟨S36, rfl, rfl, (Cov.cons rfl (Cov.cons rfl (Cov.cons rfl (Cov.cons rfl (Cov.cons rfl (Cov.cons rfl (Cov.nil _))))))), hot0⟩⟩
        · have h := iteF q25 h
          refine WC.exit ?_
          refine thenL_e ?_
          refine thenL_e ?_
          obtain rfl := someI h
          exact ⟨_, rfl, rfl, ⟨S23, rfl, rfl, (Cov.cons rfl (Cov.cons rfl (Cov.cons rfl (Cov.cons rfl (Cov.cons rfl (Cov.nil _)))))), hot0⟩⟩
      rintro _ _ _ _ ⟨rfl, ⟨S40, rfl, rfl, hc41, hot0⟩⟩
      refine blockL_s ?_
      refine blockL_n ?_
      refine thenL_n ?_
      refine WC.cov hc41 ?_
      refine WC.region ?_
      refine WO.mv rfl ?_
      refine WO.bin rfl rfl (by decide) (by decide) rfl ?_
      refine WO.asg rfl ?_
      refine WO.nil ?_
      refine thenL_n ?_
      obtain rfl := someI h
      exact ⟨_, rfl, ⟨S40, rfl, rfl, (Cov.cons rfl (Cov.cons rfl (Cov.cons rfl (Cov.cons rfl (Cov.cons rfl (Cov.nil _)))))), hot0⟩⟩
    · have h := iteF q6 h
      refine WC.exit ?_
      refine thenL_e ?_
      refine thenL_e ?_
      obtain rfl := someI h
      exact ⟨_, rfl, rfl, ⟨S4, rfl, rfl, (Cov.cons rfl (Cov.nil _)), hot0⟩⟩
  rintro _ _ _ _ ⟨rfl, ⟨S44, rfl, rfl, hc45, hot0⟩⟩
  refine blockL_s ?_
  obtain rfl := someI h
  exact ⟨.inl rfl, _, _, (resK_cov hc45 rfl), rfl, ⟨rfl, hot0.ip Lay.flat_fl⟩⟩
end Go.Proofs.Ytihmliblbhjlaaa

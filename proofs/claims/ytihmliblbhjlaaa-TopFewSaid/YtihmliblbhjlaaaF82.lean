/- The machine answers F82: printed by a program of ours (gen.py). -/
import Derived.Test.YtihmliblbhjlaaaDef
import Derived.Test.YtihmliblbhjlaaaEnv
import Derived.Test.YtihmliblbhjlaaaF101
import Derived.Test.YtihmliblbhjlaaaF115
import Derived.Test.YtihmliblbhjlaaaF45
set_option linter.unusedVariables false
namespace Go.Proofs.Ytihmliblbhjlaaa
open Go.Am
theorem F82.fn : E.fn 82 = some ⟨70, (Try.f82.body.getD .skip), Try.f82.results.toList, []⟩ := rfl
theorem F82_ok {F : Nat} {m : Mem} {n : Nat} {r : (List Int) × Int} {t0 : List Int} {vt0 : SV} (h : F82 F t0 = some r) (kt0 : Vw Y3 n m vt0 t0) : Ret E n 82 [.sc vt0] m n (fun v m' n' => ∃ w, v = .tup [.sc w, .sc (.int .i64 r.2)] ∧ Fr Y3 n m' n' w r.1) := by
  unfold F82 at h
  refine Ret.walk F82.fn ?_
  refine WC.start fun S0 em en hz => ?_
  have hot0 := kt0.rdS em hz
  refine WC.seq ?_
  refine WC.region ?_
  refine WO.asg rfl ?_
  refine WO.asg rfl ?_
  refine WO.nil ?_
  refine thenL_n ?_
  refine WC.seq ?_
  refine WC.seq ?_
  refine WC.region ?_
  refine WO.mv rfl ?_
  obtain ⟨r1, e2, h⟩ := bindS h
  refine WO.callE (S := S0) rfl rfl (F101_ok e2 hot0.vw) (fun S3 c4 => ?_)
  have hot0 := hot0.to c4
  refine WO.asg rfl ?_
  refine WO.nil ?_
  refine thenL_n ?_
  refine WC.seq ?_
  refine WC.region ?_
  refine WO.mv rfl ?_
  refine WO.bin rfl rfl (by decide) (by decide) rfl ?_
  refine WO.nil ?_
  refine thenL_n ?_
  refine WC.cond rfl (fun q5 => ?_) (fun q5 => ?_)
  · have h := iteT q5 h
    refine WC.seq ?_
    refine WC.region ?_
    refine WO.mv rfl ?_
    refine WO.asg rfl ?_
    refine WO.asg rfl ?_
    refine WO.nil ?_
    refine thenL_n ?_
    refine WC.ret ?_
    refine thenL_r ?_
    obtain rfl := someI h
    exact ⟨.inr rfl, _, _, rfl, rfl, ⟨.nils, rfl, Fr.nil⟩⟩
  · have h := iteF q5 h
    refine WC.skip ?_
    refine thenL_n ?_
    refine WC.seq ?_
    refine WC.region ?_
    refine WO.mv rfl ?_
    refine WO.lenS rfl hot0.slv rfl ?_
    refine WO.bin rfl rfl (by decide) (by decide) rfl ?_
    refine WO.asg rfl ?_
    refine WO.nil ?_
    refine thenL_n ?_
    refine WC.seq ?_
    refine WC.block ?_
    obtain ⟨b19, e20, h⟩ := bindS h
    refine WC.loopD e20 (fun s6 l' m' n' => ∃ S7 : Cx n, S7.m = m' ∧ S7.n = n' ∧ Cov l' [(0, .sc vt0), (5, .sc (.int .i64 s6))] ∧ Rd Y3 S7 vt0 t0) (fun b e l' m' n' => e = .exit 0 ∧ ∃ S8 : Cx n, S8.m = m' ∧ S8.n = n' ∧ Cov l' [(0, .sc vt0), (5, .sc (.int .i64 b))] ∧ Rd Y3 S8 vt0 t0) (by exact ⟨S3, rfl, rfl, (Cov.cons rfl (Cov.cons rfl (Cov.nil _))), hot0⟩) ?_ ?_
    · clear h
      rintro s6 q _ _ _ ⟨S9, rfl, rfl, hc10, hot0⟩ h
      unfold F82_l0 at h
      refine WC.cov hc10 ?_
      refine WC.seq ?_
      refine WC.seq ?_
      refine WC.drawP rfl rfl ?_
      refine WO.mv rfl ?_
      refine WO.bin rfl rfl (by decide) (by decide) rfl ?_
      refine WO.mv rfl ?_
      obtain ⟨y16, e17, h⟩ := bindS h
      refine WO.cutB (d := 29) 11 y16 (fun q15 => ?_) (fun q15 => ?_) ?_
      · have h := e17
        have h := iteT q15 h
        refine WO.gyes rfl rfl ?_
        refine WO.mv rfl ?_
        refine WO.gyes rfl rfl ?_
        refine WO.mv rfl ?_
        refine WO.gyes rfl rfl ?_
        obtain ⟨x11, e12, h⟩ := bindS h
        refine WO.ixS rfl rfl hot0.slv (at?_lt e12) rfl ?_
        refine WO.gyes rfl rfl ?_
        refine WO.ldF rfl hot0.ro (fun _ hi => hi) (at?_get e12) rfl rfl rfl ?_
        refine WO.gyes rfl rfl ?_
        refine WO.mv rfl ?_
        refine WO.gyes rfl rfl ?_
        refine WO.mv rfl ?_
        refine WO.gyes rfl rfl ?_
        refine WO.bin rfl rfl (by decide) (by decide) rfl ?_
        refine WO.gyes rfl rfl ?_
        obtain ⟨x13, e14, h⟩ := bindS h
        refine WO.ixS rfl rfl hot0.slv (at?_lt e14) rfl ?_
        refine WO.gyes rfl rfl ?_
        refine WO.ldF rfl hot0.ro (fun _ hi => hi) (at?_get e14) rfl rfl rfl ?_
        refine WO.gyes rfl rfl ?_
        refine WO.bin rfl rfl (by decide) (by decide) rfl ?_
        obtain rfl := someI h
        refine WO.pickT rfl rfl ?_
        refine WO.nil ?_
        exact ⟨rfl, rfl, (Cov.cons rfl (Cov.skip rfl (Cov.skip rfl (Cov.skip rfl (Cov.skip rfl (Cov.skip rfl (Cov.skip rfl (Cov.skip rfl (Cov.skip rfl (Cov.skip rfl (Cov.skip rfl (Cov.skip rfl (Cov.skip rfl (Cov.refl _))))))))))))))⟩
      · have h := e17
        have h := iteF q15 h
        obtain rfl := someI h
        refine WO.gno rfl rfl ?_
        refine WO.gno rfl rfl ?_
        refine WO.gno rfl rfl ?_
        refine WO.gno rfl rfl ?_
        refine WO.gno rfl rfl ?_
        refine WO.gno rfl rfl ?_
        refine WO.gno rfl rfl ?_
        refine WO.gno rfl rfl ?_
        refine WO.gno rfl rfl ?_
        refine WO.gno rfl rfl ?_
        refine WO.pickF rfl rfl ?_
        refine WO.nil ?_
        exact ⟨rfl, rfl, (Cov.cons rfl (Cov.skip rfl (Cov.skip rfl (Cov.skip rfl (Cov.skip rfl (Cov.skip rfl (Cov.skip rfl (Cov.skip rfl (Cov.skip rfl (Cov.skip rfl (Cov.skip rfl (Cov.skip rfl (Cov.skip rfl (Cov.refl _))))))))))))))⟩
      refine WO.nil ?_
      refine thenL_n ?_
      refine WC.cond rfl (fun q18 => ?_) (fun q18 => ?_)
      · have h := iteT q18 h
        refine WC.skip ?_
        refine thenL_n ?_
        refine WC.block ?_
        refine WC.region ?_
        refine WO.mv rfl ?_
        refine WO.bin rfl rfl (by decide) (by decide) rfl ?_
        refine WO.asg rfl ?_
        refine WO.nil ?_
        refine blockL_n ?_
        refine thenL_n ?_
        obtain rfl := someI h
        exact ⟨_, rfl, ⟨S9, rfl, rfl, (Cov.cons rfl (Cov.cons rfl (Cov.nil _))), hot0⟩⟩
      · have h := iteF q18 h
        refine WC.exit ?_
        refine thenL_e ?_
        refine thenL_e ?_
        obtain rfl := someI h
        exact ⟨_, rfl, rfl, ⟨S9, rfl, rfl, (Cov.cons rfl (Cov.cons rfl (Cov.nil _))), hot0⟩⟩
    rintro _ _ _ _ ⟨rfl, ⟨S21, rfl, rfl, hc22, hot0⟩⟩
    refine blockL_s ?_
    refine thenL_n ?_
    refine WC.cov hc22 ?_
    refine WC.seq ?_
    refine WC.seq ?_
    refine WC.region ?_
    refine WO.mv rfl ?_
    refine WO.bin rfl rfl (by decide) (by decide) rfl ?_
    refine WO.nil ?_
    refine thenL_n ?_
    refine WC.cond rfl (fun q23 => ?_) (fun q23 => ?_)
    · have h := iteT q23 h
      refine WC.seq ?_
      refine WC.region ?_
      refine WO.asg rfl ?_
      refine WO.asg rfl ?_
      refine WO.nil ?_
      refine thenL_n ?_
      refine WC.ret ?_
      refine thenL_r ?_
      obtain rfl := someI h
      exact ⟨.inr rfl, _, _, rfl, rfl, ⟨.nils, rfl, Fr.nil⟩⟩
    · have h := iteF q23 h
      refine WC.skip ?_
      refine thenL_n ?_
      refine WC.seq ?_
      refine WC.region ?_
      refine WO.mv rfl ?_
      obtain ⟨r24, e25, h⟩ := bindS h
      refine WO.callF (S := S21) 2 rfl rfl (F45_ok e25 hot0.vw) Lay.flat_fl (fun v26 S28 c29 ho27 => ?_)
      have hot0 := hot0.to c29
      refine WO.asg rfl ?_
      refine WO.nil ?_
      refine thenL_n ?_
      refine WC.seq ?_
      refine WC.region ?_
      refine WO.mv rfl ?_
      refine WO.lenS rfl ho27.slv rfl ?_
      refine WO.bin rfl rfl (by decide) (by decide) rfl ?_
      refine WO.asg rfl ?_
      refine WO.nil ?_
      refine thenL_n ?_
      refine WC.seq ?_
      refine WC.block ?_
      obtain ⟨b40, e41, h⟩ := bindS h
      refine WC.loopD e41 (fun s30 l' m' n' => ∃ S31 : Cx n, S31.m = m' ∧ S31.n = n' ∧ Cov l' [(5, .sc (.int .i64 b19)), (6, .sc v26), (7, .sc (.int .i64 s30))] ∧ Ow Y3 S31 2 v26 r24) (fun b e l' m' n' => e = .exit 2 ∧ ∃ S32 : Cx n, S32.m = m' ∧ S32.n = n' ∧ Cov l' [(5, .sc (.int .i64 b19)), (6, .sc v26), (7, .sc (.int .i64 b))] ∧ Ow Y3 S32 2 v26 r24) (by exact ⟨S28, rfl, rfl, (Cov.cons rfl (Cov.cons rfl (Cov.cons rfl (Cov.nil _)))), ho27⟩) ?_ ?_
      · clear h
        rintro s30 q _ _ _ ⟨S33, rfl, rfl, hc34, ho27⟩ h
        unfold F82_l1 at h
        refine WC.cov hc34 ?_
        refine WC.seq ?_
        refine WC.seq ?_
        refine WC.drawP rfl rfl ?_
        refine WO.mv rfl ?_
        refine WO.mv rfl ?_
        obtain ⟨x35, e36, h⟩ := bindS h
        refine WO.ixS rfl rfl ho27.slv (at?_lt e36) rfl ?_
        refine WO.ldF rfl ho27.ro (fun _ hi => hi) (at?_get e36) rfl rfl rfl ?_
        refine WO.mv rfl ?_
        refine WO.mv rfl ?_
        obtain ⟨x37, e38, h⟩ := bindS h
        refine WO.ixS rfl rfl ho27.slv (at?_lt e38) rfl ?_
        refine WO.ldF rfl ho27.ro (fun _ hi => hi) (at?_get e38) rfl rfl rfl ?_
        refine WO.bin rfl rfl (by decide) (by decide) rfl ?_
        refine WO.nil ?_
        refine thenL_n ?_
        refine WC.cond rfl (fun q39 => ?_) (fun q39 => ?_)
        · have h := iteT q39 h
          refine WC.skip ?_
          refine thenL_n ?_
          refine WC.block ?_
          refine WC.region ?_
          refine WO.mv rfl ?_
          refine WO.bin rfl rfl (by decide) (by decide) rfl ?_
          refine WO.asg rfl ?_
          refine WO.nil ?_
          refine blockL_n ?_
          refine thenL_n ?_
          obtain rfl := someI h
          exact ⟨_, rfl, ⟨S33, rfl, rfl, (Cov.cons rfl (Cov.cons rfl (Cov.cons rfl (Cov.nil _)))), ho27⟩⟩
        · have h := iteF q39 h
          refine WC.exit ?_
          refine thenL_e ?_
          refine thenL_e ?_
          obtain rfl := someI h
          exact ⟨_, rfl, rfl, ⟨S33, rfl, rfl, (Cov.cons rfl (Cov.cons rfl (Cov.cons rfl (Cov.nil _)))), ho27⟩⟩
      rintro _ _ _ _ ⟨rfl, ⟨S42, rfl, rfl, hc43, ho27⟩⟩
      refine blockL_s ?_
      refine thenL_n ?_
      refine WC.cov hc43 ?_
      refine WC.seq ?_
      refine WC.drawN rfl rfl ?_
      have ho27z := ho27.oz
      refine WO.mv rfl ?_
      refine WO.mv rfl ?_
      refine WO.mv rfl ?_
      refine WO.mv rfl ?_
      refine WO.mv rfl ?_
      refine WO.mv rfl ?_
      obtain ⟨x44, e45, h⟩ := bindS h
      refine WO.ixS rfl rfl ho27.slv (at?_lt e45) rfl ?_
      refine WO.ldF rfl ho27z (fun _ hi => hi.1) (at?_get e45) rfl rfl (limLe_self _) ?_
      refine WO.mv rfl ?_
      refine WO.mv rfl ?_
      obtain ⟨x46, e47, h⟩ := bindS h
      refine WO.ixS rfl rfl ho27.slv (at?_lt e47) rfl ?_
      refine WO.ldF rfl ho27z (fun _ hi => hi.1) (at?_get e47) rfl rfl (limLe_self _) ?_
      obtain ⟨u48, e49, h⟩ := bindS h
      refine WO.ixS rfl rfl ho27.slv (ck_some e49) rfl ?_
      refine WO.st1 (u' := x44) rfl rfl ho27 (ck_nat e49) rfl rfl (fun S50 c51 ho27 => ?_)
      obtain ⟨u52, e53, h⟩ := bindS h
      refine WO.ixS rfl rfl ho27.slv (ck_some e53) rfl ?_
      refine WO.st1 (u' := x46) rfl rfl ho27 (ck_nat e53) rfl rfl (fun S54 c55 ho27 => ?_)
      refine WO.nil ?_
      refine thenL_n ?_
      refine WC.seq ?_
      refine WC.region ?_
      refine WO.mv rfl ?_
      refine WO.mv rfl ?_
      refine WO.bin rfl rfl (by decide) (by decide) rfl ?_
      obtain ⟨L56, e57, h⟩ := bindS h
      refine WO.slcB (k' := .i64) rfl (.inl ⟨_, rfl, rfl⟩) (.inr ⟨rfl, rfl⟩) ho27.wk e57 rfl (fun v58 ho59 b60 => ?_)
      have ho59 : Wk Y3 S54 2 v58 L56 := ho59
      obtain ⟨r61, e62, h⟩ := bindS h
      refine WO.callS (S := S54) ho27 e57 b60 rfl rfl (fun bq hI hB => F115_ok e62 S54.le hI) Lay.flat_fl (fun S63 c64 ho27 => ?_)
      refine WO.nil ?_
      refine thenL_n ?_
      refine WC.seq ?_
      refine WC.region ?_
      refine WO.mv rfl ?_
      refine WO.asg rfl ?_
      refine WO.asg rfl ?_
      refine WO.nil ?_
      refine thenL_n ?_
      refine WC.ret ?_
      obtain rfl := someI h
      exact ⟨.inr rfl, _, _, rfl, rfl, ⟨v26, rfl, (ho27.fr Lay.flat_fl)⟩⟩
end Go.Proofs.Ytihmliblbhjlaaa

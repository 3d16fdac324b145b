/- The machine answers F69: printed by a program of ours (gen.py). -/
import Derived.Test.YtdkmepeolmdccaaDef
import Derived.Test.YtdkmepeolmdccaaEnv
import Derived.Test.YtdkmepeolmdccaaF71
set_option linter.unusedVariables false
namespace Go.Proofs.Ytdkmepeolmdccaa
open Go.Am
theorem F69.fn : E.fn 69 = some ⟨52, (Try.f69.body.getD .skip), Try.f69.results.toList, []⟩ := rfl
theorem F69_ok {F : Nat} {m : Mem} {n : Nat} {r : (List Int) × Int} {t0 : List Int} {t1 : Int} {t2 : List Int} {vt0 : SV} {vt2 : SV} (h : F69 F t0 t1 t2 = some r) (kt0 : Vw Y3 n m vt0 t0) (kt2 : Vw Y3 n m vt2 t2) : Ret E n 69 [.sc vt0, .sc (.int .i64 t1), .sc vt2] m n (fun v m' n' => ∃ w, v = .tup [.sc w, .sc (.int .i64 r.2)] ∧ Fr Y3 n m' n' w r.1) := by
  unfold F69 at h
  refine Ret.walk F69.fn ?_
  refine WC.start fun S0 em en hz => ?_
  have hot0 := kt0.rdS em hz
  have hot2 := kt2.rdS em hz
  refine WC.seq ?_
  refine WC.region ?_
  refine WO.asg rfl ?_
  refine WO.asg rfl ?_
  refine WO.nil ?_
  refine thenL_n ?_
  refine WC.seq ?_
  refine WC.seq ?_
  refine WC.region ?_
  refine WO.mv rfl ?_
  refine WO.mv rfl ?_
  obtain ⟨r1, e2, h⟩ := bindS h
  refine WO.callE (S := S0) rfl rfl (F71_ok e2 hot0.vw) (fun S3 c4 => ?_)
  have hot0 := hot0.to c4
  have hot2 := hot2.to c4
  refine WO.asg rfl ?_
  refine WO.nil ?_
  refine thenL_n ?_
  refine WC.seq ?_
  refine WC.region ?_
  refine WO.mv rfl ?_
  refine WO.bin rfl rfl (by decide) (by decide) rfl ?_
  refine WO.nil ?_
  refine thenL_n ?_
  refine WC.cond rfl (fun q5 => ?_) (fun q5 => ?_)
  · have h := iteT q5 h
    refine WC.seq ?_
    refine WC.region ?_
    refine WO.mv rfl ?_
    refine WO.asg rfl ?_
    refine WO.asg rfl ?_
    refine WO.nil ?_
    refine thenL_n ?_
    refine WC.ret ?_
    refine thenL_r ?_
    obtain rfl := someI h
    exact ⟨.inr rfl, _, _, rfl, rfl, ⟨.nils, rfl, Fr.nil⟩⟩
  · have h := iteF q5 h
    refine WC.skip ?_
    refine thenL_n ?_
    refine WC.seq ?_
    refine WC.seq ?_
    refine WC.region ?_
    refine WO.mv rfl ?_
    refine WO.lenS rfl hot2.slv rfl ?_
    refine WO.bin rfl rfl (by decide) (by decide) rfl ?_
    refine WO.nil ?_
    refine thenL_n ?_
    refine WC.cond rfl (fun q6 => ?_) (fun q6 => ?_)
    · have h := iteT q6 h
      refine WC.seq ?_
      refine WC.region ?_
      refine WO.asg rfl ?_
      refine WO.asg rfl ?_
      refine WO.nil ?_
      refine thenL_n ?_
      refine WC.ret ?_
      refine thenL_r ?_
      obtain rfl := someI h
      exact ⟨.inr rfl, _, _, rfl, rfl, ⟨.nils, rfl, Fr.nil⟩⟩
    · have h := iteF q6 h
      refine WC.skip ?_
      refine thenL_n ?_
      refine WC.seq ?_
      refine WC.region ?_
      refine WO.bsS (A := Y3) (S := S3) (M := []) (cs := []) 2 rfl rfl rfl rfl rfl (fun v7 S8 c9 ho10 => ?_)
      have hot0 := hot0.to c9
      have hot2 := hot2.to c9
      refine WO.mv rfl ?_
      obtain ⟨L11, e12, h⟩ := bindS h
      refine WO.appS rfl rfl ho10 hot0.ro e12 rfl rfl (fun v13 S14 c15 ho16 => ?_)
      have hot0 := hot0.to c15
      have hot2 := hot2.to c15
      refine WO.asg rfl ?_
      refine WO.nil ?_
      refine thenL_n ?_
      refine WC.seq ?_
      refine WC.seq ?_
      refine WC.region ?_
      refine WO.mv rfl ?_
      refine WO.lenS rfl hot2.slv rfl ?_
      refine WO.mv rfl ?_
      refine WO.nil ?_
      refine thenL_n ?_
      refine WC.block ?_
      obtain ⟨b39, e40, h⟩ := bindS h
      refine WC.loopD e40 (fun s17 l' m' n' => ∃ S18 : Cx n, S18.m = m' ∧ S18.n = n' ∧ Cov l' [(1, .sc (.int .i64 t1)), (9, .sc v13), (24, .sc vt2), (25, .sc (.int .i64 ((t2.length : Int)))), (26, .sc (.int .i64 s17.1))] ∧ Ow Y3 S18 2 v13 s17.2 ∧ Rd Y3 S18 vt2 t2) (fun b e l' m' n' => (match b with | .inl b19 => e = .exit 0 ∧ ∃ S20 : Cx n, S20.m = m' ∧ S20.n = n' ∧ Cov l' [(9, .sc v13)] ∧ Ow Y3 S20 2 v13 b19 | .inr b19 => e = .ret ∧ ∃ S21 : Cx n, ∃ v22 : SV, S21.m = m' ∧ S21.n = n' ∧ Cov l' [(6, .sc v22), (7, .sc (.int .i64 b19.2))] ∧ Ow Y3 S21 3 v22 b19.1)) (by exact ⟨S14, rfl, rfl, (Cov.cons rfl (Cov.cons rfl (Cov.cons rfl (Cov.cons rfl (Cov.cons rfl (Cov.nil _)))))), ho16, hot2⟩) ?_ ?_
      · clear h
        rintro s17 q _ _ _ ⟨S23, rfl, rfl, hc24, ho16, hot2⟩ h
        unfold F69_l0 at h
        refine WC.cov hc24 ?_
        refine WC.seq ?_
        refine WC.region ?_
        refine WO.bin rfl rfl (by decide) (by decide) rfl ?_
        refine WO.nil ?_
        refine thenL_n ?_
        refine WC.seq ?_
        refine WC.cond rfl (fun q25 => ?_) (fun q25 => ?_)
        · have h := iteT q25 h
          refine WC.skip ?_
          refine thenL_n ?_
          refine WC.seq ?_
          refine WC.block ?_
          refine WC.seq ?_
          refine WC.region ?_
          obtain ⟨x26, e27, h⟩ := bindS h
          refine WO.ixS rfl rfl hot2.slv (at?_lt e27) rfl ?_
          refine WO.ldF rfl hot2.ro (fun _ hi => hi) (at?_get e27) rfl rfl rfl ?_
          refine WO.asg rfl ?_
          refine WO.nil ?_
          refine thenL_n ?_
          refine WC.seq ?_
          refine WC.seq ?_
          refine WC.region ?_
          refine WO.mv rfl ?_
          refine WO.bin rfl rfl (by decide) (by decide) rfl ?_
          refine WO.mv rfl ?_
          refine WO.cutB (d := 37) 5 ((decide (x26 < 0)) || (decide (x26 ≥ (s17.2.length : Int)))) (fun q28 => ?_) (fun q28 => ?_) ?_
          · refine WO.gno rfl rfl ?_
            refine WO.gno rfl rfl ?_
            refine WO.gno rfl rfl ?_
            refine WO.gno rfl rfl ?_
            refine WO.pickT rfl rfl ?_
            refine WO.nil ?_
            exact ⟨rfl, rfl, (Cov.any rfl (orT q28) (Cov.skip rfl (Cov.skip rfl (Cov.skip rfl (Cov.skip rfl (Cov.skip rfl (Cov.skip rfl (Cov.refl _))))))))⟩
          · skip
            refine WO.gyes rfl rfl ?_
            refine WO.mv rfl ?_
            refine WO.gyes rfl rfl ?_
            refine WO.mv rfl ?_
            refine WO.gyes rfl rfl ?_
            refine WO.lenS rfl ho16.slv rfl ?_
            refine WO.gyes rfl rfl ?_
            refine WO.bin rfl rfl (by decide) (by decide) rfl ?_
            refine WO.pickF rfl rfl ?_
            refine WO.nil ?_
            exact ⟨rfl, rfl, (Cov.any rfl (orF q28) (Cov.skip rfl (Cov.skip rfl (Cov.skip rfl (Cov.skip rfl (Cov.skip rfl (Cov.skip rfl (Cov.refl _))))))))⟩
          refine WO.nil ?_
          refine thenL_n ?_
          refine WC.cond rfl (fun q29 => ?_) (fun q29 => ?_)
          · have h := iteT q29 h
            refine WC.seq ?_
            refine WC.region ?_
            refine WO.asg rfl ?_
            refine WO.asg rfl ?_
            refine WO.nil ?_
            refine thenL_n ?_
            refine WC.ret ?_
            refine thenL_r ?_
            refine blockL_r ?_
            refine thenL_r ?_
            refine thenL_r ?_
            obtain rfl := someI h
            exact ⟨_, rfl, rfl, ⟨S23, .nils, rfl, rfl, (Cov.cons rfl (Cov.cons rfl (Cov.nil _))), Ow.nil⟩⟩
          · have h := iteF q29 h
            refine WC.skip ?_
            refine thenL_n ?_
            refine WC.seq ?_
            refine WC.seq ?_
            refine WC.region ?_
            refine WO.mv rfl ?_
            refine WO.mv rfl ?_
            obtain ⟨x30, e31, h⟩ := bindS h
            refine WO.ixS rfl rfl ho16.slv (at?_lt e31) rfl ?_
            refine WO.ldF rfl ho16.ro (fun _ hi => hi) (at?_get e31) rfl rfl rfl ?_
            refine WO.bin rfl rfl (by decide) (by decide) rfl ?_
            refine WO.nil ?_
            refine thenL_n ?_
            refine WC.cond rfl (fun q32 => ?_) (fun q32 => ?_)
            · have h := iteT q32 h
              refine WC.seq ?_
              refine WC.region ?_
              refine WO.asg rfl ?_
              refine WO.asg rfl ?_
              refine WO.nil ?_
              refine thenL_n ?_
              refine WC.ret ?_
              refine thenL_r ?_
              refine blockL_r ?_
              refine thenL_r ?_
              refine thenL_r ?_
              obtain rfl := someI h
              exact ⟨_, rfl, rfl, ⟨S23, .nils, rfl, rfl, (Cov.cons rfl (Cov.cons rfl (Cov.nil _))), Ow.nil⟩⟩
            · have h := iteF q32 h
              refine WC.skip ?_
              refine thenL_n ?_
              refine WC.region ?_
              refine WO.mv rfl ?_
              refine WO.mv rfl ?_
              obtain ⟨x33, e34, h⟩ := bindS h
              refine WO.ixS rfl rfl ho16.slv (at?_lt e34) rfl ?_
              refine WO.ldF rfl ho16.ro (fun _ hi => hi) (at?_get e34) rfl rfl rfl ?_
              refine WO.mv rfl ?_
              refine WO.bin rfl rfl (by decide) (by decide) rfl ?_
              obtain ⟨u35, e36, h⟩ := bindS h
              refine WO.ixS rfl rfl ho16.slv (ck_some e36) rfl ?_
              refine WO.st1 (u' := (wrapA .i64 (x33 + t1))) rfl rfl ho16 (ck_nat e36) rfl rfl (fun S37 c38 ho16 => ?_)
              have hot2 := hot2.to c38
              refine WO.nil ?_
              refine blockL_n ?_
              refine thenL_n ?_
              refine WC.region ?_
              refine WO.bin rfl rfl (by decide) (by decide) rfl ?_
              refine WO.mv rfl ?_
              refine WO.nil ?_
              refine thenL_n ?_
              obtain rfl := someI h
              exact ⟨_, rfl, ⟨S37, rfl, rfl, (Cov.cons rfl (Cov.cons rfl (Cov.cons rfl (Cov.cons rfl (Cov.cons rfl (Cov.nil _)))))), ho16, hot2⟩⟩
        · have h := iteF q25 h
          refine WC.exit ?_
          refine thenL_e ?_
          refine thenL_e ?_
          obtain rfl := someI h
          exact ⟨_, rfl, rfl, ⟨S23, rfl, rfl, (Cov.cons rfl (Cov.nil _)), ho16⟩⟩
      cases b39 with
      | inl b41 =>
        simp only at h
        rintro _ _ _ _ ⟨rfl, ⟨S42, rfl, rfl, hc43, ho16⟩⟩
        refine blockL_s ?_
        refine thenL_n ?_
        refine WC.cov hc43 ?_
        refine WC.seq ?_
        refine WC.region ?_
        refine WO.mv rfl ?_
        refine WO.asg rfl ?_
        refine WO.asg rfl ?_
        refine WO.nil ?_
        refine thenL_n ?_
        refine WC.ret ?_
        obtain rfl := someI h
        exact ⟨.inr rfl, _, _, rfl, rfl, ⟨v13, rfl, (ho16.fr Lay.flat_fl)⟩⟩
      | inr b41 =>
        simp only at h
        rintro _ _ _ _ ⟨rfl, ⟨S44, v45, rfl, rfl, hc46, ho6⟩⟩
        refine blockL_r ?_
        refine thenL_r ?_
        obtain rfl := someI h
        exact ⟨.inr rfl, _, _, (resK_cov hc46 rfl), rfl, ⟨v45, rfl, (ho6.fr Lay.flat_fl)⟩⟩
end Go.Proofs.Ytdkmepeolmdccaa

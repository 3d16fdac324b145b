/- The machine answers F74: printed by a program of ours (gen.py). -/
import Derived.Test.YtdkmepeolmdccaaDef
import Derived.Test.YtdkmepeolmdccaaEnv
import Derived.Test.YtdkmepeolmdccaaF133
set_option linter.unusedVariables false
namespace Go.Proofs.Ytdkmepeolmdccaa
open Go.Am
theorem F74.fn : E.fn 74 = some ⟨60, (Try.f74.body.getD .skip), Try.f74.results.toList, []⟩ := rfl
theorem F74_ok {F : Nat} {m : Mem} {n : Nat} {r : (List Int) × Int} {t0 : List Int} {vt0 : SV} (h : F74 F t0 = some r) (kt0 : Vw Y3 n m vt0 t0) : Ret E n 74 [.sc vt0] m n (fun v m' n' => ∃ w, v = .tup [.sc w, .sc (.int .i64 r.2)] ∧ Fr Y3 n m' n' w r.1) := by
  unfold F74 at h
  refine Ret.walk F74.fn ?_
  refine WC.start fun S0 em en hz => ?_
  have hot0 := kt0.rdS em hz
  refine WC.seq ?_
  refine WC.region ?_
  refine WO.asg rfl ?_
  refine WO.asg rfl ?_
  refine WO.nil ?_
  refine thenL_n ?_
  refine WC.seq ?_
  refine WC.seq ?_
  refine WC.region ?_
  refine WO.mv rfl ?_
  obtain ⟨r1, e2, h⟩ := bindS h
  refine WO.callE (S := S0) rfl rfl (F133_ok e2 hot0.vw) (fun S3 c4 => ?_)
  have hot0 := hot0.to c4
  refine WO.asg rfl ?_
  refine WO.nil ?_
  refine thenL_n ?_
  refine WC.seq ?_
  refine WC.region ?_
  refine WO.mv rfl ?_
  refine WO.bin rfl rfl (by decide) (by decide) rfl ?_
  refine WO.nil ?_
  refine thenL_n ?_
  refine WC.cond rfl (fun q5 => ?_) (fun q5 => ?_)
  · have h := iteT q5 h
    refine WC.seq ?_
    refine WC.region ?_
    refine WO.mv rfl ?_
    refine WO.asg rfl ?_
    refine WO.asg rfl ?_
    refine WO.nil ?_
    refine thenL_n ?_
    refine WC.ret ?_
    refine thenL_r ?_
    obtain rfl := someI h
    exact ⟨.inr rfl, _, _, rfl, rfl, ⟨.nils, rfl, Fr.nil⟩⟩
  · have h := iteF q5 h
    refine WC.skip ?_
    refine thenL_n ?_
    refine WC.seq ?_
    refine WC.region ?_
    refine WO.mv rfl ?_
    refine WO.lenS rfl hot0.slv rfl ?_
    obtain ⟨L6, e7, h⟩ := bindS h
    refine WO.mkS (A := Y3) (S := S3) 2 rfl rfl e7 rfl rfl rfl (fun v8 S9 c10 ho11 => ?_)
    have hot0 := hot0.to c10
    refine WO.asg rfl ?_
    refine WO.nil ?_
    refine thenL_n ?_
    refine WC.seq ?_
    refine WC.region ?_
    refine WO.mv rfl ?_
    refine WO.mv rfl ?_
    refine WO.cpS rfl rfl ho11 hot0.ro rfl rfl (fun S12 c13 ho11 => ?_)
    have hot0 := hot0.to c13
    refine WO.nil ?_
    refine thenL_n ?_
    refine WC.seq ?_
    refine WC.region ?_
    refine WO.mv rfl ?_
    refine WO.lenS rfl hot0.slv rfl ?_
    obtain ⟨L14, e15, h⟩ := bindS h
    refine WO.mkS (A := Y3) (S := S12) 3 rfl rfl e15 rfl rfl rfl (fun v16 S17 c18 ho19 => ?_)
    have hot0 := hot0.to c18
    have ho11 := ho11.to c18
    refine WO.asg rfl ?_
    refine WO.nil ?_
    refine thenL_n ?_
    refine WC.seq ?_
    refine WC.seq ?_
    refine WC.region ?_
    refine WO.mv rfl ?_
    refine WO.lenS rfl ho11.slv rfl ?_
    refine WO.bin rfl rfl (by decide) (by decide) rfl ?_
    refine WO.asg rfl ?_
    refine WO.nil ?_
    refine thenL_n ?_
    refine WC.block ?_
    obtain ⟨b55, e56, h⟩ := bindS h
    refine WC.loopD e56 (fun s20 l' m' n' => ∃ S21 : Cx n, S21.m = m' ∧ S21.n = n' ∧ Cov l' [(5, .sc v8), (6, .sc v16), (7, .sc (.int .i64 s20.1))] ∧ Ow Y3 S21 2 v8 s20.2.1 ∧ Ow Y3 S21 3 v16 s20.2.2) (fun b e l' m' n' => e = .exit 0 ∧ ∃ S22 : Cx n, S22.m = m' ∧ S22.n = n' ∧ Cov l' [(6, .sc v16)] ∧ Ow Y3 S22 3 v16 b) (by exact ⟨S17, rfl, rfl, (Cov.cons rfl (Cov.cons rfl (Cov.cons rfl (Cov.nil _)))), ho11, ho19⟩) ?_ ?_
    · clear h
      rintro s20 q _ _ _ ⟨S23, rfl, rfl, hc24, ho11, ho19⟩ h
      unfold F74_l1 at h
      refine WC.cov hc24 ?_
      refine WC.seq ?_
      refine WC.seq ?_
      refine WC.region ?_
      refine WO.mv rfl ?_
      refine WO.bin rfl rfl (by decide) (by decide) rfl ?_
      refine WO.nil ?_
      refine thenL_n ?_
      refine WC.cond rfl (fun q25 => ?_) (fun q25 => ?_)
      · have h := iteT q25 h
        refine WC.skip ?_
        refine thenL_n ?_
        refine WC.seq ?_
        refine WC.block ?_
        refine WC.seq ?_
        refine WC.seq ?_
        refine WC.region ?_
        refine WO.mv rfl ?_
        refine WO.mv rfl ?_
        refine WO.bin rfl rfl (by decide) (by decide) rfl ?_
        obtain ⟨L26, e27, h⟩ := bindS h
        refine WO.slc (k := .i64) rfl (.inr ⟨rfl, rfl⟩) (.inl ⟨_, rfl, rfl⟩) ho11.wk e27 rfl (fun v28 ho29 => ?_)
        have ho29 : Wk Y3 S23 2 v28 L26 := ho29
        refine WO.lenS rfl ho29.slv rfl ?_
        refine WO.mv rfl ?_
        refine WO.nil ?_
        refine thenL_n ?_
        refine WC.block ?_
        obtain ⟨b43, e44, h⟩ := bindS h
        refine WC.loopD e44 (fun s30 l' m' n' => ∃ S31 : Cx n, S31.m = m' ∧ S31.n = n' ∧ Cov l' [(5, .sc v8), (6, .sc v16), (7, .sc (.int .i64 s20.1)), (34, .sc v28), (35, .sc (.int .i64 ((L26.length : Int)))), (36, .sc (.int .i64 s30.1))] ∧ Ow Y3 S31 2 v8 s20.2.1 ∧ Ow Y3 S31 3 v16 s30.2 ∧ Wk Y3 S31 2 v28 L26) (fun b e l' m' n' => e = .exit 2 ∧ ∃ S32 : Cx n, S32.m = m' ∧ S32.n = n' ∧ Cov l' [(5, .sc v8), (6, .sc v16), (7, .sc (.int .i64 s20.1))] ∧ Ow Y3 S32 2 v8 s20.2.1 ∧ Ow Y3 S32 3 v16 b) (by exact ⟨S23, rfl, rfl, (Cov.cons rfl (Cov.cons rfl (Cov.cons rfl (Cov.cons rfl (Cov.cons rfl (Cov.cons rfl (Cov.nil _))))))), ho11, ho19, ho29⟩) ?_ ?_
        · clear h
          rintro s30 q _ _ _ ⟨S33, rfl, rfl, hc34, ho11, ho19, ho29⟩ h
          unfold F74_l0 at h
          refine WC.cov hc34 ?_
          refine WC.seq ?_
          refine WC.region ?_
          refine WO.bin rfl rfl (by decide) (by decide) rfl ?_
          refine WO.nil ?_
          refine thenL_n ?_
          refine WC.seq ?_
          refine WC.cond rfl (fun q35 => ?_) (fun q35 => ?_)
          · have h := iteT q35 h
            refine WC.skip ?_
            refine thenL_n ?_
            refine WC.seq ?_
            refine WC.block ?_
            refine WC.seq ?_
            refine WC.region ?_
            refine WO.mv rfl ?_
            obtain ⟨x36, e37, h⟩ := bindS h
            refine WO.ixS rfl rfl ho29.slv (at?_lt e37) rfl ?_
            refine WO.ldF rfl ho29.ro (fun _ hi => hi) (at?_get e37) rfl rfl rfl ?_
            refine WO.asg rfl ?_
            refine WO.asg rfl ?_
            refine WO.nil ?_
            refine thenL_n ?_
            refine WC.seq ?_
            refine WC.region ?_
            refine WO.mv rfl ?_
            refine WO.mv rfl ?_
            refine WO.bin rfl rfl (by decide) (by decide) rfl ?_
            refine WO.nil ?_
            refine thenL_n ?_
            refine WC.cond rfl (fun q38 => ?_) (fun q38 => ?_)
            · have h := iteT q38 h
              refine WC.region ?_
              refine WO.mv rfl ?_
              refine WO.mv rfl ?_
              refine WO.mv rfl ?_
              obtain ⟨u39, e40, h⟩ := bindS h
              refine WO.ixS rfl rfl ho19.slv (ck_some e40) rfl ?_
              refine WO.st1 (u' := s30.1) rfl rfl ho19 (ck_nat e40) rfl rfl (fun S41 c42 ho19 => ?_)
              have ho11 := ho11.to c42
              have ho29 := ho29.to c42
              refine WO.nil ?_
              refine blockL_n ?_
              refine thenL_n ?_
              refine WC.region ?_
              refine WO.bin rfl rfl (by decide) (by decide) rfl ?_
              refine WO.mv rfl ?_
              refine WO.nil ?_
              refine thenL_n ?_
              obtain rfl := someI h
              exact ⟨_, rfl, ⟨S41, rfl, rfl, (Cov.cons rfl (Cov.cons rfl (Cov.cons rfl (Cov.cons rfl (Cov.cons rfl (Cov.cons rfl (Cov.nil _))))))), ho11, ho19, ho29⟩⟩
            · have h := iteF q38 h
              refine WC.skip ?_
              refine blockL_n ?_
              refine thenL_n ?_
              refine WC.region ?_
              refine WO.bin rfl rfl (by decide) (by decide) rfl ?_
              refine WO.mv rfl ?_
              refine WO.nil ?_
              refine thenL_n ?_
              obtain rfl := someI h
              exact ⟨_, rfl, ⟨S33, rfl, rfl, (Cov.cons rfl (Cov.cons rfl (Cov.cons rfl (Cov.cons rfl (Cov.cons rfl (Cov.cons rfl (Cov.nil _))))))), ho11, ho19, ho29⟩⟩
          · have h := iteF q35 h
            refine WC.exit ?_
            refine thenL_e ?_
            refine thenL_e ?_
            obtain rfl := someI h
            exact ⟨_, rfl, rfl, ⟨S33, rfl, rfl, (Cov.cons rfl (Cov.cons rfl (Cov.cons rfl (Cov.nil _)))), ho11, ho19⟩⟩
        rintro _ _ _ _ ⟨rfl, ⟨S45, rfl, rfl, hc46, ho11, ho19⟩⟩
        refine blockL_s ?_
        refine thenL_n ?_
        refine WC.cov hc46 ?_
        refine WC.drawN rfl ?_
        have ho11z := ho11.oz
        have ho19z := ho19.oz
        refine WO.mv rfl ?_
        refine WO.mv rfl ?_
        refine WO.mv rfl ?_
        obtain ⟨x47, e48, h⟩ := bindS h
        refine WO.ixS rfl rfl ho19.slv (at?_lt e48) rfl ?_
        refine WO.ldF rfl ho19z (fun _ hi => hi.1) (at?_get e48) rfl rfl (limLe_self _) ?_
        refine WO.mv rfl ?_
        refine WO.mv rfl ?_
        obtain ⟨x49, e50, h⟩ := bindS h
        refine WO.ixS rfl rfl ho11.slv (at?_lt e50) rfl ?_
        refine WO.ldF rfl ho11z (fun _ hi => hi.1) (at?_get e50) rfl rfl (limLe_self _) ?_
        obtain ⟨u51, e52, h⟩ := bindS h
        refine WO.ixS rfl rfl ho11.slv (ck_some e52) rfl ?_
        refine WO.st1 (u' := x49) rfl rfl ho11 (ck_nat e52) rfl rfl (fun S53 c54 ho11 => ?_)
        have ho19z := ho19z.tow c54
        have ho19 := ho19.to c54
        refine WO.nil ?_
        refine blockL_n ?_
        refine thenL_n ?_
        refine WC.region ?_
        refine WO.mv rfl ?_
        refine WO.bin rfl rfl (by decide) (by decide) rfl ?_
        refine WO.asg rfl ?_
        refine WO.nil ?_
        refine thenL_n ?_
        obtain rfl := someI h
        exact ⟨_, rfl, ⟨S53, rfl, rfl, (Cov.cons rfl (Cov.cons rfl (Cov.cons rfl (Cov.nil _)))), ho11, ho19⟩⟩
      · have h := iteF q25 h
        refine WC.exit ?_
        refine thenL_e ?_
        refine thenL_e ?_
        obtain rfl := someI h
        exact ⟨_, rfl, rfl, ⟨S23, rfl, rfl, (Cov.cons rfl (Cov.nil _)), ho19⟩⟩
    rintro _ _ _ _ ⟨rfl, ⟨S57, rfl, rfl, hc58, ho19⟩⟩
    refine blockL_s ?_
    refine thenL_n ?_
    refine WC.cov hc58 ?_
    refine WC.seq ?_
    refine WC.region ?_
    refine WO.mv rfl ?_
    refine WO.asg rfl ?_
    refine WO.asg rfl ?_
    refine WO.nil ?_
    refine thenL_n ?_
    refine WC.ret ?_
    obtain rfl := someI h
    exact ⟨.inr rfl, _, _, rfl, rfl, ⟨v16, rfl, (ho19.fr Lay.flat_fl)⟩⟩
end Go.Proofs.Ytdkmepeolmdccaa

/- The machine answers F60: printed by a program of ours (gen.py). -/
import Derived.Test.YtdkmepeolmdccaaDef
import Derived.Test.YtdkmepeolmdccaaEnv
import Derived.Test.YtdkmepeolmdccaaF133
set_option linter.unusedVariables false
namespace Go.Proofs.Ytdkmepeolmdccaa
open Go.Am
theorem F60.fn : E.fn 60 = some ⟨46, (Try.f60.body.getD .skip), Try.f60.results.toList, []⟩ := rfl
theorem F60_ok {F : Nat} {m : Mem} {n : Nat} {r : (List Int) × Int} {t0 : List Int} {vt0 : SV} (h : F60 F t0 = some r) (kt0 : Vw Y3 n m vt0 t0) : Ret E n 60 [.sc vt0] m n (fun v m' n' => ∃ w, v = .tup [.sc w, .sc (.int .i64 r.2)] ∧ Fr Y3 n m' n' w r.1) := by
  unfold F60 at h
  refine Ret.walk F60.fn ?_
  refine WC.start fun S0 em en hz => ?_
  have hot0 := kt0.rdS em hz
  refine WC.seq ?_
  refine WC.region ?_
  refine WO.asg rfl ?_
  refine WO.asg rfl ?_
  refine WO.nil ?_
  refine thenL_n ?_
  refine WC.seq ?_
  refine WC.seq ?_
  refine WC.region ?_
  refine WO.mv rfl ?_
  obtain ⟨r1, e2, h⟩ := bindS h
  refine WO.callE (S := S0) rfl rfl (F133_ok e2 hot0.vw) (fun S3 c4 => ?_)
  have hot0 := hot0.to c4
  refine WO.asg rfl ?_
  refine WO.nil ?_
  refine thenL_n ?_
  refine WC.seq ?_
  refine WC.region ?_
  refine WO.mv rfl ?_
  refine WO.bin rfl rfl (by decide) (by decide) rfl ?_
  refine WO.nil ?_
  refine thenL_n ?_
  refine WC.cond rfl (fun q5 => ?_) (fun q5 => ?_)
  · have h := iteT q5 h
    refine WC.seq ?_
    refine WC.region ?_
    refine WO.mv rfl ?_
    refine WO.asg rfl ?_
    refine WO.asg rfl ?_
    refine WO.nil ?_
    refine thenL_n ?_
    refine WC.ret ?_
    refine thenL_r ?_
    obtain rfl := someI h
    exact ⟨.inr rfl, _, _, rfl, rfl, ⟨.nils, rfl, Fr.nil⟩⟩
  · have h := iteF q5 h
    refine WC.skip ?_
    refine thenL_n ?_
    refine WC.seq ?_
    refine WC.region ?_
    refine WO.mv rfl ?_
    refine WO.lenS rfl hot0.slv rfl ?_
    obtain ⟨L6, e7, h⟩ := bindS h
    refine WO.mkS (A := Y3) (S := S3) 2 rfl rfl e7 rfl rfl rfl (fun v8 S9 c10 ho11 => ?_)
    have hot0 := hot0.to c10
    refine WO.asg rfl ?_
    refine WO.nil ?_
    refine thenL_n ?_
    refine WC.seq ?_
    refine WC.seq ?_
    refine WC.region ?_
    refine WO.mv rfl ?_
    refine WO.lenS rfl hot0.slv rfl ?_
    refine WO.mv rfl ?_
    refine WO.nil ?_
    refine thenL_n ?_
    refine WC.block ?_
    obtain ⟨b43, e44, h⟩ := bindS h
    refine WC.loopD e44 (fun s12 l' m' n' => ∃ S13 : Cx n, S13.m = m' ∧ S13.n = n' ∧ Cov l' [(0, .sc vt0), (5, .sc v8), (18, .sc vt0), (19, .sc (.int .i64 ((t0.length : Int)))), (20, .sc (.int .i64 s12.1))] ∧ Rd Y3 S13 vt0 t0 ∧ Ow Y3 S13 2 v8 s12.2) (fun b e l' m' n' => e = .exit 0 ∧ ∃ S14 : Cx n, S14.m = m' ∧ S14.n = n' ∧ Cov l' [(5, .sc v8)] ∧ Ow Y3 S14 2 v8 b) (by exact ⟨S9, rfl, rfl, (Cov.cons rfl (Cov.cons rfl (Cov.cons rfl (Cov.cons rfl (Cov.cons rfl (Cov.nil _)))))), hot0, ho11⟩) ?_ ?_
    · clear h
      rintro s12 q _ _ _ ⟨S15, rfl, rfl, hc16, hot0, ho11⟩ h
      unfold F60_l1 at h
      refine WC.cov hc16 ?_
      refine WC.seq ?_
      refine WC.region ?_
      refine WO.bin rfl rfl (by decide) (by decide) rfl ?_
      refine WO.nil ?_
      refine thenL_n ?_
      refine WC.seq ?_
      refine WC.cond rfl (fun q17 => ?_) (fun q17 => ?_)
      · have h := iteT q17 h
        refine WC.skip ?_
        refine thenL_n ?_
        refine WC.seq ?_
        refine WC.block ?_
        refine WC.seq ?_
        refine WC.region ?_
        refine WO.mv rfl ?_
        obtain ⟨x18, e19, h⟩ := bindS h
        refine WO.ixS rfl rfl hot0.slv (at?_lt e19) rfl ?_
        refine WO.ldF rfl hot0.ro (fun _ hi => hi) (at?_get e19) rfl rfl rfl ?_
        refine WO.asg rfl ?_
        refine WO.asg rfl ?_
        refine WO.nil ?_
        refine thenL_n ?_
        refine WC.seq ?_
        refine WC.region ?_
        refine WO.mv rfl ?_
        refine WO.mv rfl ?_
        refine WO.bin rfl rfl (by decide) (by decide) rfl ?_
        obtain ⟨L20, e21, h⟩ := bindS h
        refine WO.slc (k' := .i64) rfl (.inl ⟨_, rfl, rfl⟩) (.inr ⟨rfl, rfl⟩) hot0 e21 rfl (fun v22 ho23 => ?_)
        have ho23 : Rd Y3 S15 v22 L20 := ho23
        refine WO.lenS rfl ho23.slv rfl ?_
        refine WO.mv rfl ?_
        refine WO.nil ?_
        refine thenL_n ?_
        refine WC.block ?_
        obtain ⟨b39, e40, h⟩ := bindS h
        refine WC.loopD e40 (fun s24 l' m' n' => ∃ S25 : Cx n, S25.m = m' ∧ S25.n = n' ∧ Cov l' [(0, .sc vt0), (5, .sc v8), (6, .sc (.int .i64 s12.1)), (7, .sc (.int .i64 x18)), (18, .sc vt0), (19, .sc (.int .i64 ((t0.length : Int)))), (20, .sc (.int .i64 s12.1)), (28, .sc v22), (29, .sc (.int .i64 ((L20.length : Int)))), (30, .sc (.int .i64 s24.1))] ∧ Rd Y3 S25 vt0 t0 ∧ Ow Y3 S25 2 v8 s24.2 ∧ Rd Y3 S25 v22 L20) (fun b e l' m' n' => e = .exit 2 ∧ ∃ S26 : Cx n, S26.m = m' ∧ S26.n = n' ∧ Cov l' [(0, .sc vt0), (5, .sc v8), (18, .sc vt0), (19, .sc (.int .i64 ((t0.length : Int)))), (20, .sc (.int .i64 s12.1))] ∧ Rd Y3 S26 vt0 t0 ∧ Ow Y3 S26 2 v8 b) (by exact ⟨S15, rfl, rfl, (Cov.cons rfl (Cov.cons rfl (Cov.cons rfl (Cov.cons rfl (Cov.cons rfl (Cov.cons rfl (Cov.cons rfl (Cov.cons rfl (Cov.cons rfl (Cov.cons rfl (Cov.nil _))))))))))), hot0, ho11, ho23⟩) ?_ ?_
        · clear h
          rintro s24 q _ _ _ ⟨S27, rfl, rfl, hc28, hot0, ho11, ho23⟩ h
          unfold F60_l0 at h
          refine WC.cov hc28 ?_
          refine WC.seq ?_
          refine WC.region ?_
          refine WO.bin rfl rfl (by decide) (by decide) rfl ?_
          refine WO.nil ?_
          refine thenL_n ?_
          refine WC.seq ?_
          refine WC.cond rfl (fun q29 => ?_) (fun q29 => ?_)
          · have h := iteT q29 h
            refine WC.skip ?_
            refine thenL_n ?_
            refine WC.seq ?_
            refine WC.block ?_
            refine WC.seq ?_
            refine WC.region ?_
            obtain ⟨x30, e31, h⟩ := bindS h
            refine WO.ixS rfl rfl ho23.slv (at?_lt e31) rfl ?_
            refine WO.ldF rfl ho23.ro (fun _ hi => hi) (at?_get e31) rfl rfl rfl ?_
            refine WO.asg rfl ?_
            refine WO.nil ?_
            refine thenL_n ?_
            refine WC.seq ?_
            refine WC.region ?_
            refine WO.mv rfl ?_
            refine WO.mv rfl ?_
            refine WO.bin rfl rfl (by decide) (by decide) rfl ?_
            refine WO.nil ?_
            refine thenL_n ?_
            refine WC.cond rfl (fun q32 => ?_) (fun q32 => ?_)
            · have h := iteT q32 h
              refine WC.region ?_
              refine WO.mv rfl ?_
              refine WO.mv rfl ?_
              obtain ⟨x33, e34, h⟩ := bindS h
              refine WO.ixS rfl rfl ho11.slv (at?_lt e34) rfl ?_
              refine WO.ldF rfl ho11.ro (fun _ hi => hi) (at?_get e34) rfl rfl rfl ?_
              refine WO.bin rfl rfl (by decide) (by decide) rfl ?_
              obtain ⟨u35, e36, h⟩ := bindS h
              refine WO.ixS rfl rfl ho11.slv (ck_some e36) rfl ?_
              refine WO.st1 (u' := (wrapA .i64 (x33 + 1))) rfl rfl ho11 (ck_nat e36) rfl rfl (fun S37 c38 ho11 => ?_)
              have hot0 := hot0.to c38
              have ho23 := ho23.to c38
              refine WO.nil ?_
              refine blockL_n ?_
              refine thenL_n ?_
              refine WC.region ?_
              refine WO.bin rfl rfl (by decide) (by decide) rfl ?_
              refine WO.mv rfl ?_
              refine WO.nil ?_
              refine thenL_n ?_
              obtain rfl := someI h
              exact ⟨_, rfl, ⟨S37, rfl, rfl, (Cov.cons rfl (Cov.cons rfl (Cov.cons rfl (Cov.cons rfl (Cov.cons rfl (Cov.cons rfl (Cov.cons rfl (Cov.cons rfl (Cov.cons rfl (Cov.cons rfl (Cov.nil _))))))))))), hot0, ho11, ho23⟩⟩
            · have h := iteF q32 h
              refine WC.skip ?_
              refine blockL_n ?_
              refine thenL_n ?_
              refine WC.region ?_
              refine WO.bin rfl rfl (by decide) (by decide) rfl ?_
              refine WO.mv rfl ?_
              refine WO.nil ?_
              refine thenL_n ?_
              obtain rfl := someI h
              exact ⟨_, rfl, ⟨S27, rfl, rfl, (Cov.cons rfl (Cov.cons rfl (Cov.cons rfl (Cov.cons rfl (Cov.cons rfl (Cov.cons rfl (Cov.cons rfl (Cov.cons rfl (Cov.cons rfl (Cov.cons rfl (Cov.nil _))))))))))), hot0, ho11, ho23⟩⟩
          · have h := iteF q29 h
            refine WC.exit ?_
            refine thenL_e ?_
            refine thenL_e ?_
            obtain rfl := someI h
            exact ⟨_, rfl, rfl, ⟨S27, rfl, rfl, (Cov.cons rfl (Cov.cons rfl (Cov.cons rfl (Cov.cons rfl (Cov.cons rfl (Cov.nil _)))))), hot0, ho11⟩⟩
        rintro _ _ _ _ ⟨rfl, ⟨S41, rfl, rfl, hc42, hot0, ho11⟩⟩
        refine blockL_s ?_
        refine blockL_n ?_
        refine thenL_n ?_
        refine WC.cov hc42 ?_
        refine WC.region ?_
        refine WO.bin rfl rfl (by decide) (by decide) rfl ?_
        refine WO.mv rfl ?_
        refine WO.nil ?_
        refine thenL_n ?_
        obtain rfl := someI h
        exact ⟨_, rfl, ⟨S41, rfl, rfl, (Cov.cons rfl (Cov.cons rfl (Cov.cons rfl (Cov.cons rfl (Cov.cons rfl (Cov.nil _)))))), hot0, ho11⟩⟩
      · have h := iteF q17 h
        refine WC.exit ?_
        refine thenL_e ?_
        refine thenL_e ?_
        obtain rfl := someI h
        exact ⟨_, rfl, rfl, ⟨S15, rfl, rfl, (Cov.cons rfl (Cov.nil _)), ho11⟩⟩
    rintro _ _ _ _ ⟨rfl, ⟨S45, rfl, rfl, hc46, ho11⟩⟩
    refine blockL_s ?_
    refine thenL_n ?_
    refine WC.cov hc46 ?_
    refine WC.seq ?_
    refine WC.region ?_
    refine WO.mv rfl ?_
    refine WO.asg rfl ?_
    refine WO.asg rfl ?_
    refine WO.nil ?_
    refine thenL_n ?_
    refine WC.ret ?_
    obtain rfl := someI h
    exact ⟨.inr rfl, _, _, rfl, rfl, ⟨v8, rfl, (ho11.fr Lay.flat_fl)⟩⟩
end Go.Proofs.Ytdkmepeolmdccaa

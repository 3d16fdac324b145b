/- The machine answers F35: printed by a program of ours (gen.py). -/
import Derived.Test.YtdkmepeolmdccaaDef
import Derived.Test.YtdkmepeolmdccaaEnv
import Derived.Test.YtdkmepeolmdccaaF40
import Derived.Test.YtdkmepeolmdccaaF95
set_option linter.unusedVariables false
namespace Go.Proofs.Ytdkmepeolmdccaa
open Go.Am
theorem F35.fn : E.fn 35 = some ⟨45, (Try.f35.body.getD .skip), Try.f35.results.toList, [7]⟩ := rfl
theorem F35_ok {F : Nat} {m : Mem} {n : Nat} {r : (List Int) × Int} {t0 : List Int} {vt0 : SV} (h : F35 F t0 = some r) (kt0 : Vw Y3 n m vt0 t0) : Ret E n 35 [.sc vt0] m n (fun v m' n' => ∃ w, v = .tup [.sc w, .sc (.int .i64 r.2)] ∧ Fr Y3 n m' n' w r.1) := by
  unfold F35 at h
  refine Ret.walk F35.fn ?_
  refine WC.start fun S0 em en hz => ?_
  have hot0 := kt0.rdS em hz
  refine WC.seq ?_
  refine WC.region ?_
  refine WO.asg rfl ?_
  refine WO.asg rfl ?_
  refine WO.nil ?_
  refine thenL_n ?_
  refine WC.seq ?_
  refine WC.seq ?_
  refine WC.region ?_
  refine WO.mv rfl ?_
  obtain ⟨r1, e2, h⟩ := bindS h
  refine WO.callE (S := S0) rfl rfl (F40_ok e2 hot0.vw) (fun S3 c4 => ?_)
  have hot0 := hot0.to c4
  refine WO.asg rfl ?_
  refine WO.nil ?_
  refine thenL_n ?_
  refine WC.seq ?_
  refine WC.region ?_
  refine WO.mv rfl ?_
  refine WO.bin rfl rfl (by decide) (by decide) rfl ?_
  refine WO.nil ?_
  refine thenL_n ?_
  refine WC.cond rfl (fun q5 => ?_) (fun q5 => ?_)
  · have h := iteT q5 h
    refine WC.seq ?_
    refine WC.region ?_
    refine WO.mv rfl ?_
    refine WO.asg rfl ?_
    refine WO.asg rfl ?_
    refine WO.nil ?_
    refine thenL_n ?_
    refine WC.ret ?_
    refine thenL_r ?_
    obtain rfl := someI h
    exact ⟨.inr rfl, _, _, rfl, rfl, ⟨.nils, rfl, Fr.nil⟩⟩
  · have h := iteF q5 h
    refine WC.skip ?_
    refine thenL_n ?_
    refine WC.seq ?_
    refine WC.seq ?_
    refine WC.region ?_
    refine WO.mv rfl ?_
    refine WO.lenS rfl hot0.slv rfl ?_
    refine WO.bin rfl rfl (by decide) (by decide) rfl ?_
    refine WO.asg rfl ?_
    refine WO.nil ?_
    refine thenL_n ?_
    refine WC.block ?_
    obtain ⟨b44, e45, h⟩ := bindS h
    refine WC.loopD e45 (fun s6 l' m' n' => ∃ S7 : Cx n, S7.m = m' ∧ S7.n = n' ∧ Cov l' [(0, .sc vt0), (5, .sc (.int .i64 s6))] ∧ Rd Y3 S7 vt0 t0) (fun b e l' m' n' => (match b with | .inl b8 => e = .exit 0 ∧ ∃ S9 : Cx n, S9.m = m' ∧ S9.n = n' ∧ Cov l' [] | .inr b8 => e = .ret ∧ ∃ S10 : Cx n, ∃ v11 : SV, S10.m = m' ∧ S10.n = n' ∧ Cov l' [(2, .sc v11), (3, .sc (.int .i64 b8.2))] ∧ Ow Y3 S10 2 v11 b8.1)) (by exact ⟨S3, rfl, rfl, (Cov.cons rfl (Cov.cons rfl (Cov.nil _))), hot0⟩) ?_ ?_
    · clear h
      rintro s6 q _ _ _ ⟨S12, rfl, rfl, hc13, hot0⟩ h
      unfold F35_l0 at h
      refine WC.cov hc13 ?_
      refine WC.seq ?_
      refine WC.seq ?_
      refine WC.region ?_
      refine WO.mv rfl ?_
      refine WO.bin rfl rfl (by decide) (by decide) rfl ?_
      refine WO.nil ?_
      refine thenL_n ?_
      refine WC.cond rfl (fun q14 => ?_) (fun q14 => ?_)
      · have h := iteT q14 h
        refine WC.skip ?_
        refine thenL_n ?_
        refine WC.seq ?_
        refine WC.block ?_
        refine WC.seq ?_
        refine WC.drawN rfl ?_
        have hot0z := hot0.oz
        refine WO.mv rfl ?_
        refine WO.mv rfl ?_
        obtain ⟨x15, e16, h⟩ := bindS h
        refine WO.ixS rfl rfl hot0.slv (at?_lt e16) rfl ?_
        refine WO.ldF rfl hot0z (fun _ hi => hi.1) (at?_get e16) rfl rfl (limLe_self _) ?_
        refine WO.mv rfl ?_
        refine WO.mv rfl ?_
        obtain ⟨L17, e18, h⟩ := bindS h
        refine WO.slc (k := .i64) rfl (.inr ⟨rfl, rfl⟩) (.inl ⟨_, rfl, rfl⟩) hot0 e18 rfl (fun v19 ho20 => ?_)
        have ho20 : Rd Y3 S12 v19 L17 := ho20
        obtain ⟨r21, e22, h⟩ := bindS h
        refine WO.callE (S := S12) rfl rfl (F95_ok e22 ho20.vw) (fun S23 c24 => ?_)
        have hot0z := hot0z.toz c24
        have hot0 := hot0.to c24
        have ho20 := ho20.to c24
        refine WO.bin rfl rfl (by decide) (by decide) rfl ?_
        refine WO.nil ?_
        refine thenL_n ?_
        refine WC.cond rfl (fun q25 => ?_) (fun q25 => ?_)
        · have h := iteT q25 h
          refine WC.seq ?_
          refine WC.region ?_
          refine WO.mv rfl ?_
          refine WO.lenS rfl hot0.slv rfl ?_
          obtain ⟨L26, e27, h⟩ := bindS h
          refine WO.mkS (A := Y3) (S := S23) 3 rfl rfl e27 rfl rfl rfl (fun v28 S29 c30 ho31 => ?_)
          have hot0 := hot0.to c30
          have ho20 := ho20.to c30
          refine WO.asg rfl ?_
          refine WO.nil ?_
          refine thenL_n ?_
          refine WC.seq ?_
          refine WC.region ?_
          refine WO.mv rfl ?_
          refine WO.mv rfl ?_
          refine WO.mv rfl ?_
          obtain ⟨L32, e33, h⟩ := bindS h
          refine WO.slc (k := .i64) rfl (.inr ⟨rfl, rfl⟩) (.inl ⟨_, rfl, rfl⟩) hot0 e33 rfl (fun v34 ho35 => ?_)
          have ho35 : Rd Y3 S29 v34 L32 := ho35
          refine WO.cpS rfl rfl ho31 ho35.ro rfl rfl (fun S36 c37 ho31 => ?_)
          have hot0 := hot0.to c37
          have ho20 := ho20.to c37
          have ho35 := ho35.to c37
          refine WO.nil ?_
          refine thenL_n ?_
          refine WC.seq ?_
          refine WC.region ?_
          refine WO.mv rfl ?_
          refine WO.mv rfl ?_
          refine WO.mv rfl ?_
          refine WO.mv rfl ?_
          obtain ⟨x38, e39, h⟩ := bindS h
          refine WO.ixS rfl rfl hot0.slv (at?_lt e39) rfl ?_
          refine WO.ldF rfl hot0.ro (fun _ hi => hi) (at?_get e39) rfl rfl rfl ?_
          refine WO.bin rfl rfl (by decide) (by decide) rfl ?_
          obtain ⟨u40, e41, h⟩ := bindS h
          refine WO.ixS rfl rfl ho31.slv (ck_some e41) rfl ?_
          refine WO.st1 (u' := (wrapA .i64 (x38 + 1))) rfl rfl ho31 (ck_nat e41) rfl rfl (fun S42 c43 ho31 => ?_)
          have hot0 := hot0.to c43
          have ho20 := ho20.to c43
          have ho35 := ho35.to c43
          refine WO.nil ?_
          refine thenL_n ?_
          refine WC.seq ?_
          refine WC.region ?_
          refine WO.mv rfl ?_
          refine WO.asg rfl ?_
          refine WO.asg rfl ?_
          refine WO.nil ?_
          refine thenL_n ?_
          refine WC.ret ?_
          refine blockL_r ?_
          refine thenL_r ?_
          refine thenL_r ?_
          have ho31 := ho31.ren (j := 2)
          obtain rfl := someI h
          exact ⟨_, rfl, rfl, ⟨(S42.ren 3 2), v28, rfl, rfl, (Cov.cons rfl (Cov.cons rfl (Cov.nil _))), ho31⟩⟩
        · have h := iteF q25 h
          refine WC.skip ?_
          refine blockL_n ?_
          refine thenL_n ?_
          refine WC.region ?_
          refine WO.mv rfl ?_
          refine WO.bin rfl rfl (by decide) (by decide) rfl ?_
          refine WO.asg rfl ?_
          refine WO.nil ?_
          refine thenL_n ?_
          obtain rfl := someI h
          exact ⟨_, rfl, ⟨S23, rfl, rfl, (Cov.cons rfl (Cov.cons rfl (Cov.nil _))), hot0⟩⟩
      · have h := iteF q14 h
        refine WC.exit ?_
        refine thenL_e ?_
        refine thenL_e ?_
        obtain rfl := someI h
        exact ⟨_, rfl, rfl, ⟨S12, rfl, rfl, (Cov.nil _)⟩⟩
    cases b44 with
    | inl b46 =>
      simp only at h
      rintro _ _ _ _ ⟨rfl, ⟨S47, rfl, rfl, hc48⟩⟩
      refine blockL_s ?_
      refine thenL_n ?_
      refine WC.cov hc48 ?_
      refine WC.seq ?_
      refine WC.region ?_
      refine WO.asg rfl ?_
      refine WO.asg rfl ?_
      refine WO.nil ?_
      refine thenL_n ?_
      refine WC.ret ?_
      obtain rfl := someI h
      exact ⟨.inr rfl, _, _, rfl, rfl, ⟨.nils, rfl, Fr.nil⟩⟩
    | inr b46 =>
      simp only at h
      rintro _ _ _ _ ⟨rfl, ⟨S49, v50, rfl, rfl, hc51, ho2⟩⟩
      refine blockL_r ?_
      refine thenL_r ?_
      obtain rfl := someI h
      exact ⟨.inr rfl, _, _, (resK_cov hc51 rfl), rfl, ⟨v50, rfl, (ho2.fr Lay.flat_fl)⟩⟩
end Go.Proofs.Ytdkmepeolmdccaa

/- The machine answers F41: printed by a program of ours (gen.py). -/
import Derived.Test.YtdkmepeolmdccaaDef
import Derived.Test.YtdkmepeolmdccaaEnv
import Derived.Test.YtdkmepeolmdccaaF117
import Derived.Test.YtdkmepeolmdccaaF30
set_option linter.unusedVariables false
namespace Go.Proofs.Ytdkmepeolmdccaa
open Go.Am
theorem F41.fn : E.fn 41 = some ⟨39, (Try.f41.body.getD .skip), Try.f41.results.toList, [5]⟩ := rfl
theorem F41_ok {F : Nat} {m : Mem} {n : Nat} {r : (List Int) × Bool} {t0 : List Int} {vt0 : SV} (h : F41 F t0 = some r) (kt0 : Vw Y3 n m vt0 t0) : Ret E n 41 [.sc vt0] m n (fun v m' n' => ∃ w, v = .tup [.sc w, .sc (.bool r.2)] ∧ Fr Y3 n m' n' w r.1) := by
  unfold F41 at h
  refine Ret.walk F41.fn ?_
  refine WC.start fun S0 em en hz => ?_
  have hot0 := kt0.rdS em hz
  refine WC.seq ?_
  refine WC.region ?_
  refine WO.asg rfl ?_
  refine WO.asg rfl ?_
  refine WO.nil ?_
  refine thenL_n ?_
  refine WC.seq ?_
  refine WC.seq ?_
  refine WC.region ?_
  refine WO.mv rfl ?_
  refine WO.lenS rfl hot0.slv rfl ?_
  refine WO.bin rfl rfl (by decide) (by decide) rfl ?_
  refine WO.asg rfl ?_
  refine WO.nil ?_
  refine thenL_n ?_
  refine WC.block ?_
  obtain ⟨b49, e50, h⟩ := bindS h
  refine WC.loopD e50 (fun s1 l' m' n' => ∃ S2 : Cx n, S2.m = m' ∧ S2.n = n' ∧ Cov l' [(0, .sc vt0), (4, .sc (.int .i64 s1))] ∧ Rd Y3 S2 vt0 t0) (fun b e l' m' n' => (match b with | .inl b3 => e = .exit 0 ∧ ∃ S4 : Cx n, S4.m = m' ∧ S4.n = n' ∧ Cov l' [] | .inr b3 => e = .ret ∧ ∃ S5 : Cx n, ∃ v6 : SV, S5.m = m' ∧ S5.n = n' ∧ Cov l' [(2, .sc v6), (3, .sc (.bool b3.2))] ∧ Ow Y3 S5 2 v6 b3.1)) (by exact ⟨S0, rfl, rfl, (Cov.cons rfl (Cov.cons rfl (Cov.nil _))), hot0⟩) ?_ ?_
  · clear h
    rintro s1 q _ _ _ ⟨S7, rfl, rfl, hc8, hot0⟩ h
    unfold F41_l0 at h
    refine WC.cov hc8 ?_
    refine WC.seq ?_
    refine WC.seq ?_
    refine WC.region ?_
    refine WO.mv rfl ?_
    refine WO.bin rfl rfl (by decide) (by decide) rfl ?_
    refine WO.nil ?_
    refine thenL_n ?_
    refine WC.cond rfl (fun q9 => ?_) (fun q9 => ?_)
    · have h := iteT q9 h
      refine WC.skip ?_
      refine thenL_n ?_
      refine WC.seq ?_
      refine WC.block ?_
      refine WC.seq ?_
      refine WC.drawN rfl ?_
      have hot0z := hot0.oz
      refine WO.mv rfl ?_
      refine WO.mv rfl ?_
      obtain ⟨L10, e11, h⟩ := bindS h
      refine WO.slc (k := .i64) rfl (.inr ⟨rfl, rfl⟩) (.inl ⟨_, rfl, rfl⟩) hot0 e11 rfl (fun v12 ho13 => ?_)
      have ho13 : Rd Y3 S7 v12 L10 := ho13
      refine WO.mv rfl ?_
      refine WO.mv rfl ?_
      obtain ⟨x14, e15, h⟩ := bindS h
      refine WO.ixS rfl rfl hot0.slv (at?_lt e15) rfl ?_
      refine WO.ldF rfl hot0z (fun _ hi => hi.1) (at?_get e15) rfl rfl (limLe_self _) ?_
      obtain ⟨r16, e17, h⟩ := bindS h
      refine WO.callE (S := S7) rfl rfl (F117_ok e17 ho13.vw) (fun S18 c19 => ?_)
      have hot0z := hot0z.toz c19
      have hot0 := hot0.to c19
      have ho13 := ho13.to c19
      refine WO.nil ?_
      refine thenL_n ?_
      refine WC.cond rfl (fun q20 => ?_) (fun q20 => ?_)
      · have h := iteT q20 h
        refine WC.seq ?_
        refine WC.drawN rfl ?_
        have hot0z := hot0.oz
        have ho13z := ho13.oz
        refine WO.mv rfl ?_
        refine WO.mv rfl ?_
        obtain ⟨L21, e22, h⟩ := bindS h
        refine WO.slc (k := .i64) rfl (.inr ⟨rfl, rfl⟩) (.inl ⟨_, rfl, rfl⟩) hot0 e22 rfl (fun v23 ho24 => ?_)
        have ho24 : Rd Y3 S18 v23 L21 := ho24
        obtain ⟨r25, e26, h⟩ := bindS h
        refine WO.callF (S := S18) 3 rfl rfl (F30_ok e26 ho24.vw) Lay.flat_fl (fun v27 S29 c30 ho28 => ?_)
        have hot0z := hot0z.toz c30
        have ho13z := ho13z.toz c30
        have hot0 := hot0.to c30
        have ho13 := ho13.to c30
        have ho24 := ho24.to c30
        refine WO.mv rfl ?_
        refine WO.mv rfl ?_
        obtain ⟨x31, e32, h⟩ := bindS h
        refine WO.ixS rfl rfl hot0.slv (at?_lt e32) rfl ?_
        refine WO.ldF rfl hot0z (fun _ hi => hi.1) (at?_get e32) rfl rfl (limLe_self _) ?_
        refine WO.bin rfl rfl (by decide) (by decide) rfl ?_
        refine WO.bsS (A := Y3) (S := S29) (M := [(wrapA .i64 (x31 + 1))]) (cs := [.int .i64 ((wrapA .i64 (x31 + 1)))]) 4 rfl rfl rfl ⟨[.int .i64 ((wrapA .i64 (x31 + 1)))], _, rfl, rfl, rfl⟩ rfl (fun v33 S34 c35 ho36 => ?_)
        have hot0z := hot0z.toz c35
        have ho13z := ho13z.toz c35
        have hot0 := hot0.to c35
        have ho13 := ho13.to c35
        have ho24 := ho24.to c35
        have ho28 := ho28.to c35
        obtain ⟨L37, e38, h⟩ := bindS h
        refine WO.appS rfl rfl ho28 ho36.ro e38 rfl rfl (fun v39 S40 c41 ho42 => ?_)
        have hot0z := hot0z.toz c41
        have ho13z := ho13z.toz c41
        have hot0 := hot0.to c41
        have ho13 := ho13.to c41
        have ho24 := ho24.to c41
        have ho36 := ho36.to c41
        refine WO.asg rfl ?_
        refine WO.nil ?_
        refine thenL_n ?_
        refine WC.seq ?_
        refine WC.region ?_
        refine WO.mv rfl ?_
        refine WO.mv rfl ?_
        refine WO.lenS rfl hot0.slv rfl ?_
        refine WO.mv rfl ?_
        refine WO.bin rfl rfl (by decide) (by decide) rfl ?_
        refine WO.bin rfl rfl (by decide) (by decide) rfl ?_
        obtain ⟨L43, e44, h⟩ := bindS h
        refine WO.appZ rfl rfl ho42 rfl e44 rfl rfl rfl rfl rfl (fun v45 S46 c47 ho48 => ?_)
        have hot0 := hot0.to c47
        have ho13 := ho13.to c47
        have ho24 := ho24.to c47
        have ho36 := ho36.to c47
        refine WO.asg rfl ?_
        refine WO.asg rfl ?_
        refine WO.nil ?_
        refine thenL_n ?_
        refine WC.ret ?_
        refine blockL_r ?_
        refine thenL_r ?_
        refine thenL_r ?_
        have ho48 := ho48.ren (j := 2)
        obtain rfl := someI h
        exact ⟨_, rfl, rfl, ⟨(S46.ren 3 2), v45, rfl, rfl, (Cov.cons rfl (Cov.cons rfl (Cov.nil _))), ho48⟩⟩
      · have h := iteF q20 h
        refine WC.skip ?_
        refine blockL_n ?_
        refine thenL_n ?_
        refine WC.region ?_
        refine WO.mv rfl ?_
        refine WO.bin rfl rfl (by decide) (by decide) rfl ?_
        refine WO.asg rfl ?_
        refine WO.nil ?_
        refine thenL_n ?_
        obtain rfl := someI h
        exact ⟨_, rfl, ⟨S18, rfl, rfl, (Cov.cons rfl (Cov.cons rfl (Cov.nil _))), hot0⟩⟩
    · have h := iteF q9 h
      refine WC.exit ?_
      refine thenL_e ?_
      refine thenL_e ?_
      obtain rfl := someI h
      exact ⟨_, rfl, rfl, ⟨S7, rfl, rfl, (Cov.nil _)⟩⟩
  cases b49 with
  | inl b51 =>
    simp only at h
    rintro _ _ _ _ ⟨rfl, ⟨S52, rfl, rfl, hc53⟩⟩
    refine blockL_s ?_
    refine thenL_n ?_
    refine WC.cov hc53 ?_
    refine WC.seq ?_
    refine WC.region ?_
    refine WO.asg rfl ?_
    refine WO.asg rfl ?_
    refine WO.nil ?_
    refine thenL_n ?_
    refine WC.ret ?_
    obtain rfl := someI h
    exact ⟨.inr rfl, _, _, rfl, rfl, ⟨.nils, rfl, Fr.nil⟩⟩
  | inr b51 =>
    simp only at h
    rintro _ _ _ _ ⟨rfl, ⟨S54, v55, rfl, rfl, hc56, ho2⟩⟩
    refine blockL_r ?_
    refine thenL_r ?_
    obtain rfl := someI h
    exact ⟨.inr rfl, _, _, (resK_cov hc56 rfl), rfl, ⟨v55, rfl, (ho2.fr Lay.flat_fl)⟩⟩
end Go.Proofs.Ytdkmepeolmdccaa

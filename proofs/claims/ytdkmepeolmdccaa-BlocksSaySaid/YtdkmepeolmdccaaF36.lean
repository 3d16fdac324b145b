/- The machine answers F36: printed by a program of ours (gen.py). -/
import Derived.Test.YtdkmepeolmdccaaDef
import Derived.Test.YtdkmepeolmdccaaEnv
import Derived.Test.YtdkmepeolmdccaaF116
set_option linter.unusedVariables false
namespace Go.Proofs.Ytdkmepeolmdccaa
open Go.Am
theorem F36.fn : E.fn 36 = some ⟨35, (Try.f36.body.getD .skip), Try.f36.results.toList, []⟩ := rfl
theorem F36_ok {F : Nat} {m : Mem} {n : Nat} {r : (List Int) × Int} {t0 : List Int} {vt0 : SV} (h : F36 F t0 = some r) (kt0 : Vw Y3 n m vt0 t0) : Ret E n 36 [.sc vt0] m n (fun v m' n' => ∃ w, v = .tup [.sc w, .sc (.int .i64 r.2)] ∧ Fr Y3 n m' n' w r.1) := by
  unfold F36 at h
  refine Ret.walk F36.fn ?_
  refine WC.start fun S0 em en hz => ?_
  have hot0 := kt0.rdS em hz
  refine WC.seq ?_
  refine WC.region ?_
  refine WO.asg rfl ?_
  refine WO.asg rfl ?_
  refine WO.nil ?_
  refine thenL_n ?_
  refine WC.seq ?_
  refine WC.seq ?_
  refine WC.region ?_
  refine WO.mv rfl ?_
  refine WO.lenS rfl hot0.slv rfl ?_
  refine WO.bin rfl rfl (by decide) (by decide) rfl ?_
  refine WO.nil ?_
  refine thenL_n ?_
  refine WC.cond rfl (fun q1 => ?_) (fun q1 => ?_)
  · have h := iteT q1 h
    refine WC.seq ?_
    refine WC.region ?_
    refine WO.asg rfl ?_
    refine WO.asg rfl ?_
    refine WO.nil ?_
    refine thenL_n ?_
    refine WC.ret ?_
    refine thenL_r ?_
    obtain rfl := someI h
    exact ⟨.inr rfl, _, _, rfl, rfl, ⟨.nils, rfl, Fr.nil⟩⟩
  · have h := iteF q1 h
    refine WC.skip ?_
    refine thenL_n ?_
    refine WC.seq ?_
    refine WC.region ?_
    refine WO.asg rfl ?_
    refine WO.asg rfl ?_
    refine WO.nil ?_
    refine thenL_n ?_
    refine WC.seq ?_
    refine WC.seq ?_
    refine WC.region ?_
    refine WO.mv rfl ?_
    refine WO.lenS rfl hot0.slv rfl ?_
    refine WO.mv rfl ?_
    refine WO.nil ?_
    refine thenL_n ?_
    refine WC.block ?_
    obtain ⟨b52, e53, h⟩ := bindS h
    refine WC.loopD e53 (fun s2 l' m' n' => ∃ S5 : Cx n, ∃ v6 v7 : SV, S5.m = m' ∧ S5.n = n' ∧ Cov l' [(4, .sc v6), (5, .sc v7), (12, .sc vt0), (13, .sc (.int .i64 ((t0.length : Int)))), (14, .sc (.int .i64 s2.2.2))] ∧ Rd Y3 S5 vt0 t0 ∧ Ow Y3 S5 2 v6 s2.1 ∧ Ow Y3 S5 3 v7 s2.2.1) (fun b e l' m' n' => e = .exit 0 ∧ ∃ S8 : Cx n, ∃ v9 : SV, S8.m = m' ∧ S8.n = n' ∧ Cov l' [(5, .sc v9)] ∧ Ow Y3 S8 3 v9 b) (by exact ⟨S0, .nils, .nils, rfl, rfl, (Cov.cons rfl (Cov.cons rfl (Cov.cons rfl (Cov.cons rfl (Cov.cons rfl (Cov.nil _)))))), hot0, Ow.nil, Ow.nil⟩) ?_ ?_
    · clear h
      rintro s2 q _ _ _ ⟨S10, v11, v12, rfl, rfl, hc13, hot0, ho4, ho5⟩ h
      unfold F36_l0 at h
      refine WC.cov hc13 ?_
      refine WC.seq ?_
      refine WC.region ?_
      refine WO.bin rfl rfl (by decide) (by decide) rfl ?_
      refine WO.nil ?_
      refine thenL_n ?_
      refine WC.seq ?_
      refine WC.cond rfl (fun q14 => ?_) (fun q14 => ?_)
      · have h := iteT q14 h
        refine WC.skip ?_
        refine thenL_n ?_
        refine WC.seq ?_
        refine WC.block ?_
        refine WC.seq ?_
        refine WC.region ?_
        obtain ⟨x15, e16, h⟩ := bindS h
        refine WO.ixS rfl rfl hot0.slv (at?_lt e16) rfl ?_
        refine WO.ldF rfl hot0.ro (fun _ hi => hi) (at?_get e16) rfl rfl rfl ?_
        refine WO.asg rfl ?_
        refine WO.nil ?_
        refine thenL_n ?_
        refine WC.seq ?_
        refine WC.region ?_
        refine WO.mv rfl ?_
        refine WO.mv rfl ?_
        obtain ⟨r17, e18, h⟩ := bindS h
        refine WO.callE (S := S10) rfl rfl (F116_ok e18 ho4.vw) (fun S19 c20 => ?_)
        have hot0 := hot0.to c20
        have ho4 := ho4.to c20
        have ho5 := ho5.to c20
        refine WO.asg rfl ?_
        refine WO.nil ?_
        refine thenL_n ?_
        refine WC.seq ?_
        refine WC.seq ?_
        refine WC.region ?_
        refine WO.mv rfl ?_
        refine WO.bin rfl rfl (by decide) (by decide) rfl ?_
        refine WO.nil ?_
        refine thenL_n ?_
        refine WC.cond rfl (fun q21 => ?_) (fun q21 => ?_)
        · have h := iteT q21 h
          refine WC.seq ?_
          refine WC.region ?_
          refine WO.mv rfl ?_
          refine WO.lenS rfl ho4.slv rfl ?_
          refine WO.asg rfl ?_
          refine WO.nil ?_
          refine thenL_n ?_
          refine WC.region ?_
          refine WO.mv rfl ?_
          refine WO.mv rfl ?_
          refine WO.bsS (A := Y3) (S := S19) (M := [x15]) (cs := [.int .i64 x15]) 4 rfl rfl rfl ⟨[.int .i64 x15], _, rfl, rfl, rfl⟩ rfl (fun v22 S23 c24 ho25 => ?_)
          have hot0 := hot0.to c24
          have ho4 := ho4.to c24
          have ho5 := ho5.to c24
          obtain ⟨L26, e27, h⟩ := bindS h
          refine WO.appS rfl rfl ho4 ho25.ro e27 rfl rfl (fun v28 S29 c30 ho31 => ?_)
          have hot0 := hot0.to c30
          have ho5 := ho5.to c30
          have ho25 := ho25.to c30
          refine WO.asg rfl ?_
          refine WO.nil ?_
          refine thenL_n ?_
          refine WC.region ?_
          refine WO.mv rfl ?_
          refine WO.mv rfl ?_
          refine WO.bsS (A := Y3) (S := S29) (M := [(s2.1.length : Int)]) (cs := [.int .i64 ((s2.1.length : Int))]) 5 rfl rfl rfl ⟨[.int .i64 ((s2.1.length : Int))], _, rfl, rfl, rfl⟩ rfl (fun v32 S33 c34 ho35 => ?_)
          have hot0 := hot0.to c34
          have ho5 := ho5.to c34
          have ho25 := ho25.to c34
          have ho31 := ho31.to c34
          obtain ⟨L36, e37, h⟩ := bindS h
          refine WO.appS rfl rfl ho5 ho35.ro e37 rfl rfl (fun v38 S39 c40 ho41 => ?_)
          have hot0 := hot0.to c40
          have ho25 := ho25.to c40
          have ho31 := ho31.to c40
          have ho35 := ho35.to c40
          refine WO.asg rfl ?_
          refine WO.nil ?_
          refine blockL_n ?_
          refine thenL_n ?_
          refine WC.region ?_
          refine WO.bin rfl rfl (by decide) (by decide) rfl ?_
          refine WO.mv rfl ?_
          refine WO.nil ?_
          refine thenL_n ?_
          obtain rfl := someI h
          exact ⟨_, rfl, ⟨S39, v28, v38, rfl, rfl, (Cov.cons rfl (Cov.cons rfl (Cov.cons rfl (Cov.cons rfl (Cov.cons rfl (Cov.nil _)))))), hot0, ho31, ho41⟩⟩
        · have h := iteF q21 h
          refine WC.skip ?_
          refine thenL_n ?_
          refine WC.region ?_
          refine WO.mv rfl ?_
          refine WO.mv rfl ?_
          refine WO.bsS (A := Y3) (S := S19) (M := [r17]) (cs := [.int .i64 r17]) 6 rfl rfl rfl ⟨[.int .i64 r17], _, rfl, rfl, rfl⟩ rfl (fun v42 S43 c44 ho45 => ?_)
          have hot0 := hot0.to c44
          have ho4 := ho4.to c44
          have ho5 := ho5.to c44
          obtain ⟨L46, e47, h⟩ := bindS h
          refine WO.appS rfl rfl ho5 ho45.ro e47 rfl rfl (fun v48 S49 c50 ho51 => ?_)
          have hot0 := hot0.to c50
          have ho4 := ho4.to c50
          have ho45 := ho45.to c50
          refine WO.asg rfl ?_
          refine WO.nil ?_
          refine blockL_n ?_
          refine thenL_n ?_
          refine WC.region ?_
          refine WO.bin rfl rfl (by decide) (by decide) rfl ?_
          refine WO.mv rfl ?_
          refine WO.nil ?_
          refine thenL_n ?_
          obtain rfl := someI h
          exact ⟨_, rfl, ⟨S49, v11, v48, rfl, rfl, (Cov.cons rfl (Cov.cons rfl (Cov.cons rfl (Cov.cons rfl (Cov.cons rfl (Cov.nil _)))))), hot0, ho4, ho51⟩⟩
      · have h := iteF q14 h
        refine WC.exit ?_
        refine thenL_e ?_
        refine thenL_e ?_
        obtain rfl := someI h
        exact ⟨_, rfl, rfl, ⟨S10, v12, rfl, rfl, (Cov.cons rfl (Cov.nil _)), ho5⟩⟩
    rintro _ _ _ _ ⟨rfl, ⟨S54, v55, rfl, rfl, hc56, ho5⟩⟩
    refine blockL_s ?_
    refine thenL_n ?_
    refine WC.cov hc56 ?_
    refine WC.seq ?_
    refine WC.region ?_
    refine WO.mv rfl ?_
    refine WO.asg rfl ?_
    refine WO.asg rfl ?_
    refine WO.nil ?_
    refine thenL_n ?_
    refine WC.ret ?_
    obtain rfl := someI h
    exact ⟨.inr rfl, _, _, rfl, rfl, ⟨v55, rfl, (ho5.fr Lay.flat_fl)⟩⟩
end Go.Proofs.Ytdkmepeolmdccaa

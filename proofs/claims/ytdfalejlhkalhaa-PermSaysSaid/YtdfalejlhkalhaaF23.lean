/- The machine answers F23: printed by a program of ours (gen.py). -/
import Derived.Test.YtdfalejlhkalhaaDef
import Derived.Test.YtdfalejlhkalhaaEnv
import Derived.Test.YtdfalejlhkalhaaF85
import Derived.Test.YtdfalejlhkalhaaF86
set_option linter.unusedVariables false
namespace Go.Proofs.Ytdfalejlhkalhaa
open Go.Am
theorem F23.fn : E.fn 23 = some ⟨43, (Try.f23.body.getD .skip), Try.f23.results.toList, []⟩ := rfl
theorem F23_ok {F : Nat} {m : Mem} {n : Nat} {r : (List Int)} {t0 : List Int} {vt0 : SV} (h : F23 F t0 = some r) (kt0 : Vw Y3 n m vt0 t0) : Ret E n 23 [.sc vt0] m n (fun v m' n' => ∃ w, v = .sc w ∧ Fr Y3 n m' n' w r) := by
  unfold F23 at h
  refine Ret.walk F23.fn ?_
  refine WC.start fun S0 em en hz => ?_
  have hot0 := kt0.rdS em hz
  refine WC.seq ?_
  refine WC.region ?_
  refine WO.asg rfl ?_
  refine WO.nil ?_
  refine thenL_n ?_
  refine WC.seq ?_
  refine WC.region ?_
  refine WO.asg rfl ?_
  refine WO.nil ?_
  refine thenL_n ?_
  refine WC.seq ?_
  refine WC.seq ?_
  refine WC.region ?_
  refine WO.mv rfl ?_
  refine WO.lenS rfl hot0.slv rfl ?_
  refine WO.mv rfl ?_
  refine WO.nil ?_
  refine thenL_n ?_
  refine WC.block ?_
  obtain ⟨b36, e37, h⟩ := bindS h
  refine WC.loopD e37 (fun s1 l' m' n' => ∃ S3 : Cx n, ∃ v4 : SV, S3.m = m' ∧ S3.n = n' ∧ Cov l' [(0, .sc vt0), (3, .sc v4), (9, .sc (.int .i64 ((t0.length : Int)))), (10, .sc (.int .i64 s1.2))] ∧ Rd Y3 S3 vt0 t0 ∧ Ow Y3 S3 2 v4 s1.1) (fun b e l' m' n' => e = .exit 0 ∧ ∃ S5 : Cx n, ∃ v6 : SV, S5.m = m' ∧ S5.n = n' ∧ Cov l' [(3, .sc v6)] ∧ Ow Y3 S5 2 v6 b) (by exact ⟨S0, .nils, rfl, rfl, (Cov.cons rfl (Cov.cons rfl (Cov.cons rfl (Cov.cons rfl (Cov.nil _))))), hot0, Ow.nil⟩) ?_ ?_
  · clear h
    rintro s1 q _ _ _ ⟨S7, v8, rfl, rfl, hc9, hot0, ho3⟩ h
    unfold F23_l1 at h
    refine WC.cov hc9 ?_
    refine WC.seq ?_
    refine WC.region ?_
    refine WO.bin rfl rfl (by decide) (by decide) rfl ?_
    refine WO.nil ?_
    refine thenL_n ?_
    refine WC.seq ?_
    refine WC.cond rfl (fun q10 => ?_) (fun q10 => ?_)
    · have h := iteT q10 h
      refine WC.skip ?_
      refine thenL_n ?_
      refine WC.seq ?_
      refine WC.block ?_
      refine WC.seq ?_
      refine WC.region ?_
      refine WO.mv rfl ?_
      refine WO.asg rfl ?_
      refine WO.nil ?_
      refine thenL_n ?_
      refine WC.seq ?_
      refine WC.region ?_
      refine WO.mv rfl ?_
      refine WO.asg rfl ?_
      refine WO.asg rfl ?_
      refine WO.nil ?_
      refine thenL_n ?_
      refine WC.seq ?_
      refine WC.seq ?_
      refine WC.region ?_
      refine WO.mv rfl ?_
      refine WO.mv rfl ?_
      obtain ⟨x11, e12, h⟩ := bindS h
      refine WO.ixS rfl rfl hot0.slv (at?_lt e12) rfl ?_
      refine WO.ldF rfl hot0.ro (fun _ hi => hi) (at?_get e12) rfl rfl rfl ?_
      refine WO.asg rfl ?_
      refine WO.nil ?_
      refine thenL_n ?_
      refine WC.block ?_
      obtain ⟨b21, e22, h⟩ := bindS h
      refine WC.loopD e22 (fun s13 l' m' n' => ∃ S14 : Cx n, S14.m = m' ∧ S14.n = n' ∧ Cov l' [(0, .sc vt0), (3, .sc v8), (4, .sc (.int .i64 s1.2)), (5, .sc (.int .i64 s13.1)), (6, .sc (.int .i64 s13.2.1)), (7, .sc (.int .i64 s13.2.2)), (9, .sc (.int .i64 ((t0.length : Int)))), (10, .sc (.int .i64 s1.2))] ∧ Rd Y3 S14 vt0 t0 ∧ Ow Y3 S14 2 v8 s1.1) (fun b e l' m' n' => e = .exit 2 ∧ ∃ S15 : Cx n, S15.m = m' ∧ S15.n = n' ∧ Cov l' [(0, .sc vt0), (3, .sc v8), (4, .sc (.int .i64 s1.2)), (5, .sc (.int .i64 b.1)), (6, .sc (.int .i64 b.2)), (9, .sc (.int .i64 ((t0.length : Int)))), (10, .sc (.int .i64 s1.2))] ∧ Rd Y3 S15 vt0 t0 ∧ Ow Y3 S15 2 v8 s1.1) (by exact ⟨S7, rfl, rfl, (Cov.cons rfl (Cov.cons rfl (Cov.cons rfl (Cov.cons rfl (Cov.cons rfl (Cov.cons rfl (Cov.cons rfl (Cov.cons rfl (Cov.nil _))))))))), hot0, ho3⟩) ?_ ?_
      · clear h
        rintro s13 q _ _ _ ⟨S16, rfl, rfl, hc17, hot0, ho3⟩ h
        unfold F23_l0 at h
        refine WC.cov hc17 ?_
        refine WC.seq ?_
        refine WC.seq ?_
        refine WC.region ?_
        refine WO.mv rfl ?_
        refine WO.mv rfl ?_
        refine WO.bin rfl rfl (by decide) (by decide) rfl ?_
        refine WO.nil ?_
        refine thenL_n ?_
        refine WC.cond rfl (fun q18 => ?_) (fun q18 => ?_)
        · have h := iteT q18 h
          refine WC.skip ?_
          refine thenL_n ?_
          refine WC.seq ?_
          refine WC.block ?_
          refine WC.region ?_
          refine WO.mv rfl ?_
          refine WO.bin rfl rfl (by decide) (by decide) rfl ?_
          refine WO.mv rfl ?_
          refine WO.mv rfl ?_
          refine WO.minD rfl rfl ?_
          refine WO.asg rfl ?_
          refine WO.asg rfl ?_
          refine WO.nil ?_
          refine blockL_n ?_
          refine thenL_n ?_
          refine WC.region ?_
          refine WO.mv rfl ?_
          refine WO.mv rfl ?_
          obtain ⟨x19, e20, h⟩ := bindS h
          refine WO.ixS rfl rfl hot0.slv (at?_lt e20) rfl ?_
          refine WO.ldF rfl hot0.ro (fun _ hi => hi) (at?_get e20) rfl rfl rfl ?_
          refine WO.asg rfl ?_
          refine WO.nil ?_
          refine thenL_n ?_
          obtain rfl := someI h
          exact ⟨_, rfl, ⟨S16, rfl, rfl, (Cov.cons rfl (Cov.cons rfl (Cov.cons rfl (Cov.cons rfl (Cov.cons rfl (Cov.cons rfl (Cov.cons rfl (Cov.cons rfl (Cov.nil _))))))))), hot0, ho3⟩⟩
        · have h := iteF q18 h
          refine WC.exit ?_
          refine thenL_e ?_
          refine thenL_e ?_
          obtain rfl := someI h
          exact ⟨_, rfl, rfl, ⟨S16, rfl, rfl, (Cov.cons rfl (Cov.cons rfl (Cov.cons rfl (Cov.cons rfl (Cov.cons rfl (Cov.cons rfl (Cov.cons rfl (Cov.nil _)))))))), hot0, ho3⟩⟩
      rintro _ _ _ _ ⟨rfl, ⟨S23, rfl, rfl, hc24, hot0, ho3⟩⟩
      refine blockL_s ?_
      refine thenL_n ?_
      refine WC.cov hc24 ?_
      refine WC.seq ?_
      refine WC.region ?_
      refine WO.mv rfl ?_
      refine WO.mv rfl ?_
      refine WO.bin rfl rfl (by decide) (by decide) rfl ?_
      refine WO.nil ?_
      refine thenL_n ?_
      refine WC.cond rfl (fun q25 => ?_) (fun q25 => ?_)
      · have h := iteT q25 h
        refine WC.region ?_
        refine WO.mv rfl ?_
        refine WO.mv rfl ?_
        refine WO.bsS (A := Y3) (S := S23) (M := [b21.1]) (cs := [.int .i64 b21.1]) 3 rfl rfl rfl ⟨[.int .i64 b21.1], _, rfl, rfl, rfl⟩ rfl (fun v26 S27 c28 ho29 => ?_)
        have hot0 := hot0.to c28
        have ho3 := ho3.to c28
        obtain ⟨L30, e31, h⟩ := bindS h
        refine WO.appS rfl rfl ho3 ho29.ro e31 rfl rfl (fun v32 S33 c34 ho35 => ?_)
        have hot0 := hot0.to c34
        have ho29 := ho29.to c34
        refine WO.asg rfl ?_
        refine WO.nil ?_
        refine blockL_n ?_
        refine thenL_n ?_
        refine WC.region ?_
        refine WO.bin rfl rfl (by decide) (by decide) rfl ?_
        refine WO.mv rfl ?_
        refine WO.nil ?_
        refine thenL_n ?_
        obtain rfl := someI h
        exact ⟨_, rfl, ⟨S33, v32, rfl, rfl, (Cov.cons rfl (Cov.cons rfl (Cov.cons rfl (Cov.cons rfl (Cov.nil _))))), hot0, ho35⟩⟩
      · have h := iteF q25 h
        refine WC.skip ?_
        refine blockL_n ?_
        refine thenL_n ?_
        refine WC.region ?_
        refine WO.bin rfl rfl (by decide) (by decide) rfl ?_
        refine WO.mv rfl ?_
        refine WO.nil ?_
        refine thenL_n ?_
        obtain rfl := someI h
        exact ⟨_, rfl, ⟨S23, v8, rfl, rfl, (Cov.cons rfl (Cov.cons rfl (Cov.cons rfl (Cov.cons rfl (Cov.nil _))))), hot0, ho3⟩⟩
    · have h := iteF q10 h
      refine WC.exit ?_
      refine thenL_e ?_
      refine thenL_e ?_
      obtain rfl := someI h
      exact ⟨_, rfl, rfl, ⟨S7, v8, rfl, rfl, (Cov.cons rfl (Cov.nil _)), ho3⟩⟩
  rintro _ _ _ _ ⟨rfl, ⟨S38, v39, rfl, rfl, hc40, ho3⟩⟩
  refine blockL_s ?_
  refine thenL_n ?_
  refine WC.cov hc40 ?_
  refine WC.seq ?_
  refine WC.region ?_
  refine WO.mv rfl ?_
  obtain ⟨r41, e42, h⟩ := bindS h
  refine WO.callI (S := S38) ho3 rfl rfl (fun bq hI hB => F85_ok e42 S38.le hI) Lay.flat_fl (fun S43 c44 ho3 => ?_)
  refine WO.nil ?_
  refine thenL_n ?_
  refine WC.seq ?_
  refine WC.region ?_
  refine WO.mv rfl ?_
  obtain ⟨r45, e46, h⟩ := bindS h
  refine WO.callI (S := S43) ho3 rfl rfl (fun bq hI hB => F86_ok e46 S43.le hI) Lay.flat_fl (fun S47 c48 ho3 => ?_)
  refine WO.nil ?_
  refine thenL_n ?_
  refine WC.seq ?_
  refine WC.region ?_
  refine WO.mv rfl ?_
  refine WO.asg rfl ?_
  refine WO.nil ?_
  refine thenL_n ?_
  refine WC.ret ?_
  obtain rfl := someI h
  exact ⟨.inr rfl, _, _, rfl, rfl, ⟨v39, rfl, (ho3.fr Lay.flat_fl)⟩⟩
end Go.Proofs.Ytdfalejlhkalhaa

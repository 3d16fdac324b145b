/- The machine answers F121: printed by a program of ours (gen.py). -/
import Derived.Test.YtdfalejlhkalhaaDef
import Derived.Test.YtdfalejlhkalhaaEnv
import Derived.Test.YtdfalejlhkalhaaF139
set_option linter.unusedVariables false
namespace Go.Proofs.Ytdfalejlhkalhaa
open Go.Am
theorem F121.fn : E.fn 121 = some ⟨39, (Try.f121.body.getD .skip), Try.f121.results.toList, []⟩ := rfl
theorem F121_ok {F : Nat} {m : Mem} {n : Nat} {r : (List Int) × Int} {t0 : Int} {t1 : List Int} {vt1 : SV} (h : F121 F t0 t1 = some r) (kt1 : Vw Y3 n m vt1 t1) : Ret E n 121 [.sc (.int .i64 t0), .sc vt1] m n (fun v m' n' => ∃ w, v = .tup [.sc w, .sc (.int .i64 r.2)] ∧ Fr Y3 n m' n' w r.1) := by
  unfold F121 at h
  refine Ret.walk F121.fn ?_
  refine WC.start fun S0 em en hz => ?_
  have hot1 := kt1.rdS em hz
  refine WC.seq ?_
  refine WC.region ?_
  refine WO.asg rfl ?_
  refine WO.asg rfl ?_
  refine WO.nil ?_
  refine thenL_n ?_
  refine WC.seq ?_
  refine WC.seq ?_
  refine WC.region ?_
  refine WO.mv rfl ?_
  refine WO.mv rfl ?_
  obtain ⟨r1, e2, h⟩ := bindS h
  refine WO.callE (S := S0) rfl rfl (F139_ok e2 hot1.vw) (fun S3 c4 => ?_)
  have hot1 := hot1.to c4
  refine WO.asg rfl ?_
  refine WO.nil ?_
  refine thenL_n ?_
  refine WC.seq ?_
  refine WC.region ?_
  refine WO.mv rfl ?_
  refine WO.bin rfl rfl (by decide) (by decide) rfl ?_
  refine WO.nil ?_
  refine thenL_n ?_
  refine WC.cond rfl (fun q5 => ?_) (fun q5 => ?_)
  · have h := iteT q5 h
    refine WC.seq ?_
    refine WC.region ?_
    refine WO.mv rfl ?_
    refine WO.asg rfl ?_
    refine WO.asg rfl ?_
    refine WO.nil ?_
    refine thenL_n ?_
    refine WC.ret ?_
    refine thenL_r ?_
    obtain rfl := someI h
    exact ⟨.inr rfl, _, _, rfl, rfl, ⟨.nils, rfl, Fr.nil⟩⟩
  · have h := iteF q5 h
    refine WC.skip ?_
    refine thenL_n ?_
    refine WC.seq ?_
    refine WC.region ?_
    refine WO.asg rfl ?_
    refine WO.nil ?_
    refine thenL_n ?_
    refine WC.seq ?_
    refine WC.seq ?_
    refine WC.region ?_
    refine WO.mv rfl ?_
    refine WO.lenS rfl hot1.slv rfl ?_
    refine WO.mv rfl ?_
    refine WO.nil ?_
    refine thenL_n ?_
    refine WC.block ?_
    obtain ⟨b34, e35, h⟩ := bindS h
    refine WC.loopD e35 (fun s6 l' m' n' => ∃ S8 : Cx n, ∃ v9 : SV, S8.m = m' ∧ S8.n = n' ∧ Cov l' [(0, .sc (.int .i64 t0)), (7, .sc v9), (16, .sc vt1), (17, .sc (.int .i64 ((t1.length : Int)))), (18, .sc (.int .i64 s6.2))] ∧ Rd Y3 S8 vt1 t1 ∧ Ow Y3 S8 2 v9 s6.1) (fun b e l' m' n' => e = .exit 0 ∧ ∃ S10 : Cx n, ∃ v11 : SV, S10.m = m' ∧ S10.n = n' ∧ Cov l' [(7, .sc v11)] ∧ Ow Y3 S10 2 v11 b) (by exact ⟨S3, .nils, rfl, rfl, (Cov.cons rfl (Cov.cons rfl (Cov.cons rfl (Cov.cons rfl (Cov.cons rfl (Cov.nil _)))))), hot1, Ow.nil⟩) ?_ ?_
    · clear h
      rintro s6 q _ _ _ ⟨S12, v13, rfl, rfl, hc14, hot1, ho7⟩ h
      unfold F121_l0 at h
      refine WC.cov hc14 ?_
      refine WC.seq ?_
      refine WC.region ?_
      refine WO.bin rfl rfl (by decide) (by decide) rfl ?_
      refine WO.nil ?_
      refine thenL_n ?_
      refine WC.seq ?_
      refine WC.cond rfl (fun q15 => ?_) (fun q15 => ?_)
      · have h := iteT q15 h
        refine WC.skip ?_
        refine thenL_n ?_
        refine WC.seq ?_
        refine WC.block ?_
        refine WC.seq ?_
        refine WC.region ?_
        refine WO.mv rfl ?_
        obtain ⟨x16, e17, h⟩ := bindS h
        refine WO.ixS rfl rfl hot1.slv (at?_lt e17) rfl ?_
        refine WO.ldF rfl hot1.ro (fun _ hi => hi) (at?_get e17) rfl rfl rfl ?_
        refine WO.asg rfl ?_
        refine WO.asg rfl ?_
        refine WO.nil ?_
        refine thenL_n ?_
        refine WC.seq ?_
        refine WC.region ?_
        refine WO.mv rfl ?_
        refine WO.mv rfl ?_
        refine WO.bin rfl rfl (by decide) (by decide) rfl ?_
        refine WO.nil ?_
        refine thenL_n ?_
        refine WC.cond rfl (fun q18 => ?_) (fun q18 => ?_)
        · have h := iteT q18 h
          refine WC.region ?_
          refine WO.mv rfl ?_
          refine WO.mv rfl ?_
          refine WO.bsS (A := Y3) (S := S12) (M := [s6.2]) (cs := [.int .i64 s6.2]) 3 rfl rfl rfl ⟨[.int .i64 s6.2], _, rfl, rfl, rfl⟩ rfl (fun v19 S20 c21 ho22 => ?_)
          have hot1 := hot1.to c21
          have ho7 := ho7.to c21
          obtain ⟨L23, e24, h⟩ := bindS h
          refine WO.appS rfl rfl ho7 ho22.ro e24 rfl rfl (fun v25 S26 c27 ho28 => ?_)
          have hot1 := hot1.to c27
          have ho22 := ho22.to c27
          refine WO.asg rfl ?_
          refine WO.nil ?_
          refine blockL_n ?_
          refine thenL_n ?_
          refine WC.region ?_
          refine WO.bin rfl rfl (by decide) (by decide) rfl ?_
          refine WO.mv rfl ?_
          refine WO.nil ?_
          refine thenL_n ?_
          obtain rfl := someI h
          exact ⟨_, rfl, ⟨S26, v25, rfl, rfl, (Cov.cons rfl (Cov.cons rfl (Cov.cons rfl (Cov.cons rfl (Cov.cons rfl (Cov.nil _)))))), hot1, ho28⟩⟩
        · have h := iteF q18 h
          refine WC.seq ?_
          refine WC.region ?_
          refine WO.mv rfl ?_
          refine WO.mv rfl ?_
          refine WO.bin rfl rfl (by decide) (by decide) rfl ?_
          refine WO.nil ?_
          refine thenL_n ?_
          refine WC.cond rfl (fun q29 => ?_) (fun q29 => ?_)
          · have h := iteT q29 h
            refine WC.region ?_
            refine WO.mv rfl ?_
            refine WO.mv rfl ?_
            refine WO.mv rfl ?_
            obtain ⟨u30, e31, h⟩ := bindS h
            refine WO.ixS rfl rfl ho7.slv (ck_some e31) rfl ?_
            refine WO.st1 (u' := s6.2) rfl rfl ho7 (ck_nat e31) rfl rfl (fun S32 c33 ho7 => ?_)
            have hot1 := hot1.to c33
            refine WO.nil ?_
            refine blockL_n ?_
            refine thenL_n ?_
            refine WC.region ?_
            refine WO.bin rfl rfl (by decide) (by decide) rfl ?_
            refine WO.mv rfl ?_
            refine WO.nil ?_
            refine thenL_n ?_
            obtain rfl := someI h
            exact ⟨_, rfl, ⟨S32, v13, rfl, rfl, (Cov.cons rfl (Cov.cons rfl (Cov.cons rfl (Cov.cons rfl (Cov.cons rfl (Cov.nil _)))))), hot1, ho7⟩⟩
          · have h := iteF q29 h
            refine WC.skip ?_
            refine blockL_n ?_
            refine thenL_n ?_
            refine WC.region ?_
            refine WO.bin rfl rfl (by decide) (by decide) rfl ?_
            refine WO.mv rfl ?_
            refine WO.nil ?_
            refine thenL_n ?_
            obtain rfl := someI h
            exact ⟨_, rfl, ⟨S12, v13, rfl, rfl, (Cov.cons rfl (Cov.cons rfl (Cov.cons rfl (Cov.cons rfl (Cov.cons rfl (Cov.nil _)))))), hot1, ho7⟩⟩
      · have h := iteF q15 h
        refine WC.exit ?_
        refine thenL_e ?_
        refine thenL_e ?_
        obtain rfl := someI h
        exact ⟨_, rfl, rfl, ⟨S12, v13, rfl, rfl, (Cov.cons rfl (Cov.nil _)), ho7⟩⟩
    rintro _ _ _ _ ⟨rfl, ⟨S36, v37, rfl, rfl, hc38, ho7⟩⟩
    refine blockL_s ?_
    refine thenL_n ?_
    refine WC.cov hc38 ?_
    refine WC.seq ?_
    refine WC.region ?_
    refine WO.mv rfl ?_
    refine WO.asg rfl ?_
    refine WO.asg rfl ?_
    refine WO.nil ?_
    refine thenL_n ?_
    refine WC.ret ?_
    obtain rfl := someI h
    exact ⟨.inr rfl, _, _, rfl, rfl, ⟨v37, rfl, (ho7.fr Lay.flat_fl)⟩⟩
end Go.Proofs.Ytdfalejlhkalhaa

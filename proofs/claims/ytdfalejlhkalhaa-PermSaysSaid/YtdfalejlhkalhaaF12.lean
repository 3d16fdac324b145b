/- The machine answers F12: printed by a program of ours (gen.py). -/
import Derived.Test.YtdfalejlhkalhaaDef
import Derived.Test.YtdfalejlhkalhaaEnv
import Derived.Test.YtdfalejlhkalhaaF18
set_option linter.unusedVariables false
namespace Go.Proofs.Ytdfalejlhkalhaa
open Go.Am
theorem F12.fn : E.fn 12 = some ⟨45, (Try.f12.body.getD .skip), Try.f12.results.toList, []⟩ := rfl
theorem F12_ok {F : Nat} {m : Mem} {n : Nat} {r : (List Int) × Int} {t0 : List Int} {t1 : List Int} {vt0 : SV} {vt1 : SV} (h : F12 F t0 t1 = some r) (kt0 : Vw Y3 n m vt0 t0) (kt1 : Vw Y3 n m vt1 t1) : Ret E n 12 [.sc vt0, .sc vt1] m n (fun v m' n' => ∃ w, v = .tup [.sc w, .sc (.int .i64 r.2)] ∧ Fr Y3 n m' n' w r.1) := by
  unfold F12 at h
  refine Ret.walk F12.fn ?_
  refine WC.start fun S0 em en hz => ?_
  have hot0 := kt0.rdS em hz
  have hot1 := kt1.rdS em hz
  refine WC.seq ?_
  refine WC.region ?_
  refine WO.asg rfl ?_
  refine WO.asg rfl ?_
  refine WO.nil ?_
  refine thenL_n ?_
  refine WC.seq ?_
  refine WC.seq ?_
  refine WC.region ?_
  refine WO.mv rfl ?_
  obtain ⟨r1, e2, h⟩ := bindS h
  refine WO.callE (S := S0) rfl rfl (F18_ok e2 hot0.vw) (fun S3 c4 => ?_)
  have hot0 := hot0.to c4
  have hot1 := hot1.to c4
  refine WO.asg rfl ?_
  refine WO.nil ?_
  refine thenL_n ?_
  refine WC.seq ?_
  refine WC.region ?_
  refine WO.mv rfl ?_
  refine WO.bin rfl rfl (by decide) (by decide) rfl ?_
  refine WO.nil ?_
  refine thenL_n ?_
  refine WC.cond rfl (fun q5 => ?_) (fun q5 => ?_)
  · have h := iteT q5 h
    refine WC.seq ?_
    refine WC.region ?_
    refine WO.mv rfl ?_
    refine WO.asg rfl ?_
    refine WO.asg rfl ?_
    refine WO.nil ?_
    refine thenL_n ?_
    refine WC.ret ?_
    refine thenL_r ?_
    obtain rfl := someI h
    exact ⟨.inr rfl, _, _, rfl, rfl, ⟨.nils, rfl, Fr.nil⟩⟩
  · have h := iteF q5 h
    refine WC.skip ?_
    refine thenL_n ?_
    refine WC.seq ?_
    refine WC.seq ?_
    refine WC.region ?_
    refine WO.mv rfl ?_
    obtain ⟨r6, e7, h⟩ := bindS h
    refine WO.callE (S := S3) rfl rfl (F18_ok e7 hot1.vw) (fun S8 c9 => ?_)
    have hot0 := hot0.to c9
    have hot1 := hot1.to c9
    refine WO.asg rfl ?_
    refine WO.nil ?_
    refine thenL_n ?_
    refine WC.seq ?_
    refine WC.region ?_
    refine WO.mv rfl ?_
    refine WO.bin rfl rfl (by decide) (by decide) rfl ?_
    refine WO.nil ?_
    refine thenL_n ?_
    refine WC.cond rfl (fun q10 => ?_) (fun q10 => ?_)
    · have h := iteT q10 h
      refine WC.seq ?_
      refine WC.region ?_
      refine WO.mv rfl ?_
      refine WO.asg rfl ?_
      refine WO.asg rfl ?_
      refine WO.nil ?_
      refine thenL_n ?_
      refine WC.ret ?_
      refine thenL_r ?_
      obtain rfl := someI h
      exact ⟨.inr rfl, _, _, rfl, rfl, ⟨.nils, rfl, Fr.nil⟩⟩
    · have h := iteF q10 h
      refine WC.skip ?_
      refine thenL_n ?_
      refine WC.seq ?_
      refine WC.seq ?_
      refine WC.region ?_
      refine WO.mv rfl ?_
      refine WO.lenS rfl hot0.slv rfl ?_
      refine WO.mv rfl ?_
      refine WO.lenS rfl hot1.slv rfl ?_
      refine WO.bin rfl rfl (by decide) (by decide) rfl ?_
      refine WO.nil ?_
      refine thenL_n ?_
      refine WC.cond rfl (fun q11 => ?_) (fun q11 => ?_)
      · have h := iteT q11 h
        refine WC.seq ?_
        refine WC.region ?_
        refine WO.asg rfl ?_
        refine WO.asg rfl ?_
        refine WO.nil ?_
        refine thenL_n ?_
        refine WC.ret ?_
        refine thenL_r ?_
        obtain rfl := someI h
        exact ⟨.inr rfl, _, _, rfl, rfl, ⟨.nils, rfl, Fr.nil⟩⟩
      · have h := iteF q11 h
        refine WC.skip ?_
        refine thenL_n ?_
        refine WC.seq ?_
        refine WC.region ?_
        refine WO.mv rfl ?_
        refine WO.lenS rfl hot0.slv rfl ?_
        obtain ⟨L12, e13, h⟩ := bindS h
        refine WO.mkS (A := Y3) (S := S8) 2 rfl rfl e13 rfl rfl rfl (fun v14 S15 c16 ho17 => ?_)
        have hot0 := hot0.to c16
        have hot1 := hot1.to c16
        refine WO.asg rfl ?_
        refine WO.nil ?_
        refine thenL_n ?_
        refine WC.seq ?_
        refine WC.seq ?_
        refine WC.region ?_
        refine WO.mv rfl ?_
        refine WO.lenS rfl hot1.slv rfl ?_
        refine WO.mv rfl ?_
        refine WO.nil ?_
        refine thenL_n ?_
        refine WC.block ?_
        obtain ⟨b32, e33, h⟩ := bindS h
        refine WC.loopD e33 (fun s18 l' m' n' => ∃ S19 : Cx n, S19.m = m' ∧ S19.n = n' ∧ Cov l' [(0, .sc vt0), (8, .sc v14), (29, .sc vt1), (30, .sc (.int .i64 ((t1.length : Int)))), (31, .sc (.int .i64 s18.1))] ∧ Rd Y3 S19 vt0 t0 ∧ Ow Y3 S19 2 v14 s18.2 ∧ Rd Y3 S19 vt1 t1) (fun b e l' m' n' => e = .exit 0 ∧ ∃ S20 : Cx n, S20.m = m' ∧ S20.n = n' ∧ Cov l' [(8, .sc v14)] ∧ Ow Y3 S20 2 v14 b) (by exact ⟨S15, rfl, rfl, (Cov.cons rfl (Cov.cons rfl (Cov.cons rfl (Cov.cons rfl (Cov.cons rfl (Cov.nil _)))))), hot0, ho17, hot1⟩) ?_ ?_
        · clear h
          rintro s18 q _ _ _ ⟨S21, rfl, rfl, hc22, hot0, ho17, hot1⟩ h
          unfold F12_l0 at h
          refine WC.cov hc22 ?_
          refine WC.seq ?_
          refine WC.region ?_
          refine WO.bin rfl rfl (by decide) (by decide) rfl ?_
          refine WO.nil ?_
          refine thenL_n ?_
          refine WC.seq ?_
          refine WC.cond rfl (fun q23 => ?_) (fun q23 => ?_)
          · have h := iteT q23 h
            refine WC.skip ?_
            refine thenL_n ?_
            refine WC.seq ?_
            refine WC.block ?_
            refine WC.seq ?_
            refine WC.region ?_
            refine WO.mv rfl ?_
            obtain ⟨x24, e25, h⟩ := bindS h
            refine WO.ixS rfl rfl hot1.slv (at?_lt e25) rfl ?_
            refine WO.ldF rfl hot1.ro (fun _ hi => hi) (at?_get e25) rfl rfl rfl ?_
            refine WO.asg rfl ?_
            refine WO.asg rfl ?_
            refine WO.nil ?_
            refine thenL_n ?_
            refine WC.region ?_
            refine WO.mv rfl ?_
            refine WO.mv rfl ?_
            refine WO.mv rfl ?_
            refine WO.mv rfl ?_
            obtain ⟨x26, e27, h⟩ := bindS h
            refine WO.ixS rfl rfl hot0.slv (at?_lt e27) rfl ?_
            refine WO.ldF rfl hot0.ro (fun _ hi => hi) (at?_get e27) rfl rfl rfl ?_
            obtain ⟨u28, e29, h⟩ := bindS h
            refine WO.ixS rfl rfl ho17.slv (ck_some e29) rfl ?_
            refine WO.st1 (u' := x26) rfl rfl ho17 (ck_nat e29) rfl rfl (fun S30 c31 ho17 => ?_)
            have hot0 := hot0.to c31
            have hot1 := hot1.to c31
            refine WO.nil ?_
            refine blockL_n ?_
            refine thenL_n ?_
            refine WC.region ?_
            refine WO.bin rfl rfl (by decide) (by decide) rfl ?_
            refine WO.mv rfl ?_
            refine WO.nil ?_
            refine thenL_n ?_
            obtain rfl := someI h
            exact ⟨_, rfl, ⟨S30, rfl, rfl, (Cov.cons rfl (Cov.cons rfl (Cov.cons rfl (Cov.cons rfl (Cov.cons rfl (Cov.nil _)))))), hot0, ho17, hot1⟩⟩
          · have h := iteF q23 h
            refine WC.exit ?_
            refine thenL_e ?_
            refine thenL_e ?_
            obtain rfl := someI h
            exact ⟨_, rfl, rfl, ⟨S21, rfl, rfl, (Cov.cons rfl (Cov.nil _)), ho17⟩⟩
        rintro _ _ _ _ ⟨rfl, ⟨S34, rfl, rfl, hc35, ho17⟩⟩
        refine blockL_s ?_
        refine thenL_n ?_
        refine WC.cov hc35 ?_
        refine WC.seq ?_
        refine WC.region ?_
        refine WO.mv rfl ?_
        refine WO.asg rfl ?_
        refine WO.asg rfl ?_
        refine WO.nil ?_
        refine thenL_n ?_
        refine WC.ret ?_
        obtain rfl := someI h
        exact ⟨.inr rfl, _, _, rfl, rfl, ⟨v14, rfl, (ho17.fr Lay.flat_fl)⟩⟩
end Go.Proofs.Ytdfalejlhkalhaa

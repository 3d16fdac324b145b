/- The machine answers F122: printed by a program of ours (gen.py). -/
import Derived.Test.YtihmliblbhjlaaaDef
import Derived.Test.YtihmliblbhjlaaaEnv
import Derived.Test.YtihmliblbhjlaaaF101
import Derived.Test.YtihmliblbhjlaaaF110_159
set_option linter.unusedVariables false
namespace Go.Proofs.Ytihmliblbhjlaaa
open Go.Am
theorem F122.fn : E.fn 122 = some ⟨43, (Try.f122.body.getD .skip), Try.f122.results.toList, []⟩ := rfl
theorem F122_ok {F : Nat} {m : Mem} {n : Nat} {r : (List Int) × Int} {t0 : List Int} {vt0 : SV} (h : F122 F t0 = some r) (kt0 : Vw Y3 n m vt0 t0) : Ret E n 122 [.sc vt0] m n (fun v m' n' => ∃ w, v = .tup [.sc w, .sc (.int .i64 r.2)] ∧ Fr Y3 n m' n' w r.1) := by
  unfold F122 at h
  refine Ret.walk F122.fn ?_
  refine WC.start fun S0 em en hz => ?_
  have hot0 := kt0.rdS em hz
  refine WC.seq ?_
  refine WC.region ?_
  refine WO.asg rfl ?_
  refine WO.asg rfl ?_
  refine WO.nil ?_
  refine thenL_n ?_
  refine WC.seq ?_
  refine WC.seq ?_
  refine WC.region ?_
  refine WO.mv rfl ?_
  obtain ⟨r1, e2, h⟩ := bindS h
  refine WO.callE (S := S0) rfl rfl (F101_ok e2 hot0.vw) (fun S3 c4 => ?_)
  have hot0 := hot0.to c4
  refine WO.asg rfl ?_
  refine WO.nil ?_
  refine thenL_n ?_
  refine WC.seq ?_
  refine WC.region ?_
  refine WO.mv rfl ?_
  refine WO.bin rfl rfl (by decide) (by decide) rfl ?_
  refine WO.nil ?_
  refine thenL_n ?_
  refine WC.cond rfl (fun q5 => ?_) (fun q5 => ?_)
  · have h := iteT q5 h
    refine WC.seq ?_
    refine WC.region ?_
    refine WO.mv rfl ?_
    refine WO.asg rfl ?_
    refine WO.asg rfl ?_
    refine WO.nil ?_
    refine thenL_n ?_
    refine WC.ret ?_
    refine thenL_r ?_
    obtain rfl := someI h
    exact ⟨.inr rfl, _, _, rfl, rfl, ⟨.nils, rfl, Fr.nil⟩⟩
  · have h := iteF q5 h
    refine WC.skip ?_
    refine thenL_n ?_
    refine WC.seq ?_
    refine WC.region ?_
    refine WO.alS (A := Y130) (S := S3) (z0 := (List.replicate 10 false)) 2 rfl ⟨rfl, rfl⟩ rfl (fun v6 S7 c8 ho9 => ?_)
    have hot0 := hot0.to c8
    refine WO.nil ?_
    refine thenL_n ?_
    refine WC.seq ?_
    refine WC.region ?_
    refine WO.asg rfl ?_
    refine WO.nil ?_
    refine thenL_n ?_
    refine WC.seq ?_
    refine WC.seq ?_
    refine WC.region ?_
    refine WO.mv rfl ?_
    refine WO.lenS rfl hot0.slv rfl ?_
    refine WO.mv rfl ?_
    refine WO.nil ?_
    refine thenL_n ?_
    refine WC.block ?_
    obtain ⟨b49, e50, h⟩ := bindS h
    refine WC.loopD e50 (fun s10 l' m' n' => ∃ S12 : Cx n, ∃ v13 : SV, S12.m = m' ∧ S12.n = n' ∧ Cov l' [(0, .sc vt0), (5, .sc v6), (6, .sc v13), (16, .sc (.int .i64 ((t0.length : Int)))), (17, .sc (.int .i64 s10.2.1))] ∧ Rd Y3 S12 vt0 t0 ∧ Bk Y130 S12 2 v6 s10.2.2 ∧ Ow Y3 S12 3 v13 s10.1) (fun b e l' m' n' => e = .exit 0 ∧ ∃ S14 : Cx n, ∃ v15 : SV, S14.m = m' ∧ S14.n = n' ∧ Cov l' [(6, .sc v15)] ∧ Ow Y3 S14 3 v15 b) (by exact ⟨S7, .nils, rfl, rfl, (Cov.cons rfl (Cov.cons rfl (Cov.cons rfl (Cov.cons rfl (Cov.cons rfl (Cov.nil _)))))), hot0, ho9, Ow.nil⟩) ?_ ?_
    · clear h
      rintro s10 q _ _ _ ⟨S16, v17, rfl, rfl, hc18, hot0, ho9, ho6⟩ h
      unfold F122_l1 at h
      refine WC.cov hc18 ?_
      refine WC.seq ?_
      refine WC.region ?_
      refine WO.bin rfl rfl (by decide) (by decide) rfl ?_
      refine WO.nil ?_
      refine thenL_n ?_
      refine WC.seq ?_
      refine WC.cond rfl (fun q19 => ?_) (fun q19 => ?_)
      · have h := iteT q19 h
        refine WC.skip ?_
        refine thenL_n ?_
        refine WC.seq ?_
        refine WC.block ?_
        refine WC.seq ?_
        refine WC.region ?_
        refine WO.mv rfl ?_
        refine WO.asg rfl ?_
        refine WO.nil ?_
        refine thenL_n ?_
        refine WC.seq ?_
        refine WC.region ?_
        refine WO.asg rfl ?_
        refine WO.nil ?_
        refine thenL_n ?_
        refine WC.seq ?_
        refine WC.seq ?_
        refine WC.region ?_
        refine WO.mv rfl ?_
        refine WO.asg rfl ?_
        refine WO.nil ?_
        refine thenL_n ?_
        refine WC.block ?_
        obtain ⟨b34, e35, h⟩ := bindS h
        refine WC.loopD e35 (fun s20 l' m' n' => ∃ S21 : Cx n, S21.m = m' ∧ S21.n = n' ∧ Cov l' [(0, .sc vt0), (5, .sc v6), (6, .sc v17), (8, .sc (.int .i64 s20.1)), (9, .sc (.int .i64 s20.2.1)), (16, .sc (.int .i64 ((t0.length : Int)))), (17, .sc (.int .i64 s10.2.1))] ∧ Rd Y3 S21 vt0 t0 ∧ Bk Y130 S21 2 v6 s20.2.2 ∧ Ow Y3 S21 3 v17 s10.1) (fun b e l' m' n' => e = .exit 2 ∧ ∃ S22 : Cx n, S22.m = m' ∧ S22.n = n' ∧ Cov l' [(0, .sc vt0), (5, .sc v6), (6, .sc v17), (8, .sc (.int .i64 b.1)), (16, .sc (.int .i64 ((t0.length : Int)))), (17, .sc (.int .i64 s10.2.1))] ∧ Rd Y3 S22 vt0 t0 ∧ Bk Y130 S22 2 v6 b.2 ∧ Ow Y3 S22 3 v17 s10.1) (by exact ⟨S16, rfl, rfl, (Cov.cons rfl (Cov.cons rfl (Cov.cons rfl (Cov.cons rfl (Cov.cons rfl (Cov.cons rfl (Cov.cons rfl (Cov.nil _)))))))), hot0, ho9, ho6⟩) ?_ ?_
        · clear h
          rintro s20 q _ _ _ ⟨S23, rfl, rfl, hc24, hot0, ho9, ho6⟩ h
          unfold F122_l0 at h
          refine WC.cov hc24 ?_
          refine WC.seq ?_
          refine WC.seq ?_
          refine WC.region ?_
          refine WO.mv rfl ?_
          obtain ⟨x25, e26, h⟩ := bindS h
          refine WO.ixR rfl ho9 rfl (at?_lt e26) rfl ?_
          refine WO.ldR rfl rfl ho9 (at?_get e26) rfl rfl ?_
          refine WO.do rfl rfl ?_
          refine WO.nil ?_
          refine thenL_n ?_
          refine WC.cond rfl (fun q27 => ?_) (fun q27 => ?_)
          · have h := iteT q27 h
            refine WC.skip ?_
            refine thenL_n ?_
            refine WC.seq ?_
            refine WC.block ?_
            refine WC.seq ?_
            refine WC.region ?_
            refine WO.mv rfl ?_
            obtain ⟨u28, e29, h⟩ := bindS h
            refine WO.ixR rfl ho9 rfl (ck_some e29) rfl ?_
            refine WO.stR rfl rfl rfl ho9 (ck_nat e29) rfl rfl (fun S30 c31 ho9 => ?_)
            have hot0 := hot0.to c31
            have ho6 := ho6.to c31
            refine WO.nil ?_
            refine thenL_n ?_
            refine WC.region ?_
            refine WO.mv rfl ?_
            refine WO.bin rfl rfl (by decide) (by decide) rfl ?_
            refine WO.asg rfl ?_
            refine WO.nil ?_
            refine blockL_n ?_
            refine thenL_n ?_
            refine WC.region ?_
            refine WO.mv rfl ?_
            refine WO.mv rfl ?_
            obtain ⟨x32, e33, h⟩ := bindS h
            refine WO.ixS rfl rfl hot0.slv (at?_lt e33) rfl ?_
            refine WO.ldF rfl hot0.ro (fun _ hi => hi) (at?_get e33) rfl rfl rfl ?_
            refine WO.asg rfl ?_
            refine WO.nil ?_
            refine thenL_n ?_
            obtain rfl := someI h
            exact ⟨_, rfl, ⟨S30, rfl, rfl, (Cov.cons rfl (Cov.cons rfl (Cov.cons rfl (Cov.cons rfl (Cov.cons rfl (Cov.cons rfl (Cov.cons rfl (Cov.nil _)))))))), hot0, ho9, ho6⟩⟩
          · have h := iteF q27 h
            refine WC.exit ?_
            refine thenL_e ?_
            refine thenL_e ?_
            obtain rfl := someI h
            exact ⟨_, rfl, rfl, ⟨S23, rfl, rfl, (Cov.cons rfl (Cov.cons rfl (Cov.cons rfl (Cov.cons rfl (Cov.cons rfl (Cov.cons rfl (Cov.nil _))))))), hot0, ho9, ho6⟩⟩
        rintro _ _ _ _ ⟨rfl, ⟨S36, rfl, rfl, hc37, hot0, ho9, ho6⟩⟩
        refine blockL_s ?_
        refine thenL_n ?_
        refine WC.cov hc37 ?_
        refine WC.seq ?_
        refine WC.region ?_
        refine WO.mv rfl ?_
        refine WO.bin rfl rfl (by decide) (by decide) rfl ?_
        refine WO.nil ?_
        refine thenL_n ?_
        refine WC.cond rfl (fun q38 => ?_) (fun q38 => ?_)
        · have h := iteT q38 h
          refine WC.region ?_
          refine WO.mv rfl ?_
          refine WO.mv rfl ?_
          refine WO.bsS (A := Y3) (S := S36) (M := [b34.1]) (cs := [.int .i64 b34.1]) 4 rfl rfl rfl ⟨[.int .i64 b34.1], _, rfl, rfl, rfl⟩ rfl (fun v39 S40 c41 ho42 => ?_)
          have hot0 := hot0.to c41
          have ho9 := ho9.to c41
          have ho6 := ho6.to c41
          obtain ⟨L43, e44, h⟩ := bindS h
          refine WO.appS rfl rfl ho6 ho42.ro e44 rfl rfl (fun v45 S46 c47 ho48 => ?_)
          have hot0 := hot0.to c47
          have ho9 := ho9.to c47
          have ho42 := ho42.to c47
          refine WO.asg rfl ?_
          refine WO.nil ?_
          refine blockL_n ?_
          refine thenL_n ?_
          refine WC.region ?_
          refine WO.bin rfl rfl (by decide) (by decide) rfl ?_
          refine WO.mv rfl ?_
          refine WO.nil ?_
          refine thenL_n ?_
          obtain rfl := someI h
          exact ⟨_, rfl, ⟨S46, v45, rfl, rfl, (Cov.cons rfl (Cov.cons rfl (Cov.cons rfl (Cov.cons rfl (Cov.cons rfl (Cov.nil _)))))), hot0, ho9, ho48⟩⟩
        · have h := iteF q38 h
          refine WC.skip ?_
          refine blockL_n ?_
          refine thenL_n ?_
          refine WC.region ?_
          refine WO.bin rfl rfl (by decide) (by decide) rfl ?_
          refine WO.mv rfl ?_
          refine WO.nil ?_
          refine thenL_n ?_
          obtain rfl := someI h
          exact ⟨_, rfl, ⟨S36, v17, rfl, rfl, (Cov.cons rfl (Cov.cons rfl (Cov.cons rfl (Cov.cons rfl (Cov.cons rfl (Cov.nil _)))))), hot0, ho9, ho6⟩⟩
      · have h := iteF q19 h
        refine WC.exit ?_
        refine thenL_e ?_
        refine thenL_e ?_
        obtain rfl := someI h
        exact ⟨_, rfl, rfl, ⟨S16, v17, rfl, rfl, (Cov.cons rfl (Cov.nil _)), ho6⟩⟩
    rintro _ _ _ _ ⟨rfl, ⟨S51, v52, rfl, rfl, hc53, ho6⟩⟩
    refine blockL_s ?_
    refine thenL_n ?_
    refine WC.cov hc53 ?_
    refine WC.seq ?_
    refine WC.region ?_
    refine WO.mv rfl ?_
    obtain ⟨r54, e55, h⟩ := bindS h
    refine WO.callI (S := S51) ho6 rfl rfl (fun bq hI hB => F110_159_ok e55 S51.le hI) Lay.flat_fl (fun S56 c57 ho6 => ?_)
    refine WO.nil ?_
    refine thenL_n ?_
    refine WC.seq ?_
    refine WC.region ?_
    refine WO.mv rfl ?_
    refine WO.asg rfl ?_
    refine WO.asg rfl ?_
    refine WO.nil ?_
    refine thenL_n ?_
    refine WC.ret ?_
    obtain rfl := someI h
    exact ⟨.inr rfl, _, _, rfl, rfl, ⟨v52, rfl, (ho6.fr Lay.flat_fl)⟩⟩
end Go.Proofs.Ytihmliblbhjlaaa

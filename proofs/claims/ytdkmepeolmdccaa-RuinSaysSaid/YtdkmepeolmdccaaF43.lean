/- The machine answers F43: printed by a program of ours (gen.py). -/
import Derived.Test.YtdkmepeolmdccaaDef
import Derived.Test.YtdkmepeolmdccaaEnv
import Derived.Test.YtdkmepeolmdccaaF109
import Derived.Test.YtdkmepeolmdccaaF119
import Derived.Test.YtdkmepeolmdccaaF120
import Derived.Test.YtdkmepeolmdccaaF42
import Derived.Test.YtdkmepeolmdccaaF44
set_option linter.unusedVariables false
namespace Go.Proofs.Ytdkmepeolmdccaa
open Go.Am
theorem F43.fn : E.fn 43 = some ⟨86, (Try.f43.body.getD .skip), Try.f43.results.toList, []⟩ := rfl
theorem F43_ok {F : Nat} {m : Mem} {n : Nat} {r : (Int × Int) × Int} {t0 : Int} {t1 : Int} {t2 : Int} {t3 : Int} (h : F43 F t0 t1 t2 t3 = some r)  : Ret E n 43 [.sc (.int .i64 t0), .sc (.int .i64 t1), .sc (.int .i64 t2), .sc (.int .i64 t3)] m n (fun v m' n' => v = .tup [.agg [.int .i64 r.1.1, .int .i64 r.1.2], .sc (.int .i64 r.2)]) := by
  unfold F43 at h
  refine Ret.walk F43.fn ?_
  refine WC.start fun S0 em en hz => ?_
  refine WC.seq ?_
  refine WC.region ?_
  refine WO.alS (A := Y26) (S := S0) (z0 := (0, 0)) 2 rfl rfl rfl (fun v1 S2 c3 ho4 => ?_)
  refine WO.asg rfl ?_
  refine WO.nil ?_
  refine thenL_n ?_
  refine WC.seq ?_
  refine WC.seq ?_
  refine WC.region ?_
  refine WO.mv rfl ?_
  refine WO.mv rfl ?_
  refine WO.mv rfl ?_
  refine WO.mv rfl ?_
  obtain ⟨r5, e6, h⟩ := bindS h
  refine WO.callE (S := S2) rfl rfl (F44_ok e6) (fun S7 c8 => ?_)
  have ho4 := ho4.to c8
  refine WO.asg rfl ?_
  refine WO.nil ?_
  refine thenL_n ?_
  refine WC.seq ?_
  refine WC.region ?_
  refine WO.mv rfl ?_
  refine WO.bin rfl rfl (by decide) (by decide) rfl ?_
  refine WO.nil ?_
  refine thenL_n ?_
  refine WC.cond rfl (fun q9 => ?_) (fun q9 => ?_)
  · have h := iteT q9 h
    refine WC.seq ?_
    refine WC.region ?_
    refine WO.do rfl rfl ?_
    refine WO.mv rfl ?_
    refine WO.stBA (u' := (0, 0)) rfl ho4.at0 rfl ho4 rfl rfl (fun S10 c11 ho4 => ?_)
    refine WO.asg rfl ?_
    refine WO.nil ?_
    refine thenL_n ?_
    refine WC.ret ?_
    refine thenL_r ?_
    have hcell := ho4
    obtain rfl := someI h
    exact ⟨.inr rfl, _, _, (resK_c2 hcell (Cov.refl _) rfl rfl rfl), rfl, rfl⟩
  · have h := iteF q9 h
    refine WC.skip ?_
    refine thenL_n ?_
    refine WC.seq ?_
    refine WC.seq ?_
    refine WC.region ?_
    refine WO.mv rfl ?_
    refine WO.mv rfl ?_
    refine WO.bin rfl rfl (by decide) (by decide) rfl ?_
    refine WO.nil ?_
    refine thenL_n ?_
    refine WC.cond rfl (fun q12 => ?_) (fun q12 => ?_)
    · have h := iteT q12 h
      refine WC.seq ?_
      refine WC.region ?_
      refine WO.mv rfl ?_
      refine WO.mv rfl ?_
      refine WO.mv rfl ?_
      refine WO.bin rfl rfl (by decide) (by decide) rfl ?_
      refine WO.bin rfl rfl (by decide) (by decide) rfl ?_
      obtain ⟨r13, e14, h⟩ := bindS h
      refine WO.callE (S := S7) rfl rfl (F109_ok e14) (fun S15 c16 => ?_)
      have ho4 := ho4.to c16
      refine WO.do rfl rfl ?_
      refine WO.do rfl rfl ?_
      refine WO.stBA (u' := (r13.1.1, r13.1.2)) rfl ho4.at0 rfl ho4 rfl rfl (fun S17 c18 ho4 => ?_)
      refine WO.asg rfl ?_
      refine WO.nil ?_
      refine thenL_n ?_
      refine WC.ret ?_
      refine thenL_r ?_
      have hcell := ho4
      obtain rfl := someI h
      exact ⟨.inr rfl, _, _, (resK_c2 hcell (Cov.refl _) rfl rfl rfl), rfl, rfl⟩
    · have h := iteF q12 h
      refine WC.skip ?_
      refine thenL_n ?_
      refine WC.seq ?_
      refine WC.region ?_
      refine WO.mv rfl ?_
      refine WO.mv rfl ?_
      refine WO.mv rfl ?_
      refine WO.mv rfl ?_
      obtain ⟨r19, e20, h⟩ := bindS h
      refine WO.callE (S := S7) rfl rfl (F42_ok e20) (fun S21 c22 => ?_)
      have ho4 := ho4.to c22
      refine WO.mv rfl ?_
      refine WO.do rfl rfl ?_
      refine WO.do rfl rfl ?_
      refine WO.alS (A := Y26) (S := S21) (z0 := (0, 0)) 3 rfl rfl rfl (fun v23 S24 c25 ho26 => ?_)
      have ho4 := ho4.to c25
      refine WO.stBA (u' := (r19.1.1, r19.1.2)) rfl ho26.at0 rfl ho26 rfl rfl (fun S27 c28 ho26 => ?_)
      have ho4 := ho4.to c28
      refine WO.asg rfl ?_
      refine WO.nil ?_
      refine thenL_n ?_
      refine WC.seq ?_
      refine WC.seq ?_
      refine WC.region ?_
      refine WO.mv rfl ?_
      refine WO.bin rfl rfl (by decide) (by decide) rfl ?_
      refine WO.nil ?_
      refine thenL_n ?_
      refine WC.cond rfl (fun q29 => ?_) (fun q29 => ?_)
      · have h := iteT q29 h
        refine WC.seq ?_
        refine WC.region ?_
        refine WO.do rfl rfl ?_
        refine WO.mv rfl ?_
        refine WO.stBA (u' := (0, 0)) rfl ho4.at0 rfl ho4 rfl rfl (fun S30 c31 ho4 => ?_)
        have ho26 := ho26.to c31
        refine WO.asg rfl ?_
        refine WO.nil ?_
        refine thenL_n ?_
        refine WC.ret ?_
        refine thenL_r ?_
        have hcell := ho4
        obtain rfl := someI h
        exact ⟨.inr rfl, _, _, (resK_c2 hcell (Cov.refl _) rfl rfl rfl), rfl, rfl⟩
      · have h := iteF q29 h
        refine WC.skip ?_
        refine thenL_n ?_
        refine WC.seq ?_
        refine WC.region ?_
        refine WO.ldBA (j := 0) rfl ho26.at0 ho26 rfl rfl ?_
        refine WO.mv rfl ?_
        refine WO.do rfl rfl ?_
        obtain ⟨r32, e33, h⟩ := bindS h
        refine WO.callE (S := S27) rfl rfl (F119_ok e33) (fun S34 c35 => ?_)
        have ho4 := ho4.to c35
        have ho26 := ho26.to c35
        refine WO.mv rfl ?_
        refine WO.do rfl rfl ?_
        refine WO.do rfl rfl ?_
        refine WO.alS (A := Y26) (S := S34) (z0 := (0, 0)) 4 rfl rfl rfl (fun v36 S37 c38 ho39 => ?_)
        have ho4 := ho4.to c38
        have ho26 := ho26.to c38
        refine WO.stBA (u' := (r32.1.1, r32.1.2)) rfl ho39.at0 rfl ho39 rfl rfl (fun S40 c41 ho39 => ?_)
        have ho4 := ho4.to c41
        have ho26 := ho26.to c41
        refine WO.asg rfl ?_
        refine WO.nil ?_
        refine thenL_n ?_
        refine WC.seq ?_
        refine WC.seq ?_
        refine WC.region ?_
        refine WO.mv rfl ?_
        refine WO.bin rfl rfl (by decide) (by decide) rfl ?_
        refine WO.nil ?_
        refine thenL_n ?_
        refine WC.cond rfl (fun q42 => ?_) (fun q42 => ?_)
        · have h := iteT q42 h
          refine WC.seq ?_
          refine WC.region ?_
          refine WO.do rfl rfl ?_
          refine WO.mv rfl ?_
          refine WO.stBA (u' := (0, 0)) rfl ho4.at0 rfl ho4 rfl rfl (fun S43 c44 ho4 => ?_)
          have ho26 := ho26.to c44
          have ho39 := ho39.to c44
          refine WO.asg rfl ?_
          refine WO.nil ?_
          refine thenL_n ?_
          refine WC.ret ?_
          refine thenL_r ?_
          have hcell := ho4
          obtain rfl := someI h
          exact ⟨.inr rfl, _, _, (resK_c2 hcell (Cov.refl _) rfl rfl rfl), rfl, rfl⟩
        · have h := iteF q42 h
          refine WC.skip ?_
          refine thenL_n ?_
          refine WC.seq ?_
          refine WC.seq ?_
          refine WC.region ?_
          refine WO.ldBA (j := 0) rfl ho39.at0 ho39 rfl rfl ?_
          refine WO.mv rfl ?_
          refine WO.do rfl rfl ?_
          refine WO.do rfl rfl ?_
          obtain ⟨r45, e46, h⟩ := bindS h
          refine WO.callE (S := S40) rfl rfl (F120_ok e46) (fun S47 c48 => ?_)
          have ho4 := ho4.to c48
          have ho26 := ho26.to c48
          have ho39 := ho39.to c48
          refine WO.mv rfl ?_
          refine WO.do rfl rfl ?_
          refine WO.do rfl rfl ?_
          refine WO.stBA (u' := (r45.1.1, r45.1.2)) rfl ho39.at0 rfl ho39 rfl rfl (fun S49 c50 ho39 => ?_)
          have ho4 := ho4.to c50
          have ho26 := ho26.to c50
          refine WO.asg rfl ?_
          refine WO.nil ?_
          refine thenL_n ?_
          refine WC.seq ?_
          refine WC.region ?_
          refine WO.mv rfl ?_
          refine WO.bin rfl rfl (by decide) (by decide) rfl ?_
          refine WO.nil ?_
          refine thenL_n ?_
          refine WC.cond rfl (fun q51 => ?_) (fun q51 => ?_)
          · have h := iteT q51 h
            refine WC.seq ?_
            refine WC.region ?_
            refine WO.do rfl rfl ?_
            refine WO.mv rfl ?_
            refine WO.stBA (u' := (0, 0)) rfl ho4.at0 rfl ho4 rfl rfl (fun S52 c53 ho4 => ?_)
            have ho26 := ho26.to c53
            have ho39 := ho39.to c53
            refine WO.asg rfl ?_
            refine WO.nil ?_
            refine thenL_n ?_
            refine WC.ret ?_
            refine thenL_r ?_
            have hcell := ho4
            obtain rfl := someI h
            exact ⟨.inr rfl, _, _, (resK_c2 hcell (Cov.refl _) rfl rfl rfl), rfl, rfl⟩
          · have h := iteF q51 h
            refine WC.skip ?_
            refine thenL_n ?_
            refine WC.seq ?_
            refine WC.region ?_
            refine WO.mv rfl ?_
            refine WO.mv rfl ?_
            refine WO.bin rfl rfl (by decide) (by decide) rfl ?_
            refine WO.mv rfl ?_
            refine WO.mv rfl ?_
            refine WO.bin rfl rfl (by decide) (by decide) rfl ?_
            obtain ⟨r54, e55, h⟩ := bindS h
            refine WO.callE (S := S49) rfl rfl (F109_ok e55) (fun S56 c57 => ?_)
            have ho4 := ho4.to c57
            have ho26 := ho26.to c57
            have ho39 := ho39.to c57
            refine WO.mv rfl ?_
            refine WO.do rfl rfl ?_
            refine WO.do rfl rfl ?_
            refine WO.alS (A := Y26) (S := S56) (z0 := (0, 0)) 5 rfl rfl rfl (fun v58 S59 c60 ho61 => ?_)
            have ho4 := ho4.to c60
            have ho26 := ho26.to c60
            have ho39 := ho39.to c60
            refine WO.stBA (u' := (r54.1.1, r54.1.2)) rfl ho61.at0 rfl ho61 rfl rfl (fun S62 c63 ho61 => ?_)
            have ho4 := ho4.to c63
            have ho26 := ho26.to c63
            have ho39 := ho39.to c63
            refine WO.asg rfl ?_
            refine WO.nil ?_
            refine thenL_n ?_
            refine WC.seq ?_
            refine WC.region ?_
            refine WO.ldBA (j := 0) rfl ho39.at0 ho39 rfl rfl ?_
            refine WO.ldBA (j := 0) rfl ho61.at0 ho61 rfl rfl ?_
            obtain ⟨r64, e65, h⟩ := bindS h
            refine WO.callE (S := S62) rfl rfl (F119_ok e65) (fun S66 c67 => ?_)
            have ho4 := ho4.to c67
            have ho26 := ho26.to c67
            have ho39 := ho39.to c67
            have ho61 := ho61.to c67
            refine WO.do rfl rfl ?_
            refine WO.do rfl rfl ?_
            refine WO.stBA (u' := (r64.1.1, r64.1.2)) rfl ho4.at0 rfl ho4 rfl rfl (fun S68 c69 ho4 => ?_)
            have ho26 := ho26.to c69
            have ho39 := ho39.to c69
            have ho61 := ho61.to c69
            refine WO.asg rfl ?_
            refine WO.nil ?_
            refine thenL_n ?_
            refine WC.ret ?_
            have hcell := ho4
            obtain rfl := someI h
            exact ⟨.inr rfl, _, _, (resK_c2 hcell (Cov.refl _) rfl rfl rfl), rfl, rfl⟩
end Go.Proofs.Ytdkmepeolmdccaa

/- The machine answers F13: printed by a program of ours (gen.py). -/
import Derived.Test.YtdkmepeolmdccaaDef
import Derived.Test.YtdkmepeolmdccaaEnv
import Derived.Test.YtdkmepeolmdccaaF100
import Derived.Test.YtdkmepeolmdccaaF31
import Derived.Test.YtdkmepeolmdccaaF89
import Derived.Test.YtdkmepeolmdccaaF90
import Derived.Test.YtdkmepeolmdccaaF91
import Derived.Test.YtdkmepeolmdccaaF92
import Derived.Test.YtdkmepeolmdccaaF93
import Derived.Test.YtdkmepeolmdccaaF94
import Derived.Test.YtdkmepeolmdccaaF95
import Derived.Test.YtdkmepeolmdccaaF96_97
import Derived.Test.YtdkmepeolmdccaaF98
import Derived.Test.YtdkmepeolmdccaaF99
set_option linter.unusedVariables false
namespace Go.Proofs.Ytdkmepeolmdccaa
open Go.Am
theorem F13.fn : E.fn 13 = some ⟨196, (Try.f13.body.getD .skip), Try.f13.results.toList, []⟩ := rfl
theorem F13_ok {F : Nat} {m : Mem} {n : Nat} {r : Bool} {t0 : List (List Int)} {t1 : List (Int × Int)} {t2 : List Int} {vt0 : SV} {vt1 : SV} {vt2 : SV} (h : F13 F t0 t1 t2 = some r) (kt0 : Vw Y22 n m vt0 t0) (kt1 : Vw Y26 n m vt1 t1) (kt2 : Vw Y3 n m vt2 t2) : Ret E n 13 [.sc vt0, .sc vt1, .sc vt2] m n (fun v m' n' => v = .sc (.bool r)) := by
  unfold F13 at h
  refine Ret.walk F13.fn ?_
  refine WC.start fun S0 em en hz => ?_
  have hot0 := kt0.rdS em hz
  have hot1 := kt1.rdS em hz
  have hot2 := kt2.rdS em hz
  refine WC.seq ?_
  refine WC.region ?_
  refine WO.asg rfl ?_
  refine WO.nil ?_
  refine thenL_n ?_
  refine WC.seq ?_
  refine WC.region ?_
  refine WO.mv rfl ?_
  refine WO.mv rfl ?_
  obtain ⟨r1, e2, h⟩ := bindS h
  refine WO.callF (S := S0) 2 rfl rfl (F89_ok e2 hot0.vw hot1.vw) Lay.flat_fl (fun v3 S5 c6 ho4 => ?_)
  have hot0 := hot0.to c6
  have hot1 := hot1.to c6
  have hot2 := hot2.to c6
  refine WO.mv rfl ?_
  refine WO.do rfl rfl ?_
  refine WO.do rfl rfl ?_
  refine WO.asg rfl ?_
  refine WO.asg rfl ?_
  refine WO.nil ?_
  refine thenL_n ?_
  refine WC.seq ?_
  refine WC.region ?_
  refine WO.mv rfl ?_
  obtain ⟨r7, e8, h⟩ := bindS h
  refine WO.callF (S := S5) 3 rfl rfl (F90_ok e8 hot0.vw) Lay.flat_fl (fun v9 S11 c12 ho10 => ?_)
  have hot0 := hot0.to c12
  have hot1 := hot1.to c12
  have hot2 := hot2.to c12
  have ho4 := ho4.to c12
  refine WO.mv rfl ?_
  refine WO.do rfl rfl ?_
  refine WO.do rfl rfl ?_
  refine WO.asg rfl ?_
  refine WO.asg rfl ?_
  refine WO.nil ?_
  refine thenL_n ?_
  refine WC.seq ?_
  refine WC.region ?_
  refine WO.mv rfl ?_
  refine WO.mv rfl ?_
  obtain ⟨r13, e14, h⟩ := bindS h
  refine WO.callE (S := S11) rfl rfl (F91_ok e14 hot0.vw hot2.vw) (fun S15 c16 => ?_)
  have hot0 := hot0.to c16
  have hot1 := hot1.to c16
  have hot2 := hot2.to c16
  have ho4 := ho4.to c16
  have ho10 := ho10.to c16
  refine WO.mv rfl ?_
  refine WO.do rfl rfl ?_
  refine WO.do rfl rfl ?_
  refine WO.asg rfl ?_
  refine WO.asg rfl ?_
  refine WO.nil ?_
  refine thenL_n ?_
  refine WC.seq ?_
  refine WC.region ?_
  refine WO.mv rfl ?_
  obtain ⟨r17, e18, h⟩ := bindS h
  refine WO.callE (S := S15) rfl rfl (F92_ok e18 hot0.vw) (fun S19 c20 => ?_)
  have hot0 := hot0.to c20
  have hot1 := hot1.to c20
  have hot2 := hot2.to c20
  have ho4 := ho4.to c20
  have ho10 := ho10.to c20
  refine WO.asg rfl ?_
  refine WO.nil ?_
  refine thenL_n ?_
  refine WC.seq ?_
  refine WC.seq ?_
  refine WC.region ?_
  refine WO.mv rfl ?_
  obtain ⟨r21, e22, h⟩ := bindS h
  refine WO.callE (S := S19) rfl rfl (F93_ok e22 hot0.vw) (fun S23 c24 => ?_)
  have hot0 := hot0.to c24
  have hot1 := hot1.to c24
  have hot2 := hot2.to c24
  have ho4 := ho4.to c24
  have ho10 := ho10.to c24
  refine WO.mv rfl ?_
  refine WO.bin rfl rfl (by decide) (by decide) rfl ?_
  refine WO.nil ?_
  refine thenL_n ?_
  refine WC.cond rfl (fun q25 => ?_) (fun q25 => ?_)
  · have h := iteT q25 h
    refine WC.seq ?_
    refine WC.region ?_
    refine WO.asg rfl ?_
    refine WO.nil ?_
    refine thenL_n ?_
    refine WC.ret ?_
    refine thenL_r ?_
    obtain rfl := someI h
    exact ⟨.inr rfl, _, _, rfl, rfl, rfl⟩
  · have h := iteF q25 h
    refine WC.skip ?_
    refine thenL_n ?_
    refine WC.seq ?_
    refine WC.seq ?_
    refine WC.region ?_
    refine WO.mv rfl ?_
    refine WO.bin rfl rfl (by decide) (by decide) rfl ?_
    refine WO.nil ?_
    refine thenL_n ?_
    refine WC.cond rfl (fun q26 => ?_) (fun q26 => ?_)
    · have h := iteT q26 h
      refine WC.seq ?_
      refine WC.region ?_
      refine WO.mv rfl ?_
      refine WO.mv rfl ?_
      refine WO.bin rfl rfl (by decide) (by decide) rfl ?_
      refine WO.mv rfl ?_
      refine WO.cutB (d := 56) 4 ((r1.2 == r17) && (r7.2 == r17)) (fun q27 => ?_) (fun q27 => ?_) ?_
      · skip
        refine WO.gyes rfl rfl ?_
        refine WO.mv rfl ?_
        refine WO.gyes rfl rfl ?_
        refine WO.mv rfl ?_
        refine WO.gyes rfl rfl ?_
        refine WO.bin rfl rfl (by decide) (by decide) rfl ?_
        refine WO.pickT rfl rfl ?_
        refine WO.nil ?_
        exact ⟨rfl, rfl, (Cov.any rfl (andT q27) (Cov.skip rfl (Cov.skip rfl (Cov.skip rfl (Cov.skip rfl (Cov.skip rfl (Cov.refl _)))))))⟩
      · refine WO.gno rfl rfl ?_
        refine WO.gno rfl rfl ?_
        refine WO.gno rfl rfl ?_
        refine WO.pickF rfl rfl ?_
        refine WO.nil ?_
        exact ⟨rfl, rfl, (Cov.any rfl (andF q27) (Cov.skip rfl (Cov.skip rfl (Cov.skip rfl (Cov.skip rfl (Cov.skip rfl (Cov.refl _)))))))⟩
      refine WO.mv rfl ?_
      refine WO.cutB (d := 61) 4 (((r1.2 == r17) && (r7.2 == r17)) && (r13.2 == r17)) (fun q28 => ?_) (fun q28 => ?_) ?_
      · skip
        refine WO.gyes rfl rfl ?_
        refine WO.mv rfl ?_
        refine WO.gyes rfl rfl ?_
        refine WO.mv rfl ?_
        refine WO.gyes rfl rfl ?_
        refine WO.bin rfl rfl (by decide) (by decide) rfl ?_
        refine WO.pickT rfl rfl ?_
        refine WO.nil ?_
        exact ⟨rfl, rfl, (Cov.any rfl (andT q28) (Cov.skip rfl (Cov.skip rfl (Cov.skip rfl (Cov.skip rfl (Cov.skip rfl (Cov.refl _)))))))⟩
      · refine WO.gno rfl rfl ?_
        refine WO.gno rfl rfl ?_
        refine WO.gno rfl rfl ?_
        refine WO.pickF rfl rfl ?_
        refine WO.nil ?_
        exact ⟨rfl, rfl, (Cov.any rfl (andF q28) (Cov.skip rfl (Cov.skip rfl (Cov.skip rfl (Cov.skip rfl (Cov.skip rfl (Cov.refl _)))))))⟩
      refine WO.mv rfl ?_
      refine WO.cutB (d := 69) 7 ((((r1.2 == r17) && (r7.2 == r17)) && (r13.2 == r17)) && ((wrapA .i64 ((r1.1.length : Int) + (r7.1.length : Int))) == 0)) (fun q29 => ?_) (fun q29 => ?_) ?_
      · skip
        refine WO.gyes rfl rfl ?_
        refine WO.mv rfl ?_
        refine WO.gyes rfl rfl ?_
        refine WO.lenS rfl ho4.slv rfl ?_
        refine WO.gyes rfl rfl ?_
        refine WO.mv rfl ?_
        refine WO.gyes rfl rfl ?_
        refine WO.lenS rfl ho10.slv rfl ?_
        refine WO.gyes rfl rfl ?_
        refine WO.bin rfl rfl (by decide) (by decide) rfl ?_
        refine WO.gyes rfl rfl ?_
        refine WO.bin rfl rfl (by decide) (by decide) rfl ?_
        refine WO.pickT rfl rfl ?_
        refine WO.nil ?_
        exact ⟨rfl, rfl, (Cov.any rfl (andT q29) (Cov.skip rfl (Cov.skip rfl (Cov.skip rfl (Cov.skip rfl (Cov.skip rfl (Cov.skip rfl (Cov.skip rfl (Cov.skip rfl (Cov.refl _))))))))))⟩
      · refine WO.gno rfl rfl ?_
        refine WO.gno rfl rfl ?_
        refine WO.gno rfl rfl ?_
        refine WO.gno rfl rfl ?_
        refine WO.gno rfl rfl ?_
        refine WO.gno rfl rfl ?_
        refine WO.pickF rfl rfl ?_
        refine WO.nil ?_
        exact ⟨rfl, rfl, (Cov.any rfl (andF q29) (Cov.skip rfl (Cov.skip rfl (Cov.skip rfl (Cov.skip rfl (Cov.skip rfl (Cov.skip rfl (Cov.skip rfl (Cov.skip rfl (Cov.refl _))))))))))⟩
      refine WO.mv rfl ?_
      refine WO.cutB (d := 73) 3 (((((r1.2 == r17) && (r7.2 == r17)) && (r13.2 == r17)) && ((wrapA .i64 ((r1.1.length : Int) + (r7.1.length : Int))) == 0)) && (!r13.1)) (fun q30 => ?_) (fun q30 => ?_) ?_
      · skip
        refine WO.gyes rfl rfl ?_
        refine WO.mv rfl ?_
        refine WO.gyes rfl rfl ?_
        refine WO.do rfl rfl ?_
        refine WO.pickT rfl rfl ?_
        refine WO.nil ?_
        exact ⟨rfl, rfl, (Cov.any rfl (andT q30) (Cov.skip rfl (Cov.skip rfl (Cov.skip rfl (Cov.skip rfl (Cov.refl _))))))⟩
      · refine WO.gno rfl rfl ?_
        refine WO.gno rfl rfl ?_
        refine WO.pickF rfl rfl ?_
        refine WO.nil ?_
        exact ⟨rfl, rfl, (Cov.any rfl (andF q30) (Cov.skip rfl (Cov.skip rfl (Cov.skip rfl (Cov.skip rfl (Cov.refl _))))))⟩
      refine WO.asg rfl ?_
      refine WO.nil ?_
      refine thenL_n ?_
      refine WC.ret ?_
      refine thenL_r ?_
      obtain rfl := someI h
      exact ⟨.inr rfl, _, _, rfl, rfl, rfl⟩
    · have h := iteF q26 h
      refine WC.skip ?_
      refine thenL_n ?_
      refine WC.seq ?_
      refine WC.region ?_
      refine WO.mv rfl ?_
      obtain ⟨r31, e32, h⟩ := bindS h
      refine WO.callF (S := S23) 4 rfl rfl (F94_ok e32 hot0.vw) Lay.flat_fl (fun v33 S35 c36 ho34 => ?_)
      have hot0 := hot0.to c36
      have hot1 := hot1.to c36
      have hot2 := hot2.to c36
      have ho4 := ho4.to c36
      have ho10 := ho10.to c36
      refine WO.asg rfl ?_
      refine WO.nil ?_
      refine thenL_n ?_
      refine WC.seq ?_
      refine WC.seq ?_
      refine WC.region ?_
      refine WO.mv rfl ?_
      obtain ⟨r37, e38, h⟩ := bindS h
      refine WO.callE (S := S35) rfl rfl (F95_ok e38 ho34.vw) (fun S39 c40 => ?_)
      have hot0 := hot0.to c40
      have hot1 := hot1.to c40
      have hot2 := hot2.to c40
      have ho4 := ho4.to c40
      have ho10 := ho10.to c40
      have ho34 := ho34.to c40
      refine WO.bin rfl rfl (by decide) (by decide) rfl ?_
      refine WO.nil ?_
      refine thenL_n ?_
      obtain ⟨b54, e55, h⟩ := bindS h
      refine WC.mono (Q' := (fun b e l' m' n' => (match b with | .inl b56 => e = .normal ∧ ∃ S57 : Cx n, S57.m = m' ∧ S57.n = n' ∧ Cov l' [(0, .sc vt0), (1, .sc vt1), (2, .sc vt2), (7, .sc v3), (8, .sc (.int .i64 r1.2)), (11, .sc (.bool r13.1)), (12, .sc (.int .i64 r13.2))] ∧ Rd Y22 S57 vt0 t0 ∧ Rd Y26 S57 vt1 t1 ∧ Rd Y3 S57 vt2 t2 ∧ Ow Y26 S57 2 v3 r1.1 | .inr b56 => e = .ret ∧ ∃ S58 : Cx n, S58.m = m' ∧ S58.n = n' ∧ Cov l' [(6, .sc (.bool b56))])) b54) ?_ ?_
      · have h := e55
        dsimp only at h ⊢
        refine WC.cond rfl (fun q41 => ?_) (fun q41 => ?_)
        · have h := iteT q41 h
          refine WC.seq ?_
          refine WC.region ?_
          refine WO.mv rfl ?_
          refine WO.bin rfl rfl (by decide) (by decide) rfl ?_
          refine WO.mv rfl ?_
          refine WO.cutB (d := 85) 4 ((r7.2 != 4) || (decide ((r7.1.length : Int) > 0))) (fun q42 => ?_) (fun q42 => ?_) ?_
          · refine WO.gno rfl rfl ?_
            refine WO.gno rfl rfl ?_
            refine WO.gno rfl rfl ?_
            refine WO.pickT rfl rfl ?_
            refine WO.nil ?_
            exact ⟨rfl, rfl, (Cov.any rfl (orT q42) (Cov.skip rfl (Cov.skip rfl (Cov.skip rfl (Cov.skip rfl (Cov.skip rfl (Cov.refl _)))))))⟩
          · skip
            refine WO.gyes rfl rfl ?_
            refine WO.mv rfl ?_
            refine WO.gyes rfl rfl ?_
            refine WO.lenS rfl ho10.slv rfl ?_
            refine WO.gyes rfl rfl ?_
            refine WO.bin rfl rfl (by decide) (by decide) rfl ?_
            refine WO.pickF rfl rfl ?_
            refine WO.nil ?_
            exact ⟨rfl, rfl, (Cov.any rfl (orF q42) (Cov.skip rfl (Cov.skip rfl (Cov.skip rfl (Cov.skip rfl (Cov.skip rfl (Cov.refl _)))))))⟩
          refine WO.nil ?_
          refine thenL_n ?_
          refine WC.cond rfl (fun q43 => ?_) (fun q43 => ?_)
          · have h := iteT q43 h
            refine WC.seq ?_
            refine WC.region ?_
            refine WO.asg rfl ?_
            refine WO.nil ?_
            refine thenL_n ?_
            refine WC.ret ?_
            obtain rfl := someI h
            exact ⟨rfl, ⟨S39, rfl, rfl, (Cov.cons rfl (Cov.nil _))⟩⟩
          · have h := iteF q43 h
            refine WC.skip ?_
            obtain rfl := someI h
            exact ⟨rfl, ⟨S39, rfl, rfl, (Cov.cons rfl (Cov.cons rfl (Cov.cons rfl (Cov.cons rfl (Cov.cons rfl (Cov.cons rfl (Cov.cons rfl (Cov.nil _)))))))), hot0, hot1, hot2, ho4⟩⟩
        · have h := iteF q41 h
          refine WC.seq ?_
          refine WC.region ?_
          refine WO.mv rfl ?_
          refine WO.bin rfl rfl (by decide) (by decide) rfl ?_
          refine WO.mv rfl ?_
          obtain ⟨y49, e50, h⟩ := bindS h
          refine WO.cutS (d := 93) (S := S39) 5 y49 (fun q48 => ?_) (fun q48 => ?_) (fun S51 c52 => ?_)
          · have h := e50
            have h := iteT q48 h
            obtain rfl := someI h
            refine WO.gno rfl rfl ?_
            refine WO.gno rfl rfl ?_
            refine WO.gno rfl rfl ?_
            refine WO.gno rfl rfl ?_
            refine WO.pickT rfl rfl ?_
            refine WO.nil ?_
            exact ⟨S39, rfl, rfl, Ch.refl _ _, (Cov.cons rfl (Cov.skip rfl (Cov.skip rfl (Cov.skip rfl (Cov.skip rfl (Cov.skip rfl (Cov.skip rfl (Cov.refl _))))))))⟩
          · have h := e50
            have h := iteF q48 h
            refine WO.gyes rfl rfl ?_
            refine WO.mv rfl ?_
            refine WO.gyes rfl rfl ?_
            refine WO.mv rfl ?_
            refine WO.gyes rfl rfl ?_
            obtain ⟨r44, e45, h⟩ := bindS h
            refine WO.callE (S := S39) rfl rfl (F31_ok e45 ho10.vw ho34.vw) (fun S46 c47 => ?_)
            have hot0 := hot0.to c47
            have hot1 := hot1.to c47
            have hot2 := hot2.to c47
            have ho4 := ho4.to c47
            have ho10 := ho10.to c47
            have ho34 := ho34.to c47
            refine WO.gyes rfl rfl ?_
            refine WO.do rfl rfl ?_
            obtain rfl := someI h
            refine WO.pickF rfl rfl ?_
            refine WO.nil ?_
            exact ⟨S46, rfl, rfl, c47, (Cov.cons rfl (Cov.skip rfl (Cov.skip rfl (Cov.skip rfl (Cov.skip rfl (Cov.skip rfl (Cov.skip rfl (Cov.refl _))))))))⟩
          have hot0 := hot0.to c52
          have hot1 := hot1.to c52
          have hot2 := hot2.to c52
          have ho4 := ho4.to c52
          have ho10 := ho10.to c52
          have ho34 := ho34.to c52
          refine WO.nil ?_
          refine thenL_n ?_
          refine WC.cond rfl (fun q53 => ?_) (fun q53 => ?_)
          · have h := iteT q53 h
            refine WC.seq ?_
            refine WC.region ?_
            refine WO.asg rfl ?_
            refine WO.nil ?_
            refine thenL_n ?_
            refine WC.ret ?_
            obtain rfl := someI h
            exact ⟨rfl, ⟨S51, rfl, rfl, (Cov.cons rfl (Cov.nil _))⟩⟩
          · have h := iteF q53 h
            refine WC.skip ?_
            obtain rfl := someI h
            exact ⟨rfl, ⟨S51, rfl, rfl, (Cov.cons rfl (Cov.cons rfl (Cov.cons rfl (Cov.cons rfl (Cov.cons rfl (Cov.cons rfl (Cov.cons rfl (Cov.nil _)))))))), hot0, hot1, hot2, ho4⟩⟩
      dsimp only
      cases b54 with
      | inl b59 =>
        simp only at h
        rintro _ _ _ _ ⟨rfl, ⟨S60, rfl, rfl, hc61, hot0, hot1, hot2, ho4⟩⟩
        refine thenL_n ?_
        refine WC.cov hc61 ?_
        refine WC.seq ?_
        refine WC.region ?_
        refine WO.asg rfl ?_
        refine WO.nil ?_
        refine thenL_n ?_
        refine WC.seq ?_
        refine WC.seq ?_
        refine WC.region ?_
        refine WO.mv rfl ?_
        refine WO.lenS rfl hot2.slv rfl ?_
        refine WO.mv rfl ?_
        refine WO.lenS rfl hot0.slv rfl ?_
        refine WO.bin rfl rfl (by decide) (by decide) rfl ?_
        refine WO.nil ?_
        refine thenL_n ?_
        obtain ⟨b68, e69, h⟩ := bindS h
        refine WC.mono (Q' := (fun b e l' m' n' => e = .normal ∧ ∃ S70 : Cx n, S70.m = m' ∧ S70.n = n' ∧ Cov l' [(0, .sc vt0), (1, .sc vt1), (2, .sc vt2), (7, .sc v3), (8, .sc (.int .i64 r1.2)), (11, .sc (.bool r13.1)), (12, .sc (.int .i64 r13.2)), (15, .sc (.int .i64 b))] ∧ Rd Y22 S70 vt0 t0 ∧ Rd Y26 S70 vt1 t1 ∧ Rd Y3 S70 vt2 t2 ∧ Ow Y26 S70 2 v3 r1.1) b68) ?_ ?_
        · have h := e69
          dsimp only at h ⊢
          refine WC.cond rfl (fun q62 => ?_) (fun q62 => ?_)
          · have h := iteT q62 h
            refine WC.region ?_
            refine WO.asg rfl ?_
            refine WO.nil ?_
            obtain rfl := someI h
            exact ⟨rfl, ⟨S60, rfl, rfl, (Cov.cons rfl (Cov.cons rfl (Cov.cons rfl (Cov.cons rfl (Cov.cons rfl (Cov.cons rfl (Cov.cons rfl (Cov.cons rfl (Cov.nil _))))))))), hot0, hot1, hot2, ho4⟩⟩
          · have h := iteF q62 h
            refine WC.seq ?_
            refine WC.region ?_
            refine WO.mv rfl ?_
            obtain ⟨r63, e64, h⟩ := bindS h
            refine WO.callE (S := S60) rfl rfl (F96_97_ok e64 hot2.vw) (fun S65 c66 => ?_)
            have hot0 := hot0.to c66
            have hot1 := hot1.to c66
            have hot2 := hot2.to c66
            have ho4 := ho4.to c66
            refine WO.nil ?_
            refine thenL_n ?_
            refine WC.cond rfl (fun q67 => ?_) (fun q67 => ?_)
            · have h := iteT q67 h
              refine WC.region ?_
              refine WO.asg rfl ?_
              refine WO.nil ?_
              obtain rfl := someI h
              exact ⟨rfl, ⟨S65, rfl, rfl, (Cov.cons rfl (Cov.cons rfl (Cov.cons rfl (Cov.cons rfl (Cov.cons rfl (Cov.cons rfl (Cov.cons rfl (Cov.cons rfl (Cov.nil _))))))))), hot0, hot1, hot2, ho4⟩⟩
            · have h := iteF q67 h
              refine WC.skip ?_
              obtain rfl := someI h
              exact ⟨rfl, ⟨S65, rfl, rfl, (Cov.cons rfl (Cov.cons rfl (Cov.cons rfl (Cov.cons rfl (Cov.cons rfl (Cov.cons rfl (Cov.cons rfl (Cov.cons rfl (Cov.nil _))))))))), hot0, hot1, hot2, ho4⟩⟩
        dsimp only
        rintro _ _ _ _ ⟨rfl, ⟨S71, rfl, rfl, hc72, hot0, hot1, hot2, ho4⟩⟩
        refine thenL_n ?_
        refine WC.cov hc72 ?_
        refine WC.seq ?_
        refine WC.region ?_
        refine WO.mv rfl ?_
        refine WO.bin rfl rfl (by decide) (by decide) rfl ?_
        refine WO.asg rfl ?_
        refine WO.nil ?_
        refine thenL_n ?_
        refine WC.seq ?_
        refine WC.seq ?_
        refine WC.region ?_
        refine WO.mv rfl ?_
        refine WO.lenS rfl hot0.slv rfl ?_
        refine WO.mv rfl ?_
        refine WO.nil ?_
        refine thenL_n ?_
        refine WC.block ?_
        obtain ⟨b109, e110, h⟩ := bindS h
        refine WC.loopD e110 (fun s73 l' m' n' => ∃ S74 : Cx n, S74.m = m' ∧ S74.n = n' ∧ Cov l' [(0, .sc vt0), (1, .sc vt1), (2, .sc vt2), (7, .sc v3), (8, .sc (.int .i64 r1.2)), (11, .sc (.bool r13.1)), (12, .sc (.int .i64 r13.2)), (15, .sc (.int .i64 b68)), (16, .sc (.bool s73.1)), (104, .sc (.int .i64 ((t0.length : Int)))), (105, .sc (.int .i64 s73.2))] ∧ Rd Y22 S74 vt0 t0 ∧ Rd Y26 S74 vt1 t1 ∧ Rd Y3 S74 vt2 t2 ∧ Ow Y26 S74 2 v3 r1.1) (fun b e l' m' n' => e = .exit 0 ∧ ∃ S75 : Cx n, S75.m = m' ∧ S75.n = n' ∧ Cov l' [(0, .sc vt0), (1, .sc vt1), (7, .sc v3), (8, .sc (.int .i64 r1.2)), (11, .sc (.bool r13.1)), (12, .sc (.int .i64 r13.2)), (15, .sc (.int .i64 b68)), (16, .sc (.bool b))] ∧ Rd Y22 S75 vt0 t0 ∧ Rd Y26 S75 vt1 t1 ∧ Ow Y26 S75 2 v3 r1.1) (by exact ⟨S71, rfl, rfl, (Cov.cons rfl (Cov.cons rfl (Cov.cons rfl (Cov.cons rfl (Cov.cons rfl (Cov.cons rfl (Cov.cons rfl (Cov.cons rfl (Cov.cons rfl (Cov.cons rfl (Cov.cons rfl (Cov.nil _)))))))))))), hot0, hot1, hot2, ho4⟩) ?_ ?_
        · clear h
          rintro s73 q _ _ _ ⟨S76, rfl, rfl, hc77, hot0, hot1, hot2, ho4⟩ h
          unfold F13_l1 at h
          refine WC.cov hc77 ?_
          refine WC.seq ?_
          refine WC.region ?_
          refine WO.bin rfl rfl (by decide) (by decide) rfl ?_
          refine WO.nil ?_
          refine thenL_n ?_
          refine WC.seq ?_
          refine WC.cond rfl (fun q78 => ?_) (fun q78 => ?_)
          · have h := iteT q78 h
            refine WC.skip ?_
            refine thenL_n ?_
            refine WC.seq ?_
            refine WC.block ?_
            refine WC.seq ?_
            refine WC.region ?_
            refine WO.mv rfl ?_
            refine WO.asg rfl ?_
            refine WO.nil ?_
            refine thenL_n ?_
            refine WC.seq ?_
            refine WC.region ?_
            refine WO.mv rfl ?_
            refine WO.mv rfl ?_
            refine WO.nil ?_
            refine thenL_n ?_
            refine WC.block ?_
            obtain ⟨b105, e106, h⟩ := bindS h
            refine WC.loopD e106 (fun s79 l' m' n' => ∃ S80 : Cx n, S80.m = m' ∧ S80.n = n' ∧ Cov l' [(0, .sc vt0), (1, .sc vt1), (2, .sc vt2), (7, .sc v3), (8, .sc (.int .i64 r1.2)), (11, .sc (.bool r13.1)), (12, .sc (.int .i64 r13.2)), (15, .sc (.int .i64 b68)), (16, .sc (.bool s79.1)), (17, .sc (.int .i64 s73.2)), (104, .sc (.int .i64 ((t0.length : Int)))), (105, .sc (.int .i64 s73.2)), (108, .sc (.int .i64 s73.2)), (109, .sc (.int .i64 s79.2))] ∧ Rd Y22 S80 vt0 t0 ∧ Rd Y26 S80 vt1 t1 ∧ Rd Y3 S80 vt2 t2 ∧ Ow Y26 S80 2 v3 r1.1) (fun b e l' m' n' => e = .exit 2 ∧ ∃ S81 : Cx n, S81.m = m' ∧ S81.n = n' ∧ Cov l' [(0, .sc vt0), (1, .sc vt1), (2, .sc vt2), (7, .sc v3), (8, .sc (.int .i64 r1.2)), (11, .sc (.bool r13.1)), (12, .sc (.int .i64 r13.2)), (15, .sc (.int .i64 b68)), (16, .sc (.bool b)), (104, .sc (.int .i64 ((t0.length : Int)))), (105, .sc (.int .i64 s73.2))] ∧ Rd Y22 S81 vt0 t0 ∧ Rd Y26 S81 vt1 t1 ∧ Rd Y3 S81 vt2 t2 ∧ Ow Y26 S81 2 v3 r1.1) (by exact ⟨S76, rfl, rfl, (Cov.cons rfl (Cov.cons rfl (Cov.cons rfl (Cov.cons rfl (Cov.cons rfl (Cov.cons rfl (Cov.cons rfl (Cov.cons rfl (Cov.cons rfl (Cov.cons rfl (Cov.cons rfl (Cov.cons rfl (Cov.cons rfl (Cov.cons rfl (Cov.nil _))))))))))))))), hot0, hot1, hot2, ho4⟩) ?_ ?_
            · clear h
              rintro s79 q _ _ _ ⟨S82, rfl, rfl, hc83, hot0, hot1, hot2, ho4⟩ h
              unfold F13_l0 at h
              refine WC.cov hc83 ?_
              refine WC.seq ?_
              refine WC.region ?_
              refine WO.bin rfl rfl (by decide) (by decide) rfl ?_
              refine WO.nil ?_
              refine thenL_n ?_
              refine WC.seq ?_
              refine WC.cond rfl (fun q84 => ?_) (fun q84 => ?_)
              · have h := iteT q84 h
                refine WC.skip ?_
                refine thenL_n ?_
                refine WC.seq ?_
                refine WC.block ?_
                refine WC.seq ?_
                refine WC.region ?_
                refine WO.mv rfl ?_
                refine WO.asg rfl ?_
                refine WO.nil ?_
                refine thenL_n ?_
                refine WC.seq ?_
                refine WC.drawP rfl ?_
                refine WO.mv rfl ?_
                refine WO.bin rfl rfl (by decide) (by decide) rfl ?_
                refine WO.mv rfl ?_
                obtain ⟨y102, e103, h⟩ := bindS h
                refine WO.cutB (d := 140) 26 y102 (fun q101 => ?_) (fun q101 => ?_) ?_
                · have h := e103
                  have h := iteT q101 h
                  refine WO.gyes rfl rfl ?_
                  refine WO.mv rfl ?_
                  refine WO.gyes rfl rfl ?_
                  refine WO.mv rfl ?_
                  refine WO.gyes rfl rfl ?_
                  obtain ⟨x85, e86, h⟩ := bindS h
                  refine WO.ixS rfl rfl hot2.slv (at?_lt e86) rfl ?_
                  refine WO.gyes rfl rfl ?_
                  refine WO.ldF rfl hot2.ro (fun _ hi => hi) (at?_get e86) rfl rfl rfl ?_
                  refine WO.gyes rfl rfl ?_
                  refine WO.mv rfl ?_
                  refine WO.gyes rfl rfl ?_
                  refine WO.mv rfl ?_
                  refine WO.gyes rfl rfl ?_
                  obtain ⟨L87, e88, h⟩ := bindS h
                  refine WO.ixS rfl rfl hot0.slv (at?_lt e88) rfl ?_
                  refine WO.gyes rfl rfl ?_
                  refine WO.ldS rfl hot0.ro (fun _ hi => hi) (at?_get e88) rfl rfl (fun v89 ho90 => ?_)
                  have ho90 : Rd Y3 S82 v89 L87 := ho90
                  refine WO.gyes rfl rfl ?_
                  refine WO.mv rfl ?_
                  refine WO.gyes rfl rfl ?_
                  obtain ⟨x91, e92, h⟩ := bindS h
                  refine WO.ixS rfl rfl ho90.slv (at?_lt e92) rfl ?_
                  refine WO.gyes rfl rfl ?_
                  refine WO.ldF rfl ho90.ro (fun _ hi => hi) (at?_get e92) rfl rfl rfl ?_
                  refine WO.gyes rfl rfl ?_
                  refine WO.bin rfl rfl (by decide) (by decide) rfl ?_
                  refine WO.gyes rfl rfl ?_
                  refine WO.mv rfl ?_
                  refine WO.gyes rfl rfl ?_
                  refine WO.mv rfl ?_
                  refine WO.gyes rfl rfl ?_
                  obtain ⟨x93, e94, h⟩ := bindS h
                  refine WO.ixS rfl rfl hot2.slv (at?_lt e94) rfl ?_
                  refine WO.gyes rfl rfl ?_
                  refine WO.ldF rfl hot2.ro (fun _ hi => hi) (at?_get e94) rfl rfl rfl ?_
                  refine WO.gyes rfl rfl ?_
                  refine WO.mv rfl ?_
                  refine WO.gyes rfl rfl ?_
                  refine WO.mv rfl ?_
                  refine WO.gyes rfl rfl ?_
                  obtain ⟨L95, e96, h⟩ := bindS h
                  refine WO.ixS rfl rfl hot0.slv (at?_lt e96) rfl ?_
                  refine WO.gyes rfl rfl ?_
                  refine WO.ldS rfl hot0.ro (fun _ hi => hi) (at?_get e96) rfl rfl (fun v97 ho98 => ?_)
                  have ho98 : Rd Y3 S82 v97 L95 := ho98
                  refine WO.gyes rfl rfl ?_
                  refine WO.mv rfl ?_
                  refine WO.gyes rfl rfl ?_
                  obtain ⟨x99, e100, h⟩ := bindS h
                  refine WO.ixS rfl rfl ho98.slv (at?_lt e100) rfl ?_
                  refine WO.gyes rfl rfl ?_
                  refine WO.ldF rfl ho98.ro (fun _ hi => hi) (at?_get e100) rfl rfl rfl ?_
                  refine WO.gyes rfl rfl ?_
                  refine WO.bin rfl rfl (by decide) (by decide) rfl ?_
                  refine WO.gyes rfl rfl ?_
                  refine WO.bin rfl rfl (by decide) (by decide) rfl ?_
                  obtain rfl := someI h
                  refine WO.pickT rfl rfl ?_
                  refine WO.nil ?_
                  exact ⟨rfl, rfl, (Cov.cons rfl (Cov.skip rfl (Cov.skip rfl (Cov.skip rfl (Cov.skip rfl (Cov.skip rfl (Cov.skip rfl (Cov.skip rfl (Cov.skip rfl (Cov.skip rfl (Cov.skip rfl (Cov.skip rfl (Cov.skip rfl (Cov.skip rfl (Cov.skip rfl (Cov.skip rfl (Cov.skip rfl (Cov.skip rfl (Cov.skip rfl (Cov.skip rfl (Cov.skip rfl (Cov.skip rfl (Cov.skip rfl (Cov.skip rfl (Cov.skip rfl (Cov.skip rfl (Cov.skip rfl (Cov.skip rfl (Cov.refl _)))))))))))))))))))))))))))))⟩
                · have h := e103
                  have h := iteF q101 h
                  obtain rfl := someI h
                  refine WO.gno rfl rfl ?_
                  refine WO.gno rfl rfl ?_
                  refine WO.gno rfl rfl ?_
                  refine WO.gno rfl rfl ?_
                  refine WO.gno rfl rfl ?_
                  refine WO.gno rfl rfl ?_
                  refine WO.gno rfl rfl ?_
                  refine WO.gno rfl rfl ?_
                  refine WO.gno rfl rfl ?_
                  refine WO.gno rfl rfl ?_
                  refine WO.gno rfl rfl ?_
                  refine WO.gno rfl rfl ?_
                  refine WO.gno rfl rfl ?_
                  refine WO.gno rfl rfl ?_
                  refine WO.gno rfl rfl ?_
                  refine WO.gno rfl rfl ?_
                  refine WO.gno rfl rfl ?_
                  refine WO.gno rfl rfl ?_
                  refine WO.gno rfl rfl ?_
                  refine WO.gno rfl rfl ?_
                  refine WO.gno rfl rfl ?_
                  refine WO.gno rfl rfl ?_
                  refine WO.gno rfl rfl ?_
                  refine WO.gno rfl rfl ?_
                  refine WO.gno rfl rfl ?_
                  refine WO.pickF rfl rfl ?_
                  refine WO.nil ?_
                  exact ⟨rfl, rfl, (Cov.cons rfl (Cov.skip rfl (Cov.skip rfl (Cov.skip rfl (Cov.skip rfl (Cov.skip rfl (Cov.skip rfl (Cov.skip rfl (Cov.skip rfl (Cov.skip rfl (Cov.skip rfl (Cov.skip rfl (Cov.skip rfl (Cov.skip rfl (Cov.skip rfl (Cov.skip rfl (Cov.skip rfl (Cov.skip rfl (Cov.skip rfl (Cov.skip rfl (Cov.skip rfl (Cov.skip rfl (Cov.skip rfl (Cov.skip rfl (Cov.skip rfl (Cov.skip rfl (Cov.skip rfl (Cov.skip rfl (Cov.refl _)))))))))))))))))))))))))))))⟩
                refine WO.nil ?_
                refine thenL_n ?_
                refine WC.cond rfl (fun q104 => ?_) (fun q104 => ?_)
                · have h := iteT q104 h
                  refine WC.region ?_
                  refine WO.asg rfl ?_
                  refine WO.nil ?_
                  refine blockL_n ?_
                  refine thenL_n ?_
                  refine WC.region ?_
                  refine WO.bin rfl rfl (by decide) (by decide) rfl ?_
                  refine WO.mv rfl ?_
                  refine WO.nil ?_
                  refine thenL_n ?_
                  obtain rfl := someI h
                  exact ⟨_, rfl, ⟨S82, rfl, rfl, (Cov.cons rfl (Cov.cons rfl (Cov.cons rfl (Cov.cons rfl (Cov.cons rfl (Cov.cons rfl (Cov.cons rfl (Cov.cons rfl (Cov.cons rfl (Cov.cons rfl (Cov.cons rfl (Cov.cons rfl (Cov.cons rfl (Cov.cons rfl (Cov.nil _))))))))))))))), hot0, hot1, hot2, ho4⟩⟩
                · have h := iteF q104 h
                  refine WC.skip ?_
                  refine blockL_n ?_
                  refine thenL_n ?_
                  refine WC.region ?_
                  refine WO.bin rfl rfl (by decide) (by decide) rfl ?_
                  refine WO.mv rfl ?_
                  refine WO.nil ?_
                  refine thenL_n ?_
                  obtain rfl := someI h
                  exact ⟨_, rfl, ⟨S82, rfl, rfl, (Cov.cons rfl (Cov.cons rfl (Cov.cons rfl (Cov.cons rfl (Cov.cons rfl (Cov.cons rfl (Cov.cons rfl (Cov.cons rfl (Cov.cons rfl (Cov.cons rfl (Cov.cons rfl (Cov.cons rfl (Cov.cons rfl (Cov.cons rfl (Cov.nil _))))))))))))))), hot0, hot1, hot2, ho4⟩⟩
              · have h := iteF q84 h
                refine WC.exit ?_
                refine thenL_e ?_
                refine thenL_e ?_
                obtain rfl := someI h
                exact ⟨_, rfl, rfl, ⟨S82, rfl, rfl, (Cov.cons rfl (Cov.cons rfl (Cov.cons rfl (Cov.cons rfl (Cov.cons rfl (Cov.cons rfl (Cov.cons rfl (Cov.cons rfl (Cov.cons rfl (Cov.cons rfl (Cov.cons rfl (Cov.nil _)))))))))))), hot0, hot1, hot2, ho4⟩⟩
            rintro _ _ _ _ ⟨rfl, ⟨S107, rfl, rfl, hc108, hot0, hot1, hot2, ho4⟩⟩
            refine blockL_s ?_
            refine blockL_n ?_
            refine thenL_n ?_
            refine WC.cov hc108 ?_
            refine WC.region ?_
            refine WO.bin rfl rfl (by decide) (by decide) rfl ?_
            refine WO.mv rfl ?_
            refine WO.nil ?_
            refine thenL_n ?_
            obtain rfl := someI h
            exact ⟨_, rfl, ⟨S107, rfl, rfl, (Cov.cons rfl (Cov.cons rfl (Cov.cons rfl (Cov.cons rfl (Cov.cons rfl (Cov.cons rfl (Cov.cons rfl (Cov.cons rfl (Cov.cons rfl (Cov.cons rfl (Cov.cons rfl (Cov.nil _)))))))))))), hot0, hot1, hot2, ho4⟩⟩
          · have h := iteF q78 h
            refine WC.exit ?_
            refine thenL_e ?_
            refine thenL_e ?_
            obtain rfl := someI h
            exact ⟨_, rfl, rfl, ⟨S76, rfl, rfl, (Cov.cons rfl (Cov.cons rfl (Cov.cons rfl (Cov.cons rfl (Cov.cons rfl (Cov.cons rfl (Cov.cons rfl (Cov.cons rfl (Cov.nil _))))))))), hot0, hot1, ho4⟩⟩
        rintro _ _ _ _ ⟨rfl, ⟨S111, rfl, rfl, hc112, hot0, hot1, ho4⟩⟩
        refine blockL_s ?_
        refine thenL_n ?_
        refine WC.cov hc112 ?_
        refine WC.seq ?_
        refine WC.seq ?_
        refine WC.region ?_
        refine WO.mv rfl ?_
        refine WO.mv rfl ?_
        refine WO.bin rfl rfl (by decide) (by decide) rfl ?_
        refine WO.mv rfl ?_
        refine WO.cutB (d := 150) 4 ((r13.2 != b68) || (!(r13.1 == b109))) (fun q113 => ?_) (fun q113 => ?_) ?_
        · refine WO.gno rfl rfl ?_
          refine WO.gno rfl rfl ?_
          refine WO.gno rfl rfl ?_
          refine WO.pickT rfl rfl ?_
          refine WO.nil ?_
          exact ⟨rfl, rfl, (Cov.any rfl (orT q113) (Cov.skip rfl (Cov.skip rfl (Cov.skip rfl (Cov.skip rfl (Cov.skip rfl (Cov.refl _)))))))⟩
        · skip
          refine WO.gyes rfl rfl ?_
          refine WO.mv rfl ?_
          refine WO.gyes rfl rfl ?_
          refine WO.mv rfl ?_
          refine WO.gyes rfl rfl ?_
          refine WO.do rfl rfl ?_
          refine WO.pickF rfl rfl ?_
          refine WO.nil ?_
          exact ⟨rfl, rfl, (Cov.any rfl (orF q113) (Cov.skip rfl (Cov.skip rfl (Cov.skip rfl (Cov.skip rfl (Cov.skip rfl (Cov.refl _)))))))⟩
        refine WO.nil ?_
        refine thenL_n ?_
        refine WC.cond rfl (fun q114 => ?_) (fun q114 => ?_)
        · have h := iteT q114 h
          refine WC.seq ?_
          refine WC.region ?_
          refine WO.asg rfl ?_
          refine WO.nil ?_
          refine thenL_n ?_
          refine WC.ret ?_
          refine thenL_r ?_
          obtain rfl := someI h
          exact ⟨.inr rfl, _, _, rfl, rfl, rfl⟩
        · have h := iteF q114 h
          refine WC.skip ?_
          refine thenL_n ?_
          refine WC.seq ?_
          refine WC.seq ?_
          refine WC.region ?_
          refine WO.mv rfl ?_
          refine WO.lenS rfl hot1.slv rfl ?_
          refine WO.mv rfl ?_
          refine WO.lenS rfl hot0.slv rfl ?_
          refine WO.bin rfl rfl (by decide) (by decide) rfl ?_
          refine WO.nil ?_
          refine thenL_n ?_
          refine WC.cond rfl (fun q115 => ?_) (fun q115 => ?_)
          · have h := iteT q115 h
            refine WC.seq ?_
            refine WC.region ?_
            refine WO.mv rfl ?_
            refine WO.bin rfl rfl (by decide) (by decide) rfl ?_
            refine WO.mv rfl ?_
            refine WO.cutB (d := 162) 4 ((r1.2 == 3) && ((r1.1.length : Int) == 0)) (fun q116 => ?_) (fun q116 => ?_) ?_
            · skip
              refine WO.gyes rfl rfl ?_
              refine WO.mv rfl ?_
              refine WO.gyes rfl rfl ?_
              refine WO.lenS rfl ho4.slv rfl ?_
              refine WO.gyes rfl rfl ?_
              refine WO.bin rfl rfl (by decide) (by decide) rfl ?_
              refine WO.pickT rfl rfl ?_
              refine WO.nil ?_
              exact ⟨rfl, rfl, (Cov.any rfl (andT q116) (Cov.skip rfl (Cov.skip rfl (Cov.skip rfl (Cov.skip rfl (Cov.skip rfl (Cov.refl _)))))))⟩
            · refine WO.gno rfl rfl ?_
              refine WO.gno rfl rfl ?_
              refine WO.gno rfl rfl ?_
              refine WO.pickF rfl rfl ?_
              refine WO.nil ?_
              exact ⟨rfl, rfl, (Cov.any rfl (andF q116) (Cov.skip rfl (Cov.skip rfl (Cov.skip rfl (Cov.skip rfl (Cov.skip rfl (Cov.refl _)))))))⟩
            refine WO.asg rfl ?_
            refine WO.nil ?_
            refine thenL_n ?_
            refine WC.ret ?_
            refine thenL_r ?_
            obtain rfl := someI h
            exact ⟨.inr rfl, _, _, rfl, rfl, rfl⟩
          · have h := iteF q115 h
            refine WC.skip ?_
            refine thenL_n ?_
            refine WC.seq ?_
            refine WC.seq ?_
            refine WC.region ?_
            refine WO.mv rfl ?_
            refine WO.lenS rfl hot1.slv rfl ?_
            refine WO.mv rfl ?_
            refine WO.nil ?_
            refine thenL_n ?_
            refine WC.block ?_
            obtain ⟨b139, e140, h⟩ := bindS h
            refine WC.loopD e140 (fun s117 l' m' n' => ∃ S118 : Cx n, S118.m = m' ∧ S118.n = n' ∧ Cov l' [(0, .sc vt0), (1, .sc vt1), (7, .sc v3), (8, .sc (.int .i64 r1.2)), (163, .sc vt1), (164, .sc (.int .i64 ((t1.length : Int)))), (165, .sc (.int .i64 s117))] ∧ Rd Y22 S118 vt0 t0 ∧ Rd Y26 S118 vt1 t1 ∧ Ow Y26 S118 2 v3 r1.1) (fun b e l' m' n' => (match b with | .inl b119 => e = .exit 4 ∧ ∃ S120 : Cx n, S120.m = m' ∧ S120.n = n' ∧ Cov l' [(0, .sc vt0), (1, .sc vt1), (7, .sc v3), (8, .sc (.int .i64 r1.2))] ∧ Rd Y22 S120 vt0 t0 ∧ Rd Y26 S120 vt1 t1 ∧ Ow Y26 S120 2 v3 r1.1 | .inr b119 => e = .ret ∧ ∃ S121 : Cx n, S121.m = m' ∧ S121.n = n' ∧ Cov l' [(6, .sc (.bool b119))])) (by exact ⟨S111, rfl, rfl, (Cov.cons rfl (Cov.cons rfl (Cov.cons rfl (Cov.cons rfl (Cov.cons rfl (Cov.cons rfl (Cov.cons rfl (Cov.nil _)))))))), hot0, hot1, ho4⟩) ?_ ?_
            · clear h
              rintro s117 q _ _ _ ⟨S122, rfl, rfl, hc123, hot0, hot1, ho4⟩ h
              unfold F13_l2 at h
              refine WC.cov hc123 ?_
              refine WC.seq ?_
              refine WC.region ?_
              refine WO.bin rfl rfl (by decide) (by decide) rfl ?_
              refine WO.nil ?_
              refine thenL_n ?_
              refine WC.seq ?_
              refine WC.cond rfl (fun q124 => ?_) (fun q124 => ?_)
              · have h := iteT q124 h
                refine WC.skip ?_
                refine thenL_n ?_
                refine WC.seq ?_
                refine WC.block ?_
                refine WC.seq ?_
                refine WC.region ?_
                obtain ⟨x125, e126, h⟩ := bindS h
                refine WO.ixS rfl rfl hot1.slv (at?_lt e126) rfl ?_
                refine WO.ldA rfl hot1.ro (fun _ hi => hi) (at?_get e126) rfl rfl ?_
                refine WO.alS (A := Y26) (S := S122) (z0 := (0, 0)) 5 rfl rfl rfl (fun v127 S128 c129 ho130 => ?_)
                have hot0 := hot0.to c129
                have hot1 := hot1.to c129
                have ho4 := ho4.to c129
                refine WO.stBA (u' := (x125.1, x125.2)) rfl ho130.at0 rfl ho130 rfl rfl (fun S131 c132 ho130 => ?_)
                have hot0 := hot0.to c132
                have hot1 := hot1.to c132
                have ho4 := ho4.to c132
                refine WO.nil ?_
                refine thenL_n ?_
                refine WC.seq ?_
                refine WC.region ?_
                refine WO.ldBA (j := 0) rfl ho130.at0 ho130 rfl rfl ?_
                obtain ⟨r133, e134, h⟩ := bindS h
                refine WO.callE (S := S131) rfl rfl (F98_ok e134) (fun S135 c136 => ?_)
                have hot0 := hot0.to c136
                have hot1 := hot1.to c136
                have ho4 := ho4.to c136
                have ho130 := ho130.to c136
                refine WO.asg rfl ?_
                refine WO.nil ?_
                refine thenL_n ?_
                refine WC.seq ?_
                refine WC.region ?_
                refine WO.mv rfl ?_
                refine WO.bin rfl rfl (by decide) (by decide) rfl ?_
                refine WO.nil ?_
                refine thenL_n ?_
                refine WC.cond rfl (fun q137 => ?_) (fun q137 => ?_)
                · have h := iteT q137 h
                  refine WC.seq ?_
                  refine WC.region ?_
                  refine WO.mv rfl ?_
                  refine WO.mv rfl ?_
                  refine WO.bin rfl rfl (by decide) (by decide) rfl ?_
                  refine WO.mv rfl ?_
                  refine WO.cutB (d := 180) 4 ((r1.2 == r133) && ((r1.1.length : Int) == 0)) (fun q138 => ?_) (fun q138 => ?_) ?_
                  · skip
                    refine WO.gyes rfl rfl ?_
                    refine WO.mv rfl ?_
                    refine WO.gyes rfl rfl ?_
                    refine WO.lenS rfl ho4.slv rfl ?_
                    refine WO.gyes rfl rfl ?_
                    refine WO.bin rfl rfl (by decide) (by decide) rfl ?_
                    refine WO.pickT rfl rfl ?_
                    refine WO.nil ?_
                    exact ⟨rfl, rfl, (Cov.any rfl (andT q138) (Cov.skip rfl (Cov.skip rfl (Cov.skip rfl (Cov.skip rfl (Cov.skip rfl (Cov.refl _)))))))⟩
                  · refine WO.gno rfl rfl ?_
                    refine WO.gno rfl rfl ?_
                    refine WO.gno rfl rfl ?_
                    refine WO.pickF rfl rfl ?_
                    refine WO.nil ?_
                    exact ⟨rfl, rfl, (Cov.any rfl (andF q138) (Cov.skip rfl (Cov.skip rfl (Cov.skip rfl (Cov.skip rfl (Cov.skip rfl (Cov.refl _)))))))⟩
                  refine WO.asg rfl ?_
                  refine WO.nil ?_
                  refine thenL_n ?_
                  refine WC.ret ?_
                  refine blockL_r ?_
                  refine thenL_r ?_
                  refine thenL_r ?_
                  obtain rfl := someI h
                  exact ⟨_, rfl, rfl, ⟨S135, rfl, rfl, (Cov.cons rfl (Cov.nil _))⟩⟩
                · have h := iteF q137 h
                  refine WC.skip ?_
                  refine blockL_n ?_
                  refine thenL_n ?_
                  refine WC.region ?_
                  refine WO.bin rfl rfl (by decide) (by decide) rfl ?_
                  refine WO.mv rfl ?_
                  refine WO.nil ?_
                  refine thenL_n ?_
                  obtain rfl := someI h
                  exact ⟨_, rfl, ⟨S135, rfl, rfl, (Cov.cons rfl (Cov.cons rfl (Cov.cons rfl (Cov.cons rfl (Cov.cons rfl (Cov.cons rfl (Cov.cons rfl (Cov.nil _)))))))), hot0, hot1, ho4⟩⟩
              · have h := iteF q124 h
                refine WC.exit ?_
                refine thenL_e ?_
                refine thenL_e ?_
                obtain rfl := someI h
                exact ⟨_, rfl, rfl, ⟨S122, rfl, rfl, (Cov.cons rfl (Cov.cons rfl (Cov.cons rfl (Cov.cons rfl (Cov.nil _))))), hot0, hot1, ho4⟩⟩
            cases b139 with
            | inl b141 =>
              simp only at h
              rintro _ _ _ _ ⟨rfl, ⟨S142, rfl, rfl, hc143, hot0, hot1, ho4⟩⟩
              refine blockL_s ?_
              refine thenL_n ?_
              refine WC.cov hc143 ?_
              refine WC.seq ?_
              refine WC.region ?_
              refine WO.mv rfl ?_
              refine WO.mv rfl ?_
              obtain ⟨r144, e145, h⟩ := bindS h
              refine WO.callF (S := S142) 6 rfl rfl (F99_ok e145 hot0.vw hot1.vw) Lay.flat_fl (fun v146 S148 c149 ho147 => ?_)
              have hot0 := hot0.to c149
              have hot1 := hot1.to c149
              have ho4 := ho4.to c149
              refine WO.mv rfl ?_
              refine WO.do rfl rfl ?_
              refine WO.do rfl rfl ?_
              refine WO.asg rfl ?_
              refine WO.asg rfl ?_
              refine WO.nil ?_
              refine thenL_n ?_
              refine WC.seq ?_
              refine WC.region ?_
              refine WO.mv rfl ?_
              refine WO.mv rfl ?_
              refine WO.bin rfl rfl (by decide) (by decide) rfl ?_
              refine WO.mv rfl ?_
              obtain ⟨y155, e156, h⟩ := bindS h
              refine WO.cutS (d := 195) (S := S148) 4 y155 (fun q154 => ?_) (fun q154 => ?_) (fun S157 c158 => ?_)
              · have h := e156
                have h := iteT q154 h
                refine WO.gyes rfl rfl ?_
                refine WO.mv rfl ?_
                refine WO.gyes rfl rfl ?_
                refine WO.mv rfl ?_
                refine WO.gyes rfl rfl ?_
                obtain ⟨r150, e151, h⟩ := bindS h
                refine WO.callE (S := S148) rfl rfl (F100_ok e151 ho4.vw ho147.vw) (fun S152 c153 => ?_)
                have hot0 := hot0.to c153
                have hot1 := hot1.to c153
                have ho4 := ho4.to c153
                have ho147 := ho147.to c153
                obtain rfl := someI h
                refine WO.pickT rfl rfl ?_
                refine WO.nil ?_
                exact ⟨S152, rfl, rfl, c153, (Cov.cons rfl (Cov.skip rfl (Cov.skip rfl (Cov.skip rfl (Cov.skip rfl (Cov.skip rfl (Cov.refl _)))))))⟩
              · have h := e156
                have h := iteF q154 h
                obtain rfl := someI h
                refine WO.gno rfl rfl ?_
                refine WO.gno rfl rfl ?_
                refine WO.gno rfl rfl ?_
                refine WO.pickF rfl rfl ?_
                refine WO.nil ?_
                exact ⟨S148, rfl, rfl, Ch.refl _ _, (Cov.cons rfl (Cov.skip rfl (Cov.skip rfl (Cov.skip rfl (Cov.skip rfl (Cov.skip rfl (Cov.refl _)))))))⟩
              have hot0 := hot0.to c158
              have hot1 := hot1.to c158
              have ho4 := ho4.to c158
              have ho147 := ho147.to c158
              refine WO.asg rfl ?_
              refine WO.nil ?_
              refine thenL_n ?_
              refine WC.ret ?_
              obtain rfl := someI h
              exact ⟨.inr rfl, _, _, rfl, rfl, rfl⟩
            | inr b141 =>
              simp only at h
              rintro _ _ _ _ ⟨rfl, ⟨S159, rfl, rfl, hc160⟩⟩
              refine blockL_r ?_
              refine thenL_r ?_
              obtain rfl := someI h
              exact ⟨.inr rfl, _, _, (resK_cov hc160 rfl), rfl, rfl⟩
      | inr b59 =>
        simp only at h
        rintro _ _ _ _ ⟨rfl, ⟨S161, rfl, rfl, hc162⟩⟩
        refine thenL_r ?_
        obtain rfl := someI h
        exact ⟨.inr rfl, _, _, (resK_cov hc162 rfl), rfl, rfl⟩
end Go.Proofs.Ytdkmepeolmdccaa

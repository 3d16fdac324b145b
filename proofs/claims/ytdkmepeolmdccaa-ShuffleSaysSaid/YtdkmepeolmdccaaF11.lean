/- The machine answers F11: printed by a program of ours (gen.py). -/
import Derived.Test.YtdkmepeolmdccaaDef
import Derived.Test.YtdkmepeolmdccaaEnv
import Derived.Test.YtdkmepeolmdccaaF32
import Derived.Test.YtdkmepeolmdccaaF66
import Derived.Test.YtdkmepeolmdccaaF73
import Derived.Test.YtdkmepeolmdccaaF74
import Derived.Test.YtdkmepeolmdccaaF75
import Derived.Test.YtdkmepeolmdccaaF76
import Derived.Test.YtdkmepeolmdccaaF77
import Derived.Test.YtdkmepeolmdccaaF78
import Derived.Test.YtdkmepeolmdccaaF79
import Derived.Test.YtdkmepeolmdccaaF80
set_option linter.unusedVariables false
namespace Go.Proofs.Ytdkmepeolmdccaa
open Go.Am
theorem F11.fn : E.fn 11 = some ⟨169, (Try.f11.body.getD .skip), Try.f11.results.toList, []⟩ := rfl
theorem F11_ok {F : Nat} {m : Mem} {n : Nat} {r : Bool} {t0 : List Int} {t1 : List Int} {t2 : List Int} {t3 : Int} {vt0 : SV} {vt1 : SV} {vt2 : SV} (h : F11 F t0 t1 t2 t3 = some r) (kt0 : Vw Y3 n m vt0 t0) (kt1 : Vw Y3 n m vt1 t1) (kt2 : Vw Y5 n m vt2 t2) : Ret E n 11 [.sc vt0, .sc vt1, .sc vt2, .sc (.int .i64 t3)] m n (fun v m' n' => v = .sc (.bool r)) := by
  unfold F11 at h
  refine Ret.walk F11.fn ?_
  refine WC.start fun S0 em en hz => ?_
  have hot0 := kt0.rdS em hz
  have hot1 := kt1.rdS em hz
  have hot2 := kt2.rdS em hz
  refine WC.seq ?_
  refine WC.region ?_
  refine WO.asg rfl ?_
  refine WO.nil ?_
  refine thenL_n ?_
  refine WC.seq ?_
  refine WC.region ?_
  refine WO.mv rfl ?_
  obtain ⟨r1, e2, h⟩ := bindS h
  refine WO.callF (S := S0) 2 rfl rfl (F73_ok e2 hot0.vw) Lay.flat_fl (fun v3 S5 c6 ho4 => ?_)
  have hot0 := hot0.to c6
  have hot1 := hot1.to c6
  have hot2 := hot2.to c6
  refine WO.mv rfl ?_
  refine WO.do rfl rfl ?_
  refine WO.do rfl rfl ?_
  refine WO.asg rfl ?_
  refine WO.asg rfl ?_
  refine WO.nil ?_
  refine thenL_n ?_
  refine WC.seq ?_
  refine WC.region ?_
  refine WO.mv rfl ?_
  obtain ⟨r7, e8, h⟩ := bindS h
  refine WO.callF (S := S5) 3 rfl rfl (F74_ok e8 hot1.vw) Lay.flat_fl (fun v9 S11 c12 ho10 => ?_)
  have hot0 := hot0.to c12
  have hot1 := hot1.to c12
  have hot2 := hot2.to c12
  have ho4 := ho4.to c12
  refine WO.mv rfl ?_
  refine WO.do rfl rfl ?_
  refine WO.do rfl rfl ?_
  refine WO.asg rfl ?_
  refine WO.asg rfl ?_
  refine WO.nil ?_
  refine thenL_n ?_
  refine WC.seq ?_
  refine WC.region ?_
  refine WO.mv rfl ?_
  refine WO.mv rfl ?_
  obtain ⟨r13, e14, h⟩ := bindS h
  refine WO.callF (S := S11) 4 rfl rfl (F75_ok e14 hot2.vw) Lay.flat_fl (fun v15 S17 c18 ho16 => ?_)
  have hot0 := hot0.to c18
  have hot1 := hot1.to c18
  have hot2 := hot2.to c18
  have ho4 := ho4.to c18
  have ho10 := ho10.to c18
  refine WO.mv rfl ?_
  refine WO.do rfl rfl ?_
  refine WO.do rfl rfl ?_
  refine WO.do rfl rfl ?_
  refine WO.asg rfl ?_
  refine WO.asg rfl ?_
  refine WO.asg rfl ?_
  refine WO.nil ?_
  refine thenL_n ?_
  refine WC.seq ?_
  refine WC.region ?_
  refine WO.mv rfl ?_
  obtain ⟨r19, e20, h⟩ := bindS h
  refine WO.callE (S := S17) rfl rfl (F76_ok e20 hot0.vw) (fun S21 c22 => ?_)
  have hot0 := hot0.to c22
  have hot1 := hot1.to c22
  have hot2 := hot2.to c22
  have ho4 := ho4.to c22
  have ho10 := ho10.to c22
  have ho16 := ho16.to c22
  refine WO.asg rfl ?_
  refine WO.nil ?_
  refine thenL_n ?_
  refine WC.seq ?_
  refine WC.seq ?_
  refine WC.region ?_
  refine WO.mv rfl ?_
  obtain ⟨r23, e24, h⟩ := bindS h
  refine WO.callE (S := S21) rfl rfl (F77_ok e24 hot0.vw) (fun S25 c26 => ?_)
  have hot0 := hot0.to c26
  have hot1 := hot1.to c26
  have hot2 := hot2.to c26
  have ho4 := ho4.to c26
  have ho10 := ho10.to c26
  have ho16 := ho16.to c26
  refine WO.mv rfl ?_
  refine WO.bin rfl rfl (by decide) (by decide) rfl ?_
  refine WO.mv rfl ?_
  refine WO.cutB (d := 48) 4 ((r23 != r19) || (r1.2 != r19)) (fun q27 => ?_) (fun q27 => ?_) ?_
  · refine WO.gno rfl rfl ?_
    refine WO.gno rfl rfl ?_
    refine WO.gno rfl rfl ?_
    refine WO.pickT rfl rfl ?_
    refine WO.nil ?_
    exact ⟨rfl, rfl, (Cov.any rfl (orT q27) (Cov.skip rfl (Cov.skip rfl (Cov.skip rfl (Cov.skip rfl (Cov.skip rfl (Cov.refl _)))))))⟩
  · skip
    refine WO.gyes rfl rfl ?_
    refine WO.mv rfl ?_
    refine WO.gyes rfl rfl ?_
    refine WO.mv rfl ?_
    refine WO.gyes rfl rfl ?_
    refine WO.bin rfl rfl (by decide) (by decide) rfl ?_
    refine WO.pickF rfl rfl ?_
    refine WO.nil ?_
    exact ⟨rfl, rfl, (Cov.any rfl (orF q27) (Cov.skip rfl (Cov.skip rfl (Cov.skip rfl (Cov.skip rfl (Cov.skip rfl (Cov.refl _)))))))⟩
  refine WO.mv rfl ?_
  refine WO.cutB (d := 57) 8 (((r23 != r19) || (r1.2 != r19)) || ((r19 != 0) && (decide ((r1.1.length : Int) > 0)))) (fun q29 => ?_) (fun q29 => ?_) ?_
  · refine WO.gno rfl rfl ?_
    refine WO.gno rfl rfl ?_
    refine WO.gno rfl rfl ?_
    refine WO.gskip rfl rfl ?_
    refine WO.gskip rfl rfl ?_
    refine WO.gskip rfl rfl ?_
    refine WO.gno rfl rfl ?_
    refine WO.pickT rfl rfl ?_
    refine WO.nil ?_
    exact ⟨rfl, rfl, (Cov.any rfl (orT q29) (Cov.skip rfl (Cov.skip rfl (Cov.skip rfl (Cov.skip rfl (Cov.skip rfl (Cov.skip rfl (Cov.skip rfl (Cov.skip rfl (Cov.skip rfl (Cov.refl _)))))))))))⟩
  · skip
    refine WO.gyes rfl rfl ?_
    refine WO.mv rfl ?_
    refine WO.gyes rfl rfl ?_
    refine WO.bin rfl rfl (by decide) (by decide) rfl ?_
    refine WO.gyes rfl rfl ?_
    refine WO.mv rfl ?_
    refine WO.cutB (d := 56) 4 ((r19 != 0) && (decide ((r1.1.length : Int) > 0))) (fun q28 => ?_) (fun q28 => ?_) ?_
    · skip
      refine WO.gyes rfl rfl ?_
      refine WO.mv rfl ?_
      refine WO.gyes rfl rfl ?_
      refine WO.lenS rfl ho4.slv rfl ?_
      refine WO.gyes rfl rfl ?_
      refine WO.bin rfl rfl (by decide) (by decide) rfl ?_
      refine WO.gyes rfl rfl ?_
      refine WO.pickT rfl rfl ?_
      refine WO.nil ?_
      exact ⟨rfl, rfl, (Cov.any rfl (andT q28) (Cov.skip rfl (Cov.skip rfl (Cov.skip rfl (Cov.skip rfl (Cov.skip rfl (Cov.refl _)))))))⟩
    · refine WO.gno rfl rfl ?_
      refine WO.gno rfl rfl ?_
      refine WO.gno rfl rfl ?_
      refine WO.gyes rfl rfl ?_
      refine WO.pickF rfl rfl ?_
      refine WO.nil ?_
      exact ⟨rfl, rfl, (Cov.any rfl (andF q28) (Cov.skip rfl (Cov.skip rfl (Cov.skip rfl (Cov.skip rfl (Cov.skip rfl (Cov.refl _)))))))⟩
    refine WO.pickF rfl rfl ?_
    refine WO.nil ?_
    exact ⟨rfl, rfl, (Cov.any rfl (orF q29) (Cov.skip rfl (Cov.skip rfl (Cov.skip rfl (Cov.skip rfl (Cov.skip rfl (Cov.refl _)))))))⟩
  refine WO.mv rfl ?_
  obtain ⟨y46, e47, h⟩ := bindS h
  refine WO.cutS (d := 68) (S := S25) 10 y46 (fun q45 => ?_) (fun q45 => ?_) (fun S48 c49 => ?_)
  · have h := e47
    have h := iteT q45 h
    obtain rfl := someI h
    refine WO.gno rfl rfl ?_
    refine WO.gno rfl rfl ?_
    refine WO.gno rfl rfl ?_
    refine WO.gskip rfl rfl ?_
    refine WO.gskip rfl rfl ?_
    refine WO.gskip rfl rfl ?_
    refine WO.gskip rfl rfl ?_
    refine WO.gskip rfl rfl ?_
    refine WO.gno rfl rfl ?_
    refine WO.pickT rfl rfl ?_
    refine WO.nil ?_
    exact ⟨S25, rfl, rfl, Ch.refl _ _, (Cov.cons rfl (Cov.skip rfl (Cov.skip rfl (Cov.skip rfl (Cov.skip rfl (Cov.skip rfl (Cov.skip rfl (Cov.skip rfl (Cov.skip rfl (Cov.skip rfl (Cov.skip rfl (Cov.skip rfl (Cov.refl _)))))))))))))⟩
  · have h := e47
    have h := iteF q45 h
    refine WO.gyes rfl rfl ?_
    refine WO.mv rfl ?_
    refine WO.gyes rfl rfl ?_
    refine WO.bin rfl rfl (by decide) (by decide) rfl ?_
    refine WO.gyes rfl rfl ?_
    refine WO.mv rfl ?_
    obtain ⟨y41, e42, h⟩ := bindS h
    refine WO.cutS (d := 67) (S := S25) 6 y41 (fun q40 => ?_) (fun q40 => ?_) (fun S43 c44 => ?_)
    · have h := e42
      have h := iteT q40 h
      refine WO.gyes rfl rfl ?_
      refine WO.mv rfl ?_
      refine WO.gyes rfl rfl ?_
      refine WO.mv rfl ?_
      refine WO.gyes rfl rfl ?_
      obtain ⟨r30, e31, h⟩ := bindS h
      refine WO.callF (S := S25) 1 rfl rfl (F78_ok e31 hot0.vw) Lay.flat_fl (fun v32 S34 c35 ho33 => ?_)
      have hot0 := hot0.to c35
      have hot1 := hot1.to c35
      have hot2 := hot2.to c35
      have ho4 := ho4.to c35
      have ho10 := ho10.to c35
      have ho16 := ho16.to c35
      refine WO.gyes rfl rfl ?_
      obtain ⟨r36, e37, h⟩ := bindS h
      refine WO.callE (S := S34) rfl rfl (F32_ok e37 ho4.vw ho33.vw) (fun S38 c39 => ?_)
      have hot0 := hot0.to c39
      have hot1 := hot1.to c39
      have hot2 := hot2.to c39
      have ho4 := ho4.to c39
      have ho10 := ho10.to c39
      have ho16 := ho16.to c39
      refine WO.gyes rfl rfl ?_
      refine WO.do rfl rfl ?_
      obtain rfl := someI h
      refine WO.gyes rfl rfl ?_
      refine WO.pickT rfl rfl ?_
      refine WO.nil ?_
      exact ⟨S38, rfl, rfl, (c35.trans c39), (Cov.cons rfl (Cov.skip rfl (Cov.skip rfl (Cov.skip rfl (Cov.skip rfl (Cov.skip rfl (Cov.skip rfl (Cov.skip rfl (Cov.refl _)))))))))⟩
    · have h := e42
      have h := iteF q40 h
      obtain rfl := someI h
      refine WO.gno rfl rfl ?_
      refine WO.gno rfl rfl ?_
      refine WO.gno rfl rfl ?_
      refine WO.gno rfl rfl ?_
      refine WO.gno rfl rfl ?_
      refine WO.gyes rfl rfl ?_
      refine WO.pickF rfl rfl ?_
      refine WO.nil ?_
      exact ⟨S25, rfl, rfl, Ch.refl _ _, (Cov.cons rfl (Cov.skip rfl (Cov.skip rfl (Cov.skip rfl (Cov.skip rfl (Cov.skip rfl (Cov.skip rfl (Cov.skip rfl (Cov.refl _)))))))))⟩
    have hot0 := hot0.to c44
    have hot1 := hot1.to c44
    have hot2 := hot2.to c44
    have ho4 := ho4.to c44
    have ho10 := ho10.to c44
    have ho16 := ho16.to c44
    obtain rfl := someI h
    refine WO.pickF rfl rfl ?_
    refine WO.nil ?_
    exact ⟨S43, rfl, rfl, c44, (Cov.cons rfl (Cov.skip rfl (Cov.skip rfl (Cov.skip rfl (Cov.skip rfl (Cov.skip rfl (Cov.refl _)))))))⟩
  have hot0 := hot0.to c49
  have hot1 := hot1.to c49
  have hot2 := hot2.to c49
  have ho4 := ho4.to c49
  have ho10 := ho10.to c49
  have ho16 := ho16.to c49
  refine WO.nil ?_
  refine thenL_n ?_
  refine WC.cond rfl (fun q50 => ?_) (fun q50 => ?_)
  · have h := iteT q50 h
    refine WC.seq ?_
    refine WC.region ?_
    refine WO.asg rfl ?_
    refine WO.nil ?_
    refine thenL_n ?_
    refine WC.ret ?_
    refine thenL_r ?_
    obtain rfl := someI h
    exact ⟨.inr rfl, _, _, rfl, rfl, rfl⟩
  · have h := iteF q50 h
    refine WC.skip ?_
    refine thenL_n ?_
    refine WC.seq ?_
    refine WC.seq ?_
    refine WC.region ?_
    refine WO.mv rfl ?_
    obtain ⟨r51, e52, h⟩ := bindS h
    refine WO.callE (S := S48) rfl rfl (F66_ok e52 hot1.vw) (fun S53 c54 => ?_)
    have hot0 := hot0.to c54
    have hot1 := hot1.to c54
    have hot2 := hot2.to c54
    have ho4 := ho4.to c54
    have ho10 := ho10.to c54
    have ho16 := ho16.to c54
    refine WO.asg rfl ?_
    refine WO.nil ?_
    refine thenL_n ?_
    refine WC.seq ?_
    refine WC.region ?_
    refine WO.mv rfl ?_
    refine WO.mv rfl ?_
    refine WO.bin rfl rfl (by decide) (by decide) rfl ?_
    refine WO.mv rfl ?_
    refine WO.cutB (d := 82) 8 ((r7.2 != r51) || ((r51 != 0) && (decide ((r7.1.length : Int) > 0)))) (fun q56 => ?_) (fun q56 => ?_) ?_
    · refine WO.gno rfl rfl ?_
      refine WO.gno rfl rfl ?_
      refine WO.gno rfl rfl ?_
      refine WO.gskip rfl rfl ?_
      refine WO.gskip rfl rfl ?_
      refine WO.gskip rfl rfl ?_
      refine WO.gno rfl rfl ?_
      refine WO.pickT rfl rfl ?_
      refine WO.nil ?_
      exact ⟨rfl, rfl, (Cov.any rfl (orT q56) (Cov.skip rfl (Cov.skip rfl (Cov.skip rfl (Cov.skip rfl (Cov.skip rfl (Cov.skip rfl (Cov.skip rfl (Cov.skip rfl (Cov.skip rfl (Cov.refl _)))))))))))⟩
    · skip
      refine WO.gyes rfl rfl ?_
      refine WO.mv rfl ?_
      refine WO.gyes rfl rfl ?_
      refine WO.bin rfl rfl (by decide) (by decide) rfl ?_
      refine WO.gyes rfl rfl ?_
      refine WO.mv rfl ?_
      refine WO.cutB (d := 81) 4 ((r51 != 0) && (decide ((r7.1.length : Int) > 0))) (fun q55 => ?_) (fun q55 => ?_) ?_
      · skip
        refine WO.gyes rfl rfl ?_
        refine WO.mv rfl ?_
        refine WO.gyes rfl rfl ?_
        refine WO.lenS rfl ho10.slv rfl ?_
        refine WO.gyes rfl rfl ?_
        refine WO.bin rfl rfl (by decide) (by decide) rfl ?_
        refine WO.gyes rfl rfl ?_
        refine WO.pickT rfl rfl ?_
        refine WO.nil ?_
        exact ⟨rfl, rfl, (Cov.any rfl (andT q55) (Cov.skip rfl (Cov.skip rfl (Cov.skip rfl (Cov.skip rfl (Cov.skip rfl (Cov.refl _)))))))⟩
      · refine WO.gno rfl rfl ?_
        refine WO.gno rfl rfl ?_
        refine WO.gno rfl rfl ?_
        refine WO.gyes rfl rfl ?_
        refine WO.pickF rfl rfl ?_
        refine WO.nil ?_
        exact ⟨rfl, rfl, (Cov.any rfl (andF q55) (Cov.skip rfl (Cov.skip rfl (Cov.skip rfl (Cov.skip rfl (Cov.skip rfl (Cov.refl _)))))))⟩
      refine WO.pickF rfl rfl ?_
      refine WO.nil ?_
      exact ⟨rfl, rfl, (Cov.any rfl (orF q56) (Cov.skip rfl (Cov.skip rfl (Cov.skip rfl (Cov.skip rfl (Cov.skip rfl (Cov.refl _)))))))⟩
    refine WO.mv rfl ?_
    obtain ⟨y82, e83, h⟩ := bindS h
    refine WO.cutS (d := 98) (S := S53) 15 y82 (fun q81 => ?_) (fun q81 => ?_) (fun S84 c85 => ?_)
    · have h := e83
      have h := iteT q81 h
      obtain rfl := someI h
      refine WO.gno rfl rfl ?_
      refine WO.gno rfl rfl ?_
      refine WO.gno rfl rfl ?_
      refine WO.gskip rfl rfl ?_
      refine WO.gskip rfl rfl ?_
      refine WO.gskip rfl rfl ?_
      refine WO.gskip rfl rfl ?_
      refine WO.gskip rfl rfl ?_
      refine WO.gskip rfl rfl ?_
      refine WO.gskip rfl rfl ?_
      refine WO.gskip rfl rfl ?_
      refine WO.gskip rfl rfl ?_
      refine WO.gskip rfl rfl ?_
      refine WO.gno rfl rfl ?_
      refine WO.pickT rfl rfl ?_
      refine WO.nil ?_
      exact ⟨S53, rfl, rfl, Ch.refl _ _, (Cov.cons rfl (Cov.skip rfl (Cov.skip rfl (Cov.skip rfl (Cov.skip rfl (Cov.skip rfl (Cov.skip rfl (Cov.skip rfl (Cov.skip rfl (Cov.skip rfl (Cov.skip rfl (Cov.skip rfl (Cov.skip rfl (Cov.skip rfl (Cov.skip rfl (Cov.skip rfl (Cov.skip rfl (Cov.refl _))))))))))))))))))⟩
    · have h := e83
      have h := iteF q81 h
      refine WO.gyes rfl rfl ?_
      refine WO.mv rfl ?_
      refine WO.gyes rfl rfl ?_
      refine WO.bin rfl rfl (by decide) (by decide) rfl ?_
      refine WO.gyes rfl rfl ?_
      refine WO.mv rfl ?_
      obtain ⟨y77, e78, h⟩ := bindS h
      refine WO.cutS (d := 97) (S := S53) 11 y77 (fun q76 => ?_) (fun q76 => ?_) (fun S79 c80 => ?_)
      · have h := e78
        have h := iteT q76 h
        refine WO.gyes rfl rfl ?_
        refine WO.mv rfl ?_
        refine WO.gyes rfl rfl ?_
        obtain ⟨r57, e58, h⟩ := bindS h
        refine WO.callE (S := S53) rfl rfl (F76_ok e58 ho10.vw) (fun S59 c60 => ?_)
        have hot0 := hot0.to c60
        have hot1 := hot1.to c60
        have hot2 := hot2.to c60
        have ho4 := ho4.to c60
        have ho10 := ho10.to c60
        have ho16 := ho16.to c60
        refine WO.gyes rfl rfl ?_
        refine WO.bin rfl rfl (by decide) (by decide) rfl ?_
        refine WO.gyes rfl rfl ?_
        refine WO.mv rfl ?_
        obtain ⟨y72, e73, h⟩ := bindS h
        refine WO.cutS (d := 96) (S := S59) 6 y72 (fun q71 => ?_) (fun q71 => ?_) (fun S74 c75 => ?_)
        · have h := e73
          have h := iteT q71 h
          obtain rfl := someI h
          refine WO.gno rfl rfl ?_
          refine WO.gno rfl rfl ?_
          refine WO.gno rfl rfl ?_
          refine WO.gno rfl rfl ?_
          refine WO.gno rfl rfl ?_
          refine WO.gyes rfl rfl ?_
          refine WO.pickT rfl rfl ?_
          refine WO.nil ?_
          exact ⟨S59, rfl, rfl, Ch.refl _ _, (Cov.cons rfl (Cov.skip rfl (Cov.skip rfl (Cov.skip rfl (Cov.skip rfl (Cov.skip rfl (Cov.skip rfl (Cov.skip rfl (Cov.refl _)))))))))⟩
        · have h := e73
          have h := iteF q71 h
          refine WO.gyes rfl rfl ?_
          refine WO.mv rfl ?_
          refine WO.gyes rfl rfl ?_
          obtain ⟨r61, e62, h⟩ := bindS h
          refine WO.callF (S := S59) 1 rfl rfl (F78_ok e62 ho10.vw) Lay.flat_fl (fun v63 S65 c66 ho64 => ?_)
          have hot0 := hot0.to c66
          have hot1 := hot1.to c66
          have hot2 := hot2.to c66
          have ho4 := ho4.to c66
          have ho10 := ho10.to c66
          have ho16 := ho16.to c66
          refine WO.gyes rfl rfl ?_
          refine WO.mv rfl ?_
          refine WO.gyes rfl rfl ?_
          obtain ⟨r67, e68, h⟩ := bindS h
          refine WO.callE (S := S65) rfl rfl (F32_ok e68 ho64.vw hot1.vw) (fun S69 c70 => ?_)
          have hot0 := hot0.to c70
          have hot1 := hot1.to c70
          have hot2 := hot2.to c70
          have ho4 := ho4.to c70
          have ho10 := ho10.to c70
          have ho16 := ho16.to c70
          refine WO.gyes rfl rfl ?_
          refine WO.do rfl rfl ?_
          obtain rfl := someI h
          refine WO.gyes rfl rfl ?_
          refine WO.pickF rfl rfl ?_
          refine WO.nil ?_
          exact ⟨S69, rfl, rfl, (c66.trans c70), (Cov.cons rfl (Cov.skip rfl (Cov.skip rfl (Cov.skip rfl (Cov.skip rfl (Cov.skip rfl (Cov.skip rfl (Cov.skip rfl (Cov.refl _)))))))))⟩
        have hot0 := hot0.to c75
        have hot1 := hot1.to c75
        have hot2 := hot2.to c75
        have ho4 := ho4.to c75
        have ho10 := ho10.to c75
        have ho16 := ho16.to c75
        obtain rfl := someI h
        refine WO.gyes rfl rfl ?_
        refine WO.pickT rfl rfl ?_
        refine WO.nil ?_
        exact ⟨S74, rfl, rfl, (c60.trans c75), (Cov.cons rfl (Cov.skip rfl (Cov.skip rfl (Cov.skip rfl (Cov.skip rfl (Cov.skip rfl (Cov.skip rfl (Cov.refl _))))))))⟩
      · have h := e78
        have h := iteF q76 h
        obtain rfl := someI h
        refine WO.gno rfl rfl ?_
        refine WO.gno rfl rfl ?_
        refine WO.gno rfl rfl ?_
        refine WO.gno rfl rfl ?_
        refine WO.gskip rfl rfl ?_
        refine WO.gskip rfl rfl ?_
        refine WO.gskip rfl rfl ?_
        refine WO.gskip rfl rfl ?_
        refine WO.gskip rfl rfl ?_
        refine WO.gno rfl rfl ?_
        refine WO.gyes rfl rfl ?_
        refine WO.pickF rfl rfl ?_
        refine WO.nil ?_
        exact ⟨S53, rfl, rfl, Ch.refl _ _, (Cov.cons rfl (Cov.skip rfl (Cov.skip rfl (Cov.skip rfl (Cov.skip rfl (Cov.skip rfl (Cov.skip rfl (Cov.skip rfl (Cov.skip rfl (Cov.skip rfl (Cov.skip rfl (Cov.skip rfl (Cov.skip rfl (Cov.refl _))))))))))))))⟩
      have hot0 := hot0.to c80
      have hot1 := hot1.to c80
      have hot2 := hot2.to c80
      have ho4 := ho4.to c80
      have ho10 := ho10.to c80
      have ho16 := ho16.to c80
      obtain rfl := someI h
      refine WO.pickF rfl rfl ?_
      refine WO.nil ?_
      exact ⟨S79, rfl, rfl, c80, (Cov.cons rfl (Cov.skip rfl (Cov.skip rfl (Cov.skip rfl (Cov.skip rfl (Cov.skip rfl (Cov.refl _)))))))⟩
    have hot0 := hot0.to c85
    have hot1 := hot1.to c85
    have hot2 := hot2.to c85
    have ho4 := ho4.to c85
    have ho10 := ho10.to c85
    have ho16 := ho16.to c85
    refine WO.nil ?_
    refine thenL_n ?_
    refine WC.cond rfl (fun q86 => ?_) (fun q86 => ?_)
    · have h := iteT q86 h
      refine WC.seq ?_
      refine WC.region ?_
      refine WO.asg rfl ?_
      refine WO.nil ?_
      refine thenL_n ?_
      refine WC.ret ?_
      refine thenL_r ?_
      obtain rfl := someI h
      exact ⟨.inr rfl, _, _, rfl, rfl, rfl⟩
    · have h := iteF q86 h
      refine WC.skip ?_
      refine thenL_n ?_
      refine WC.seq ?_
      refine WC.region ?_
      refine WO.mv rfl ?_
      obtain ⟨r87, e88, h⟩ := bindS h
      refine WO.callE (S := S84) rfl rfl (F79_ok e88 hot2.vw) (fun S89 c90 => ?_)
      have hot0 := hot0.to c90
      have hot1 := hot1.to c90
      have hot2 := hot2.to c90
      have ho4 := ho4.to c90
      have ho10 := ho10.to c90
      have ho16 := ho16.to c90
      refine WO.asg rfl ?_
      refine WO.nil ?_
      refine thenL_n ?_
      refine WC.seq ?_
      refine WC.seq ?_
      refine WC.region ?_
      refine WO.mv rfl ?_
      refine WO.bin rfl rfl (by decide) (by decide) rfl ?_
      refine WO.mv rfl ?_
      refine WO.cutB (d := 110) 7 ((r87 == 0) && ((decide (t3 < 0)) || (decide (t3 > 10)))) (fun q92 => ?_) (fun q92 => ?_) ?_
      · skip
        refine WO.gyes rfl rfl ?_
        refine WO.mv rfl ?_
        refine WO.gyes rfl rfl ?_
        refine WO.bin rfl rfl (by decide) (by decide) rfl ?_
        refine WO.gyes rfl rfl ?_
        refine WO.mv rfl ?_
        refine WO.cutB (d := 109) 3 ((decide (t3 < 0)) || (decide (t3 > 10))) (fun q91 => ?_) (fun q91 => ?_) ?_
        · refine WO.gno rfl rfl ?_
          refine WO.gno rfl rfl ?_
          refine WO.gyes rfl rfl ?_
          refine WO.pickT rfl rfl ?_
          refine WO.nil ?_
          exact ⟨rfl, rfl, (Cov.any rfl (orT q91) (Cov.skip rfl (Cov.skip rfl (Cov.skip rfl (Cov.skip rfl (Cov.refl _))))))⟩
        · skip
          refine WO.gyes rfl rfl ?_
          refine WO.mv rfl ?_
          refine WO.gyes rfl rfl ?_
          refine WO.bin rfl rfl (by decide) (by decide) rfl ?_
          refine WO.gyes rfl rfl ?_
          refine WO.pickF rfl rfl ?_
          refine WO.nil ?_
          exact ⟨rfl, rfl, (Cov.any rfl (orF q91) (Cov.skip rfl (Cov.skip rfl (Cov.skip rfl (Cov.skip rfl (Cov.refl _))))))⟩
        refine WO.pickT rfl rfl ?_
        refine WO.nil ?_
        exact ⟨rfl, rfl, (Cov.any rfl (andT q92) (Cov.skip rfl (Cov.skip rfl (Cov.skip rfl (Cov.skip rfl (Cov.skip rfl (Cov.refl _)))))))⟩
      · refine WO.gno rfl rfl ?_
        refine WO.gno rfl rfl ?_
        refine WO.gno rfl rfl ?_
        refine WO.gskip rfl rfl ?_
        refine WO.gskip rfl rfl ?_
        refine WO.gno rfl rfl ?_
        refine WO.pickF rfl rfl ?_
        refine WO.nil ?_
        exact ⟨rfl, rfl, (Cov.any rfl (andF q92) (Cov.skip rfl (Cov.skip rfl (Cov.skip rfl (Cov.skip rfl (Cov.skip rfl (Cov.skip rfl (Cov.skip rfl (Cov.skip rfl (Cov.refl _))))))))))⟩
      refine WO.nil ?_
      refine thenL_n ?_
      obtain ⟨b94, e95, h⟩ := bindS h
      refine WC.mono (Q' := (fun b e l' m' n' => e = .normal ∧ ∃ S96 : Cx n, S96.m = m' ∧ S96.n = n' ∧ Cov l' [(2, .sc vt2), (3, .sc (.int .i64 t3)), (13, .sc v15), (14, .sc (.int .i64 r13.2.1)), (15, .sc (.int .i64 r13.2.2)), (16, .sc (.int .i64 b))] ∧ Rd Y5 S96 vt2 t2 ∧ Ow Y3 S96 4 v15 r13.1) b94) ?_ ?_
      · have h := e95
        dsimp only at h ⊢
        refine WC.cond rfl (fun q93 => ?_) (fun q93 => ?_)
        · have h := iteT q93 h
          refine WC.region ?_
          refine WO.asg rfl ?_
          refine WO.nil ?_
          obtain rfl := someI h
          exact ⟨rfl, ⟨S89, rfl, rfl, (Cov.cons rfl (Cov.cons rfl (Cov.cons rfl (Cov.cons rfl (Cov.cons rfl (Cov.cons rfl (Cov.nil _))))))), hot2, ho16⟩⟩
        · have h := iteF q93 h
          refine WC.skip ?_
          obtain rfl := someI h
          exact ⟨rfl, ⟨S89, rfl, rfl, (Cov.cons rfl (Cov.cons rfl (Cov.cons rfl (Cov.cons rfl (Cov.cons rfl (Cov.cons rfl (Cov.nil _))))))), hot2, ho16⟩⟩
      dsimp only
      rintro _ _ _ _ ⟨rfl, ⟨S97, rfl, rfl, hc98, hot2, ho16⟩⟩
      refine thenL_n ?_
      refine WC.cov hc98 ?_
      refine WC.seq ?_
      refine WC.seq ?_
      refine WC.region ?_
      refine WO.mv rfl ?_
      refine WO.bin rfl rfl (by decide) (by decide) rfl ?_
      refine WO.nil ?_
      refine thenL_n ?_
      refine WC.cond rfl (fun q99 => ?_) (fun q99 => ?_)
      · have h := iteT q99 h
        refine WC.seq ?_
        refine WC.region ?_
        refine WO.mv rfl ?_
        refine WO.mv rfl ?_
        refine WO.bin rfl rfl (by decide) (by decide) rfl ?_
        refine WO.mv rfl ?_
        refine WO.cutB (d := 120) 4 ((r13.2.2 == b94) && ((r13.1.length : Int) == 0)) (fun q100 => ?_) (fun q100 => ?_) ?_
        · skip
          refine WO.gyes rfl rfl ?_
          refine WO.mv rfl ?_
          refine WO.gyes rfl rfl ?_
          refine WO.lenS rfl ho16.slv rfl ?_
          refine WO.gyes rfl rfl ?_
          refine WO.bin rfl rfl (by decide) (by decide) rfl ?_
          refine WO.pickT rfl rfl ?_
          refine WO.nil ?_
          exact ⟨rfl, rfl, (Cov.any rfl (andT q100) (Cov.skip rfl (Cov.skip rfl (Cov.skip rfl (Cov.skip rfl (Cov.skip rfl (Cov.refl _)))))))⟩
        · refine WO.gno rfl rfl ?_
          refine WO.gno rfl rfl ?_
          refine WO.gno rfl rfl ?_
          refine WO.pickF rfl rfl ?_
          refine WO.nil ?_
          exact ⟨rfl, rfl, (Cov.any rfl (andF q100) (Cov.skip rfl (Cov.skip rfl (Cov.skip rfl (Cov.skip rfl (Cov.skip rfl (Cov.refl _)))))))⟩
        refine WO.mv rfl ?_
        refine WO.cutB (d := 124) 3 (((r13.2.2 == b94) && ((r13.1.length : Int) == 0)) && (r13.2.1 == 0)) (fun q101 => ?_) (fun q101 => ?_) ?_
        · skip
          refine WO.gyes rfl rfl ?_
          refine WO.mv rfl ?_
          refine WO.gyes rfl rfl ?_
          refine WO.bin rfl rfl (by decide) (by decide) rfl ?_
          refine WO.pickT rfl rfl ?_
          refine WO.nil ?_
          exact ⟨rfl, rfl, (Cov.any rfl (andT q101) (Cov.skip rfl (Cov.skip rfl (Cov.skip rfl (Cov.skip rfl (Cov.refl _))))))⟩
        · refine WO.gno rfl rfl ?_
          refine WO.gno rfl rfl ?_
          refine WO.pickF rfl rfl ?_
          refine WO.nil ?_
          exact ⟨rfl, rfl, (Cov.any rfl (andF q101) (Cov.skip rfl (Cov.skip rfl (Cov.skip rfl (Cov.skip rfl (Cov.refl _))))))⟩
        refine WO.asg rfl ?_
        refine WO.nil ?_
        refine thenL_n ?_
        refine WC.ret ?_
        refine thenL_r ?_
        obtain rfl := someI h
        exact ⟨.inr rfl, _, _, rfl, rfl, rfl⟩
      · have h := iteF q99 h
        refine WC.skip ?_
        refine thenL_n ?_
        refine WC.seq ?_
        refine WC.region ?_
        refine WO.asg rfl ?_
        refine WO.nil ?_
        refine thenL_n ?_
        refine WC.seq ?_
        refine WC.block ?_
        obtain ⟨b122, e123, h⟩ := bindS h
        refine WC.loopD e123 (fun s102 l' m' n' => ∃ S104 : Cx n, ∃ v105 : SV, S104.m = m' ∧ S104.n = n' ∧ Cov l' [(2, .sc vt2), (3, .sc (.int .i64 t3)), (13, .sc v15), (14, .sc (.int .i64 r13.2.1)), (15, .sc (.int .i64 r13.2.2)), (17, .sc v105)] ∧ Rd Y5 S104 vt2 t2 ∧ Ow Y3 S104 4 v15 r13.1 ∧ Ow Y3 S104 5 v105 s102) (fun b e l' m' n' => e = .exit 0 ∧ ∃ S106 : Cx n, ∃ v107 : SV, S106.m = m' ∧ S106.n = n' ∧ Cov l' [(2, .sc vt2), (13, .sc v15), (14, .sc (.int .i64 r13.2.1)), (15, .sc (.int .i64 r13.2.2)), (17, .sc v107)] ∧ Rd Y5 S106 vt2 t2 ∧ Ow Y3 S106 4 v15 r13.1 ∧ Ow Y3 S106 5 v107 b) (by exact ⟨S97, .nils, rfl, rfl, (Cov.cons rfl (Cov.cons rfl (Cov.cons rfl (Cov.cons rfl (Cov.cons rfl (Cov.cons rfl (Cov.nil _))))))), hot2, ho16, Ow.nil⟩) ?_ ?_
        · clear h
          rintro s102 q _ _ _ ⟨S108, v109, rfl, rfl, hc110, hot2, ho16, ho17⟩ h
          unfold F11_l0 at h
          refine WC.cov hc110 ?_
          refine WC.seq ?_
          refine WC.seq ?_
          refine WC.region ?_
          refine WO.mv rfl ?_
          refine WO.lenS rfl ho17.slv rfl ?_
          refine WO.mv rfl ?_
          refine WO.bin rfl rfl (by decide) (by decide) rfl ?_
          refine WO.nil ?_
          refine thenL_n ?_
          refine WC.cond rfl (fun q111 => ?_) (fun q111 => ?_)
          · have h := iteT q111 h
            refine WC.skip ?_
            refine thenL_n ?_
            refine WC.block ?_
            refine WC.region ?_
            refine WO.mv rfl ?_
            refine WO.mv rfl ?_
            refine WO.lenS rfl ho17.slv rfl ?_
            refine WO.bin rfl rfl (by decide) (by decide) rfl ?_
            refine WO.bsS (A := Y3) (S := S108) (M := [(wrapA .i64 ((s102.length : Int) + 1))]) (cs := [.int .i64 ((wrapA .i64 ((s102.length : Int) + 1)))]) 6 rfl rfl rfl ⟨[.int .i64 ((wrapA .i64 ((s102.length : Int) + 1)))], _, rfl, rfl, rfl⟩ rfl (fun v112 S113 c114 ho115 => ?_)
            have hot2 := hot2.to c114
            have ho16 := ho16.to c114
            have ho17 := ho17.to c114
            obtain ⟨L116, e117, h⟩ := bindS h
            refine WO.appS rfl rfl ho17 ho115.ro e117 rfl rfl (fun v118 S119 c120 ho121 => ?_)
            have hot2 := hot2.to c120
            have ho16 := ho16.to c120
            have ho115 := ho115.to c120
            refine WO.asg rfl ?_
            refine WO.nil ?_
            refine blockL_n ?_
            refine thenL_n ?_
            obtain rfl := someI h
            exact ⟨_, rfl, ⟨S119, v118, rfl, rfl, (Cov.cons rfl (Cov.cons rfl (Cov.cons rfl (Cov.cons rfl (Cov.cons rfl (Cov.cons rfl (Cov.nil _))))))), hot2, ho16, ho121⟩⟩
          · have h := iteF q111 h
            refine WC.exit ?_
            refine thenL_e ?_
            refine thenL_e ?_
            obtain rfl := someI h
            exact ⟨_, rfl, rfl, ⟨S108, v109, rfl, rfl, (Cov.cons rfl (Cov.cons rfl (Cov.cons rfl (Cov.cons rfl (Cov.cons rfl (Cov.nil _)))))), hot2, ho16, ho17⟩⟩
        rintro _ _ _ _ ⟨rfl, ⟨S124, v125, rfl, rfl, hc126, hot2, ho16, ho17⟩⟩
        refine blockL_s ?_
        refine thenL_n ?_
        refine WC.cov hc126 ?_
        refine WC.seq ?_
        refine WC.region ?_
        refine WO.mv rfl ?_
        refine WO.mv rfl ?_
        obtain ⟨r127, e128, h⟩ := bindS h
        refine WO.callF (S := S124) 7 rfl rfl (F80_ok e128 hot2.vw ho17.vw) Lay.flat_fl (fun v129 S131 c132 ho130 => ?_)
        have hot2 := hot2.to c132
        have ho16 := ho16.to c132
        have ho17 := ho17.to c132
        refine WO.mv rfl ?_
        refine WO.do rfl rfl ?_
        refine WO.do rfl rfl ?_
        refine WO.do rfl rfl ?_
        refine WO.asg rfl ?_
        refine WO.asg rfl ?_
        refine WO.asg rfl ?_
        refine WO.nil ?_
        refine thenL_n ?_
        refine WC.seq ?_
        refine WC.region ?_
        refine WO.mv rfl ?_
        refine WO.mv rfl ?_
        refine WO.bin rfl rfl (by decide) (by decide) rfl ?_
        refine WO.mv rfl ?_
        refine WO.cutB (d := 149) 4 ((r13.2.2 == r127.2.2) && (r13.2.1 == r127.2.1)) (fun q133 => ?_) (fun q133 => ?_) ?_
        · skip
          refine WO.gyes rfl rfl ?_
          refine WO.mv rfl ?_
          refine WO.gyes rfl rfl ?_
          refine WO.mv rfl ?_
          refine WO.gyes rfl rfl ?_
          refine WO.bin rfl rfl (by decide) (by decide) rfl ?_
          refine WO.pickT rfl rfl ?_
          refine WO.nil ?_
          exact ⟨rfl, rfl, (Cov.any rfl (andT q133) (Cov.skip rfl (Cov.skip rfl (Cov.skip rfl (Cov.skip rfl (Cov.skip rfl (Cov.refl _)))))))⟩
        · refine WO.gno rfl rfl ?_
          refine WO.gno rfl rfl ?_
          refine WO.gno rfl rfl ?_
          refine WO.pickF rfl rfl ?_
          refine WO.nil ?_
          exact ⟨rfl, rfl, (Cov.any rfl (andF q133) (Cov.skip rfl (Cov.skip rfl (Cov.skip rfl (Cov.skip rfl (Cov.skip rfl (Cov.refl _)))))))⟩
        refine WO.mv rfl ?_
        obtain ⟨y156, e157, h⟩ := bindS h
        refine WO.cutS (d := 168) (S := S131) 18 y156 (fun q155 => ?_) (fun q155 => ?_) (fun S158 c159 => ?_)
        · have h := e157
          have h := iteT q155 h
          refine WO.gyes rfl rfl ?_
          refine WO.mv rfl ?_
          refine WO.gyes rfl rfl ?_
          refine WO.bin rfl rfl (by decide) (by decide) rfl ?_
          refine WO.gyes rfl rfl ?_
          refine WO.mv rfl ?_
          refine WO.cutB (d := 157) 4 ((r127.2.2 != 0) && ((r13.1.length : Int) == 0)) (fun q134 => ?_) (fun q134 => ?_) ?_
          · skip
            refine WO.gyes rfl rfl ?_
            refine WO.mv rfl ?_
            refine WO.gyes rfl rfl ?_
            refine WO.lenS rfl ho16.slv rfl ?_
            refine WO.gyes rfl rfl ?_
            refine WO.bin rfl rfl (by decide) (by decide) rfl ?_
            refine WO.gyes rfl rfl ?_
            refine WO.pickT rfl rfl ?_
            refine WO.nil ?_
            exact ⟨rfl, rfl, (Cov.any rfl (andT q134) (Cov.skip rfl (Cov.skip rfl (Cov.skip rfl (Cov.skip rfl (Cov.skip rfl (Cov.refl _)))))))⟩
          · refine WO.gno rfl rfl ?_
            refine WO.gno rfl rfl ?_
            refine WO.gno rfl rfl ?_
            refine WO.gyes rfl rfl ?_
            refine WO.pickF rfl rfl ?_
            refine WO.nil ?_
            exact ⟨rfl, rfl, (Cov.any rfl (andF q134) (Cov.skip rfl (Cov.skip rfl (Cov.skip rfl (Cov.skip rfl (Cov.skip rfl (Cov.refl _)))))))⟩
          refine WO.gyes rfl rfl ?_
          refine WO.mv rfl ?_
          obtain ⟨y151, e152, h⟩ := bindS h
          refine WO.cutS (d := 167) (S := S131) 9 y151 (fun q150 => ?_) (fun q150 => ?_) (fun S153 c154 => ?_)
          · have h := e152
            have h := iteT q150 h
            obtain rfl := someI h
            refine WO.gno rfl rfl ?_
            refine WO.gno rfl rfl ?_
            refine WO.gno rfl rfl ?_
            refine WO.gskip rfl rfl ?_
            refine WO.gskip rfl rfl ?_
            refine WO.gskip rfl rfl ?_
            refine WO.gskip rfl rfl ?_
            refine WO.gno rfl rfl ?_
            refine WO.gyes rfl rfl ?_
            refine WO.pickT rfl rfl ?_
            refine WO.nil ?_
            exact ⟨S131, rfl, rfl, Ch.refl _ _, (Cov.cons rfl (Cov.skip rfl (Cov.skip rfl (Cov.skip rfl (Cov.skip rfl (Cov.skip rfl (Cov.skip rfl (Cov.skip rfl (Cov.skip rfl (Cov.skip rfl (Cov.skip rfl (Cov.refl _))))))))))))⟩
          · have h := e152
            have h := iteF q150 h
            refine WO.gyes rfl rfl ?_
            refine WO.mv rfl ?_
            refine WO.gyes rfl rfl ?_
            refine WO.bin rfl rfl (by decide) (by decide) rfl ?_
            refine WO.gyes rfl rfl ?_
            refine WO.mv rfl ?_
            obtain ⟨y146, e147, h⟩ := bindS h
            refine WO.cutS (d := 166) (S := S131) 5 y146 (fun q145 => ?_) (fun q145 => ?_) (fun S148 c149 => ?_)
            · have h := e147
              have h := iteT q145 h
              refine WO.gyes rfl rfl ?_
              refine WO.mv rfl ?_
              refine WO.gyes rfl rfl ?_
              refine WO.mv rfl ?_
              refine WO.gyes rfl rfl ?_
              obtain ⟨r135, e136, h⟩ := bindS h
              refine WO.callF (S := S131) 1 rfl rfl (F78_ok e136 ho130.vw) Lay.flat_fl (fun v137 S139 c140 ho138 => ?_)
              have hot2 := hot2.to c140
              have ho16 := ho16.to c140
              have ho17 := ho17.to c140
              have ho130 := ho130.to c140
              refine WO.gyes rfl rfl ?_
              obtain ⟨r141, e142, h⟩ := bindS h
              refine WO.callE (S := S139) rfl rfl (F32_ok e142 ho16.vw ho138.vw) (fun S143 c144 => ?_)
              have hot2 := hot2.to c144
              have ho16 := ho16.to c144
              have ho17 := ho17.to c144
              have ho130 := ho130.to c144
              obtain rfl := someI h
              refine WO.gyes rfl rfl ?_
              refine WO.pickT rfl rfl ?_
              refine WO.nil ?_
              exact ⟨S143, rfl, rfl, (c140.trans c144), (Cov.cons rfl (Cov.skip rfl (Cov.skip rfl (Cov.skip rfl (Cov.skip rfl (Cov.skip rfl (Cov.skip rfl (Cov.refl _))))))))⟩
            · have h := e147
              have h := iteF q145 h
              obtain rfl := someI h
              refine WO.gno rfl rfl ?_
              refine WO.gno rfl rfl ?_
              refine WO.gno rfl rfl ?_
              refine WO.gno rfl rfl ?_
              refine WO.gyes rfl rfl ?_
              refine WO.pickF rfl rfl ?_
              refine WO.nil ?_
              exact ⟨S131, rfl, rfl, Ch.refl _ _, (Cov.cons rfl (Cov.skip rfl (Cov.skip rfl (Cov.skip rfl (Cov.skip rfl (Cov.skip rfl (Cov.skip rfl (Cov.refl _))))))))⟩
            have hot2 := hot2.to c149
            have ho16 := ho16.to c149
            have ho17 := ho17.to c149
            have ho130 := ho130.to c149
            obtain rfl := someI h
            refine WO.gyes rfl rfl ?_
            refine WO.pickF rfl rfl ?_
            refine WO.nil ?_
            exact ⟨S148, rfl, rfl, c149, (Cov.cons rfl (Cov.skip rfl (Cov.skip rfl (Cov.skip rfl (Cov.skip rfl (Cov.skip rfl (Cov.refl _)))))))⟩
          have hot2 := hot2.to c154
          have ho16 := ho16.to c154
          have ho17 := ho17.to c154
          have ho130 := ho130.to c154
          obtain rfl := someI h
          refine WO.pickT rfl rfl ?_
          refine WO.nil ?_
          exact ⟨S153, rfl, rfl, c154, (Cov.cons rfl (Cov.skip rfl (Cov.skip rfl (Cov.skip rfl (Cov.skip rfl (Cov.skip rfl (Cov.skip rfl (Cov.refl _))))))))⟩
        · have h := e157
          have h := iteF q155 h
          obtain rfl := someI h
          refine WO.gno rfl rfl ?_
          refine WO.gno rfl rfl ?_
          refine WO.gno rfl rfl ?_
          refine WO.gskip rfl rfl ?_
          refine WO.gskip rfl rfl ?_
          refine WO.gskip rfl rfl ?_
          refine WO.gno rfl rfl ?_
          refine WO.gno rfl rfl ?_
          refine WO.gskip rfl rfl ?_
          refine WO.gskip rfl rfl ?_
          refine WO.gskip rfl rfl ?_
          refine WO.gskip rfl rfl ?_
          refine WO.gskip rfl rfl ?_
          refine WO.gskip rfl rfl ?_
          refine WO.gskip rfl rfl ?_
          refine WO.gskip rfl rfl ?_
          refine WO.gno rfl rfl ?_
          refine WO.pickF rfl rfl ?_
          refine WO.nil ?_
          exact ⟨S131, rfl, rfl, Ch.refl _ _, (Cov.cons rfl (Cov.skip rfl (Cov.skip rfl (Cov.skip rfl (Cov.skip rfl (Cov.skip rfl (Cov.skip rfl (Cov.skip rfl (Cov.skip rfl (Cov.skip rfl (Cov.skip rfl (Cov.skip rfl (Cov.skip rfl (Cov.skip rfl (Cov.skip rfl (Cov.skip rfl (Cov.skip rfl (Cov.skip rfl (Cov.skip rfl (Cov.skip rfl (Cov.refl _)))))))))))))))))))))⟩
        have hot2 := hot2.to c159
        have ho16 := ho16.to c159
        have ho17 := ho17.to c159
        have ho130 := ho130.to c159
        refine WO.asg rfl ?_
        refine WO.nil ?_
        refine thenL_n ?_
        refine WC.ret ?_
        obtain rfl := someI h
        exact ⟨.inr rfl, _, _, rfl, rfl, rfl⟩
end Go.Proofs.Ytdkmepeolmdccaa

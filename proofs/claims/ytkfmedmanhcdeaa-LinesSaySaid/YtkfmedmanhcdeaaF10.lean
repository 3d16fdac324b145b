/- The machine answers F10: printed by a program of ours (gen.py). -/
import Derived.Test.YtkfmedmanhcdeaaDef
import Derived.Test.YtkfmedmanhcdeaaEnv
import Derived.Test.YtkfmedmanhcdeaaF57
import Derived.Test.YtkfmedmanhcdeaaF58
import Derived.Test.YtkfmedmanhcdeaaF59
import Derived.Test.YtkfmedmanhcdeaaF60
import Derived.Test.YtkfmedmanhcdeaaF63_61
import Derived.Test.YtkfmedmanhcdeaaF63_62
import Derived.Test.YtkfmedmanhcdeaaF64
import Derived.Test.YtkfmedmanhcdeaaF65
set_option linter.unusedVariables false
namespace Go.Proofs.Ytkfmedmanhcdeaa
open Go.Am
theorem F10.fn : E.fn 10 = some ⟨88, (Try.f10.body.getD .skip), Try.f10.results.toList, []⟩ := rfl
theorem F10_ok {F : Nat} {m : Mem} {n : Nat} {r : Bool} {t0 : List Int} {vt0 : SV} (h : F10 F t0 = some r) (kt0 : Vw Y3 n m vt0 t0) : Ret E n 10 [.sc vt0] m n (fun v m' n' => v = .sc (.bool r)) := by
  unfold F10 at h
  refine Ret.walk F10.fn ?_
  refine WC.start fun S0 em en hz => ?_
  have hot0 := kt0.rdS em hz
  refine WC.seq ?_
  refine WC.region ?_
  refine WO.asg rfl ?_
  refine WO.nil ?_
  refine thenL_n ?_
  refine WC.seq ?_
  refine WC.region ?_
  refine WO.mv rfl ?_
  obtain ⟨r1, e2, h⟩ := bindS h
  refine WO.callF (S := S0) 2 rfl rfl (F57_ok e2 hot0.vw) Lay.flat_fl (fun v3 S5 c6 ho4 => ?_)
  have hot0 := hot0.to c6
  refine WO.mv rfl ?_
  refine WO.do rfl rfl ?_
  refine WO.do rfl rfl ?_
  refine WO.asg rfl ?_
  refine WO.asg rfl ?_
  refine WO.nil ?_
  refine thenL_n ?_
  refine WC.seq ?_
  refine WC.region ?_
  refine WO.mv rfl ?_
  obtain ⟨r7, e8, h⟩ := bindS h
  refine WO.callF (S := S5) 3 rfl rfl (F58_ok e8 hot0.vw) Lay.flat_fl (fun v9 S11 c12 ho10 => ?_)
  have hot0 := hot0.to c12
  have ho4 := ho4.to c12
  refine WO.mv rfl ?_
  refine WO.do rfl rfl ?_
  refine WO.do rfl rfl ?_
  refine WO.asg rfl ?_
  refine WO.asg rfl ?_
  refine WO.nil ?_
  refine thenL_n ?_
  refine WC.seq ?_
  refine WC.region ?_
  refine WO.mv rfl ?_
  obtain ⟨r13, e14, h⟩ := bindS h
  refine WO.callF (S := S11) 4 rfl rfl (F59_ok e14 hot0.vw) Lay.flat_fl (fun v15 S17 c18 ho16 => ?_)
  have hot0 := hot0.to c18
  have ho4 := ho4.to c18
  have ho10 := ho10.to c18
  refine WO.mv rfl ?_
  refine WO.do rfl rfl ?_
  refine WO.do rfl rfl ?_
  refine WO.asg rfl ?_
  refine WO.asg rfl ?_
  refine WO.nil ?_
  refine thenL_n ?_
  refine WC.seq ?_
  refine WC.region ?_
  refine WO.asg rfl ?_
  refine WO.nil ?_
  refine thenL_n ?_
  refine WC.seq ?_
  refine WC.seq ?_
  refine WC.region ?_
  refine WO.mv rfl ?_
  refine WO.lenS rfl hot0.slv rfl ?_
  refine WO.bin rfl rfl (by decide) (by decide) rfl ?_
  refine WO.nil ?_
  refine thenL_n ?_
  obtain ⟨b20, e21, h⟩ := bindS h
  refine WC.mono (Q' := (fun b e l' m' n' => e = .normal ∧ ∃ S22 : Cx n, S22.m = m' ∧ S22.n = n' ∧ Cov l' [(0, .sc vt0), (3, .sc v3), (4, .sc (.int .i64 r1.2)), (5, .sc v9), (6, .sc (.int .i64 r7.2)), (7, .sc v15), (8, .sc (.int .i64 r13.2)), (9, .sc (.int .i64 b))] ∧ Rd Y3 S22 vt0 t0 ∧ Ow Y3 S22 2 v3 r1.1 ∧ Ow Y3 S22 3 v9 r7.1 ∧ Ow Y3 S22 4 v15 r13.1) b20) ?_ ?_
  · have h := e21
    dsimp only at h ⊢
    refine WC.cond rfl (fun q19 => ?_) (fun q19 => ?_)
    · have h := iteT q19 h
      refine WC.region ?_
      refine WO.asg rfl ?_
      refine WO.nil ?_
      obtain rfl := someI h
      exact ⟨rfl, ⟨S17, rfl, rfl, (Cov.cons rfl (Cov.cons rfl (Cov.cons rfl (Cov.cons rfl (Cov.cons rfl (Cov.cons rfl (Cov.cons rfl (Cov.cons rfl (Cov.nil _))))))))), hot0, ho4, ho10, ho16⟩⟩
    · have h := iteF q19 h
      refine WC.skip ?_
      obtain rfl := someI h
      exact ⟨rfl, ⟨S17, rfl, rfl, (Cov.cons rfl (Cov.cons rfl (Cov.cons rfl (Cov.cons rfl (Cov.cons rfl (Cov.cons rfl (Cov.cons rfl (Cov.cons rfl (Cov.nil _))))))))), hot0, ho4, ho10, ho16⟩⟩
  dsimp only
  rintro _ _ _ _ ⟨rfl, ⟨S23, rfl, rfl, hc24, hot0, ho4, ho10, ho16⟩⟩
  refine thenL_n ?_
  refine WC.cov hc24 ?_
  refine WC.seq ?_
  refine WC.seq ?_
  refine WC.region ?_
  refine WO.mv rfl ?_
  obtain ⟨r25, e26, h⟩ := bindS h
  refine WO.callE (S := S23) rfl rfl (F60_ok e26 hot0.vw) (fun S27 c28 => ?_)
  have hot0 := hot0.to c28
  have ho4 := ho4.to c28
  have ho10 := ho10.to c28
  have ho16 := ho16.to c28
  refine WO.mv rfl ?_
  refine WO.bin rfl rfl (by decide) (by decide) rfl ?_
  refine WO.nil ?_
  refine thenL_n ?_
  refine WC.cond rfl (fun q29 => ?_) (fun q29 => ?_)
  · have h := iteT q29 h
    refine WC.seq ?_
    refine WC.region ?_
    refine WO.asg rfl ?_
    refine WO.nil ?_
    refine thenL_n ?_
    refine WC.ret ?_
    refine thenL_r ?_
    obtain rfl := someI h
    exact ⟨.inr rfl, _, _, rfl, rfl, rfl⟩
  · have h := iteF q29 h
    refine WC.skip ?_
    refine thenL_n ?_
    refine WC.seq ?_
    refine WC.seq ?_
    refine WC.region ?_
    refine WO.mv rfl ?_
    refine WO.bin rfl rfl (by decide) (by decide) rfl ?_
    refine WO.nil ?_
    refine thenL_n ?_
    refine WC.cond rfl (fun q30 => ?_) (fun q30 => ?_)
    · have h := iteT q30 h
      refine WC.seq ?_
      refine WC.region ?_
      refine WO.mv rfl ?_
      refine WO.mv rfl ?_
      refine WO.bin rfl rfl (by decide) (by decide) rfl ?_
      refine WO.mv rfl ?_
      refine WO.cutB (d := 43) 4 ((r1.2 == b20) && (r7.2 == b20)) (fun q31 => ?_) (fun q31 => ?_) ?_
      · skip
        refine WO.gyes rfl rfl ?_
        refine WO.mv rfl ?_
        refine WO.gyes rfl rfl ?_
        refine WO.mv rfl ?_
        refine WO.gyes rfl rfl ?_
        refine WO.bin rfl rfl (by decide) (by decide) rfl ?_
        refine WO.pickT rfl rfl ?_
        refine WO.nil ?_
        exact ⟨rfl, rfl, (Cov.any rfl (andT q31) (Cov.skip rfl (Cov.skip rfl (Cov.skip rfl (Cov.skip rfl (Cov.skip rfl (Cov.refl _)))))))⟩
      · refine WO.gno rfl rfl ?_
        refine WO.gno rfl rfl ?_
        refine WO.gno rfl rfl ?_
        refine WO.pickF rfl rfl ?_
        refine WO.nil ?_
        exact ⟨rfl, rfl, (Cov.any rfl (andF q31) (Cov.skip rfl (Cov.skip rfl (Cov.skip rfl (Cov.skip rfl (Cov.skip rfl (Cov.refl _)))))))⟩
      refine WO.mv rfl ?_
      refine WO.cutB (d := 48) 4 (((r1.2 == b20) && (r7.2 == b20)) && (r13.2 == b20)) (fun q32 => ?_) (fun q32 => ?_) ?_
      · skip
        refine WO.gyes rfl rfl ?_
        refine WO.mv rfl ?_
        refine WO.gyes rfl rfl ?_
        refine WO.mv rfl ?_
        refine WO.gyes rfl rfl ?_
        refine WO.bin rfl rfl (by decide) (by decide) rfl ?_
        refine WO.pickT rfl rfl ?_
        refine WO.nil ?_
        exact ⟨rfl, rfl, (Cov.any rfl (andT q32) (Cov.skip rfl (Cov.skip rfl (Cov.skip rfl (Cov.skip rfl (Cov.skip rfl (Cov.refl _)))))))⟩
      · refine WO.gno rfl rfl ?_
        refine WO.gno rfl rfl ?_
        refine WO.gno rfl rfl ?_
        refine WO.pickF rfl rfl ?_
        refine WO.nil ?_
        exact ⟨rfl, rfl, (Cov.any rfl (andF q32) (Cov.skip rfl (Cov.skip rfl (Cov.skip rfl (Cov.skip rfl (Cov.skip rfl (Cov.refl _)))))))⟩
      refine WO.mv rfl ?_
      refine WO.cutB (d := 59) 10 ((((r1.2 == b20) && (r7.2 == b20)) && (r13.2 == b20)) && ((wrapA .i64 ((wrapA .i64 ((r1.1.length : Int) + (r7.1.length : Int))) + (r13.1.length : Int))) == 0)) (fun q33 => ?_) (fun q33 => ?_) ?_
      · skip
        refine WO.gyes rfl rfl ?_
        refine WO.mv rfl ?_
        refine WO.gyes rfl rfl ?_
        refine WO.lenS rfl ho4.slv rfl ?_
        refine WO.gyes rfl rfl ?_
        refine WO.mv rfl ?_
        refine WO.gyes rfl rfl ?_
        refine WO.lenS rfl ho10.slv rfl ?_
        refine WO.gyes rfl rfl ?_
        refine WO.bin rfl rfl (by decide) (by decide) rfl ?_
        refine WO.gyes rfl rfl ?_
        refine WO.mv rfl ?_
        refine WO.gyes rfl rfl ?_
        refine WO.lenS rfl ho16.slv rfl ?_
        refine WO.gyes rfl rfl ?_
        refine WO.bin rfl rfl (by decide) (by decide) rfl ?_
        refine WO.gyes rfl rfl ?_
        refine WO.bin rfl rfl (by decide) (by decide) rfl ?_
        refine WO.pickT rfl rfl ?_
        refine WO.nil ?_
        exact ⟨rfl, rfl, (Cov.any rfl (andT q33) (Cov.skip rfl (Cov.skip rfl (Cov.skip rfl (Cov.skip rfl (Cov.skip rfl (Cov.skip rfl (Cov.skip rfl (Cov.skip rfl (Cov.skip rfl (Cov.skip rfl (Cov.skip rfl (Cov.refl _)))))))))))))⟩
      · refine WO.gno rfl rfl ?_
        refine WO.gno rfl rfl ?_
        refine WO.gno rfl rfl ?_
        refine WO.gno rfl rfl ?_
        refine WO.gno rfl rfl ?_
        refine WO.gno rfl rfl ?_
        refine WO.gno rfl rfl ?_
        refine WO.gno rfl rfl ?_
        refine WO.gno rfl rfl ?_
        refine WO.pickF rfl rfl ?_
        refine WO.nil ?_
        exact ⟨rfl, rfl, (Cov.any rfl (andF q33) (Cov.skip rfl (Cov.skip rfl (Cov.skip rfl (Cov.skip rfl (Cov.skip rfl (Cov.skip rfl (Cov.skip rfl (Cov.skip rfl (Cov.skip rfl (Cov.skip rfl (Cov.skip rfl (Cov.refl _)))))))))))))⟩
      refine WO.asg rfl ?_
      refine WO.nil ?_
      refine thenL_n ?_
      refine WC.ret ?_
      refine thenL_r ?_
      obtain rfl := someI h
      exact ⟨.inr rfl, _, _, rfl, rfl, rfl⟩
    · have h := iteF q30 h
      refine WC.skip ?_
      refine thenL_n ?_
      refine WC.seq ?_
      refine WC.region ?_
      refine WO.asg rfl ?_
      refine WO.nil ?_
      refine thenL_n ?_
      refine WC.seq ?_
      refine WC.region ?_
      refine WO.asg rfl ?_
      refine WO.nil ?_
      refine thenL_n ?_
      refine WC.seq ?_
      refine WC.region ?_
      refine WO.mv rfl ?_
      refine WO.bin rfl rfl (by decide) (by decide) rfl ?_
      refine WO.mv rfl ?_
      refine WO.cutB (d := 65) 3 ((r1.2 == 0) && (r7.2 == 0)) (fun q34 => ?_) (fun q34 => ?_) ?_
      · skip
        refine WO.gyes rfl rfl ?_
        refine WO.mv rfl ?_
        refine WO.gyes rfl rfl ?_
        refine WO.bin rfl rfl (by decide) (by decide) rfl ?_
        refine WO.pickT rfl rfl ?_
        refine WO.nil ?_
        exact ⟨rfl, rfl, (Cov.any rfl (andT q34) (Cov.skip rfl (Cov.skip rfl (Cov.skip rfl (Cov.skip rfl (Cov.refl _))))))⟩
      · refine WO.gno rfl rfl ?_
        refine WO.gno rfl rfl ?_
        refine WO.pickF rfl rfl ?_
        refine WO.nil ?_
        exact ⟨rfl, rfl, (Cov.any rfl (andF q34) (Cov.skip rfl (Cov.skip rfl (Cov.skip rfl (Cov.skip rfl (Cov.refl _))))))⟩
      refine WO.mv rfl ?_
      refine WO.cutB (d := 69) 3 (((r1.2 == 0) && (r7.2 == 0)) && (r13.2 == 0)) (fun q35 => ?_) (fun q35 => ?_) ?_
      · skip
        refine WO.gyes rfl rfl ?_
        refine WO.mv rfl ?_
        refine WO.gyes rfl rfl ?_
        refine WO.bin rfl rfl (by decide) (by decide) rfl ?_
        refine WO.pickT rfl rfl ?_
        refine WO.nil ?_
        exact ⟨rfl, rfl, (Cov.any rfl (andT q35) (Cov.skip rfl (Cov.skip rfl (Cov.skip rfl (Cov.skip rfl (Cov.refl _))))))⟩
      · refine WO.gno rfl rfl ?_
        refine WO.gno rfl rfl ?_
        refine WO.pickF rfl rfl ?_
        refine WO.nil ?_
        exact ⟨rfl, rfl, (Cov.any rfl (andF q35) (Cov.skip rfl (Cov.skip rfl (Cov.skip rfl (Cov.skip rfl (Cov.refl _))))))⟩
      refine WO.mv rfl ?_
      obtain ⟨y41, e42, h⟩ := bindS h
      refine WO.cutS (d := 75) (S := S27) 5 y41 (fun q40 => ?_) (fun q40 => ?_) (fun S43 c44 => ?_)
      · have h := e42
        have h := iteT q40 h
        refine WO.gyes rfl rfl ?_
        refine WO.mv rfl ?_
        refine WO.gyes rfl rfl ?_
        refine WO.mv rfl ?_
        refine WO.gyes rfl rfl ?_
        refine WO.mv rfl ?_
        refine WO.gyes rfl rfl ?_
        obtain ⟨r36, e37, h⟩ := bindS h
        refine WO.callE (S := S27) rfl rfl (F63_61_ok e37 hot0.vw ho4.vw) (fun S38 c39 => ?_)
        have hot0 := hot0.to c39
        have ho4 := ho4.to c39
        have ho10 := ho10.to c39
        have ho16 := ho16.to c39
        obtain rfl := someI h
        refine WO.pickT rfl rfl ?_
        refine WO.nil ?_
        exact ⟨S38, rfl, rfl, c39, (Cov.cons rfl (Cov.skip rfl (Cov.skip rfl (Cov.skip rfl (Cov.skip rfl (Cov.skip rfl (Cov.skip rfl (Cov.refl _))))))))⟩
      · have h := e42
        have h := iteF q40 h
        obtain rfl := someI h
        refine WO.gno rfl rfl ?_
        refine WO.gno rfl rfl ?_
        refine WO.gno rfl rfl ?_
        refine WO.gno rfl rfl ?_
        refine WO.pickF rfl rfl ?_
        refine WO.nil ?_
        exact ⟨S27, rfl, rfl, Ch.refl _ _, (Cov.cons rfl (Cov.skip rfl (Cov.skip rfl (Cov.skip rfl (Cov.skip rfl (Cov.skip rfl (Cov.skip rfl (Cov.refl _))))))))⟩
      have hot0 := hot0.to c44
      have ho4 := ho4.to c44
      have ho10 := ho10.to c44
      have ho16 := ho16.to c44
      refine WO.mv rfl ?_
      obtain ⟨y50, e51, h⟩ := bindS h
      refine WO.cutS (d := 81) (S := S43) 5 y50 (fun q49 => ?_) (fun q49 => ?_) (fun S52 c53 => ?_)
      · have h := e51
        have h := iteT q49 h
        refine WO.gyes rfl rfl ?_
        refine WO.mv rfl ?_
        refine WO.gyes rfl rfl ?_
        refine WO.mv rfl ?_
        refine WO.gyes rfl rfl ?_
        refine WO.mv rfl ?_
        refine WO.gyes rfl rfl ?_
        obtain ⟨r45, e46, h⟩ := bindS h
        refine WO.callE (S := S43) rfl rfl (F63_62_ok e46 hot0.vw ho10.vw) (fun S47 c48 => ?_)
        have hot0 := hot0.to c48
        have ho4 := ho4.to c48
        have ho10 := ho10.to c48
        have ho16 := ho16.to c48
        obtain rfl := someI h
        refine WO.pickT rfl rfl ?_
        refine WO.nil ?_
        exact ⟨S47, rfl, rfl, c48, (Cov.cons rfl (Cov.skip rfl (Cov.skip rfl (Cov.skip rfl (Cov.skip rfl (Cov.skip rfl (Cov.skip rfl (Cov.refl _))))))))⟩
      · have h := e51
        have h := iteF q49 h
        obtain rfl := someI h
        refine WO.gno rfl rfl ?_
        refine WO.gno rfl rfl ?_
        refine WO.gno rfl rfl ?_
        refine WO.gno rfl rfl ?_
        refine WO.pickF rfl rfl ?_
        refine WO.nil ?_
        exact ⟨S43, rfl, rfl, Ch.refl _ _, (Cov.cons rfl (Cov.skip rfl (Cov.skip rfl (Cov.skip rfl (Cov.skip rfl (Cov.skip rfl (Cov.skip rfl (Cov.refl _))))))))⟩
      have hot0 := hot0.to c53
      have ho4 := ho4.to c53
      have ho10 := ho10.to c53
      have ho16 := ho16.to c53
      refine WO.mv rfl ?_
      obtain ⟨y65, e66, h⟩ := bindS h
      refine WO.cutS (d := 87) (S := S52) 5 y65 (fun q64 => ?_) (fun q64 => ?_) (fun S67 c68 => ?_)
      · have h := e66
        have h := iteT q64 h
        refine WO.gyes rfl rfl ?_
        refine WO.mv rfl ?_
        refine WO.gyes rfl rfl ?_
        refine WO.mv rfl ?_
        refine WO.gyes rfl rfl ?_
        obtain ⟨r54, e55, h⟩ := bindS h
        refine WO.callF (S := S52) 1 rfl rfl (F65_ok e55 hot0.vw) Lay.flat_fl (fun v56 S58 c59 ho57 => ?_)
        have hot0 := hot0.to c59
        have ho4 := ho4.to c59
        have ho10 := ho10.to c59
        have ho16 := ho16.to c59
        refine WO.gyes rfl rfl ?_
        obtain ⟨r60, e61, h⟩ := bindS h
        refine WO.callE (S := S58) rfl rfl (F64_ok e61 ho16.vw ho57.vw) (fun S62 c63 => ?_)
        have hot0 := hot0.to c63
        have ho4 := ho4.to c63
        have ho10 := ho10.to c63
        have ho16 := ho16.to c63
        obtain rfl := someI h
        refine WO.pickT rfl rfl ?_
        refine WO.nil ?_
        exact ⟨S62, rfl, rfl, (c59.trans c63), (Cov.cons rfl (Cov.skip rfl (Cov.skip rfl (Cov.skip rfl (Cov.skip rfl (Cov.skip rfl (Cov.skip rfl (Cov.refl _))))))))⟩
      · have h := e66
        have h := iteF q64 h
        obtain rfl := someI h
        refine WO.gno rfl rfl ?_
        refine WO.gno rfl rfl ?_
        refine WO.gno rfl rfl ?_
        refine WO.gno rfl rfl ?_
        refine WO.pickF rfl rfl ?_
        refine WO.nil ?_
        exact ⟨S52, rfl, rfl, Ch.refl _ _, (Cov.cons rfl (Cov.skip rfl (Cov.skip rfl (Cov.skip rfl (Cov.skip rfl (Cov.skip rfl (Cov.skip rfl (Cov.refl _))))))))⟩
      have hot0 := hot0.to c68
      have ho4 := ho4.to c68
      have ho10 := ho10.to c68
      have ho16 := ho16.to c68
      refine WO.asg rfl ?_
      refine WO.nil ?_
      refine thenL_n ?_
      refine WC.ret ?_
      obtain rfl := someI h
      exact ⟨.inr rfl, _, _, rfl, rfl, rfl⟩
end Go.Proofs.Ytkfmedmanhcdeaa

/- The machine answers F3: printed by a program of ours (gen.py). -/
import Derived.Test.YtdfalejlhkalhaaDef
import Derived.Test.YtdfalejlhkalhaaEnv
import Derived.Test.YtdfalejlhkalhaaF12
import Derived.Test.YtdfalejlhkalhaaF13
import Derived.Test.YtdfalejlhkalhaaF14
import Derived.Test.YtdfalejlhkalhaaF15
import Derived.Test.YtdfalejlhkalhaaF16
import Derived.Test.YtdfalejlhkalhaaF17
import Derived.Test.YtdfalejlhkalhaaF18
import Derived.Test.YtdfalejlhkalhaaF19
import Derived.Test.YtdfalejlhkalhaaF20
import Derived.Test.YtdfalejlhkalhaaF21
import Derived.Test.YtdfalejlhkalhaaF22
import Derived.Test.YtdfalejlhkalhaaF23
import Derived.Test.YtdfalejlhkalhaaF24
set_option linter.unusedVariables false
namespace Go.Proofs.Ytdfalejlhkalhaa
open Go.Am
theorem F3.fn : E.fn 3 = some ⟨178, (Try.f3.body.getD .skip), Try.f3.results.toList, []⟩ := rfl
theorem F3_ok {F : Nat} {m : Mem} {n : Nat} {r : Bool} {t0 : List Int} {t1 : List Int} {vt0 : SV} {vt1 : SV} (h : F3 F t0 t1 = some r) (kt0 : Vw Y3 n m vt0 t0) (kt1 : Vw Y3 n m vt1 t1) : Ret E n 3 [.sc vt0, .sc vt1] m n (fun v m' n' => v = .sc (.bool r)) := by
  unfold F3 at h
  refine Ret.walk F3.fn ?_
  refine WC.start fun S0 em en hz => ?_
  have hot0 := kt0.rdS em hz
  have hot1 := kt1.rdS em hz
  refine WC.seq ?_
  refine WC.region ?_
  refine WO.asg rfl ?_
  refine WO.nil ?_
  refine thenL_n ?_
  refine WC.seq ?_
  refine WC.region ?_
  refine WO.mv rfl ?_
  refine WO.mv rfl ?_
  obtain ⟨r1, e2, h⟩ := bindS h
  refine WO.callF (S := S0) 2 rfl rfl (F12_ok e2 hot0.vw hot1.vw) Lay.flat_fl (fun v3 S5 c6 ho4 => ?_)
  have hot0 := hot0.to c6
  have hot1 := hot1.to c6
  refine WO.mv rfl ?_
  refine WO.do rfl rfl ?_
  refine WO.do rfl rfl ?_
  refine WO.asg rfl ?_
  refine WO.asg rfl ?_
  refine WO.nil ?_
  refine thenL_n ?_
  refine WC.seq ?_
  refine WC.region ?_
  refine WO.mv rfl ?_
  obtain ⟨r7, e8, h⟩ := bindS h
  refine WO.callF (S := S5) 3 rfl rfl (F13_ok e8 hot0.vw) Lay.flat_fl (fun v9 S11 c12 ho10 => ?_)
  have hot0 := hot0.to c12
  have hot1 := hot1.to c12
  have ho4 := ho4.to c12
  refine WO.mv rfl ?_
  refine WO.do rfl rfl ?_
  refine WO.do rfl rfl ?_
  refine WO.asg rfl ?_
  refine WO.asg rfl ?_
  refine WO.nil ?_
  refine thenL_n ?_
  refine WC.seq ?_
  refine WC.region ?_
  refine WO.mv rfl ?_
  obtain ⟨r13, e14, h⟩ := bindS h
  refine WO.callF (S := S11) 4 rfl rfl (F14_ok e14 hot0.vw) Lay.flat_fl (fun v15 S17 c18 ho16 => ?_)
  have hot0 := hot0.to c18
  have hot1 := hot1.to c18
  have ho4 := ho4.to c18
  have ho10 := ho10.to c18
  refine WO.mv rfl ?_
  refine WO.do rfl rfl ?_
  refine WO.do rfl rfl ?_
  refine WO.asg rfl ?_
  refine WO.asg rfl ?_
  refine WO.nil ?_
  refine thenL_n ?_
  refine WC.seq ?_
  refine WC.region ?_
  refine WO.mv rfl ?_
  obtain ⟨r19, e20, h⟩ := bindS h
  refine WO.callE (S := S17) rfl rfl (F15_ok e20 hot0.vw) (fun S21 c22 => ?_)
  have hot0 := hot0.to c22
  have hot1 := hot1.to c22
  have ho4 := ho4.to c22
  have ho10 := ho10.to c22
  have ho16 := ho16.to c22
  refine WO.mv rfl ?_
  refine WO.do rfl rfl ?_
  refine WO.do rfl rfl ?_
  refine WO.asg rfl ?_
  refine WO.asg rfl ?_
  refine WO.nil ?_
  refine thenL_n ?_
  refine WC.seq ?_
  refine WC.region ?_
  refine WO.mv rfl ?_
  obtain ⟨r23, e24, h⟩ := bindS h
  refine WO.callE (S := S21) rfl rfl (F16_ok e24 hot0.vw) (fun S25 c26 => ?_)
  have hot0 := hot0.to c26
  have hot1 := hot1.to c26
  have ho4 := ho4.to c26
  have ho10 := ho10.to c26
  have ho16 := ho16.to c26
  refine WO.mv rfl ?_
  refine WO.do rfl rfl ?_
  refine WO.do rfl rfl ?_
  refine WO.asg rfl ?_
  refine WO.asg rfl ?_
  refine WO.nil ?_
  refine thenL_n ?_
  refine WC.seq ?_
  refine WC.region ?_
  refine WO.mv rfl ?_
  obtain ⟨r27, e28, h⟩ := bindS h
  refine WO.callE (S := S25) rfl rfl (F17_ok e28 hot0.vw) (fun S29 c30 => ?_)
  have hot0 := hot0.to c30
  have hot1 := hot1.to c30
  have ho4 := ho4.to c30
  have ho10 := ho10.to c30
  have ho16 := ho16.to c30
  refine WO.asg rfl ?_
  refine WO.nil ?_
  refine thenL_n ?_
  refine WC.seq ?_
  refine WC.seq ?_
  refine WC.region ?_
  refine WO.mv rfl ?_
  obtain ⟨r31, e32, h⟩ := bindS h
  refine WO.callE (S := S29) rfl rfl (F18_ok e32 hot0.vw) (fun S33 c34 => ?_)
  have hot0 := hot0.to c34
  have hot1 := hot1.to c34
  have ho4 := ho4.to c34
  have ho10 := ho10.to c34
  have ho16 := ho16.to c34
  refine WO.mv rfl ?_
  refine WO.bin rfl rfl (by decide) (by decide) rfl ?_
  refine WO.nil ?_
  refine thenL_n ?_
  refine WC.cond rfl (fun q35 => ?_) (fun q35 => ?_)
  · have h := iteT q35 h
    refine WC.seq ?_
    refine WC.region ?_
    refine WO.asg rfl ?_
    refine WO.nil ?_
    refine thenL_n ?_
    refine WC.ret ?_
    refine thenL_r ?_
    obtain rfl := someI h
    exact ⟨.inr rfl, _, _, rfl, rfl, rfl⟩
  · have h := iteF q35 h
    refine WC.skip ?_
    refine thenL_n ?_
    refine WC.seq ?_
    refine WC.seq ?_
    refine WC.region ?_
    refine WO.mv rfl ?_
    refine WO.bin rfl rfl (by decide) (by decide) rfl ?_
    refine WO.nil ?_
    refine thenL_n ?_
    refine WC.cond rfl (fun q36 => ?_) (fun q36 => ?_)
    · have h := iteT q36 h
      refine WC.seq ?_
      refine WC.region ?_
      refine WO.mv rfl ?_
      refine WO.mv rfl ?_
      refine WO.bin rfl rfl (by decide) (by decide) rfl ?_
      refine WO.mv rfl ?_
      refine WO.cutB (d := 58) 4 ((r1.2 == r27) && (r7.2 == r27)) (fun q37 => ?_) (fun q37 => ?_) ?_
      · skip
        refine WO.gyes rfl rfl ?_
        refine WO.mv rfl ?_
        refine WO.gyes rfl rfl ?_
        refine WO.mv rfl ?_
        refine WO.gyes rfl rfl ?_
        refine WO.bin rfl rfl (by decide) (by decide) rfl ?_
        refine WO.pickT rfl rfl ?_
        refine WO.nil ?_
        exact ⟨rfl, rfl, (Cov.any rfl (andT q37) (Cov.skip rfl (Cov.skip rfl (Cov.skip rfl (Cov.skip rfl (Cov.skip rfl (Cov.refl _)))))))⟩
      · refine WO.gno rfl rfl ?_
        refine WO.gno rfl rfl ?_
        refine WO.gno rfl rfl ?_
        refine WO.pickF rfl rfl ?_
        refine WO.nil ?_
        exact ⟨rfl, rfl, (Cov.any rfl (andF q37) (Cov.skip rfl (Cov.skip rfl (Cov.skip rfl (Cov.skip rfl (Cov.skip rfl (Cov.refl _)))))))⟩
      refine WO.mv rfl ?_
      refine WO.cutB (d := 63) 4 (((r1.2 == r27) && (r7.2 == r27)) && (r13.2 == r27)) (fun q38 => ?_) (fun q38 => ?_) ?_
      · skip
        refine WO.gyes rfl rfl ?_
        refine WO.mv rfl ?_
        refine WO.gyes rfl rfl ?_
        refine WO.mv rfl ?_
        refine WO.gyes rfl rfl ?_
        refine WO.bin rfl rfl (by decide) (by decide) rfl ?_
        refine WO.pickT rfl rfl ?_
        refine WO.nil ?_
        exact ⟨rfl, rfl, (Cov.any rfl (andT q38) (Cov.skip rfl (Cov.skip rfl (Cov.skip rfl (Cov.skip rfl (Cov.skip rfl (Cov.refl _)))))))⟩
      · refine WO.gno rfl rfl ?_
        refine WO.gno rfl rfl ?_
        refine WO.gno rfl rfl ?_
        refine WO.pickF rfl rfl ?_
        refine WO.nil ?_
        exact ⟨rfl, rfl, (Cov.any rfl (andF q38) (Cov.skip rfl (Cov.skip rfl (Cov.skip rfl (Cov.skip rfl (Cov.skip rfl (Cov.refl _)))))))⟩
      refine WO.mv rfl ?_
      refine WO.cutB (d := 68) 4 ((((r1.2 == r27) && (r7.2 == r27)) && (r13.2 == r27)) && (r19.2 == r27)) (fun q39 => ?_) (fun q39 => ?_) ?_
      · skip
        refine WO.gyes rfl rfl ?_
        refine WO.mv rfl ?_
        refine WO.gyes rfl rfl ?_
        refine WO.mv rfl ?_
        refine WO.gyes rfl rfl ?_
        refine WO.bin rfl rfl (by decide) (by decide) rfl ?_
        refine WO.pickT rfl rfl ?_
        refine WO.nil ?_
        exact ⟨rfl, rfl, (Cov.any rfl (andT q39) (Cov.skip rfl (Cov.skip rfl (Cov.skip rfl (Cov.skip rfl (Cov.skip rfl (Cov.refl _)))))))⟩
      · refine WO.gno rfl rfl ?_
        refine WO.gno rfl rfl ?_
        refine WO.gno rfl rfl ?_
        refine WO.pickF rfl rfl ?_
        refine WO.nil ?_
        exact ⟨rfl, rfl, (Cov.any rfl (andF q39) (Cov.skip rfl (Cov.skip rfl (Cov.skip rfl (Cov.skip rfl (Cov.skip rfl (Cov.refl _)))))))⟩
      refine WO.mv rfl ?_
      refine WO.cutB (d := 73) 4 (((((r1.2 == r27) && (r7.2 == r27)) && (r13.2 == r27)) && (r19.2 == r27)) && (r23.2 == r27)) (fun q40 => ?_) (fun q40 => ?_) ?_
      · skip
        refine WO.gyes rfl rfl ?_
        refine WO.mv rfl ?_
        refine WO.gyes rfl rfl ?_
        refine WO.mv rfl ?_
        refine WO.gyes rfl rfl ?_
        refine WO.bin rfl rfl (by decide) (by decide) rfl ?_
        refine WO.pickT rfl rfl ?_
        refine WO.nil ?_
        exact ⟨rfl, rfl, (Cov.any rfl (andT q40) (Cov.skip rfl (Cov.skip rfl (Cov.skip rfl (Cov.skip rfl (Cov.skip rfl (Cov.refl _)))))))⟩
      · refine WO.gno rfl rfl ?_
        refine WO.gno rfl rfl ?_
        refine WO.gno rfl rfl ?_
        refine WO.pickF rfl rfl ?_
        refine WO.nil ?_
        exact ⟨rfl, rfl, (Cov.any rfl (andF q40) (Cov.skip rfl (Cov.skip rfl (Cov.skip rfl (Cov.skip rfl (Cov.skip rfl (Cov.refl _)))))))⟩
      refine WO.mv rfl ?_
      refine WO.cutB (d := 84) 10 ((((((r1.2 == r27) && (r7.2 == r27)) && (r13.2 == r27)) && (r19.2 == r27)) && (r23.2 == r27)) && ((wrapA .i64 ((wrapA .i64 ((r1.1.length : Int) + (r7.1.length : Int))) + (r13.1.length : Int))) == 0)) (fun q41 => ?_) (fun q41 => ?_) ?_
      · skip
        refine WO.gyes rfl rfl ?_
        refine WO.mv rfl ?_
        refine WO.gyes rfl rfl ?_
        refine WO.lenS rfl ho4.slv rfl ?_
        refine WO.gyes rfl rfl ?_
        refine WO.mv rfl ?_
        refine WO.gyes rfl rfl ?_
        refine WO.lenS rfl ho10.slv rfl ?_
        refine WO.gyes rfl rfl ?_
        refine WO.bin rfl rfl (by decide) (by decide) rfl ?_
        refine WO.gyes rfl rfl ?_
        refine WO.mv rfl ?_
        refine WO.gyes rfl rfl ?_
        refine WO.lenS rfl ho16.slv rfl ?_
        refine WO.gyes rfl rfl ?_
        refine WO.bin rfl rfl (by decide) (by decide) rfl ?_
        refine WO.gyes rfl rfl ?_
        refine WO.bin rfl rfl (by decide) (by decide) rfl ?_
        refine WO.pickT rfl rfl ?_
        refine WO.nil ?_
        exact ⟨rfl, rfl, (Cov.any rfl (andT q41) (Cov.skip rfl (Cov.skip rfl (Cov.skip rfl (Cov.skip rfl (Cov.skip rfl (Cov.skip rfl (Cov.skip rfl (Cov.skip rfl (Cov.skip rfl (Cov.skip rfl (Cov.skip rfl (Cov.refl _)))))))))))))⟩
      · refine WO.gno rfl rfl ?_
        refine WO.gno rfl rfl ?_
        refine WO.gno rfl rfl ?_
        refine WO.gno rfl rfl ?_
        refine WO.gno rfl rfl ?_
        refine WO.gno rfl rfl ?_
        refine WO.gno rfl rfl ?_
        refine WO.gno rfl rfl ?_
        refine WO.gno rfl rfl ?_
        refine WO.pickF rfl rfl ?_
        refine WO.nil ?_
        exact ⟨rfl, rfl, (Cov.any rfl (andF q41) (Cov.skip rfl (Cov.skip rfl (Cov.skip rfl (Cov.skip rfl (Cov.skip rfl (Cov.skip rfl (Cov.skip rfl (Cov.skip rfl (Cov.skip rfl (Cov.skip rfl (Cov.skip rfl (Cov.refl _)))))))))))))⟩
      refine WO.mv rfl ?_
      refine WO.cutB (d := 88) 3 (((((((r1.2 == r27) && (r7.2 == r27)) && (r13.2 == r27)) && (r19.2 == r27)) && (r23.2 == r27)) && ((wrapA .i64 ((wrapA .i64 ((r1.1.length : Int) + (r7.1.length : Int))) + (r13.1.length : Int))) == 0)) && (r19.1 == 0)) (fun q42 => ?_) (fun q42 => ?_) ?_
      · skip
        refine WO.gyes rfl rfl ?_
        refine WO.mv rfl ?_
        refine WO.gyes rfl rfl ?_
        refine WO.bin rfl rfl (by decide) (by decide) rfl ?_
        refine WO.pickT rfl rfl ?_
        refine WO.nil ?_
        exact ⟨rfl, rfl, (Cov.any rfl (andT q42) (Cov.skip rfl (Cov.skip rfl (Cov.skip rfl (Cov.skip rfl (Cov.refl _))))))⟩
      · refine WO.gno rfl rfl ?_
        refine WO.gno rfl rfl ?_
        refine WO.pickF rfl rfl ?_
        refine WO.nil ?_
        exact ⟨rfl, rfl, (Cov.any rfl (andF q42) (Cov.skip rfl (Cov.skip rfl (Cov.skip rfl (Cov.skip rfl (Cov.refl _))))))⟩
      refine WO.mv rfl ?_
      refine WO.cutB (d := 92) 3 ((((((((r1.2 == r27) && (r7.2 == r27)) && (r13.2 == r27)) && (r19.2 == r27)) && (r23.2 == r27)) && ((wrapA .i64 ((wrapA .i64 ((r1.1.length : Int) + (r7.1.length : Int))) + (r13.1.length : Int))) == 0)) && (r19.1 == 0)) && (r23.1 == 0)) (fun q43 => ?_) (fun q43 => ?_) ?_
      · skip
        refine WO.gyes rfl rfl ?_
        refine WO.mv rfl ?_
        refine WO.gyes rfl rfl ?_
        refine WO.bin rfl rfl (by decide) (by decide) rfl ?_
        refine WO.pickT rfl rfl ?_
        refine WO.nil ?_
        exact ⟨rfl, rfl, (Cov.any rfl (andT q43) (Cov.skip rfl (Cov.skip rfl (Cov.skip rfl (Cov.skip rfl (Cov.refl _))))))⟩
      · refine WO.gno rfl rfl ?_
        refine WO.gno rfl rfl ?_
        refine WO.pickF rfl rfl ?_
        refine WO.nil ?_
        exact ⟨rfl, rfl, (Cov.any rfl (andF q43) (Cov.skip rfl (Cov.skip rfl (Cov.skip rfl (Cov.skip rfl (Cov.refl _))))))⟩
      refine WO.asg rfl ?_
      refine WO.nil ?_
      refine thenL_n ?_
      refine WC.ret ?_
      refine thenL_r ?_
      obtain rfl := someI h
      exact ⟨.inr rfl, _, _, rfl, rfl, rfl⟩
    · have h := iteF q36 h
      refine WC.skip ?_
      refine thenL_n ?_
      refine WC.seq ?_
      refine WC.region ?_
      refine WO.asg rfl ?_
      refine WO.nil ?_
      refine thenL_n ?_
      refine WC.seq ?_
      refine WC.seq ?_
      refine WC.region ?_
      refine WO.mv rfl ?_
      obtain ⟨r44, e45, h⟩ := bindS h
      refine WO.callE (S := S33) rfl rfl (F19_ok e45 hot0.vw) (fun S46 c47 => ?_)
      have hot0 := hot0.to c47
      have hot1 := hot1.to c47
      have ho4 := ho4.to c47
      have ho10 := ho10.to c47
      have ho16 := ho16.to c47
      refine WO.bin rfl rfl (by decide) (by decide) rfl ?_
      refine WO.bin rfl rfl (by decide) (by decide) rfl ?_
      refine WO.nil ?_
      refine thenL_n ?_
      obtain ⟨b49, e50, h⟩ := bindS h
      refine WC.mono (Q' := (fun b e l' m' n' => e = .normal ∧ ∃ S51 : Cx n, S51.m = m' ∧ S51.n = n' ∧ Cov l' [(0, .sc vt0), (1, .sc vt1), (5, .sc v3), (6, .sc (.int .i64 r1.2)), (7, .sc v9), (8, .sc (.int .i64 r7.2)), (9, .sc v15), (10, .sc (.int .i64 r13.2)), (11, .sc (.int .i64 r19.1)), (12, .sc (.int .i64 r19.2)), (13, .sc (.int .i64 r23.1)), (14, .sc (.int .i64 r23.2)), (16, .sc (.int .i64 b))] ∧ Rd Y3 S51 vt0 t0 ∧ Rd Y3 S51 vt1 t1 ∧ Ow Y3 S51 2 v3 r1.1 ∧ Ow Y3 S51 3 v9 r7.1 ∧ Ow Y3 S51 4 v15 r13.1) b49) ?_ ?_
      · have h := e50
        dsimp only at h ⊢
        refine WC.cond rfl (fun q48 => ?_) (fun q48 => ?_)
        · have h := iteT q48 h
          refine WC.region ?_
          refine WO.asg rfl ?_
          refine WO.nil ?_
          obtain rfl := someI h
          exact ⟨rfl, ⟨S46, rfl, rfl, (Cov.cons rfl (Cov.cons rfl (Cov.cons rfl (Cov.cons rfl (Cov.cons rfl (Cov.cons rfl (Cov.cons rfl (Cov.cons rfl (Cov.cons rfl (Cov.cons rfl (Cov.cons rfl (Cov.cons rfl (Cov.cons rfl (Cov.nil _)))))))))))))), hot0, hot1, ho4, ho10, ho16⟩⟩
        · have h := iteF q48 h
          refine WC.skip ?_
          obtain rfl := someI h
          exact ⟨rfl, ⟨S46, rfl, rfl, (Cov.cons rfl (Cov.cons rfl (Cov.cons rfl (Cov.cons rfl (Cov.cons rfl (Cov.cons rfl (Cov.cons rfl (Cov.cons rfl (Cov.cons rfl (Cov.cons rfl (Cov.cons rfl (Cov.cons rfl (Cov.cons rfl (Cov.nil _)))))))))))))), hot0, hot1, ho4, ho10, ho16⟩⟩
      dsimp only
      rintro _ _ _ _ ⟨rfl, ⟨S52, rfl, rfl, hc53, hot0, hot1, ho4, ho10, ho16⟩⟩
      refine thenL_n ?_
      refine WC.cov hc53 ?_
      refine WC.seq ?_
      refine WC.seq ?_
      refine WC.region ?_
      refine WO.mv rfl ?_
      refine WO.bin rfl rfl (by decide) (by decide) rfl ?_
      refine WO.mv rfl ?_
      obtain ⟨y59, e60, h⟩ := bindS h
      refine WO.cutS (d := 103) (S := S52) 4 y59 (fun q58 => ?_) (fun q58 => ?_) (fun S61 c62 => ?_)
      · have h := e60
        have h := iteT q58 h
        obtain rfl := someI h
        refine WO.gno rfl rfl ?_
        refine WO.gno rfl rfl ?_
        refine WO.gno rfl rfl ?_
        refine WO.pickT rfl rfl ?_
        refine WO.nil ?_
        exact ⟨S52, rfl, rfl, Ch.refl _ _, (Cov.cons rfl (Cov.skip rfl (Cov.skip rfl (Cov.skip rfl (Cov.skip rfl (Cov.skip rfl (Cov.refl _)))))))⟩
      · have h := e60
        have h := iteF q58 h
        refine WO.gyes rfl rfl ?_
        refine WO.mv rfl ?_
        refine WO.gyes rfl rfl ?_
        obtain ⟨r54, e55, h⟩ := bindS h
        refine WO.callE (S := S52) rfl rfl (F17_ok e55 ho10.vw) (fun S56 c57 => ?_)
        have hot0 := hot0.to c57
        have hot1 := hot1.to c57
        have ho4 := ho4.to c57
        have ho10 := ho10.to c57
        have ho16 := ho16.to c57
        refine WO.gyes rfl rfl ?_
        refine WO.bin rfl rfl (by decide) (by decide) rfl ?_
        obtain rfl := someI h
        refine WO.pickF rfl rfl ?_
        refine WO.nil ?_
        exact ⟨S56, rfl, rfl, c57, (Cov.cons rfl (Cov.skip rfl (Cov.skip rfl (Cov.skip rfl (Cov.skip rfl (Cov.skip rfl (Cov.refl _)))))))⟩
      have hot0 := hot0.to c62
      have hot1 := hot1.to c62
      have ho4 := ho4.to c62
      have ho10 := ho10.to c62
      have ho16 := ho16.to c62
      refine WO.mv rfl ?_
      refine WO.cutB (d := 110) 6 (y59 || ((r7.1.length : Int) != (t0.length : Int))) (fun q63 => ?_) (fun q63 => ?_) ?_
      · refine WO.gno rfl rfl ?_
        refine WO.gno rfl rfl ?_
        refine WO.gno rfl rfl ?_
        refine WO.gno rfl rfl ?_
        refine WO.gno rfl rfl ?_
        refine WO.pickT rfl rfl ?_
        refine WO.nil ?_
        exact ⟨rfl, rfl, (Cov.any rfl (orT q63) (Cov.skip rfl (Cov.skip rfl (Cov.skip rfl (Cov.skip rfl (Cov.skip rfl (Cov.skip rfl (Cov.skip rfl (Cov.refl _)))))))))⟩
      · skip
        refine WO.gyes rfl rfl ?_
        refine WO.mv rfl ?_
        refine WO.gyes rfl rfl ?_
        refine WO.lenS rfl ho10.slv rfl ?_
        refine WO.gyes rfl rfl ?_
        refine WO.mv rfl ?_
        refine WO.gyes rfl rfl ?_
        refine WO.lenS rfl hot0.slv rfl ?_
        refine WO.gyes rfl rfl ?_
        refine WO.bin rfl rfl (by decide) (by decide) rfl ?_
        refine WO.pickF rfl rfl ?_
        refine WO.nil ?_
        exact ⟨rfl, rfl, (Cov.any rfl (orF q63) (Cov.skip rfl (Cov.skip rfl (Cov.skip rfl (Cov.skip rfl (Cov.skip rfl (Cov.skip rfl (Cov.skip rfl (Cov.refl _)))))))))⟩
      refine WO.mv rfl ?_
      obtain ⟨y75, e76, h⟩ := bindS h
      refine WO.cutS (d := 117) (S := S61) 6 y75 (fun q74 => ?_) (fun q74 => ?_) (fun S77 c78 => ?_)
      · have h := e76
        have h := iteT q74 h
        obtain rfl := someI h
        refine WO.gno rfl rfl ?_
        refine WO.gno rfl rfl ?_
        refine WO.gno rfl rfl ?_
        refine WO.gno rfl rfl ?_
        refine WO.gno rfl rfl ?_
        refine WO.pickT rfl rfl ?_
        refine WO.nil ?_
        exact ⟨S61, rfl, rfl, Ch.refl _ _, (Cov.cons rfl (Cov.skip rfl (Cov.skip rfl (Cov.skip rfl (Cov.skip rfl (Cov.skip rfl (Cov.skip rfl (Cov.skip rfl (Cov.refl _)))))))))⟩
      · have h := e76
        have h := iteF q74 h
        refine WO.gyes rfl rfl ?_
        refine WO.mv rfl ?_
        refine WO.gyes rfl rfl ?_
        refine WO.mv rfl ?_
        refine WO.gyes rfl rfl ?_
        obtain ⟨r64, e65, h⟩ := bindS h
        refine WO.callF (S := S61) 1 rfl rfl (F21_ok e65 ho10.vw hot0.vw) Lay.flat_fl (fun v66 S68 c69 ho67 => ?_)
        have hot0 := hot0.to c69
        have hot1 := hot1.to c69
        have ho4 := ho4.to c69
        have ho10 := ho10.to c69
        have ho16 := ho16.to c69
        refine WO.gyes rfl rfl ?_
        obtain ⟨r70, e71, h⟩ := bindS h
        refine WO.callE (S := S68) rfl rfl (F20_ok e71 ho67.vw) (fun S72 c73 => ?_)
        have hot0 := hot0.to c73
        have hot1 := hot1.to c73
        have ho4 := ho4.to c73
        have ho10 := ho10.to c73
        have ho16 := ho16.to c73
        refine WO.gyes rfl rfl ?_
        refine WO.do rfl rfl ?_
        obtain rfl := someI h
        refine WO.pickF rfl rfl ?_
        refine WO.nil ?_
        exact ⟨S72, rfl, rfl, (c69.trans c73), (Cov.cons rfl (Cov.skip rfl (Cov.skip rfl (Cov.skip rfl (Cov.skip rfl (Cov.skip rfl (Cov.skip rfl (Cov.skip rfl (Cov.refl _)))))))))⟩
      have hot0 := hot0.to c78
      have hot1 := hot1.to c78
      have ho4 := ho4.to c78
      have ho10 := ho10.to c78
      have ho16 := ho16.to c78
      refine WO.mv rfl ?_
      refine WO.cutB (d := 121) 3 (y75 || (r13.2 != 0)) (fun q79 => ?_) (fun q79 => ?_) ?_
      · refine WO.gno rfl rfl ?_
        refine WO.gno rfl rfl ?_
        refine WO.pickT rfl rfl ?_
        refine WO.nil ?_
        exact ⟨rfl, rfl, (Cov.any rfl (orT q79) (Cov.skip rfl (Cov.skip rfl (Cov.skip rfl (Cov.skip rfl (Cov.refl _))))))⟩
      · skip
        refine WO.gyes rfl rfl ?_
        refine WO.mv rfl ?_
        refine WO.gyes rfl rfl ?_
        refine WO.bin rfl rfl (by decide) (by decide) rfl ?_
        refine WO.pickF rfl rfl ?_
        refine WO.nil ?_
        exact ⟨rfl, rfl, (Cov.any rfl (orF q79) (Cov.skip rfl (Cov.skip rfl (Cov.skip rfl (Cov.skip rfl (Cov.refl _))))))⟩
      refine WO.mv rfl ?_
      obtain ⟨y91, e92, h⟩ := bindS h
      refine WO.cutS (d := 128) (S := S77) 6 y91 (fun q90 => ?_) (fun q90 => ?_) (fun S93 c94 => ?_)
      · have h := e92
        have h := iteT q90 h
        obtain rfl := someI h
        refine WO.gno rfl rfl ?_
        refine WO.gno rfl rfl ?_
        refine WO.gno rfl rfl ?_
        refine WO.gno rfl rfl ?_
        refine WO.gno rfl rfl ?_
        refine WO.pickT rfl rfl ?_
        refine WO.nil ?_
        exact ⟨S77, rfl, rfl, Ch.refl _ _, (Cov.cons rfl (Cov.skip rfl (Cov.skip rfl (Cov.skip rfl (Cov.skip rfl (Cov.skip rfl (Cov.skip rfl (Cov.skip rfl (Cov.refl _)))))))))⟩
      · have h := e92
        have h := iteF q90 h
        refine WO.gyes rfl rfl ?_
        refine WO.mv rfl ?_
        refine WO.gyes rfl rfl ?_
        refine WO.mv rfl ?_
        refine WO.gyes rfl rfl ?_
        obtain ⟨r80, e81, h⟩ := bindS h
        refine WO.callF (S := S77) 1 rfl rfl (F23_ok e81 hot0.vw) Lay.flat_fl (fun v82 S84 c85 ho83 => ?_)
        have hot0 := hot0.to c85
        have hot1 := hot1.to c85
        have ho4 := ho4.to c85
        have ho10 := ho10.to c85
        have ho16 := ho16.to c85
        refine WO.gyes rfl rfl ?_
        obtain ⟨r86, e87, h⟩ := bindS h
        refine WO.callE (S := S84) rfl rfl (F22_ok e87 ho16.vw ho83.vw) (fun S88 c89 => ?_)
        have hot0 := hot0.to c89
        have hot1 := hot1.to c89
        have ho4 := ho4.to c89
        have ho10 := ho10.to c89
        have ho16 := ho16.to c89
        refine WO.gyes rfl rfl ?_
        refine WO.do rfl rfl ?_
        obtain rfl := someI h
        refine WO.pickF rfl rfl ?_
        refine WO.nil ?_
        exact ⟨S88, rfl, rfl, (c85.trans c89), (Cov.cons rfl (Cov.skip rfl (Cov.skip rfl (Cov.skip rfl (Cov.skip rfl (Cov.skip rfl (Cov.skip rfl (Cov.skip rfl (Cov.refl _)))))))))⟩
      have hot0 := hot0.to c94
      have hot1 := hot1.to c94
      have ho4 := ho4.to c94
      have ho10 := ho10.to c94
      have ho16 := ho16.to c94
      refine WO.mv rfl ?_
      refine WO.cutB (d := 132) 3 (y91 || (r19.2 != 0)) (fun q95 => ?_) (fun q95 => ?_) ?_
      · refine WO.gno rfl rfl ?_
        refine WO.gno rfl rfl ?_
        refine WO.pickT rfl rfl ?_
        refine WO.nil ?_
        exact ⟨rfl, rfl, (Cov.any rfl (orT q95) (Cov.skip rfl (Cov.skip rfl (Cov.skip rfl (Cov.skip rfl (Cov.refl _))))))⟩
      · skip
        refine WO.gyes rfl rfl ?_
        refine WO.mv rfl ?_
        refine WO.gyes rfl rfl ?_
        refine WO.bin rfl rfl (by decide) (by decide) rfl ?_
        refine WO.pickF rfl rfl ?_
        refine WO.nil ?_
        exact ⟨rfl, rfl, (Cov.any rfl (orF q95) (Cov.skip rfl (Cov.skip rfl (Cov.skip rfl (Cov.skip rfl (Cov.refl _))))))⟩
      refine WO.mv rfl ?_
      refine WO.cutB (d := 137) 4 ((y91 || (r19.2 != 0)) || (r19.1 != b49)) (fun q96 => ?_) (fun q96 => ?_) ?_
      · refine WO.gno rfl rfl ?_
        refine WO.gno rfl rfl ?_
        refine WO.gno rfl rfl ?_
        refine WO.pickT rfl rfl ?_
        refine WO.nil ?_
        exact ⟨rfl, rfl, (Cov.any rfl (orT q96) (Cov.skip rfl (Cov.skip rfl (Cov.skip rfl (Cov.skip rfl (Cov.skip rfl (Cov.refl _)))))))⟩
      · skip
        refine WO.gyes rfl rfl ?_
        refine WO.mv rfl ?_
        refine WO.gyes rfl rfl ?_
        refine WO.mv rfl ?_
        refine WO.gyes rfl rfl ?_
        refine WO.bin rfl rfl (by decide) (by decide) rfl ?_
        refine WO.pickF rfl rfl ?_
        refine WO.nil ?_
        exact ⟨rfl, rfl, (Cov.any rfl (orF q96) (Cov.skip rfl (Cov.skip rfl (Cov.skip rfl (Cov.skip rfl (Cov.skip rfl (Cov.refl _)))))))⟩
      refine WO.mv rfl ?_
      refine WO.cutB (d := 141) 3 (((y91 || (r19.2 != 0)) || (r19.1 != b49)) || (r23.2 != 0)) (fun q97 => ?_) (fun q97 => ?_) ?_
      · refine WO.gno rfl rfl ?_
        refine WO.gno rfl rfl ?_
        refine WO.pickT rfl rfl ?_
        refine WO.nil ?_
        exact ⟨rfl, rfl, (Cov.any rfl (orT q97) (Cov.skip rfl (Cov.skip rfl (Cov.skip rfl (Cov.skip rfl (Cov.refl _))))))⟩
      · skip
        refine WO.gyes rfl rfl ?_
        refine WO.mv rfl ?_
        refine WO.gyes rfl rfl ?_
        refine WO.bin rfl rfl (by decide) (by decide) rfl ?_
        refine WO.pickF rfl rfl ?_
        refine WO.nil ?_
        exact ⟨rfl, rfl, (Cov.any rfl (orF q97) (Cov.skip rfl (Cov.skip rfl (Cov.skip rfl (Cov.skip rfl (Cov.refl _))))))⟩
      refine WO.mv rfl ?_
      obtain ⟨y103, e104, h⟩ := bindS h
      refine WO.cutS (d := 147) (S := S93) 5 y103 (fun q102 => ?_) (fun q102 => ?_) (fun S105 c106 => ?_)
      · have h := e104
        have h := iteT q102 h
        obtain rfl := someI h
        refine WO.gno rfl rfl ?_
        refine WO.gno rfl rfl ?_
        refine WO.gno rfl rfl ?_
        refine WO.gno rfl rfl ?_
        refine WO.pickT rfl rfl ?_
        refine WO.nil ?_
        exact ⟨S93, rfl, rfl, Ch.refl _ _, (Cov.cons rfl (Cov.skip rfl (Cov.skip rfl (Cov.skip rfl (Cov.skip rfl (Cov.skip rfl (Cov.skip rfl (Cov.refl _))))))))⟩
      · have h := e104
        have h := iteF q102 h
        refine WO.gyes rfl rfl ?_
        refine WO.mv rfl ?_
        refine WO.gyes rfl rfl ?_
        refine WO.mv rfl ?_
        refine WO.gyes rfl rfl ?_
        obtain ⟨r98, e99, h⟩ := bindS h
        refine WO.callE (S := S93) rfl rfl (F24_ok e99 hot0.vw) (fun S100 c101 => ?_)
        have hot0 := hot0.to c101
        have hot1 := hot1.to c101
        have ho4 := ho4.to c101
        have ho10 := ho10.to c101
        have ho16 := ho16.to c101
        refine WO.gyes rfl rfl ?_
        refine WO.bin rfl rfl (by decide) (by decide) rfl ?_
        obtain rfl := someI h
        refine WO.pickF rfl rfl ?_
        refine WO.nil ?_
        exact ⟨S100, rfl, rfl, c101, (Cov.cons rfl (Cov.skip rfl (Cov.skip rfl (Cov.skip rfl (Cov.skip rfl (Cov.skip rfl (Cov.skip rfl (Cov.refl _))))))))⟩
      have hot0 := hot0.to c106
      have hot1 := hot1.to c106
      have ho4 := ho4.to c106
      have ho10 := ho10.to c106
      have ho16 := ho16.to c106
      refine WO.nil ?_
      refine thenL_n ?_
      refine WC.cond rfl (fun q107 => ?_) (fun q107 => ?_)
      · have h := iteT q107 h
        refine WC.seq ?_
        refine WC.region ?_
        refine WO.asg rfl ?_
        refine WO.nil ?_
        refine thenL_n ?_
        refine WC.ret ?_
        refine thenL_r ?_
        obtain rfl := someI h
        exact ⟨.inr rfl, _, _, rfl, rfl, rfl⟩
      · have h := iteF q107 h
        refine WC.skip ?_
        refine thenL_n ?_
        refine WC.seq ?_
        refine WC.seq ?_
        refine WC.region ?_
        refine WO.mv rfl ?_
        obtain ⟨r108, e109, h⟩ := bindS h
        refine WO.callE (S := S105) rfl rfl (F17_ok e109 hot1.vw) (fun S110 c111 => ?_)
        have hot0 := hot0.to c111
        have hot1 := hot1.to c111
        have ho4 := ho4.to c111
        have ho10 := ho10.to c111
        have ho16 := ho16.to c111
        refine WO.asg rfl ?_
        refine WO.nil ?_
        refine thenL_n ?_
        refine WC.seq ?_
        refine WC.region ?_
        refine WO.mv rfl ?_
        refine WO.bin rfl rfl (by decide) (by decide) rfl ?_
        refine WO.mv rfl ?_
        refine WO.cutB (d := 158) 6 ((r108 == 0) && ((t0.length : Int) != (t1.length : Int))) (fun q112 => ?_) (fun q112 => ?_) ?_
        · skip
          refine WO.gyes rfl rfl ?_
          refine WO.mv rfl ?_
          refine WO.gyes rfl rfl ?_
          refine WO.lenS rfl hot0.slv rfl ?_
          refine WO.gyes rfl rfl ?_
          refine WO.mv rfl ?_
          refine WO.gyes rfl rfl ?_
          refine WO.lenS rfl hot1.slv rfl ?_
          refine WO.gyes rfl rfl ?_
          refine WO.bin rfl rfl (by decide) (by decide) rfl ?_
          refine WO.pickT rfl rfl ?_
          refine WO.nil ?_
          exact ⟨rfl, rfl, (Cov.any rfl (andT q112) (Cov.skip rfl (Cov.skip rfl (Cov.skip rfl (Cov.skip rfl (Cov.skip rfl (Cov.skip rfl (Cov.skip rfl (Cov.refl _)))))))))⟩
        · refine WO.gno rfl rfl ?_
          refine WO.gno rfl rfl ?_
          refine WO.gno rfl rfl ?_
          refine WO.gno rfl rfl ?_
          refine WO.gno rfl rfl ?_
          refine WO.pickF rfl rfl ?_
          refine WO.nil ?_
          exact ⟨rfl, rfl, (Cov.any rfl (andF q112) (Cov.skip rfl (Cov.skip rfl (Cov.skip rfl (Cov.skip rfl (Cov.skip rfl (Cov.skip rfl (Cov.skip rfl (Cov.refl _)))))))))⟩
        refine WO.nil ?_
        refine thenL_n ?_
        obtain ⟨b114, e115, h⟩ := bindS h
        refine WC.mono (Q' := (fun b e l' m' n' => e = .normal ∧ ∃ S116 : Cx n, S116.m = m' ∧ S116.n = n' ∧ Cov l' [(0, .sc vt0), (1, .sc vt1), (5, .sc v3), (6, .sc (.int .i64 r1.2)), (15, .sc (.int .i64 b))] ∧ Rd Y3 S116 vt0 t0 ∧ Rd Y3 S116 vt1 t1 ∧ Ow Y3 S116 2 v3 r1.1) b114) ?_ ?_
        · have h := e115
          dsimp only at h ⊢
          refine WC.cond rfl (fun q113 => ?_) (fun q113 => ?_)
          · have h := iteT q113 h
            refine WC.region ?_
            refine WO.asg rfl ?_
            refine WO.nil ?_
            obtain rfl := someI h
            exact ⟨rfl, ⟨S110, rfl, rfl, (Cov.cons rfl (Cov.cons rfl (Cov.cons rfl (Cov.cons rfl (Cov.cons rfl (Cov.nil _)))))), hot0, hot1, ho4⟩⟩
          · have h := iteF q113 h
            refine WC.skip ?_
            obtain rfl := someI h
            exact ⟨rfl, ⟨S110, rfl, rfl, (Cov.cons rfl (Cov.cons rfl (Cov.cons rfl (Cov.cons rfl (Cov.cons rfl (Cov.nil _)))))), hot0, hot1, ho4⟩⟩
        dsimp only
        rintro _ _ _ _ ⟨rfl, ⟨S117, rfl, rfl, hc118, hot0, hot1, ho4⟩⟩
        refine thenL_n ?_
        refine WC.cov hc118 ?_
        refine WC.seq ?_
        refine WC.seq ?_
        refine WC.region ?_
        refine WO.mv rfl ?_
        refine WO.bin rfl rfl (by decide) (by decide) rfl ?_
        refine WO.nil ?_
        refine thenL_n ?_
        refine WC.cond rfl (fun q119 => ?_) (fun q119 => ?_)
        · have h := iteT q119 h
          refine WC.seq ?_
          refine WC.region ?_
          refine WO.mv rfl ?_
          refine WO.mv rfl ?_
          refine WO.bin rfl rfl (by decide) (by decide) rfl ?_
          refine WO.mv rfl ?_
          refine WO.cutB (d := 168) 4 ((r1.2 == b114) && ((r1.1.length : Int) == 0)) (fun q120 => ?_) (fun q120 => ?_) ?_
          · skip
            refine WO.gyes rfl rfl ?_
            refine WO.mv rfl ?_
            refine WO.gyes rfl rfl ?_
            refine WO.lenS rfl ho4.slv rfl ?_
            refine WO.gyes rfl rfl ?_
            refine WO.bin rfl rfl (by decide) (by decide) rfl ?_
            refine WO.pickT rfl rfl ?_
            refine WO.nil ?_
            exact ⟨rfl, rfl, (Cov.any rfl (andT q120) (Cov.skip rfl (Cov.skip rfl (Cov.skip rfl (Cov.skip rfl (Cov.skip rfl (Cov.refl _)))))))⟩
          · refine WO.gno rfl rfl ?_
            refine WO.gno rfl rfl ?_
            refine WO.gno rfl rfl ?_
            refine WO.pickF rfl rfl ?_
            refine WO.nil ?_
            exact ⟨rfl, rfl, (Cov.any rfl (andF q120) (Cov.skip rfl (Cov.skip rfl (Cov.skip rfl (Cov.skip rfl (Cov.skip rfl (Cov.refl _)))))))⟩
          refine WO.asg rfl ?_
          refine WO.nil ?_
          refine thenL_n ?_
          refine WC.ret ?_
          refine thenL_r ?_
          obtain rfl := someI h
          exact ⟨.inr rfl, _, _, rfl, rfl, rfl⟩
        · have h := iteF q119 h
          refine WC.skip ?_
          refine thenL_n ?_
          refine WC.seq ?_
          refine WC.region ?_
          refine WO.mv rfl ?_
          refine WO.bin rfl rfl (by decide) (by decide) rfl ?_
          refine WO.mv rfl ?_
          obtain ⟨y132, e133, h⟩ := bindS h
          refine WO.cutS (d := 177) (S := S117) 6 y132 (fun q131 => ?_) (fun q131 => ?_) (fun S134 c135 => ?_)
          · have h := e133
            have h := iteT q131 h
            refine WO.gyes rfl rfl ?_
            refine WO.mv rfl ?_
            refine WO.gyes rfl rfl ?_
            refine WO.mv rfl ?_
            refine WO.gyes rfl rfl ?_
            refine WO.mv rfl ?_
            refine WO.gyes rfl rfl ?_
            obtain ⟨r121, e122, h⟩ := bindS h
            refine WO.callF (S := S117) 1 rfl rfl (F21_ok e122 hot0.vw hot1.vw) Lay.flat_fl (fun v123 S125 c126 ho124 => ?_)
            have hot0 := hot0.to c126
            have hot1 := hot1.to c126
            have ho4 := ho4.to c126
            refine WO.gyes rfl rfl ?_
            obtain ⟨r127, e128, h⟩ := bindS h
            refine WO.callE (S := S125) rfl rfl (F22_ok e128 ho4.vw ho124.vw) (fun S129 c130 => ?_)
            have hot0 := hot0.to c130
            have hot1 := hot1.to c130
            have ho4 := ho4.to c130
            obtain rfl := someI h
            refine WO.pickT rfl rfl ?_
            refine WO.nil ?_
            exact ⟨S129, rfl, rfl, (c126.trans c130), (Cov.cons rfl (Cov.skip rfl (Cov.skip rfl (Cov.skip rfl (Cov.skip rfl (Cov.skip rfl (Cov.skip rfl (Cov.skip rfl (Cov.refl _)))))))))⟩
          · have h := e133
            have h := iteF q131 h
            obtain rfl := someI h
            refine WO.gno rfl rfl ?_
            refine WO.gno rfl rfl ?_
            refine WO.gno rfl rfl ?_
            refine WO.gno rfl rfl ?_
            refine WO.gno rfl rfl ?_
            refine WO.pickF rfl rfl ?_
            refine WO.nil ?_
            exact ⟨S117, rfl, rfl, Ch.refl _ _, (Cov.cons rfl (Cov.skip rfl (Cov.skip rfl (Cov.skip rfl (Cov.skip rfl (Cov.skip rfl (Cov.skip rfl (Cov.skip rfl (Cov.refl _)))))))))⟩
          have hot0 := hot0.to c135
          have hot1 := hot1.to c135
          have ho4 := ho4.to c135
          refine WO.asg rfl ?_
          refine WO.nil ?_
          refine thenL_n ?_
          refine WC.ret ?_
          obtain rfl := someI h
          exact ⟨.inr rfl, _, _, rfl, rfl, rfl⟩
end Go.Proofs.Ytdfalejlhkalhaa

/- The machine answers F4: printed by a program of ours (gen.py). -/
import Derived.Test.YtihmliblbhjlaaaDef
import Derived.Test.YtihmliblbhjlaaaEnv
import Derived.Test.YtihmliblbhjlaaaF22
import Derived.Test.YtihmliblbhjlaaaF23
import Derived.Test.YtihmliblbhjlaaaF24
import Derived.Test.YtihmliblbhjlaaaF25
import Derived.Test.YtihmliblbhjlaaaF26
set_option linter.unusedVariables false
namespace Go.Proofs.Ytihmliblbhjlaaa
open Go.Am
theorem F4.fn : E.fn 4 = some ⟨71, (Try.f4.body.getD .skip), Try.f4.results.toList, []⟩ := rfl
theorem F4_ok {F : Nat} {m : Mem} {n : Nat} {r : Bool} {t0 : List (Int × Int × Bool × Bool)} {t1 : List (Int × Int × Int)} {t2 : Int} {vt0 : SV} {vt1 : SV} (h : F4 F t0 t1 t2 = some r) (kt0 : Vw Y115 n m vt0 t0) (kt1 : Vw Y119 n m vt1 t1) : Ret E n 4 [.sc vt0, .sc vt1, .sc (.int .i64 t2)] m n (fun v m' n' => v = .sc (.bool r)) := by
  unfold F4 at h
  refine Ret.walk F4.fn ?_
  refine WC.start fun S0 em en hz => ?_
  have hot0 := kt0.rdS em hz
  have hot1 := kt1.rdS em hz
  refine WC.seq ?_
  refine WC.region ?_
  refine WO.asg rfl ?_
  refine WO.nil ?_
  refine thenL_n ?_
  refine WC.seq ?_
  refine WC.region ?_
  refine WO.mv rfl ?_
  refine WO.mv rfl ?_
  refine WO.mv rfl ?_
  obtain ⟨r1, e2, h⟩ := bindS h
  refine WO.callG (S := S0) [] [(902, 2), (904, 3)] rfl rfl (F22_ok (S0 := S0.mp []) e2 hot0.mp hot1.mp) (fun _ S7 S8 hb hR => ?_)
  obtain ⟨v3, v5, rfl, hR0, hR1⟩ := hR
  have c9 : Ch 1 S0 S8 := hb.ch [] 1
  have hot0 := hot0.to c9
  have hot1 := hot1.to c9
  have ho4 := hR0.bkF hb rfl Lay.flat_fl
  have ho6 := hR1.bkF hb rfl Lay.flat_fl
  refine WO.mv rfl ?_
  refine WO.do rfl rfl ?_
  refine WO.do rfl rfl ?_
  refine WO.do rfl rfl ?_
  refine WO.asg rfl ?_
  refine WO.asg rfl ?_
  refine WO.asg rfl ?_
  refine WO.nil ?_
  refine thenL_n ?_
  refine WC.seq ?_
  refine WC.region ?_
  refine WO.mv rfl ?_
  refine WO.mv rfl ?_
  obtain ⟨r10, e11, h⟩ := bindS h
  refine WO.callE (S := S8) rfl rfl (F23_ok e11 hot0.vw hot1.vw) (fun S12 c13 => ?_)
  have hot0 := hot0.to c13
  have hot1 := hot1.to c13
  have ho4 := ho4.to c13
  have ho6 := ho6.to c13
  refine WO.asg rfl ?_
  refine WO.nil ?_
  refine thenL_n ?_
  refine WC.seq ?_
  refine WC.seq ?_
  refine WC.region ?_
  refine WO.mv rfl ?_
  refine WO.mv rfl ?_
  obtain ⟨r14, e15, h⟩ := bindS h
  refine WO.callE (S := S12) rfl rfl (F24_ok e15 hot0.vw hot1.vw) (fun S16 c17 => ?_)
  have hot0 := hot0.to c17
  have hot1 := hot1.to c17
  have ho4 := ho4.to c17
  have ho6 := ho6.to c17
  refine WO.mv rfl ?_
  refine WO.bin rfl rfl (by decide) (by decide) rfl ?_
  refine WO.nil ?_
  refine thenL_n ?_
  refine WC.cond rfl (fun q18 => ?_) (fun q18 => ?_)
  · have h := iteT q18 h
    refine WC.seq ?_
    refine WC.region ?_
    refine WO.asg rfl ?_
    refine WO.nil ?_
    refine thenL_n ?_
    refine WC.ret ?_
    refine thenL_r ?_
    obtain rfl := someI h
    exact ⟨.inr rfl, _, _, rfl, rfl, rfl⟩
  · have h := iteF q18 h
    refine WC.skip ?_
    refine thenL_n ?_
    refine WC.seq ?_
    refine WC.seq ?_
    refine WC.region ?_
    refine WO.mv rfl ?_
    refine WO.bin rfl rfl (by decide) (by decide) rfl ?_
    refine WO.mv rfl ?_
    refine WO.cutB (d := 38) 7 ((r10 == 0) && ((decide (t2 < 0)) || (decide (t2 > 200)))) (fun q20 => ?_) (fun q20 => ?_) ?_
    · skip
      refine WO.gyes rfl rfl ?_
      refine WO.mv rfl ?_
      refine WO.gyes rfl rfl ?_
      refine WO.bin rfl rfl (by decide) (by decide) rfl ?_
      refine WO.gyes rfl rfl ?_
      refine WO.mv rfl ?_
      refine WO.cutB (d := 37) 3 ((decide (t2 < 0)) || (decide (t2 > 200))) (fun q19 => ?_) (fun q19 => ?_) ?_
      · refine WO.gno rfl rfl ?_
        refine WO.gno rfl rfl ?_
        refine WO.gyes rfl rfl ?_
        refine WO.pickT rfl rfl ?_
        refine WO.nil ?_
        exact ⟨rfl, rfl, (Cov.any rfl (orT q19) (Cov.skip rfl (Cov.skip rfl (Cov.skip rfl (Cov.skip rfl (Cov.refl _))))))⟩
      · skip
        refine WO.gyes rfl rfl ?_
        refine WO.mv rfl ?_
        refine WO.gyes rfl rfl ?_
        refine WO.bin rfl rfl (by decide) (by decide) rfl ?_
        refine WO.gyes rfl rfl ?_
        refine WO.pickF rfl rfl ?_
        refine WO.nil ?_
        exact ⟨rfl, rfl, (Cov.any rfl (orF q19) (Cov.skip rfl (Cov.skip rfl (Cov.skip rfl (Cov.skip rfl (Cov.refl _))))))⟩
      refine WO.pickT rfl rfl ?_
      refine WO.nil ?_
      exact ⟨rfl, rfl, (Cov.any rfl (andT q20) (Cov.skip rfl (Cov.skip rfl (Cov.skip rfl (Cov.skip rfl (Cov.skip rfl (Cov.refl _)))))))⟩
    · refine WO.gno rfl rfl ?_
      refine WO.gno rfl rfl ?_
      refine WO.gno rfl rfl ?_
      refine WO.gskip rfl rfl ?_
      refine WO.gskip rfl rfl ?_
      refine WO.gno rfl rfl ?_
      refine WO.pickF rfl rfl ?_
      refine WO.nil ?_
      exact ⟨rfl, rfl, (Cov.any rfl (andF q20) (Cov.skip rfl (Cov.skip rfl (Cov.skip rfl (Cov.skip rfl (Cov.skip rfl (Cov.skip rfl (Cov.skip rfl (Cov.skip rfl (Cov.refl _))))))))))⟩
    refine WO.nil ?_
    refine thenL_n ?_
    obtain ⟨b22, e23, h⟩ := bindS h
    refine WC.mono (Q' := (fun b e l' m' n' => e = .normal ∧ ∃ S24 : Cx n, S24.m = m' ∧ S24.n = n' ∧ Cov l' [(0, .sc vt0), (1, .sc vt1), (2, .sc (.int .i64 t2)), (7, .sc v3), (8, .sc v5), (9, .sc (.int .i64 r1.2.2)), (10, .sc (.int .i64 b))] ∧ Rd Y115 S24 vt0 t0 ∧ Rd Y119 S24 vt1 t1 ∧ Ow Y3 S24 2 v3 r1.1 ∧ Ow Y3 S24 3 v5 r1.2.1) b22) ?_ ?_
    · have h := e23
      dsimp only at h ⊢
      refine WC.cond rfl (fun q21 => ?_) (fun q21 => ?_)
      · have h := iteT q21 h
        refine WC.region ?_
        refine WO.asg rfl ?_
        refine WO.nil ?_
        obtain rfl := someI h
        exact ⟨rfl, ⟨S16, rfl, rfl, (Cov.cons rfl (Cov.cons rfl (Cov.cons rfl (Cov.cons rfl (Cov.cons rfl (Cov.cons rfl (Cov.cons rfl (Cov.nil _)))))))), hot0, hot1, ho4, ho6⟩⟩
      · have h := iteF q21 h
        refine WC.skip ?_
        obtain rfl := someI h
        exact ⟨rfl, ⟨S16, rfl, rfl, (Cov.cons rfl (Cov.cons rfl (Cov.cons rfl (Cov.cons rfl (Cov.cons rfl (Cov.cons rfl (Cov.cons rfl (Cov.nil _)))))))), hot0, hot1, ho4, ho6⟩⟩
    dsimp only
    rintro _ _ _ _ ⟨rfl, ⟨S25, rfl, rfl, hc26, hot0, hot1, ho4, ho6⟩⟩
    refine thenL_n ?_
    refine WC.cov hc26 ?_
    refine WC.seq ?_
    refine WC.seq ?_
    refine WC.region ?_
    refine WO.mv rfl ?_
    refine WO.bin rfl rfl (by decide) (by decide) rfl ?_
    refine WO.nil ?_
    refine thenL_n ?_
    refine WC.cond rfl (fun q27 => ?_) (fun q27 => ?_)
    · have h := iteT q27 h
      refine WC.seq ?_
      refine WC.region ?_
      refine WO.mv rfl ?_
      refine WO.mv rfl ?_
      refine WO.bin rfl rfl (by decide) (by decide) rfl ?_
      refine WO.mv rfl ?_
      refine WO.cutB (d := 51) 7 ((r1.2.2 == b22) && ((wrapA .i64 ((r1.1.length : Int) + (r1.2.1.length : Int))) == 0)) (fun q28 => ?_) (fun q28 => ?_) ?_
      · skip
        refine WO.gyes rfl rfl ?_
        refine WO.mv rfl ?_
        refine WO.gyes rfl rfl ?_
        refine WO.lenS rfl ho4.slv rfl ?_
        refine WO.gyes rfl rfl ?_
        refine WO.mv rfl ?_
        refine WO.gyes rfl rfl ?_
        refine WO.lenS rfl ho6.slv rfl ?_
        refine WO.gyes rfl rfl ?_
        refine WO.bin rfl rfl (by decide) (by decide) rfl ?_
        refine WO.gyes rfl rfl ?_
        refine WO.bin rfl rfl (by decide) (by decide) rfl ?_
        refine WO.pickT rfl rfl ?_
        refine WO.nil ?_
        exact ⟨rfl, rfl, (Cov.any rfl (andT q28) (Cov.skip rfl (Cov.skip rfl (Cov.skip rfl (Cov.skip rfl (Cov.skip rfl (Cov.skip rfl (Cov.skip rfl (Cov.skip rfl (Cov.refl _))))))))))⟩
      · refine WO.gno rfl rfl ?_
        refine WO.gno rfl rfl ?_
        refine WO.gno rfl rfl ?_
        refine WO.gno rfl rfl ?_
        refine WO.gno rfl rfl ?_
        refine WO.gno rfl rfl ?_
        refine WO.pickF rfl rfl ?_
        refine WO.nil ?_
        exact ⟨rfl, rfl, (Cov.any rfl (andF q28) (Cov.skip rfl (Cov.skip rfl (Cov.skip rfl (Cov.skip rfl (Cov.skip rfl (Cov.skip rfl (Cov.skip rfl (Cov.skip rfl (Cov.refl _))))))))))⟩
      refine WO.asg rfl ?_
      refine WO.nil ?_
      refine thenL_n ?_
      refine WC.ret ?_
      refine thenL_r ?_
      obtain rfl := someI h
      exact ⟨.inr rfl, _, _, rfl, rfl, rfl⟩
    · have h := iteF q27 h
      refine WC.skip ?_
      refine thenL_n ?_
      refine WC.seq ?_
      refine WC.region ?_
      refine WO.mv rfl ?_
      refine WO.mv rfl ?_
      refine WO.mv rfl ?_
      obtain ⟨r29, e30, h⟩ := bindS h
      refine WO.callG (S := S25) [] [(902, 4), (904, 5)] rfl rfl (F25_ok (S0 := S25.mp []) e30 hot0.mp hot1.mp) (fun _ S35 S36 hb hR => ?_)
      obtain ⟨v31, v33, rfl, hR0, hR1⟩ := hR
      have c37 : Ch 1 S25 S36 := hb.ch [] 1
      have hot0 := hot0.to c37
      have hot1 := hot1.to c37
      have ho4 := ho4.to c37
      have ho6 := ho6.to c37
      have ho32 := hR0.bkF hb rfl Lay.flat_fl
      have ho34 := hR1.bkF hb rfl Lay.flat_fl
      refine WO.mv rfl ?_
      refine WO.do rfl rfl ?_
      refine WO.do rfl rfl ?_
      refine WO.asg rfl ?_
      refine WO.asg rfl ?_
      refine WO.nil ?_
      refine thenL_n ?_
      refine WC.seq ?_
      refine WC.region ?_
      refine WO.mv rfl ?_
      refine WO.bin rfl rfl (by decide) (by decide) rfl ?_
      refine WO.mv rfl ?_
      obtain ⟨y43, e44, h⟩ := bindS h
      refine WO.cutS (d := 65) (S := S36) 4 y43 (fun q42 => ?_) (fun q42 => ?_) (fun S45 c46 => ?_)
      · have h := e44
        have h := iteT q42 h
        refine WO.gyes rfl rfl ?_
        refine WO.mv rfl ?_
        refine WO.gyes rfl rfl ?_
        refine WO.mv rfl ?_
        refine WO.gyes rfl rfl ?_
        obtain ⟨r38, e39, h⟩ := bindS h
        refine WO.callE (S := S36) rfl rfl (F26_ok e39 ho4.vw ho32.vw) (fun S40 c41 => ?_)
        have hot0 := hot0.to c41
        have hot1 := hot1.to c41
        have ho4 := ho4.to c41
        have ho6 := ho6.to c41
        have ho32 := ho32.to c41
        have ho34 := ho34.to c41
        obtain rfl := someI h
        refine WO.pickT rfl rfl ?_
        refine WO.nil ?_
        exact ⟨S40, rfl, rfl, c41, (Cov.cons rfl (Cov.skip rfl (Cov.skip rfl (Cov.skip rfl (Cov.skip rfl (Cov.skip rfl (Cov.refl _)))))))⟩
      · have h := e44
        have h := iteF q42 h
        obtain rfl := someI h
        refine WO.gno rfl rfl ?_
        refine WO.gno rfl rfl ?_
        refine WO.gno rfl rfl ?_
        refine WO.pickF rfl rfl ?_
        refine WO.nil ?_
        exact ⟨S36, rfl, rfl, Ch.refl _ _, (Cov.cons rfl (Cov.skip rfl (Cov.skip rfl (Cov.skip rfl (Cov.skip rfl (Cov.skip rfl (Cov.refl _)))))))⟩
      have hot0 := hot0.to c46
      have hot1 := hot1.to c46
      have ho4 := ho4.to c46
      have ho6 := ho6.to c46
      have ho32 := ho32.to c46
      have ho34 := ho34.to c46
      refine WO.mv rfl ?_
      obtain ⟨y52, e53, h⟩ := bindS h
      refine WO.cutS (d := 70) (S := S45) 4 y52 (fun q51 => ?_) (fun q51 => ?_) (fun S54 c55 => ?_)
      · have h := e53
        have h := iteT q51 h
        refine WO.gyes rfl rfl ?_
        refine WO.mv rfl ?_
        refine WO.gyes rfl rfl ?_
        refine WO.mv rfl ?_
        refine WO.gyes rfl rfl ?_
        obtain ⟨r47, e48, h⟩ := bindS h
        refine WO.callE (S := S45) rfl rfl (F26_ok e48 ho6.vw ho34.vw) (fun S49 c50 => ?_)
        have hot0 := hot0.to c50
        have hot1 := hot1.to c50
        have ho4 := ho4.to c50
        have ho6 := ho6.to c50
        have ho32 := ho32.to c50
        have ho34 := ho34.to c50
        obtain rfl := someI h
        refine WO.pickT rfl rfl ?_
        refine WO.nil ?_
        exact ⟨S49, rfl, rfl, c50, (Cov.cons rfl (Cov.skip rfl (Cov.skip rfl (Cov.skip rfl (Cov.skip rfl (Cov.skip rfl (Cov.refl _)))))))⟩
      · have h := e53
        have h := iteF q51 h
        obtain rfl := someI h
        refine WO.gno rfl rfl ?_
        refine WO.gno rfl rfl ?_
        refine WO.gno rfl rfl ?_
        refine WO.pickF rfl rfl ?_
        refine WO.nil ?_
        exact ⟨S45, rfl, rfl, Ch.refl _ _, (Cov.cons rfl (Cov.skip rfl (Cov.skip rfl (Cov.skip rfl (Cov.skip rfl (Cov.skip rfl (Cov.refl _)))))))⟩
      have hot0 := hot0.to c55
      have hot1 := hot1.to c55
      have ho4 := ho4.to c55
      have ho6 := ho6.to c55
      have ho32 := ho32.to c55
      have ho34 := ho34.to c55
      refine WO.asg rfl ?_
      refine WO.nil ?_
      refine thenL_n ?_
      refine WC.ret ?_
      obtain rfl := someI h
      exact ⟨.inr rfl, _, _, rfl, rfl, rfl⟩
end Go.Proofs.Ytihmliblbhjlaaa

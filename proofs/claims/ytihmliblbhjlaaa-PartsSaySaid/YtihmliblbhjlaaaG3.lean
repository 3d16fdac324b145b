/- The machine answers the functions' texts: printed by a program of ours (gen.py). -/
import Derived.Test.YtihmliblbhjlaaaG2
set_option linter.unusedVariables false
namespace Go.Proofs.Ytihmliblbhjlaaa
open Go.Am
theorem F6.fn : E.fn 6 = some ⟨147, (Try.f6.body.getD .skip), Try.f6.results.toList, []⟩ := rfl
theorem F6_ok {F : Nat} {m : Mem} {n : Nat} {r : Bool} {t0 : List Int} {t1 : Int} {t2 : Int} {vt0 : SV} (h : F6 F t0 t1 t2 = some r) (kt0 : Vw Y3 n m vt0 t0) : Ret E n 6 [.sc vt0, .sc (.int .i64 t1), .sc (.int .i64 t2)] m n (fun v m' n' => v = .sc (.bool r)) := by
  unfold F6 at h
  refine Ret.walk F6.fn ?_
  refine WC.start fun S0 em en hz => ?_
  have hot0 := kt0.rdS em hz
  refine WC.seq (WC.region (WO.asg rfl (WO.nil (thenL_n (WC.seq (WC.region (WO.mv rfl (WO.mv rfl ?_))))))))
  obtain ⟨r1, e2, h⟩ := bindS h
  refine WO.callE (S := S0) rfl rfl (F36_ok e2) (fun S3 c4 => ?_)
  have hot0 := hot0.to c4
  refine WO.mv rfl ?_
  refine WO.do rfl rfl ?_
  refine WO.do rfl rfl ?_
  refine WO.asg rfl (WO.asg rfl (WO.nil (thenL_n (WC.seq (WC.region (WO.mv rfl ?_))))))
  obtain ⟨r5, e6, h⟩ := bindS h
  refine WO.callF (S := S3) 2 rfl rfl (F37_ok e6 hot0.vw) Lay.flat_fl (fun v7 S9 c10 ho8 => ?_)
  have hot0 := hot0.to c10
  refine WO.mv rfl ?_
  refine WO.do rfl rfl ?_
  refine WO.do rfl rfl ?_
  refine WO.asg rfl (WO.asg rfl (WO.nil (thenL_n (WC.seq (WC.region (WO.mv rfl ?_))))))
  obtain ⟨r11, e12, h⟩ := bindS h
  refine WO.callF (S := S9) 3 rfl rfl (F38_ok e12 hot0.vw) Lay.flat_fl (fun v13 S15 c16 ho14 => ?_)
  have hot0 := hot0.to c16
  have ho8 := ho8.to c16
  refine WO.mv rfl ?_
  refine WO.do rfl rfl ?_
  refine WO.do rfl rfl ?_
  refine WO.asg rfl (WO.asg rfl (WO.nil (thenL_n (WC.seq (WC.region (WO.mv rfl ?_))))))
  obtain ⟨r17, e18, h⟩ := bindS h
  refine WO.callF (S := S15) 4 rfl rfl (F39_ok e18 hot0.vw) Lay.flat_fl (fun v19 S21 c22 ho20 => ?_)
  have hot0 := hot0.to c22
  have ho8 := ho8.to c22
  have ho14 := ho14.to c22
  refine WO.mv rfl ?_
  refine WO.do rfl rfl ?_
  refine WO.do rfl rfl ?_
  refine WO.asg rfl (WO.asg rfl (WO.nil (thenL_n (WC.seq (WC.seq (WC.region (WO.mv rfl ?_)))))))
  refine WO.bin rfl rfl (by decide) (by decide) rfl ?_
  refine WO.mv rfl ?_
  refine WO.cutB (d := 42) 3 ((decide (t1 < 0)) || (decide (t1 > 40))) (fun q23 => ?_) (fun q23 => ?_) ?_
  · refine WO.gno rfl rfl (WO.gno rfl rfl ?_)
    refine WO.pickT rfl rfl ?_
    refine WO.nil ?_
    exact ⟨rfl, rfl, (Cov.any rfl (orT q23) (Cov.skip rfl (Cov.skip rfl (Cov.skip rfl (Cov.skip rfl (Cov.refl _))))))⟩
  · skip
    refine WO.gyes rfl rfl (WO.mv rfl (WO.gyes rfl rfl ?_))
    refine WO.bin rfl rfl (by decide) (by decide) rfl ?_
    refine WO.pickF rfl rfl ?_
    refine WO.nil ?_
    exact ⟨rfl, rfl, (Cov.any rfl (orF q23) (Cov.skip rfl (Cov.skip rfl (Cov.skip rfl (Cov.skip rfl (Cov.refl _))))))⟩
  refine WO.mv rfl ?_
  refine WO.cutB (d := 46) 3 (((decide (t1 < 0)) || (decide (t1 > 40))) || (decide (t2 < 0))) (fun q24 => ?_) (fun q24 => ?_) ?_
  · refine WO.gno rfl rfl (WO.gno rfl rfl ?_)
    refine WO.pickT rfl rfl ?_
    refine WO.nil ?_
    exact ⟨rfl, rfl, (Cov.any rfl (orT q24) (Cov.skip rfl (Cov.skip rfl (Cov.skip rfl (Cov.skip rfl (Cov.refl _))))))⟩
  · skip
    refine WO.gyes rfl rfl (WO.mv rfl (WO.gyes rfl rfl ?_))
    refine WO.bin rfl rfl (by decide) (by decide) rfl ?_
    refine WO.pickF rfl rfl ?_
    refine WO.nil ?_
    exact ⟨rfl, rfl, (Cov.any rfl (orF q24) (Cov.skip rfl (Cov.skip rfl (Cov.skip rfl (Cov.skip rfl (Cov.refl _))))))⟩
  refine WO.mv rfl ?_
  refine WO.cutB (d := 50) 3 ((((decide (t1 < 0)) || (decide (t1 > 40))) || (decide (t2 < 0))) || (decide (t2 > 40))) (fun q25 => ?_) (fun q25 => ?_) ?_
  · refine WO.gno rfl rfl (WO.gno rfl rfl ?_)
    refine WO.pickT rfl rfl ?_
    refine WO.nil ?_
    exact ⟨rfl, rfl, (Cov.any rfl (orT q25) (Cov.skip rfl (Cov.skip rfl (Cov.skip rfl (Cov.skip rfl (Cov.refl _))))))⟩
  · skip
    refine WO.gyes rfl rfl (WO.mv rfl (WO.gyes rfl rfl ?_))
    refine WO.bin rfl rfl (by decide) (by decide) rfl ?_
    refine WO.pickF rfl rfl ?_
    refine WO.nil ?_
    exact ⟨rfl, rfl, (Cov.any rfl (orF q25) (Cov.skip rfl (Cov.skip rfl (Cov.skip rfl (Cov.skip rfl (Cov.refl _))))))⟩
  refine WO.nil (thenL_n ?_)
  obtain ⟨b39, e40, h⟩ := bindS h
  refine WC.mono (Q' := (fun b e l' m' n' => (match b with | .inl b41 => e = .normal ∧ ∃ S42 : Cx n, S42.m = m' ∧ S42.n = n' ∧ Cov l' [(0, .sc vt0), (9, .sc v7), (10, .sc (.int .i64 r5.2)), (11, .sc v13), (12, .sc (.int .i64 r11.2)), (13, .sc v19), (14, .sc (.int .i64 r17.2))] ∧ Rd Y3 S42 vt0 t0 ∧ Ow Y3 S42 2 v7 r5.1 ∧ Ow Y3 S42 3 v13 r11.1 ∧ Ow Y3 S42 4 v19 r17.1 | .inr b41 => e = .ret ∧ ∃ S43 : Cx n, S43.m = m' ∧ S43.n = n' ∧ Cov l' [(6, .sc (.bool b41))])) b39) ?_ ?_
  · have h := e40
    dsimp only at h ⊢
    refine WC.cond rfl (fun q26 => ?_) (fun q26 => ?_)
    · have h := iteT q26 h
      refine WC.seq (WC.region (WO.mv rfl ?_))
      refine WO.bin rfl rfl (by decide) (by decide) rfl ?_
      refine WO.mv rfl ?_
      refine WO.cutB (d := 56) 3 ((r1.2 != 1) || (r1.1 != 0)) (fun q27 => ?_) (fun q27 => ?_) ?_
      · refine WO.gno rfl rfl (WO.gno rfl rfl ?_)
        refine WO.pickT rfl rfl ?_
        refine WO.nil ?_
        exact ⟨rfl, rfl, (Cov.any rfl (orT q27) (Cov.skip rfl (Cov.skip rfl (Cov.skip rfl (Cov.skip rfl (Cov.refl _))))))⟩
      · skip
        refine WO.gyes rfl rfl (WO.mv rfl (WO.gyes rfl rfl ?_))
        refine WO.bin rfl rfl (by decide) (by decide) rfl ?_
        refine WO.pickF rfl rfl ?_
        refine WO.nil ?_
        exact ⟨rfl, rfl, (Cov.any rfl (orF q27) (Cov.skip rfl (Cov.skip rfl (Cov.skip rfl (Cov.skip rfl (Cov.refl _))))))⟩
      refine WO.nil (thenL_n ?_)
      refine WC.cond rfl (fun q28 => ?_) (fun q28 => ?_)
      · have h := iteT q28 h
        refine WC.seq (WC.region (WO.asg rfl (WO.nil (thenL_n (WC.ret ?_)))))
        obtain rfl := someI h
        exact ⟨rfl, ⟨S21, rfl, rfl, (Cov.cons rfl (Cov.nil _))⟩⟩
      · have h := iteF q28 h
        refine WC.skip ?_
        obtain rfl := someI h
        exact ⟨rfl, ⟨S21, rfl, rfl, (Cov.cons rfl (Cov.cons rfl (Cov.cons rfl (Cov.cons rfl (Cov.cons rfl (Cov.cons rfl (Cov.cons rfl (Cov.nil _)))))))), hot0, ho8, ho14, ho20⟩⟩
    · have h := iteF q26 h
      refine WC.seq (WC.region (WO.mv rfl ?_))
      refine WO.bin rfl rfl (by decide) (by decide) rfl ?_
      refine WO.mv rfl ?_
      obtain ⟨y34, e35, h⟩ := bindS h
      refine WO.cutS (d := 65) (S := S21) 6 y34 (fun q33 => ?_) (fun q33 => ?_) (fun S36 c37 => ?_)
      · have h := e35
        have h := iteT q33 h
        obtain rfl := someI h
        refine WO.gno rfl rfl (WO.gno rfl rfl (WO.gno rfl rfl (WO.gno rfl rfl (WO.gno rfl rfl ?_))))
        refine WO.pickT rfl rfl ?_
        refine WO.nil ?_
        exact ⟨S21, rfl, rfl, Ch.refl _ _, (Cov.cons rfl (Cov.skip rfl (Cov.skip rfl (Cov.skip rfl (Cov.skip rfl (Cov.skip rfl (Cov.skip rfl (Cov.skip rfl (Cov.refl _)))))))))⟩
      · have h := e35
        have h := iteF q33 h
        refine WO.gyes rfl rfl (WO.mv rfl (WO.gyes rfl rfl (WO.mv rfl (WO.gyes rfl rfl (WO.mv rfl (WO.gyes rfl rfl ?_))))))
        obtain ⟨r29, e30, h⟩ := bindS h
        refine WO.callE (S := S21) rfl rfl (F40_ok e30) (fun S31 c32 => ?_)
        have hot0 := hot0.to c32
        have ho8 := ho8.to c32
        have ho14 := ho14.to c32
        have ho20 := ho20.to c32
        refine WO.gyes rfl rfl ?_
        refine WO.bin rfl rfl (by decide) (by decide) rfl ?_
        obtain rfl := someI h
        refine WO.pickF rfl rfl ?_
        refine WO.nil ?_
        exact ⟨S31, rfl, rfl, c32, (Cov.cons rfl (Cov.skip rfl (Cov.skip rfl (Cov.skip rfl (Cov.skip rfl (Cov.skip rfl (Cov.skip rfl (Cov.skip rfl (Cov.refl _)))))))))⟩
      have hot0 := hot0.to c37
      have ho8 := ho8.to c37
      have ho14 := ho14.to c37
      have ho20 := ho20.to c37
      refine WO.nil (thenL_n ?_)
      refine WC.cond rfl (fun q38 => ?_) (fun q38 => ?_)
      · have h := iteT q38 h
        refine WC.seq (WC.region (WO.asg rfl (WO.nil (thenL_n (WC.ret ?_)))))
        obtain rfl := someI h
        exact ⟨rfl, ⟨S36, rfl, rfl, (Cov.cons rfl (Cov.nil _))⟩⟩
      · have h := iteF q38 h
        refine WC.skip ?_
        obtain rfl := someI h
        exact ⟨rfl, ⟨S36, rfl, rfl, (Cov.cons rfl (Cov.cons rfl (Cov.cons rfl (Cov.cons rfl (Cov.cons rfl (Cov.cons rfl (Cov.cons rfl (Cov.nil _)))))))), hot0, ho8, ho14, ho20⟩⟩
  dsimp only
  cases b39 with
  | inl b44 =>
    simp only at h
    rintro _ _ _ _ ⟨rfl, ⟨S45, rfl, rfl, hc46, hot0, ho8, ho14, ho20⟩⟩
    refine thenL_n (WC.cov hc46 (WC.seq (WC.region (WO.mv rfl ?_))))
    obtain ⟨r47, e48, h⟩ := bindS h
    refine WO.callE (S := S45) rfl rfl (F41_ok e48 hot0.vw) (fun S49 c50 => ?_)
    have hot0 := hot0.to c50
    have ho8 := ho8.to c50
    have ho14 := ho14.to c50
    have ho20 := ho20.to c50
    refine WO.asg rfl (WO.nil (thenL_n (WC.seq (WC.seq (WC.region (WO.mv rfl ?_))))))
    obtain ⟨r51, e52, h⟩ := bindS h
    refine WO.callE (S := S49) rfl rfl (F42_ok e52 hot0.vw) (fun S53 c54 => ?_)
    have hot0 := hot0.to c54
    have ho8 := ho8.to c54
    have ho14 := ho14.to c54
    have ho20 := ho20.to c54
    refine WO.mv rfl ?_
    refine WO.bin rfl rfl (by decide) (by decide) rfl ?_
    refine WO.nil (thenL_n ?_)
    refine WC.cond rfl (fun q55 => ?_) (fun q55 => ?_)
    · have h := iteT q55 h
      refine WC.seq (WC.region (WO.asg rfl (WO.nil (thenL_n (WC.ret (thenL_r ?_))))))
      obtain rfl := someI h
      exact ⟨.inr rfl, _, _, rfl, rfl, rfl⟩
    · have h := iteF q55 h
      refine WC.skip (thenL_n (WC.seq (WC.seq (WC.region (WO.mv rfl ?_)))))
      refine WO.bin rfl rfl (by decide) (by decide) rfl ?_
      refine WO.nil (thenL_n ?_)
      refine WC.cond rfl (fun q56 => ?_) (fun q56 => ?_)
      · have h := iteT q56 h
        refine WC.seq (WC.region (WO.mv rfl (WO.mv rfl ?_)))
        refine WO.bin rfl rfl (by decide) (by decide) rfl ?_
        refine WO.mv rfl ?_
        refine WO.cutB (d := 81) 4 ((r5.2 == r47) && (r11.2 == r47)) (fun q57 => ?_) (fun q57 => ?_) ?_
        · skip
          refine WO.gyes rfl rfl (WO.mv rfl (WO.gyes rfl rfl (WO.mv rfl (WO.gyes rfl rfl ?_))))
          refine WO.bin rfl rfl (by decide) (by decide) rfl ?_
          refine WO.pickT rfl rfl ?_
          refine WO.nil ?_
          exact ⟨rfl, rfl, (Cov.any rfl (andT q57) (Cov.skip rfl (Cov.skip rfl (Cov.skip rfl (Cov.skip rfl (Cov.skip rfl (Cov.refl _)))))))⟩
        · refine WO.gno rfl rfl (WO.gno rfl rfl (WO.gno rfl rfl ?_))
          refine WO.pickF rfl rfl ?_
          refine WO.nil ?_
          exact ⟨rfl, rfl, (Cov.any rfl (andF q57) (Cov.skip rfl (Cov.skip rfl (Cov.skip rfl (Cov.skip rfl (Cov.skip rfl (Cov.refl _)))))))⟩
        refine WO.mv rfl ?_
        refine WO.cutB (d := 86) 4 (((r5.2 == r47) && (r11.2 == r47)) && (r17.2 == r47)) (fun q58 => ?_) (fun q58 => ?_) ?_
        · skip
          refine WO.gyes rfl rfl (WO.mv rfl (WO.gyes rfl rfl (WO.mv rfl (WO.gyes rfl rfl ?_))))
          refine WO.bin rfl rfl (by decide) (by decide) rfl ?_
          refine WO.pickT rfl rfl ?_
          refine WO.nil ?_
          exact ⟨rfl, rfl, (Cov.any rfl (andT q58) (Cov.skip rfl (Cov.skip rfl (Cov.skip rfl (Cov.skip rfl (Cov.skip rfl (Cov.refl _)))))))⟩
        · refine WO.gno rfl rfl (WO.gno rfl rfl (WO.gno rfl rfl ?_))
          refine WO.pickF rfl rfl ?_
          refine WO.nil ?_
          exact ⟨rfl, rfl, (Cov.any rfl (andF q58) (Cov.skip rfl (Cov.skip rfl (Cov.skip rfl (Cov.skip rfl (Cov.skip rfl (Cov.refl _)))))))⟩
        refine WO.mv rfl ?_
        refine WO.cutB (d := 97) 10 ((((r5.2 == r47) && (r11.2 == r47)) && (r17.2 == r47)) && ((wrapA .i64 ((wrapA .i64 ((r5.1.length : Int) + (r11.1.length : Int))) + (r17.1.length : Int))) == 0)) (fun q59 => ?_) (fun q59 => ?_) ?_
        · skip
          refine WO.gyes rfl rfl (WO.mv rfl (WO.gyes rfl rfl ?_))
          refine WO.lenS rfl ho8.slv rfl ?_
          refine WO.gyes rfl rfl (WO.mv rfl (WO.gyes rfl rfl ?_))
          refine WO.lenS rfl ho14.slv rfl ?_
          refine WO.gyes rfl rfl ?_
          refine WO.bin rfl rfl (by decide) (by decide) rfl ?_
          refine WO.gyes rfl rfl (WO.mv rfl (WO.gyes rfl rfl ?_))
          refine WO.lenS rfl ho20.slv rfl ?_
          refine WO.gyes rfl rfl ?_
          refine WO.bin rfl rfl (by decide) (by decide) rfl ?_
          refine WO.gyes rfl rfl ?_
          refine WO.bin rfl rfl (by decide) (by decide) rfl ?_
          refine WO.pickT rfl rfl ?_
          refine WO.nil ?_
          exact ⟨rfl, rfl, (Cov.any rfl (andT q59) (Cov.skip rfl (Cov.skip rfl (Cov.skip rfl (Cov.skip rfl (Cov.skip rfl (Cov.skip rfl (Cov.skip rfl (Cov.skip rfl (Cov.skip rfl (Cov.skip rfl (Cov.skip rfl (Cov.refl _)))))))))))))⟩
        · refine WO.gno rfl rfl (WO.gno rfl rfl (WO.gno rfl rfl (WO.gno rfl rfl (WO.gno rfl rfl (WO.gno rfl rfl (WO.gno rfl rfl (WO.gno rfl rfl (WO.gno rfl rfl ?_))))))))
          refine WO.pickF rfl rfl ?_
          refine WO.nil ?_
          exact ⟨rfl, rfl, (Cov.any rfl (andF q59) (Cov.skip rfl (Cov.skip rfl (Cov.skip rfl (Cov.skip rfl (Cov.skip rfl (Cov.skip rfl (Cov.skip rfl (Cov.skip rfl (Cov.skip rfl (Cov.skip rfl (Cov.skip rfl (Cov.refl _)))))))))))))⟩
        refine WO.asg rfl (WO.nil (thenL_n (WC.ret (thenL_r ?_))))
        obtain rfl := someI h
        exact ⟨.inr rfl, _, _, rfl, rfl, rfl⟩
      · have h := iteF q56 h
        refine WC.skip (thenL_n (WC.seq (WC.seq (WC.region (WO.mv rfl ?_)))))
        refine WO.bin rfl rfl (by decide) (by decide) rfl ?_
        refine WO.mv rfl ?_
        obtain ⟨y71, e72, h⟩ := bindS h
        refine WO.cutS (d := 106) (S := S53) 6 y71 (fun q70 => ?_) (fun q70 => ?_) (fun S73 c74 => ?_)
        · have h := e72
          have h := iteT q70 h
          obtain rfl := someI h
          refine WO.gno rfl rfl (WO.gno rfl rfl (WO.gno rfl rfl (WO.gno rfl rfl (WO.gno rfl rfl ?_))))
          refine WO.pickT rfl rfl ?_
          refine WO.nil ?_
          exact ⟨S53, rfl, rfl, Ch.refl _ _, (Cov.cons rfl (Cov.skip rfl (Cov.skip rfl (Cov.skip rfl (Cov.skip rfl (Cov.skip rfl (Cov.skip rfl (Cov.skip rfl (Cov.refl _)))))))))⟩
        · have h := e72
          have h := iteF q70 h
          refine WO.gyes rfl rfl (WO.mv rfl (WO.gyes rfl rfl (WO.mv rfl (WO.gyes rfl rfl ?_))))
          obtain ⟨r60, e61, h⟩ := bindS h
          refine WO.callF (S := S53) 1 rfl rfl (F43_ok e61 hot0.vw) Lay.flat_fl (fun v62 S64 c65 ho63 => ?_)
          have hot0 := hot0.to c65
          have ho8 := ho8.to c65
          have ho14 := ho14.to c65
          have ho20 := ho20.to c65
          refine WO.gyes rfl rfl ?_
          obtain ⟨r66, e67, h⟩ := bindS h
          refine WO.callE (S := S64) rfl rfl (F26_ok e67 ho8.vw ho63.vw) (fun S68 c69 => ?_)
          have hot0 := hot0.to c69
          have ho8 := ho8.to c69
          have ho14 := ho14.to c69
          have ho20 := ho20.to c69
          refine WO.gyes rfl rfl ?_
          refine WO.do rfl rfl ?_
          obtain rfl := someI h
          refine WO.pickF rfl rfl ?_
          refine WO.nil ?_
          exact ⟨S68, rfl, rfl, (c65.trans c69), (Cov.cons rfl (Cov.skip rfl (Cov.skip rfl (Cov.skip rfl (Cov.skip rfl (Cov.skip rfl (Cov.skip rfl (Cov.skip rfl (Cov.refl _)))))))))⟩
        have hot0 := hot0.to c74
        have ho8 := ho8.to c74
        have ho14 := ho14.to c74
        have ho20 := ho20.to c74
        refine WO.nil (thenL_n ?_)
        refine WC.cond rfl (fun q75 => ?_) (fun q75 => ?_)
        · have h := iteT q75 h
          refine WC.seq (WC.region (WO.asg rfl (WO.nil (thenL_n (WC.ret (thenL_r ?_))))))
          obtain rfl := someI h
          exact ⟨.inr rfl, _, _, rfl, rfl, rfl⟩
        · have h := iteF q75 h
          refine WC.skip (thenL_n (WC.seq (WC.seq (WC.region (WO.mv rfl ?_)))))
          obtain ⟨r76, e77, h⟩ := bindS h
          refine WO.callF (S := S73) 5 rfl rfl (F45_ok e77 hot0.vw) Lay.flat_fl (fun v78 S80 c81 ho79 => ?_)
          have hot0 := hot0.to c81
          have ho8 := ho8.to c81
          have ho14 := ho14.to c81
          have ho20 := ho20.to c81
          obtain ⟨r82, e83, h⟩ := bindS h
          refine WO.callG (S := S80) [(5, 2)] [(902, 6)] rfl rfl (F44_ok (S0 := S80.mp [(5, 2)]) e83 (ho79.mp rfl)) (fun _ S86 S87 hb hR => ?_)
          obtain ⟨v84, rfl, hR0⟩ := hR
          have c88 : Ch 5 S80 S87 := hb.ch [] 5
          have hot0 := hot0.to c88
          have ho8 := ho8.to c88
          have ho14 := ho14.to c88
          have ho20 := ho20.to c88
          have ho85 := hR0.bkF hb rfl Lay.flat_fl
          refine WO.lenS rfl ho85.slv rfl ?_
          refine WO.mv rfl ?_
          refine WO.lenS rfl hot0.slv rfl ?_
          refine WO.bin rfl rfl (by decide) (by decide) rfl ?_
          refine WO.nil (thenL_n ?_)
          obtain ⟨b108, e109, h⟩ := bindS h
          refine WC.mono (Q' := (fun b e l' m' n' => (match b with | .inl b110 => e = .normal ∧ ∃ S111 : Cx n, S111.m = m' ∧ S111.n = n' ∧ Cov l' [(0, .sc vt0), (13, .sc v19), (14, .sc (.int .i64 r17.2))] ∧ Rd Y3 S111 vt0 t0 ∧ Ow Y3 S111 4 v19 r17.1 | .inr b110 => e = .ret ∧ ∃ S112 : Cx n, S112.m = m' ∧ S112.n = n' ∧ Cov l' [(6, .sc (.bool b110))])) b108) ?_ ?_
          · have h := e109
            dsimp only at h ⊢
            refine WC.cond rfl (fun q89 => ?_) (fun q89 => ?_)
            · have h := iteT q89 h
              refine WC.seq (WC.region (WO.mv rfl ?_))
              refine WO.bin rfl rfl (by decide) (by decide) rfl ?_
              refine WO.mv rfl ?_
              refine WO.cutB (d := 120) 4 ((r11.2 != 3) || (decide ((r11.1.length : Int) > 0))) (fun q90 => ?_) (fun q90 => ?_) ?_
              · refine WO.gno rfl rfl (WO.gno rfl rfl (WO.gno rfl rfl ?_))
                refine WO.pickT rfl rfl ?_
                refine WO.nil ?_
                exact ⟨rfl, rfl, (Cov.any rfl (orT q90) (Cov.skip rfl (Cov.skip rfl (Cov.skip rfl (Cov.skip rfl (Cov.skip rfl (Cov.refl _)))))))⟩
              · skip
                refine WO.gyes rfl rfl (WO.mv rfl (WO.gyes rfl rfl ?_))
                refine WO.lenS rfl ho14.slv rfl ?_
                refine WO.gyes rfl rfl ?_
                refine WO.bin rfl rfl (by decide) (by decide) rfl ?_
                refine WO.pickF rfl rfl ?_
                refine WO.nil ?_
                exact ⟨rfl, rfl, (Cov.any rfl (orF q90) (Cov.skip rfl (Cov.skip rfl (Cov.skip rfl (Cov.skip rfl (Cov.skip rfl (Cov.refl _)))))))⟩
              refine WO.nil (thenL_n ?_)
              refine WC.cond rfl (fun q91 => ?_) (fun q91 => ?_)
              · have h := iteT q91 h
                refine WC.seq (WC.region (WO.asg rfl (WO.nil (thenL_n (WC.ret ?_)))))
                obtain rfl := someI h
                exact ⟨rfl, ⟨S87, rfl, rfl, (Cov.cons rfl (Cov.nil _))⟩⟩
              · have h := iteF q91 h
                refine WC.skip ?_
                obtain rfl := someI h
                exact ⟨rfl, ⟨S87, rfl, rfl, (Cov.cons rfl (Cov.cons rfl (Cov.cons rfl (Cov.nil _)))), hot0, ho20⟩⟩
            · have h := iteF q89 h
              refine WC.seq (WC.region (WO.mv rfl ?_))
              refine WO.bin rfl rfl (by decide) (by decide) rfl ?_
              refine WO.mv rfl ?_
              obtain ⟨y103, e104, h⟩ := bindS h
              refine WO.cutS (d := 129) (S := S87) 6 y103 (fun q102 => ?_) (fun q102 => ?_) (fun S105 c106 => ?_)
              · have h := e104
                have h := iteT q102 h
                obtain rfl := someI h
                refine WO.gno rfl rfl (WO.gno rfl rfl (WO.gno rfl rfl (WO.gno rfl rfl (WO.gno rfl rfl ?_))))
                refine WO.pickT rfl rfl ?_
                refine WO.nil ?_
                exact ⟨S87, rfl, rfl, Ch.refl _ _, (Cov.cons rfl (Cov.skip rfl (Cov.skip rfl (Cov.skip rfl (Cov.skip rfl (Cov.skip rfl (Cov.skip rfl (Cov.skip rfl (Cov.refl _)))))))))⟩
              · have h := e104
                have h := iteF q102 h
                refine WO.gyes rfl rfl (WO.mv rfl (WO.gyes rfl rfl (WO.mv rfl (WO.gyes rfl rfl ?_))))
                obtain ⟨r92, e93, h⟩ := bindS h
                refine WO.callF (S := S87) 1 rfl rfl (F46_ok e93 hot0.vw) Lay.flat_fl (fun v94 S96 c97 ho95 => ?_)
                have hot0 := hot0.to c97
                have ho8 := ho8.to c97
                have ho14 := ho14.to c97
                have ho20 := ho20.to c97
                have ho85 := ho85.to c97
                refine WO.gyes rfl rfl ?_
                obtain ⟨r98, e99, h⟩ := bindS h
                refine WO.callE (S := S96) rfl rfl (F26_ok e99 ho14.vw ho95.vw) (fun S100 c101 => ?_)
                have hot0 := hot0.to c101
                have ho8 := ho8.to c101
                have ho14 := ho14.to c101
                have ho20 := ho20.to c101
                have ho85 := ho85.to c101
                refine WO.gyes rfl rfl ?_
                refine WO.do rfl rfl ?_
                obtain rfl := someI h
                refine WO.pickF rfl rfl ?_
                refine WO.nil ?_
                exact ⟨S100, rfl, rfl, (c97.trans c101), (Cov.cons rfl (Cov.skip rfl (Cov.skip rfl (Cov.skip rfl (Cov.skip rfl (Cov.skip rfl (Cov.skip rfl (Cov.skip rfl (Cov.refl _)))))))))⟩
              have hot0 := hot0.to c106
              have ho8 := ho8.to c106
              have ho14 := ho14.to c106
              have ho20 := ho20.to c106
              have ho85 := ho85.to c106
              refine WO.nil (thenL_n ?_)
              refine WC.cond rfl (fun q107 => ?_) (fun q107 => ?_)
              · have h := iteT q107 h
                refine WC.seq (WC.region (WO.asg rfl (WO.nil (thenL_n (WC.ret ?_)))))
                obtain rfl := someI h
                exact ⟨rfl, ⟨S105, rfl, rfl, (Cov.cons rfl (Cov.nil _))⟩⟩
              · have h := iteF q107 h
                refine WC.skip ?_
                obtain rfl := someI h
                exact ⟨rfl, ⟨S105, rfl, rfl, (Cov.cons rfl (Cov.cons rfl (Cov.cons rfl (Cov.nil _)))), hot0, ho20⟩⟩
          dsimp only
          cases b108 with
          | inl b113 =>
            simp only at h
            rintro _ _ _ _ ⟨rfl, ⟨S114, rfl, rfl, hc115, hot0, ho20⟩⟩
            refine thenL_n (WC.cov hc115 (WC.seq (WC.seq (WC.region (WO.mv rfl ?_)))))
            obtain ⟨r116, e117, h⟩ := bindS h
            refine WO.callE (S := S114) rfl rfl (F47_48_ok e117 hot0.vw) (fun S118 c119 => ?_)
            have hot0 := hot0.to c119
            have ho20 := ho20.to c119
            refine WO.nil (thenL_n ?_)
            refine WC.cond rfl (fun q120 => ?_) (fun q120 => ?_)
            · have h := iteT q120 h
              refine WC.seq (WC.region (WO.mv rfl ?_))
              refine WO.bin rfl rfl (by decide) (by decide) rfl ?_
              refine WO.mv rfl ?_
              refine WO.cutB (d := 138) 4 ((r17.2 == 3) && ((r17.1.length : Int) == 0)) (fun q121 => ?_) (fun q121 => ?_) ?_
              · skip
                refine WO.gyes rfl rfl (WO.mv rfl (WO.gyes rfl rfl ?_))
                refine WO.lenS rfl ho20.slv rfl ?_
                refine WO.gyes rfl rfl ?_
                refine WO.bin rfl rfl (by decide) (by decide) rfl ?_
                refine WO.pickT rfl rfl ?_
                refine WO.nil ?_
                exact ⟨rfl, rfl, (Cov.any rfl (andT q121) (Cov.skip rfl (Cov.skip rfl (Cov.skip rfl (Cov.skip rfl (Cov.skip rfl (Cov.refl _)))))))⟩
              · refine WO.gno rfl rfl (WO.gno rfl rfl (WO.gno rfl rfl ?_))
                refine WO.pickF rfl rfl ?_
                refine WO.nil ?_
                exact ⟨rfl, rfl, (Cov.any rfl (andF q121) (Cov.skip rfl (Cov.skip rfl (Cov.skip rfl (Cov.skip rfl (Cov.skip rfl (Cov.refl _)))))))⟩
              refine WO.asg rfl (WO.nil (thenL_n (WC.ret (thenL_r ?_))))
              obtain rfl := someI h
              exact ⟨.inr rfl, _, _, rfl, rfl, rfl⟩
            · have h := iteF q120 h
              refine WC.skip (thenL_n (WC.seq (WC.region (WO.mv rfl ?_))))
              refine WO.bin rfl rfl (by decide) (by decide) rfl ?_
              refine WO.mv rfl ?_
              obtain ⟨y133, e134, h⟩ := bindS h
              refine WO.cutS (d := 146) (S := S118) 5 y133 (fun q132 => ?_) (fun q132 => ?_) (fun S135 c136 => ?_)
              · have h := e134
                have h := iteT q132 h
                refine WO.gyes rfl rfl (WO.mv rfl (WO.gyes rfl rfl (WO.mv rfl (WO.gyes rfl rfl ?_))))
                obtain ⟨r122, e123, h⟩ := bindS h
                refine WO.callF (S := S118) 1 rfl rfl (F49_ok e123 hot0.vw) Lay.flat_fl (fun v124 S126 c127 ho125 => ?_)
                have hot0 := hot0.to c127
                have ho20 := ho20.to c127
                refine WO.gyes rfl rfl ?_
                obtain ⟨r128, e129, h⟩ := bindS h
                refine WO.callE (S := S126) rfl rfl (F26_ok e129 ho20.vw ho125.vw) (fun S130 c131 => ?_)
                have hot0 := hot0.to c131
                have ho20 := ho20.to c131
                obtain rfl := someI h
                refine WO.pickT rfl rfl ?_
                refine WO.nil ?_
                exact ⟨S130, rfl, rfl, (c127.trans c131), (Cov.cons rfl (Cov.skip rfl (Cov.skip rfl (Cov.skip rfl (Cov.skip rfl (Cov.skip rfl (Cov.skip rfl (Cov.refl _))))))))⟩
              · have h := e134
                have h := iteF q132 h
                obtain rfl := someI h
                refine WO.gno rfl rfl (WO.gno rfl rfl (WO.gno rfl rfl (WO.gno rfl rfl ?_)))
                refine WO.pickF rfl rfl ?_
                refine WO.nil ?_
                exact ⟨S118, rfl, rfl, Ch.refl _ _, (Cov.cons rfl (Cov.skip rfl (Cov.skip rfl (Cov.skip rfl (Cov.skip rfl (Cov.skip rfl (Cov.skip rfl (Cov.refl _))))))))⟩
              have hot0 := hot0.to c136
              have ho20 := ho20.to c136
              refine WO.asg rfl (WO.nil (thenL_n (WC.ret ?_)))
              obtain rfl := someI h
              exact ⟨.inr rfl, _, _, rfl, rfl, rfl⟩
          | inr b113 =>
            simp only at h
            rintro _ _ _ _ ⟨rfl, ⟨S137, rfl, rfl, hc138⟩⟩
            refine thenL_r ?_
            obtain rfl := someI h
            exact ⟨.inr rfl, _, _, (resK_cov hc138 rfl), rfl, rfl⟩
  | inr b44 =>
    simp only at h
    rintro _ _ _ _ ⟨rfl, ⟨S139, rfl, rfl, hc140⟩⟩
    refine thenL_r ?_
    obtain rfl := someI h
    exact ⟨.inr rfl, _, _, (resK_cov hc140 rfl), rfl, rfl⟩
end Go.Proofs.Ytihmliblbhjlaaa

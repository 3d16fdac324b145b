/- The machine answers F9: printed by a program of ours (gen.py). -/
import Derived.Test.YtihmliblbhjlaaaDef
import Derived.Test.YtihmliblbhjlaaaEnv
import Derived.Test.YtihmliblbhjlaaaF71
import Derived.Test.YtihmliblbhjlaaaF72
import Derived.Test.YtihmliblbhjlaaaF73
import Derived.Test.YtihmliblbhjlaaaF74
import Derived.Test.YtihmliblbhjlaaaF75
import Derived.Test.YtihmliblbhjlaaaF76
import Derived.Test.YtihmliblbhjlaaaF77
set_option linter.unusedVariables false
namespace Go.Proofs.Ytihmliblbhjlaaa
open Go.Am
theorem F9.fn : E.fn 9 = some ⟨78, (Try.f9.body.getD .skip), Try.f9.results.toList, []⟩ := rfl
theorem F9_ok {F : Nat} {m : Mem} {n : Nat} {r : Bool} {t0 : Int} (h : F9 F t0 = some r)  : Ret E n 9 [.sc (.int .i64 t0)] m n (fun v m' n' => v = .sc (.bool r)) := by
  unfold F9 at h
  refine Ret.walk F9.fn ?_
  refine WC.start fun S0 em en hz => ?_
  refine WC.seq ?_
  refine WC.region ?_
  refine WO.asg rfl ?_
  refine WO.nil ?_
  refine thenL_n ?_
  refine WC.seq ?_
  refine WC.region ?_
  refine WO.mv rfl ?_
  obtain ⟨r1, e2, h⟩ := bindS h
  refine WO.callE (S := S0) rfl rfl (F71_ok e2) (fun S3 c4 => ?_)
  refine WO.asg rfl ?_
  refine WO.nil ?_
  refine thenL_n ?_
  refine WC.seq ?_
  refine WC.region ?_
  refine WO.mv rfl ?_
  obtain ⟨r5, e6, h⟩ := bindS h
  refine WO.callE (S := S3) rfl rfl (F72_ok e6) (fun S7 c8 => ?_)
  refine WO.mv rfl ?_
  refine WO.do rfl rfl ?_
  refine WO.do rfl rfl ?_
  refine WO.asg rfl ?_
  refine WO.asg rfl ?_
  refine WO.nil ?_
  refine thenL_n ?_
  refine WC.seq ?_
  refine WC.seq ?_
  refine WC.region ?_
  obtain ⟨r9, e10, h⟩ := bindS h
  refine WO.callE (S := S7) rfl rfl (F73_ok e10) (fun S11 c12 => ?_)
  refine WO.do rfl rfl ?_
  refine WO.mv rfl ?_
  refine WO.cutB (d := 27) 3 ((!r9) || (r5.2 != 0)) (fun q13 => ?_) (fun q13 => ?_) ?_
  · refine WO.gno rfl rfl ?_
    refine WO.gno rfl rfl ?_
    refine WO.pickT rfl rfl ?_
    refine WO.nil ?_
    exact ⟨rfl, rfl, (Cov.any rfl (orT q13) (Cov.skip rfl (Cov.skip rfl (Cov.skip rfl (Cov.skip rfl (Cov.refl _))))))⟩
  · skip
    refine WO.gyes rfl rfl ?_
    refine WO.mv rfl ?_
    refine WO.gyes rfl rfl ?_
    refine WO.bin rfl rfl (by decide) (by decide) rfl ?_
    refine WO.pickF rfl rfl ?_
    refine WO.nil ?_
    exact ⟨rfl, rfl, (Cov.any rfl (orF q13) (Cov.skip rfl (Cov.skip rfl (Cov.skip rfl (Cov.skip rfl (Cov.refl _))))))⟩
  refine WO.nil ?_
  refine thenL_n ?_
  refine WC.cond rfl (fun q14 => ?_) (fun q14 => ?_)
  · have h := iteT q14 h
    refine WC.seq ?_
    refine WC.region ?_
    refine WO.asg rfl ?_
    refine WO.nil ?_
    refine thenL_n ?_
    refine WC.ret ?_
    refine thenL_r ?_
    obtain rfl := someI h
    exact ⟨.inr rfl, _, _, rfl, rfl, rfl⟩
  · have h := iteF q14 h
    refine WC.skip ?_
    refine thenL_n ?_
    refine WC.seq ?_
    refine WC.region ?_
    refine WO.alS (A := Y3) (S := S11) (z0 := 0) 2 rfl rfl rfl (fun v15 S16 c17 ho18 => ?_)
    refine WO.asg rfl ?_
    refine WO.asg rfl ?_
    refine WO.stB (j := 0) (q := 0) (u' := 0) rfl ho18.at0 rfl ho18 rfl (by decide) rfl rfl (fun S19 c20 ho18 => ?_)
    refine WO.nil ?_
    refine thenL_n ?_
    refine WC.seq ?_
    refine WC.seq ?_
    refine WC.region ?_
    refine WO.mv rfl ?_
    refine WO.bin rfl rfl (by decide) (by decide) rfl ?_
    refine WO.mv rfl ?_
    refine WO.nil ?_
    refine thenL_n ?_
    refine WC.block ?_
    obtain ⟨b46, e47, h⟩ := bindS h
    refine WC.loopD e47 (fun s21 l' m' n' => ∃ S22 : Cx n, S22.m = m' ∧ S22.n = n' ∧ Cov l' [(0, .sc (.int .i64 r1)), (3, .sc (.int .i64 r5.1)), (5, .sc (.int .i64 s21.1)), (6, .sc (.int .i64 s21.2.1)), (7, .sc v15), (29, .sc (.int .i64 ((wrapA .i64 (r1 + 1))))), (30, .sc (.int .i64 s21.2.2))] ∧ Bk Y3 S22 2 v15 0) (fun b e l' m' n' => (match b with | .inl b23 => e = .exit 0 ∧ ∃ S24 : Cx n, S24.m = m' ∧ S24.n = n' ∧ Cov l' [(0, .sc (.int .i64 r1)), (3, .sc (.int .i64 r5.1)), (5, .sc (.int .i64 b23.1)), (6, .sc (.int .i64 b23.2)), (7, .sc v15)] ∧ Bk Y3 S24 2 v15 0 | .inr b23 => e = .ret ∧ ∃ S25 : Cx n, S25.m = m' ∧ S25.n = n' ∧ Cov l' [(2, .sc (.bool b23))])) (by exact ⟨S19, rfl, rfl, (Cov.cons rfl (Cov.cons rfl (Cov.cons rfl (Cov.cons rfl (Cov.cons rfl (Cov.cons rfl (Cov.cons rfl (Cov.nil _)))))))), ho18⟩) ?_ ?_
    · clear h
      rintro s21 q _ _ _ ⟨S26, rfl, rfl, hc27, ho18⟩ h
      unfold F9_l0 at h
      refine WC.cov hc27 ?_
      refine WC.seq ?_
      refine WC.region ?_
      refine WO.bin rfl rfl (by decide) (by decide) rfl ?_
      refine WO.nil ?_
      refine thenL_n ?_
      refine WC.seq ?_
      refine WC.cond rfl (fun q28 => ?_) (fun q28 => ?_)
      · have h := iteT q28 h
        refine WC.skip ?_
        refine thenL_n ?_
        refine WC.seq ?_
        refine WC.block ?_
        refine WC.seq ?_
        refine WC.region ?_
        refine WO.mv rfl ?_
        refine WO.asg rfl ?_
        refine WO.nil ?_
        refine thenL_n ?_
        refine WC.seq ?_
        refine WC.region ?_
        refine WO.mv rfl ?_
        refine WO.mv rfl ?_
        obtain ⟨r29, e30, h⟩ := bindS h
        refine WO.callE (S := S26) rfl rfl (F74_ok e30) (fun S31 c32 => ?_)
        have ho18 := ho18.to c32
        refine WO.mv rfl ?_
        refine WO.do rfl rfl ?_
        refine WO.do rfl rfl ?_
        refine WO.asg rfl ?_
        refine WO.asg rfl ?_
        refine WO.nil ?_
        refine thenL_n ?_
        refine WC.seq ?_
        refine WC.region ?_
        refine WO.mv rfl ?_
        refine WO.mv rfl ?_
        obtain ⟨r33, e34, h⟩ := bindS h
        refine WO.callE (S := S31) rfl rfl (F75_ok e34) (fun S35 c36 => ?_)
        have ho18 := ho18.to c36
        refine WO.mv rfl ?_
        refine WO.do rfl rfl ?_
        refine WO.do rfl rfl ?_
        refine WO.asg rfl ?_
        refine WO.asg rfl ?_
        refine WO.nil ?_
        refine thenL_n ?_
        refine WC.seq ?_
        refine WC.seq ?_
        refine WC.region ?_
        refine WO.mv rfl ?_
        refine WO.mv rfl ?_
        refine WO.bsS (A := Y27) (S := S35) (M := [r29.2, r33.2]) (cs := [.int .i64 r29.2, .int .i64 r33.2]) 3 rfl rfl rfl ⟨[.int .i64 r29.2], _, rfl, rfl, ⟨[.int .i64 r33.2], _, rfl, rfl, rfl⟩⟩ rfl (fun v37 S38 c39 ho40 => ?_)
        have ho18 := ho18.to c39
        obtain ⟨r41, e42, h⟩ := bindS h
        refine WO.callE (S := S38) rfl rfl (F76_ok e42 ho40.vw) (fun S43 c44 => ?_)
        have ho18 := ho18.to c44
        have ho40 := ho40.to c44
        refine WO.do rfl rfl ?_
        refine WO.nil ?_
        refine thenL_n ?_
        refine WC.cond rfl (fun q45 => ?_) (fun q45 => ?_)
        · have h := iteT q45 h
          refine WC.seq ?_
          refine WC.region ?_
          refine WO.asg rfl ?_
          refine WO.nil ?_
          refine thenL_n ?_
          refine WC.ret ?_
          refine thenL_r ?_
          refine blockL_r ?_
          refine thenL_r ?_
          refine thenL_r ?_
          obtain rfl := someI h
          exact ⟨_, rfl, rfl, ⟨S43, rfl, rfl, (Cov.cons rfl (Cov.nil _))⟩⟩
        · have h := iteF q45 h
          refine WC.skip ?_
          refine thenL_n ?_
          refine WC.region ?_
          refine WO.mv rfl ?_
          refine WO.mv rfl ?_
          refine WO.bin rfl rfl (by decide) (by decide) rfl ?_
          refine WO.mv rfl ?_
          refine WO.mv rfl ?_
          refine WO.bin rfl rfl (by decide) (by decide) rfl ?_
          refine WO.asg rfl ?_
          refine WO.asg rfl ?_
          refine WO.nil ?_
          refine blockL_n ?_
          refine thenL_n ?_
          refine WC.region ?_
          refine WO.bin rfl rfl (by decide) (by decide) rfl ?_
          refine WO.mv rfl ?_
          refine WO.nil ?_
          refine thenL_n ?_
          obtain rfl := someI h
          exact ⟨_, rfl, ⟨S43, rfl, rfl, (Cov.cons rfl (Cov.cons rfl (Cov.cons rfl (Cov.cons rfl (Cov.cons rfl (Cov.cons rfl (Cov.cons rfl (Cov.nil _)))))))), ho18⟩⟩
      · have h := iteF q28 h
        refine WC.exit ?_
        refine thenL_e ?_
        refine thenL_e ?_
        obtain rfl := someI h
        exact ⟨_, rfl, rfl, ⟨S26, rfl, rfl, (Cov.cons rfl (Cov.cons rfl (Cov.cons rfl (Cov.cons rfl (Cov.cons rfl (Cov.nil _)))))), ho18⟩⟩
    cases b46 with
    | inl b48 =>
      simp only at h
      rintro _ _ _ _ ⟨rfl, ⟨S49, rfl, rfl, hc50, ho18⟩⟩
      refine blockL_s ?_
      refine thenL_n ?_
      refine WC.cov hc50 ?_
      refine WC.seq ?_
      refine WC.region ?_
      refine WO.alS (A := Y4) (S := S49) (z0 := false) 4 rfl rfl rfl (fun v51 S52 c53 ho54 => ?_)
      have ho18 := ho18.to c53
      refine WO.stB (j := 0) (q := 0) (u' := true) rfl ho54.at0 rfl ho54 rfl (by decide) rfl rfl (fun S55 c56 ho54 => ?_)
      have ho18 := ho18.to c56
      refine WO.nil ?_
      refine thenL_n ?_
      refine WC.seq ?_
      refine WC.region ?_
      refine WO.alW (S := S55) (cs := [.nilf]) 5 rfl rfl rfl (fun b57 S58 c59 ho60 => ?_)
      have ho18 := ho18.to c59
      have ho54 := ho54.to c59
      refine WO.nil ?_
      refine thenL_n ?_
      refine WC.seq ?_
      refine WC.region ?_
      obtain ⟨b61, rfl⟩ := ho54.isp
      obtain ⟨b62, rfl⟩ := ho18.isp
      refine WO.do rfl rfl ?_
      refine WO.stW (S := S58) (r := [.fn 77 [(b61, 0), (b62, 0), (b57, 0)]]) rfl ho60.at0 rfl rfl ho60 rfl rfl rfl rfl rfl (fun S63 c64 ho60 => ?_)
      have ho18 := ho18.to c64
      have ho54 := ho54.to c64
      refine WO.nil ?_
      refine thenL_n ?_
      refine WC.seq ?_
      refine WC.region ?_
      refine WO.ldW rfl ho60.at0 ho60 rfl rfl ho60.lt rfl ?_
      refine WO.mv rfl ?_
      refine WO.mv rfl ?_
      obtain ⟨r65, e66, h⟩ := bindS h
      refine WO.callG (S := S63) [(4, 2), (2, 3), (5, 0)] [(2, 4), (3, 2)] rfl rfl (F77_ok (S0 := S63.mp [(4, 2), (2, 3), (5, 0)]) e66 Rd.nil (ho54.mp rfl) (ho18.mp rfl) (ho60.mp0 rfl)) (fun _ S67 S68 hb hR => ?_)
      obtain ⟨rfl, hR0, hR1⟩ := hR
      have c69 := Cx.mg_ch S63 2 4
      have ho60 := ho60.to c69
      have c70 : Ch 4 (S63.mg 2 4) S68 := hb.ch [2] 4
      have ho60 := ho60.to c70
      have ho54 := hR0.bkF hb rfl Lay.flat_fl
      have ho18 := hR1.bkF hb rfl Lay.flat_fl
      refine WO.nil ?_
      refine thenL_n ?_
      refine WC.seq ?_
      refine WC.region ?_
      refine WO.ldB (j := 0) (q := 0) rfl ho54.at0 ho54 rfl rfl rfl ?_
      refine WO.mv rfl ?_
      refine WO.cutB (d := 67) 4 (r65.1 && (b48.1 == r5.1)) (fun q71 => ?_) (fun q71 => ?_) ?_
      · skip
        refine WO.gyes rfl rfl ?_
        refine WO.mv rfl ?_
        refine WO.gyes rfl rfl ?_
        refine WO.mv rfl ?_
        refine WO.gyes rfl rfl ?_
        refine WO.bin rfl rfl (by decide) (by decide) rfl ?_
        refine WO.pickT rfl rfl ?_
        refine WO.nil ?_
        exact ⟨rfl, rfl, (Cov.any rfl (andT q71) (Cov.skip rfl (Cov.skip rfl (Cov.skip rfl (Cov.skip rfl (Cov.skip rfl (Cov.refl _)))))))⟩
      · refine WO.gno rfl rfl ?_
        refine WO.gno rfl rfl ?_
        refine WO.gno rfl rfl ?_
        refine WO.pickF rfl rfl ?_
        refine WO.nil ?_
        exact ⟨rfl, rfl, (Cov.any rfl (andF q71) (Cov.skip rfl (Cov.skip rfl (Cov.skip rfl (Cov.skip rfl (Cov.skip rfl (Cov.refl _)))))))⟩
      refine WO.mv rfl ?_
      refine WO.cutB (d := 72) 4 ((r65.1 && (b48.1 == r5.1)) && (b48.2 == r5.1)) (fun q72 => ?_) (fun q72 => ?_) ?_
      · skip
        refine WO.gyes rfl rfl ?_
        refine WO.mv rfl ?_
        refine WO.gyes rfl rfl ?_
        refine WO.mv rfl ?_
        refine WO.gyes rfl rfl ?_
        refine WO.bin rfl rfl (by decide) (by decide) rfl ?_
        refine WO.pickT rfl rfl ?_
        refine WO.nil ?_
        exact ⟨rfl, rfl, (Cov.any rfl (andT q72) (Cov.skip rfl (Cov.skip rfl (Cov.skip rfl (Cov.skip rfl (Cov.skip rfl (Cov.refl _)))))))⟩
      · refine WO.gno rfl rfl ?_
        refine WO.gno rfl rfl ?_
        refine WO.gno rfl rfl ?_
        refine WO.pickF rfl rfl ?_
        refine WO.nil ?_
        exact ⟨rfl, rfl, (Cov.any rfl (andF q72) (Cov.skip rfl (Cov.skip rfl (Cov.skip rfl (Cov.skip rfl (Cov.skip rfl (Cov.refl _)))))))⟩
      refine WO.mv rfl ?_
      refine WO.cutB (d := 77) 4 (((r65.1 && (b48.1 == r5.1)) && (b48.2 == r5.1)) && (r65.2 == r5.1)) (fun q73 => ?_) (fun q73 => ?_) ?_
      · skip
        refine WO.gyes rfl rfl ?_
        refine WO.ldB (j := 0) (q := 0) rfl ho18.at0 ho18 rfl rfl rfl ?_
        refine WO.gyes rfl rfl ?_
        refine WO.mv rfl ?_
        refine WO.gyes rfl rfl ?_
        refine WO.bin rfl rfl (by decide) (by decide) rfl ?_
        refine WO.pickT rfl rfl ?_
        refine WO.nil ?_
        exact ⟨rfl, rfl, (Cov.any rfl (andT q73) (Cov.skip rfl (Cov.skip rfl (Cov.skip rfl (Cov.skip rfl (Cov.skip rfl (Cov.refl _)))))))⟩
      · refine WO.gno rfl rfl ?_
        refine WO.gno rfl rfl ?_
        refine WO.gno rfl rfl ?_
        refine WO.pickF rfl rfl ?_
        refine WO.nil ?_
        exact ⟨rfl, rfl, (Cov.any rfl (andF q73) (Cov.skip rfl (Cov.skip rfl (Cov.skip rfl (Cov.skip rfl (Cov.skip rfl (Cov.refl _)))))))⟩
      refine WO.asg rfl ?_
      refine WO.nil ?_
      refine thenL_n ?_
      refine WC.ret ?_
      obtain rfl := someI h
      exact ⟨.inr rfl, _, _, rfl, rfl, rfl⟩
    | inr b48 =>
      simp only at h
      rintro _ _ _ _ ⟨rfl, ⟨S74, rfl, rfl, hc75⟩⟩
      refine blockL_r ?_
      refine thenL_r ?_
      obtain rfl := someI h
      exact ⟨.inr rfl, _, _, (resK_cov hc75 rfl), rfl, rfl⟩
end Go.Proofs.Ytihmliblbhjlaaa

/- The machine answers F10: printed by a program of ours (gen.py). -/
import Derived.Test.YtihmliblbhjlaaaDef
import Derived.Test.YtihmliblbhjlaaaEnv
import Derived.Test.YtihmliblbhjlaaaF27
import Derived.Test.YtihmliblbhjlaaaF71
import Derived.Test.YtihmliblbhjlaaaF73
import Derived.Test.YtihmliblbhjlaaaF76
import Derived.Test.YtihmliblbhjlaaaF79
import Derived.Test.YtihmliblbhjlaaaF80
import Derived.Test.YtihmliblbhjlaaaF81
import Derived.Test.YtihmliblbhjlaaaF82
set_option linter.unusedVariables false
namespace Go.Proofs.Ytihmliblbhjlaaa
open Go.Am
theorem F10.fn : E.fn 10 = some ⟨75, (Try.f10.body.getD .skip), Try.f10.results.toList, []⟩ := rfl
theorem F10_ok {F : Nat} {m : Mem} {n : Nat} {r : Bool} {t0 : Int} (h : F10 F t0 = some r)  : Ret E n 10 [.sc (.int .i64 t0)] m n (fun v m' n' => v = .sc (.bool r)) := by
  unfold F10 at h
  refine Ret.walk F10.fn ?_
  refine WC.start fun S0 em en hz => ?_
  refine WC.seq ?_
  refine WC.region ?_
  refine WO.asg rfl ?_
  refine WO.nil ?_
  refine thenL_n ?_
  refine WC.seq ?_
  refine WC.region ?_
  refine WO.mv rfl ?_
  obtain ⟨r1, e2, h⟩ := bindS h
  refine WO.callE (S := S0) rfl rfl (F71_ok e2) (fun S3 c4 => ?_)
  refine WO.asg rfl ?_
  refine WO.nil ?_
  refine thenL_n ?_
  refine WC.seq ?_
  refine WC.region ?_
  refine WO.mv rfl ?_
  obtain ⟨r5, e6, h⟩ := bindS h
  refine WO.callE (S := S3) rfl rfl (F79_ok e6) (fun S7 c8 => ?_)
  refine WO.mv rfl ?_
  refine WO.do rfl rfl ?_
  refine WO.do rfl rfl ?_
  refine WO.asg rfl ?_
  refine WO.asg rfl ?_
  refine WO.nil ?_
  refine thenL_n ?_
  refine WC.seq ?_
  refine WC.region ?_
  refine WO.mv rfl ?_
  obtain ⟨r9, e10, h⟩ := bindS h
  refine WO.callF (S := S7) 2 rfl rfl (F80_ok e10) Lay.flat_fl (fun v11 S13 c14 ho12 => ?_)
  refine WO.mv rfl ?_
  refine WO.do rfl rfl ?_
  refine WO.do rfl rfl ?_
  refine WO.asg rfl ?_
  refine WO.asg rfl ?_
  refine WO.nil ?_
  refine thenL_n ?_
  refine WC.seq ?_
  refine WC.seq ?_
  refine WC.region ?_
  obtain ⟨r15, e16, h⟩ := bindS h
  refine WO.callE (S := S13) rfl rfl (F73_ok e16) (fun S17 c18 => ?_)
  have ho12 := ho12.to c18
  refine WO.do rfl rfl ?_
  refine WO.mv rfl ?_
  obtain ⟨y28, e29, h⟩ := bindS h
  refine WO.cutS (d := 33) (S := S17) 6 y28 (fun q27 => ?_) (fun q27 => ?_) (fun S30 c31 => ?_)
  · have h := e29
    have h := iteT q27 h
    obtain rfl := someI h
    refine WO.gno rfl rfl ?_
    refine WO.gno rfl rfl ?_
    refine WO.gno rfl rfl ?_
    refine WO.gno rfl rfl ?_
    refine WO.gno rfl rfl ?_
    refine WO.pickT rfl rfl ?_
    refine WO.nil ?_
    exact ⟨S17, rfl, rfl, Ch.refl _ _, (Cov.cons rfl (Cov.skip rfl (Cov.skip rfl (Cov.skip rfl (Cov.skip rfl (Cov.skip rfl (Cov.skip rfl (Cov.skip rfl (Cov.refl _)))))))))⟩
  · have h := e29
    have h := iteF q27 h
    refine WO.gyes rfl rfl ?_
    refine WO.mv rfl ?_
    refine WO.gyes rfl rfl ?_
    refine WO.mv rfl ?_
    refine WO.gyes rfl rfl ?_
    refine WO.bsS (A := Y27) (S := S17) (M := [r5.2, r9.2]) (cs := [.int .i64 r5.2, .int .i64 r9.2]) 1 rfl rfl rfl ⟨[.int .i64 r5.2], _, rfl, rfl, ⟨[.int .i64 r9.2], _, rfl, rfl, rfl⟩⟩ rfl (fun v19 S20 c21 ho22 => ?_)
    have ho12 := ho12.to c21
    refine WO.gyes rfl rfl ?_
    obtain ⟨r23, e24, h⟩ := bindS h
    refine WO.callE (S := S20) rfl rfl (F76_ok e24 ho22.vw) (fun S25 c26 => ?_)
    have ho12 := ho12.to c26
    refine WO.gyes rfl rfl ?_
    refine WO.do rfl rfl ?_
    obtain rfl := someI h
    refine WO.pickF rfl rfl ?_
    refine WO.nil ?_
    exact ⟨S25, rfl, rfl, (c21.trans c26), (Cov.cons rfl (Cov.skip rfl (Cov.skip rfl (Cov.skip rfl (Cov.skip rfl (Cov.skip rfl (Cov.skip rfl (Cov.skip rfl (Cov.refl _)))))))))⟩
  have ho12 := ho12.to c31
  refine WO.nil ?_
  refine thenL_n ?_
  refine WC.cond rfl (fun q32 => ?_) (fun q32 => ?_)
  · have h := iteT q32 h
    refine WC.seq ?_
    refine WC.region ?_
    refine WO.asg rfl ?_
    refine WO.nil ?_
    refine thenL_n ?_
    refine WC.ret ?_
    refine thenL_r ?_
    obtain rfl := someI h
    exact ⟨.inr rfl, _, _, rfl, rfl, rfl⟩
  · have h := iteF q32 h
    refine WC.skip ?_
    refine thenL_n ?_
    refine WC.seq ?_
    refine WC.region ?_
    refine WO.asg rfl ?_
    refine WO.asg rfl ?_
    refine WO.nil ?_
    refine thenL_n ?_
    refine WC.seq ?_
    refine WC.block ?_
    obtain ⟨b93, e94, h⟩ := bindS h
    have ho12 := ho12.freeze
    refine WC.loopD e94 (fun s33 l' m' n' => ∃ S35 : Cx n, ∃ v36 : SV, S35.m = m' ∧ S35.n = n' ∧ Cov l' [(3, .sc (.int .i64 r5.1)), (5, .sc v36), (6, .sc (.int .i64 s33.2.1)), (7, .sc (.int .i64 s33.2.2.1)), (8, .sc (.int .i64 s33.2.2.2))] ∧ Rd Y3 S35 v36 s33.1) (fun b e l' m' n' => (match b with | .inl b37 => e = .exit 0 ∧ ∃ S38 : Cx n, S38.m = m' ∧ S38.n = n' ∧ Cov l' [(3, .sc (.int .i64 r5.1)), (7, .sc (.int .i64 b37.1)), (8, .sc (.int .i64 b37.2))] | .inr b37 => e = .ret ∧ ∃ S39 : Cx n, S39.m = m' ∧ S39.n = n' ∧ Cov l' [(2, .sc (.bool b37))])) (by exact ⟨(S30.drop 2), v11, rfl, rfl, (Cov.cons rfl (Cov.cons rfl (Cov.cons rfl (Cov.cons rfl (Cov.cons rfl (Cov.nil _)))))), ho12⟩) ?_ ?_
    · clear h
      rintro s33 q _ _ _ ⟨S40, v41, rfl, rfl, hc42, ho5⟩ h
      unfold F10_l0 at h
      refine WC.cov hc42 ?_
      refine WC.seq ?_
      refine WC.seq ?_
      refine WC.region ?_
      refine WO.mv rfl ?_
      refine WO.bin rfl rfl (by decide) (by decide) rfl ?_
      refine WO.nil ?_
      refine thenL_n ?_
      refine WC.cond rfl (fun q43 => ?_) (fun q43 => ?_)
      · have h := iteT q43 h
        refine WC.skip ?_
        refine thenL_n ?_
        refine WC.block ?_
        refine WC.seq ?_
        refine WC.region ?_
        refine WO.mv rfl ?_
        obtain ⟨r44, e45, h⟩ := bindS h
        refine WO.callF (S := S40) 3 rfl rfl (F81_ok e45 ho5.vw) Lay.flat_fl (fun v46 S48 c49 ho47 => ?_)
        have ho5 := ho5.to c49
        refine WO.mv rfl ?_
        refine WO.do rfl rfl ?_
        refine WO.do rfl rfl ?_
        refine WO.asg rfl ?_
        refine WO.asg rfl ?_
        refine WO.nil ?_
        refine thenL_n ?_
        refine WC.seq ?_
        refine WC.region ?_
        refine WO.mv rfl ?_
        obtain ⟨r50, e51, h⟩ := bindS h
        refine WO.callG (S := S48) [] [] rfl rfl (F27_ok (S0 := S48.mp []) e51 ho5.mp) (fun _ S56 S57 hb hR => ?_)
        obtain ⟨v52, v54, rfl, hR0, hR1⟩ := hR
        have c58 : Ch 1 S48 S57 := hb.ch [] 1
        have ho5 := ho5.to c58
        have ho47 := ho47.to c58
        have ho53 := hR0.bkS hb rfl
        have ho55 := hR1.bkS hb rfl
        refine WO.mv rfl ?_
        refine WO.do rfl rfl ?_
        refine WO.do rfl rfl ?_
        refine WO.alW (S := S57) (cs := [.nils, .nils]) 4 rfl rfl rfl (fun b59 S60 c61 ho62 => ?_)
        have ho5 := ho5.to c61
        have ho47 := ho47.to c61
        have ho53 := ho53.to c61
        have ho55 := ho55.to c61
        refine WO.stW (S := S60) (r := [v52, v54]) rfl ho62.at0 rfl rfl ho62 rfl rfl rfl rfl rfl (fun S63 c64 ho62 => ?_)
        have ho5 := ho5.to c64
        have ho47 := ho47.to c64
        have ho53 := ho53.to c64
        have ho55 := ho55.to c64
        refine WO.asg rfl ?_
        refine WO.nil ?_
        refine thenL_n ?_
        refine WC.seq ?_
        refine WC.seq ?_
        refine WC.region ?_
        refine WO.mv rfl ?_
        refine WO.mv rfl ?_
        refine WO.bsS (A := Y27) (S := S63) (M := [r44.2, r50.2]) (cs := [.int .i64 r44.2, .int .i64 r50.2]) 5 rfl rfl rfl ⟨[.int .i64 r44.2], _, rfl, rfl, ⟨[.int .i64 r50.2], _, rfl, rfl, rfl⟩⟩ rfl (fun v65 S66 c67 ho68 => ?_)
        have ho5 := ho5.to c67
        have ho47 := ho47.to c67
        have ho53 := ho53.to c67
        have ho55 := ho55.to c67
        have ho62 := ho62.to c67
        obtain ⟨r69, e70, h⟩ := bindS h
        refine WO.callE (S := S66) rfl rfl (F76_ok e70 ho68.vw) (fun S71 c72 => ?_)
        have ho5 := ho5.to c72
        have ho47 := ho47.to c72
        have ho53 := ho53.to c72
        have ho55 := ho55.to c72
        have ho62 := ho62.to c72
        have ho68 := ho68.to c72
        refine WO.do rfl rfl ?_
        refine WO.nil ?_
        refine thenL_n ?_
        refine WC.cond rfl (fun q73 => ?_) (fun q73 => ?_)
        · have h := iteT q73 h
          refine WC.seq ?_
          refine WC.region ?_
          refine WO.asg rfl ?_
          refine WO.nil ?_
          refine thenL_n ?_
          refine WC.ret ?_
          refine thenL_r ?_
          refine blockL_r ?_
          refine thenL_r ?_
          obtain rfl := someI h
          exact ⟨_, rfl, rfl, ⟨S71, rfl, rfl, (Cov.cons rfl (Cov.nil _))⟩⟩
        · have h := iteF q73 h
          refine WC.skip ?_
          refine thenL_n ?_
          refine WC.seq ?_
          refine WC.seq ?_
          refine WC.region ?_
          refine WO.mv rfl ?_
          refine WO.lenS rfl ho47.slv rfl ?_
          refine WO.bin rfl rfl (by decide) (by decide) rfl ?_
          refine WO.nil ?_
          refine thenL_n ?_
          obtain ⟨b75, e76, h⟩ := bindS h
          refine WC.mono (Q' := (fun b e l' m' n' => e = .normal ∧ ∃ S77 : Cx n, S77.m = m' ∧ S77.n = n' ∧ Cov l' [(3, .sc (.int .i64 r5.1)), (5, .sc v41), (7, .sc (.int .i64 b)), (8, .sc (.int .i64 s33.2.2.2)), (11, .sc ((.ptr b59 0)))] ∧ Rd Y3 S77 v41 s33.1 ∧ Bw S77 4 (.ptr b59 0) [v52, v54] ∧ Rd Y22 S77 v52 r50.1.1 ∧ Rd Y22 S77 v54 r50.1.2) b75) ?_ ?_
          · have h := e76
            dsimp only at h ⊢
            refine WC.cond rfl (fun q74 => ?_) (fun q74 => ?_)
            · have h := iteT q74 h
              refine WC.region ?_
              refine WO.mv rfl ?_
              refine WO.bin rfl rfl (by decide) (by decide) rfl ?_
              refine WO.asg rfl ?_
              refine WO.nil ?_
              obtain rfl := someI h
              exact ⟨rfl, ⟨S71, rfl, rfl, (Cov.cons rfl (Cov.cons rfl (Cov.cons rfl (Cov.cons rfl (Cov.cons rfl (Cov.nil _)))))), ho5, ho62, ho53, ho55⟩⟩
            · have h := iteF q74 h
              refine WC.skip ?_
              obtain rfl := someI h
              exact ⟨rfl, ⟨S71, rfl, rfl, (Cov.cons rfl (Cov.cons rfl (Cov.cons rfl (Cov.cons rfl (Cov.cons rfl (Cov.nil _)))))), ho5, ho62, ho53, ho55⟩⟩
          dsimp only
          rintro _ _ _ _ ⟨rfl, ⟨S78, rfl, rfl, hc79, ho5, ho62, ho53, ho55⟩⟩
          refine thenL_n ?_
          refine WC.cov hc79 ?_
          refine WC.seq ?_
          refine WC.seq ?_
          refine WC.region ?_
          refine WO.fldS (j := 0) (q := 0) rfl ho62.at0 ho62.ptr rfl rfl rfl (by decide) ?_
          refine WO.ldW rfl rfl ho62 rfl rfl ho62.lt rfl ?_
          refine WO.lenS rfl ho53.slv rfl ?_
          refine WO.bin rfl rfl (by decide) (by decide) rfl ?_
          refine WO.nil ?_
          refine thenL_n ?_
          refine WC.cond rfl (fun q80 => ?_) (fun q80 => ?_)
          · have h := iteT q80 h
            refine WC.region ?_
            refine WO.mv rfl ?_
            refine WO.bin rfl rfl (by decide) (by decide) rfl ?_
            refine WO.asg rfl ?_
            refine WO.nil ?_
            refine thenL_n ?_
            refine WC.region ?_
            refine WO.mv rfl ?_
            obtain ⟨r81, e82, h⟩ := bindS h
            refine WO.callF (S := S78) 6 rfl rfl (F82_ok e82 ho5.vw) Lay.flat_fl (fun v83 S85 c86 ho84 => ?_)
            have ho5 := ho5.to c86
            have ho62 := ho62.to c86
            have ho53 := ho53.to c86
            have ho55 := ho55.to c86
            refine WO.mv rfl ?_
            refine WO.do rfl rfl ?_
            refine WO.do rfl rfl ?_
            refine WO.asg rfl ?_
            refine WO.asg rfl ?_
            refine WO.nil ?_
            refine blockL_n ?_
            refine thenL_n ?_
            have ho84 := ho84.freeze
            obtain rfl := someI h
            exact ⟨_, rfl, ⟨(S85.drop 6), v83, rfl, rfl, (Cov.cons rfl (Cov.cons rfl (Cov.cons rfl (Cov.cons rfl (Cov.cons rfl (Cov.nil _)))))), ho84⟩⟩
          · have h := iteF q80 h
            refine WC.skip ?_
            refine thenL_n ?_
            refine WC.region ?_
            refine WO.mv rfl ?_
            obtain ⟨r87, e88, h⟩ := bindS h
            refine WO.callF (S := S78) 7 rfl rfl (F82_ok e88 ho5.vw) Lay.flat_fl (fun v89 S91 c92 ho90 => ?_)
            have ho5 := ho5.to c92
            have ho62 := ho62.to c92
            have ho53 := ho53.to c92
            have ho55 := ho55.to c92
            refine WO.mv rfl ?_
            refine WO.do rfl rfl ?_
            refine WO.do rfl rfl ?_
            refine WO.asg rfl ?_
            refine WO.asg rfl ?_
            refine WO.nil ?_
            refine blockL_n ?_
            refine thenL_n ?_
            have ho90 := ho90.freeze
            obtain rfl := someI h
            exact ⟨_, rfl, ⟨(S91.drop 7), v89, rfl, rfl, (Cov.cons rfl (Cov.cons rfl (Cov.cons rfl (Cov.cons rfl (Cov.cons rfl (Cov.nil _)))))), ho90⟩⟩
      · have h := iteF q43 h
        refine WC.exit ?_
        refine thenL_e ?_
        refine thenL_e ?_
        obtain rfl := someI h
        exact ⟨_, rfl, rfl, ⟨S40, rfl, rfl, (Cov.cons rfl (Cov.cons rfl (Cov.cons rfl (Cov.nil _))))⟩⟩
    cases b93 with
    | inl b95 =>
      simp only at h
      rintro _ _ _ _ ⟨rfl, ⟨S96, rfl, rfl, hc97⟩⟩
      refine blockL_s ?_
      refine thenL_n ?_
      refine WC.cov hc97 ?_
      refine WC.seq ?_
      refine WC.region ?_
      refine WO.mv rfl ?_
      refine WO.mv rfl ?_
      refine WO.bin rfl rfl (by decide) (by decide) rfl ?_
      refine WO.mv rfl ?_
      refine WO.cutB (d := 74) 4 ((b95.1 == r5.1) && (b95.2 == r5.1)) (fun q98 => ?_) (fun q98 => ?_) ?_
      · skip
        refine WO.gyes rfl rfl ?_
        refine WO.mv rfl ?_
        refine WO.gyes rfl rfl ?_
        refine WO.mv rfl ?_
        refine WO.gyes rfl rfl ?_
        refine WO.bin rfl rfl (by decide) (by decide) rfl ?_
        refine WO.pickT rfl rfl ?_
        refine WO.nil ?_
        exact ⟨rfl, rfl, (Cov.any rfl (andT q98) (Cov.skip rfl (Cov.skip rfl (Cov.skip rfl (Cov.skip rfl (Cov.skip rfl (Cov.refl _)))))))⟩
      · refine WO.gno rfl rfl ?_
        refine WO.gno rfl rfl ?_
        refine WO.gno rfl rfl ?_
        refine WO.pickF rfl rfl ?_
        refine WO.nil ?_
        exact ⟨rfl, rfl, (Cov.any rfl (andF q98) (Cov.skip rfl (Cov.skip rfl (Cov.skip rfl (Cov.skip rfl (Cov.skip rfl (Cov.refl _)))))))⟩
      refine WO.asg rfl ?_
      refine WO.nil ?_
      refine thenL_n ?_
      refine WC.ret ?_
      obtain rfl := someI h
      exact ⟨.inr rfl, _, _, rfl, rfl, rfl⟩
    | inr b95 =>
      simp only at h
      rintro _ _ _ _ ⟨rfl, ⟨S99, rfl, rfl, hc100⟩⟩
      refine blockL_r ?_
      refine thenL_r ?_
      obtain rfl := someI h
      exact ⟨.inr rfl, _, _, (resK_cov hc100 rfl), rfl, rfl⟩
end Go.Proofs.Ytihmliblbhjlaaa

/- The machine answers F80: printed by a program of ours (gen.py). -/
import Derived.Test.YtihmliblbhjlaaaDef
import Derived.Test.YtihmliblbhjlaaaEnv
import Derived.Test.YtihmliblbhjlaaaF117
import Derived.Test.YtihmliblbhjlaaaF136
import Derived.Test.YtihmliblbhjlaaaF72
set_option linter.unusedVariables false
namespace Go.Proofs.Ytihmliblbhjlaaa
open Go.Am
theorem F80.fn : E.fn 80 = some ⟨73, (Try.f80.body.getD .skip), Try.f80.results.toList, []⟩ := rfl
theorem F80_ok {F : Nat} {m : Mem} {n : Nat} {r : (List Int) × Int} {t0 : Int} {t1 : Int} (h : F80 F t0 t1 = some r)  : Ret E n 80 [.sc (.int .i64 t0), .sc (.int .i64 t1)] m n (fun v m' n' => ∃ w, v = .tup [.sc w, .sc (.int .i64 r.2)] ∧ Fr Y3 n m' n' w r.1) := by
  unfold F80 at h
  refine Ret.walk F80.fn ?_
  refine WC.start fun S0 em en hz => ?_
  refine WC.seq ?_
  refine WC.region ?_
  refine WO.asg rfl ?_
  refine WO.asg rfl ?_
  refine WO.nil ?_
  refine thenL_n ?_
  refine WC.seq ?_
  refine WC.region ?_
  refine WO.mv rfl ?_
  obtain ⟨r1, e2, h⟩ := bindS h
  refine WO.callE (S := S0) rfl rfl (F72_ok e2) (fun S3 c4 => ?_)
  refine WO.mv rfl ?_
  refine WO.do rfl rfl ?_
  refine WO.do rfl rfl ?_
  refine WO.asg rfl ?_
  refine WO.asg rfl ?_
  refine WO.nil ?_
  refine thenL_n ?_
  refine WC.seq ?_
  refine WC.seq ?_
  refine WC.region ?_
  refine WO.mv rfl ?_
  refine WO.bin rfl rfl (by decide) (by decide) rfl ?_
  refine WO.mv rfl ?_
  refine WO.cutB (d := 23) 3 ((r1.2 != 0) || (decide (t1 < 0))) (fun q5 => ?_) (fun q5 => ?_) ?_
  · refine WO.gno rfl rfl ?_
    refine WO.gno rfl rfl ?_
    refine WO.pickT rfl rfl ?_
    refine WO.nil ?_
    exact ⟨rfl, rfl, (Cov.any rfl (orT q5) (Cov.skip rfl (Cov.skip rfl (Cov.skip rfl (Cov.skip rfl (Cov.refl _))))))⟩
  · skip
    refine WO.gyes rfl rfl ?_
    refine WO.mv rfl ?_
    refine WO.gyes rfl rfl ?_
    refine WO.bin rfl rfl (by decide) (by decide) rfl ?_
    refine WO.pickF rfl rfl ?_
    refine WO.nil ?_
    exact ⟨rfl, rfl, (Cov.any rfl (orF q5) (Cov.skip rfl (Cov.skip rfl (Cov.skip rfl (Cov.skip rfl (Cov.refl _))))))⟩
  refine WO.mv rfl ?_
  refine WO.cutB (d := 28) 4 (((r1.2 != 0) || (decide (t1 < 0))) || (decide (t1 ≥ r1.1))) (fun q6 => ?_) (fun q6 => ?_) ?_
  · refine WO.gno rfl rfl ?_
    refine WO.gno rfl rfl ?_
    refine WO.gno rfl rfl ?_
    refine WO.pickT rfl rfl ?_
    refine WO.nil ?_
    exact ⟨rfl, rfl, (Cov.any rfl (orT q6) (Cov.skip rfl (Cov.skip rfl (Cov.skip rfl (Cov.skip rfl (Cov.skip rfl (Cov.refl _)))))))⟩
  · skip
    refine WO.gyes rfl rfl ?_
    refine WO.mv rfl ?_
    refine WO.gyes rfl rfl ?_
    refine WO.mv rfl ?_
    refine WO.gyes rfl rfl ?_
    refine WO.bin rfl rfl (by decide) (by decide) rfl ?_
    refine WO.pickF rfl rfl ?_
    refine WO.nil ?_
    exact ⟨rfl, rfl, (Cov.any rfl (orF q6) (Cov.skip rfl (Cov.skip rfl (Cov.skip rfl (Cov.skip rfl (Cov.skip rfl (Cov.refl _)))))))⟩
  refine WO.nil ?_
  refine thenL_n ?_
  refine WC.cond rfl (fun q7 => ?_) (fun q7 => ?_)
  · have h := iteT q7 h
    refine WC.seq ?_
    refine WC.region ?_
    refine WO.asg rfl ?_
    refine WO.asg rfl ?_
    refine WO.nil ?_
    refine thenL_n ?_
    refine WC.ret ?_
    refine thenL_r ?_
    obtain rfl := someI h
    exact ⟨.inr rfl, _, _, rfl, rfl, ⟨.nils, rfl, Fr.nil⟩⟩
  · have h := iteF q7 h
    refine WC.skip ?_
    refine thenL_n ?_
    refine WC.seq ?_
    refine WC.region ?_
    refine WO.mv rfl ?_
    obtain ⟨L8, e9, h⟩ := bindS h
    refine WO.mkS (A := Y3) (S := S3) 2 rfl rfl e9 rfl rfl rfl (fun v10 S11 c12 ho13 => ?_)
    refine WO.asg rfl ?_
    refine WO.nil ?_
    refine thenL_n ?_
    refine WC.seq ?_
    refine WC.seq ?_
    refine WC.region ?_
    refine WO.mv rfl ?_
    refine WO.lenS rfl ho13.slv rfl ?_
    refine WO.mv rfl ?_
    refine WO.nil ?_
    refine thenL_n ?_
    refine WC.block ?_
    obtain ⟨b24, e25, h⟩ := bindS h
    refine WC.loopD e25 (fun s14 l' m' n' => ∃ S15 : Cx n, S15.m = m' ∧ S15.n = n' ∧ Cov l' [(0, .sc (.int .i64 t0)), (1, .sc (.int .i64 t1)), (8, .sc v10), (32, .sc (.int .i64 ((L8.length : Int)))), (33, .sc (.int .i64 s14.1))] ∧ Ow Y3 S15 2 v10 s14.2) (fun b e l' m' n' => e = .exit 0 ∧ ∃ S16 : Cx n, S16.m = m' ∧ S16.n = n' ∧ Cov l' [(0, .sc (.int .i64 t0)), (1, .sc (.int .i64 t1)), (8, .sc v10)] ∧ Ow Y3 S16 2 v10 b) (by exact ⟨S11, rfl, rfl, (Cov.cons rfl (Cov.cons rfl (Cov.cons rfl (Cov.cons rfl (Cov.cons rfl (Cov.nil _)))))), ho13⟩) ?_ ?_
    · clear h
      rintro s14 q _ _ _ ⟨S17, rfl, rfl, hc18, ho13⟩ h
      unfold F80_l0 at h
      refine WC.cov hc18 ?_
      refine WC.seq ?_
      refine WC.region ?_
      refine WO.bin rfl rfl (by decide) (by decide) rfl ?_
      refine WO.nil ?_
      refine thenL_n ?_
      refine WC.seq ?_
      refine WC.cond rfl (fun q19 => ?_) (fun q19 => ?_)
      · have h := iteT q19 h
        refine WC.skip ?_
        refine thenL_n ?_
        refine WC.seq ?_
        refine WC.block ?_
        refine WC.seq ?_
        refine WC.region ?_
        refine WO.mv rfl ?_
        refine WO.asg rfl ?_
        refine WO.nil ?_
        refine thenL_n ?_
        refine WC.region ?_
        refine WO.mv rfl ?_
        refine WO.mv rfl ?_
        refine WO.mv rfl ?_
        obtain ⟨u20, e21, h⟩ := bindS h
        refine WO.ixS rfl rfl ho13.slv (ck_some e21) rfl ?_
        refine WO.st1 (u' := s14.1) rfl rfl ho13 (ck_nat e21) rfl rfl (fun S22 c23 ho13 => ?_)
        refine WO.nil ?_
        refine blockL_n ?_
        refine thenL_n ?_
        refine WC.region ?_
        refine WO.bin rfl rfl (by decide) (by decide) rfl ?_
        refine WO.mv rfl ?_
        refine WO.nil ?_
        refine thenL_n ?_
        obtain rfl := someI h
        exact ⟨_, rfl, ⟨S22, rfl, rfl, (Cov.cons rfl (Cov.cons rfl (Cov.cons rfl (Cov.cons rfl (Cov.cons rfl (Cov.nil _)))))), ho13⟩⟩
      · have h := iteF q19 h
        refine WC.exit ?_
        refine thenL_e ?_
        refine thenL_e ?_
        obtain rfl := someI h
        exact ⟨_, rfl, rfl, ⟨S17, rfl, rfl, (Cov.cons rfl (Cov.cons rfl (Cov.cons rfl (Cov.nil _)))), ho13⟩⟩
    rintro _ _ _ _ ⟨rfl, ⟨S26, rfl, rfl, hc27, ho13⟩⟩
    refine blockL_s ?_
    refine thenL_n ?_
    refine WC.cov hc27 ?_
    refine WC.seq ?_
    refine WC.region ?_
    refine WO.mv rfl ?_
    obtain ⟨L28, e29, h⟩ := bindS h
    refine WO.mkC (A := Y3) (S := S26) 3 rfl rfl e29 rfl rfl rfl (fun v30 S31 c32 ho33 => ?_)
    have ho13 := ho13.to c32
    refine WO.asg rfl ?_
    refine WO.nil ?_
    refine thenL_n ?_
    refine WC.seq ?_
    refine WC.seq ?_
    refine WC.region ?_
    refine WO.mv rfl ?_
    refine WO.bin rfl rfl (by decide) (by decide) rfl ?_
    refine WO.asg rfl ?_
    refine WO.nil ?_
    refine thenL_n ?_
    refine WC.block ?_
    obtain ⟨b77, e78, h⟩ := bindS h
    refine WC.loopD e78 (fun s34 l' m' n' => ∃ S37 : Cx n, ∃ v38 v39 : SV, S37.m = m' ∧ S37.n = n' ∧ Cov l' [(1, .sc (.int .i64 s34.1)), (8, .sc v38), (10, .sc v39), (11, .sc (.int .i64 s34.2.2.2))] ∧ Ow Y3 S37 2 v38 s34.2.1 ∧ Ow Y3 S37 3 v39 s34.2.2.1) (fun b e l' m' n' => e = .exit 2 ∧ ∃ S40 : Cx n, ∃ v41 : SV, S40.m = m' ∧ S40.n = n' ∧ Cov l' [(10, .sc v41)] ∧ Ow Y3 S40 3 v41 b) (by exact ⟨S31, v10, v30, rfl, rfl, (Cov.cons rfl (Cov.cons rfl (Cov.cons rfl (Cov.cons rfl (Cov.nil _))))), ho13, ho33⟩) ?_ ?_
    · clear h
      rintro s34 q _ _ _ ⟨S42, v43, v44, rfl, rfl, hc45, ho8, ho10⟩ h
      unfold F80_l1 at h
      refine WC.cov hc45 ?_
      refine WC.seq ?_
      refine WC.seq ?_
      refine WC.region ?_
      refine WO.mv rfl ?_
      refine WO.bin rfl rfl (by decide) (by decide) rfl ?_
      refine WO.nil ?_
      refine thenL_n ?_
      refine WC.cond rfl (fun q46 => ?_) (fun q46 => ?_)
      · have h := iteT q46 h
        refine WC.skip ?_
        refine thenL_n ?_
        refine WC.seq ?_
        refine WC.block ?_
        refine WC.seq ?_
        refine WC.region ?_
        refine WO.mv rfl ?_
        obtain ⟨r47, e48, h⟩ := bindS h
        refine WO.callE (S := S42) rfl rfl (F136_ok e48) (fun S49 c50 => ?_)
        have ho8 := ho8.to c50
        have ho10 := ho10.to c50
        refine WO.asg rfl ?_
        refine WO.nil ?_
        refine thenL_n ?_
        refine WC.seq ?_
        refine WC.region ?_
        refine WO.mv rfl ?_
        refine WO.mv rfl ?_
        refine WO.mv rfl ?_
        refine WO.mv rfl ?_
        obtain ⟨x51, e52, h⟩ := bindS h
        refine WO.quoD rfl rfl e52 ?_
        obtain ⟨x53, e54, h⟩ := bindS h
        refine WO.ixS rfl rfl ho8.slv (at?_lt e54) rfl ?_
        refine WO.ldF rfl ho8.ro (fun _ hi => hi) (at?_get e54) rfl rfl rfl ?_
        refine WO.bsS (A := Y3) (S := S49) (M := [x53]) (cs := [.int .i64 x53]) 4 rfl rfl rfl ⟨[.int .i64 x53], _, rfl, rfl, rfl⟩ rfl (fun v55 S56 c57 ho58 => ?_)
        have ho8 := ho8.to c57
        have ho10 := ho10.to c57
        obtain ⟨L59, e60, h⟩ := bindS h
        refine WO.appS rfl rfl ho10 ho58.ro e60 rfl rfl (fun v61 S62 c63 ho64 => ?_)
        have ho8 := ho8.to c63
        have ho58 := ho58.to c63
        refine WO.asg rfl ?_
        refine WO.nil ?_
        refine thenL_n ?_
        refine WC.seq ?_
        refine WC.drawN rfl rfl ?_
        have ho8z := ho8.oz
        have ho58z := ho58.oz
        have ho64z := ho64.oz
        refine WO.mv rfl ?_
        refine WO.mv rfl ?_
        refine WO.mv rfl ?_
        obtain ⟨x65, e66, h⟩ := bindS h
        refine WO.quoD rfl rfl e66 ?_
        refine WO.mv rfl ?_
        refine WO.mv rfl ?_
        obtain ⟨x67, e68, h⟩ := bindS h
        refine WO.quoD rfl rfl e68 ?_
        refine WO.bin rfl rfl (by decide) (by decide) rfl ?_
        obtain ⟨r69, e70, h⟩ := bindS h
        refine WO.callO (S := S62) ho8 (del?_ne e70) rfl rfl (fun bq hI => F117_ok e70 S62.le hI) Lay.flat_fl (fun v71 S72 c73 ho74 => ?_)
        have ho58z := ho58z.tow c73
        have ho64z := ho64z.tow c73
        have ho58 := ho58.to c73
        have ho64 := ho64.to c73
        refine WO.asg rfl ?_
        refine WO.nil ?_
        refine thenL_n ?_
        refine WC.region ?_
        refine WO.mv rfl ?_
        refine WO.mv rfl ?_
        obtain ⟨x75, e76, h⟩ := bindS h
        refine WO.remD rfl rfl e76 ?_
        refine WO.asg rfl ?_
        refine WO.nil ?_
        refine blockL_n ?_
        refine thenL_n ?_
        refine WC.region ?_
        refine WO.mv rfl ?_
        refine WO.bin rfl rfl (by decide) (by decide) rfl ?_
        refine WO.asg rfl ?_
        refine WO.nil ?_
        refine thenL_n ?_
        obtain rfl := someI h
        exact ⟨_, rfl, ⟨S72, v71, v61, rfl, rfl, (Cov.cons rfl (Cov.cons rfl (Cov.cons rfl (Cov.cons rfl (Cov.nil _))))), ho74, ho64⟩⟩
      · have h := iteF q46 h
        refine WC.exit ?_
        refine thenL_e ?_
        refine thenL_e ?_
        obtain rfl := someI h
        exact ⟨_, rfl, rfl, ⟨S42, v44, rfl, rfl, (Cov.cons rfl (Cov.nil _)), ho10⟩⟩
    rintro _ _ _ _ ⟨rfl, ⟨S79, v80, rfl, rfl, hc81, ho10⟩⟩
    refine blockL_s ?_
    refine thenL_n ?_
    refine WC.cov hc81 ?_
    refine WC.seq ?_
    refine WC.region ?_
    refine WO.mv rfl ?_
    refine WO.asg rfl ?_
    refine WO.asg rfl ?_
    refine WO.nil ?_
    refine thenL_n ?_
    refine WC.ret ?_
    obtain rfl := someI h
    exact ⟨.inr rfl, _, _, rfl, rfl, ⟨v80, rfl, (ho10.fr Lay.flat_fl)⟩⟩
end Go.Proofs.Ytihmliblbhjlaaa

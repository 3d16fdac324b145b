/- The machine answers F22: printed by a program of ours (gen.py). -/
import Derived.Test.YtihmliblbhjlaaaDef
import Derived.Test.YtihmliblbhjlaaaEnv
import Derived.Test.YtihmliblbhjlaaaF24
import Derived.Test.YtihmliblbhjlaaaF96
import Derived.Test.YtihmliblbhjlaaaF97
set_option linter.unusedVariables false
namespace Go.Proofs.Ytihmliblbhjlaaa
open Go.Am
theorem F22.fn : E.fn 22 = some ⟨103, (Try.f22.body.getD .skip), Try.f22.results.toList, []⟩ := rfl
theorem F22_ok {F : Nat} {fl : Nat} {S0 : Cx fl} {r : (List Int) × (List Int) × Int} {t0 : List (Int × Int × Bool × Bool)} {t1 : List (Int × Int × Int)} {t2 : Int} {vt0 : SV} {vt1 : SV} (h : F22 F t0 t1 t2 = some r) (hot0 : Rd Y115 S0 vt0 t0) (hot1 : Rd Y119 S0 vt1 t1) : Ret E fl 22 [.sc vt0, .sc vt1, .sc (.int .i64 t2)] S0.m S0.n (fun v m' n' => ∃ S' : Cx fl, S'.m = m' ∧ S'.n = n' ∧ ChM S0 S' ∧ (∃ w157 w158 : SV, v = .tup [.sc w157, .sc w158, .sc (.int .i64 r.2.2)] ∧ Ow Y3 S' 902 w157 r.1 ∧ Ow Y3 S' 904 w158 r.2.1)) := by
  unfold F22 at h
  refine Ret.walk F22.fn ?_
  have hM := ChM.refl S0
  refine WC.seq ?_
  refine WC.region ?_
  refine WO.asg rfl ?_
  refine WO.asg rfl ?_
  refine WO.asg rfl ?_
  refine WO.nil ?_
  refine thenL_n ?_
  refine WC.seq ?_
  refine WC.seq ?_
  refine WC.region ?_
  refine WO.mv rfl ?_
  refine WO.mv rfl ?_
  obtain ⟨r1, e2, h⟩ := bindS h
  refine WO.callE (S := S0) rfl rfl (F24_ok e2 hot0.vw hot1.vw) (fun S3 c4 => ?_)
  have hot0 := hot0.to c4
  have hot1 := hot1.to c4
  have hM := hM.to c4
  refine WO.asg rfl ?_
  refine WO.nil ?_
  refine thenL_n ?_
  refine WC.seq ?_
  refine WC.region ?_
  refine WO.mv rfl ?_
  refine WO.bin rfl rfl (by decide) (by decide) rfl ?_
  refine WO.nil ?_
  refine thenL_n ?_
  refine WC.cond rfl (fun q5 => ?_) (fun q5 => ?_)
  · have h := iteT q5 h
    refine WC.seq ?_
    refine WC.region ?_
    refine WO.mv rfl ?_
    refine WO.asg rfl ?_
    refine WO.asg rfl ?_
    refine WO.asg rfl ?_
    refine WO.nil ?_
    refine thenL_n ?_
    refine WC.ret ?_
    refine thenL_r ?_
    obtain rfl := someI h
    exact ⟨.inr rfl, _, _, rfl, rfl, ⟨S3, rfl, rfl, hM, .nils, .nils, rfl, Ow.nil, Ow.nil⟩⟩
  · have h := iteF q5 h
    refine WC.skip ?_
    refine thenL_n ?_
    refine WC.seq ?_
    refine WC.seq ?_
    refine WC.region ?_
    refine WO.mv rfl ?_
    refine WO.bin rfl rfl (by decide) (by decide) rfl ?_
    refine WO.mv rfl ?_
    refine WO.cutB (d := 30) 3 ((decide (t2 < 0)) || (decide (t2 > 200))) (fun q6 => ?_) (fun q6 => ?_) ?_
    · refine WO.gno rfl rfl ?_
      refine WO.gno rfl rfl ?_
      refine WO.pickT rfl rfl ?_
      refine WO.nil ?_
      exact ⟨rfl, rfl, (Cov.any rfl (orT q6) (Cov.skip rfl (Cov.skip rfl (Cov.skip rfl (Cov.skip rfl (Cov.refl _))))))⟩
    · skip
      refine WO.gyes rfl rfl ?_
      refine WO.mv rfl ?_
      refine WO.gyes rfl rfl ?_
      refine WO.bin rfl rfl (by decide) (by decide) rfl ?_
      refine WO.pickF rfl rfl ?_
      refine WO.nil ?_
      exact ⟨rfl, rfl, (Cov.any rfl (orF q6) (Cov.skip rfl (Cov.skip rfl (Cov.skip rfl (Cov.skip rfl (Cov.refl _))))))⟩
    refine WO.nil ?_
    refine thenL_n ?_
    refine WC.cond rfl (fun q7 => ?_) (fun q7 => ?_)
    · have h := iteT q7 h
      refine WC.seq ?_
      refine WC.region ?_
      refine WO.asg rfl ?_
      refine WO.asg rfl ?_
      refine WO.asg rfl ?_
      refine WO.nil ?_
      refine thenL_n ?_
      refine WC.ret ?_
      refine thenL_r ?_
      obtain rfl := someI h
      exact ⟨.inr rfl, _, _, rfl, rfl, ⟨S3, rfl, rfl, hM, .nils, .nils, rfl, Ow.nil, Ow.nil⟩⟩
    · have h := iteF q7 h
      refine WC.skip ?_
      refine thenL_n ?_
      refine WC.seq ?_
      refine WC.region ?_
      refine WO.asg rfl ?_
      refine WO.nil ?_
      refine thenL_n ?_
      refine WC.seq ?_
      refine WC.seq ?_
      refine WC.region ?_
      refine WO.mv rfl ?_
      refine WO.lenS rfl hot0.slv rfl ?_
      refine WO.mv rfl ?_
      refine WO.nil ?_
      refine thenL_n ?_
      refine WC.block ?_
      obtain ⟨b36, e37, h⟩ := bindS h
      refine WC.loopD e37 (fun s8 l' m' n' => ∃ S10 : Cx fl, ∃ v11 : SV, S10.m = m' ∧ S10.n = n' ∧ Cov l' [(1, .sc vt1), (2, .sc (.int .i64 t2)), (10, .sc v11), (31, .sc vt0), (32, .sc (.int .i64 ((t0.length : Int)))), (33, .sc (.int .i64 s8.2))] ∧ ChM S0 S10 ∧ Rd Y119 S10 vt1 t1 ∧ Rd Y115 S10 vt0 t0 ∧ Ow Y117 S10 2 v11 s8.1) (fun b e l' m' n' => e = .exit 0 ∧ ∃ S12 : Cx fl, ∃ v13 : SV, S12.m = m' ∧ S12.n = n' ∧ Cov l' [(1, .sc vt1), (2, .sc (.int .i64 t2)), (10, .sc v13)] ∧ ChM S0 S12 ∧ Rd Y119 S12 vt1 t1 ∧ Ow Y117 S12 2 v13 b) (by exact ⟨S3, .nils, rfl, rfl, (Cov.cons rfl (Cov.cons rfl (Cov.cons rfl (Cov.cons rfl (Cov.cons rfl (Cov.cons rfl (Cov.nil _))))))), hM, hot1, hot0, Ow.nil⟩) ?_ ?_
      · clear h
        rintro s8 q _ _ _ ⟨S14, v15, rfl, rfl, hc16, hM, hot1, hot0, ho10⟩ h
        unfold F22_l0 at h
        refine WC.cov hc16 ?_
        refine WC.seq ?_
        refine WC.region ?_
        refine WO.bin rfl rfl (by decide) (by decide) rfl ?_
        refine WO.nil ?_
        refine thenL_n ?_
        refine WC.seq ?_
        refine WC.cond rfl (fun q17 => ?_) (fun q17 => ?_)
        · have h := iteT q17 h
          refine WC.skip ?_
          refine thenL_n ?_
          refine WC.seq ?_
          refine WC.block ?_
          refine WC.seq ?_
          refine WC.region ?_
          obtain ⟨x18, e19, h⟩ := bindS h
          refine WO.ixS rfl rfl hot0.slv (at?_lt e19) rfl ?_
          refine WO.ldA rfl hot0.ro (fun _ hi => hi) (at?_get e19) rfl rfl ?_
          refine WO.alS (A := Y115) (S := S14) (z0 := (0, 0, false, false)) 3 rfl rfl rfl (fun v20 S21 c22 ho23 => ?_)
          have hM := hM.to c22
          have hot1 := hot1.to c22
          have hot0 := hot0.to c22
          have ho10 := ho10.to c22
          refine WO.stBA (u' := (x18.1, x18.2.1, x18.2.2.1, x18.2.2.2)) rfl ho23.at0 rfl ho23 rfl rfl (fun S24 c25 ho23 => ?_)
          have hM := hM.to c25
          have hot1 := hot1.to c25
          have hot0 := hot0.to c25
          have ho10 := ho10.to c25
          refine WO.nil ?_
          refine thenL_n ?_
          refine WC.region ?_
          refine WO.mv rfl ?_
          refine WO.ldBA (j := 0) rfl ho23.at0 ho23 rfl rfl ?_
          refine WO.do rfl rfl ?_
          refine WO.bsS (A := Y117) (S := S24) (M := [((((x18.1, x18.2.1, x18.2.2.1, x18.2.2.2)).1, ((x18.1, x18.2.1, x18.2.2.1, x18.2.2.2)).2.1, ((x18.1, x18.2.1, x18.2.2.1, x18.2.2.2)).2.2.1, ((x18.1, x18.2.1, x18.2.2.1, x18.2.2.2)).2.2.2), 0)]) (cs := [.int .i64 (((x18.1, x18.2.1, x18.2.2.1, x18.2.2.2)).1), .int .i64 (((x18.1, x18.2.1, x18.2.2.1, x18.2.2.2)).2.1), .bool (((x18.1, x18.2.1, x18.2.2.1, x18.2.2.2)).2.2.1), .bool (((x18.1, x18.2.1, x18.2.2.1, x18.2.2.2)).2.2.2), .int .i64 0]) 4 rfl rfl rfl ⟨[.int .i64 (((x18.1, x18.2.1, x18.2.2.1, x18.2.2.2)).1), .int .i64 (((x18.1, x18.2.1, x18.2.2.1, x18.2.2.2)).2.1), .bool (((x18.1, x18.2.1, x18.2.2.1, x18.2.2.2)).2.2.1), .bool (((x18.1, x18.2.1, x18.2.2.1, x18.2.2.2)).2.2.2), .int .i64 0], _, rfl, rfl, rfl⟩ rfl (fun v26 S27 c28 ho29 => ?_)
          have hM := hM.to c28
          have hot1 := hot1.to c28
          have hot0 := hot0.to c28
          have ho10 := ho10.to c28
          have ho23 := ho23.to c28
          obtain ⟨L30, e31, h⟩ := bindS h
          refine WO.appS rfl rfl ho10 ho29.ro e31 rfl rfl (fun v32 S33 c34 ho35 => ?_)
          have hM := hM.to c34
          have hot1 := hot1.to c34
          have hot0 := hot0.to c34
          have ho23 := ho23.to c34
          have ho29 := ho29.to c34
          refine WO.asg rfl ?_
          refine WO.nil ?_
          refine blockL_n ?_
          refine thenL_n ?_
          refine WC.region ?_
          refine WO.bin rfl rfl (by decide) (by decide) rfl ?_
          refine WO.mv rfl ?_
          refine WO.nil ?_
          refine thenL_n ?_
          obtain rfl := someI h
          exact ⟨_, rfl, ⟨S33, v32, rfl, rfl, (Cov.cons rfl (Cov.cons rfl (Cov.cons rfl (Cov.cons rfl (Cov.cons rfl (Cov.cons rfl (Cov.nil _))))))), hM, hot1, hot0, ho35⟩⟩
        · have h := iteF q17 h
          refine WC.exit ?_
          refine thenL_e ?_
          refine thenL_e ?_
          obtain rfl := someI h
          exact ⟨_, rfl, rfl, ⟨S14, v15, rfl, rfl, (Cov.cons rfl (Cov.cons rfl (Cov.cons rfl (Cov.nil _)))), hM, hot1, ho10⟩⟩
      rintro _ _ _ _ ⟨rfl, ⟨S38, v39, rfl, rfl, hc40, hM, hot1, ho10⟩⟩
      refine blockL_s ?_
      refine thenL_n ?_
      refine WC.cov hc40 ?_
      refine WC.seq ?_
      refine WC.region ?_
      refine WO.asg rfl ?_
      refine WO.nil ?_
      refine thenL_n ?_
      refine WC.seq ?_
      refine WC.seq ?_
      refine WC.region ?_
      refine WO.mv rfl ?_
      refine WO.mv rfl ?_
      refine WO.nil ?_
      refine thenL_n ?_
      refine WC.block ?_
      obtain ⟨b119, e120, h⟩ := bindS h
      refine WC.loopD e120 (fun s41 l' m' n' => ∃ S44 : Cx fl, ∃ v45 v46 : SV, S44.m = m' ∧ S44.n = n' ∧ Cov l' [(1, .sc v45), (10, .sc v39), (13, .sc v46), (43, .sc (.int .i64 t2)), (44, .sc (.int .i64 s41.2.2.1))] ∧ ChM S0 S44 ∧ Ow Y117 S44 2 v39 s41.2.2.2 ∧ Rd Y119 S44 v45 s41.1 ∧ Ow Y3 S44 5 v46 s41.2.1) (fun b e l' m' n' => e = .exit 2 ∧ ∃ S47 : Cx fl, ∃ v48 : SV, S47.m = m' ∧ S47.n = n' ∧ Cov l' [(10, .sc v39), (13, .sc v48)] ∧ ChM S0 S47 ∧ Ow Y117 S47 2 v39 b.2 ∧ Ow Y3 S47 5 v48 b.1) (by exact ⟨S38, vt1, .nils, rfl, rfl, (Cov.cons rfl (Cov.cons rfl (Cov.cons rfl (Cov.cons rfl (Cov.cons rfl (Cov.nil _)))))), hM, ho10, hot1, Ow.nil⟩) ?_ ?_
      · clear h
        rintro s41 q _ _ _ ⟨S49, v50, v51, rfl, rfl, hc52, hM, ho10, ho1, ho13⟩ h
        unfold F22_l2 at h
        refine WC.cov hc52 ?_
        refine WC.seq ?_
        refine WC.region ?_
        refine WO.bin rfl rfl (by decide) (by decide) rfl ?_
        refine WO.nil ?_
        refine thenL_n ?_
        refine WC.seq ?_
        refine WC.cond rfl (fun q53 => ?_) (fun q53 => ?_)
        · have h := iteT q53 h
          refine WC.skip ?_
          refine thenL_n ?_
          refine WC.seq ?_
          refine WC.block ?_
          refine WC.seq ?_
          refine WC.region ?_
          refine WO.mv rfl ?_
          refine WO.asg rfl ?_
          refine WO.nil ?_
          refine thenL_n ?_
          refine WC.seq ?_
          refine WC.block ?_
          obtain ⟨b79, e80, h⟩ := bindS h
          refine WC.loopD e80 (fun s54 l' m' n' => ∃ S56 : Cx fl, ∃ v57 : SV, S56.m = m' ∧ S56.n = n' ∧ Cov l' [(1, .sc v57), (10, .sc v39), (13, .sc v51), (14, .sc (.int .i64 s41.2.2.1)), (43, .sc (.int .i64 t2)), (44, .sc (.int .i64 s41.2.2.1))] ∧ ChM S0 S56 ∧ Ow Y117 S56 2 v39 s54.2 ∧ Ow Y3 S56 5 v51 s41.2.1 ∧ Rd Y119 S56 v57 s54.1) (fun b e l' m' n' => e = .exit 4 ∧ ∃ S58 : Cx fl, ∃ v59 : SV, S58.m = m' ∧ S58.n = n' ∧ Cov l' [(1, .sc v59), (10, .sc v39), (13, .sc v51), (43, .sc (.int .i64 t2)), (44, .sc (.int .i64 s41.2.2.1))] ∧ ChM S0 S58 ∧ Ow Y117 S58 2 v39 b.2 ∧ Ow Y3 S58 5 v51 s41.2.1 ∧ Rd Y119 S58 v59 b.1) (by exact ⟨S49, v50, rfl, rfl, (Cov.cons rfl (Cov.cons rfl (Cov.cons rfl (Cov.cons rfl (Cov.cons rfl (Cov.cons rfl (Cov.nil _))))))), hM, ho10, ho13, ho1⟩) ?_ ?_
          · clear h
            rintro s54 q _ _ _ ⟨S60, v61, rfl, rfl, hc62, hM, ho10, ho13, ho1⟩ h
            unfold F22_l1 at h
            refine WC.cov hc62 ?_
            refine WC.seq ?_
            refine WC.seq ?_
            refine WC.region ?_
            refine WO.mv rfl ?_
            refine WO.lenS rfl ho1.slv rfl ?_
            refine WO.bin rfl rfl (by decide) (by decide) rfl ?_
            refine WO.mv rfl ?_
            obtain ⟨y66, e67, h⟩ := bindS h
            refine WO.cutB (d := 57) 7 y66 (fun q65 => ?_) (fun q65 => ?_) ?_
            · have h := e67
              have h := iteT q65 h
              refine WO.gyes rfl rfl ?_
              refine WO.mv rfl ?_
              refine WO.gyes rfl rfl ?_
              obtain ⟨x63, e64, h⟩ := bindS h
              refine WO.ixS rfl rfl ho1.slv (at?_lt e64) rfl ?_
              refine WO.gyes rfl rfl ?_
              refine WO.fldS rfl rfl (SlV.ptr ho1.slv (at?_nat e64)) rfl rfl rfl (by decide) ?_
              refine WO.gyes rfl rfl ?_
              refine WO.ldF rfl ho1.ro (fun _ hi => hi) (at?_get e64) rfl rfl rfl ?_
              refine WO.gyes rfl rfl ?_
              refine WO.mv rfl ?_
              refine WO.gyes rfl rfl ?_
              refine WO.bin rfl rfl (by decide) (by decide) rfl ?_
              obtain rfl := someI h
              refine WO.pickT rfl rfl ?_
              refine WO.nil ?_
              exact ⟨rfl, rfl, (Cov.cons rfl (Cov.skip rfl (Cov.skip rfl (Cov.skip rfl (Cov.skip rfl (Cov.skip rfl (Cov.skip rfl (Cov.skip rfl (Cov.skip rfl (Cov.refl _))))))))))⟩
            · have h := e67
              have h := iteF q65 h
              obtain rfl := someI h
              refine WO.gno rfl rfl ?_
              refine WO.gno rfl rfl ?_
              refine WO.gno rfl rfl ?_
              refine WO.gno rfl rfl ?_
              refine WO.gno rfl rfl ?_
              refine WO.gno rfl rfl ?_
              refine WO.pickF rfl rfl ?_
              refine WO.nil ?_
              exact ⟨rfl, rfl, (Cov.cons rfl (Cov.skip rfl (Cov.skip rfl (Cov.skip rfl (Cov.skip rfl (Cov.skip rfl (Cov.skip rfl (Cov.skip rfl (Cov.skip rfl (Cov.refl _))))))))))⟩
            refine WO.nil ?_
            refine thenL_n ?_
            refine WC.cond rfl (fun q68 => ?_) (fun q68 => ?_)
            · have h := iteT q68 h
              refine WC.skip ?_
              refine thenL_n ?_
              refine WC.block ?_
              refine WC.seq ?_
              refine WC.region ?_
              refine WO.mv rfl ?_
              refine WO.mv rfl ?_
              obtain ⟨x69, e70, h⟩ := bindS h
              refine WO.ixS rfl rfl ho1.slv (at?_lt e70) rfl ?_
              refine WO.ldA rfl ho1.ro (fun _ hi => hi) (at?_get e70) rfl rfl ?_
              obtain ⟨r71, e72, h⟩ := bindS h
              refine WO.callI (S := S60) ho10 rfl rfl (fun bq hI hB => F96_ok e72 S60.le hI) Lay.flat_fl (fun S73 c74 ho10 => ?_)
              have hM := hM.to c74
              have ho13 := ho13.to c74
              have ho1 := ho1.to c74
              refine WO.nil ?_
              refine thenL_n ?_
              refine WC.region ?_
              refine WO.mv rfl ?_
              obtain ⟨L75, e76, h⟩ := bindS h
              refine WO.slc (k' := .i64) rfl (.inl ⟨_, rfl, rfl⟩) (.inr ⟨rfl, rfl⟩) ho1 e76 rfl (fun v77 ho78 => ?_)
              have ho78 : Rd Y119 S73 v77 L75 := ho78
              refine WO.asg rfl ?_
              refine WO.nil ?_
              refine blockL_n ?_
              refine thenL_n ?_
              obtain rfl := someI h
              exact ⟨_, rfl, ⟨S73, v77, rfl, rfl, (Cov.cons rfl (Cov.cons rfl (Cov.cons rfl (Cov.cons rfl (Cov.cons rfl (Cov.cons rfl (Cov.nil _))))))), hM, ho10, ho13, ho78⟩⟩
            · have h := iteF q68 h
              refine WC.exit ?_
              refine thenL_e ?_
              refine thenL_e ?_
              obtain rfl := someI h
              exact ⟨_, rfl, rfl, ⟨S60, v61, rfl, rfl, (Cov.cons rfl (Cov.cons rfl (Cov.cons rfl (Cov.cons rfl (Cov.cons rfl (Cov.nil _)))))), hM, ho10, ho13, ho1⟩⟩
          rintro _ _ _ _ ⟨rfl, ⟨S81, v82, rfl, rfl, hc83, hM, ho10, ho13, ho1⟩⟩
          refine blockL_s ?_
          refine thenL_n ?_
          refine WC.cov hc83 ?_
          refine WC.seq ?_
          refine WC.region ?_
          refine WO.mv rfl ?_
          obtain ⟨r84, e85, h⟩ := bindS h
          refine WO.callE (S := S81) rfl rfl (F97_ok e85 ho10.vw) (fun S86 c87 => ?_)
          have hM := hM.to c87
          have ho10 := ho10.to c87
          have ho13 := ho13.to c87
          have ho1 := ho1.to c87
          refine WO.asg rfl ?_
          refine WO.nil ?_
          refine thenL_n ?_
          refine WC.seq ?_
          refine WC.seq ?_
          refine WC.region ?_
          refine WO.mv rfl ?_
          refine WO.bin rfl rfl (by decide) (by decide) rfl ?_
          refine WO.nil ?_
          refine thenL_n ?_
          refine WC.cond rfl (fun q88 => ?_) (fun q88 => ?_)
          · have h := iteT q88 h
            refine WC.drawN rfl rfl ?_
            have ho10z := ho10.oz
            have ho13z := ho13.oz
            have ho1z := ho1.oz
            refine WO.mv rfl ?_
            refine WO.mv rfl ?_
            obtain ⟨x89, e90, h⟩ := bindS h
            refine WO.ixS rfl rfl ho10.slv (at?_lt e90) rfl ?_
            refine WO.fldS rfl rfl (SlV.ptr ho10.slv (at?_nat e90)) rfl rfl rfl (by decide) ?_
            refine WO.ldF rfl ho10z (fun _ hi => hi.1) (at?_get e90) rfl rfl (limLe_self _) ?_
            refine WO.mv rfl ?_
            refine WO.mv rfl ?_
            obtain ⟨x91, e92, h⟩ := bindS h
            refine WO.ixS rfl rfl ho10.slv (at?_lt e92) rfl ?_
            refine WO.fldS rfl rfl (SlV.ptr ho10.slv (at?_nat e92)) rfl rfl rfl (by decide) ?_
            refine WO.fldS rfl rfl (SlV.ptr ho10.slv (at?_nat e92)) rfl rfl rfl (by decide) ?_
            refine WO.ldF rfl ho10z (fun _ hi => hi.1) (at?_get e92) rfl rfl (limLe_self _) ?_
            obtain ⟨x93, e94, h⟩ := bindS h
            refine WO.quoD rfl rfl e94 ?_
            refine WO.bin rfl rfl (by decide) (by decide) rfl ?_
            obtain ⟨x95, e96, h⟩ := bindS h
            refine WO.ixS rfl rfl ho10.slv (at?_lt e96) rfl ?_
            refine WO.fldS rfl rfl (SlV.ptr ho10.slv (at?_nat e96)) rfl rfl rfl (by decide) ?_
            refine WO.stF (q := 4) (u' := ((x95.1.1, x95.1.2.1, x95.1.2.2.1, x95.1.2.2.2), (wrapA .i64 (x89.2 + x93)))) rfl rfl ho10 (at?_get e96) rfl (by decide) rfl rfl (fun S97 c98 ho10 => ?_)
            have ho13z := ho13z.tow c98
            have ho1z := ho1z.toz c98
            have hM := hM.to c98
            have ho13 := ho13.to c98
            have ho1 := ho1.to c98
            refine WO.nil ?_
            refine thenL_n ?_
            refine WC.region ?_
            refine WO.mv rfl ?_
            refine WO.mv rfl ?_
            refine WO.bsS (A := Y3) (S := S97) (M := [r84]) (cs := [.int .i64 r84]) 6 rfl rfl rfl ⟨[.int .i64 r84], _, rfl, rfl, rfl⟩ rfl (fun v99 S100 c101 ho102 => ?_)
            have hM := hM.to c101
            have ho10 := ho10.to c101
            have ho13 := ho13.to c101
            have ho1 := ho1.to c101
            obtain ⟨L103, e104, h⟩ := bindS h
            refine WO.appS rfl rfl ho13 ho102.ro e104 rfl rfl (fun v105 S106 c107 ho108 => ?_)
            have hM := hM.to c107
            have ho10 := ho10.to c107
            have ho1 := ho1.to c107
            have ho102 := ho102.to c107
            refine WO.asg rfl ?_
            refine WO.nil ?_
            refine blockL_n ?_
            refine thenL_n ?_
            refine WC.region ?_
            refine WO.bin rfl rfl (by decide) (by decide) rfl ?_
            refine WO.mv rfl ?_
            refine WO.nil ?_
            refine thenL_n ?_
            obtain rfl := someI h
            exact ⟨_, rfl, ⟨S106, v82, v105, rfl, rfl, (Cov.cons rfl (Cov.cons rfl (Cov.cons rfl (Cov.cons rfl (Cov.cons rfl (Cov.nil _)))))), hM, ho10, ho1, ho108⟩⟩
          · have h := iteF q88 h
            refine WC.skip ?_
            refine thenL_n ?_
            refine WC.region ?_
            refine WO.mv rfl ?_
            refine WO.mv rfl ?_
            refine WO.bsS (A := Y3) (S := S86) (M := [r84]) (cs := [.int .i64 r84]) 7 rfl rfl rfl ⟨[.int .i64 r84], _, rfl, rfl, rfl⟩ rfl (fun v109 S110 c111 ho112 => ?_)
            have hM := hM.to c111
            have ho10 := ho10.to c111
            have ho13 := ho13.to c111
            have ho1 := ho1.to c111
            obtain ⟨L113, e114, h⟩ := bindS h
            refine WO.appS rfl rfl ho13 ho112.ro e114 rfl rfl (fun v115 S116 c117 ho118 => ?_)
            have hM := hM.to c117
            have ho10 := ho10.to c117
            have ho1 := ho1.to c117
            have ho112 := ho112.to c117
            refine WO.asg rfl ?_
            refine WO.nil ?_
            refine blockL_n ?_
            refine thenL_n ?_
            refine WC.region ?_
            refine WO.bin rfl rfl (by decide) (by decide) rfl ?_
            refine WO.mv rfl ?_
            refine WO.nil ?_
            refine thenL_n ?_
            obtain rfl := someI h
            exact ⟨_, rfl, ⟨S116, v82, v115, rfl, rfl, (Cov.cons rfl (Cov.cons rfl (Cov.cons rfl (Cov.cons rfl (Cov.cons rfl (Cov.nil _)))))), hM, ho10, ho1, ho118⟩⟩
        · have h := iteF q53 h
          refine WC.exit ?_
          refine thenL_e ?_
          refine thenL_e ?_
          obtain rfl := someI h
          exact ⟨_, rfl, rfl, ⟨S49, v51, rfl, rfl, (Cov.cons rfl (Cov.cons rfl (Cov.nil _))), hM, ho10, ho13⟩⟩
      rintro _ _ _ _ ⟨rfl, ⟨S121, v122, rfl, rfl, hc123, hM, ho10, ho13⟩⟩
      refine blockL_s ?_
      refine thenL_n ?_
      refine WC.cov hc123 ?_
      refine WC.seq ?_
      refine WC.region ?_
      refine WO.asg rfl ?_
      refine WO.nil ?_
      refine thenL_n ?_
      refine WC.seq ?_
      refine WC.seq ?_
      refine WC.region ?_
      refine WO.mv rfl ?_
      refine WO.lenS rfl ho10.slv rfl ?_
      refine WO.mv rfl ?_
      refine WO.nil ?_
      refine thenL_n ?_
      refine WC.block ?_
      obtain ⟨b152, e153, h⟩ := bindS h
      refine WC.loopD e153 (fun s124 l' m' n' => ∃ S126 : Cx fl, ∃ v127 : SV, S126.m = m' ∧ S126.n = n' ∧ Cov l' [(13, .sc v122), (16, .sc v127), (89, .sc v39), (90, .sc (.int .i64 ((b119.2.length : Int)))), (91, .sc (.int .i64 s124.2))] ∧ ChM S0 S126 ∧ Ow Y3 S126 5 v122 b119.1 ∧ Ow Y117 S126 2 v39 b119.2 ∧ Ow Y3 S126 8 v127 s124.1) (fun b e l' m' n' => e = .exit 6 ∧ ∃ S128 : Cx fl, ∃ v129 : SV, S128.m = m' ∧ S128.n = n' ∧ Cov l' [(13, .sc v122), (16, .sc v129)] ∧ ChM S0 S128 ∧ Ow Y3 S128 5 v122 b119.1 ∧ Ow Y3 S128 8 v129 b) (by exact ⟨S121, .nils, rfl, rfl, (Cov.cons rfl (Cov.cons rfl (Cov.cons rfl (Cov.cons rfl (Cov.cons rfl (Cov.nil _)))))), hM, ho13, ho10, Ow.nil⟩) ?_ ?_
      · clear h
        rintro s124 q _ _ _ ⟨S130, v131, rfl, rfl, hc132, hM, ho13, ho10, ho16⟩ h
        unfold F22_l3 at h
        refine WC.cov hc132 ?_
        refine WC.seq ?_
        refine WC.region ?_
        refine WO.bin rfl rfl (by decide) (by decide) rfl ?_
        refine WO.nil ?_
        refine thenL_n ?_
        refine WC.seq ?_
        refine WC.cond rfl (fun q133 => ?_) (fun q133 => ?_)
        · have h := iteT q133 h
          refine WC.skip ?_
          refine thenL_n ?_
          refine WC.seq ?_
          refine WC.block ?_
          refine WC.seq ?_
          refine WC.region ?_
          obtain ⟨x134, e135, h⟩ := bindS h
          refine WO.ixS rfl rfl ho10.slv (at?_lt e135) rfl ?_
          refine WO.ldA rfl ho10.ro (fun _ hi => hi) (at?_get e135) rfl rfl ?_
          refine WO.alS (A := Y117) (S := S130) (z0 := ((0, 0, false, false), 0)) 9 rfl rfl rfl (fun v136 S137 c138 ho139 => ?_)
          have hM := hM.to c138
          have ho13 := ho13.to c138
          have ho10 := ho10.to c138
          have ho16 := ho16.to c138
          refine WO.stBA (u' := ((x134.1.1, x134.1.2.1, x134.1.2.2.1, x134.1.2.2.2), x134.2)) rfl ho139.at0 rfl ho139 rfl rfl (fun S140 c141 ho139 => ?_)
          have hM := hM.to c141
          have ho13 := ho13.to c141
          have ho10 := ho10.to c141
          have ho16 := ho16.to c141
          refine WO.nil ?_
          refine thenL_n ?_
          refine WC.region ?_
          refine WO.mv rfl ?_
          refine WO.fldS (j := 0) (q := 0) rfl ho139.at0 ho139.ptr rfl rfl rfl (by decide) ?_
          refine WO.ldB (j := 0) (q := 4) rfl rfl ho139 rfl rfl rfl ?_
          refine WO.bsS (A := Y3) (S := S140) (M := [(((x134.1.1, x134.1.2.1, x134.1.2.2.1, x134.1.2.2.2), x134.2)).2]) (cs := [.int .i64 ((((x134.1.1, x134.1.2.1, x134.1.2.2.1, x134.1.2.2.2), x134.2)).2)]) 10 rfl rfl rfl ⟨[.int .i64 ((((x134.1.1, x134.1.2.1, x134.1.2.2.1, x134.1.2.2.2), x134.2)).2)], _, rfl, rfl, rfl⟩ rfl (fun v142 S143 c144 ho145 => ?_)
          have hM := hM.to c144
          have ho13 := ho13.to c144
          have ho10 := ho10.to c144
          have ho16 := ho16.to c144
          have ho139 := ho139.to c144
          obtain ⟨L146, e147, h⟩ := bindS h
          refine WO.appS rfl rfl ho16 ho145.ro e147 rfl rfl (fun v148 S149 c150 ho151 => ?_)
          have hM := hM.to c150
          have ho13 := ho13.to c150
          have ho10 := ho10.to c150
          have ho139 := ho139.to c150
          have ho145 := ho145.to c150
          refine WO.asg rfl ?_
          refine WO.nil ?_
          refine blockL_n ?_
          refine thenL_n ?_
          refine WC.region ?_
          refine WO.bin rfl rfl (by decide) (by decide) rfl ?_
          refine WO.mv rfl ?_
          refine WO.nil ?_
          refine thenL_n ?_
          obtain rfl := someI h
          exact ⟨_, rfl, ⟨S149, v148, rfl, rfl, (Cov.cons rfl (Cov.cons rfl (Cov.cons rfl (Cov.cons rfl (Cov.cons rfl (Cov.nil _)))))), hM, ho13, ho10, ho151⟩⟩
        · have h := iteF q133 h
          refine WC.exit ?_
          refine thenL_e ?_
          refine thenL_e ?_
          obtain rfl := someI h
          exact ⟨_, rfl, rfl, ⟨S130, v131, rfl, rfl, (Cov.cons rfl (Cov.cons rfl (Cov.nil _))), hM, ho13, ho16⟩⟩
      rintro _ _ _ _ ⟨rfl, ⟨S154, v155, rfl, rfl, hc156, hM, ho13, ho16⟩⟩
      refine blockL_s ?_
      refine thenL_n ?_
      refine WC.cov hc156 ?_
      refine WC.seq ?_
      refine WC.region ?_
      refine WO.mv rfl ?_
      refine WO.mv rfl ?_
      refine WO.asg rfl ?_
      refine WO.asg rfl ?_
      refine WO.asg rfl ?_
      refine WO.nil ?_
      refine thenL_n ?_
      refine WC.ret ?_
      have hM := hM.renO 5 902
      have ho13 := ho13.ren (j := 902)
      have ho16 := ho16.renO 5 902
      have hM := hM.renO 8 904
      have ho13 := ho13.renO 8 904
      have ho16 := ho16.ren (j := 904)
      obtain rfl := someI h
      exact ⟨.inr rfl, _, _, rfl, rfl, ⟨((S154.ren 5 902).ren 8 904), rfl, rfl, hM, v122, v155, rfl, ho13, ho16⟩⟩
end Go.Proofs.Ytihmliblbhjlaaa

/- The machine answers F4: printed by a program of ours (gen.py). -/
import Derived.Test.YtdkmepeolmdccaaDef
import Derived.Test.YtdkmepeolmdccaaEnv
import Derived.Test.YtdkmepeolmdccaaF23
import Derived.Test.YtdkmepeolmdccaaF24
import Derived.Test.YtdkmepeolmdccaaF25
import Derived.Test.YtdkmepeolmdccaaF26
import Derived.Test.YtdkmepeolmdccaaF27
import Derived.Test.YtdkmepeolmdccaaF28
import Derived.Test.YtdkmepeolmdccaaF29
import Derived.Test.YtdkmepeolmdccaaF30
import Derived.Test.YtdkmepeolmdccaaF31
import Derived.Test.YtdkmepeolmdccaaF32
set_option linter.unusedVariables false
namespace Go.Proofs.Ytdkmepeolmdccaa
open Go.Am
theorem F4.fn : E.fn 4 = some ⟨259, (Try.f4.body.getD .skip), Try.f4.results.toList, []⟩ := rfl
theorem F4_ok {F : Nat} {m : Mem} {n : Nat} {r : Bool} {t0 : List Int} {t1 : Int} {t2 : Int} {t3 : Int} {t4 : Int} {t5 : List Int} {vt0 : SV} {vt5 : SV} (h : F4 F t0 t1 t2 t3 t4 t5 = some r) (kt0 : Vw Y3 n m vt0 t0) (kt5 : Vw Y3 n m vt5 t5) : Ret E n 4 [.sc vt0, .sc (.int .i64 t1), .sc (.int .i64 t2), .sc (.int .i64 t3), .sc (.int .i64 t4), .sc vt5] m n (fun v m' n' => v = .sc (.bool r)) := by
  unfold F4 at h
  refine Ret.walk F4.fn ?_
  refine WC.start fun S0 em en hz => ?_
  have hot0 := kt0.rdS em hz
  have hot5 := kt5.rdS em hz
  refine WC.seq ?_
  refine WC.region ?_
  refine WO.asg rfl ?_
  refine WO.nil ?_
  refine thenL_n ?_
  refine WC.seq ?_
  refine WC.region ?_
  refine WO.mv rfl ?_
  obtain ⟨r1, e2, h⟩ := bindS h
  refine WO.callE (S := S0) rfl rfl (F23_ok e2 hot0.vw) (fun S3 c4 => ?_)
  have hot0 := hot0.to c4
  have hot5 := hot5.to c4
  refine WO.mv rfl ?_
  refine WO.do rfl rfl ?_
  refine WO.do rfl rfl ?_
  refine WO.asg rfl ?_
  refine WO.asg rfl ?_
  refine WO.nil ?_
  refine thenL_n ?_
  refine WC.seq ?_
  refine WC.region ?_
  refine WO.mv rfl ?_
  refine WO.mv rfl ?_
  obtain ⟨r5, e6, h⟩ := bindS h
  refine WO.callE (S := S3) rfl rfl (F24_ok e6 hot0.vw) (fun S7 c8 => ?_)
  have hot0 := hot0.to c8
  have hot5 := hot5.to c8
  refine WO.mv rfl ?_
  refine WO.do rfl rfl ?_
  refine WO.do rfl rfl ?_
  refine WO.asg rfl ?_
  refine WO.asg rfl ?_
  refine WO.nil ?_
  refine thenL_n ?_
  refine WC.seq ?_
  refine WC.region ?_
  refine WO.mv rfl ?_
  refine WO.mv rfl ?_
  refine WO.mv rfl ?_
  refine WO.mv rfl ?_
  obtain ⟨r9, e10, h⟩ := bindS h
  refine WO.callF (S := S7) 2 rfl rfl (F25_ok e10 hot0.vw) Lay.flat_fl (fun v11 S13 c14 ho12 => ?_)
  have hot0 := hot0.to c14
  have hot5 := hot5.to c14
  refine WO.mv rfl ?_
  refine WO.do rfl rfl ?_
  refine WO.do rfl rfl ?_
  refine WO.asg rfl ?_
  refine WO.asg rfl ?_
  refine WO.nil ?_
  refine thenL_n ?_
  refine WC.seq ?_
  refine WC.region ?_
  refine WO.mv rfl ?_
  refine WO.mv rfl ?_
  obtain ⟨r15, e16, h⟩ := bindS h
  refine WO.callF (S := S13) 3 rfl rfl (F26_ok e16 hot0.vw hot5.vw) Lay.flat_fl (fun v17 S19 c20 ho18 => ?_)
  have hot0 := hot0.to c20
  have hot5 := hot5.to c20
  have ho12 := ho12.to c20
  refine WO.mv rfl ?_
  refine WO.do rfl rfl ?_
  refine WO.do rfl rfl ?_
  refine WO.asg rfl ?_
  refine WO.asg rfl ?_
  refine WO.nil ?_
  refine thenL_n ?_
  refine WC.seq ?_
  refine WC.region ?_
  refine WO.mv rfl ?_
  obtain ⟨r21, e22, h⟩ := bindS h
  refine WO.callE (S := S19) rfl rfl (F27_ok e22 hot0.vw) (fun S23 c24 => ?_)
  have hot0 := hot0.to c24
  have hot5 := hot5.to c24
  have ho12 := ho12.to c24
  have ho18 := ho18.to c24
  refine WO.asg rfl ?_
  refine WO.nil ?_
  refine thenL_n ?_
  refine WC.seq ?_
  refine WC.seq ?_
  refine WC.region ?_
  refine WO.mv rfl ?_
  obtain ⟨r25, e26, h⟩ := bindS h
  refine WO.callE (S := S23) rfl rfl (F28_ok e26 hot0.vw) (fun S27 c28 => ?_)
  have hot0 := hot0.to c28
  have hot5 := hot5.to c28
  have ho12 := ho12.to c28
  have ho18 := ho18.to c28
  refine WO.mv rfl ?_
  refine WO.bin rfl rfl (by decide) (by decide) rfl ?_
  refine WO.nil ?_
  refine thenL_n ?_
  refine WC.cond rfl (fun q29 => ?_) (fun q29 => ?_)
  · have h := iteT q29 h
    refine WC.seq ?_
    refine WC.region ?_
    refine WO.asg rfl ?_
    refine WO.nil ?_
    refine thenL_n ?_
    refine WC.ret ?_
    refine thenL_r ?_
    obtain rfl := someI h
    exact ⟨.inr rfl, _, _, rfl, rfl, rfl⟩
  · have h := iteF q29 h
    refine WC.skip ?_
    refine thenL_n ?_
    refine WC.seq ?_
    refine WC.seq ?_
    refine WC.region ?_
    refine WO.mv rfl ?_
    refine WO.bin rfl rfl (by decide) (by decide) rfl ?_
    refine WO.nil ?_
    refine thenL_n ?_
    refine WC.cond rfl (fun q30 => ?_) (fun q30 => ?_)
    · have h := iteT q30 h
      refine WC.seq ?_
      refine WC.region ?_
      refine WO.mv rfl ?_
      refine WO.mv rfl ?_
      refine WO.bin rfl rfl (by decide) (by decide) rfl ?_
      refine WO.mv rfl ?_
      refine WO.cutB (d := 73) 4 ((r1.2 == r21) && (r5.2 == r21)) (fun q31 => ?_) (fun q31 => ?_) ?_
      · skip
        refine WO.gyes rfl rfl ?_
        refine WO.mv rfl ?_
        refine WO.gyes rfl rfl ?_
        refine WO.mv rfl ?_
        refine WO.gyes rfl rfl ?_
        refine WO.bin rfl rfl (by decide) (by decide) rfl ?_
        refine WO.pickT rfl rfl ?_
        refine WO.nil ?_
        exact ⟨rfl, rfl, (Cov.any rfl (andT q31) (Cov.skip rfl (Cov.skip rfl (Cov.skip rfl (Cov.skip rfl (Cov.skip rfl (Cov.refl _)))))))⟩
      · refine WO.gno rfl rfl ?_
        refine WO.gno rfl rfl ?_
        refine WO.gno rfl rfl ?_
        refine WO.pickF rfl rfl ?_
        refine WO.nil ?_
        exact ⟨rfl, rfl, (Cov.any rfl (andF q31) (Cov.skip rfl (Cov.skip rfl (Cov.skip rfl (Cov.skip rfl (Cov.skip rfl (Cov.refl _)))))))⟩
      refine WO.mv rfl ?_
      refine WO.cutB (d := 78) 4 (((r1.2 == r21) && (r5.2 == r21)) && (r9.2 == r21)) (fun q32 => ?_) (fun q32 => ?_) ?_
      · skip
        refine WO.gyes rfl rfl ?_
        refine WO.mv rfl ?_
        refine WO.gyes rfl rfl ?_
        refine WO.mv rfl ?_
        refine WO.gyes rfl rfl ?_
        refine WO.bin rfl rfl (by decide) (by decide) rfl ?_
        refine WO.pickT rfl rfl ?_
        refine WO.nil ?_
        exact ⟨rfl, rfl, (Cov.any rfl (andT q32) (Cov.skip rfl (Cov.skip rfl (Cov.skip rfl (Cov.skip rfl (Cov.skip rfl (Cov.refl _)))))))⟩
      · refine WO.gno rfl rfl ?_
        refine WO.gno rfl rfl ?_
        refine WO.gno rfl rfl ?_
        refine WO.pickF rfl rfl ?_
        refine WO.nil ?_
        exact ⟨rfl, rfl, (Cov.any rfl (andF q32) (Cov.skip rfl (Cov.skip rfl (Cov.skip rfl (Cov.skip rfl (Cov.skip rfl (Cov.refl _)))))))⟩
      refine WO.mv rfl ?_
      refine WO.cutB (d := 83) 4 ((((r1.2 == r21) && (r5.2 == r21)) && (r9.2 == r21)) && (r15.2 == r21)) (fun q33 => ?_) (fun q33 => ?_) ?_
      · skip
        refine WO.gyes rfl rfl ?_
        refine WO.mv rfl ?_
        refine WO.gyes rfl rfl ?_
        refine WO.mv rfl ?_
        refine WO.gyes rfl rfl ?_
        refine WO.bin rfl rfl (by decide) (by decide) rfl ?_
        refine WO.pickT rfl rfl ?_
        refine WO.nil ?_
        exact ⟨rfl, rfl, (Cov.any rfl (andT q33) (Cov.skip rfl (Cov.skip rfl (Cov.skip rfl (Cov.skip rfl (Cov.skip rfl (Cov.refl _)))))))⟩
      · refine WO.gno rfl rfl ?_
        refine WO.gno rfl rfl ?_
        refine WO.gno rfl rfl ?_
        refine WO.pickF rfl rfl ?_
        refine WO.nil ?_
        exact ⟨rfl, rfl, (Cov.any rfl (andF q33) (Cov.skip rfl (Cov.skip rfl (Cov.skip rfl (Cov.skip rfl (Cov.skip rfl (Cov.refl _)))))))⟩
      refine WO.mv rfl ?_
      refine WO.cutB (d := 87) 3 (((((r1.2 == r21) && (r5.2 == r21)) && (r9.2 == r21)) && (r15.2 == r21)) && (r1.1 == 0)) (fun q34 => ?_) (fun q34 => ?_) ?_
      · skip
        refine WO.gyes rfl rfl ?_
        refine WO.mv rfl ?_
        refine WO.gyes rfl rfl ?_
        refine WO.bin rfl rfl (by decide) (by decide) rfl ?_
        refine WO.pickT rfl rfl ?_
        refine WO.nil ?_
        exact ⟨rfl, rfl, (Cov.any rfl (andT q34) (Cov.skip rfl (Cov.skip rfl (Cov.skip rfl (Cov.skip rfl (Cov.refl _))))))⟩
      · refine WO.gno rfl rfl ?_
        refine WO.gno rfl rfl ?_
        refine WO.pickF rfl rfl ?_
        refine WO.nil ?_
        exact ⟨rfl, rfl, (Cov.any rfl (andF q34) (Cov.skip rfl (Cov.skip rfl (Cov.skip rfl (Cov.skip rfl (Cov.refl _))))))⟩
      refine WO.mv rfl ?_
      refine WO.cutB (d := 91) 3 ((((((r1.2 == r21) && (r5.2 == r21)) && (r9.2 == r21)) && (r15.2 == r21)) && (r1.1 == 0)) && (r5.1 == 0)) (fun q35 => ?_) (fun q35 => ?_) ?_
      · skip
        refine WO.gyes rfl rfl ?_
        refine WO.mv rfl ?_
        refine WO.gyes rfl rfl ?_
        refine WO.bin rfl rfl (by decide) (by decide) rfl ?_
        refine WO.pickT rfl rfl ?_
        refine WO.nil ?_
        exact ⟨rfl, rfl, (Cov.any rfl (andT q35) (Cov.skip rfl (Cov.skip rfl (Cov.skip rfl (Cov.skip rfl (Cov.refl _))))))⟩
      · refine WO.gno rfl rfl ?_
        refine WO.gno rfl rfl ?_
        refine WO.pickF rfl rfl ?_
        refine WO.nil ?_
        exact ⟨rfl, rfl, (Cov.any rfl (andF q35) (Cov.skip rfl (Cov.skip rfl (Cov.skip rfl (Cov.skip rfl (Cov.refl _))))))⟩
      refine WO.mv rfl ?_
      refine WO.cutB (d := 99) 7 (((((((r1.2 == r21) && (r5.2 == r21)) && (r9.2 == r21)) && (r15.2 == r21)) && (r1.1 == 0)) && (r5.1 == 0)) && ((wrapA .i64 ((r9.1.length : Int) + (r15.1.length : Int))) == 0)) (fun q36 => ?_) (fun q36 => ?_) ?_
      · skip
        refine WO.gyes rfl rfl ?_
        refine WO.mv rfl ?_
        refine WO.gyes rfl rfl ?_
        refine WO.lenS rfl ho12.slv rfl ?_
        refine WO.gyes rfl rfl ?_
        refine WO.mv rfl ?_
        refine WO.gyes rfl rfl ?_
        refine WO.lenS rfl ho18.slv rfl ?_
        refine WO.gyes rfl rfl ?_
        refine WO.bin rfl rfl (by decide) (by decide) rfl ?_
        refine WO.gyes rfl rfl ?_
        refine WO.bin rfl rfl (by decide) (by decide) rfl ?_
        refine WO.pickT rfl rfl ?_
        refine WO.nil ?_
        exact ⟨rfl, rfl, (Cov.any rfl (andT q36) (Cov.skip rfl (Cov.skip rfl (Cov.skip rfl (Cov.skip rfl (Cov.skip rfl (Cov.skip rfl (Cov.skip rfl (Cov.skip rfl (Cov.refl _))))))))))⟩
      · refine WO.gno rfl rfl ?_
        refine WO.gno rfl rfl ?_
        refine WO.gno rfl rfl ?_
        refine WO.gno rfl rfl ?_
        refine WO.gno rfl rfl ?_
        refine WO.gno rfl rfl ?_
        refine WO.pickF rfl rfl ?_
        refine WO.nil ?_
        exact ⟨rfl, rfl, (Cov.any rfl (andF q36) (Cov.skip rfl (Cov.skip rfl (Cov.skip rfl (Cov.skip rfl (Cov.skip rfl (Cov.skip rfl (Cov.skip rfl (Cov.skip rfl (Cov.refl _))))))))))⟩
      refine WO.asg rfl ?_
      refine WO.nil ?_
      refine thenL_n ?_
      refine WC.ret ?_
      refine thenL_r ?_
      obtain rfl := someI h
      exact ⟨.inr rfl, _, _, rfl, rfl, rfl⟩
    · have h := iteF q30 h
      refine WC.skip ?_
      refine thenL_n ?_
      refine WC.seq ?_
      refine WC.region ?_
      refine WO.asg rfl ?_
      refine WO.nil ?_
      refine thenL_n ?_
      refine WC.seq ?_
      refine WC.seq ?_
      refine WC.region ?_
      refine WO.mv rfl ?_
      refine WO.lenS rfl hot0.slv rfl ?_
      refine WO.mv rfl ?_
      refine WO.nil ?_
      refine thenL_n ?_
      refine WC.block ?_
      obtain ⟨b45, e46, h⟩ := bindS h
      refine WC.loopD e46 (fun s37 l' m' n' => ∃ S38 : Cx n, S38.m = m' ∧ S38.n = n' ∧ Cov l' [(0, .sc vt0), (1, .sc (.int .i64 t1)), (2, .sc (.int .i64 t2)), (3, .sc (.int .i64 t3)), (4, .sc (.int .i64 t4)), (5, .sc vt5), (13, .sc (.int .i64 r1.1)), (14, .sc (.int .i64 r1.2)), (15, .sc (.int .i64 r5.1)), (16, .sc (.int .i64 r5.2)), (17, .sc v11), (18, .sc (.int .i64 r9.2)), (19, .sc v17), (20, .sc (.int .i64 r15.2)), (21, .sc (.int .i64 r21)), (22, .sc (.int .i64 s37.1)), (100, .sc vt0), (101, .sc (.int .i64 ((t0.length : Int)))), (102, .sc (.int .i64 s37.2))] ∧ Rd Y3 S38 vt0 t0 ∧ Rd Y3 S38 vt5 t5 ∧ Ow Y3 S38 2 v11 r9.1 ∧ Ow Y3 S38 3 v17 r15.1) (fun b e l' m' n' => e = .exit 0 ∧ ∃ S39 : Cx n, S39.m = m' ∧ S39.n = n' ∧ Cov l' [(0, .sc vt0), (1, .sc (.int .i64 t1)), (2, .sc (.int .i64 t2)), (3, .sc (.int .i64 t3)), (4, .sc (.int .i64 t4)), (5, .sc vt5), (13, .sc (.int .i64 r1.1)), (14, .sc (.int .i64 r1.2)), (15, .sc (.int .i64 r5.1)), (16, .sc (.int .i64 r5.2)), (17, .sc v11), (18, .sc (.int .i64 r9.2)), (19, .sc v17), (20, .sc (.int .i64 r15.2)), (21, .sc (.int .i64 r21)), (22, .sc (.int .i64 b))] ∧ Rd Y3 S39 vt0 t0 ∧ Rd Y3 S39 vt5 t5 ∧ Ow Y3 S39 2 v11 r9.1 ∧ Ow Y3 S39 3 v17 r15.1) (by exact ⟨S27, rfl, rfl, (Cov.cons rfl (Cov.cons rfl (Cov.cons rfl (Cov.cons rfl (Cov.cons rfl (Cov.cons rfl (Cov.cons rfl (Cov.cons rfl (Cov.cons rfl (Cov.cons rfl (Cov.cons rfl (Cov.cons rfl (Cov.cons rfl (Cov.cons rfl (Cov.cons rfl (Cov.cons rfl (Cov.cons rfl (Cov.cons rfl (Cov.cons rfl (Cov.nil _)))))))))))))))))))), hot0, hot5, ho12, ho18⟩) ?_ ?_
      · clear h
        rintro s37 q _ _ _ ⟨S40, rfl, rfl, hc41, hot0, hot5, ho12, ho18⟩ h
        unfold F4_l0 at h
        refine WC.cov hc41 ?_
        refine WC.seq ?_
        refine WC.region ?_
        refine WO.bin rfl rfl (by decide) (by decide) rfl ?_
        refine WO.nil ?_
        refine thenL_n ?_
        refine WC.seq ?_
        refine WC.cond rfl (fun q42 => ?_) (fun q42 => ?_)
        · have h := iteT q42 h
          refine WC.skip ?_
          refine thenL_n ?_
          refine WC.seq ?_
          refine WC.block ?_
          refine WC.seq ?_
          refine WC.region ?_
          obtain ⟨x43, e44, h⟩ := bindS h
          refine WO.ixS rfl rfl hot0.slv (at?_lt e44) rfl ?_
          refine WO.ldF rfl hot0.ro (fun _ hi => hi) (at?_get e44) rfl rfl rfl ?_
          refine WO.asg rfl ?_
          refine WO.nil ?_
          refine thenL_n ?_
          refine WC.region ?_
          refine WO.mv rfl ?_
          refine WO.mv rfl ?_
          refine WO.bin rfl rfl (by decide) (by decide) rfl ?_
          refine WO.asg rfl ?_
          refine WO.nil ?_
          refine blockL_n ?_
          refine thenL_n ?_
          refine WC.region ?_
          refine WO.bin rfl rfl (by decide) (by decide) rfl ?_
          refine WO.mv rfl ?_
          refine WO.nil ?_
          refine thenL_n ?_
          obtain rfl := someI h
          exact ⟨_, rfl, ⟨S40, rfl, rfl, (Cov.cons rfl (Cov.cons rfl (Cov.cons rfl (Cov.cons rfl (Cov.cons rfl (Cov.cons rfl (Cov.cons rfl (Cov.cons rfl (Cov.cons rfl (Cov.cons rfl (Cov.cons rfl (Cov.cons rfl (Cov.cons rfl (Cov.cons rfl (Cov.cons rfl (Cov.cons rfl (Cov.cons rfl (Cov.cons rfl (Cov.cons rfl (Cov.nil _)))))))))))))))))))), hot0, hot5, ho12, ho18⟩⟩
        · have h := iteF q42 h
          refine WC.exit ?_
          refine thenL_e ?_
          refine thenL_e ?_
          obtain rfl := someI h
          exact ⟨_, rfl, rfl, ⟨S40, rfl, rfl, (Cov.cons rfl (Cov.cons rfl (Cov.cons rfl (Cov.cons rfl (Cov.cons rfl (Cov.cons rfl (Cov.cons rfl (Cov.cons rfl (Cov.cons rfl (Cov.cons rfl (Cov.cons rfl (Cov.cons rfl (Cov.cons rfl (Cov.cons rfl (Cov.cons rfl (Cov.cons rfl (Cov.nil _))))))))))))))))), hot0, hot5, ho12, ho18⟩⟩
      rintro _ _ _ _ ⟨rfl, ⟨S47, rfl, rfl, hc48, hot0, hot5, ho12, ho18⟩⟩
      refine blockL_s ?_
      refine thenL_n ?_
      refine WC.cov hc48 ?_
      refine WC.seq ?_
      refine WC.region ?_
      refine WO.mv rfl ?_
      refine WO.mv rfl ?_
      obtain ⟨r49, e50, h⟩ := bindS h
      refine WO.callE (S := S47) rfl rfl (F29_ok e50 hot0.vw) (fun S51 c52 => ?_)
      have hot0 := hot0.to c52
      have hot5 := hot5.to c52
      have ho12 := ho12.to c52
      have ho18 := ho18.to c52
      refine WO.mv rfl ?_
      refine WO.do rfl rfl ?_
      refine WO.do rfl rfl ?_
      refine WO.asg rfl ?_
      refine WO.asg rfl ?_
      refine WO.nil ?_
      refine thenL_n ?_
      refine WC.seq ?_
      refine WC.seq ?_
      refine WC.region ?_
      refine WO.mv rfl ?_
      refine WO.bin rfl rfl (by decide) (by decide) rfl ?_
      refine WO.mv rfl ?_
      refine WO.cutB (d := 122) 4 ((r1.2 != 0) || (r1.1 != b45)) (fun q53 => ?_) (fun q53 => ?_) ?_
      · refine WO.gno rfl rfl ?_
        refine WO.gno rfl rfl ?_
        refine WO.gno rfl rfl ?_
        refine WO.pickT rfl rfl ?_
        refine WO.nil ?_
        exact ⟨rfl, rfl, (Cov.any rfl (orT q53) (Cov.skip rfl (Cov.skip rfl (Cov.skip rfl (Cov.skip rfl (Cov.skip rfl (Cov.refl _)))))))⟩
      · skip
        refine WO.gyes rfl rfl ?_
        refine WO.mv rfl ?_
        refine WO.gyes rfl rfl ?_
        refine WO.mv rfl ?_
        refine WO.gyes rfl rfl ?_
        refine WO.bin rfl rfl (by decide) (by decide) rfl ?_
        refine WO.pickF rfl rfl ?_
        refine WO.nil ?_
        exact ⟨rfl, rfl, (Cov.any rfl (orF q53) (Cov.skip rfl (Cov.skip rfl (Cov.skip rfl (Cov.skip rfl (Cov.skip rfl (Cov.refl _)))))))⟩
      refine WO.mv rfl ?_
      refine WO.cutB (d := 127) 4 (((r1.2 != 0) || (r1.1 != b45)) || (r5.2 != r49.2)) (fun q54 => ?_) (fun q54 => ?_) ?_
      · refine WO.gno rfl rfl ?_
        refine WO.gno rfl rfl ?_
        refine WO.gno rfl rfl ?_
        refine WO.pickT rfl rfl ?_
        refine WO.nil ?_
        exact ⟨rfl, rfl, (Cov.any rfl (orT q54) (Cov.skip rfl (Cov.skip rfl (Cov.skip rfl (Cov.skip rfl (Cov.skip rfl (Cov.refl _)))))))⟩
      · skip
        refine WO.gyes rfl rfl ?_
        refine WO.mv rfl ?_
        refine WO.gyes rfl rfl ?_
        refine WO.mv rfl ?_
        refine WO.gyes rfl rfl ?_
        refine WO.bin rfl rfl (by decide) (by decide) rfl ?_
        refine WO.pickF rfl rfl ?_
        refine WO.nil ?_
        exact ⟨rfl, rfl, (Cov.any rfl (orF q54) (Cov.skip rfl (Cov.skip rfl (Cov.skip rfl (Cov.skip rfl (Cov.skip rfl (Cov.refl _)))))))⟩
      refine WO.mv rfl ?_
      refine WO.cutB (d := 132) 4 ((((r1.2 != 0) || (r1.1 != b45)) || (r5.2 != r49.2)) || (r5.1 != r49.1)) (fun q55 => ?_) (fun q55 => ?_) ?_
      · refine WO.gno rfl rfl ?_
        refine WO.gno rfl rfl ?_
        refine WO.gno rfl rfl ?_
        refine WO.pickT rfl rfl ?_
        refine WO.nil ?_
        exact ⟨rfl, rfl, (Cov.any rfl (orT q55) (Cov.skip rfl (Cov.skip rfl (Cov.skip rfl (Cov.skip rfl (Cov.skip rfl (Cov.refl _)))))))⟩
      · skip
        refine WO.gyes rfl rfl ?_
        refine WO.mv rfl ?_
        refine WO.gyes rfl rfl ?_
        refine WO.mv rfl ?_
        refine WO.gyes rfl rfl ?_
        refine WO.bin rfl rfl (by decide) (by decide) rfl ?_
        refine WO.pickF rfl rfl ?_
        refine WO.nil ?_
        exact ⟨rfl, rfl, (Cov.any rfl (orF q55) (Cov.skip rfl (Cov.skip rfl (Cov.skip rfl (Cov.skip rfl (Cov.skip rfl (Cov.refl _)))))))⟩
      refine WO.nil ?_
      refine thenL_n ?_
      refine WC.cond rfl (fun q56 => ?_) (fun q56 => ?_)
      · have h := iteT q56 h
        refine WC.seq ?_
        refine WC.region ?_
        refine WO.asg rfl ?_
        refine WO.nil ?_
        refine thenL_n ?_
        refine WC.ret ?_
        refine thenL_r ?_
        obtain rfl := someI h
        exact ⟨.inr rfl, _, _, rfl, rfl, rfl⟩
      · have h := iteF q56 h
        refine WC.skip ?_
        refine thenL_n ?_
        refine WC.seq ?_
        refine WC.block ?_
        refine WC.seq ?_
        refine WC.region ?_
        refine WO.mv rfl ?_
        refine WO.bin rfl rfl (by decide) (by decide) rfl ?_
        refine WO.mv rfl ?_
        refine WO.cutB (d := 141) 5 ((decide (t2 < 0)) || (decide (t2 ≥ (t0.length : Int)))) (fun q57 => ?_) (fun q57 => ?_) ?_
        · refine WO.gno rfl rfl ?_
          refine WO.gno rfl rfl ?_
          refine WO.gno rfl rfl ?_
          refine WO.gno rfl rfl ?_
          refine WO.pickT rfl rfl ?_
          refine WO.nil ?_
          exact ⟨rfl, rfl, (Cov.any rfl (orT q57) (Cov.skip rfl (Cov.skip rfl (Cov.skip rfl (Cov.skip rfl (Cov.skip rfl (Cov.skip rfl (Cov.refl _))))))))⟩
        · skip
          refine WO.gyes rfl rfl ?_
          refine WO.mv rfl ?_
          refine WO.gyes rfl rfl ?_
          refine WO.mv rfl ?_
          refine WO.gyes rfl rfl ?_
          refine WO.lenS rfl hot0.slv rfl ?_
          refine WO.gyes rfl rfl ?_
          refine WO.bin rfl rfl (by decide) (by decide) rfl ?_
          refine WO.pickF rfl rfl ?_
          refine WO.nil ?_
          exact ⟨rfl, rfl, (Cov.any rfl (orF q57) (Cov.skip rfl (Cov.skip rfl (Cov.skip rfl (Cov.skip rfl (Cov.skip rfl (Cov.skip rfl (Cov.refl _))))))))⟩
        refine WO.mv rfl ?_
        refine WO.cutB (d := 145) 3 (((decide (t2 < 0)) || (decide (t2 ≥ (t0.length : Int)))) || (decide (t3 < 0))) (fun q58 => ?_) (fun q58 => ?_) ?_
        · refine WO.gno rfl rfl ?_
          refine WO.gno rfl rfl ?_
          refine WO.pickT rfl rfl ?_
          refine WO.nil ?_
          exact ⟨rfl, rfl, (Cov.any rfl (orT q58) (Cov.skip rfl (Cov.skip rfl (Cov.skip rfl (Cov.skip rfl (Cov.refl _))))))⟩
        · skip
          refine WO.gyes rfl rfl ?_
          refine WO.mv rfl ?_
          refine WO.gyes rfl rfl ?_
          refine WO.bin rfl rfl (by decide) (by decide) rfl ?_
          refine WO.pickF rfl rfl ?_
          refine WO.nil ?_
          exact ⟨rfl, rfl, (Cov.any rfl (orF q58) (Cov.skip rfl (Cov.skip rfl (Cov.skip rfl (Cov.skip rfl (Cov.refl _))))))⟩
        refine WO.mv rfl ?_
        refine WO.cutB (d := 151) 5 ((((decide (t2 < 0)) || (decide (t2 ≥ (t0.length : Int)))) || (decide (t3 < 0))) || (decide (t3 ≥ (t0.length : Int)))) (fun q59 => ?_) (fun q59 => ?_) ?_
        · refine WO.gno rfl rfl ?_
          refine WO.gno rfl rfl ?_
          refine WO.gno rfl rfl ?_
          refine WO.gno rfl rfl ?_
          refine WO.pickT rfl rfl ?_
          refine WO.nil ?_
          exact ⟨rfl, rfl, (Cov.any rfl (orT q59) (Cov.skip rfl (Cov.skip rfl (Cov.skip rfl (Cov.skip rfl (Cov.skip rfl (Cov.skip rfl (Cov.refl _))))))))⟩
        · skip
          refine WO.gyes rfl rfl ?_
          refine WO.mv rfl ?_
          refine WO.gyes rfl rfl ?_
          refine WO.mv rfl ?_
          refine WO.gyes rfl rfl ?_
          refine WO.lenS rfl hot0.slv rfl ?_
          refine WO.gyes rfl rfl ?_
          refine WO.bin rfl rfl (by decide) (by decide) rfl ?_
          refine WO.pickF rfl rfl ?_
          refine WO.nil ?_
          exact ⟨rfl, rfl, (Cov.any rfl (orF q59) (Cov.skip rfl (Cov.skip rfl (Cov.skip rfl (Cov.skip rfl (Cov.skip rfl (Cov.skip rfl (Cov.refl _))))))))⟩
        refine WO.mv rfl ?_
        refine WO.cutB (d := 155) 3 (((((decide (t2 < 0)) || (decide (t2 ≥ (t0.length : Int)))) || (decide (t3 < 0))) || (decide (t3 ≥ (t0.length : Int)))) || (decide (t4 < 0))) (fun q60 => ?_) (fun q60 => ?_) ?_
        · refine WO.gno rfl rfl ?_
          refine WO.gno rfl rfl ?_
          refine WO.pickT rfl rfl ?_
          refine WO.nil ?_
          exact ⟨rfl, rfl, (Cov.any rfl (orT q60) (Cov.skip rfl (Cov.skip rfl (Cov.skip rfl (Cov.skip rfl (Cov.refl _))))))⟩
        · skip
          refine WO.gyes rfl rfl ?_
          refine WO.mv rfl ?_
          refine WO.gyes rfl rfl ?_
          refine WO.bin rfl rfl (by decide) (by decide) rfl ?_
          refine WO.pickF rfl rfl ?_
          refine WO.nil ?_
          exact ⟨rfl, rfl, (Cov.any rfl (orF q60) (Cov.skip rfl (Cov.skip rfl (Cov.skip rfl (Cov.skip rfl (Cov.refl _))))))⟩
        refine WO.asg rfl ?_
        refine WO.nil ?_
        refine thenL_n ?_
        obtain ⟨b71, e72, h⟩ := bindS h
        refine WC.mono (Q' := (fun b e l' m' n' => e = .normal ∧ ∃ S73 : Cx n, S73.m = m' ∧ S73.n = n' ∧ Cov l' [(0, .sc vt0), (2, .sc (.int .i64 t2)), (3, .sc (.int .i64 t3)), (4, .sc (.int .i64 t4)), (5, .sc vt5), (17, .sc v11), (18, .sc (.int .i64 r9.2)), (19, .sc v17), (20, .sc (.int .i64 r15.2)), (21, .sc (.int .i64 b))] ∧ Rd Y3 S73 vt0 t0 ∧ Rd Y3 S73 vt5 t5 ∧ Ow Y3 S73 2 v11 r9.1 ∧ Ow Y3 S73 3 v17 r15.1) b71) ?_ ?_
        · have h := e72
          dsimp only at h ⊢
          refine WC.cond rfl (fun q61 => ?_) (fun q61 => ?_)
          · have h := iteT q61 h
            refine WC.region ?_
            refine WO.asg rfl ?_
            refine WO.nil ?_
            obtain rfl := someI h
            exact ⟨rfl, ⟨S51, rfl, rfl, (Cov.cons rfl (Cov.cons rfl (Cov.cons rfl (Cov.cons rfl (Cov.cons rfl (Cov.cons rfl (Cov.cons rfl (Cov.cons rfl (Cov.cons rfl (Cov.cons rfl (Cov.nil _))))))))))), hot0, hot5, ho12, ho18⟩⟩
          · have h := iteF q61 h
            refine WC.seq ?_
            refine WC.region ?_
            refine WO.mv rfl ?_
            refine WO.mv rfl ?_
            refine WO.mv rfl ?_
            obtain ⟨x62, e63, h⟩ := bindS h
            refine WO.ixS rfl rfl hot0.slv (at?_lt e63) rfl ?_
            refine WO.ldF rfl hot0.ro (fun _ hi => hi) (at?_get e63) rfl rfl rfl ?_
            refine WO.bin rfl rfl (by decide) (by decide) rfl ?_
            refine WO.asg rfl ?_
            refine WO.nil ?_
            refine thenL_n ?_
            refine WC.cond rfl (fun q64 => ?_) (fun q64 => ?_)
            · have h := iteT q64 h
              refine WC.region ?_
              refine WO.asg rfl ?_
              refine WO.nil ?_
              obtain rfl := someI h
              exact ⟨rfl, ⟨S51, rfl, rfl, (Cov.cons rfl (Cov.cons rfl (Cov.cons rfl (Cov.cons rfl (Cov.cons rfl (Cov.cons rfl (Cov.cons rfl (Cov.cons rfl (Cov.cons rfl (Cov.cons rfl (Cov.nil _))))))))))), hot0, hot5, ho12, ho18⟩⟩
            · have h := iteF q64 h
              refine WC.seq ?_
              refine WC.region ?_
              refine WO.mv rfl ?_
              refine WO.mv rfl ?_
              refine WO.bin rfl rfl (by decide) (by decide) rfl ?_
              refine WO.mv rfl ?_
              obtain ⟨y68, e69, h⟩ := bindS h
              refine WO.cutB (d := 175) 8 y68 (fun q67 => ?_) (fun q67 => ?_) ?_
              · have h := e69
                have h := iteT q67 h
                refine WO.gyes rfl rfl ?_
                refine WO.mv rfl ?_
                refine WO.gyes rfl rfl ?_
                refine WO.mv rfl ?_
                refine WO.gyes rfl rfl ?_
                obtain ⟨x65, e66, h⟩ := bindS h
                refine WO.ixS rfl rfl hot0.slv (at?_lt e66) rfl ?_
                refine WO.gyes rfl rfl ?_
                refine WO.ldF rfl hot0.ro (fun _ hi => hi) (at?_get e66) rfl rfl rfl ?_
                refine WO.gyes rfl rfl ?_
                refine WO.mv rfl ?_
                refine WO.gyes rfl rfl ?_
                refine WO.bin rfl rfl (by decide) (by decide) rfl ?_
                refine WO.gyes rfl rfl ?_
                refine WO.bin rfl rfl (by decide) (by decide) rfl ?_
                obtain rfl := someI h
                refine WO.pickT rfl rfl ?_
                refine WO.nil ?_
                exact ⟨rfl, rfl, (Cov.cons rfl (Cov.skip rfl (Cov.skip rfl (Cov.skip rfl (Cov.skip rfl (Cov.skip rfl (Cov.skip rfl (Cov.skip rfl (Cov.skip rfl (Cov.skip rfl (Cov.refl _)))))))))))⟩
              · have h := e69
                have h := iteF q67 h
                obtain rfl := someI h
                refine WO.gno rfl rfl ?_
                refine WO.gno rfl rfl ?_
                refine WO.gno rfl rfl ?_
                refine WO.gno rfl rfl ?_
                refine WO.gno rfl rfl ?_
                refine WO.gno rfl rfl ?_
                refine WO.gno rfl rfl ?_
                refine WO.pickF rfl rfl ?_
                refine WO.nil ?_
                exact ⟨rfl, rfl, (Cov.cons rfl (Cov.skip rfl (Cov.skip rfl (Cov.skip rfl (Cov.skip rfl (Cov.skip rfl (Cov.skip rfl (Cov.skip rfl (Cov.skip rfl (Cov.skip rfl (Cov.refl _)))))))))))⟩
              refine WO.asg rfl ?_
              refine WO.nil ?_
              refine thenL_n ?_
              refine WC.cond rfl (fun q70 => ?_) (fun q70 => ?_)
              · have h := iteT q70 h
                refine WC.region ?_
                refine WO.asg rfl ?_
                refine WO.nil ?_
                obtain rfl := someI h
                exact ⟨rfl, ⟨S51, rfl, rfl, (Cov.cons rfl (Cov.cons rfl (Cov.cons rfl (Cov.cons rfl (Cov.cons rfl (Cov.cons rfl (Cov.cons rfl (Cov.cons rfl (Cov.cons rfl (Cov.cons rfl (Cov.nil _))))))))))), hot0, hot5, ho12, ho18⟩⟩
              · have h := iteF q70 h
                refine WC.skip ?_
                obtain rfl := someI h
                exact ⟨rfl, ⟨S51, rfl, rfl, (Cov.cons rfl (Cov.cons rfl (Cov.cons rfl (Cov.cons rfl (Cov.cons rfl (Cov.cons rfl (Cov.cons rfl (Cov.cons rfl (Cov.cons rfl (Cov.cons rfl (Cov.nil _))))))))))), hot0, hot5, ho12, ho18⟩⟩
        dsimp only
        rintro _ _ _ _ ⟨rfl, ⟨S74, rfl, rfl, hc75, hot0, hot5, ho12, ho18⟩⟩
        refine blockL_n ?_
        refine thenL_n ?_
        refine WC.cov hc75 ?_
        refine WC.seq ?_
        refine WC.seq ?_
        refine WC.region ?_
        refine WO.mv rfl ?_
        refine WO.mv rfl ?_
        refine WO.bin rfl rfl (by decide) (by decide) rfl ?_
        refine WO.mv rfl ?_
        refine WO.cutB (d := 187) 8 ((r9.2 != b71) || ((b71 != 0) && (decide ((r9.1.length : Int) > 0)))) (fun q77 => ?_) (fun q77 => ?_) ?_
        · refine WO.gno rfl rfl ?_
          refine WO.gno rfl rfl ?_
          refine WO.gno rfl rfl ?_
          refine WO.gskip rfl rfl ?_
          refine WO.gskip rfl rfl ?_
          refine WO.gskip rfl rfl ?_
          refine WO.gno rfl rfl ?_
          refine WO.pickT rfl rfl ?_
          refine WO.nil ?_
          exact ⟨rfl, rfl, (Cov.any rfl (orT q77) (Cov.skip rfl (Cov.skip rfl (Cov.skip rfl (Cov.skip rfl (Cov.skip rfl (Cov.skip rfl (Cov.skip rfl (Cov.skip rfl (Cov.skip rfl (Cov.refl _)))))))))))⟩
        · skip
          refine WO.gyes rfl rfl ?_
          refine WO.mv rfl ?_
          refine WO.gyes rfl rfl ?_
          refine WO.bin rfl rfl (by decide) (by decide) rfl ?_
          refine WO.gyes rfl rfl ?_
          refine WO.mv rfl ?_
          refine WO.cutB (d := 186) 4 ((b71 != 0) && (decide ((r9.1.length : Int) > 0))) (fun q76 => ?_) (fun q76 => ?_) ?_
          · skip
            refine WO.gyes rfl rfl ?_
            refine WO.mv rfl ?_
            refine WO.gyes rfl rfl ?_
            refine WO.lenS rfl ho12.slv rfl ?_
            refine WO.gyes rfl rfl ?_
            refine WO.bin rfl rfl (by decide) (by decide) rfl ?_
            refine WO.gyes rfl rfl ?_
            refine WO.pickT rfl rfl ?_
            refine WO.nil ?_
            exact ⟨rfl, rfl, (Cov.any rfl (andT q76) (Cov.skip rfl (Cov.skip rfl (Cov.skip rfl (Cov.skip rfl (Cov.skip rfl (Cov.refl _)))))))⟩
          · refine WO.gno rfl rfl ?_
            refine WO.gno rfl rfl ?_
            refine WO.gno rfl rfl ?_
            refine WO.gyes rfl rfl ?_
            refine WO.pickF rfl rfl ?_
            refine WO.nil ?_
            exact ⟨rfl, rfl, (Cov.any rfl (andF q76) (Cov.skip rfl (Cov.skip rfl (Cov.skip rfl (Cov.skip rfl (Cov.skip rfl (Cov.refl _)))))))⟩
          refine WO.pickF rfl rfl ?_
          refine WO.nil ?_
          exact ⟨rfl, rfl, (Cov.any rfl (orF q77) (Cov.skip rfl (Cov.skip rfl (Cov.skip rfl (Cov.skip rfl (Cov.skip rfl (Cov.refl _)))))))⟩
        refine WO.nil ?_
        refine thenL_n ?_
        refine WC.cond rfl (fun q78 => ?_) (fun q78 => ?_)
        · have h := iteT q78 h
          refine WC.seq ?_
          refine WC.region ?_
          refine WO.asg rfl ?_
          refine WO.nil ?_
          refine thenL_n ?_
          refine WC.ret ?_
          refine thenL_r ?_
          obtain rfl := someI h
          exact ⟨.inr rfl, _, _, rfl, rfl, rfl⟩
        · have h := iteF q78 h
          refine WC.skip ?_
          refine thenL_n ?_
          refine WC.seq ?_
          refine WC.seq ?_
          refine WC.region ?_
          refine WO.mv rfl ?_
          refine WO.bin rfl rfl (by decide) (by decide) rfl ?_
          refine WO.nil ?_
          refine thenL_n ?_
          obtain ⟨b103, e104, h⟩ := bindS h
          refine WC.mono (Q' := (fun b e l' m' n' => (match b with | .inl b105 => e = .normal ∧ ∃ S106 : Cx n, S106.m = m' ∧ S106.n = n' ∧ Cov l' [(0, .sc vt0), (5, .sc vt5), (19, .sc v17), (20, .sc (.int .i64 r15.2))] ∧ Rd Y3 S106 vt0 t0 ∧ Rd Y3 S106 vt5 t5 ∧ Ow Y3 S106 3 v17 r15.1 | .inr b105 => e = .ret ∧ ∃ S107 : Cx n, S107.m = m' ∧ S107.n = n' ∧ Cov l' [(12, .sc (.bool b105))])) b103) ?_ ?_
          · have h := e104
            dsimp only at h ⊢
            refine WC.cond rfl (fun q79 => ?_) (fun q79 => ?_)
            · have h := iteT q79 h
              refine WC.seq ?_
              refine WC.region ?_
              refine WO.mv rfl ?_
              obtain ⟨r80, e81, h⟩ := bindS h
              refine WO.callF (S := S74) 4 rfl rfl (F30_ok e81 hot0.vw) Lay.flat_fl (fun v82 S84 c85 ho83 => ?_)
              have hot0 := hot0.to c85
              have hot5 := hot5.to c85
              have ho12 := ho12.to c85
              have ho18 := ho18.to c85
              refine WO.asg rfl ?_
              refine WO.nil ?_
              refine thenL_n ?_
              refine WC.seq ?_
              refine WC.region ?_
              refine WO.mv rfl ?_
              refine WO.mv rfl ?_
              obtain ⟨x86, e87, h⟩ := bindS h
              refine WO.ixS rfl rfl ho83.slv (at?_lt e87) rfl ?_
              refine WO.ldF rfl ho83.ro (fun _ hi => hi) (at?_get e87) rfl rfl rfl ?_
              refine WO.mv rfl ?_
              refine WO.bin rfl rfl (by decide) (by decide) rfl ?_
              obtain ⟨u88, e89, h⟩ := bindS h
              refine WO.ixS rfl rfl ho83.slv (ck_some e89) rfl ?_
              refine WO.st1 (u' := (wrapA .i64 (x86 - t4))) rfl rfl ho83 (ck_nat e89) rfl rfl (fun S90 c91 ho83 => ?_)
              have hot0 := hot0.to c91
              have hot5 := hot5.to c91
              have ho12 := ho12.to c91
              have ho18 := ho18.to c91
              refine WO.nil ?_
              refine thenL_n ?_
              refine WC.seq ?_
              refine WC.region ?_
              refine WO.mv rfl ?_
              refine WO.mv rfl ?_
              obtain ⟨x92, e93, h⟩ := bindS h
              refine WO.ixS rfl rfl ho83.slv (at?_lt e93) rfl ?_
              refine WO.ldF rfl ho83.ro (fun _ hi => hi) (at?_get e93) rfl rfl rfl ?_
              refine WO.mv rfl ?_
              refine WO.bin rfl rfl (by decide) (by decide) rfl ?_
              obtain ⟨u94, e95, h⟩ := bindS h
              refine WO.ixS rfl rfl ho83.slv (ck_some e95) rfl ?_
              refine WO.st1 (u' := (wrapA .i64 (x92 + t4))) rfl rfl ho83 (ck_nat e95) rfl rfl (fun S96 c97 ho83 => ?_)
              have hot0 := hot0.to c97
              have hot5 := hot5.to c97
              have ho12 := ho12.to c97
              have ho18 := ho18.to c97
              refine WO.nil ?_
              refine thenL_n ?_
              refine WC.seq ?_
              refine WC.region ?_
              refine WO.mv rfl ?_
              refine WO.mv rfl ?_
              obtain ⟨r98, e99, h⟩ := bindS h
              refine WO.callE (S := S96) rfl rfl (F31_ok e99 ho12.vw ho83.vw) (fun S100 c101 => ?_)
              have hot0 := hot0.to c101
              have hot5 := hot5.to c101
              have ho12 := ho12.to c101
              have ho18 := ho18.to c101
              have ho83 := ho83.to c101
              refine WO.do rfl rfl ?_
              refine WO.nil ?_
              refine thenL_n ?_
              refine WC.cond rfl (fun q102 => ?_) (fun q102 => ?_)
              · have h := iteT q102 h
                refine WC.seq ?_
                refine WC.region ?_
                refine WO.asg rfl ?_
                refine WO.nil ?_
                refine thenL_n ?_
                refine WC.ret ?_
                obtain rfl := someI h
                exact ⟨rfl, ⟨S100, rfl, rfl, (Cov.cons rfl (Cov.nil _))⟩⟩
              · have h := iteF q102 h
                refine WC.skip ?_
                obtain rfl := someI h
                exact ⟨rfl, ⟨S100, rfl, rfl, (Cov.cons rfl (Cov.cons rfl (Cov.cons rfl (Cov.cons rfl (Cov.nil _))))), hot0, hot5, ho18⟩⟩
            · have h := iteF q79 h
              refine WC.skip ?_
              obtain rfl := someI h
              exact ⟨rfl, ⟨S74, rfl, rfl, (Cov.cons rfl (Cov.cons rfl (Cov.cons rfl (Cov.cons rfl (Cov.nil _))))), hot0, hot5, ho18⟩⟩
          dsimp only
          cases b103 with
          | inl b108 =>
            simp only at h
            rintro _ _ _ _ ⟨rfl, ⟨S109, rfl, rfl, hc110, hot0, hot5, ho18⟩⟩
            refine thenL_n ?_
            refine WC.cov hc110 ?_
            refine WC.seq ?_
            refine WC.seq ?_
            refine WC.region ?_
            refine WO.mv rfl ?_
            refine WO.lenS rfl hot5.slv rfl ?_
            refine WO.bin rfl rfl (by decide) (by decide) rfl ?_
            refine WO.nil ?_
            refine thenL_n ?_
            refine WC.cond rfl (fun q111 => ?_) (fun q111 => ?_)
            · have h := iteT q111 h
              refine WC.seq ?_
              refine WC.region ?_
              refine WO.mv rfl ?_
              refine WO.bin rfl rfl (by decide) (by decide) rfl ?_
              refine WO.mv rfl ?_
              refine WO.cutB (d := 219) 4 ((r15.2 == 2) && ((r15.1.length : Int) == 0)) (fun q112 => ?_) (fun q112 => ?_) ?_
              · skip
                refine WO.gyes rfl rfl ?_
                refine WO.mv rfl ?_
                refine WO.gyes rfl rfl ?_
                refine WO.lenS rfl ho18.slv rfl ?_
                refine WO.gyes rfl rfl ?_
                refine WO.bin rfl rfl (by decide) (by decide) rfl ?_
                refine WO.pickT rfl rfl ?_
                refine WO.nil ?_
                exact ⟨rfl, rfl, (Cov.any rfl (andT q112) (Cov.skip rfl (Cov.skip rfl (Cov.skip rfl (Cov.skip rfl (Cov.skip rfl (Cov.refl _)))))))⟩
              · refine WO.gno rfl rfl ?_
                refine WO.gno rfl rfl ?_
                refine WO.gno rfl rfl ?_
                refine WO.pickF rfl rfl ?_
                refine WO.nil ?_
                exact ⟨rfl, rfl, (Cov.any rfl (andF q112) (Cov.skip rfl (Cov.skip rfl (Cov.skip rfl (Cov.skip rfl (Cov.skip rfl (Cov.refl _)))))))⟩
              refine WO.asg rfl ?_
              refine WO.nil ?_
              refine thenL_n ?_
              refine WC.ret ?_
              refine thenL_r ?_
              obtain rfl := someI h
              exact ⟨.inr rfl, _, _, rfl, rfl, rfl⟩
            · have h := iteF q111 h
              refine WC.skip ?_
              refine thenL_n ?_
              refine WC.seq ?_
              refine WC.region ?_
              refine WO.mv rfl ?_
              refine WO.lenS rfl hot0.slv rfl ?_
              obtain ⟨L113, e114, h⟩ := bindS h
              refine WO.mkS (A := Y3) (S := S109) 5 rfl rfl e114 rfl rfl rfl (fun v115 S116 c117 ho118 => ?_)
              have hot0 := hot0.to c117
              have hot5 := hot5.to c117
              have ho18 := ho18.to c117
              refine WO.asg rfl ?_
              refine WO.nil ?_
              refine thenL_n ?_
              refine WC.seq ?_
              refine WC.seq ?_
              refine WC.region ?_
              refine WO.mv rfl ?_
              refine WO.lenS rfl hot5.slv rfl ?_
              refine WO.mv rfl ?_
              refine WO.nil ?_
              refine thenL_n ?_
              refine WC.block ?_
              obtain ⟨b141, e142, h⟩ := bindS h
              refine WC.loopD e142 (fun s119 l' m' n' => ∃ S120 : Cx n, S120.m = m' ∧ S120.n = n' ∧ Cov l' [(0, .sc vt0), (19, .sc v17), (20, .sc (.int .i64 r15.2)), (28, .sc v115), (223, .sc vt5), (224, .sc (.int .i64 ((t5.length : Int)))), (225, .sc (.int .i64 s119.1))] ∧ Rd Y3 S120 vt0 t0 ∧ Ow Y3 S120 3 v17 r15.1 ∧ Ow Y3 S120 5 v115 s119.2 ∧ Rd Y3 S120 vt5 t5) (fun b e l' m' n' => (match b with | .inl b121 => e = .exit 3 ∧ ∃ S122 : Cx n, S122.m = m' ∧ S122.n = n' ∧ Cov l' [(19, .sc v17), (20, .sc (.int .i64 r15.2)), (28, .sc v115)] ∧ Ow Y3 S122 3 v17 r15.1 ∧ Ow Y3 S122 5 v115 b121 | .inr b121 => e = .ret ∧ ∃ S123 : Cx n, S123.m = m' ∧ S123.n = n' ∧ Cov l' [(12, .sc (.bool b121))])) (by exact ⟨S116, rfl, rfl, (Cov.cons rfl (Cov.cons rfl (Cov.cons rfl (Cov.cons rfl (Cov.cons rfl (Cov.cons rfl (Cov.cons rfl (Cov.nil _)))))))), hot0, ho18, ho118, hot5⟩) ?_ ?_
              · clear h
                rintro s119 q _ _ _ ⟨S124, rfl, rfl, hc125, hot0, ho18, ho118, hot5⟩ h
                unfold F4_l1 at h
                refine WC.cov hc125 ?_
                refine WC.seq ?_
                refine WC.region ?_
                refine WO.bin rfl rfl (by decide) (by decide) rfl ?_
                refine WO.nil ?_
                refine thenL_n ?_
                refine WC.seq ?_
                refine WC.cond rfl (fun q126 => ?_) (fun q126 => ?_)
                · have h := iteT q126 h
                  refine WC.skip ?_
                  refine thenL_n ?_
                  refine WC.seq ?_
                  refine WC.block ?_
                  refine WC.seq ?_
                  refine WC.region ?_
                  obtain ⟨x127, e128, h⟩ := bindS h
                  refine WO.ixS rfl rfl hot5.slv (at?_lt e128) rfl ?_
                  refine WO.ldF rfl hot5.ro (fun _ hi => hi) (at?_get e128) rfl rfl rfl ?_
                  refine WO.asg rfl ?_
                  refine WO.nil ?_
                  refine thenL_n ?_
                  refine WC.seq ?_
                  refine WC.region ?_
                  refine WO.mv rfl ?_
                  refine WO.mv rfl ?_
                  obtain ⟨r129, e130, h⟩ := bindS h
                  refine WO.callE (S := S124) rfl rfl (F29_ok e130 hot0.vw) (fun S131 c132 => ?_)
                  have hot0 := hot0.to c132
                  have ho18 := ho18.to c132
                  have ho118 := ho118.to c132
                  have hot5 := hot5.to c132
                  refine WO.mv rfl ?_
                  refine WO.do rfl rfl ?_
                  refine WO.do rfl rfl ?_
                  refine WO.asg rfl ?_
                  refine WO.asg rfl ?_
                  refine WO.nil ?_
                  refine thenL_n ?_
                  refine WC.seq ?_
                  refine WC.seq ?_
                  refine WC.region ?_
                  refine WO.mv rfl ?_
                  refine WO.bin rfl rfl (by decide) (by decide) rfl ?_
                  refine WO.nil ?_
                  refine thenL_n ?_
                  refine WC.cond rfl (fun q133 => ?_) (fun q133 => ?_)
                  · have h := iteT q133 h
                    refine WC.seq ?_
                    refine WC.region ?_
                    refine WO.mv rfl ?_
                    refine WO.mv rfl ?_
                    refine WO.bin rfl rfl (by decide) (by decide) rfl ?_
                    refine WO.mv rfl ?_
                    refine WO.cutB (d := 244) 4 ((r15.2 == r129.2) && ((r15.1.length : Int) == 0)) (fun q134 => ?_) (fun q134 => ?_) ?_
                    · skip
                      refine WO.gyes rfl rfl ?_
                      refine WO.mv rfl ?_
                      refine WO.gyes rfl rfl ?_
                      refine WO.lenS rfl ho18.slv rfl ?_
                      refine WO.gyes rfl rfl ?_
                      refine WO.bin rfl rfl (by decide) (by decide) rfl ?_
                      refine WO.pickT rfl rfl ?_
                      refine WO.nil ?_
                      exact ⟨rfl, rfl, (Cov.any rfl (andT q134) (Cov.skip rfl (Cov.skip rfl (Cov.skip rfl (Cov.skip rfl (Cov.skip rfl (Cov.refl _)))))))⟩
                    · refine WO.gno rfl rfl ?_
                      refine WO.gno rfl rfl ?_
                      refine WO.gno rfl rfl ?_
                      refine WO.pickF rfl rfl ?_
                      refine WO.nil ?_
                      exact ⟨rfl, rfl, (Cov.any rfl (andF q134) (Cov.skip rfl (Cov.skip rfl (Cov.skip rfl (Cov.skip rfl (Cov.skip rfl (Cov.refl _)))))))⟩
                    refine WO.asg rfl ?_
                    refine WO.nil ?_
                    refine thenL_n ?_
                    refine WC.ret ?_
                    refine thenL_r ?_
                    refine blockL_r ?_
                    refine thenL_r ?_
                    refine thenL_r ?_
                    obtain rfl := someI h
                    exact ⟨_, rfl, rfl, ⟨S131, rfl, rfl, (Cov.cons rfl (Cov.nil _))⟩⟩
                  · have h := iteF q133 h
                    refine WC.skip ?_
                    refine thenL_n ?_
                    refine WC.region ?_
                    refine WO.mv rfl ?_
                    refine WO.mv rfl ?_
                    obtain ⟨x135, e136, h⟩ := bindS h
                    refine WO.ixS rfl rfl ho118.slv (at?_lt e136) rfl ?_
                    refine WO.ldF rfl ho118.ro (fun _ hi => hi) (at?_get e136) rfl rfl rfl ?_
                    refine WO.bin rfl rfl (by decide) (by decide) rfl ?_
                    obtain ⟨u137, e138, h⟩ := bindS h
                    refine WO.ixS rfl rfl ho118.slv (ck_some e138) rfl ?_
                    refine WO.st1 (u' := (wrapA .i64 (x135 + 1))) rfl rfl ho118 (ck_nat e138) rfl rfl (fun S139 c140 ho118 => ?_)
                    have hot0 := hot0.to c140
                    have ho18 := ho18.to c140
                    have hot5 := hot5.to c140
                    refine WO.nil ?_
                    refine blockL_n ?_
                    refine thenL_n ?_
                    refine WC.region ?_
                    refine WO.bin rfl rfl (by decide) (by decide) rfl ?_
                    refine WO.mv rfl ?_
                    refine WO.nil ?_
                    refine thenL_n ?_
                    obtain rfl := someI h
                    exact ⟨_, rfl, ⟨S139, rfl, rfl, (Cov.cons rfl (Cov.cons rfl (Cov.cons rfl (Cov.cons rfl (Cov.cons rfl (Cov.cons rfl (Cov.cons rfl (Cov.nil _)))))))), hot0, ho18, ho118, hot5⟩⟩
                · have h := iteF q126 h
                  refine WC.exit ?_
                  refine thenL_e ?_
                  refine thenL_e ?_
                  obtain rfl := someI h
                  exact ⟨_, rfl, rfl, ⟨S124, rfl, rfl, (Cov.cons rfl (Cov.cons rfl (Cov.cons rfl (Cov.nil _)))), ho18, ho118⟩⟩
              cases b141 with
              | inl b143 =>
                simp only at h
                rintro _ _ _ _ ⟨rfl, ⟨S144, rfl, rfl, hc145, ho18, ho118⟩⟩
                refine blockL_s ?_
                refine thenL_n ?_
                refine WC.cov hc145 ?_
                refine WC.seq ?_
                refine WC.region ?_
                refine WO.mv rfl ?_
                refine WO.bin rfl rfl (by decide) (by decide) rfl ?_
                refine WO.mv rfl ?_
                obtain ⟨y151, e152, h⟩ := bindS h
                refine WO.cutS (d := 258) (S := S144) 4 y151 (fun q150 => ?_) (fun q150 => ?_) (fun S153 c154 => ?_)
                · have h := e152
                  have h := iteT q150 h
                  refine WO.gyes rfl rfl ?_
                  refine WO.mv rfl ?_
                  refine WO.gyes rfl rfl ?_
                  refine WO.mv rfl ?_
                  refine WO.gyes rfl rfl ?_
                  obtain ⟨r146, e147, h⟩ := bindS h
                  refine WO.callE (S := S144) rfl rfl (F32_ok e147 ho18.vw ho118.vw) (fun S148 c149 => ?_)
                  have ho18 := ho18.to c149
                  have ho118 := ho118.to c149
                  obtain rfl := someI h
                  refine WO.pickT rfl rfl ?_
                  refine WO.nil ?_
                  exact ⟨S148, rfl, rfl, c149, (Cov.cons rfl (Cov.skip rfl (Cov.skip rfl (Cov.skip rfl (Cov.skip rfl (Cov.skip rfl (Cov.refl _)))))))⟩
                · have h := e152
                  have h := iteF q150 h
                  obtain rfl := someI h
                  refine WO.gno rfl rfl ?_
                  refine WO.gno rfl rfl ?_
                  refine WO.gno rfl rfl ?_
                  refine WO.pickF rfl rfl ?_
                  refine WO.nil ?_
                  exact ⟨S144, rfl, rfl, Ch.refl _ _, (Cov.cons rfl (Cov.skip rfl (Cov.skip rfl (Cov.skip rfl (Cov.skip rfl (Cov.skip rfl (Cov.refl _)))))))⟩
                have ho18 := ho18.to c154
                have ho118 := ho118.to c154
                refine WO.asg rfl ?_
                refine WO.nil ?_
                refine thenL_n ?_
                refine WC.ret ?_
                obtain rfl := someI h
                exact ⟨.inr rfl, _, _, rfl, rfl, rfl⟩
              | inr b143 =>
                simp only at h
                rintro _ _ _ _ ⟨rfl, ⟨S155, rfl, rfl, hc156⟩⟩
                refine blockL_r ?_
                refine thenL_r ?_
                obtain rfl := someI h
                exact ⟨.inr rfl, _, _, (resK_cov hc156 rfl), rfl, rfl⟩
          | inr b108 =>
            simp only at h
            rintro _ _ _ _ ⟨rfl, ⟨S157, rfl, rfl, hc158⟩⟩
            refine thenL_r ?_
            obtain rfl := someI h
            exact ⟨.inr rfl, _, _, (resK_cov hc158 rfl), rfl, rfl⟩
end Go.Proofs.Ytdkmepeolmdccaa

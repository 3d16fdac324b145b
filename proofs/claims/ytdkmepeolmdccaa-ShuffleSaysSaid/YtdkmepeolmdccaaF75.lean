/- The machine answers F75: printed by a program of ours (gen.py). -/
import Derived.Test.YtdkmepeolmdccaaDef
import Derived.Test.YtdkmepeolmdccaaEnv
import Derived.Test.YtdkmepeolmdccaaF138
import Derived.Test.YtdkmepeolmdccaaF139
import Derived.Test.YtdkmepeolmdccaaF73
set_option linter.unusedVariables false
namespace Go.Proofs.Ytdkmepeolmdccaa
open Go.Am
theorem F75.fn : E.fn 75 = some ⟨53, (Try.f75.body.getD .skip), Try.f75.results.toList, []⟩ := rfl
theorem F75_ok {F : Nat} {m : Mem} {n : Nat} {r : (List Int) × Int × Int} {t0 : List Int} {t1 : Int} {vt0 : SV} (h : F75 F t0 t1 = some r) (kt0 : Vw Y5 n m vt0 t0) : Ret E n 75 [.sc vt0, .sc (.int .i64 t1)] m n (fun v m' n' => ∃ w, v = .tup [.sc w, .sc (.int .i64 r.2.1), .sc (.int .i64 r.2.2)] ∧ Fr Y3 n m' n' w r.1) := by
  unfold F75 at h
  refine Ret.walk F75.fn ?_
  refine WC.start fun S0 em en hz => ?_
  have hot0 := kt0.rdS em hz
  refine WC.seq ?_
  refine WC.region ?_
  refine WO.asg rfl ?_
  refine WO.asg rfl ?_
  refine WO.asg rfl ?_
  refine WO.nil ?_
  refine thenL_n ?_
  refine WC.seq ?_
  refine WC.seq ?_
  refine WC.region ?_
  refine WO.mv rfl ?_
  obtain ⟨r1, e2, h⟩ := bindS h
  refine WO.callE (S := S0) rfl rfl (F138_ok e2 hot0.vw) (fun S3 c4 => ?_)
  have hot0 := hot0.to c4
  refine WO.asg rfl ?_
  refine WO.nil ?_
  refine thenL_n ?_
  refine WC.seq ?_
  refine WC.region ?_
  refine WO.mv rfl ?_
  refine WO.bin rfl rfl (by decide) (by decide) rfl ?_
  refine WO.nil ?_
  refine thenL_n ?_
  refine WC.cond rfl (fun q5 => ?_) (fun q5 => ?_)
  · have h := iteT q5 h
    refine WC.seq ?_
    refine WC.region ?_
    refine WO.mv rfl ?_
    refine WO.asg rfl ?_
    refine WO.asg rfl ?_
    refine WO.asg rfl ?_
    refine WO.nil ?_
    refine thenL_n ?_
    refine WC.ret ?_
    refine thenL_r ?_
    obtain rfl := someI h
    exact ⟨.inr rfl, _, _, rfl, rfl, ⟨.nils, rfl, Fr.nil⟩⟩
  · have h := iteF q5 h
    refine WC.skip ?_
    refine thenL_n ?_
    refine WC.seq ?_
    refine WC.seq ?_
    refine WC.region ?_
    refine WO.mv rfl ?_
    refine WO.bin rfl rfl (by decide) (by decide) rfl ?_
    refine WO.mv rfl ?_
    refine WO.cutB (d := 25) 3 ((decide (t1 < 0)) || (decide (t1 > 10))) (fun q6 => ?_) (fun q6 => ?_) ?_
    · refine WO.gno rfl rfl ?_
      refine WO.gno rfl rfl ?_
      refine WO.pickT rfl rfl ?_
      refine WO.nil ?_
      exact ⟨rfl, rfl, (Cov.any rfl (orT q6) (Cov.skip rfl (Cov.skip rfl (Cov.skip rfl (Cov.skip rfl (Cov.refl _))))))⟩
    · skip
      refine WO.gyes rfl rfl ?_
      refine WO.mv rfl ?_
      refine WO.gyes rfl rfl ?_
      refine WO.bin rfl rfl (by decide) (by decide) rfl ?_
      refine WO.pickF rfl rfl ?_
      refine WO.nil ?_
      exact ⟨rfl, rfl, (Cov.any rfl (orF q6) (Cov.skip rfl (Cov.skip rfl (Cov.skip rfl (Cov.skip rfl (Cov.refl _))))))⟩
    refine WO.nil ?_
    refine thenL_n ?_
    refine WC.cond rfl (fun q7 => ?_) (fun q7 => ?_)
    · have h := iteT q7 h
      refine WC.seq ?_
      refine WC.region ?_
      refine WO.asg rfl ?_
      refine WO.asg rfl ?_
      refine WO.asg rfl ?_
      refine WO.nil ?_
      refine thenL_n ?_
      refine WC.ret ?_
      refine thenL_r ?_
      obtain rfl := someI h
      exact ⟨.inr rfl, _, _, rfl, rfl, ⟨.nils, rfl, Fr.nil⟩⟩
    · have h := iteF q7 h
      refine WC.skip ?_
      refine thenL_n ?_
      refine WC.seq ?_
      refine WC.region ?_
      refine WO.asg rfl ?_
      refine WO.nil ?_
      refine thenL_n ?_
      refine WC.seq ?_
      refine WC.seq ?_
      refine WC.region ?_
      refine WO.mv rfl ?_
      refine WO.mv rfl ?_
      refine WO.nil ?_
      refine thenL_n ?_
      refine WC.block ?_
      obtain ⟨b28, e29, h⟩ := bindS h
      refine WC.loopD e29 (fun s8 l' m' n' => ∃ S10 : Cx n, ∃ v11 : SV, S10.m = m' ∧ S10.n = n' ∧ Cov l' [(0, .sc vt0), (8, .sc v11), (26, .sc (.int .i64 t1)), (27, .sc (.int .i64 s8.2))] ∧ Rd Y5 S10 vt0 t0 ∧ Ow Y3 S10 2 v11 s8.1) (fun b e l' m' n' => e = .exit 0 ∧ ∃ S12 : Cx n, ∃ v13 : SV, S12.m = m' ∧ S12.n = n' ∧ Cov l' [(0, .sc vt0), (8, .sc v13)] ∧ Rd Y5 S12 vt0 t0 ∧ Ow Y3 S12 2 v13 b) (by exact ⟨S3, .nils, rfl, rfl, (Cov.cons rfl (Cov.cons rfl (Cov.cons rfl (Cov.cons rfl (Cov.nil _))))), hot0, Ow.nil⟩) ?_ ?_
      · clear h
        rintro s8 q _ _ _ ⟨S14, v15, rfl, rfl, hc16, hot0, ho8⟩ h
        unfold F75_l0 at h
        refine WC.cov hc16 ?_
        refine WC.seq ?_
        refine WC.region ?_
        refine WO.bin rfl rfl (by decide) (by decide) rfl ?_
        refine WO.nil ?_
        refine thenL_n ?_
        refine WC.seq ?_
        refine WC.cond rfl (fun q17 => ?_) (fun q17 => ?_)
        · have h := iteT q17 h
          refine WC.skip ?_
          refine thenL_n ?_
          refine WC.seq ?_
          refine WC.block ?_
          refine WC.seq ?_
          refine WC.region ?_
          refine WO.mv rfl ?_
          refine WO.asg rfl ?_
          refine WO.nil ?_
          refine thenL_n ?_
          refine WC.region ?_
          refine WO.mv rfl ?_
          refine WO.mv rfl ?_
          refine WO.bin rfl rfl (by decide) (by decide) rfl ?_
          refine WO.bsS (A := Y3) (S := S14) (M := [(wrapA .i64 (s8.2 + 1))]) (cs := [.int .i64 ((wrapA .i64 (s8.2 + 1)))]) 3 rfl rfl rfl ⟨[.int .i64 ((wrapA .i64 (s8.2 + 1)))], _, rfl, rfl, rfl⟩ rfl (fun v18 S19 c20 ho21 => ?_)
          have hot0 := hot0.to c20
          have ho8 := ho8.to c20
          obtain ⟨L22, e23, h⟩ := bindS h
          refine WO.appS rfl rfl ho8 ho21.ro e23 rfl rfl (fun v24 S25 c26 ho27 => ?_)
          have hot0 := hot0.to c26
          have ho21 := ho21.to c26
          refine WO.asg rfl ?_
          refine WO.nil ?_
          refine blockL_n ?_
          refine thenL_n ?_
          refine WC.region ?_
          refine WO.bin rfl rfl (by decide) (by decide) rfl ?_
          refine WO.mv rfl ?_
          refine WO.nil ?_
          refine thenL_n ?_
          obtain rfl := someI h
          exact ⟨_, rfl, ⟨S25, v24, rfl, rfl, (Cov.cons rfl (Cov.cons rfl (Cov.cons rfl (Cov.cons rfl (Cov.nil _))))), hot0, ho27⟩⟩
        · have h := iteF q17 h
          refine WC.exit ?_
          refine thenL_e ?_
          refine thenL_e ?_
          obtain rfl := someI h
          exact ⟨_, rfl, rfl, ⟨S14, v15, rfl, rfl, (Cov.cons rfl (Cov.cons rfl (Cov.nil _))), hot0, ho8⟩⟩
      rintro _ _ _ _ ⟨rfl, ⟨S30, v31, rfl, rfl, hc32, hot0, ho8⟩⟩
      refine blockL_s ?_
      refine thenL_n ?_
      refine WC.cov hc32 ?_
      refine WC.seq ?_
      refine WC.region ?_
      refine WO.mv rfl ?_
      refine WO.mv rfl ?_
      obtain ⟨r33, e34, h⟩ := bindS h
      refine WO.callF (S := S30) 4 rfl rfl (F139_ok e34 hot0.vw ho8.vw) Lay.flat_fl (fun v35 S37 c38 ho36 => ?_)
      have hot0 := hot0.to c38
      have ho8 := ho8.to c38
      refine WO.mv rfl ?_
      refine WO.do rfl rfl ?_
      refine WO.do rfl rfl ?_
      refine WO.do rfl rfl ?_
      refine WO.asg rfl ?_
      refine WO.asg rfl ?_
      refine WO.asg rfl ?_
      refine WO.nil ?_
      refine thenL_n ?_
      refine WC.seq ?_
      refine WC.seq ?_
      refine WC.region ?_
      refine WO.mv rfl ?_
      refine WO.bin rfl rfl (by decide) (by decide) rfl ?_
      refine WO.nil ?_
      refine thenL_n ?_
      refine WC.cond rfl (fun q39 => ?_) (fun q39 => ?_)
      · have h := iteT q39 h
        refine WC.seq ?_
        refine WC.region ?_
        refine WO.mv rfl ?_
        refine WO.asg rfl ?_
        refine WO.asg rfl ?_
        refine WO.asg rfl ?_
        refine WO.nil ?_
        refine thenL_n ?_
        refine WC.ret ?_
        refine thenL_r ?_
        obtain rfl := someI h
        exact ⟨.inr rfl, _, _, rfl, rfl, ⟨.nils, rfl, Fr.nil⟩⟩
      · have h := iteF q39 h
        refine WC.skip ?_
        refine thenL_n ?_
        refine WC.seq ?_
        refine WC.region ?_
        refine WO.mv rfl ?_
        obtain ⟨r40, e41, h⟩ := bindS h
        refine WO.callF (S := S37) 5 rfl rfl (F73_ok e41 ho36.vw) Lay.flat_fl (fun v42 S44 c45 ho43 => ?_)
        have hot0 := hot0.to c45
        have ho8 := ho8.to c45
        have ho36 := ho36.to c45
        refine WO.mv rfl ?_
        refine WO.do rfl rfl ?_
        refine WO.do rfl rfl ?_
        refine WO.asg rfl ?_
        refine WO.asg rfl ?_
        refine WO.nil ?_
        refine thenL_n ?_
        refine WC.seq ?_
        refine WC.region ?_
        refine WO.mv rfl ?_
        refine WO.mv rfl ?_
        refine WO.asg rfl ?_
        refine WO.asg rfl ?_
        refine WO.asg rfl ?_
        refine WO.nil ?_
        refine thenL_n ?_
        refine WC.ret ?_
        obtain rfl := someI h
        exact ⟨.inr rfl, _, _, rfl, rfl, ⟨v42, rfl, (ho43.fr Lay.flat_fl)⟩⟩
end Go.Proofs.Ytdkmepeolmdccaa

/- The machine answers F3: printed by a program of ours (gen.py). -/
import Derived.Test.YtdkmepeolmdccaaDef
import Derived.Test.YtdkmepeolmdccaaEnv
import Derived.Test.YtdkmepeolmdccaaF15
import Derived.Test.YtdkmepeolmdccaaF16
import Derived.Test.YtdkmepeolmdccaaF17
import Derived.Test.YtdkmepeolmdccaaF18
import Derived.Test.YtdkmepeolmdccaaF19
import Derived.Test.YtdkmepeolmdccaaF20
import Derived.Test.YtdkmepeolmdccaaF21
import Derived.Test.YtdkmepeolmdccaaF22
set_option linter.unusedVariables false
namespace Go.Proofs.Ytdkmepeolmdccaa
open Go.Am
theorem F3.fn : E.fn 3 = some ⟨226, (Try.f3.body.getD .skip), Try.f3.results.toList, [14, 21, 41]⟩ := rfl
theorem F3_ok {F : Nat} {m : Mem} {n : Nat} {r : Bool} {t0 : List Int} {t1 : Int} {t2 : Int} {t3 : List Int} {t4 : Int} {vt0 : SV} {vt3 : SV} (h : F3 F t0 t1 t2 t3 t4 = some r) (kt0 : Vw Y3 n m vt0 t0) (kt3 : Vw Y23 n m vt3 t3) : Ret E n 3 [.sc vt0, .sc (.int .u16 t1), .sc (.int .u16 t2), .sc vt3, .sc (.int .i64 t4)] m n (fun v m' n' => v = .sc (.bool r)) := by
  unfold F3 at h
  refine Ret.walk F3.fn ?_
  refine WC.start fun S0 em en hz => ?_
  have hot0 := kt0.rdS em hz
  have hot3 := kt3.rdS em hz
  refine WC.seq ?_
  refine WC.region ?_
  refine WO.asg rfl ?_
  refine WO.nil ?_
  refine thenL_n ?_
  refine WC.seq ?_
  refine WC.region ?_
  refine WO.mv rfl ?_
  refine WO.mv rfl ?_
  obtain ⟨r1, e2, h⟩ := bindS h
  refine WO.callE (S := S0) rfl rfl (F15_ok e2 hot0.vw) (fun S3 c4 => ?_)
  have hot0 := hot0.to c4
  have hot3 := hot3.to c4
  refine WO.mv rfl ?_
  refine WO.do rfl rfl ?_
  refine WO.do rfl rfl ?_
  refine WO.alS (A := Y26) (S := S3) (z0 := (0, 0)) 2 rfl rfl rfl (fun v5 S6 c7 ho8 => ?_)
  have hot0 := hot0.to c7
  have hot3 := hot3.to c7
  refine WO.stBA (u' := (r1.1.1, r1.1.2)) rfl ho8.at0 rfl ho8 rfl rfl (fun S9 c10 ho8 => ?_)
  have hot0 := hot0.to c10
  have hot3 := hot3.to c10
  refine WO.asg rfl ?_
  refine WO.nil ?_
  refine thenL_n ?_
  refine WC.seq ?_
  refine WC.region ?_
  refine WO.mv rfl ?_
  refine WO.mv rfl ?_
  refine WO.mv rfl ?_
  obtain ⟨r11, e12, h⟩ := bindS h
  refine WO.callE (S := S9) rfl rfl (F16_ok e12 hot0.vw) (fun S13 c14 => ?_)
  have hot0 := hot0.to c14
  have hot3 := hot3.to c14
  have ho8 := ho8.to c14
  refine WO.mv rfl ?_
  refine WO.do rfl rfl ?_
  refine WO.do rfl rfl ?_
  refine WO.alS (A := Y26) (S := S13) (z0 := (0, 0)) 3 rfl rfl rfl (fun v15 S16 c17 ho18 => ?_)
  have hot0 := hot0.to c17
  have hot3 := hot3.to c17
  have ho8 := ho8.to c17
  refine WO.stBA (u' := (r11.1.1, r11.1.2)) rfl ho18.at0 rfl ho18 rfl rfl (fun S19 c20 ho18 => ?_)
  have hot0 := hot0.to c20
  have hot3 := hot3.to c20
  have ho8 := ho8.to c20
  refine WO.asg rfl ?_
  refine WO.nil ?_
  refine thenL_n ?_
  refine WC.seq ?_
  refine WC.region ?_
  refine WO.mv rfl ?_
  refine WO.mv rfl ?_
  refine WO.mv rfl ?_
  obtain ⟨r21, e22, h⟩ := bindS h
  refine WO.callE (S := S19) rfl rfl (F17_ok e22 hot0.vw) (fun S23 c24 => ?_)
  have hot0 := hot0.to c24
  have hot3 := hot3.to c24
  have ho8 := ho8.to c24
  have ho18 := ho18.to c24
  refine WO.mv rfl ?_
  refine WO.do rfl rfl ?_
  refine WO.do rfl rfl ?_
  refine WO.asg rfl ?_
  refine WO.asg rfl ?_
  refine WO.nil ?_
  refine thenL_n ?_
  refine WC.seq ?_
  refine WC.region ?_
  refine WO.mv rfl ?_
  refine WO.mv rfl ?_
  refine WO.mv rfl ?_
  obtain ⟨r25, e26, h⟩ := bindS h
  refine WO.callE (S := S23) rfl rfl (F18_ok e26 hot0.vw hot3.vw) (fun S27 c28 => ?_)
  have hot0 := hot0.to c28
  have hot3 := hot3.to c28
  have ho8 := ho8.to c28
  have ho18 := ho18.to c28
  refine WO.mv rfl ?_
  refine WO.do rfl rfl ?_
  refine WO.do rfl rfl ?_
  refine WO.alS (A := Y26) (S := S27) (z0 := (0, 0)) 4 rfl rfl rfl (fun v29 S30 c31 ho32 => ?_)
  have hot0 := hot0.to c31
  have hot3 := hot3.to c31
  have ho8 := ho8.to c31
  have ho18 := ho18.to c31
  refine WO.stBA (u' := (r25.1.1, r25.1.2)) rfl ho32.at0 rfl ho32 rfl rfl (fun S33 c34 ho32 => ?_)
  have hot0 := hot0.to c34
  have hot3 := hot3.to c34
  have ho8 := ho8.to c34
  have ho18 := ho18.to c34
  refine WO.asg rfl ?_
  refine WO.nil ?_
  refine thenL_n ?_
  refine WC.seq ?_
  refine WC.seq ?_
  refine WC.region ?_
  refine WO.mv rfl ?_
  refine WO.mv rfl ?_
  obtain ⟨r35, e36, h⟩ := bindS h
  refine WO.callE (S := S33) rfl rfl (F19_ok e36 hot0.vw hot3.vw) (fun S37 c38 => ?_)
  have hot0 := hot0.to c38
  have hot3 := hot3.to c38
  have ho8 := ho8.to c38
  have ho18 := ho18.to c38
  have ho32 := ho32.to c38
  refine WO.mv rfl ?_
  refine WO.mv rfl ?_
  obtain ⟨r39, e40, h⟩ := bindS h
  refine WO.callE (S := S37) rfl rfl (F20_ok e40 hot0.vw hot3.vw) (fun S41 c42 => ?_)
  have hot0 := hot0.to c42
  have hot3 := hot3.to c42
  have ho8 := ho8.to c42
  have ho18 := ho18.to c42
  have ho32 := ho32.to c42
  refine WO.bin rfl rfl (by decide) (by decide) rfl ?_
  refine WO.nil ?_
  refine thenL_n ?_
  refine WC.cond rfl (fun q43 => ?_) (fun q43 => ?_)
  · have h := iteT q43 h
    refine WC.seq ?_
    refine WC.region ?_
    refine WO.asg rfl ?_
    refine WO.nil ?_
    refine thenL_n ?_
    refine WC.ret ?_
    refine thenL_r ?_
    obtain rfl := someI h
    exact ⟨.inr rfl, _, _, rfl, rfl, rfl⟩
  · have h := iteF q43 h
    refine WC.skip ?_
    refine thenL_n ?_
    refine WC.seq ?_
    refine WC.region ?_
    refine WO.asg rfl ?_
    refine WO.nil ?_
    refine thenL_n ?_
    refine WC.seq ?_
    refine WC.seq ?_
    refine WC.region ?_
    refine WO.mv rfl ?_
    refine WO.lenS rfl hot0.slv rfl ?_
    refine WO.mv rfl ?_
    refine WO.nil ?_
    refine thenL_n ?_
    refine WC.block ?_
    obtain ⟨b52, e53, h⟩ := bindS h
    refine WC.loopD e53 (fun s44 l' m' n' => ∃ S45 : Cx n, S45.m = m' ∧ S45.n = n' ∧ Cov l' [(0, .sc vt0), (1, .sc (.int .u16 t1)), (2, .sc (.int .u16 t2)), (3, .sc vt3), (4, .sc (.int .i64 t4)), (11, .sc v5), (12, .sc (.int .i64 r1.2)), (13, .sc v15), (14, .sc (.int .i64 r11.2)), (15, .sc (.bool r21.1)), (16, .sc (.int .i64 r21.2)), (17, .sc v29), (18, .sc (.int .i64 r25.2)), (19, .sc (.int .i64 s44.1)), (64, .sc vt0), (65, .sc (.int .i64 ((t0.length : Int)))), (66, .sc (.int .i64 s44.2))] ∧ Rd Y3 S45 vt0 t0 ∧ Rd Y23 S45 vt3 t3 ∧ Bk Y26 S45 2 v5 ((r1.1.1, r1.1.2)) ∧ Bk Y26 S45 3 v15 ((r11.1.1, r11.1.2)) ∧ Bk Y26 S45 4 v29 ((r25.1.1, r25.1.2))) (fun b e l' m' n' => e = .exit 0 ∧ ∃ S46 : Cx n, S46.m = m' ∧ S46.n = n' ∧ Cov l' [(0, .sc vt0), (1, .sc (.int .u16 t1)), (2, .sc (.int .u16 t2)), (3, .sc vt3), (4, .sc (.int .i64 t4)), (11, .sc v5), (12, .sc (.int .i64 r1.2)), (13, .sc v15), (14, .sc (.int .i64 r11.2)), (15, .sc (.bool r21.1)), (16, .sc (.int .i64 r21.2)), (17, .sc v29), (18, .sc (.int .i64 r25.2)), (19, .sc (.int .i64 b))] ∧ Rd Y3 S46 vt0 t0 ∧ Rd Y23 S46 vt3 t3 ∧ Bk Y26 S46 2 v5 ((r1.1.1, r1.1.2)) ∧ Bk Y26 S46 3 v15 ((r11.1.1, r11.1.2)) ∧ Bk Y26 S46 4 v29 ((r25.1.1, r25.1.2))) (by exact ⟨S41, rfl, rfl, (Cov.cons rfl (Cov.cons rfl (Cov.cons rfl (Cov.cons rfl (Cov.cons rfl (Cov.cons rfl (Cov.cons rfl (Cov.cons rfl (Cov.cons rfl (Cov.cons rfl (Cov.cons rfl (Cov.cons rfl (Cov.cons rfl (Cov.cons rfl (Cov.cons rfl (Cov.cons rfl (Cov.cons rfl (Cov.nil _)))))))))))))))))), hot0, hot3, ho8, ho18, ho32⟩) ?_ ?_
    · clear h
      rintro s44 q _ _ _ ⟨S47, rfl, rfl, hc48, hot0, hot3, ho8, ho18, ho32⟩ h
      unfold F3_l0 at h
      refine WC.cov hc48 ?_
      refine WC.seq ?_
      refine WC.region ?_
      refine WO.bin rfl rfl (by decide) (by decide) rfl ?_
      refine WO.nil ?_
      refine thenL_n ?_
      refine WC.seq ?_
      refine WC.cond rfl (fun q49 => ?_) (fun q49 => ?_)
      · have h := iteT q49 h
        refine WC.skip ?_
        refine thenL_n ?_
        refine WC.seq ?_
        refine WC.block ?_
        refine WC.seq ?_
        refine WC.region ?_
        obtain ⟨x50, e51, h⟩ := bindS h
        refine WO.ixS rfl rfl hot0.slv (at?_lt e51) rfl ?_
        refine WO.ldF rfl hot0.ro (fun _ hi => hi) (at?_get e51) rfl rfl rfl ?_
        refine WO.asg rfl ?_
        refine WO.nil ?_
        refine thenL_n ?_
        refine WC.region ?_
        refine WO.mv rfl ?_
        refine WO.mv rfl ?_
        refine WO.bin rfl rfl (by decide) (by decide) rfl ?_
        refine WO.asg rfl ?_
        refine WO.nil ?_
        refine blockL_n ?_
        refine thenL_n ?_
        refine WC.region ?_
        refine WO.bin rfl rfl (by decide) (by decide) rfl ?_
        refine WO.mv rfl ?_
        refine WO.nil ?_
        refine thenL_n ?_
        obtain rfl := someI h
        exact ⟨_, rfl, ⟨S47, rfl, rfl, (Cov.cons rfl (Cov.cons rfl (Cov.cons rfl (Cov.cons rfl (Cov.cons rfl (Cov.cons rfl (Cov.cons rfl (Cov.cons rfl (Cov.cons rfl (Cov.cons rfl (Cov.cons rfl (Cov.cons rfl (Cov.cons rfl (Cov.cons rfl (Cov.cons rfl (Cov.cons rfl (Cov.cons rfl (Cov.nil _)))))))))))))))))), hot0, hot3, ho8, ho18, ho32⟩⟩
      · have h := iteF q49 h
        refine WC.exit ?_
        refine thenL_e ?_
        refine thenL_e ?_
        obtain rfl := someI h
        exact ⟨_, rfl, rfl, ⟨S47, rfl, rfl, (Cov.cons rfl (Cov.cons rfl (Cov.cons rfl (Cov.cons rfl (Cov.cons rfl (Cov.cons rfl (Cov.cons rfl (Cov.cons rfl (Cov.cons rfl (Cov.cons rfl (Cov.cons rfl (Cov.cons rfl (Cov.cons rfl (Cov.cons rfl (Cov.nil _))))))))))))))), hot0, hot3, ho8, ho18, ho32⟩⟩
    rintro _ _ _ _ ⟨rfl, ⟨S54, rfl, rfl, hc55, hot0, hot3, ho8, ho18, ho32⟩⟩
    refine blockL_s ?_
    refine thenL_n ?_
    refine WC.cov hc55 ?_
    refine WC.seq ?_
    refine WC.seq ?_
    refine WC.region ?_
    refine WO.mv rfl ?_
    refine WO.mv rfl ?_
    refine WO.bsS (A := Y23) (S := S54) (M := [t1]) (cs := [.int .u16 t1]) 5 rfl rfl rfl ⟨[.int .u16 t1], _, rfl, rfl, rfl⟩ rfl (fun v56 S57 c58 ho59 => ?_)
    have hot0 := hot0.to c58
    have hot3 := hot3.to c58
    have ho8 := ho8.to c58
    have ho18 := ho18.to c58
    have ho32 := ho32.to c58
    obtain ⟨r60, e61, h⟩ := bindS h
    refine WO.callE (S := S57) rfl rfl (F20_ok e61 hot0.vw ho59.vw) (fun S62 c63 => ?_)
    have hot0 := hot0.to c63
    have hot3 := hot3.to c63
    have ho8 := ho8.to c63
    have ho18 := ho18.to c63
    have ho32 := ho32.to c63
    have ho59 := ho59.to c63
    refine WO.asg rfl ?_
    refine WO.nil ?_
    refine thenL_n ?_
    refine WC.seq ?_
    refine WC.drawN rfl ?_
    have hot0z := hot0.oz
    have hot3z := hot3.oz
    have ho59z := ho59.oz
    refine WO.mv rfl ?_
    refine WO.mv rfl ?_
    refine WO.bin rfl rfl (by decide) (by decide) rfl ?_
    refine WO.mv rfl ?_
    refine WO.cutB (d := 89) 8 ((r1.2 != r60) || ((r60 != 0) && (!(((r1.1.1, r1.1.2)).1 == 0 && (((r1.1.1, r1.1.2)).2 == 0 && true))))) (fun q65 => ?_) (fun q65 => ?_) ?_
    · refine WO.gno rfl rfl ?_
      refine WO.gno rfl rfl ?_
      refine WO.gno rfl rfl ?_
      refine WO.gskip rfl rfl ?_
      refine WO.gskip rfl rfl ?_
      refine WO.gskip rfl rfl ?_
      refine WO.gno rfl rfl ?_
      refine WO.pickT rfl rfl ?_
      refine WO.nil ?_
      exact ⟨rfl, rfl, (Cov.any rfl (orT q65) (Cov.skip rfl (Cov.skip rfl (Cov.skip rfl (Cov.skip rfl (Cov.skip rfl (Cov.skip rfl (Cov.skip rfl (Cov.skip rfl (Cov.skip rfl (Cov.refl _)))))))))))⟩
    · skip
      refine WO.gyes rfl rfl ?_
      refine WO.mv rfl ?_
      refine WO.gyes rfl rfl ?_
      refine WO.bin rfl rfl (by decide) (by decide) rfl ?_
      refine WO.gyes rfl rfl ?_
      refine WO.mv rfl ?_
      refine WO.cutB (d := 88) 4 ((r60 != 0) && (!(((r1.1.1, r1.1.2)).1 == 0 && (((r1.1.1, r1.1.2)).2 == 0 && true)))) (fun q64 => ?_) (fun q64 => ?_) ?_
      · skip
        refine WO.gyes rfl rfl ?_
        refine WO.ldBA (j := 0) rfl ho8.at0 ho8 rfl (limLe_self _) ?_
        refine WO.gyes rfl rfl ?_
        refine WO.do rfl rfl ?_
        refine WO.gyes rfl rfl ?_
        refine WO.neA rfl rfl rfl rfl (eqFields_cons rfl rfl rfl eqC_int (eqFields_cons rfl rfl rfl eqC_int rfl)) ?_
        refine WO.gyes rfl rfl ?_
        refine WO.pickT rfl rfl ?_
        refine WO.nil ?_
        exact ⟨rfl, rfl, (Cov.any rfl (andT q64) (Cov.skip rfl (Cov.skip rfl (Cov.skip rfl (Cov.skip rfl (Cov.skip rfl (Cov.refl _)))))))⟩
      · refine WO.gno rfl rfl ?_
        refine WO.gno rfl rfl ?_
        refine WO.gno rfl rfl ?_
        refine WO.gyes rfl rfl ?_
        refine WO.pickF rfl rfl ?_
        refine WO.nil ?_
        exact ⟨rfl, rfl, (Cov.any rfl (andF q64) (Cov.skip rfl (Cov.skip rfl (Cov.skip rfl (Cov.skip rfl (Cov.skip rfl (Cov.refl _)))))))⟩
      refine WO.pickF rfl rfl ?_
      refine WO.nil ?_
      exact ⟨rfl, rfl, (Cov.any rfl (orF q65) (Cov.skip rfl (Cov.skip rfl (Cov.skip rfl (Cov.skip rfl (Cov.skip rfl (Cov.refl _)))))))⟩
    refine WO.mv rfl ?_
    obtain ⟨y80, e81, h⟩ := bindS h
    refine WO.cutS (d := 102) (S := S62) 12 y80 (fun q79 => ?_) (fun q79 => ?_) (fun S82 c83 => ?_)
    · have h := e81
      have h := iteT q79 h
      obtain rfl := someI h
      refine WO.gno rfl rfl ?_
      refine WO.gno rfl rfl ?_
      refine WO.gno rfl rfl ?_
      refine WO.gskip rfl rfl ?_
      refine WO.gskip rfl rfl ?_
      refine WO.gskip rfl rfl ?_
      refine WO.gskip rfl rfl ?_
      refine WO.gskip rfl rfl ?_
      refine WO.gskip rfl rfl ?_
      refine WO.gskip rfl rfl ?_
      refine WO.gno rfl rfl ?_
      refine WO.pickT rfl rfl ?_
      refine WO.nil ?_
      exact ⟨S62, rfl, rfl, Ch.refl _ _, (Cov.cons rfl (Cov.skip rfl (Cov.skip rfl (Cov.skip rfl (Cov.skip rfl (Cov.skip rfl (Cov.skip rfl (Cov.skip rfl (Cov.skip rfl (Cov.skip rfl (Cov.skip rfl (Cov.skip rfl (Cov.skip rfl (Cov.skip rfl (Cov.refl _)))))))))))))))⟩
    · have h := e81
      have h := iteF q79 h
      refine WO.gyes rfl rfl ?_
      refine WO.mv rfl ?_
      refine WO.gyes rfl rfl ?_
      refine WO.bin rfl rfl (by decide) (by decide) rfl ?_
      refine WO.gyes rfl rfl ?_
      refine WO.mv rfl ?_
      obtain ⟨y75, e76, h⟩ := bindS h
      refine WO.cutS (d := 101) (S := S62) 8 y75 (fun q74 => ?_) (fun q74 => ?_) (fun S77 c78 => ?_)
      · have h := e76
        have h := iteT q74 h
        refine WO.gyes rfl rfl ?_
        refine WO.ldBA (j := 0) rfl ho8.at0 ho8 rfl (limLe_self _) ?_
        refine WO.gyes rfl rfl ?_
        refine WO.mv rfl ?_
        refine WO.gyes rfl rfl ?_
        refine WO.mv rfl ?_
        refine WO.gyes rfl rfl ?_
        obtain ⟨r66, e67, h⟩ := bindS h
        refine WO.callE (S := S62) rfl rfl (F22_ok e67 hot0.vw) (fun S68 c69 => ?_)
        have hot0z := hot0z.toz c69
        have hot3z := hot3z.toz c69
        have ho59z := ho59z.tow c69
        have hot0 := hot0.to c69
        have hot3 := hot3.to c69
        have ho8 := ho8.to c69
        have ho18 := ho18.to c69
        have ho32 := ho32.to c69
        have ho59 := ho59.to c69
        refine WO.gyes rfl rfl ?_
        refine WO.mv rfl ?_
        refine WO.gyes rfl rfl ?_
        obtain ⟨r70, e71, h⟩ := bindS h
        refine WO.callE (S := S68) rfl rfl (F21_ok e71) (fun S72 c73 => ?_)
        have hot0z := hot0z.toz c73
        have hot3z := hot3z.toz c73
        have ho59z := ho59z.tow c73
        have hot0 := hot0.to c73
        have hot3 := hot3.to c73
        have ho8 := ho8.to c73
        have ho18 := ho18.to c73
        have ho32 := ho32.to c73
        have ho59 := ho59.to c73
        refine WO.gyes rfl rfl ?_
        refine WO.neA rfl rfl rfl rfl (eqFields_cons rfl rfl rfl eqC_int (eqFields_cons rfl rfl rfl eqC_int rfl)) ?_
        obtain rfl := someI h
        refine WO.gyes rfl rfl ?_
        refine WO.pickT rfl rfl ?_
        refine WO.nil ?_
        exact ⟨S72, rfl, rfl, (c69.trans c73), (Cov.cons rfl (Cov.skip rfl (Cov.skip rfl (Cov.skip rfl (Cov.skip rfl (Cov.skip rfl (Cov.skip rfl (Cov.skip rfl (Cov.skip rfl (Cov.skip rfl (Cov.refl _)))))))))))⟩
      · have h := e76
        have h := iteF q74 h
        obtain rfl := someI h
        refine WO.gno rfl rfl ?_
        refine WO.gno rfl rfl ?_
        refine WO.gno rfl rfl ?_
        refine WO.gno rfl rfl ?_
        refine WO.gno rfl rfl ?_
        refine WO.gno rfl rfl ?_
        refine WO.gno rfl rfl ?_
        refine WO.gyes rfl rfl ?_
        refine WO.pickF rfl rfl ?_
        refine WO.nil ?_
        exact ⟨S62, rfl, rfl, Ch.refl _ _, (Cov.cons rfl (Cov.skip rfl (Cov.skip rfl (Cov.skip rfl (Cov.skip rfl (Cov.skip rfl (Cov.skip rfl (Cov.skip rfl (Cov.skip rfl (Cov.skip rfl (Cov.refl _)))))))))))⟩
      have hot0z := hot0z.toz c78
      have hot3z := hot3z.toz c78
      have ho59z := ho59z.tow c78
      have hot0 := hot0.to c78
      have hot3 := hot3.to c78
      have ho8 := ho8.to c78
      have ho18 := ho18.to c78
      have ho32 := ho32.to c78
      have ho59 := ho59.to c78
      obtain rfl := someI h
      refine WO.pickF rfl rfl ?_
      refine WO.nil ?_
      exact ⟨S77, rfl, rfl, c78, (Cov.cons rfl (Cov.skip rfl (Cov.skip rfl (Cov.skip rfl (Cov.skip rfl (Cov.skip rfl (Cov.refl _)))))))⟩
    have hot0z := hot0z.toz c83
    have hot3z := hot3z.toz c83
    have ho59z := ho59z.tow c83
    have hot0 := hot0.to c83
    have hot3 := hot3.to c83
    have ho8 := ho8.to c83
    have ho18 := ho18.to c83
    have ho32 := ho32.to c83
    have ho59 := ho59.to c83
    refine WO.nil ?_
    refine thenL_n ?_
    refine WC.cond rfl (fun q84 => ?_) (fun q84 => ?_)
    · have h := iteT q84 h
      refine WC.seq ?_
      refine WC.region ?_
      refine WO.asg rfl ?_
      refine WO.nil ?_
      refine thenL_n ?_
      refine WC.ret ?_
      refine thenL_r ?_
      obtain rfl := someI h
      exact ⟨.inr rfl, _, _, rfl, rfl, rfl⟩
    · have h := iteF q84 h
      refine WC.skip ?_
      refine thenL_n ?_
      refine WC.seq ?_
      refine WC.region ?_
      refine WO.mv rfl ?_
      refine WO.mv rfl ?_
      refine WO.mv rfl ?_
      refine WO.bsS (A := Y23) (S := S82) (M := [t1, t2]) (cs := [.int .u16 t1, .int .u16 t2]) 6 rfl rfl rfl ⟨[.int .u16 t1], _, rfl, rfl, ⟨[.int .u16 t2], _, rfl, rfl, rfl⟩⟩ rfl (fun v85 S86 c87 ho88 => ?_)
      have hot0 := hot0.to c87
      have hot3 := hot3.to c87
      have ho8 := ho8.to c87
      have ho18 := ho18.to c87
      have ho32 := ho32.to c87
      have ho59 := ho59.to c87
      obtain ⟨r89, e90, h⟩ := bindS h
      refine WO.callE (S := S86) rfl rfl (F20_ok e90 hot0.vw ho88.vw) (fun S91 c92 => ?_)
      have hot0 := hot0.to c92
      have hot3 := hot3.to c92
      have ho8 := ho8.to c92
      have ho18 := ho18.to c92
      have ho32 := ho32.to c92
      have ho59 := ho59.to c92
      have ho88 := ho88.to c92
      refine WO.asg rfl ?_
      refine WO.nil ?_
      refine thenL_n ?_
      refine WC.seq ?_
      refine WC.seq ?_
      refine WC.region ?_
      refine WO.mv rfl ?_
      refine WO.mv rfl ?_
      refine WO.bin rfl rfl (by decide) (by decide) rfl ?_
      refine WO.mv rfl ?_
      obtain ⟨y111, e112, h⟩ := bindS h
      refine WO.cutS (d := 133) (S := S91) 22 y111 (fun q110 => ?_) (fun q110 => ?_) (fun S113 c114 => ?_)
      · have h := e112
        have h := iteT q110 h
        obtain rfl := someI h
        refine WO.gno rfl rfl ?_
        refine WO.gno rfl rfl ?_
        refine WO.gno rfl rfl ?_
        refine WO.gno rfl rfl ?_
        refine WO.gskip rfl rfl ?_
        refine WO.gskip rfl rfl ?_
        refine WO.gskip rfl rfl ?_
        refine WO.gskip rfl rfl ?_
        refine WO.gskip rfl rfl ?_
        refine WO.gskip rfl rfl ?_
        refine WO.gskip rfl rfl ?_
        refine WO.gskip rfl rfl ?_
        refine WO.gskip rfl rfl ?_
        refine WO.gskip rfl rfl ?_
        refine WO.gskip rfl rfl ?_
        refine WO.gskip rfl rfl ?_
        refine WO.gskip rfl rfl ?_
        refine WO.gskip rfl rfl ?_
        refine WO.gskip rfl rfl ?_
        refine WO.gno rfl rfl ?_
        refine WO.gno rfl rfl ?_
        refine WO.pickT rfl rfl ?_
        refine WO.nil ?_
        exact ⟨S91, rfl, rfl, Ch.refl _ _, (Cov.cons rfl (Cov.skip rfl (Cov.skip rfl (Cov.skip rfl (Cov.skip rfl (Cov.skip rfl (Cov.skip rfl (Cov.skip rfl (Cov.skip rfl (Cov.skip rfl (Cov.skip rfl (Cov.skip rfl (Cov.skip rfl (Cov.skip rfl (Cov.skip rfl (Cov.skip rfl (Cov.skip rfl (Cov.skip rfl (Cov.skip rfl (Cov.skip rfl (Cov.skip rfl (Cov.skip rfl (Cov.skip rfl (Cov.skip rfl (Cov.refl _)))))))))))))))))))))))))⟩
      · have h := e112
        have h := iteF q110 h
        refine WO.gyes rfl rfl ?_
        refine WO.mv rfl ?_
        refine WO.gyes rfl rfl ?_
        refine WO.mv rfl ?_
        refine WO.gyes rfl rfl ?_
        refine WO.bin rfl rfl (by decide) (by decide) rfl ?_
        refine WO.gyes rfl rfl ?_
        refine WO.mv rfl ?_
        obtain ⟨y106, e107, h⟩ := bindS h
        refine WO.cutS (d := 131) (S := S91) 16 y106 (fun q105 => ?_) (fun q105 => ?_) (fun S108 c109 => ?_)
        · have h := e107
          have h := iteT q105 h
          refine WO.gyes rfl rfl ?_
          refine WO.mv rfl ?_
          refine WO.gyes rfl rfl ?_
          refine WO.mv rfl ?_
          refine WO.gyes rfl rfl ?_
          refine WO.mv rfl ?_
          refine WO.gyes rfl rfl ?_
          refine WO.bits rfl rfl rfl (by decide) (by decide) rfl ?_
          refine WO.gyes rfl rfl ?_
          obtain ⟨r93, e94, h⟩ := bindS h
          refine WO.callE (S := S91) rfl rfl (F22_ok e94 hot0.vw) (fun S95 c96 => ?_)
          have hot0 := hot0.to c96
          have hot3 := hot3.to c96
          have ho8 := ho8.to c96
          have ho18 := ho18.to c96
          have ho32 := ho32.to c96
          have ho59 := ho59.to c96
          have ho88 := ho88.to c96
          refine WO.gyes rfl rfl ?_
          refine WO.mv rfl ?_
          refine WO.gyes rfl rfl ?_
          refine WO.bin rfl rfl (by decide) (by decide) rfl ?_
          refine WO.gyes rfl rfl ?_
          refine WO.mv rfl ?_
          refine WO.gyes rfl rfl ?_
          refine WO.mv rfl ?_
          refine WO.gyes rfl rfl ?_
          obtain ⟨r97, e98, h⟩ := bindS h
          refine WO.callE (S := S95) rfl rfl (F22_ok e98 hot0.vw) (fun S99 c100 => ?_)
          have hot0 := hot0.to c100
          have hot3 := hot3.to c100
          have ho8 := ho8.to c100
          have ho18 := ho18.to c100
          have ho32 := ho32.to c100
          have ho59 := ho59.to c100
          have ho88 := ho88.to c100
          refine WO.gyes rfl rfl ?_
          refine WO.mv rfl ?_
          refine WO.gyes rfl rfl ?_
          refine WO.mv rfl ?_
          refine WO.gyes rfl rfl ?_
          obtain ⟨r101, e102, h⟩ := bindS h
          refine WO.callE (S := S99) rfl rfl (F22_ok e102 hot0.vw) (fun S103 c104 => ?_)
          have hot0 := hot0.to c104
          have hot3 := hot3.to c104
          have ho8 := ho8.to c104
          have ho18 := ho18.to c104
          have ho32 := ho32.to c104
          have ho59 := ho59.to c104
          have ho88 := ho88.to c104
          refine WO.gyes rfl rfl ?_
          refine WO.bin rfl rfl (by decide) (by decide) rfl ?_
          refine WO.gyes rfl rfl ?_
          refine WO.bin rfl rfl (by decide) (by decide) rfl ?_
          obtain rfl := someI h
          refine WO.gyes rfl rfl ?_
          refine WO.pickT rfl rfl ?_
          refine WO.nil ?_
          exact ⟨S103, rfl, rfl, ((c96.trans c100).trans c104), (Cov.cons rfl (Cov.skip rfl (Cov.skip rfl (Cov.skip rfl (Cov.skip rfl (Cov.skip rfl (Cov.skip rfl (Cov.skip rfl (Cov.skip rfl (Cov.skip rfl (Cov.skip rfl (Cov.skip rfl (Cov.skip rfl (Cov.skip rfl (Cov.skip rfl (Cov.skip rfl (Cov.skip rfl (Cov.skip rfl (Cov.refl _)))))))))))))))))))⟩
        · have h := e107
          have h := iteF q105 h
          obtain rfl := someI h
          refine WO.gno rfl rfl ?_
          refine WO.gno rfl rfl ?_
          refine WO.gno rfl rfl ?_
          refine WO.gno rfl rfl ?_
          refine WO.gno rfl rfl ?_
          refine WO.gno rfl rfl ?_
          refine WO.gno rfl rfl ?_
          refine WO.gno rfl rfl ?_
          refine WO.gno rfl rfl ?_
          refine WO.gno rfl rfl ?_
          refine WO.gno rfl rfl ?_
          refine WO.gno rfl rfl ?_
          refine WO.gno rfl rfl ?_
          refine WO.gno rfl rfl ?_
          refine WO.gno rfl rfl ?_
          refine WO.gyes rfl rfl ?_
          refine WO.pickF rfl rfl ?_
          refine WO.nil ?_
          exact ⟨S91, rfl, rfl, Ch.refl _ _, (Cov.cons rfl (Cov.skip rfl (Cov.skip rfl (Cov.skip rfl (Cov.skip rfl (Cov.skip rfl (Cov.skip rfl (Cov.skip rfl (Cov.skip rfl (Cov.skip rfl (Cov.skip rfl (Cov.skip rfl (Cov.skip rfl (Cov.skip rfl (Cov.skip rfl (Cov.skip rfl (Cov.skip rfl (Cov.skip rfl (Cov.refl _)))))))))))))))))))⟩
        have hot0 := hot0.to c109
        have hot3 := hot3.to c109
        have ho8 := ho8.to c109
        have ho18 := ho18.to c109
        have ho32 := ho32.to c109
        have ho59 := ho59.to c109
        have ho88 := ho88.to c109
        refine WO.gyes rfl rfl ?_
        refine WO.do rfl rfl ?_
        obtain rfl := someI h
        refine WO.pickF rfl rfl ?_
        refine WO.nil ?_
        exact ⟨S108, rfl, rfl, c109, (Cov.cons rfl (Cov.skip rfl (Cov.skip rfl (Cov.skip rfl (Cov.skip rfl (Cov.skip rfl (Cov.skip rfl (Cov.skip rfl (Cov.refl _)))))))))⟩
      have hot0 := hot0.to c114
      have hot3 := hot3.to c114
      have ho8 := ho8.to c114
      have ho18 := ho18.to c114
      have ho32 := ho32.to c114
      have ho59 := ho59.to c114
      have ho88 := ho88.to c114
      refine WO.nil ?_
      refine thenL_n ?_
      refine WC.cond rfl (fun q115 => ?_) (fun q115 => ?_)
      · have h := iteT q115 h
        refine WC.seq ?_
        refine WC.region ?_
        refine WO.asg rfl ?_
        refine WO.nil ?_
        refine thenL_n ?_
        refine WC.ret ?_
        refine thenL_r ?_
        obtain rfl := someI h
        exact ⟨.inr rfl, _, _, rfl, rfl, rfl⟩
      · have h := iteF q115 h
        refine WC.skip ?_
        refine thenL_n ?_
        refine WC.seq ?_
        refine WC.seq ?_
        refine WC.region ?_
        refine WO.mv rfl ?_
        refine WO.bin rfl rfl (by decide) (by decide) rfl ?_
        refine WO.mv rfl ?_
        refine WO.cutB (d := 139) 3 ((r89 == 0) && (t2 == 0)) (fun q116 => ?_) (fun q116 => ?_) ?_
        · skip
          refine WO.gyes rfl rfl ?_
          refine WO.mv rfl ?_
          refine WO.gyes rfl rfl ?_
          refine WO.bin rfl rfl (by decide) (by decide) rfl ?_
          refine WO.pickT rfl rfl ?_
          refine WO.nil ?_
          exact ⟨rfl, rfl, (Cov.any rfl (andT q116) (Cov.skip rfl (Cov.skip rfl (Cov.skip rfl (Cov.skip rfl (Cov.refl _))))))⟩
        · refine WO.gno rfl rfl ?_
          refine WO.gno rfl rfl ?_
          refine WO.pickF rfl rfl ?_
          refine WO.nil ?_
          exact ⟨rfl, rfl, (Cov.any rfl (andF q116) (Cov.skip rfl (Cov.skip rfl (Cov.skip rfl (Cov.skip rfl (Cov.refl _))))))⟩
        refine WO.nil ?_
        refine thenL_n ?_
        obtain ⟨b118, e119, h⟩ := bindS h
        refine WC.mono (Q' := (fun b e l' m' n' => e = .normal ∧ ∃ S120 : Cx n, S120.m = m' ∧ S120.n = n' ∧ Cov l' [(0, .sc vt0), (1, .sc (.int .u16 t1)), (2, .sc (.int .u16 t2)), (3, .sc vt3), (4, .sc (.int .i64 t4)), (13, .sc v15), (14, .sc (.int .i64 r11.2)), (17, .sc v29), (18, .sc (.int .i64 r25.2)), (19, .sc (.int .i64 b52)), (23, .sc (.int .i64 b))] ∧ Rd Y3 S120 vt0 t0 ∧ Rd Y23 S120 vt3 t3 ∧ Bk Y26 S120 3 v15 ((r11.1.1, r11.1.2)) ∧ Bk Y26 S120 4 v29 ((r25.1.1, r25.1.2))) b118) ?_ ?_
        · have h := e119
          dsimp only at h ⊢
          refine WC.cond rfl (fun q117 => ?_) (fun q117 => ?_)
          · have h := iteT q117 h
            refine WC.region ?_
            refine WO.asg rfl ?_
            refine WO.nil ?_
            obtain rfl := someI h
            exact ⟨rfl, ⟨S113, rfl, rfl, (Cov.cons rfl (Cov.cons rfl (Cov.cons rfl (Cov.cons rfl (Cov.cons rfl (Cov.cons rfl (Cov.cons rfl (Cov.cons rfl (Cov.cons rfl (Cov.cons rfl (Cov.cons rfl (Cov.nil _)))))))))))), hot0, hot3, ho18, ho32⟩⟩
          · have h := iteF q117 h
            refine WC.skip ?_
            obtain rfl := someI h
            exact ⟨rfl, ⟨S113, rfl, rfl, (Cov.cons rfl (Cov.cons rfl (Cov.cons rfl (Cov.cons rfl (Cov.cons rfl (Cov.cons rfl (Cov.cons rfl (Cov.cons rfl (Cov.cons rfl (Cov.cons rfl (Cov.cons rfl (Cov.nil _)))))))))))), hot0, hot3, ho18, ho32⟩⟩
        dsimp only
        rintro _ _ _ _ ⟨rfl, ⟨S121, rfl, rfl, hc122, hot0, hot3, ho18, ho32⟩⟩
        refine thenL_n ?_
        refine WC.cov hc122 ?_
        refine WC.seq ?_
        refine WC.seq ?_
        refine WC.drawN rfl ?_
        have hot0z := hot0.oz
        have hot3z := hot3.oz
        refine WO.mv rfl ?_
        refine WO.mv rfl ?_
        refine WO.bin rfl rfl (by decide) (by decide) rfl ?_
        refine WO.mv rfl ?_
        refine WO.cutB (d := 151) 8 ((r11.2 != b118) || ((b118 != 0) && (!(((r11.1.1, r11.1.2)).1 == 0 && (((r11.1.1, r11.1.2)).2 == 0 && true))))) (fun q124 => ?_) (fun q124 => ?_) ?_
        · refine WO.gno rfl rfl ?_
          refine WO.gno rfl rfl ?_
          refine WO.gno rfl rfl ?_
          refine WO.gskip rfl rfl ?_
          refine WO.gskip rfl rfl ?_
          refine WO.gskip rfl rfl ?_
          refine WO.gno rfl rfl ?_
          refine WO.pickT rfl rfl ?_
          refine WO.nil ?_
          exact ⟨rfl, rfl, (Cov.any rfl (orT q124) (Cov.skip rfl (Cov.skip rfl (Cov.skip rfl (Cov.skip rfl (Cov.skip rfl (Cov.skip rfl (Cov.skip rfl (Cov.skip rfl (Cov.skip rfl (Cov.refl _)))))))))))⟩
        · skip
          refine WO.gyes rfl rfl ?_
          refine WO.mv rfl ?_
          refine WO.gyes rfl rfl ?_
          refine WO.bin rfl rfl (by decide) (by decide) rfl ?_
          refine WO.gyes rfl rfl ?_
          refine WO.mv rfl ?_
          refine WO.cutB (d := 150) 4 ((b118 != 0) && (!(((r11.1.1, r11.1.2)).1 == 0 && (((r11.1.1, r11.1.2)).2 == 0 && true)))) (fun q123 => ?_) (fun q123 => ?_) ?_
          · skip
            refine WO.gyes rfl rfl ?_
            refine WO.ldBA (j := 0) rfl ho18.at0 ho18 rfl (limLe_self _) ?_
            refine WO.gyes rfl rfl ?_
            refine WO.do rfl rfl ?_
            refine WO.gyes rfl rfl ?_
            refine WO.neA rfl rfl rfl rfl (eqFields_cons rfl rfl rfl eqC_int (eqFields_cons rfl rfl rfl eqC_int rfl)) ?_
            refine WO.gyes rfl rfl ?_
            refine WO.pickT rfl rfl ?_
            refine WO.nil ?_
            exact ⟨rfl, rfl, (Cov.any rfl (andT q123) (Cov.skip rfl (Cov.skip rfl (Cov.skip rfl (Cov.skip rfl (Cov.skip rfl (Cov.refl _)))))))⟩
          · refine WO.gno rfl rfl ?_
            refine WO.gno rfl rfl ?_
            refine WO.gno rfl rfl ?_
            refine WO.gyes rfl rfl ?_
            refine WO.pickF rfl rfl ?_
            refine WO.nil ?_
            exact ⟨rfl, rfl, (Cov.any rfl (andF q123) (Cov.skip rfl (Cov.skip rfl (Cov.skip rfl (Cov.skip rfl (Cov.skip rfl (Cov.refl _)))))))⟩
          refine WO.pickF rfl rfl ?_
          refine WO.nil ?_
          exact ⟨rfl, rfl, (Cov.any rfl (orF q124) (Cov.skip rfl (Cov.skip rfl (Cov.skip rfl (Cov.skip rfl (Cov.skip rfl (Cov.refl _)))))))⟩
        refine WO.mv rfl ?_
        obtain ⟨y143, e144, h⟩ := bindS h
        refine WO.cutS (d := 168) (S := S121) 16 y143 (fun q142 => ?_) (fun q142 => ?_) (fun S145 c146 => ?_)
        · have h := e144
          have h := iteT q142 h
          obtain rfl := someI h
          refine WO.gno rfl rfl ?_
          refine WO.gno rfl rfl ?_
          refine WO.gno rfl rfl ?_
          refine WO.gskip rfl rfl ?_
          refine WO.gskip rfl rfl ?_
          refine WO.gskip rfl rfl ?_
          refine WO.gskip rfl rfl ?_
          refine WO.gskip rfl rfl ?_
          refine WO.gskip rfl rfl ?_
          refine WO.gskip rfl rfl ?_
          refine WO.gskip rfl rfl ?_
          refine WO.gskip rfl rfl ?_
          refine WO.gskip rfl rfl ?_
          refine WO.gskip rfl rfl ?_
          refine WO.gno rfl rfl ?_
          refine WO.pickT rfl rfl ?_
          refine WO.nil ?_
          exact ⟨S121, rfl, rfl, Ch.refl _ _, (Cov.cons rfl (Cov.skip rfl (Cov.skip rfl (Cov.skip rfl (Cov.skip rfl (Cov.skip rfl (Cov.skip rfl (Cov.skip rfl (Cov.skip rfl (Cov.skip rfl (Cov.skip rfl (Cov.skip rfl (Cov.skip rfl (Cov.skip rfl (Cov.skip rfl (Cov.skip rfl (Cov.skip rfl (Cov.skip rfl (Cov.refl _)))))))))))))))))))⟩
        · have h := e144
          have h := iteF q142 h
          refine WO.gyes rfl rfl ?_
          refine WO.mv rfl ?_
          refine WO.gyes rfl rfl ?_
          refine WO.bin rfl rfl (by decide) (by decide) rfl ?_
          refine WO.gyes rfl rfl ?_
          refine WO.mv rfl ?_
          obtain ⟨y138, e139, h⟩ := bindS h
          refine WO.cutS (d := 167) (S := S121) 12 y138 (fun q137 => ?_) (fun q137 => ?_) (fun S140 c141 => ?_)
          · have h := e139
            have h := iteT q137 h
            refine WO.gyes rfl rfl ?_
            refine WO.ldBA (j := 0) rfl ho18.at0 ho18 rfl (limLe_self _) ?_
            refine WO.gyes rfl rfl ?_
            refine WO.mv rfl ?_
            refine WO.gyes rfl rfl ?_
            refine WO.mv rfl ?_
            refine WO.gyes rfl rfl ?_
            refine WO.mv rfl ?_
            refine WO.gyes rfl rfl ?_
            refine WO.bits rfl rfl rfl (by decide) (by decide) rfl ?_
            refine WO.gyes rfl rfl ?_
            obtain ⟨r125, e126, h⟩ := bindS h
            refine WO.callE (S := S121) rfl rfl (F22_ok e126 hot0.vw) (fun S127 c128 => ?_)
            have hot0z := hot0z.toz c128
            have hot3z := hot3z.toz c128
            have hot0 := hot0.to c128
            have hot3 := hot3.to c128
            have ho18 := ho18.to c128
            have ho32 := ho32.to c128
            refine WO.gyes rfl rfl ?_
            refine WO.mv rfl ?_
            refine WO.gyes rfl rfl ?_
            refine WO.mv rfl ?_
            refine WO.gyes rfl rfl ?_
            obtain ⟨r129, e130, h⟩ := bindS h
            refine WO.callE (S := S127) rfl rfl (F22_ok e130 hot0.vw) (fun S131 c132 => ?_)
            have hot0z := hot0z.toz c132
            have hot3z := hot3z.toz c132
            have hot0 := hot0.to c132
            have hot3 := hot3.to c132
            have ho18 := ho18.to c132
            have ho32 := ho32.to c132
            refine WO.gyes rfl rfl ?_
            obtain ⟨r133, e134, h⟩ := bindS h
            refine WO.callE (S := S131) rfl rfl (F21_ok e134) (fun S135 c136 => ?_)
            have hot0z := hot0z.toz c136
            have hot3z := hot3z.toz c136
            have hot0 := hot0.to c136
            have hot3 := hot3.to c136
            have ho18 := ho18.to c136
            have ho32 := ho32.to c136
            refine WO.gyes rfl rfl ?_
            refine WO.neA rfl rfl rfl rfl (eqFields_cons rfl rfl rfl eqC_int (eqFields_cons rfl rfl rfl eqC_int rfl)) ?_
            obtain rfl := someI h
            refine WO.gyes rfl rfl ?_
            refine WO.pickT rfl rfl ?_
            refine WO.nil ?_
            exact ⟨S135, rfl, rfl, ((c128.trans c132).trans c136), (Cov.cons rfl (Cov.skip rfl (Cov.skip rfl (Cov.skip rfl (Cov.skip rfl (Cov.skip rfl (Cov.skip rfl (Cov.skip rfl (Cov.skip rfl (Cov.skip rfl (Cov.skip rfl (Cov.skip rfl (Cov.skip rfl (Cov.skip rfl (Cov.refl _)))))))))))))))⟩
          · have h := e139
            have h := iteF q137 h
            obtain rfl := someI h
            refine WO.gno rfl rfl ?_
            refine WO.gno rfl rfl ?_
            refine WO.gno rfl rfl ?_
            refine WO.gno rfl rfl ?_
            refine WO.gno rfl rfl ?_
            refine WO.gno rfl rfl ?_
            refine WO.gno rfl rfl ?_
            refine WO.gno rfl rfl ?_
            refine WO.gno rfl rfl ?_
            refine WO.gno rfl rfl ?_
            refine WO.gno rfl rfl ?_
            refine WO.gyes rfl rfl ?_
            refine WO.pickF rfl rfl ?_
            refine WO.nil ?_
            exact ⟨S121, rfl, rfl, Ch.refl _ _, (Cov.cons rfl (Cov.skip rfl (Cov.skip rfl (Cov.skip rfl (Cov.skip rfl (Cov.skip rfl (Cov.skip rfl (Cov.skip rfl (Cov.skip rfl (Cov.skip rfl (Cov.skip rfl (Cov.skip rfl (Cov.skip rfl (Cov.skip rfl (Cov.refl _)))))))))))))))⟩
          have hot0z := hot0z.toz c141
          have hot3z := hot3z.toz c141
          have hot0 := hot0.to c141
          have hot3 := hot3.to c141
          have ho18 := ho18.to c141
          have ho32 := ho32.to c141
          obtain rfl := someI h
          refine WO.pickF rfl rfl ?_
          refine WO.nil ?_
          exact ⟨S140, rfl, rfl, c141, (Cov.cons rfl (Cov.skip rfl (Cov.skip rfl (Cov.skip rfl (Cov.skip rfl (Cov.skip rfl (Cov.refl _)))))))⟩
        have hot0z := hot0z.toz c146
        have hot3z := hot3z.toz c146
        have hot0 := hot0.to c146
        have hot3 := hot3.to c146
        have ho18 := ho18.to c146
        have ho32 := ho32.to c146
        refine WO.nil ?_
        refine thenL_n ?_
        refine WC.cond rfl (fun q147 => ?_) (fun q147 => ?_)
        · have h := iteT q147 h
          refine WC.seq ?_
          refine WC.region ?_
          refine WO.asg rfl ?_
          refine WO.nil ?_
          refine thenL_n ?_
          refine WC.ret ?_
          refine thenL_r ?_
          obtain rfl := someI h
          exact ⟨.inr rfl, _, _, rfl, rfl, rfl⟩
        · have h := iteF q147 h
          refine WC.skip ?_
          refine thenL_n ?_
          refine WC.seq ?_
          refine WC.region ?_
          refine WO.mv rfl ?_
          refine WO.mv rfl ?_
          obtain ⟨r148, e149, h⟩ := bindS h
          refine WO.callE (S := S145) rfl rfl (F20_ok e149 hot0.vw hot3.vw) (fun S150 c151 => ?_)
          have hot0 := hot0.to c151
          have hot3 := hot3.to c151
          have ho18 := ho18.to c151
          have ho32 := ho32.to c151
          refine WO.asg rfl ?_
          refine WO.nil ?_
          refine thenL_n ?_
          refine WC.seq ?_
          refine WC.seq ?_
          refine WC.region ?_
          refine WO.mv rfl ?_
          refine WO.bin rfl rfl (by decide) (by decide) rfl ?_
          refine WO.mv rfl ?_
          refine WO.cutB (d := 178) 4 ((r148 == 0) && (decide ((t3.length : Int) > 12))) (fun q152 => ?_) (fun q152 => ?_) ?_
          · skip
            refine WO.gyes rfl rfl ?_
            refine WO.mv rfl ?_
            refine WO.gyes rfl rfl ?_
            refine WO.lenS rfl hot3.slv rfl ?_
            refine WO.gyes rfl rfl ?_
            refine WO.bin rfl rfl (by decide) (by decide) rfl ?_
            refine WO.pickT rfl rfl ?_
            refine WO.nil ?_
            exact ⟨rfl, rfl, (Cov.any rfl (andT q152) (Cov.skip rfl (Cov.skip rfl (Cov.skip rfl (Cov.skip rfl (Cov.skip rfl (Cov.refl _)))))))⟩
          · refine WO.gno rfl rfl ?_
            refine WO.gno rfl rfl ?_
            refine WO.gno rfl rfl ?_
            refine WO.pickF rfl rfl ?_
            refine WO.nil ?_
            exact ⟨rfl, rfl, (Cov.any rfl (andF q152) (Cov.skip rfl (Cov.skip rfl (Cov.skip rfl (Cov.skip rfl (Cov.skip rfl (Cov.refl _)))))))⟩
          refine WO.nil ?_
          refine thenL_n ?_
          obtain ⟨b154, e155, h⟩ := bindS h
          refine WC.mono (Q' := (fun b e l' m' n' => e = .normal ∧ ∃ S156 : Cx n, S156.m = m' ∧ S156.n = n' ∧ Cov l' [(0, .sc vt0), (3, .sc vt3), (4, .sc (.int .i64 t4)), (17, .sc v29), (18, .sc (.int .i64 r25.2)), (19, .sc (.int .i64 b52)), (23, .sc (.int .i64 b))] ∧ Rd Y3 S156 vt0 t0 ∧ Rd Y23 S156 vt3 t3 ∧ Bk Y26 S156 4 v29 ((r25.1.1, r25.1.2))) b154) ?_ ?_
          · have h := e155
            dsimp only at h ⊢
            refine WC.cond rfl (fun q153 => ?_) (fun q153 => ?_)
            · have h := iteT q153 h
              refine WC.region ?_
              refine WO.asg rfl ?_
              refine WO.nil ?_
              obtain rfl := someI h
              exact ⟨rfl, ⟨S150, rfl, rfl, (Cov.cons rfl (Cov.cons rfl (Cov.cons rfl (Cov.cons rfl (Cov.cons rfl (Cov.cons rfl (Cov.cons rfl (Cov.nil _)))))))), hot0, hot3, ho32⟩⟩
            · have h := iteF q153 h
              refine WC.skip ?_
              obtain rfl := someI h
              exact ⟨rfl, ⟨S150, rfl, rfl, (Cov.cons rfl (Cov.cons rfl (Cov.cons rfl (Cov.cons rfl (Cov.cons rfl (Cov.cons rfl (Cov.cons rfl (Cov.nil _)))))))), hot0, hot3, ho32⟩⟩
          dsimp only
          rintro _ _ _ _ ⟨rfl, ⟨S157, rfl, rfl, hc158, hot0, hot3, ho32⟩⟩
          refine thenL_n ?_
          refine WC.cov hc158 ?_
          refine WC.seq ?_
          refine WC.seq ?_
          refine WC.region ?_
          refine WO.mv rfl ?_
          refine WO.bin rfl rfl (by decide) (by decide) rfl ?_
          refine WO.nil ?_
          refine thenL_n ?_
          refine WC.cond rfl (fun q159 => ?_) (fun q159 => ?_)
          · have h := iteT q159 h
            refine WC.seq ?_
            refine WC.region ?_
            refine WO.mv rfl ?_
            refine WO.mv rfl ?_
            refine WO.bin rfl rfl (by decide) (by decide) rfl ?_
            refine WO.mv rfl ?_
            refine WO.cutB (d := 188) 4 ((r25.2 == b154) && (((r25.1.1, r25.1.2)).1 == 0 && (((r25.1.1, r25.1.2)).2 == 0 && true))) (fun q160 => ?_) (fun q160 => ?_) ?_
            · skip
              refine WO.gyes rfl rfl ?_
              refine WO.ldBA (j := 0) rfl ho32.at0 ho32 rfl rfl ?_
              refine WO.gyes rfl rfl ?_
              refine WO.do rfl rfl ?_
              refine WO.gyes rfl rfl ?_
              refine WO.eqA rfl rfl rfl rfl (eqFields_cons rfl rfl rfl eqC_int (eqFields_cons rfl rfl rfl eqC_int rfl)) ?_
              refine WO.pickT rfl rfl ?_
              refine WO.nil ?_
              exact ⟨rfl, rfl, (Cov.any rfl (andT q160) (Cov.skip rfl (Cov.skip rfl (Cov.skip rfl (Cov.skip rfl (Cov.skip rfl (Cov.refl _)))))))⟩
            · refine WO.gno rfl rfl ?_
              refine WO.gno rfl rfl ?_
              refine WO.gno rfl rfl ?_
              refine WO.pickF rfl rfl ?_
              refine WO.nil ?_
              exact ⟨rfl, rfl, (Cov.any rfl (andF q160) (Cov.skip rfl (Cov.skip rfl (Cov.skip rfl (Cov.skip rfl (Cov.skip rfl (Cov.refl _)))))))⟩
            refine WO.asg rfl ?_
            refine WO.nil ?_
            refine thenL_n ?_
            refine WC.ret ?_
            refine thenL_r ?_
            obtain rfl := someI h
            exact ⟨.inr rfl, _, _, rfl, rfl, rfl⟩
          · have h := iteF q159 h
            refine WC.skip ?_
            refine thenL_n ?_
            refine WC.seq ?_
            refine WC.region ?_
            refine WO.asg rfl ?_
            refine WO.nil ?_
            refine thenL_n ?_
            refine WC.seq ?_
            refine WC.seq ?_
            refine WC.region ?_
            refine WO.mv rfl ?_
            refine WO.lenS rfl hot0.slv rfl ?_
            refine WO.mv rfl ?_
            refine WO.nil ?_
            refine thenL_n ?_
            refine WC.block ?_
            obtain ⟨b184, e185, h⟩ := bindS h
            refine WC.loopD e185 (fun s161 l' m' n' => ∃ S162 : Cx n, S162.m = m' ∧ S162.n = n' ∧ Cov l' [(3, .sc vt3), (4, .sc (.int .i64 t4)), (17, .sc v29), (18, .sc (.int .i64 r25.2)), (19, .sc (.int .i64 b52)), (24, .sc (.int .i64 s161.1)), (189, .sc vt0), (190, .sc (.int .i64 ((t0.length : Int)))), (191, .sc (.int .i64 s161.2))] ∧ Rd Y23 S162 vt3 t3 ∧ Bk Y26 S162 4 v29 ((r25.1.1, r25.1.2)) ∧ Rd Y3 S162 vt0 t0) (fun b e l' m' n' => e = .exit 2 ∧ ∃ S163 : Cx n, S163.m = m' ∧ S163.n = n' ∧ Cov l' [(17, .sc v29), (18, .sc (.int .i64 r25.2)), (19, .sc (.int .i64 b52)), (24, .sc (.int .i64 b))] ∧ Bk Y26 S163 4 v29 ((r25.1.1, r25.1.2))) (by exact ⟨S157, rfl, rfl, (Cov.cons rfl (Cov.cons rfl (Cov.cons rfl (Cov.cons rfl (Cov.cons rfl (Cov.cons rfl (Cov.cons rfl (Cov.cons rfl (Cov.cons rfl (Cov.nil _)))))))))), hot3, ho32, hot0⟩) ?_ ?_
            · clear h
              rintro s161 q _ _ _ ⟨S164, rfl, rfl, hc165, hot3, ho32, hot0⟩ h
              unfold F3_l2 at h
              refine WC.cov hc165 ?_
              refine WC.seq ?_
              refine WC.region ?_
              refine WO.bin rfl rfl (by decide) (by decide) rfl ?_
              refine WO.nil ?_
              refine thenL_n ?_
              refine WC.seq ?_
              refine WC.cond rfl (fun q166 => ?_) (fun q166 => ?_)
              · have h := iteT q166 h
                refine WC.skip ?_
                refine thenL_n ?_
                refine WC.seq ?_
                refine WC.block ?_
                refine WC.seq ?_
                refine WC.region ?_
                refine WO.mv rfl ?_
                obtain ⟨x167, e168, h⟩ := bindS h
                refine WO.ixS rfl rfl hot0.slv (at?_lt e168) rfl ?_
                refine WO.ldF rfl hot0.ro (fun _ hi => hi) (at?_get e168) rfl rfl rfl ?_
                refine WO.asg rfl ?_
                refine WO.asg rfl ?_
                refine WO.nil ?_
                refine thenL_n ?_
                refine WC.seq ?_
                refine WC.region ?_
                refine WO.asg rfl ?_
                refine WO.nil ?_
                refine thenL_n ?_
                refine WC.seq ?_
                refine WC.seq ?_
                refine WC.region ?_
                refine WO.mv rfl ?_
                refine WO.lenS rfl hot3.slv rfl ?_
                refine WO.mv rfl ?_
                refine WO.nil ?_
                refine thenL_n ?_
                refine WC.block ?_
                obtain ⟨b179, e180, h⟩ := bindS h
                refine WC.loopD e180 (fun s169 l' m' n' => ∃ S170 : Cx n, S170.m = m' ∧ S170.n = n' ∧ Cov l' [(3, .sc vt3), (4, .sc (.int .i64 t4)), (17, .sc v29), (18, .sc (.int .i64 r25.2)), (19, .sc (.int .i64 b52)), (24, .sc (.int .i64 s161.1)), (25, .sc (.int .i64 s161.2)), (26, .sc (.int .i64 x167)), (27, .sc (.int .i64 s169.1)), (189, .sc vt0), (190, .sc (.int .i64 ((t0.length : Int)))), (191, .sc (.int .i64 s161.2)), (196, .sc vt3), (197, .sc (.int .i64 ((t3.length : Int)))), (198, .sc (.int .i64 s169.2))] ∧ Rd Y23 S170 vt3 t3 ∧ Bk Y26 S170 4 v29 ((r25.1.1, r25.1.2)) ∧ Rd Y3 S170 vt0 t0) (fun b e l' m' n' => e = .exit 4 ∧ ∃ S171 : Cx n, S171.m = m' ∧ S171.n = n' ∧ Cov l' [(3, .sc vt3), (4, .sc (.int .i64 t4)), (17, .sc v29), (18, .sc (.int .i64 r25.2)), (19, .sc (.int .i64 b52)), (24, .sc (.int .i64 s161.1)), (26, .sc (.int .i64 x167)), (27, .sc (.int .i64 b)), (189, .sc vt0), (190, .sc (.int .i64 ((t0.length : Int)))), (191, .sc (.int .i64 s161.2))] ∧ Rd Y23 S171 vt3 t3 ∧ Bk Y26 S171 4 v29 ((r25.1.1, r25.1.2)) ∧ Rd Y3 S171 vt0 t0) (by exact ⟨S164, rfl, rfl, (Cov.cons rfl (Cov.cons rfl (Cov.cons rfl (Cov.cons rfl (Cov.cons rfl (Cov.cons rfl (Cov.cons rfl (Cov.cons rfl (Cov.cons rfl (Cov.cons rfl (Cov.cons rfl (Cov.cons rfl (Cov.cons rfl (Cov.cons rfl (Cov.cons rfl (Cov.nil _)))))))))))))))), hot3, ho32, hot0⟩) ?_ ?_
                · clear h
                  rintro s169 q _ _ _ ⟨S172, rfl, rfl, hc173, hot3, ho32, hot0⟩ h
                  unfold F3_l1 at h
                  refine WC.cov hc173 ?_
                  refine WC.seq ?_
                  refine WC.region ?_
                  refine WO.bin rfl rfl (by decide) (by decide) rfl ?_
                  refine WO.nil ?_
                  refine thenL_n ?_
                  refine WC.seq ?_
                  refine WC.cond rfl (fun q174 => ?_) (fun q174 => ?_)
                  · have h := iteT q174 h
                    refine WC.skip ?_
                    refine thenL_n ?_
                    refine WC.seq ?_
                    refine WC.block ?_
                    refine WC.seq ?_
                    refine WC.region ?_
                    obtain ⟨x175, e176, h⟩ := bindS h
                    refine WO.ixS rfl rfl hot3.slv (at?_lt e176) rfl ?_
                    refine WO.ldF rfl hot3.ro (fun _ hi => hi) (at?_get e176) rfl rfl rfl ?_
                    refine WO.asg rfl ?_
                    refine WO.nil ?_
                    refine thenL_n ?_
                    refine WC.region ?_
                    refine WO.mv rfl ?_
                    refine WO.mv rfl ?_
                    refine WO.mv rfl ?_
                    obtain ⟨x177, e178, h⟩ := bindS h
                    refine WO.shrD rfl rfl e178 ?_
                    refine WO.bits rfl rfl rfl (by decide) (by decide) rfl ?_
                    refine WO.conv rfl rfl rfl rfl ?_
                    refine WO.bin rfl rfl (by decide) (by decide) rfl ?_
                    refine WO.asg rfl ?_
                    refine WO.nil ?_
                    refine blockL_n ?_
                    refine thenL_n ?_
                    refine WC.region ?_
                    refine WO.bin rfl rfl (by decide) (by decide) rfl ?_
                    refine WO.mv rfl ?_
                    refine WO.nil ?_
                    refine thenL_n ?_
                    obtain rfl := someI h
                    exact ⟨_, rfl, ⟨S172, rfl, rfl, (Cov.cons rfl (Cov.cons rfl (Cov.cons rfl (Cov.cons rfl (Cov.cons rfl (Cov.cons rfl (Cov.cons rfl (Cov.cons rfl (Cov.cons rfl (Cov.cons rfl (Cov.cons rfl (Cov.cons rfl (Cov.cons rfl (Cov.cons rfl (Cov.cons rfl (Cov.nil _)))))))))))))))), hot3, ho32, hot0⟩⟩
                  · have h := iteF q174 h
                    refine WC.exit ?_
                    refine thenL_e ?_
                    refine thenL_e ?_
                    obtain rfl := someI h
                    exact ⟨_, rfl, rfl, ⟨S172, rfl, rfl, (Cov.cons rfl (Cov.cons rfl (Cov.cons rfl (Cov.cons rfl (Cov.cons rfl (Cov.cons rfl (Cov.cons rfl (Cov.cons rfl (Cov.cons rfl (Cov.cons rfl (Cov.cons rfl (Cov.nil _)))))))))))), hot3, ho32, hot0⟩⟩
                rintro _ _ _ _ ⟨rfl, ⟨S181, rfl, rfl, hc182, hot3, ho32, hot0⟩⟩
                refine blockL_s ?_
                refine thenL_n ?_
                refine WC.cov hc182 ?_
                refine WC.seq ?_
                refine WC.region ?_
                refine WO.mv rfl ?_
                refine WO.mv rfl ?_
                refine WO.bin rfl rfl (by decide) (by decide) rfl ?_
                refine WO.nil ?_
                refine thenL_n ?_
                refine WC.cond rfl (fun q183 => ?_) (fun q183 => ?_)
                · have h := iteT q183 h
                  refine WC.region ?_
                  refine WO.mv rfl ?_
                  refine WO.mv rfl ?_
                  refine WO.bin rfl rfl (by decide) (by decide) rfl ?_
                  refine WO.asg rfl ?_
                  refine WO.nil ?_
                  refine blockL_n ?_
                  refine thenL_n ?_
                  refine WC.region ?_
                  refine WO.bin rfl rfl (by decide) (by decide) rfl ?_
                  refine WO.mv rfl ?_
                  refine WO.nil ?_
                  refine thenL_n ?_
                  obtain rfl := someI h
                  exact ⟨_, rfl, ⟨S181, rfl, rfl, (Cov.cons rfl (Cov.cons rfl (Cov.cons rfl (Cov.cons rfl (Cov.cons rfl (Cov.cons rfl (Cov.cons rfl (Cov.cons rfl (Cov.cons rfl (Cov.nil _)))))))))), hot3, ho32, hot0⟩⟩
                · have h := iteF q183 h
                  refine WC.skip ?_
                  refine blockL_n ?_
                  refine thenL_n ?_
                  refine WC.region ?_
                  refine WO.bin rfl rfl (by decide) (by decide) rfl ?_
                  refine WO.mv rfl ?_
                  refine WO.nil ?_
                  refine thenL_n ?_
                  obtain rfl := someI h
                  exact ⟨_, rfl, ⟨S181, rfl, rfl, (Cov.cons rfl (Cov.cons rfl (Cov.cons rfl (Cov.cons rfl (Cov.cons rfl (Cov.cons rfl (Cov.cons rfl (Cov.cons rfl (Cov.cons rfl (Cov.nil _)))))))))), hot3, ho32, hot0⟩⟩
              · have h := iteF q166 h
                refine WC.exit ?_
                refine thenL_e ?_
                refine thenL_e ?_
                obtain rfl := someI h
                exact ⟨_, rfl, rfl, ⟨S164, rfl, rfl, (Cov.cons rfl (Cov.cons rfl (Cov.cons rfl (Cov.cons rfl (Cov.nil _))))), ho32⟩⟩
            rintro _ _ _ _ ⟨rfl, ⟨S186, rfl, rfl, hc187, ho32⟩⟩
            refine blockL_s ?_
            refine thenL_n ?_
            refine WC.cov hc187 ?_
            refine WC.seq ?_
            refine WC.drawN rfl ?_
            refine WO.mv rfl ?_
            refine WO.bin rfl rfl (by decide) (by decide) rfl ?_
            refine WO.mv rfl ?_
            obtain ⟨y193, e194, h⟩ := bindS h
            refine WO.cutS (d := 225) (S := S186) 6 y193 (fun q192 => ?_) (fun q192 => ?_) (fun S195 c196 => ?_)
            · have h := e194
              have h := iteT q192 h
              refine WO.gyes rfl rfl ?_
              refine WO.ldBA (j := 0) rfl ho32.at0 ho32 rfl (limLe_self _) ?_
              refine WO.gyes rfl rfl ?_
              refine WO.mv rfl ?_
              refine WO.gyes rfl rfl ?_
              refine WO.mv rfl ?_
              refine WO.gyes rfl rfl ?_
              obtain ⟨r188, e189, h⟩ := bindS h
              refine WO.callE (S := S186) rfl rfl (F21_ok e189) (fun S190 c191 => ?_)
              have ho32 := ho32.to c191
              refine WO.gyes rfl rfl ?_
              refine WO.eqA rfl rfl rfl rfl (eqFields_cons rfl rfl rfl eqC_int (eqFields_cons rfl rfl rfl eqC_int rfl)) ?_
              obtain rfl := someI h
              refine WO.pickT rfl rfl ?_
              refine WO.nil ?_
              exact ⟨S190, rfl, rfl, c191, (Cov.cons rfl (Cov.skip rfl (Cov.skip rfl (Cov.skip rfl (Cov.skip rfl (Cov.skip rfl (Cov.skip rfl (Cov.skip rfl (Cov.refl _)))))))))⟩
            · have h := e194
              have h := iteF q192 h
              obtain rfl := someI h
              refine WO.gno rfl rfl ?_
              refine WO.gno rfl rfl ?_
              refine WO.gno rfl rfl ?_
              refine WO.gno rfl rfl ?_
              refine WO.gno rfl rfl ?_
              refine WO.pickF rfl rfl ?_
              refine WO.nil ?_
              exact ⟨S186, rfl, rfl, Ch.refl _ _, (Cov.cons rfl (Cov.skip rfl (Cov.skip rfl (Cov.skip rfl (Cov.skip rfl (Cov.skip rfl (Cov.skip rfl (Cov.skip rfl (Cov.refl _)))))))))⟩
            have ho32 := ho32.to c196
            refine WO.asg rfl ?_
            refine WO.nil ?_
            refine thenL_n ?_
            refine WC.ret ?_
            obtain rfl := someI h
            exact ⟨.inr rfl, _, _, rfl, rfl, rfl⟩
end Go.Proofs.Ytdkmepeolmdccaa

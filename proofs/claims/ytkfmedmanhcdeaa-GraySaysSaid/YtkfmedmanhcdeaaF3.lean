/- The machine answers F3: printed by a program of ours (gen.py). -/
import Derived.Test.YtkfmedmanhcdeaaDef
import Derived.Test.YtkfmedmanhcdeaaEnv
import Derived.Test.YtkfmedmanhcdeaaF15
import Derived.Test.YtkfmedmanhcdeaaF16
import Derived.Test.YtkfmedmanhcdeaaF17
import Derived.Test.YtkfmedmanhcdeaaF18
set_option linter.unusedVariables false
namespace Go.Proofs.Ytkfmedmanhcdeaa
open Go.Am
theorem F3.fn : E.fn 3 = some ⟨110, (Try.f3.body.getD .skip), Try.f3.results.toList, []⟩ := rfl
theorem F3_ok {F : Nat} {m : Mem} {n : Nat} {r : Bool} {t0 : Int} {t1 : Int} (h : F3 F t0 t1 = some r)  : Ret E n 3 [.sc (.int .u16 t0), .sc (.int .i64 t1)] m n (fun v m' n' => v = .sc (.bool r)) := by
  unfold F3 at h
  refine Ret.walk F3.fn ?_
  refine WC.start fun S0 em en hz => ?_
  refine WC.seq ?_
  refine WC.region ?_
  refine WO.asg rfl ?_
  refine WO.nil ?_
  refine thenL_n ?_
  refine WC.seq ?_
  refine WC.region ?_
  refine WO.mv rfl ?_
  refine WO.mv rfl ?_
  refine WO.bin rfl rfl (by decide) (by decide) rfl ?_
  refine WO.bits rfl rfl rfl (by decide) (by decide) rfl ?_
  refine WO.asg rfl ?_
  refine WO.nil ?_
  refine thenL_n ?_
  refine WC.seq ?_
  refine WC.region ?_
  refine WO.mv rfl ?_
  obtain ⟨r1, e2, h⟩ := bindS h
  refine WO.callE (S := S0) rfl rfl (F15_ok e2) (fun S3 c4 => ?_)
  refine WO.mv rfl ?_
  refine WO.do rfl rfl ?_
  refine WO.do rfl rfl ?_
  refine WO.asg rfl ?_
  refine WO.asg rfl ?_
  refine WO.nil ?_
  refine thenL_n ?_
  refine WC.seq ?_
  refine WC.region ?_
  refine WO.mv rfl ?_
  obtain ⟨r5, e6, h⟩ := bindS h
  refine WO.callF (S := S3) 2 rfl rfl (F16_ok e6) Lay.flat_fl (fun v7 S9 c10 ho8 => ?_)
  refine WO.mv rfl ?_
  refine WO.do rfl rfl ?_
  refine WO.do rfl rfl ?_
  refine WO.asg rfl ?_
  refine WO.asg rfl ?_
  refine WO.nil ?_
  refine thenL_n ?_
  refine WC.seq ?_
  refine WC.region ?_
  refine WO.mv rfl ?_
  obtain ⟨r11, e12, h⟩ := bindS h
  refine WO.callE (S := S9) rfl rfl (F17_ok e12) (fun S13 c14 => ?_)
  have ho8 := ho8.to c14
  refine WO.asg rfl ?_
  refine WO.nil ?_
  refine thenL_n ?_
  refine WC.seq ?_
  refine WC.seq ?_
  refine WC.region ?_
  refine WO.mv rfl ?_
  obtain ⟨r15, e16, h⟩ := bindS h
  refine WO.callE (S := S13) rfl rfl (F18_ok e16) (fun S17 c18 => ?_)
  have ho8 := ho8.to c18
  refine WO.mv rfl ?_
  refine WO.bin rfl rfl (by decide) (by decide) rfl ?_
  refine WO.mv rfl ?_
  refine WO.cutB (d := 40) 7 ((r15 != (bit .xor .u16 t0 (wrapA .u16 (Int.tdiv t0 2)))) || ((bit .xor .u16 r11 (wrapA .u16 (Int.tdiv r11 2))) != t0)) (fun q19 => ?_) (fun q19 => ?_) ?_
  · refine WO.gno rfl rfl ?_
    refine WO.gno rfl rfl ?_
    refine WO.gno rfl rfl ?_
    refine WO.gno rfl rfl ?_
    refine WO.gno rfl rfl ?_
    refine WO.gno rfl rfl ?_
    refine WO.pickT rfl rfl ?_
    refine WO.nil ?_
    exact ⟨rfl, rfl, (Cov.any rfl (orT q19) (Cov.skip rfl (Cov.skip rfl (Cov.skip rfl (Cov.skip rfl (Cov.skip rfl (Cov.skip rfl (Cov.skip rfl (Cov.skip rfl (Cov.refl _))))))))))⟩
  · skip
    refine WO.gyes rfl rfl ?_
    refine WO.mv rfl ?_
    refine WO.gyes rfl rfl ?_
    refine WO.mv rfl ?_
    refine WO.gyes rfl rfl ?_
    refine WO.bin rfl rfl (by decide) (by decide) rfl ?_
    refine WO.gyes rfl rfl ?_
    refine WO.bits rfl rfl rfl (by decide) (by decide) rfl ?_
    refine WO.gyes rfl rfl ?_
    refine WO.mv rfl ?_
    refine WO.gyes rfl rfl ?_
    refine WO.bin rfl rfl (by decide) (by decide) rfl ?_
    refine WO.pickF rfl rfl ?_
    refine WO.nil ?_
    exact ⟨rfl, rfl, (Cov.any rfl (orF q19) (Cov.skip rfl (Cov.skip rfl (Cov.skip rfl (Cov.skip rfl (Cov.skip rfl (Cov.skip rfl (Cov.skip rfl (Cov.skip rfl (Cov.refl _))))))))))⟩
  refine WO.nil ?_
  refine thenL_n ?_
  refine WC.cond rfl (fun q20 => ?_) (fun q20 => ?_)
  · have h := iteT q20 h
    refine WC.seq ?_
    refine WC.region ?_
    refine WO.asg rfl ?_
    refine WO.nil ?_
    refine thenL_n ?_
    refine WC.ret ?_
    refine thenL_r ?_
    obtain rfl := someI h
    exact ⟨.inr rfl, _, _, rfl, rfl, rfl⟩
  · have h := iteF q20 h
    refine WC.skip ?_
    refine thenL_n ?_
    refine WC.seq ?_
    refine WC.seq ?_
    refine WC.region ?_
    refine WO.mv rfl ?_
    refine WO.bin rfl rfl (by decide) (by decide) rfl ?_
    refine WO.nil ?_
    refine thenL_n ?_
    obtain ⟨b32, e33, h⟩ := bindS h
    refine WC.mono (Q' := (fun b e l' m' n' => (match b with | .inl b34 => e = .normal ∧ ∃ S35 : Cx n, S35.m = m' ∧ S35.n = n' ∧ Cov l' [(1, .sc (.int .i64 t1)), (8, .sc v7), (9, .sc (.int .i64 r5.2))] ∧ Ow Y22 S35 2 v7 r5.1 | .inr b34 => e = .ret ∧ ∃ S36 : Cx n, S36.m = m' ∧ S36.n = n' ∧ Cov l' [(4, .sc (.bool b34))])) b32) ?_ ?_
    · have h := e33
      dsimp only at h ⊢
      refine WC.cond rfl (fun q21 => ?_) (fun q21 => ?_)
      · have h := iteT q21 h
        refine WC.seq ?_
        refine WC.region ?_
        refine WO.mv rfl ?_
        refine WO.bin rfl rfl (by decide) (by decide) rfl ?_
        refine WO.mv rfl ?_
        refine WO.cutB (d := 48) 3 ((r1.2 != 4) || (r1.1 != 0)) (fun q22 => ?_) (fun q22 => ?_) ?_
        · refine WO.gno rfl rfl ?_
          refine WO.gno rfl rfl ?_
          refine WO.pickT rfl rfl ?_
          refine WO.nil ?_
          exact ⟨rfl, rfl, (Cov.any rfl (orT q22) (Cov.skip rfl (Cov.skip rfl (Cov.skip rfl (Cov.skip rfl (Cov.refl _))))))⟩
        · skip
          refine WO.gyes rfl rfl ?_
          refine WO.mv rfl ?_
          refine WO.gyes rfl rfl ?_
          refine WO.bin rfl rfl (by decide) (by decide) rfl ?_
          refine WO.pickF rfl rfl ?_
          refine WO.nil ?_
          exact ⟨rfl, rfl, (Cov.any rfl (orF q22) (Cov.skip rfl (Cov.skip rfl (Cov.skip rfl (Cov.skip rfl (Cov.refl _))))))⟩
        refine WO.nil ?_
        refine thenL_n ?_
        refine WC.cond rfl (fun q23 => ?_) (fun q23 => ?_)
        · have h := iteT q23 h
          refine WC.seq ?_
          refine WC.region ?_
          refine WO.asg rfl ?_
          refine WO.nil ?_
          refine thenL_n ?_
          refine WC.ret ?_
          obtain rfl := someI h
          exact ⟨rfl, ⟨S17, rfl, rfl, (Cov.cons rfl (Cov.nil _))⟩⟩
        · have h := iteF q23 h
          refine WC.skip ?_
          obtain rfl := someI h
          exact ⟨rfl, ⟨S17, rfl, rfl, (Cov.cons rfl (Cov.cons rfl (Cov.cons rfl (Cov.nil _)))), ho8⟩⟩
      · have h := iteF q21 h
        refine WC.seq ?_
        refine WC.region ?_
        refine WO.mv rfl ?_
        refine WO.bin rfl rfl (by decide) (by decide) rfl ?_
        refine WO.mv rfl ?_
        refine WO.cutB (d := 54) 3 ((r1.2 != 0) || (decide (r1.1 < 0))) (fun q24 => ?_) (fun q24 => ?_) ?_
        · refine WO.gno rfl rfl ?_
          refine WO.gno rfl rfl ?_
          refine WO.pickT rfl rfl ?_
          refine WO.nil ?_
          exact ⟨rfl, rfl, (Cov.any rfl (orT q24) (Cov.skip rfl (Cov.skip rfl (Cov.skip rfl (Cov.skip rfl (Cov.refl _))))))⟩
        · skip
          refine WO.gyes rfl rfl ?_
          refine WO.mv rfl ?_
          refine WO.gyes rfl rfl ?_
          refine WO.bin rfl rfl (by decide) (by decide) rfl ?_
          refine WO.pickF rfl rfl ?_
          refine WO.nil ?_
          exact ⟨rfl, rfl, (Cov.any rfl (orF q24) (Cov.skip rfl (Cov.skip rfl (Cov.skip rfl (Cov.skip rfl (Cov.refl _))))))⟩
        refine WO.mv rfl ?_
        refine WO.cutB (d := 58) 3 (((r1.2 != 0) || (decide (r1.1 < 0))) || (decide (r1.1 > 15))) (fun q25 => ?_) (fun q25 => ?_) ?_
        · refine WO.gno rfl rfl ?_
          refine WO.gno rfl rfl ?_
          refine WO.pickT rfl rfl ?_
          refine WO.nil ?_
          exact ⟨rfl, rfl, (Cov.any rfl (orT q25) (Cov.skip rfl (Cov.skip rfl (Cov.skip rfl (Cov.skip rfl (Cov.refl _))))))⟩
        · skip
          refine WO.gyes rfl rfl ?_
          refine WO.mv rfl ?_
          refine WO.gyes rfl rfl ?_
          refine WO.bin rfl rfl (by decide) (by decide) rfl ?_
          refine WO.pickF rfl rfl ?_
          refine WO.nil ?_
          exact ⟨rfl, rfl, (Cov.any rfl (orF q25) (Cov.skip rfl (Cov.skip rfl (Cov.skip rfl (Cov.skip rfl (Cov.refl _))))))⟩
        refine WO.mv rfl ?_
        obtain ⟨y29, e30, h⟩ := bindS h
        refine WO.cutB (d := 71) 12 y29 (fun q28 => ?_) (fun q28 => ?_) ?_
        · have h := e30
          have h := iteT q28 h
          obtain rfl := someI h
          refine WO.gno rfl rfl ?_
          refine WO.gno rfl rfl ?_
          refine WO.gno rfl rfl ?_
          refine WO.gno rfl rfl ?_
          refine WO.gno rfl rfl ?_
          refine WO.gno rfl rfl ?_
          refine WO.gno rfl rfl ?_
          refine WO.gno rfl rfl ?_
          refine WO.gno rfl rfl ?_
          refine WO.gno rfl rfl ?_
          refine WO.gno rfl rfl ?_
          refine WO.pickT rfl rfl ?_
          refine WO.nil ?_
          exact ⟨rfl, rfl, (Cov.cons rfl (Cov.skip rfl (Cov.skip rfl (Cov.skip rfl (Cov.skip rfl (Cov.skip rfl (Cov.skip rfl (Cov.skip rfl (Cov.skip rfl (Cov.skip rfl (Cov.skip rfl (Cov.skip rfl (Cov.skip rfl (Cov.skip rfl (Cov.refl _)))))))))))))))⟩
        · have h := e30
          have h := iteF q28 h
          refine WO.gyes rfl rfl ?_
          refine WO.mv rfl ?_
          refine WO.gyes rfl rfl ?_
          refine WO.mv rfl ?_
          refine WO.gyes rfl rfl ?_
          obtain ⟨x26, e27, h⟩ := bindS h
          refine WO.shlD rfl rfl e27 ?_
          refine WO.gyes rfl rfl ?_
          refine WO.bits rfl rfl rfl (by decide) (by decide) rfl ?_
          refine WO.gyes rfl rfl ?_
          refine WO.mv rfl ?_
          refine WO.gyes rfl rfl ?_
          refine WO.bin rfl rfl (by decide) (by decide) rfl ?_
          refine WO.gyes rfl rfl ?_
          refine WO.mv rfl ?_
          refine WO.gyes rfl rfl ?_
          refine WO.bin rfl rfl (by decide) (by decide) rfl ?_
          refine WO.gyes rfl rfl ?_
          refine WO.bin rfl rfl (by decide) (by decide) rfl ?_
          refine WO.gyes rfl rfl ?_
          refine WO.bits rfl rfl rfl (by decide) (by decide) rfl ?_
          refine WO.gyes rfl rfl ?_
          refine WO.bin rfl rfl (by decide) (by decide) rfl ?_
          obtain rfl := someI h
          refine WO.pickF rfl rfl ?_
          refine WO.nil ?_
          exact ⟨rfl, rfl, (Cov.cons rfl (Cov.skip rfl (Cov.skip rfl (Cov.skip rfl (Cov.skip rfl (Cov.skip rfl (Cov.skip rfl (Cov.skip rfl (Cov.skip rfl (Cov.skip rfl (Cov.skip rfl (Cov.skip rfl (Cov.skip rfl (Cov.skip rfl (Cov.refl _)))))))))))))))⟩
        refine WO.nil ?_
        refine thenL_n ?_
        refine WC.cond rfl (fun q31 => ?_) (fun q31 => ?_)
        · have h := iteT q31 h
          refine WC.seq ?_
          refine WC.region ?_
          refine WO.asg rfl ?_
          refine WO.nil ?_
          refine thenL_n ?_
          refine WC.ret ?_
          obtain rfl := someI h
          exact ⟨rfl, ⟨S17, rfl, rfl, (Cov.cons rfl (Cov.nil _))⟩⟩
        · have h := iteF q31 h
          refine WC.skip ?_
          obtain rfl := someI h
          exact ⟨rfl, ⟨S17, rfl, rfl, (Cov.cons rfl (Cov.cons rfl (Cov.cons rfl (Cov.nil _)))), ho8⟩⟩
    dsimp only
    cases b32 with
    | inl b37 =>
      simp only at h
      rintro _ _ _ _ ⟨rfl, ⟨S38, rfl, rfl, hc39, ho8⟩⟩
      refine thenL_n ?_
      refine WC.cov hc39 ?_
      refine WC.seq ?_
      refine WC.seq ?_
      refine WC.region ?_
      refine WO.mv rfl ?_
      refine WO.bin rfl rfl (by decide) (by decide) rfl ?_
      refine WO.mv rfl ?_
      refine WO.cutB (d := 77) 3 ((decide (t1 < 0)) || (decide (t1 > 10))) (fun q40 => ?_) (fun q40 => ?_) ?_
      · refine WO.gno rfl rfl ?_
        refine WO.gno rfl rfl ?_
        refine WO.pickT rfl rfl ?_
        refine WO.nil ?_
        exact ⟨rfl, rfl, (Cov.any rfl (orT q40) (Cov.skip rfl (Cov.skip rfl (Cov.skip rfl (Cov.skip rfl (Cov.refl _))))))⟩
      · skip
        refine WO.gyes rfl rfl ?_
        refine WO.mv rfl ?_
        refine WO.gyes rfl rfl ?_
        refine WO.bin rfl rfl (by decide) (by decide) rfl ?_
        refine WO.pickF rfl rfl ?_
        refine WO.nil ?_
        exact ⟨rfl, rfl, (Cov.any rfl (orF q40) (Cov.skip rfl (Cov.skip rfl (Cov.skip rfl (Cov.skip rfl (Cov.refl _))))))⟩
      refine WO.nil ?_
      refine thenL_n ?_
      refine WC.cond rfl (fun q41 => ?_) (fun q41 => ?_)
      · have h := iteT q41 h
        refine WC.seq ?_
        refine WC.region ?_
        refine WO.mv rfl ?_
        refine WO.bin rfl rfl (by decide) (by decide) rfl ?_
        refine WO.mv rfl ?_
        refine WO.cutB (d := 84) 4 ((r5.2 == 1) && ((r5.1.length : Int) == 0)) (fun q42 => ?_) (fun q42 => ?_) ?_
        · skip
          refine WO.gyes rfl rfl ?_
          refine WO.mv rfl ?_
          refine WO.gyes rfl rfl ?_
          refine WO.lenS rfl ho8.slv rfl ?_
          refine WO.gyes rfl rfl ?_
          refine WO.bin rfl rfl (by decide) (by decide) rfl ?_
          refine WO.pickT rfl rfl ?_
          refine WO.nil ?_
          exact ⟨rfl, rfl, (Cov.any rfl (andT q42) (Cov.skip rfl (Cov.skip rfl (Cov.skip rfl (Cov.skip rfl (Cov.skip rfl (Cov.refl _)))))))⟩
        · refine WO.gno rfl rfl ?_
          refine WO.gno rfl rfl ?_
          refine WO.gno rfl rfl ?_
          refine WO.pickF rfl rfl ?_
          refine WO.nil ?_
          exact ⟨rfl, rfl, (Cov.any rfl (andF q42) (Cov.skip rfl (Cov.skip rfl (Cov.skip rfl (Cov.skip rfl (Cov.skip rfl (Cov.refl _)))))))⟩
        refine WO.asg rfl ?_
        refine WO.nil ?_
        refine thenL_n ?_
        refine WC.ret ?_
        refine thenL_r ?_
        obtain rfl := someI h
        exact ⟨.inr rfl, _, _, rfl, rfl, rfl⟩
      · have h := iteF q41 h
        refine WC.skip ?_
        refine thenL_n ?_
        refine WC.seq ?_
        refine WC.seq ?_
        refine WC.region ?_
        refine WO.mv rfl ?_
        refine WO.bin rfl rfl (by decide) (by decide) rfl ?_
        refine WO.mv rfl ?_
        obtain ⟨y46, e47, h⟩ := bindS h
        refine WO.cutB (d := 93) 6 y46 (fun q45 => ?_) (fun q45 => ?_) ?_
        · have h := e47
          have h := iteT q45 h
          obtain rfl := someI h
          refine WO.gno rfl rfl ?_
          refine WO.gno rfl rfl ?_
          refine WO.gno rfl rfl ?_
          refine WO.gno rfl rfl ?_
          refine WO.gno rfl rfl ?_
          refine WO.pickT rfl rfl ?_
          refine WO.nil ?_
          exact ⟨rfl, rfl, (Cov.cons rfl (Cov.skip rfl (Cov.skip rfl (Cov.skip rfl (Cov.skip rfl (Cov.skip rfl (Cov.skip rfl (Cov.skip rfl (Cov.refl _)))))))))⟩
        · have h := e47
          have h := iteF q45 h
          refine WO.gyes rfl rfl ?_
          refine WO.mv rfl ?_
          refine WO.gyes rfl rfl ?_
          refine WO.lenS rfl ho8.slv rfl ?_
          refine WO.gyes rfl rfl ?_
          refine WO.mv rfl ?_
          refine WO.gyes rfl rfl ?_
          obtain ⟨x43, e44, h⟩ := bindS h
          refine WO.shlD rfl rfl e44 ?_
          refine WO.gyes rfl rfl ?_
          refine WO.bin rfl rfl (by decide) (by decide) rfl ?_
          obtain rfl := someI h
          refine WO.pickF rfl rfl ?_
          refine WO.nil ?_
          exact ⟨rfl, rfl, (Cov.cons rfl (Cov.skip rfl (Cov.skip rfl (Cov.skip rfl (Cov.skip rfl (Cov.skip rfl (Cov.skip rfl (Cov.skip rfl (Cov.refl _)))))))))⟩
        refine WO.nil ?_
        refine thenL_n ?_
        refine WC.cond rfl (fun q48 => ?_) (fun q48 => ?_)
        · have h := iteT q48 h
          refine WC.seq ?_
          refine WC.region ?_
          refine WO.asg rfl ?_
          refine WO.nil ?_
          refine thenL_n ?_
          refine WC.ret ?_
          refine thenL_r ?_
          obtain rfl := someI h
          exact ⟨.inr rfl, _, _, rfl, rfl, rfl⟩
        · have h := iteF q48 h
          refine WC.skip ?_
          refine thenL_n ?_
          refine WC.seq ?_
          refine WC.seq ?_
          refine WC.region ?_
          refine WO.mv rfl ?_
          refine WO.lenS rfl ho8.slv rfl ?_
          refine WO.mv rfl ?_
          refine WO.nil ?_
          refine thenL_n ?_
          refine WC.block ?_
          obtain ⟨b60, e61, h⟩ := bindS h
          refine WC.loopD e61 (fun s49 l' m' n' => ∃ S50 : Cx n, S50.m = m' ∧ S50.n = n' ∧ Cov l' [(94, .sc v7), (95, .sc (.int .i64 ((r5.1.length : Int)))), (96, .sc (.int .i64 s49))] ∧ Ow Y22 S50 2 v7 r5.1) (fun b e l' m' n' => (match b with | .inl b51 => e = .exit 0 ∧ ∃ S52 : Cx n, S52.m = m' ∧ S52.n = n' ∧ Cov l' [] | .inr b51 => e = .ret ∧ ∃ S53 : Cx n, S53.m = m' ∧ S53.n = n' ∧ Cov l' [(4, .sc (.bool b51))])) (by exact ⟨S38, rfl, rfl, (Cov.cons rfl (Cov.cons rfl (Cov.cons rfl (Cov.nil _)))), ho8⟩) ?_ ?_
          · clear h
            rintro s49 q _ _ _ ⟨S54, rfl, rfl, hc55, ho8⟩ h
            unfold F3_l0 at h
            refine WC.cov hc55 ?_
            refine WC.seq ?_
            refine WC.region ?_
            refine WO.bin rfl rfl (by decide) (by decide) rfl ?_
            refine WO.nil ?_
            refine thenL_n ?_
            refine WC.seq ?_
            refine WC.cond rfl (fun q56 => ?_) (fun q56 => ?_)
            · have h := iteT q56 h
              refine WC.skip ?_
              refine thenL_n ?_
              refine WC.seq ?_
              refine WC.block ?_
              refine WC.seq ?_
              refine WC.region ?_
              refine WO.mv rfl ?_
              obtain ⟨x57, e58, h⟩ := bindS h
              refine WO.ixS rfl rfl ho8.slv (at?_lt e58) rfl ?_
              refine WO.ldF rfl ho8.ro (fun _ hi => hi) (at?_get e58) rfl rfl rfl ?_
              refine WO.asg rfl ?_
              refine WO.asg rfl ?_
              refine WO.nil ?_
              refine thenL_n ?_
              refine WC.seq ?_
              refine WC.region ?_
              refine WO.mv rfl ?_
              refine WO.mv rfl ?_
              refine WO.conv rfl rfl rfl rfl ?_
              refine WO.mv rfl ?_
              refine WO.conv rfl rfl rfl rfl ?_
              refine WO.bin rfl rfl (by decide) (by decide) rfl ?_
              refine WO.bits rfl rfl rfl (by decide) (by decide) rfl ?_
              refine WO.bin rfl rfl (by decide) (by decide) rfl ?_
              refine WO.nil ?_
              refine thenL_n ?_
              refine WC.cond rfl (fun q59 => ?_) (fun q59 => ?_)
              · have h := iteT q59 h
                refine WC.seq ?_
                refine WC.region ?_
                refine WO.asg rfl ?_
                refine WO.nil ?_
                refine thenL_n ?_
                refine WC.ret ?_
                refine blockL_r ?_
                refine thenL_r ?_
                refine thenL_r ?_
                obtain rfl := someI h
                exact ⟨_, rfl, rfl, ⟨S54, rfl, rfl, (Cov.cons rfl (Cov.nil _))⟩⟩
              · have h := iteF q59 h
                refine WC.skip ?_
                refine blockL_n ?_
                refine thenL_n ?_
                refine WC.region ?_
                refine WO.bin rfl rfl (by decide) (by decide) rfl ?_
                refine WO.mv rfl ?_
                refine WO.nil ?_
                refine thenL_n ?_
                obtain rfl := someI h
                exact ⟨_, rfl, ⟨S54, rfl, rfl, (Cov.cons rfl (Cov.cons rfl (Cov.cons rfl (Cov.nil _)))), ho8⟩⟩
            · have h := iteF q56 h
              refine WC.exit ?_
              refine thenL_e ?_
              refine thenL_e ?_
              obtain rfl := someI h
              exact ⟨_, rfl, rfl, ⟨S54, rfl, rfl, (Cov.nil _)⟩⟩
          cases b60 with
          | inl b62 =>
            simp only at h
            rintro _ _ _ _ ⟨rfl, ⟨S63, rfl, rfl, hc64⟩⟩
            refine blockL_s ?_
            refine thenL_n ?_
            refine WC.cov hc64 ?_
            refine WC.seq ?_
            refine WC.region ?_
            refine WO.asg rfl ?_
            refine WO.nil ?_
            refine thenL_n ?_
            refine WC.ret ?_
            obtain rfl := someI h
            exact ⟨.inr rfl, _, _, rfl, rfl, rfl⟩
          | inr b62 =>
            simp only at h
            rintro _ _ _ _ ⟨rfl, ⟨S65, rfl, rfl, hc66⟩⟩
            refine blockL_r ?_
            refine thenL_r ?_
            obtain rfl := someI h
            exact ⟨.inr rfl, _, _, (resK_cov hc66 rfl), rfl, rfl⟩
    | inr b37 =>
      simp only at h
      rintro _ _ _ _ ⟨rfl, ⟨S67, rfl, rfl, hc68⟩⟩
      refine thenL_r ?_
      obtain rfl := someI h
      exact ⟨.inr rfl, _, _, (resK_cov hc68 rfl), rfl, rfl⟩
end Go.Proofs.Ytkfmedmanhcdeaa

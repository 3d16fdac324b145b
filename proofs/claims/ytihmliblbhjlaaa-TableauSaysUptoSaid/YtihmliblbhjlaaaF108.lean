/- The machine answers F108: printed by a program of ours (gen.py). -/
import Derived.Test.YtihmliblbhjlaaaDef
import Derived.Test.YtihmliblbhjlaaaEnv
import Derived.Test.YtihmliblbhjlaaaF153
import Derived.Test.YtihmliblbhjlaaaF45
set_option linter.unusedVariables false
namespace Go.Proofs.Ytihmliblbhjlaaa
open Go.Am
theorem F108.fn : E.fn 108 = some ⟨52, (Try.f108.body.getD .skip), Try.f108.results.toList, []⟩ := rfl
theorem F108_ok {F : Nat} : ∀ {fl : Nat} {S0 : Cx fl} {r : (List (List Int))} {t0 : List (List Int)} {t1 : Int} {vt0 : SV} (h : F108 F t0 t1 = some r) (hot0 : Rd Y22 S0 vt0 t0), Ret E fl 108 [.sc vt0, .sc (.int .i64 t1)] S0.m S0.n (fun v m' n' => ∃ S' : Cx fl, S'.m = m' ∧ S'.n = n' ∧ ChM S0 S' ∧ (∃ w76 : SV, v = .sc w76 ∧ Rd Y22 S' w76 r)) := by
  induction F with
  | zero => intro fl S0 r t0 t1 vt0 h; cases h
  | succ F ih =>
    intro fl S0 r t0 t1 vt0 h hot0
    rw [F108] at h
    try dsimp only at h
    refine Ret.walk F108.fn ?_
    have hM := ChM.refl S0
    refine WC.seq ?_
    refine WC.region ?_
    refine WO.asg rfl ?_
    refine WO.nil ?_
    refine thenL_n ?_
    refine WC.seq ?_
    refine WC.seq ?_
    refine WC.region ?_
    refine WO.mv rfl ?_
    refine WO.lenS rfl hot0.slv rfl ?_
    refine WO.bin rfl rfl (by decide) (by decide) rfl ?_
    refine WO.nil ?_
    refine thenL_n ?_
    refine WC.cond rfl (fun q1 => ?_) (fun q1 => ?_)
    · have h := iteT q1 h
      refine WC.seq ?_
      refine WC.region ?_
      refine WO.mv rfl ?_
      refine WO.bsS (A := Y3) (S := S0) (M := [t1]) (cs := [.int .i64 t1]) 2 rfl rfl rfl ⟨[.int .i64 t1], _, rfl, rfl, rfl⟩ rfl (fun v2 S3 c4 ho5 => ?_)
      have hot0 := hot0.to c4
      have hM := hM.to c4
      have hot0 := hot0.drop 2
      have hM := hM.drop 2
      have ho5 := ho5.freeze
      refine WO.bsS (A := Y22) (S := (S3.drop 2)) (M := [[t1]]) (cs := [v2]) 3 rfl rfl rfl ⟨_, _, rfl, ⟨v2, rfl, ho5⟩, rfl⟩ rfl (fun v6 S7 c8 ho9 => ?_)
      have hot0 := hot0.to c8
      have hM := hM.to c8
      have ho5 := ho5.to c8
      refine WO.asg rfl ?_
      refine WO.nil ?_
      refine thenL_n ?_
      refine WC.ret ?_
      refine thenL_r ?_
      have hot0 := hot0.drop 3
      have hM := hM.drop 3
      have ho5 := ho5.drop 3
      have ho9 := ho9.freeze
      obtain rfl := someI h
      exact ⟨.inr rfl, _, _, rfl, rfl, ⟨(S7.drop 3), rfl, rfl, hM, v6, rfl, ho9⟩⟩
    · have h := iteF q1 h
      refine WC.skip ?_
      refine thenL_n ?_
      refine WC.seq ?_
      refine WC.region ?_
      refine WO.mv rfl ?_
      obtain ⟨L10, e11, h⟩ := bindS h
      refine WO.ixS rfl rfl hot0.slv (at?_lt e11) rfl ?_
      refine WO.ldS rfl hot0.ro (fun _ hi => hi) (at?_get e11) rfl rfl (fun v12 ho13 => ?_)
      have ho13 : Rd Y3 S0 v12 L10 := ho13
      obtain ⟨r14, e15, h⟩ := bindS h
      refine WO.callF (S := S0) 4 rfl rfl (F45_ok e15 ho13.vw) Lay.flat_fl (fun v16 S18 c19 ho17 => ?_)
      have hot0 := hot0.to c19
      have hM := hM.to c19
      have ho13 := ho13.to c19
      refine WO.asg rfl ?_
      refine WO.nil ?_
      refine thenL_n ?_
      refine WC.seq ?_
      refine WC.region ?_
      refine WO.mv rfl ?_
      refine WO.mv rfl ?_
      obtain ⟨r20, e21, h⟩ := bindS h
      refine WO.callE (S := S18) rfl rfl (F153_ok e21 ho17.vw) (fun S22 c23 => ?_)
      have hot0 := hot0.to c23
      have hM := hM.to c23
      have ho13 := ho13.to c23
      have ho17 := ho17.to c23
      refine WO.mv rfl ?_
      refine WO.do rfl rfl ?_
      refine WO.do rfl rfl ?_
      refine WO.asg rfl ?_
      refine WO.asg rfl ?_
      refine WO.nil ?_
      refine thenL_n ?_
      refine WC.seq ?_
      refine WC.seq ?_
      refine WC.region ?_
      refine WO.mv rfl ?_
      refine WO.mv rfl ?_
      refine WO.lenS rfl ho17.slv rfl ?_
      refine WO.bin rfl rfl (by decide) (by decide) rfl ?_
      refine WO.nil ?_
      refine thenL_n ?_
      refine WC.cond rfl (fun q24 => ?_) (fun q24 => ?_)
      · have h := iteT q24 h
        refine WC.seq ?_
        refine WC.drawN rfl rfl ?_
        have hot0z := hot0.oz
        have ho13z := ho13.oz
        have ho17z := ho17.oz
        refine WO.mv rfl ?_
        refine WO.mv rfl ?_
        refine WO.bsS (A := Y3) (S := S22) (M := [t1]) (cs := [.int .i64 t1]) 5 rfl rfl rfl ⟨[.int .i64 t1], _, rfl, rfl, rfl⟩ rfl (fun v25 S26 c27 ho28 => ?_)
        have hot0z := hot0z.toz c27
        have ho13z := ho13z.toz c27
        have ho17z := ho17z.tow c27
        have hot0 := hot0.to c27
        have hM := hM.to c27
        have ho13 := ho13.to c27
        have ho17 := ho17.to c27
        obtain ⟨L29, e30, h⟩ := bindS h
        refine WO.appS rfl rfl ho17 ho28.ro e30 rfl rfl (fun v31 S32 c33 ho34 => ?_)
        have hot0z := hot0z.toz c33
        have ho13z := ho13z.toz c33
        have hot0 := hot0.to c33
        have hM := hM.to c33
        have ho13 := ho13.to c33
        have ho28 := ho28.to c33
        have hot0z := hot0z.dropz 4
        have ho13z := ho13z.dropz 4
        have hot0 := hot0.drop 4
        have hM := hM.drop 4
        have ho13 := ho13.drop 4
        have ho28 := ho28.drop 4
        have ho34 := ho34.freeze
        refine WO.bsS (A := Y22) (S := (S32.drop 4)) (M := [L29]) (cs := [v31]) 6 rfl rfl rfl ⟨_, _, rfl, ⟨v31, rfl, ho34⟩, rfl⟩ rfl (fun v35 S36 c37 ho38 => ?_)
        have hot0z := hot0z.toz c37
        have ho13z := ho13z.toz c37
        have hot0 := hot0.to c37
        have hM := hM.to c37
        have ho13 := ho13.to c37
        have ho28 := ho28.to c37
        have ho34 := ho34.to c37
        refine WO.mv rfl ?_
        obtain ⟨L39, e40, h⟩ := bindS h
        refine WO.slc (k' := .i64) rfl (.inl ⟨_, rfl, rfl⟩) (.inr ⟨rfl, rfl⟩) hot0 e40 rfl (fun v41 ho42 => ?_)
        have ho42 : Rd Y22 S36 v41 L39 := ho42
        obtain ⟨L43, e44, h⟩ := bindS h
        refine WO.appS rfl rfl ho38 ho42.ro e44 rfl rfl (fun v45 S46 c47 ho48 => ?_)
        have hot0z := hot0z.toz c47
        have ho13z := ho13z.toz c47
        have hot0 := hot0.to c47
        have hM := hM.to c47
        have ho13 := ho13.to c47
        have ho28 := ho28.to c47
        have ho34 := ho34.to c47
        have ho42 := ho42.to c47
        refine WO.asg rfl ?_
        refine WO.nil ?_
        refine thenL_n ?_
        refine WC.ret ?_
        refine thenL_r ?_
        have hot0 := hot0.drop 6
        have hM := hM.drop 6
        have ho13 := ho13.drop 6
        have ho28 := ho28.drop 6
        have ho34 := ho34.drop 6
        have ho42 := ho42.drop 6
        have ho48 := ho48.freeze
        obtain rfl := someI h
        exact ⟨.inr rfl, _, _, rfl, rfl, ⟨(S46.drop 6), rfl, rfl, hM, v45, rfl, ho48⟩⟩
      · have h := iteF q24 h
        refine WC.skip ?_
        refine thenL_n ?_
        refine WC.seq ?_
        refine WC.region ?_
        refine WO.mv rfl ?_
        refine WO.mv rfl ?_
        obtain ⟨x49, e50, h⟩ := bindS h
        refine WO.ixS rfl rfl ho17.slv (at?_lt e50) rfl ?_
        refine WO.ldF rfl ho17.ro (fun _ hi => hi) (at?_get e50) rfl rfl rfl ?_
        refine WO.asg rfl ?_
        refine WO.nil ?_
        refine thenL_n ?_
        refine WC.seq ?_
        refine WC.region ?_
        refine WO.mv rfl ?_
        refine WO.mv rfl ?_
        refine WO.mv rfl ?_
        obtain ⟨u51, e52, h⟩ := bindS h
        refine WO.ixS rfl rfl ho17.slv (ck_some e52) rfl ?_
        refine WO.st1 (u' := t1) rfl rfl ho17 (ck_nat e52) rfl rfl (fun S53 c54 ho17 => ?_)
        have hot0 := hot0.to c54
        have hM := hM.to c54
        have ho13 := ho13.to c54
        refine WO.nil ?_
        refine thenL_n ?_
        refine WC.seq ?_
        refine WC.region ?_
        refine WO.mv rfl ?_
        have hot0 := hot0.drop 4
        have hM := hM.drop 4
        have ho13 := ho13.drop 4
        have ho17 := ho17.freeze
        refine WO.bsS (A := Y22) (S := (S53.drop 4)) (M := [(r14.set ((Int.toNat r20.1)) t1)]) (cs := [v16]) 7 rfl rfl rfl ⟨_, _, rfl, ⟨v16, rfl, ho17⟩, rfl⟩ rfl (fun v55 S56 c57 ho58 => ?_)
        have hot0 := hot0.to c57
        have hM := hM.to c57
        have ho13 := ho13.to c57
        have ho17 := ho17.to c57
        refine WO.mv rfl ?_
        obtain ⟨L59, e60, h⟩ := bindS h
        refine WO.slc (k' := .i64) rfl (.inl ⟨_, rfl, rfl⟩) (.inr ⟨rfl, rfl⟩) hot0 e60 rfl (fun v61 ho62 => ?_)
        have ho62 : Rd Y22 S56 v61 L59 := ho62
        refine WO.mv rfl ?_
        obtain ⟨r63, e64, h⟩ := bindS h
        refine WO.callG (S := S56) [] [] rfl rfl (ih (S0 := S56.mp []) e64 ho62.mp) (fun _ S67 S68 hb hR => ?_)
        obtain ⟨v65, rfl, hR0⟩ := hR
        have c69 : Ch 1 S56 S68 := hb.ch [] 1
        have hot0 := hot0.to c69
        have hM := hM.to c69
        have ho13 := ho13.to c69
        have ho17 := ho17.to c69
        have ho58 := ho58.to c69
        have ho62 := ho62.to c69
        have ho66 := hR0.bkS hb rfl
        obtain ⟨L70, e71, h⟩ := bindS h
        refine WO.appS rfl rfl ho58 ho66.ro e71 rfl rfl (fun v72 S73 c74 ho75 => ?_)
        have hot0 := hot0.to c74
        have hM := hM.to c74
        have ho13 := ho13.to c74
        have ho17 := ho17.to c74
        have ho62 := ho62.to c74
        have ho66 := ho66.to c74
        refine WO.asg rfl ?_
        refine WO.nil ?_
        refine thenL_n ?_
        refine WC.ret ?_
        have hot0 := hot0.drop 7
        have hM := hM.drop 7
        have ho13 := ho13.drop 7
        have ho17 := ho17.drop 7
        have ho62 := ho62.drop 7
        have ho66 := ho66.drop 7
        have ho75 := ho75.freeze
        obtain rfl := someI h
        exact ⟨.inr rfl, _, _, rfl, rfl, ⟨(S73.drop 7), rfl, rfl, hM, v72, rfl, ho75⟩⟩
end Go.Proofs.Ytihmliblbhjlaaa

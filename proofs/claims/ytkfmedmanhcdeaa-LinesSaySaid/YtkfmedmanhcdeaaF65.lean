/- The machine answers F65: printed by a program of ours (gen.py). -/
import Derived.Test.YtkfmedmanhcdeaaDef
import Derived.Test.YtkfmedmanhcdeaaEnv
set_option linter.unusedVariables false
namespace Go.Proofs.Ytkfmedmanhcdeaa
open Go.Am
theorem F65.fn : E.fn 65 = some ⟨59, (Try.f65.body.getD .skip), Try.f65.results.toList, []⟩ := rfl
theorem F65_ok {F : Nat} {m : Mem} {n : Nat} {r : (List Int)} {t0 : List Int} {vt0 : SV} (h : F65 F t0 = some r) (kt0 : Vw Y3 n m vt0 t0) : Ret E n 65 [.sc vt0] m n (fun v m' n' => ∃ w, v = .sc w ∧ Fr Y3 n m' n' w r) := by
  unfold F65 at h
  refine Ret.walk F65.fn ?_
  refine WC.start fun S0 em en hz => ?_
  have hot0 := kt0.rdS em hz
  refine WC.seq ?_
  refine WC.region ?_
  refine WO.asg rfl ?_
  refine WO.nil ?_
  refine thenL_n ?_
  refine WC.seq ?_
  refine WC.region ?_
  refine WO.asg rfl ?_
  refine WO.nil ?_
  refine thenL_n ?_
  refine WC.seq ?_
  refine WC.region ?_
  refine WO.asg rfl ?_
  refine WO.nil ?_
  refine thenL_n ?_
  refine WC.seq ?_
  refine WC.seq ?_
  refine WC.region ?_
  refine WO.mv rfl ?_
  refine WO.lenS rfl hot0.slv rfl ?_
  refine WO.mv rfl ?_
  refine WO.nil ?_
  refine thenL_n ?_
  refine WC.block ?_
  obtain ⟨b91, e92, h⟩ := bindS h
  refine WC.loopD e92 (fun s1 l' m' n' => ∃ S4 : Cx n, ∃ v5 v6 : SV, S4.m = m' ∧ S4.n = n' ∧ Cov l' [(3, .sc v5), (4, .sc v6), (8, .sc vt0), (9, .sc (.int .i64 ((t0.length : Int)))), (10, .sc (.int .i64 s1.2.2))] ∧ Rd Y3 S4 vt0 t0 ∧ Tw Y3 S4 2 3 v5 s1.1 ∧ Ow Y3 S4 4 v6 s1.2.1) (fun b e l' m' n' => e = .exit 0 ∧ ∃ S7 : Cx n, ∃ v8 : SV, S7.m = m' ∧ S7.n = n' ∧ Cov l' [(4, .sc v8)] ∧ Ow Y3 S7 4 v8 b) (by exact ⟨S0, .nils, .nils, rfl, rfl, (Cov.cons rfl (Cov.cons rfl (Cov.cons rfl (Cov.cons rfl (Cov.cons rfl (Cov.nil _)))))), hot0, Tw.nil, Ow.nil⟩) ?_ ?_
  · clear h
    rintro s1 q _ _ _ ⟨S9, v10, v11, rfl, rfl, hc12, hot0, ho3, ho4⟩ h
    unfold F65_l1 at h
    refine WC.cov hc12 ?_
    refine WC.seq ?_
    refine WC.region ?_
    refine WO.bin rfl rfl (by decide) (by decide) rfl ?_
    refine WO.nil ?_
    refine thenL_n ?_
    refine WC.seq ?_
    refine WC.cond rfl (fun q13 => ?_) (fun q13 => ?_)
    · have h := iteT q13 h
      refine WC.skip ?_
      refine thenL_n ?_
      refine WC.seq ?_
      refine WC.block ?_
      refine WC.seq ?_
      refine WC.region ?_
      obtain ⟨x14, e15, h⟩ := bindS h
      refine WO.ixS rfl rfl hot0.slv (at?_lt e15) rfl ?_
      refine WO.ldF rfl hot0.ro (fun _ hi => hi) (at?_get e15) rfl rfl rfl ?_
      refine WO.asg rfl ?_
      refine WO.nil ?_
      refine thenL_n ?_
      refine WC.seq ?_
      refine WC.region ?_
      refine WO.asg rfl ?_
      refine WO.nil ?_
      refine thenL_n ?_
      refine WC.seq ?_
      refine WC.block ?_
      obtain ⟨b35, e36, h⟩ := bindS h
      refine WC.loopD e36 (fun s16 l' m' n' => ∃ S17 : Cx n, S17.m = m' ∧ S17.n = n' ∧ Cov l' [(3, .sc v10), (4, .sc v11), (6, .sc (.int .i64 x14)), (7, .sc (.int .i64 s16)), (8, .sc vt0), (9, .sc (.int .i64 ((t0.length : Int)))), (10, .sc (.int .i64 s1.2.2))] ∧ Tw Y3 S17 2 3 v10 s1.1 ∧ Ow Y3 S17 4 v11 s1.2.1 ∧ Rd Y3 S17 vt0 t0) (fun b e l' m' n' => e = .exit 2 ∧ ∃ S18 : Cx n, S18.m = m' ∧ S18.n = n' ∧ Cov l' [(3, .sc v10), (4, .sc v11), (6, .sc (.int .i64 x14)), (7, .sc (.int .i64 b)), (8, .sc vt0), (9, .sc (.int .i64 ((t0.length : Int)))), (10, .sc (.int .i64 s1.2.2))] ∧ Tw Y3 S18 2 3 v10 s1.1 ∧ Ow Y3 S18 4 v11 s1.2.1 ∧ Rd Y3 S18 vt0 t0) (by exact ⟨S9, rfl, rfl, (Cov.cons rfl (Cov.cons rfl (Cov.cons rfl (Cov.cons rfl (Cov.cons rfl (Cov.cons rfl (Cov.cons rfl (Cov.nil _)))))))), ho3, ho4, hot0⟩) ?_ ?_
      · clear h
        rintro s16 q _ _ _ ⟨S19, rfl, rfl, hc20, ho3, ho4, hot0⟩ h
        unfold F65_l0 at h
        refine WC.cov hc20 ?_
        refine WC.seq ?_
        refine WC.seq ?_
        refine WC.drawP rfl ?_
        refine WO.mv rfl ?_
        refine WO.mv rfl ?_
        refine WO.lenS rfl ho3.slv rfl ?_
        refine WO.bin rfl rfl (by decide) (by decide) rfl ?_
        refine WO.mv rfl ?_
        obtain ⟨y32, e33, h⟩ := bindS h
        refine WO.cutB (d := 33) 15 y32 (fun q31 => ?_) (fun q31 => ?_) ?_
        · have h := e33
          have h := iteT q31 h
          refine WO.gyes rfl rfl ?_
          refine WO.mv rfl ?_
          refine WO.gyes rfl rfl ?_
          refine WO.mv rfl ?_
          refine WO.gyes rfl rfl ?_
          obtain ⟨L21, e22, h⟩ := bindS h
          refine WO.ixS rfl rfl ho3.slv (at?_lt e22) rfl ?_
          refine WO.gyes rfl rfl ?_
          refine WO.ldTv rfl ho3 (at?_get e22) rfl ho3.lt rfl (fun v23 ho24 => ?_)
          refine WO.gyes rfl rfl ?_
          refine WO.mv rfl ?_
          refine WO.gyes rfl rfl ?_
          refine WO.mv rfl ?_
          refine WO.gyes rfl rfl ?_
          obtain ⟨L25, e26, h⟩ := bindS h
          refine WO.ixS rfl rfl ho3.slv (at?_lt e26) rfl ?_
          refine WO.gyes rfl rfl ?_
          refine WO.ldTv rfl ho3 (at?_get e26) rfl ho3.lt rfl (fun v27 ho28 => ?_)
          refine WO.gyes rfl rfl ?_
          refine WO.lenS rfl ho28.slv rfl ?_
          refine WO.gyes rfl rfl ?_
          refine WO.bin rfl rfl (by decide) (by decide) rfl ?_
          refine WO.gyes rfl rfl ?_
          obtain ⟨x29, e30, h⟩ := bindS h
          refine WO.ixS rfl rfl ho24.slv (at?_lt e30) rfl ?_
          refine WO.gyes rfl rfl ?_
          refine WO.ldF rfl ho24.ro (fun _ hi => hi) (at?_get e30) rfl rfl rfl ?_
          refine WO.gyes rfl rfl ?_
          refine WO.mv rfl ?_
          refine WO.gyes rfl rfl ?_
          refine WO.bin rfl rfl (by decide) (by decide) rfl ?_
          obtain rfl := someI h
          refine WO.pickT rfl rfl ?_
          refine WO.nil ?_
          exact ⟨rfl, rfl, (Cov.cons rfl (Cov.skip rfl (Cov.skip rfl (Cov.skip rfl (Cov.skip rfl (Cov.skip rfl (Cov.skip rfl (Cov.skip rfl (Cov.skip rfl (Cov.skip rfl (Cov.skip rfl (Cov.skip rfl (Cov.skip rfl (Cov.skip rfl (Cov.skip rfl (Cov.skip rfl (Cov.skip rfl (Cov.refl _))))))))))))))))))⟩
        · have h := e33
          have h := iteF q31 h
          obtain rfl := someI h
          refine WO.gno rfl rfl ?_
          refine WO.gno rfl rfl ?_
          refine WO.gno rfl rfl ?_
          refine WO.gno rfl rfl ?_
          refine WO.gno rfl rfl ?_
          refine WO.gno rfl rfl ?_
          refine WO.gno rfl rfl ?_
          refine WO.gno rfl rfl ?_
          refine WO.gno rfl rfl ?_
          refine WO.gno rfl rfl ?_
          refine WO.gno rfl rfl ?_
          refine WO.gno rfl rfl ?_
          refine WO.gno rfl rfl ?_
          refine WO.gno rfl rfl ?_
          refine WO.pickF rfl rfl ?_
          refine WO.nil ?_
          exact ⟨rfl, rfl, (Cov.cons rfl (Cov.skip rfl (Cov.skip rfl (Cov.skip rfl (Cov.skip rfl (Cov.skip rfl (Cov.skip rfl (Cov.skip rfl (Cov.skip rfl (Cov.skip rfl (Cov.skip rfl (Cov.skip rfl (Cov.skip rfl (Cov.skip rfl (Cov.skip rfl (Cov.skip rfl (Cov.skip rfl (Cov.refl _))))))))))))))))))⟩
        refine WO.nil ?_
        refine thenL_n ?_
        refine WC.cond rfl (fun q34 => ?_) (fun q34 => ?_)
        · have h := iteT q34 h
          refine WC.skip ?_
          refine thenL_n ?_
          refine WC.block ?_
          refine WC.region ?_
          refine WO.mv rfl ?_
          refine WO.bin rfl rfl (by decide) (by decide) rfl ?_
          refine WO.asg rfl ?_
          refine WO.nil ?_
          refine blockL_n ?_
          refine thenL_n ?_
          obtain rfl := someI h
          exact ⟨_, rfl, ⟨S19, rfl, rfl, (Cov.cons rfl (Cov.cons rfl (Cov.cons rfl (Cov.cons rfl (Cov.cons rfl (Cov.cons rfl (Cov.cons rfl (Cov.nil _)))))))), ho3, ho4, hot0⟩⟩
        · have h := iteF q34 h
          refine WC.exit ?_
          refine thenL_e ?_
          refine thenL_e ?_
          obtain rfl := someI h
          exact ⟨_, rfl, rfl, ⟨S19, rfl, rfl, (Cov.cons rfl (Cov.cons rfl (Cov.cons rfl (Cov.cons rfl (Cov.cons rfl (Cov.cons rfl (Cov.cons rfl (Cov.nil _)))))))), ho3, ho4, hot0⟩⟩
      rintro _ _ _ _ ⟨rfl, ⟨S37, rfl, rfl, hc38, ho3, ho4, hot0⟩⟩
      refine blockL_s ?_
      refine thenL_n ?_
      refine WC.cov hc38 ?_
      refine WC.seq ?_
      refine WC.seq ?_
      refine WC.region ?_
      refine WO.mv rfl ?_
      refine WO.mv rfl ?_
      refine WO.lenS rfl ho3.slv rfl ?_
      refine WO.bin rfl rfl (by decide) (by decide) rfl ?_
      refine WO.nil ?_
      refine thenL_n ?_
      obtain ⟨b52, e53, h⟩ := bindS h
      refine WC.mono (Q' := (fun b e l' m' n' => e = .normal ∧ ∃ S54 : Cx n, ∃ v55 : SV, S54.m = m' ∧ S54.n = n' ∧ Cov l' [(3, .sc v55), (4, .sc v11), (6, .sc (.int .i64 x14)), (7, .sc (.int .i64 b35)), (8, .sc vt0), (9, .sc (.int .i64 ((t0.length : Int)))), (10, .sc (.int .i64 s1.2.2))] ∧ Ow Y3 S54 4 v11 s1.2.1 ∧ Rd Y3 S54 vt0 t0 ∧ Tw Y3 S54 2 3 v55 b) b52) ?_ ?_
      · have h := e53
        dsimp only at h ⊢
        refine WC.cond rfl (fun q39 => ?_) (fun q39 => ?_)
        · have h := iteT q39 h
          refine WC.region ?_
          refine WO.mv rfl ?_
          refine WO.bsH (S := S37) (w := .nils) 5 rfl rfl rfl (fun v40 S41 c42 ho43 => ?_)
          have ho3 := ho3.to c42
          have ho4 := ho4.to c42
          have hot0 := hot0.to c42
          obtain ⟨L44, e45, h⟩ := bindS h
          refine WO.appT rfl rfl ho3 ho43.ro (Ow.nil : Ow Y3 S41 6 .nils []) e45 rfl rfl rfl rfl rfl rfl rfl (fun v46 S47 S49 c48 c50 ho51 => ?_)
          have ho4 := ho4.to c48
          have hot0 := hot0.to c48
          have ho43 := ho43.to c48
          have ho4 := ho4.to c50
          have hot0 := hot0.to c50
          have ho43 := ho43.to c50
          refine WO.asg rfl ?_
          refine WO.nil ?_
          obtain rfl := someI h
          exact ⟨rfl, ⟨S49, v46, rfl, rfl, (Cov.cons rfl (Cov.cons rfl (Cov.cons rfl (Cov.cons rfl (Cov.cons rfl (Cov.cons rfl (Cov.cons rfl (Cov.nil _)))))))), ho4, hot0, ho51⟩⟩
        · have h := iteF q39 h
          refine WC.skip ?_
          obtain rfl := someI h
          exact ⟨rfl, ⟨S37, v10, rfl, rfl, (Cov.cons rfl (Cov.cons rfl (Cov.cons rfl (Cov.cons rfl (Cov.cons rfl (Cov.cons rfl (Cov.cons rfl (Cov.nil _)))))))), ho4, hot0, ho3⟩⟩
      dsimp only
      rintro _ _ _ _ ⟨rfl, ⟨S56, v57, rfl, rfl, hc58, ho4, hot0, ho3⟩⟩
      refine thenL_n ?_
      refine WC.cov hc58 ?_
      refine WC.seq ?_
      refine WC.region ?_
      refine WO.mv rfl ?_
      refine WO.mv rfl ?_
      refine WO.mv rfl ?_
      refine WO.mv rfl ?_
      obtain ⟨L59, e60, h⟩ := bindS h
      refine WO.ixS rfl rfl ho3.slv (at?_lt e60) rfl ?_
      refine WO.ldT 7 rfl ho3 (at?_get e60) rfl ho3.lt rfl rfl rfl rfl (fun v61 S63 c64 ho3 ho62 => ?_)
      have ho4 := ho4.to c64
      have hot0 := hot0.to c64
      refine WO.mv rfl ?_
      refine WO.bsS (A := Y3) (S := S63) (M := [x14]) (cs := [.int .i64 x14]) 8 rfl rfl rfl ⟨[.int .i64 x14], _, rfl, rfl, rfl⟩ rfl (fun v65 S66 c67 ho68 => ?_)
      have ho4 := ho4.to c67
      have hot0 := hot0.to c67
      have ho3 := ho3.to c67
      have ho62 := ho62.to c67
      obtain ⟨L69, e70, h⟩ := bindS h
      refine WO.appS rfl rfl ho62 ho68.ro e70 rfl rfl (fun v71 S72 c73 ho74 => ?_)
      have ho4 := ho4.to c73
      have hot0 := hot0.to c73
      have ho3 := ho3.to c73
      have ho68 := ho68.to c73
      obtain ⟨u75, e76, h⟩ := bindS h
      refine WO.ixS rfl rfl ho3.slv (ck_some e76) rfl ?_
      refine WO.stT (S := S72) rfl rfl ho3 (ck_nat e76) ho74 rfl rfl rfl rfl rfl rfl rfl (fun S77 S79 c78 c80 ho3 => ?_)
      have ho4 := ho4.to c78
      have hot0 := hot0.to c78
      have ho68 := ho68.to c78
      have ho4 := ho4.to c80
      have hot0 := hot0.to c80
      have ho68 := ho68.to c80
      refine WO.nil ?_
      refine thenL_n ?_
      refine WC.region ?_
      refine WO.mv rfl ?_
      refine WO.mv rfl ?_
      refine WO.bsS (A := Y3) (S := S79) (M := [b35]) (cs := [.int .i64 b35]) 9 rfl rfl rfl ⟨[.int .i64 b35], _, rfl, rfl, rfl⟩ rfl (fun v81 S82 c83 ho84 => ?_)
      have ho4 := ho4.to c83
      have hot0 := hot0.to c83
      have ho3 := ho3.to c83
      have ho68 := ho68.to c83
      obtain ⟨L85, e86, h⟩ := bindS h
      refine WO.appS rfl rfl ho4 ho84.ro e86 rfl rfl (fun v87 S88 c89 ho90 => ?_)
      have hot0 := hot0.to c89
      have ho3 := ho3.to c89
      have ho68 := ho68.to c89
      have ho84 := ho84.to c89
      refine WO.asg rfl ?_
      refine WO.nil ?_
      refine blockL_n ?_
      refine thenL_n ?_
      refine WC.region ?_
      refine WO.bin rfl rfl (by decide) (by decide) rfl ?_
      refine WO.mv rfl ?_
      refine WO.nil ?_
      refine thenL_n ?_
      obtain rfl := someI h
      exact ⟨_, rfl, ⟨S88, v57, v87, rfl, rfl, (Cov.cons rfl (Cov.cons rfl (Cov.cons rfl (Cov.cons rfl (Cov.cons rfl (Cov.nil _)))))), hot0, ho3, ho90⟩⟩
    · have h := iteF q13 h
      refine WC.exit ?_
      refine thenL_e ?_
      refine thenL_e ?_
      obtain rfl := someI h
      exact ⟨_, rfl, rfl, ⟨S9, v11, rfl, rfl, (Cov.cons rfl (Cov.nil _)), ho4⟩⟩
  rintro _ _ _ _ ⟨rfl, ⟨S93, v94, rfl, rfl, hc95, ho4⟩⟩
  refine blockL_s ?_
  refine thenL_n ?_
  refine WC.cov hc95 ?_
  refine WC.seq ?_
  refine WC.region ?_
  refine WO.mv rfl ?_
  refine WO.asg rfl ?_
  refine WO.nil ?_
  refine thenL_n ?_
  refine WC.ret ?_
  obtain rfl := someI h
  exact ⟨.inr rfl, _, _, rfl, rfl, ⟨v94, rfl, (ho4.fr Lay.flat_fl)⟩⟩
end Go.Proofs.Ytkfmedmanhcdeaa

/- The machine answers F154: printed by a program of ours (gen.py). -/
import Derived.Test.YtdkmepeolmdccaaDef
import Derived.Test.YtdkmepeolmdccaaEnv
import Derived.Test.YtdkmepeolmdccaaF30
set_option linter.unusedVariables false
namespace Go.Proofs.Ytdkmepeolmdccaa
open Go.Am
theorem F154.fn : E.fn 154 = some ⟨54, (Try.f154.body.getD .skip), Try.f154.results.toList, []⟩ := rfl
theorem F154_ok {F : Nat} : ∀ {m : Mem} {n : Nat} {r : Int} {t0 : List (List Int)} {vt0 : SV} (h : F154 F t0 = some r) (kt0 : Vw Y22 n m vt0 t0), Ret E n 154 [.sc vt0] m n (fun v m' n' => v = .sc (.int .i64 r)) := by
  induction F with
  | zero => intro m n r t0 vt0 h; cases h
  | succ F ih =>
    intro m n r t0 vt0 h kt0
    rw [F154] at h
    try dsimp only at h
    refine Ret.walk F154.fn ?_
    refine WC.start fun S0 em en hz => ?_
    have hot0 := kt0.rdS em hz
    refine WC.seq ?_
    refine WC.region ?_
    refine WO.asg rfl ?_
    refine WO.nil ?_
    refine thenL_n ?_
    refine WC.seq ?_
    refine WC.seq ?_
    refine WC.region ?_
    refine WO.mv rfl ?_
    refine WO.lenS rfl hot0.slv rfl ?_
    refine WO.bin rfl rfl (by decide) (by decide) rfl ?_
    refine WO.nil ?_
    refine thenL_n ?_
    refine WC.cond rfl (fun q1 => ?_) (fun q1 => ?_)
    · have h := iteT q1 h
      refine WC.seq ?_
      refine WC.region ?_
      refine WO.asg rfl ?_
      refine WO.nil ?_
      refine thenL_n ?_
      refine WC.ret ?_
      refine thenL_r ?_
      obtain rfl := someI h
      exact ⟨.inr rfl, _, _, rfl, rfl, rfl⟩
    · have h := iteF q1 h
      refine WC.skip ?_
      refine thenL_n ?_
      refine WC.seq ?_
      refine WC.region ?_
      refine WO.asg rfl ?_
      refine WO.nil ?_
      refine thenL_n ?_
      refine WC.seq ?_
      refine WC.seq ?_
      refine WC.region ?_
      refine WO.mv rfl ?_
      obtain ⟨L2, e3, h⟩ := bindS h
      refine WO.ixS rfl rfl hot0.slv (at?_lt e3) rfl ?_
      refine WO.ldS rfl hot0.ro (fun _ hi => hi) (at?_get e3) rfl rfl (fun v4 ho5 => ?_)
      have ho5 : Rd Y3 S0 v4 L2 := ho5
      refine WO.lenS rfl ho5.slv rfl ?_
      refine WO.mv rfl ?_
      refine WO.nil ?_
      refine thenL_n ?_
      refine WC.block ?_
      obtain ⟨b76, e77, h⟩ := bindS h
      refine WC.loopD e77 (fun s6 l' m' n' => ∃ S7 : Cx n, S7.m = m' ∧ S7.n = n' ∧ Cov l' [(0, .sc vt0), (3, .sc (.int .i64 s6.1)), (14, .sc v4), (15, .sc (.int .i64 ((L2.length : Int)))), (16, .sc (.int .i64 s6.2))] ∧ Rd Y22 S7 vt0 t0 ∧ Rd Y3 S7 v4 L2) (fun b e l' m' n' => e = .exit 0 ∧ ∃ S8 : Cx n, S8.m = m' ∧ S8.n = n' ∧ Cov l' [(3, .sc (.int .i64 b))]) (by exact ⟨S0, rfl, rfl, (Cov.cons rfl (Cov.cons rfl (Cov.cons rfl (Cov.cons rfl (Cov.cons rfl (Cov.nil _)))))), hot0, ho5⟩) ?_ ?_
      · clear h
        rintro s6 q _ _ _ ⟨S9, rfl, rfl, hc10, hot0, ho5⟩ h
        unfold F154_l1 at h
        refine WC.cov hc10 ?_
        refine WC.seq ?_
        refine WC.region ?_
        refine WO.bin rfl rfl (by decide) (by decide) rfl ?_
        refine WO.nil ?_
        refine thenL_n ?_
        refine WC.seq ?_
        refine WC.cond rfl (fun q11 => ?_) (fun q11 => ?_)
        · have h := iteT q11 h
          refine WC.skip ?_
          refine thenL_n ?_
          refine WC.seq ?_
          refine WC.block ?_
          refine WC.seq ?_
          refine WC.region ?_
          refine WO.mv rfl ?_
          obtain ⟨x12, e13, h⟩ := bindS h
          refine WO.ixS rfl rfl ho5.slv (at?_lt e13) rfl ?_
          refine WO.ldF rfl ho5.ro (fun _ hi => hi) (at?_get e13) rfl rfl rfl ?_
          refine WO.asg rfl ?_
          refine WO.asg rfl ?_
          refine WO.nil ?_
          refine thenL_n ?_
          refine WC.seq ?_
          refine WC.region ?_
          refine WO.asg rfl ?_
          refine WO.nil ?_
          refine thenL_n ?_
          refine WC.seq ?_
          refine WC.seq ?_
          refine WC.region ?_
          refine WO.mv rfl ?_
          obtain ⟨L14, e15, h⟩ := bindS h
          refine WO.slc (k' := .i64) rfl (.inl ⟨_, rfl, rfl⟩) (.inr ⟨rfl, rfl⟩) hot0 e15 rfl (fun v16 ho17 => ?_)
          have ho17 : Rd Y22 S9 v16 L14 := ho17
          refine WO.lenS rfl ho17.slv rfl ?_
          refine WO.mv rfl ?_
          refine WO.nil ?_
          refine thenL_n ?_
          refine WC.block ?_
          obtain ⟨b62, e63, h⟩ := bindS h
          refine WC.loopD e63 (fun s18 l' m' n' => ∃ S20 : Cx n, ∃ v21 : SV, S20.m = m' ∧ S20.n = n' ∧ Cov l' [(0, .sc vt0), (3, .sc (.int .i64 s6.1)), (4, .sc (.int .i64 s6.2)), (5, .sc (.int .i64 x12)), (6, .sc v21), (14, .sc v4), (15, .sc (.int .i64 ((L2.length : Int)))), (16, .sc (.int .i64 s6.2)), (22, .sc v16), (23, .sc (.int .i64 ((L14.length : Int)))), (24, .sc (.int .i64 s18.2))] ∧ Rd Y22 S20 vt0 t0 ∧ Rd Y3 S20 v4 L2 ∧ Rd Y22 S20 v16 L14 ∧ Ow Y22 S20 2 v21 s18.1) (fun b e l' m' n' => e = .exit 2 ∧ ∃ S22 : Cx n, ∃ v23 : SV, S22.m = m' ∧ S22.n = n' ∧ Cov l' [(0, .sc vt0), (3, .sc (.int .i64 s6.1)), (4, .sc (.int .i64 s6.2)), (5, .sc (.int .i64 x12)), (6, .sc v23), (14, .sc v4), (15, .sc (.int .i64 ((L2.length : Int)))), (16, .sc (.int .i64 s6.2))] ∧ Rd Y22 S22 vt0 t0 ∧ Rd Y3 S22 v4 L2 ∧ Ow Y22 S22 2 v23 b) (by exact ⟨S9, .nils, rfl, rfl, (Cov.cons rfl (Cov.cons rfl (Cov.cons rfl (Cov.cons rfl (Cov.cons rfl (Cov.cons rfl (Cov.cons rfl (Cov.cons rfl (Cov.cons rfl (Cov.cons rfl (Cov.cons rfl (Cov.nil _)))))))))))), hot0, ho5, ho17, Ow.nil⟩) ?_ ?_
          · clear h
            rintro s18 q _ _ _ ⟨S24, v25, rfl, rfl, hc26, hot0, ho5, ho17, ho6⟩ h
            unfold F154_l0 at h
            refine WC.cov hc26 ?_
            refine WC.seq ?_
            refine WC.region ?_
            refine WO.bin rfl rfl (by decide) (by decide) rfl ?_
            refine WO.nil ?_
            refine thenL_n ?_
            refine WC.seq ?_
            refine WC.cond rfl (fun q27 => ?_) (fun q27 => ?_)
            · have h := iteT q27 h
              refine WC.skip ?_
              refine thenL_n ?_
              refine WC.seq ?_
              refine WC.block ?_
              refine WC.seq ?_
              refine WC.region ?_
              obtain ⟨L28, e29, h⟩ := bindS h
              refine WO.ixS rfl rfl ho17.slv (at?_lt e29) rfl ?_
              refine WO.ldS rfl ho17.ro (fun _ hi => hi) (at?_get e29) rfl rfl (fun v30 ho31 => ?_)
              have ho31 : Rd Y3 S24 v30 L28 := ho31
              refine WO.asg rfl ?_
              refine WO.nil ?_
              refine thenL_n ?_
              refine WC.drawN rfl ?_
              have hot0z := hot0.oz
              have ho5z := ho5.oz
              have ho17z := ho17.oz
              have ho6z := ho6.oz
              have ho31z := ho31.oz
              refine WO.mv rfl ?_
              refine WO.mv rfl ?_
              refine WO.mv rfl ?_
              obtain ⟨L32, e33, h⟩ := bindS h
              refine WO.slc (k := .i64) rfl (.inr ⟨rfl, rfl⟩) (.inl ⟨_, rfl, rfl⟩) ho31 e33 rfl (fun v34 ho35 => ?_)
              have ho35 : Rd Y3 S24 v34 L32 := ho35
              obtain ⟨r36, e37, h⟩ := bindS h
              refine WO.callF (S := S24) 3 rfl rfl (F30_ok e37 ho35.vw) Lay.flat_fl (fun v38 S40 c41 ho39 => ?_)
              have hot0z := hot0z.toz c41
              have ho5z := ho5z.toz c41
              have ho17z := ho17z.toz c41
              have ho6z := ho6z.tow c41
              have ho31z := ho31z.toz c41
              have hot0 := hot0.to c41
              have ho5 := ho5.to c41
              have ho17 := ho17.to c41
              have ho6 := ho6.to c41
              have ho31 := ho31.to c41
              have ho35 := ho35.to c41
              refine WO.mv rfl ?_
              refine WO.mv rfl ?_
              refine WO.bin rfl rfl (by decide) (by decide) rfl ?_
              obtain ⟨L42, e43, h⟩ := bindS h
              refine WO.slc (k' := .i64) rfl (.inl ⟨_, rfl, rfl⟩) (.inr ⟨rfl, rfl⟩) ho31 e43 rfl (fun v44 ho45 => ?_)
              have ho45 : Rd Y3 S40 v44 L42 := ho45
              obtain ⟨L46, e47, h⟩ := bindS h
              refine WO.appS rfl rfl ho39 ho45.ro e47 rfl rfl (fun v48 S49 c50 ho51 => ?_)
              have hot0z := hot0z.toz c50
              have ho5z := ho5z.toz c50
              have ho17z := ho17z.toz c50
              have ho6z := ho6z.tow c50
              have ho31z := ho31z.toz c50
              have hot0 := hot0.to c50
              have ho5 := ho5.to c50
              have ho17 := ho17.to c50
              have ho6 := ho6.to c50
              have ho31 := ho31.to c50
              have ho35 := ho35.to c50
              have ho45 := ho45.to c50
              have hot0z := hot0z.dropz 3
              have ho5z := ho5z.dropz 3
              have ho17z := ho17z.dropz 3
              have ho6z := ho6z.dropw 3
              have ho31z := ho31z.dropz 3
              have hot0 := hot0.drop 3
              have ho5 := ho5.drop 3
              have ho17 := ho17.drop 3
              have ho6 := ho6.drop 3
              have ho31 := ho31.drop 3
              have ho35 := ho35.drop 3
              have ho45 := ho45.drop 3
              have ho51 := ho51.freeze
              refine WO.bsS (A := Y22) (S := (S49.drop 3)) (M := [L46]) (cs := [v48]) 4 rfl rfl rfl ⟨_, _, rfl, ⟨v48, rfl, ho51⟩, rfl⟩ rfl (fun v52 S53 c54 ho55 => ?_)
              have hot0z := hot0z.toz c54
              have ho5z := ho5z.toz c54
              have ho17z := ho17z.toz c54
              have ho6z := ho6z.tow c54
              have ho31z := ho31z.toz c54
              have hot0 := hot0.to c54
              have ho5 := ho5.to c54
              have ho17 := ho17.to c54
              have ho6 := ho6.to c54
              have ho31 := ho31.to c54
              have ho35 := ho35.to c54
              have ho45 := ho45.to c54
              have ho51 := ho51.to c54
              obtain ⟨L56, e57, h⟩ := bindS h
              refine WO.appS rfl rfl ho6 ho55.ro e57 rfl rfl (fun v58 S59 c60 ho61 => ?_)
              have hot0z := hot0z.toz c60
              have ho5z := ho5z.toz c60
              have ho17z := ho17z.toz c60
              have ho31z := ho31z.toz c60
              have hot0 := hot0.to c60
              have ho5 := ho5.to c60
              have ho17 := ho17.to c60
              have ho31 := ho31.to c60
              have ho35 := ho35.to c60
              have ho45 := ho45.to c60
              have ho51 := ho51.to c60
              have ho55 := ho55.to c60
              refine WO.asg rfl ?_
              refine WO.nil ?_
              refine blockL_n ?_
              refine thenL_n ?_
              refine WC.region ?_
              refine WO.bin rfl rfl (by decide) (by decide) rfl ?_
              refine WO.mv rfl ?_
              refine WO.nil ?_
              refine thenL_n ?_
              obtain rfl := someI h
              exact ⟨_, rfl, ⟨S59, v58, rfl, rfl, (Cov.cons rfl (Cov.cons rfl (Cov.cons rfl (Cov.cons rfl (Cov.cons rfl (Cov.cons rfl (Cov.cons rfl (Cov.cons rfl (Cov.cons rfl (Cov.cons rfl (Cov.cons rfl (Cov.nil _)))))))))))), hot0, ho5, ho17, ho61⟩⟩
            · have h := iteF q27 h
              refine WC.exit ?_
              refine thenL_e ?_
              refine thenL_e ?_
              obtain rfl := someI h
              exact ⟨_, rfl, rfl, ⟨S24, v25, rfl, rfl, (Cov.cons rfl (Cov.cons rfl (Cov.cons rfl (Cov.cons rfl (Cov.cons rfl (Cov.cons rfl (Cov.cons rfl (Cov.cons rfl (Cov.nil _))))))))), hot0, ho5, ho6⟩⟩
          rintro _ _ _ _ ⟨rfl, ⟨S64, v65, rfl, rfl, hc66, hot0, ho5, ho6⟩⟩
          refine blockL_s ?_
          refine thenL_n ?_
          refine WC.cov hc66 ?_
          refine WC.seq ?_
          refine WC.seq ?_
          refine WC.region ?_
          refine WO.mv rfl ?_
          refine WO.bin rfl rfl (by decide) (by decide) rfl ?_
          refine WO.bin rfl rfl (by decide) (by decide) rfl ?_
          refine WO.nil ?_
          refine thenL_n ?_
          refine WC.cond rfl (fun q67 => ?_) (fun q67 => ?_)
          · have h := iteT q67 h
            refine WC.region ?_
            refine WO.mv rfl ?_
            refine WO.do rfl rfl ?_
            refine WO.asg rfl ?_
            refine WO.nil ?_
            refine thenL_n ?_
            refine WC.region ?_
            refine WO.mv rfl ?_
            refine WO.mv rfl ?_
            refine WO.mv rfl ?_
            obtain ⟨r68, e69, h⟩ := bindS h
            refine WO.callE (S := S64) rfl rfl (ih e69 ho6.vw) (fun S70 c71 => ?_)
            have hot0 := hot0.to c71
            have ho5 := ho5.to c71
            have ho6 := ho6.to c71
            refine WO.bin rfl rfl (by decide) (by decide) rfl ?_
            refine WO.bin rfl rfl (by decide) (by decide) rfl ?_
            refine WO.asg rfl ?_
            refine WO.nil ?_
            refine blockL_n ?_
            refine thenL_n ?_
            refine WC.region ?_
            refine WO.bin rfl rfl (by decide) (by decide) rfl ?_
            refine WO.mv rfl ?_
            refine WO.nil ?_
            refine thenL_n ?_
            obtain rfl := someI h
            exact ⟨_, rfl, ⟨S70, rfl, rfl, (Cov.cons rfl (Cov.cons rfl (Cov.cons rfl (Cov.cons rfl (Cov.cons rfl (Cov.nil _)))))), hot0, ho5⟩⟩
          · have h := iteF q67 h
            refine WC.skip ?_
            refine thenL_n ?_
            refine WC.region ?_
            refine WO.mv rfl ?_
            refine WO.mv rfl ?_
            refine WO.mv rfl ?_
            obtain ⟨r72, e73, h⟩ := bindS h
            refine WO.callE (S := S64) rfl rfl (ih e73 ho6.vw) (fun S74 c75 => ?_)
            have hot0 := hot0.to c75
            have ho5 := ho5.to c75
            have ho6 := ho6.to c75
            refine WO.bin rfl rfl (by decide) (by decide) rfl ?_
            refine WO.bin rfl rfl (by decide) (by decide) rfl ?_
            refine WO.asg rfl ?_
            refine WO.nil ?_
            refine blockL_n ?_
            refine thenL_n ?_
            refine WC.region ?_
            refine WO.bin rfl rfl (by decide) (by decide) rfl ?_
            refine WO.mv rfl ?_
            refine WO.nil ?_
            refine thenL_n ?_
            obtain rfl := someI h
            exact ⟨_, rfl, ⟨S74, rfl, rfl, (Cov.cons rfl (Cov.cons rfl (Cov.cons rfl (Cov.cons rfl (Cov.cons rfl (Cov.nil _)))))), hot0, ho5⟩⟩
        · have h := iteF q11 h
          refine WC.exit ?_
          refine thenL_e ?_
          refine thenL_e ?_
          obtain rfl := someI h
          exact ⟨_, rfl, rfl, ⟨S9, rfl, rfl, (Cov.cons rfl (Cov.nil _))⟩⟩
      rintro _ _ _ _ ⟨rfl, ⟨S78, rfl, rfl, hc79⟩⟩
      refine blockL_s ?_
      refine thenL_n ?_
      refine WC.cov hc79 ?_
      refine WC.seq ?_
      refine WC.region ?_
      refine WO.mv rfl ?_
      refine WO.asg rfl ?_
      refine WO.nil ?_
      refine thenL_n ?_
      refine WC.ret ?_
      obtain rfl := someI h
      exact ⟨.inr rfl, _, _, rfl, rfl, rfl⟩
end Go.Proofs.Ytdkmepeolmdccaa

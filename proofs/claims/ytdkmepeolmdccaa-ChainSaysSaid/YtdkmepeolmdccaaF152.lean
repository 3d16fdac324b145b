/- The machine answers F152: printed by a program of ours (gen.py). -/
import Derived.Test.YtdkmepeolmdccaaDef
import Derived.Test.YtdkmepeolmdccaaEnv
import Derived.Test.YtdkmepeolmdccaaF170
set_option linter.unusedVariables false
namespace Go.Proofs.Ytdkmepeolmdccaa
open Go.Am
theorem F152.fn : E.fn 152 = some ⟨17, (Try.f152.body.getD .skip), Try.f152.results.toList, []⟩ := rfl
theorem F152_ok {F : Nat} {m : Mem} {n : Nat} {r : Int} {t0 : List (List Int)} {t1 : Int} {vt0 : SV} (h : F152 F t0 t1 = some r) (kt0 : Vw Y22 n m vt0 t0) : Ret E n 152 [.sc vt0, .sc (.int .i64 t1)] m n (fun v m' n' => v = .sc (.int .i64 r)) := by
  unfold F152 at h
  refine Ret.walk F152.fn ?_
  refine WC.start fun S0 em en hz => ?_
  have hot0 := kt0.rdS em hz
  refine WC.seq ?_
  refine WC.region ?_
  refine WO.bxS (A := Y92) (S := S0) (u := t0) 2 rfl rfl ⟨vt0, rfl, hot0⟩ rfl (fun v1 S2 c3 ho4 => ?_)
  have hot0 := hot0.to c3
  refine WO.bxS (A := Y3) (S := S2) (u := t1) 3 rfl rfl rfl rfl (fun v5 S6 c7 ho8 => ?_)
  have hot0 := hot0.to c7
  have ho4 := ho4.to c7
  refine WO.asg rfl ?_
  refine WO.nil ?_
  refine thenL_n ?_
  refine WC.seq ?_
  refine WC.region ?_
  refine WO.ldBS rfl ho4.at0 ho4 rfl rfl (fun v9 ho10 => ?_)
  refine WO.lenS rfl ho10.slv rfl ?_
  refine WO.alS (A := Y3) (S := S6) (z0 := 0) 4 rfl rfl rfl (fun v11 S12 c13 ho14 => ?_)
  have hot0 := hot0.to c13
  have ho4 := ho4.to c13
  have ho8 := ho8.to c13
  have ho10 := ho10.to c13
  refine WO.stB (j := 0) (q := 0) (u' := (t0.length : Int)) rfl ho14.at0 rfl ho14 rfl (by decide) rfl rfl (fun S15 c16 ho14 => ?_)
  have hot0 := hot0.to c16
  have ho4 := ho4.to c16
  have ho8 := ho8.to c16
  have ho10 := ho10.to c16
  refine WO.nil ?_
  refine thenL_n ?_
  refine WC.seq ?_
  refine WC.region ?_
  refine WO.alS (A := Y3) (S := S15) (z0 := 0) 5 rfl rfl rfl (fun v17 S18 c19 ho20 => ?_)
  have hot0 := hot0.to c19
  have ho4 := ho4.to c19
  have ho8 := ho8.to c19
  have ho10 := ho10.to c19
  have ho14 := ho14.to c19
  refine WO.stB (j := 0) (q := 0) (u' := 0) rfl ho20.at0 rfl ho20 rfl (by decide) rfl rfl (fun S21 c22 ho20 => ?_)
  have hot0 := hot0.to c22
  have ho4 := ho4.to c22
  have ho8 := ho8.to c22
  have ho10 := ho10.to c22
  have ho14 := ho14.to c22
  refine WO.nil ?_
  refine thenL_n ?_
  refine WC.seq ?_
  refine WC.region ?_
  refine WO.ldB (j := 0) (q := 0) rfl ho14.at0 ho14 rfl rfl rfl ?_
  obtain ⟨L23, e24, h⟩ := bindS h
  refine WO.mkS (A := Y3) (S := S21) 6 rfl rfl e24 rfl rfl rfl (fun v25 S26 c27 ho28 => ?_)
  have hot0 := hot0.to c27
  have ho4 := ho4.to c27
  have ho8 := ho8.to c27
  have ho10 := ho10.to c27
  have ho14 := ho14.to c27
  have ho20 := ho20.to c27
  refine WO.alW (S := S26) (cs := [.nils]) 7 rfl rfl rfl (fun b29 S30 c31 ho32 => ?_)
  have hot0 := hot0.to c31
  have ho4 := ho4.to c31
  have ho8 := ho8.to c31
  have ho10 := ho10.to c31
  have ho14 := ho14.to c31
  have ho20 := ho20.to c31
  have ho28 := ho28.to c31
  refine WO.stW (S := S30) (r := [v25]) rfl ho32.at0 rfl rfl ho32 rfl rfl rfl rfl rfl (fun S33 c34 ho32 => ?_)
  have hot0 := hot0.to c34
  have ho4 := ho4.to c34
  have ho8 := ho8.to c34
  have ho10 := ho10.to c34
  have ho14 := ho14.to c34
  have ho20 := ho20.to c34
  have ho28 := ho28.to c34
  refine WO.nil ?_
  refine thenL_n ?_
  refine WC.seq ?_
  refine WC.region ?_
  refine WO.alW (S := S33) (cs := [.nilf]) 8 rfl rfl rfl (fun b35 S36 c37 ho38 => ?_)
  have hot0 := hot0.to c37
  have ho4 := ho4.to c37
  have ho8 := ho8.to c37
  have ho10 := ho10.to c37
  have ho14 := ho14.to c37
  have ho20 := ho20.to c37
  have ho28 := ho28.to c37
  have ho32 := ho32.to c37
  refine WO.nil ?_
  refine thenL_n ?_
  refine WC.seq ?_
  refine WC.region ?_
  obtain ⟨b39, rfl⟩ := ho14.isp
  obtain ⟨b40, rfl⟩ := ho8.isp
  obtain ⟨b41, rfl⟩ := ho20.isp
  obtain ⟨b42, rfl⟩ := ho4.isp
  refine WO.do rfl rfl ?_
  refine WO.stW (S := S36) (r := [.fn 170 [(b39, 0), (b40, 0), (b29, 0), (b41, 0), (b35, 0), (b42, 0)]]) rfl ho38.at0 rfl rfl ho38 rfl rfl rfl rfl rfl (fun S43 c44 ho38 => ?_)
  have hot0 := hot0.to c44
  have ho4 := ho4.to c44
  have ho8 := ho8.to c44
  have ho10 := ho10.to c44
  have ho14 := ho14.to c44
  have ho20 := ho20.to c44
  have ho28 := ho28.to c44
  have ho32 := ho32.to c44
  refine WO.nil ?_
  refine thenL_n ?_
  refine WC.seq ?_
  refine WC.region ?_
  refine WO.ldW rfl ho38.at0 ho38 rfl rfl ho38.lt rfl ?_
  obtain ⟨r45, e46, h⟩ := bindS h
  refine WO.callG (S := S43) [(4, 0), (3, 0), (7, 2), (6, 3), (5, 4), (8, 0), (2, 0)] [(2, 7), (3, 6), (4, 5)] rfl rfl (F170_ok (S0 := S43.mp [(4, 0), (3, 0), (7, 2), (6, 3), (5, 4), (8, 0), (2, 0)]) e46 (ho14.mp0 rfl) (ho8.mp0 rfl) (ho32.mp rfl) (ho28.mp rfl) (ho20.mp rfl) (ho38.mp0 rfl) (ho4.mp0 rfl)) (fun _ S49 S50 hb hR => ?_)
  obtain ⟨v47, rfl, hR0, hR1, hR2⟩ := hR
  have c51 := Cx.mg_ch S43 6 7
  have hot0 := hot0.to c51
  have ho4 := ho4.to c51
  have ho8 := ho8.to c51
  have ho10 := ho10.to c51
  have ho14 := ho14.to c51
  have ho38 := ho38.to c51
  have c52 := Cx.mg_ch (S43.mg 6 7) 5 7
  have hot0 := hot0.to c52
  have ho4 := ho4.to c52
  have ho8 := ho8.to c52
  have ho10 := ho10.to c52
  have ho14 := ho14.to c52
  have ho38 := ho38.to c52
  have c53 : Ch 7 ((S43.mg 6 7).mg 5 7) S50 := hb.ch [6, 5] 7
  have hot0 := hot0.to c53
  have ho4 := ho4.to c53
  have ho8 := ho8.to c53
  have ho10 := ho10.to c53
  have ho14 := ho14.to c53
  have ho38 := ho38.to c53
  have ho32 := hR0.bk hb rfl
  have ho48 := hR1.bkF hb rfl Lay.flat_fl
  have ho20 := hR2.bkF hb rfl Lay.flat_fl
  refine WO.nil ?_
  refine thenL_n ?_
  refine WC.seq ?_
  refine WC.region ?_
  refine WO.ldB (j := 0) (q := 0) rfl ho20.at0 ho20 rfl rfl rfl ?_
  refine WO.asg rfl ?_
  refine WO.nil ?_
  refine thenL_n ?_
  refine WC.ret ?_
  obtain rfl := someI h
  exact ⟨.inr rfl, _, _, rfl, rfl, rfl⟩
end Go.Proofs.Ytdkmepeolmdccaa

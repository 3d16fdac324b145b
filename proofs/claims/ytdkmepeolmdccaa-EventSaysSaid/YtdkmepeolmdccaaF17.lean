/- The machine answers F17: printed by a program of ours (gen.py). -/
import Derived.Test.YtdkmepeolmdccaaDef
import Derived.Test.YtdkmepeolmdccaaEnv
import Derived.Test.YtdkmepeolmdccaaF110
import Derived.Test.YtdkmepeolmdccaaF19
set_option linter.unusedVariables false
namespace Go.Proofs.Ytdkmepeolmdccaa
open Go.Am
theorem F17.fn : E.fn 17 = some ⟨37, (Try.f17.body.getD .skip), Try.f17.results.toList, []⟩ := rfl
theorem F17_ok {F : Nat} {m : Mem} {n : Nat} {r : Bool × Int} {t0 : List Int} {t1 : Int} {t2 : Int} {vt0 : SV} (h : F17 F t0 t1 t2 = some r) (kt0 : Vw Y3 n m vt0 t0) : Ret E n 17 [.sc vt0, .sc (.int .u16 t1), .sc (.int .u16 t2)] m n (fun v m' n' => v = .tup [.sc (.bool r.1), .sc (.int .i64 r.2)]) := by
  unfold F17 at h
  refine Ret.walk F17.fn ?_
  refine WC.start fun S0 em en hz => ?_
  have hot0 := kt0.rdS em hz
  refine WC.seq ?_
  refine WC.region ?_
  refine WO.asg rfl ?_
  refine WO.asg rfl ?_
  refine WO.nil ?_
  refine thenL_n ?_
  refine WC.seq ?_
  refine WC.seq ?_
  refine WC.region ?_
  refine WO.mv rfl ?_
  refine WO.mv rfl ?_
  refine WO.mv rfl ?_
  refine WO.bsS (A := Y23) (S := S0) (M := [t1, t2]) (cs := [.int .u16 t1, .int .u16 t2]) 2 rfl rfl rfl ⟨[.int .u16 t1], _, rfl, rfl, ⟨[.int .u16 t2], _, rfl, rfl, rfl⟩⟩ rfl (fun v1 S2 c3 ho4 => ?_)
  have hot0 := hot0.to c3
  obtain ⟨r5, e6, h⟩ := bindS h
  refine WO.callE (S := S2) rfl rfl (F19_ok e6 hot0.vw ho4.vw) (fun S7 c8 => ?_)
  have hot0 := hot0.to c8
  have ho4 := ho4.to c8
  refine WO.asg rfl ?_
  refine WO.nil ?_
  refine thenL_n ?_
  refine WC.seq ?_
  refine WC.region ?_
  refine WO.mv rfl ?_
  refine WO.bin rfl rfl (by decide) (by decide) rfl ?_
  refine WO.nil ?_
  refine thenL_n ?_
  refine WC.cond rfl (fun q9 => ?_) (fun q9 => ?_)
  · have h := iteT q9 h
    refine WC.seq ?_
    refine WC.region ?_
    refine WO.mv rfl ?_
    refine WO.asg rfl ?_
    refine WO.asg rfl ?_
    refine WO.nil ?_
    refine thenL_n ?_
    refine WC.ret ?_
    refine thenL_r ?_
    obtain rfl := someI h
    exact ⟨.inr rfl, _, _, rfl, rfl, rfl⟩
  · have h := iteF q9 h
    refine WC.skip ?_
    refine thenL_n ?_
    refine WC.seq ?_
    refine WC.drawN rfl ?_
    have hot0z := hot0.oz
    have ho4z := ho4.oz
    refine WO.mv rfl ?_
    refine WO.mv rfl ?_
    refine WO.mv rfl ?_
    refine WO.bits rfl rfl rfl (by decide) (by decide) rfl ?_
    obtain ⟨r10, e11, h⟩ := bindS h
    refine WO.callE (S := S7) rfl rfl (F110_ok e11 hot0.vw) (fun S12 c13 => ?_)
    have hot0z := hot0z.toz c13
    have ho4z := ho4z.tow c13
    have hot0 := hot0.to c13
    have ho4 := ho4.to c13
    refine WO.mv rfl ?_
    refine WO.mv rfl ?_
    refine WO.lenS rfl hot0.slv rfl ?_
    obtain ⟨x14, e15, h⟩ := bindS h
    refine WO.shlD rfl rfl e15 ?_
    refine WO.bin rfl rfl (by decide) (by decide) rfl ?_
    obtain ⟨r16, e17, h⟩ := bindS h
    refine WO.callE (S := S12) rfl rfl (F110_ok e17 hot0.vw) (fun S18 c19 => ?_)
    have hot0z := hot0z.toz c19
    have ho4z := ho4z.tow c19
    have hot0 := hot0.to c19
    have ho4 := ho4.to c19
    refine WO.bin rfl rfl (by decide) (by decide) rfl ?_
    refine WO.mv rfl ?_
    refine WO.mv rfl ?_
    obtain ⟨r20, e21, h⟩ := bindS h
    refine WO.callE (S := S18) rfl rfl (F110_ok e21 hot0.vw) (fun S22 c23 => ?_)
    have hot0z := hot0z.toz c23
    have ho4z := ho4z.tow c23
    have hot0 := hot0.to c23
    have ho4 := ho4.to c23
    refine WO.mv rfl ?_
    refine WO.mv rfl ?_
    obtain ⟨r24, e25, h⟩ := bindS h
    refine WO.callE (S := S22) rfl rfl (F110_ok e25 hot0.vw) (fun S26 c27 => ?_)
    have hot0z := hot0z.toz c27
    have ho4z := ho4z.tow c27
    have hot0 := hot0.to c27
    have ho4 := ho4.to c27
    refine WO.bin rfl rfl (by decide) (by decide) rfl ?_
    refine WO.bin rfl rfl (by decide) (by decide) rfl ?_
    refine WO.asg rfl ?_
    refine WO.asg rfl ?_
    refine WO.nil ?_
    refine thenL_n ?_
    refine WC.ret ?_
    obtain rfl := someI h
    exact ⟨.inr rfl, _, _, rfl, rfl, rfl⟩
end Go.Proofs.Ytdkmepeolmdccaa

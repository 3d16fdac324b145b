/- The machine answers F110_159: printed by a program of ours (gen.py). -/
import Derived.Test.YtihmliblbhjlaaaDef
import Derived.Test.YtihmliblbhjlaaaEnv
import Derived.Test.YtihmliblbhjlaaaF154_159
import Derived.Test.YtihmliblbhjlaaaF155
set_option linter.unusedVariables false
namespace Go.Proofs.Ytihmliblbhjlaaa
open Go.Am
theorem F110_159.fn : E.fn 110 = some ⟨14, (Try.f110.body.getD .skip), Try.f110.results.toList, []⟩ := rfl
theorem F110_159_ok {F : Nat} {m : Mem} {n : Nat} {r : (List Int)} {t0 : List Int} {vt0 : SV} {fl : Nat} {bw : Nat} (h : F110_159 F t0 = some r) (hfl : fl ≤ n) (kt0 : Iv Y3 fl n bw m vt0 t0) : Ret E fl 110 [.sc vt0, .sc (.fn 159 [])] m n (fun v m' n' => v = .tup [] ∧ Ip Y3 n bw m m' vt0 r) := by
  unfold F110_159 at h
  refine Ret.walk F110_159.fn ?_
  refine WC.startI (b := bw) hfl fun S0 em en hz hbw => ?_
  have hot0 := kt0.iw em en hz hbw
  refine WC.seq ?_
  refine WC.region ?_
  refine WO.mv rfl ?_
  refine WO.lenS rfl hot0.slv rfl ?_
  refine WO.asg rfl ?_
  refine WO.nil ?_
  refine thenL_n ?_
  refine WC.region ?_
  refine WO.mv rfl ?_
  refine WO.mv rfl ?_
  refine WO.mv rfl ?_
  refine WO.conv rfl rfl rfl rfl ?_
  obtain ⟨r1, e2, h⟩ := bindS h
  refine WO.callE (S := S0) rfl rfl (F155_ok e2) (fun S3 c4 => ?_)
  have hot0 := hot0.to c4
  refine WO.mv rfl ?_
  obtain ⟨r5, e6, h⟩ := bindS h
  refine WO.callW (S := S3) hot0 rfl rfl rfl (fun bq hI hB => F154_159_ok e6 S3.le hI) Lay.flat_fl (fun S7 c8 hot0 => ?_)
  refine WO.nil ?_
  obtain rfl := someI h
  exact ⟨.inl rfl, _, _, rfl, rfl, ⟨rfl, hot0.ip Lay.flat_fl⟩⟩
end Go.Proofs.Ytihmliblbhjlaaa

/- The machine answers F80: printed by a program of ours (gen.py). -/
import Derived.Test.YtdfalejlhkalhaaDef
import Derived.Test.YtdfalejlhkalhaaEnv
import Derived.Test.YtdfalejlhkalhaaF121
import Derived.Test.YtdfalejlhkalhaaF85
set_option linter.unusedVariables false
namespace Go.Proofs.Ytdfalejlhkalhaa
open Go.Am
theorem F80.fn : E.fn 80 = some ⟨18, (Try.f80.body.getD .skip), Try.f80.results.toList, []⟩ := rfl
theorem F80_ok {F : Nat} {m : Mem} {n : Nat} {r : (List Int) × Int} {t0 : Int} {t1 : List Int} {vt1 : SV} (h : F80 F t0 t1 = some r) (kt1 : Vw Y3 n m vt1 t1) : Ret E n 80 [.sc (.int .i64 t0), .sc vt1] m n (fun v m' n' => ∃ w, v = .tup [.sc w, .sc (.int .i64 r.2)] ∧ Fr Y3 n m' n' w r.1) := by
  unfold F80 at h
  refine Ret.walk F80.fn ?_
  refine WC.start fun S0 em en hz => ?_
  have hot1 := kt1.rdS em hz
  refine WC.seq ?_
  refine WC.region ?_
  refine WO.asg rfl ?_
  refine WO.asg rfl ?_
  refine WO.nil ?_
  refine thenL_n ?_
  refine WC.seq ?_
  refine WC.region ?_
  refine WO.mv rfl ?_
  refine WO.mv rfl ?_
  obtain ⟨r1, e2, h⟩ := bindS h
  refine WO.callF (S := S0) 2 rfl rfl (F121_ok e2 hot1.vw) Lay.flat_fl (fun v3 S5 c6 ho4 => ?_)
  have hot1 := hot1.to c6
  refine WO.mv rfl ?_
  refine WO.do rfl rfl ?_
  refine WO.do rfl rfl ?_
  refine WO.asg rfl ?_
  refine WO.asg rfl ?_
  refine WO.nil ?_
  refine thenL_n ?_
  refine WC.seq ?_
  refine WC.region ?_
  refine WO.mv rfl ?_
  obtain ⟨r7, e8, h⟩ := bindS h
  refine WO.callI (S := S5) ho4 rfl rfl (fun bq hI hB => F85_ok e8 S5.le hI) Lay.flat_fl (fun S9 c10 ho4 => ?_)
  have hot1 := hot1.to c10
  refine WO.nil ?_
  refine thenL_n ?_
  refine WC.seq ?_
  refine WC.region ?_
  refine WO.mv rfl ?_
  refine WO.mv rfl ?_
  refine WO.asg rfl ?_
  refine WO.asg rfl ?_
  refine WO.nil ?_
  refine thenL_n ?_
  refine WC.ret ?_
  obtain rfl := someI h
  exact ⟨.inr rfl, _, _, rfl, rfl, ⟨v3, rfl, (ho4.fr Lay.flat_fl)⟩⟩
end Go.Proofs.Ytdfalejlhkalhaa

/- The machine answers F45: printed by a program of ours (gen.py). -/
import Derived.Test.YtihmliblbhjlaaaDef
import Derived.Test.YtihmliblbhjlaaaEnv
set_option linter.unusedVariables false
namespace Go.Proofs.Ytihmliblbhjlaaa
open Go.Am
theorem F45.fn : E.fn 45 = some ⟨8, (Try.f45.body.getD .skip), Try.f45.results.toList, []⟩ := rfl
theorem F45_ok {F : Nat} {m : Mem} {n : Nat} {r : (List Int)} {t0 : (List Int)} {vt0 : SV} (h : F45 F t0 = some r) (kt0 : Vw Y3 n m vt0 t0) : Ret E n 45 [.sc vt0] m n (fun v m' n' => ∃ w, v = .sc w ∧ Fr Y3 n m' n' w r) := by
  unfold F45 at h
  split at h
  · rename_i hq
    obtain rfl := someI h
    refine Ret.walk F45.fn ?_
    refine WC.start fun S0 em en hz => ?_
    have hR := kt0.rdS em hz
    rcases kt0 with ⟨hv | hv, rfl⟩ | ⟨i, o, c, cs, hv, _⟩
    · subst hv
      repeat (first | refine WC.seq ?_ | refine thenL_n ?_ | refine thenL_r ?_ | refine WC.region ?_ | refine WO.nil ?_ | refine WC.condT rfl ?_ | refine WC.condF rfl ?_ | refine WC.skip ?_ | refine WC.ret ?_ | refine WO.asg rfl ?_ | refine WO.mv rfl ?_)
      refine WO.do rfl rfl ?_
      repeat (first | refine WC.seq ?_ | refine thenL_n ?_ | refine thenL_r ?_ | refine WC.region ?_ | refine WO.nil ?_ | refine WC.condT rfl ?_ | refine WC.condF rfl ?_ | refine WC.skip ?_ | refine WC.ret ?_ | refine WO.asg rfl ?_ | refine WO.mv rfl ?_)
      exact ⟨.inr rfl, _, _, rfl, rfl, .nils, rfl, Fr.nil⟩
    all_goals
      subst hv
      repeat (first | refine WC.seq ?_ | refine thenL_n ?_ | refine thenL_r ?_ | refine WC.region ?_ | refine WO.nil ?_ | refine WC.condT rfl ?_ | refine WC.condF rfl ?_ | refine WC.skip ?_ | refine WC.ret ?_ | refine WO.asg rfl ?_ | refine WO.mv rfl ?_)
      refine WO.do rfl rfl ?_
      repeat (first | refine WC.seq ?_ | refine thenL_n ?_ | refine thenL_r ?_ | refine WC.region ?_ | refine WO.nil ?_ | refine WC.condT rfl ?_ | refine WC.condF rfl ?_ | refine WC.skip ?_ | refine WC.ret ?_ | refine WO.asg rfl ?_ | refine WO.mv rfl ?_)
      refine WO.bsS (A := Y3) (S := S0) (M := []) (cs := []) 2 rfl rfl rfl rfl rfl (fun v1 S1 c1 h1 => ?_)
      have hR := hR.to c1
      repeat (first | refine WC.seq ?_ | refine thenL_n ?_ | refine thenL_r ?_ | refine WC.region ?_ | refine WO.nil ?_ | refine WC.condT rfl ?_ | refine WC.condF rfl ?_ | refine WC.skip ?_ | refine WC.ret ?_ | refine WO.asg rfl ?_ | refine WO.mv rfl ?_)
      refine WO.appS rfl rfl h1 hR.ro (app?_nil hq) rfl rfl (fun v2 S2 c2 h2 => ?_)
      repeat (first | refine WC.seq ?_ | refine thenL_n ?_ | refine thenL_r ?_ | refine WC.region ?_ | refine WO.nil ?_ | refine WC.condT rfl ?_ | refine WC.condF rfl ?_ | refine WC.skip ?_ | refine WC.ret ?_ | refine WO.asg rfl ?_ | refine WO.mv rfl ?_)
      exact ⟨.inr rfl, _, _, rfl, rfl, _, rfl, h2.fr Lay.flat_fl⟩
  · cases h
end Go.Proofs.Ytihmliblbhjlaaa

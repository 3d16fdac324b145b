/- The machine answers F109: printed by a program of ours (gen.py). -/
import Derived.Test.YtihmliblbhjlaaaDef
import Derived.Test.YtihmliblbhjlaaaEnv
set_option linter.unusedVariables false
namespace Go.Proofs.Ytihmliblbhjlaaa
open Go.Am
theorem F109.fn : E.fn 109 = some ⟨8, (Try.f109.body.getD .skip), Try.f109.results.toList, []⟩ := rfl
theorem F109_ok {F : Nat} {fl : Nat} {S0 : Cx fl} {r : (List (List Int))} {t0 : (List (List Int))} {vt0 : SV} (h : F109 F t0 = some r) (kt0 : Rd Y22 S0 vt0 t0) : Ret E fl 109 [.sc vt0] S0.m S0.n (fun v m' n' => ∃ S' : Cx fl, S'.m = m' ∧ S'.n = n' ∧ ChM S0 S' ∧ (∃ w1 : SV, v = .sc w1 ∧ Ow Y22 S' 902 w1 r)) := by
  unfold F109 at h
  split at h
  · rename_i hq
    obtain rfl := someI h
    refine Ret.walk F109.fn ?_
    have hM := ChM.refl S0
    have hR := kt0
    rcases kt0 with ⟨hv | hv, rfl⟩ | ⟨i, o, c, cs, hv, _⟩
    · subst hv
      repeat (first | refine WC.seq ?_ | refine thenL_n ?_ | refine thenL_r ?_ | refine WC.region ?_ | refine WO.nil ?_ | refine WC.condT rfl ?_ | refine WC.condF rfl ?_ | refine WC.skip ?_ | refine WC.ret ?_ | refine WO.asg rfl ?_ | refine WO.mv rfl ?_)
      refine WO.do rfl rfl ?_
      repeat (first | refine WC.seq ?_ | refine thenL_n ?_ | refine thenL_r ?_ | refine WC.region ?_ | refine WO.nil ?_ | refine WC.condT rfl ?_ | refine WC.condF rfl ?_ | refine WC.skip ?_ | refine WC.ret ?_ | refine WO.asg rfl ?_ | refine WO.mv rfl ?_)
      exact ⟨.inr rfl, _, _, rfl, rfl, S0, rfl, rfl, hM, .nils, rfl, Ow.nil⟩
    all_goals
      subst hv
      repeat (first | refine WC.seq ?_ | refine thenL_n ?_ | refine thenL_r ?_ | refine WC.region ?_ | refine WO.nil ?_ | refine WC.condT rfl ?_ | refine WC.condF rfl ?_ | refine WC.skip ?_ | refine WC.ret ?_ | refine WO.asg rfl ?_ | refine WO.mv rfl ?_)
      refine WO.do rfl rfl ?_
      repeat (first | refine WC.seq ?_ | refine thenL_n ?_ | refine thenL_r ?_ | refine WC.region ?_ | refine WO.nil ?_ | refine WC.condT rfl ?_ | refine WC.condF rfl ?_ | refine WC.skip ?_ | refine WC.ret ?_ | refine WO.asg rfl ?_ | refine WO.mv rfl ?_)
      refine WO.bsS (A := Y22) (S := S0) (M := []) (cs := []) 902 rfl rfl rfl rfl rfl (fun v1 S1 c1 h1 => ?_)
      have hR := hR.to c1
      have hM := hM.to c1
      repeat (first | refine WC.seq ?_ | refine thenL_n ?_ | refine thenL_r ?_ | refine WC.region ?_ | refine WO.nil ?_ | refine WC.condT rfl ?_ | refine WC.condF rfl ?_ | refine WC.skip ?_ | refine WC.ret ?_ | refine WO.asg rfl ?_ | refine WO.mv rfl ?_)
      refine WO.appS rfl rfl h1 hR.ro (app?_nil hq) rfl rfl (fun v2 S2 c2 h2 => ?_)
      have hM := hM.to c2
      repeat (first | refine WC.seq ?_ | refine thenL_n ?_ | refine thenL_r ?_ | refine WC.region ?_ | refine WO.nil ?_ | refine WC.condT rfl ?_ | refine WC.condF rfl ?_ | refine WC.skip ?_ | refine WC.ret ?_ | refine WO.asg rfl ?_ | refine WO.mv rfl ?_)
      exact ⟨.inr rfl, _, _, rfl, rfl, S2, rfl, rfl, hM, _, rfl, h2⟩
  · cases h
end Go.Proofs.Ytihmliblbhjlaaa

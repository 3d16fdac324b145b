/- slices.Reverse at int. -/
import Derived.Test.YtaphdnpjpmnaeaaDef
import Derived.Test.YtaphdnpjpmnaeaaPureC
set_option linter.unusedVariables false
set_option linter.unusedSimpArgs false
namespace Go.Proofs.Ytaphdnpjpmnaeaa
open Go.Am
/-! ### Reverse -/
theorem rev_tb (L : List Int) : L.reverse = tb L.length fun q => nx 0 L (L.length - 1 - q) := by
  apply List.ext_getElem?
  intro q
  rw [tb_get?]
  by_cases h : q < L.length
  · rw [if_pos h, List.getElem?_reverse h, nx_eq (by omega), List.getElem?_eq_getElem (by omega)]
  · rw [if_neg h, List.getElem?_eq_none (by simp; omega)]
theorem reverse_eq (F : Nat) (L : List Int) (hF : L.length + 2 ≤ F) (hl : L.length ≤ 1000000) : F36 F L = some L.reverse := by
  unfold F36
  have := iter_count (step := F36_l0 F) (F := F) (fun k => ((k : Int), (L.length : Int) - 1 - (k : Int), tb L.length fun q => if q < k ∨ L.length ≤ q + k then nx 0 L (L.length - 1 - q) else nx 0 L q)) (b := L.reverse) (L.length / 2) ?_ ?_ (by omega)
  · rw [w64 (by omega) (by omega)]
    have e : ((0 : Int), (L.length : Int) - 1, L) = (((0 : Nat) : Int), (L.length : Int) - 1 - ((0 : Nat) : Int), tb L.length fun q => if q < 0 ∨ L.length ≤ q + 0 then nx 0 L (L.length - 1 - q) else nx 0 L q) := by
      congr 2
      · simp
      · conv => lhs; rw [nx_tb 0 L]
        exact tb_congr fun q hq => by rw [if_neg (by omega)]
    rw [e, this, Option.bind_some]
  · intro k hk
    unfold F36_l0
    simp only
    have e : (L.length : Int) - 1 - (k : Int) = ((L.length - 1 - k : Nat) : Int) := by omega
    rw [if_pos (decide_eq_true (by omega)), e, tb_get (by omega), Option.bind_some, tb_get (by omega), Option.bind_some, tb_ck (by omega), Option.bind_some, Int.toNat_natCast, tb_set, tb_ck (by omega), Option.bind_some, Int.toNat_natCast, tb_set, wsuc (by omega), w64 (by omega) (by omega)]
    congr 4
    · omega
    · refine tb_congr fun q hq => ?_
      by_cases e1 : q = L.length - 1 - k
      · subst e1
        rw [if_pos rfl, if_neg (by omega), if_pos (by omega)]
        congr 1; omega
      · rw [if_neg e1]
        by_cases e2 : q = k
        · subst e2
          rw [if_pos rfl, if_neg (by omega), if_pos (by omega)]
        · rw [if_neg e2]
          by_cases e3 : q < k ∨ L.length ≤ q + k
          · rw [if_pos e3, if_pos (by omega)]
          · rw [if_neg e3, if_neg (by omega)]
  · unfold F36_l0
    simp only
    rw [if_neg (by rw [decide_eq_true_eq]; omega), rev_tb]
    congr 2
    refine tb_congr fun q hq => ?_
    by_cases e3 : q < L.length / 2 ∨ L.length ≤ q + L.length / 2
    · rw [if_pos e3]
    · rw [if_neg e3]; congr 1; omega
end Go.Proofs.Ytaphdnpjpmnaeaa

/- What chain.Even answers of a right chain and right numbers. -/
import Derived.Test.YtdfalejlhkalhaaChainLib
set_option linter.unusedVariables false
set_option linter.unusedSimpArgs false
namespace Go.Proofs.Ytdfalejlhkalhaa
open Go.Am

def EvenP (m : List (List Int)) (l : List Int) : Prop := ∀ i k, i < m.length → k < m.length → nx 0 l i * ent m i k = nx 0 l k * ent m k i
theorem prod_bd {x y : Int} (h1 : 0 ≤ x) (h2 : x ≤ 1000000000) (h3 : 0 ≤ y) (h4 : y ≤ 20) : 0 ≤ x * y ∧ x * y ≤ 20000000000 := ⟨Int.mul_nonneg h1 h3, Int.mul_le_mul h2 h4 h3 (by decide)⟩
theorem even_eq (F : Nat) (m : List (List Int)) (l : List Int) (hF : 40 ≤ F) (hm : Rgt m) (hl : l.length = m.length) (hb : ∀ i, i < m.length → 0 ≤ nx 0 l i ∧ nx 0 l i ≤ 1000000000) :
    ∃ b, F64 F m l = some (b, 0) ∧ (b = true ↔ EvenP m l) := by
  unfold F64
  have hn := hm.hi
  rw [check_right F m hF hm, Option.bind_some, if_neg (by decide), if_neg (by simp [hl])]
  have h0 := iter_count (step := F64_l0 F l) (F := F) (fun i => (i : Int)) (b := Sum.inl ()) m.length (fun i hi => by
    unfold F64_l0
    have := hb i hi
    rw [if_pos (decide_eq_true (by omega)), nx_get (d := 0) (by omega), Option.bind_some, if_neg (by simp only [Bool.or_eq_true, decide_eq_true_eq]; omega), wsuc (by omega)]) (by unfold F64_l0; rw [if_neg (by simp [hl])]) (by omega)
  rw [show (0 : Int) = ((0 : Nat) : Int) from rfl, h0, Option.bind_some]
  simp only
  -- row by row
  have hrow : ∀ i, i < m.length → iter (F64_l1 F m l i (nx [] m i)) F 0 = some (if (List.range m.length).any (fun k => decide (nx 0 l i * ent m i k ≠ nx 0 l k * ent m k i)) then .inr (false, 0) else .inl ()) := by
    intro i hi
    have hs := hm.sq i hi
    rcases seek_loop (step := F64_l1 F m l i (nx [] m i)) (F := F) m.length (fun k => decide (nx 0 l i * ent m i k ≠ nx 0 l k * ent m k i)) (fun _ => (false, (0 : Int))) (fun k hk => by
      unfold F64_l1
      have e1 := hm.en i k hi hk
      have e2 := hm.en k i hk hi
      have e3 := hb i hi
      have e4 := hb k hk
      have p1 := prod_bd e3.1 e3.2 e1.1 e1.2
      have p2 := prod_bd e4.1 e4.2 e2.1 e2.2
      rw [if_pos (decide_eq_true (by omega)), nx_get (d := 0) (by omega), Option.bind_some, nx_get (d := 0) (by omega), Option.bind_some, nx_get (d := 0) (by omega), Option.bind_some, nx_get (d := []) hk, Option.bind_some, nx_get (d := 0) (by rw [hm.sq k hk]; exact hi), Option.bind_some, wsuc (by omega)]
      rw [show nx 0 (nx [] m i) k = ent m i k from rfl, show nx 0 (nx [] m k) i = ent m k i from rfl, w64 (by omega) (by omega), w64 (by omega) (by omega)]
      by_cases e : nx 0 l i * ent m i k = nx 0 l k * ent m k i
      · rw [if_neg (by simp [e]), if_neg (by simp [e])]
      · rw [if_pos (by simpa using e), if_pos (by simpa using e)]) (by unfold F64_l1; rw [if_neg (by simp [hs])]) (by omega) with ⟨g1, g2⟩ | ⟨k, g1, g2, g3, g4⟩
    · rw [g2, if_neg]
      simp only [List.any_eq_true, List.mem_range]
      rintro ⟨k, hk, hx⟩
      rw [g1 k hk] at hx; cases hx
    · rw [g4, if_pos]
      simp only [List.any_eq_true, List.mem_range]
      exact ⟨k, g1, g2⟩
  rcases seek_loop (step := F64_l2 F m l) (F := F) m.length (fun i => (List.range m.length).any (fun k => decide (nx 0 l i * ent m i k ≠ nx 0 l k * ent m k i))) (fun _ => (false, (0 : Int))) (fun i hi => by
    unfold F64_l2
    rw [if_pos (decide_eq_true (by omega)), nx_get (d := []) hi, Option.bind_some, hrow i hi, Option.bind_some, wsuc (by omega)]
    by_cases hq : (List.range m.length).any (fun k => decide (nx 0 l i * ent m i k ≠ nx 0 l k * ent m k i)) = true
    · rw [if_pos hq, if_pos hq]
    · rw [if_neg hq, if_neg hq]) (by unfold F64_l2; rw [if_neg (by simp)]) (by omega) with ⟨g1, g2⟩ | ⟨i, g1, g2, g3, g4⟩
  · have g2 : iter (F64_l2 F m l) F ((0 : Nat) : Int) = _ := g2
    rw [g2, Option.bind_some]
    refine ⟨true, rfl, fun _ i k hi hk => ?_, fun _ => rfl⟩
    have := g1 i hi
    rw [List.any_eq_false] at this
    have := this k (by simpa using hk)
    simpa using this
  · have g4 : iter (F64_l2 F m l) F ((0 : Nat) : Int) = _ := g4
    rw [g4, Option.bind_some]
    refine ⟨false, rfl, (fun h => by cases h), fun h => ?_⟩
    rw [List.any_eq_true] at g2
    obtain ⟨k, hk, hx⟩ := g2
    have := h i k g1 (by simpa using hk)
    simp [this] at hx
end Go.Proofs.Ytdfalejlhkalhaa

/- Draws from a tape, by the program alone. -/
import Derived.Test.YtihmliblbhjlaaaDef
import Derived.Test.YtihmliblbhjlaaaPureC
set_option linter.unusedVariables false
set_option linter.unusedSimpArgs false
namespace Go.Proofs.Ytihmliblbhjlaaa.drw
open Go.Am

def chkB (j : Nat) : Bool := match F165 40 ((j + 1 : Nat) : Int) with
  | some (k, e) => decide (0 ≤ k ∧ k ≤ 10 ∧ e = 0 ∧ (k = 0 → j = 0))
  | none => false
theorem chkB_ok : all2 32 32 chkB = true := by kernel_rfl
def Bin (l : List Int) : Prop := ∀ x ∈ l, 0 ≤ x ∧ x ≤ 1
theorem Bin.drop {l : List Int} (h : Bin l) (i : Nat) : Bin (l.drop i) := fun x hx => h x (List.mem_of_mem_drop hx)
theorem bits_in (F n : Nat) (h1 : 1 ≤ n) (h2 : n ≤ 1024) (hF : 40 ≤ F) (hmono : ∀ r, F165 40 (n : Int) = some r → F165 F (n : Int) = some r) : ∃ k : Nat, k ≤ 10 ∧ (k = 0 → n = 1) ∧ F165 F (n : Int) = some ((k : Int), 0) := by
  have := all2_ok chkB_ok (n - 1) (by omega)
  unfold chkB at this
  rw [show n - 1 + 1 = n from by omega] at this
  revert this hmono
  cases F165 40 (n : Int) with
  | none => intro _ h; cases h
  | some r =>
    obtain ⟨k, e⟩ := r
    intro hm h
    simp only [decide_eq_true_eq] at h
    obtain ⟨q1, q2, rfl, q3⟩ := h
    exact ⟨k.toNat, by omega, fun q => by have := q3 (by omega); omega, by rw [hm _ rfl]; congr 2; omega⟩
theorem check_ok (F : Nat) (l : List Int) (hb : Bin l) (hl : l.length ≤ 200) (hF : 202 ≤ F) : F147 F l = some 0 := by
  unfold F147
  rw [if_neg (by rw [decide_eq_true_eq]; omega)]
  have : iter (F147_l0 F l) F 0 = some (.inl ()) := by
    refine iter_count (step := F147_l0 F l) (fun i => (i : Int)) l.length (fun i hi => ?_) ?_ (by omega)
    · unfold F147_l0
      have := hb _ (List.getElem_mem hi)
      rw [if_pos (decide_eq_true (by omega)), at?_in hi, Option.bind_some, if_neg (by rw [decide_eq_true_eq]; omega), wsuc (by omega)]
    · unfold F147_l0
      rw [if_neg (by rw [decide_eq_true_eq]; omega)]
  rw [this]; rfl
theorem val_loop (F : Nat) (L : List Int) (hb : Bin L) (hl : L.length ≤ 10) (hF : 12 ≤ F) : ∃ v : Int, iter (F148_l0 F L) F (0, 0) = some v ∧ 0 ≤ v ∧ (L.length = 0 → v = 0) := by
  obtain ⟨v, e, h⟩ := iter_inv (step := F148_l0 F L) (I := fun s : Int × Int => ∃ i : Nat, s.2 = (i : Int) ∧ i ≤ L.length ∧ 0 ≤ s.1 ∧ s.1 < 2 ^ i) (μ := fun s => L.length - s.2.toNat) (Q := fun v => 0 ≤ v ∧ (L.length = 0 → v = 0)) (by
    rintro ⟨v, s⟩ ⟨i, rfl, hi, h1, h2⟩
    simp only at h1 h2
    unfold F148_l0
    simp only
    by_cases hlt : i < L.length
    · left
      have hx := hb _ (List.getElem_mem hlt)
      have hp : (2 : Int) ^ i ≤ 1024 := by
        have : (2 : Int) ^ i ≤ 2 ^ 10 := by
          have := Nat.pow_le_pow_right (n := 2) (by omega) (by omega : i ≤ 10)
          have e : ((2 ^ i : Nat) : Int) ≤ ((2 ^ 10 : Nat) : Int) := by omega
          simpa using e
        omega
      have hp2 : (2 : Int) ^ (i + 1) = 2 * 2 ^ i := by rw [Int.pow_succ]; omega
      rw [if_pos (decide_eq_true (by omega)), at?_in hlt, Option.bind_some, w64 (a := 2 * v) (by omega) (by omega), w64 (a := L[i]) (by omega) (by omega), w64 (a := 2 * v + L[i]) (by omega) (by omega), wsuc (by omega)]
      exact ⟨_, rfl, ⟨i + 1, rfl, by omega, by simp only; omega, by simp only; omega⟩, by simp only [Int.toNat_natCast]; omega⟩
    · right
      rw [if_neg (by rw [decide_eq_true_eq]; omega)]
      exact ⟨_, rfl, h1, fun q => by have : i = 0 := by omega
                                     subst this; simp at h2; omega⟩) F (0, 0) ⟨0, rfl, Nat.zero_le _, by simp, by simp⟩ (by simp only [Int.toNat_zero]; omega)
  exact ⟨v, e, h⟩
/-- ONE DRAW. -/
theorem draw_ok (F : Nat) (l : List Int) (n : Nat) (hb : Bin l) (hl : l.length ≤ 200) (h1 : 1 ≤ n) (h2 : n ≤ 1024) (hF : 300 ≤ F) (hmono : ∀ r, F165 40 (n : Int) = some r → F165 F (n : Int) = some r) :
    ∃ r : Int × Int × Int, F148 F l (n : Int) = some r ∧ (r.2.2 = 0 → 0 ≤ r.1 ∧ r.1 < n) ∧ 0 ≤ r.2.1 ∧ r.2.1 ≤ l.length := by
  obtain ⟨k, k1, k2, k3⟩ := bits_in F n h1 h2 (by omega) hmono
  unfold F148
  rw [check_ok F l hb hl (by omega), Option.bind_some, if_neg (by decide), k3, Option.bind_some]
  simp only
  rw [if_neg (by decide)]
  obtain ⟨b, e, hQ⟩ := iter_inv (step := F148_l1 F l (n : Int) ((k : Int), 0)) (I := fun s : Int => ∃ a : Nat, s = (a : Int) ∧ a ≤ l.length) (μ := fun s => l.length + 1 - s.toNat)
    (Q := fun b => b = .inl () ∨ ∃ v u : Int, b = .inr (v, u, 0) ∧ 0 ≤ v ∧ v < n ∧ 0 ≤ u ∧ u ≤ l.length) (by
    rintro s ⟨a, rfl, ha⟩
    unfold F148_l1
    simp only
    rw [wadd (by omega)]
    by_cases hlt : a + k ≤ l.length
    · rw [if_pos (decide_eq_true (by omega)), sub?_ok (by omega) hlt, Option.bind_some]
      have hbL : Bin ((l.take (a + k)).drop a) := fun x hx => hb x (List.mem_of_mem_take (List.mem_of_mem_drop hx))
      have hLl : ((l.take (a + k)).drop a).length = k := by rw [List.length_drop, List.length_take]; omega
      obtain ⟨v, ev, hv, hv0⟩ := val_loop F _ hbL (by omega) (by omega)
      rw [ev, Option.bind_some]
      by_cases hvn : v < n
      · right
        rw [if_pos (decide_eq_true hvn)]
        exact ⟨_, rfl, .inr ⟨v, _, rfl, hv, hvn, by omega, by omega⟩⟩
      · left
        rw [if_neg (by rw [decide_eq_true_eq]; exact hvn)]
        have hk : 0 < k := by
          rcases Nat.eq_zero_or_pos k with q | q
          · exfalso
            have := hv0 (by omega)
            omega
          · exact q
        exact ⟨_, rfl, ⟨a + k, rfl, hlt⟩, by simp only [Int.toNat_natCast]; omega⟩
    · right
      rw [if_neg (by rw [decide_eq_true_eq]; omega)]
      exact ⟨_, rfl, .inl rfl⟩) F 0 ⟨0, rfl, Nat.zero_le _⟩ (by simp only [Int.toNat_zero]; omega)
  rw [e, Option.bind_some]
  rcases hQ with rfl | ⟨v, u, rfl, q1, q2, q3, q4⟩
  · exact ⟨_, rfl, fun h => (by cases h), Int.le_refl _, (by omega : (0 : Int) ≤ l.length)⟩
  · exact ⟨_, rfl, fun _ => ⟨q1, q2⟩, q3, q4⟩
/-- TWO DRAWS. -/
theorem row_ok (F : Nat) (l : List Int) (n m : Nat) (hb : Bin l) (hl : l.length ≤ 200) (h1 : 1 ≤ n) (h2 : n ≤ 1024) (h3 : 1 ≤ m) (h4 : m ≤ 1024) (hF : 300 ≤ F) (hmn : ∀ r, F165 40 (n : Int) = some r → F165 F (n : Int) = some r) (hmm : ∀ r, F165 40 (m : Int) = some r → F165 F (m : Int) = some r) :
    ∃ r : List Int × Int × Int, F84 F l [(n : Int), (m : Int)] = some r ∧ (r.2.2 = 0 → ∃ x y : Int, r.1 = [x, y] ∧ 0 ≤ x ∧ x < n ∧ 0 ≤ y ∧ y < m) := by
  obtain ⟨r1, e1, v1, u1, u2⟩ := draw_ok F l n hb hl h1 h2 hF hmn
  unfold F84
  rw [check_ok F l hb hl (by omega), Option.bind_some, if_neg (by decide), if_neg (by rw [decide_eq_true_eq]; show ¬ (2 : Int) > 30; decide)]
  obtain ⟨G, rfl⟩ : ∃ q, F = q + 3 := ⟨F - 3, by omega⟩
  by_cases q1 : r1.2.2 = 0
  · have s0 : F84_l0 (G + 3) l [(n : Int), (m : Int)] ([], 0, 0) = some (.more ([r1.1], r1.2.1, 1)) := by
      unfold F84_l0
      simp only
      rw [if_pos (decide_eq_true (by show (0 : Int) < 2; decide)), show at? [(n : Int), (m : Int)] 0 = some (n : Int) from rfl, Option.bind_some, show sub? l 0 (l.length : Int) = some l from by rw [sub?_to (Nat.le_refl _), List.take_length], Option.bind_some, e1, Option.bind_some, if_neg (by simpa using q1), app?_ok (by simp), Option.bind_some, w64 (by omega) (by omega), Int.zero_add]
      rfl
    obtain ⟨r2, e2, v2, u3, u4⟩ := draw_ok (G + 3) (l.drop r1.2.1.toNat) m (hb.drop _) (by rw [List.length_drop]; omega) h3 h4 hF hmm
    have hsub : sub? l r1.2.1 (l.length : Int) = some (l.drop r1.2.1.toNat) := by
      have := sub?_from (L := l) (a := r1.2.1.toNat) (by omega)
      rwa [Int.toNat_of_nonneg u1] at this
    rw [List.length_drop] at u4
    by_cases q2 : r2.2.2 = 0
    · have s1 : F84_l0 (G + 3) l [(n : Int), (m : Int)] ([r1.1], r1.2.1, 1) = some (.more ([r1.1, r2.1], r1.2.1 + r2.2.1, 2)) := by
        unfold F84_l0
        simp only
        rw [if_pos (decide_eq_true (by show (1 : Int) < 2; decide)), show at? [(n : Int), (m : Int)] 1 = some (m : Int) from rfl, Option.bind_some, hsub, Option.bind_some, e2, Option.bind_some, if_neg (by simpa using q2), app?_ok (by simp), Option.bind_some, w64 (a := r1.2.1 + r2.2.1) (by omega) (by omega)]
        rfl
      have s2 : F84_l0 (G + 3) l [(n : Int), (m : Int)] ([r1.1, r2.1], r1.2.1 + r2.2.1, 2) = some (.stop (.inl ([r1.1, r2.1], r1.2.1 + r2.2.1))) := by
        unfold F84_l0
        simp only
        rw [if_neg (by rw [decide_eq_true_eq]; show ¬ (2 : Int) < 2; decide)]
      rw [iter_more s0, iter_more s1, iter_stop s2]
      exact ⟨_, rfl, fun _ => ⟨_, _, rfl, (v1 q1).1, (v1 q1).2, (v2 q2).1, (v2 q2).2⟩⟩
    · have s1 : F84_l0 (G + 3) l [(n : Int), (m : Int)] ([r1.1], r1.2.1, 1) = some (.stop (.inr ([], 0, r2.2.2))) := by
        unfold F84_l0
        simp only
        rw [if_pos (decide_eq_true (by show (1 : Int) < 2; decide)), show at? [(n : Int), (m : Int)] 1 = some (m : Int) from rfl, Option.bind_some, hsub, Option.bind_some, e2, Option.bind_some, if_pos (by simpa using q2)]
      rw [iter_more s0, iter_stop s1]
      exact ⟨_, rfl, fun h => absurd h q2⟩
  · have s0 : F84_l0 (G + 3) l [(n : Int), (m : Int)] ([], 0, 0) = some (.stop (.inr ([], 0, r1.2.2))) := by
      unfold F84_l0
      simp only
      rw [if_pos (decide_eq_true (by show (0 : Int) < 2; decide)), show at? [(n : Int), (m : Int)] 0 = some (n : Int) from rfl, Option.bind_some, show sub? l 0 (l.length : Int) = some l from by rw [sub?_to (Nat.le_refl _), List.take_length], Option.bind_some, e1, Option.bind_some, if_pos (by simpa using q1)]
    rw [iter_stop s0]
    exact ⟨_, rfl, fun h => absurd h q1⟩
end Go.Proofs.Ytihmliblbhjlaaa.drw

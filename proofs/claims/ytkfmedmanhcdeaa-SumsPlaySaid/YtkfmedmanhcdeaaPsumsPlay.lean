/- The law of package sums, in plain words. -/
import Derived.Test.YtkfmedmanhcdeaaPureC
import Derived.Test.YtkfmedmanhcdeaaMono
set_option linter.unusedVariables false
set_option linter.unusedSimpArgs false
namespace Go.Proofs.Ytkfmedmanhcdeaa
open Go.Am

/-! ### The lowest one -/
def lw (k : Nat) : Nat := Nat.land k (128 - k)
theorem lw_a : ((List.range 65).all fun k => k == 0 || (bit .and .i64 (k : Int) (wrapA .i64 (0 - (k : Int))) == ((lw k : Nat) : Int) && decide (1 ≤ lw k) && decide (lw k ≤ k))) = true := by kernel_rfl
theorem lw_b : ((List.range 65).all fun k => (List.range 65).all fun j => k == 0 || !(decide (k < j) && decide (j < k + lw k)) || decide (k ≤ j - lw j)) = true := by kernel_rfl
theorem lw_c : ((List.range 65).all fun k => k == 0 || !(decide (k + lw k ≤ 64)) || decide (k + lw k - lw (k + lw k) ≤ k - lw k)) = true := by kernel_rfl
theorem lw_d : ((List.range 7).all fun j => (List.range 65).all fun k => !(k % 2 ^ (j + 1) == 2 ^ j) || lw k == 2 ^ j) = true := by kernel_rfl
theorem lw_bit {k : Nat} (h1 : 1 ≤ k) (h2 : k ≤ 64) : bit .and .i64 (k : Int) (wrapA .i64 (0 - (k : Int))) = ((lw k : Nat) : Int) ∧ 1 ≤ lw k ∧ lw k ≤ k := by
  have h := lw_a
  simp only [List.all_eq_true, List.mem_range] at h
  have := h k (by omega)
  simp only [Bool.or_eq_true, Bool.and_eq_true, beq_iff_eq, decide_eq_true_eq] at this
  rcases this with h | h
  · omega
  · exact ⟨h.1.1, h.1.2, h.2⟩
theorem lw_gap {k j : Nat} (h1 : 1 ≤ k) (h2 : k ≤ 64) (h3 : k < j) (h4 : j < k + lw k) (h5 : j ≤ 64) : k ≤ j - lw j := by
  have h := lw_b
  simp only [List.all_eq_true, List.mem_range] at h
  have := h k (by omega) j (by omega)
  simp only [Bool.or_eq_true, Bool.and_eq_true, Bool.not_eq_true', beq_iff_eq, decide_eq_true_eq, Bool.and_eq_false_iff, decide_eq_false_iff_not] at this
  omega
theorem lw_next {k : Nat} (h1 : 1 ≤ k) (h2 : k ≤ 64) (h3 : k + lw k ≤ 64) : k + lw k - lw (k + lw k) ≤ k - lw k := by
  have h := lw_c
  simp only [List.all_eq_true, List.mem_range] at h
  have := h k (by omega)
  simp only [Bool.or_eq_true, Bool.not_eq_true', beq_iff_eq, decide_eq_true_eq, decide_eq_false_iff_not] at this
  omega
theorem lw_pow {k j : Nat} (hj : j < 7) (hk : k ≤ 64) (h : k % 2 ^ (j + 1) = 2 ^ j) : lw k = 2 ^ j := by
  have hd := lw_d
  simp only [List.all_eq_true, List.mem_range] at hd
  have := hd j hj k (by omega)
  simp only [Bool.or_eq_true, Bool.not_eq_true', beq_iff_eq] at this
  rcases this with h2 | h2
  · rw [h] at h2; simp at h2
  · exact h2

/-! ### The tree -/
structure Fen (n : Nat) (T A : List Int) : Prop where
  lt : T.length = n + 1
  la : A.length = n
  bd : ∀ j, j < n → 0 ≤ nx 0 A j ∧ nx 0 A j ≤ 1000000000
  tr : ∀ k, 1 ≤ k → k ≤ n → nx 0 T k = sm k (nx 0 A) - sm (k - lw k) (nx 0 A)
theorem Fen.sm_bd {n : Nat} {T A : List Int} (h : Fen n T A) (hn : n ≤ 64) {k : Nat} (hk : k ≤ n) : 0 ≤ sm k (nx 0 A) ∧ sm k (nx 0 A) ≤ 64000000000 := by
  have := sm_bound (f := nx 0 A) (B := 1000000000) (k := k) (fun i hi => h.bd i (by omega))
  omega
theorem Fen.mono {n : Nat} {T A : List Int} (h : Fen n T A) {j k : Nat} (hk : k ≤ n) (hj : j ≤ k) : sm j (nx 0 A) ≤ sm k (nx 0 A) := sm_mono (fun i hi => (h.bd i (by omega)).1) hj

theorem ahead_eq {n : Nat} {T A : List Int} (h : Fen n T A) (hn : n ≤ 64) (F : Nat) (hF : 200 ≤ F) (i : Nat) (hi : i ≤ n) : F96 F T i = some (sm i (nx 0 A)) := by
  unfold F96
  obtain ⟨r, h1, h2⟩ := iter_inv (step := F96_l0 F T) (I := fun s => ∃ k : Nat, k ≤ i ∧ s = (sm i (nx 0 A) - sm k (nx 0 A), (k : Int))) (μ := fun s => s.2.toNat) (Q := fun r => r = sm i (nx 0 A)) (by
    rintro s ⟨k, hk, rfl⟩
    unfold F96_l0
    simp only
    by_cases h0 : k = 0
    · right
      subst h0
      rw [if_neg (by simp)]
      exact ⟨_, rfl, by simp [sm]⟩
    · left
      obtain ⟨b1, b2, b3⟩ := lw_bit (k := k) (by omega) (by omega)
      have e := h.tr k (by omega) (by omega)
      have g1 := h.sm_bd hn (k := k) (by omega)
      have g2 := h.sm_bd hn (k := k - lw k) (by omega)
      have g3 := h.sm_bd hn (k := i) hi
      rw [if_pos (decide_eq_true (by omega)), nx_get (d := 0) (by rw [h.lt]; omega), Option.bind_some, b1, wsub b3 (by omega), e, w64 (by omega) (by omega)]
      refine ⟨_, rfl, ⟨k - lw k, by omega, ?_⟩, by simp only [Int.toNat_natCast]; omega⟩
      congr 1; omega) F (0, (i : Int)) ⟨i, Nat.le_refl _, by simp⟩ (by simp only [Int.toNat_natCast]; omega)
  rw [h1, h2]; rfl

theorem nx_set {α : Type} {d : α} {a : List α} {i j : Nat} {x : α} (h : i < a.length) : nx d (a.set i x) j = if j = i then x else nx d a j := by
  unfold nx; rw [List.getElem?_set]
  by_cases e : i = j
  · subst e; simp [h]
  · rw [if_neg e, if_neg (fun q => e q.symm)]

theorem grow_eq {n : Nat} {T A : List Int} (h : Fen n T A) (hn : n ≤ 64) (F : Nat) (hF : 200 ≤ F) (i : Nat) (hi : i < n) (x : Int) (hx : -1000000000 ≤ x ∧ x ≤ 1000000000) :
    ∃ T', iter (F23_l0 F x) F (((i + 1 : Nat) : Int), T) = some T' ∧ T'.length = n + 1 ∧ ∀ k, 1 ≤ k → k ≤ n → nx 0 T' k = nx 0 T k + if k - lw k ≤ i ∧ i < k then x else 0 := by
  obtain ⟨r, h1, h2⟩ := iter_inv (step := F23_l0 F x) (I := fun s => ∃ (k : Nat) (T' : List Int), s = ((k : Int), T') ∧ i < k ∧ k ≤ 128 ∧ (k ≤ 64 → k - lw k ≤ i) ∧ T'.length = n + 1 ∧ (∀ j, j < k → 1 ≤ j → j ≤ n → nx 0 T' j = nx 0 T j + if j - lw j ≤ i ∧ i < j then x else 0) ∧ ∀ j, k ≤ j → nx 0 T' j = nx 0 T j)
    (μ := fun s => 128 - s.1.toNat) (Q := fun T' => T'.length = n + 1 ∧ ∀ k, 1 ≤ k → k ≤ n → nx 0 T' k = nx 0 T k + if k - lw k ≤ i ∧ i < k then x else 0) (by
    rintro s ⟨k, T', rfl, hik, hk, hkl, hl, hlo, hhi⟩
    unfold F23_l0
    simp only [hl]
    by_cases hkn : k < n + 1
    · left
      obtain ⟨b1, b2, b3⟩ := lw_bit (k := k) (by omega) (by omega)
      have e := h.tr k (by omega) (by omega)
      have g1 := h.sm_bd hn (k := k) (by omega)
      have g2 := h.sm_bd hn (k := k - lw k) (by omega)
      have g4 := hkl (by omega)
      rw [if_pos (decide_eq_true (by omega)), nx_get (d := 0) (by omega), Option.bind_some, ck_ok (by omega), Option.bind_some, b1, wadd (by omega), Int.toNat_natCast, hhi k (Nat.le_refl _), e, w64 (by omega) (by omega), ← e]
      refine ⟨_, rfl, ⟨k + lw k, _, rfl, by omega, by omega, fun h64 => ?_, by rw [List.length_set]; exact hl, fun j hj h1 h2 => ?_, fun j hj => ?_⟩, by simp only [Int.toNat_natCast]; omega⟩
      · have := lw_next (k := k) (by omega) (by omega) h64
        omega
      · rw [nx_set (by omega)]
        by_cases ej : j = k
        · subst ej; rw [if_pos rfl, if_pos ⟨g4, by omega⟩]
        · rw [if_neg ej]
          by_cases hjk : j < k
          · exact hlo j hjk h1 h2
          · have := lw_gap (k := k) (j := j) (by omega) (by omega) (by omega) hj (by omega)
            rw [if_neg (by omega), hhi j (by omega)]; omega
      · rw [nx_set (by omega), if_neg (by omega)]; exact hhi j (by omega)
    · right
      rw [if_neg (by rw [decide_eq_true_eq]; omega)]
      exact ⟨_, rfl, hl, fun j h1 h2 => hlo j (by omega) h1 h2⟩) F (((i + 1 : Nat) : Int), T)
    ⟨i + 1, T, rfl, by omega, by omega, fun _ => by have := (lw_bit (k := i + 1) (by omega) (by omega)).2.1; omega, h.lt, fun j hj h1 h2 => by rw [if_neg (by omega)]; omega, fun j _ => rfl⟩ (by simp only [Int.toNat_natCast]; omega)
  exact ⟨r, h1, h2⟩

/-- What an addition is answered with. -/
def wantOf (n : Nat) (A : List Int) (i y : Int) : Int :=
  if i < 0 ∨ i ≥ n ∨ y < -1000000000 ∨ y > 1000000000 then 1 else if nx 0 A i.toNat + y < 0 then 3 else if nx 0 A i.toNat + y > 1000000000 then 2 else 0
theorem add_eq {n : Nat} {T A : List Int} (h : Fen n T A) (hn : n ≤ 64) (F : Nat) (hF : 200 ≤ F) (i y : Int) :
    ∃ T', F23 F T i y = some (wantOf n A i y, T') ∧ (wantOf n A i y ≠ 0 → T' = T) ∧ (wantOf n A i y = 0 → Fen n T' (A.set i.toNat (nx 0 A i.toNat + y))) := by
  unfold F23 wantOf
  rw [h.lt, w64 (a := ((n + 1 : Nat) : Int) - 1) (by omega) (by omega)]
  by_cases h0 : i < 0 ∨ i ≥ n ∨ y < -1000000000 ∨ y > 1000000000
  · rw [if_pos h0, if_pos (by simp only [Bool.or_eq_true, decide_eq_true_eq]; omega)]
    exact ⟨T, rfl, fun _ => rfl, fun h => by cases h⟩
  · rw [if_neg h0, if_neg (by simp only [Bool.or_eq_true, decide_eq_true_eq]; omega)]
    obtain ⟨j, rfl⟩ : ∃ j : Nat, i = j := ⟨i.toNat, by omega⟩
    have hj : j < n := by omega
    have hb := h.bd j hj
    rw [wsuc (by omega), ahead_eq h hn F hF (j + 1) (by omega), Option.bind_some, ahead_eq h hn F hF j (by omega), Option.bind_some, sm_succ, Int.toNat_natCast]
    rw [w64 (a := sm j (nx 0 A) + nx 0 A j - sm j (nx 0 A)) (by omega) (by omega), show sm j (nx 0 A) + nx 0 A j - sm j (nx 0 A) = nx 0 A j from by omega, w64 (by omega) (by omega)]
    by_cases h1 : nx 0 A j + y < 0
    · rw [if_pos (decide_eq_true h1), if_pos h1]
      exact ⟨T, rfl, fun _ => rfl, fun h => by cases h⟩
    rw [if_neg (by simpa using h1), if_neg h1]
    by_cases h2 : nx 0 A j + y > 1000000000
    · rw [if_pos (decide_eq_true h2), if_pos h2]
      exact ⟨T, rfl, fun _ => rfl, fun h => by cases h⟩
    rw [if_neg (by rw [decide_eq_true_eq]; exact h2), if_neg h2]
    obtain ⟨T', g1, g2, g3⟩ := grow_eq h hn F hF j hj y (by omega)
    rw [g1, Option.bind_some]
    have hA : A.length = n := h.la
    have hset : ∀ q, nx 0 (A.set j (nx 0 A j + y)) q = nx 0 A q + if q = j then y else 0 := fun q => by
      rw [nx_set (by omega)]
      by_cases e : q = j
      · rw [if_pos e, if_pos e, e]
      · rw [if_neg e, if_neg e]; omega
    have hsm : ∀ k, sm k (nx 0 (A.set j (nx 0 A j + y))) = sm k (nx 0 A) + if j < k then y else 0 := by
      intro k
      induction k with
      | zero => simp [sm]
      | succ k ih =>
        rw [sm_succ, sm_succ, ih, hset]
        by_cases e1 : k = j
        · subst e1; rw [if_neg (by omega), if_pos rfl, if_pos (by omega)]; omega
        · rw [if_neg e1]
          by_cases e2 : j < k
          · rw [if_pos e2, if_pos (by omega)]; omega
          · rw [if_neg e2, if_neg (by omega)]; omega
    refine ⟨T', rfl, fun h => (h rfl).elim, fun _ => ⟨g2, by rw [List.length_set]; exact hA, fun q hq => ?_, fun k hk1 hk2 => ?_⟩⟩
    · rw [hset]
      have := h.bd q hq
      by_cases e : q = j
      · subst e; rw [if_pos rfl]; omega
      · rw [if_neg e]; omega
    · obtain ⟨_, b2, b3⟩ := lw_bit (k := k) hk1 (by omega)
      rw [g3 k hk1 hk2, h.tr k hk1 hk2, hsm, hsm]
      by_cases e1 : j < k
      · by_cases e2 : j < k - lw k
        · rw [if_neg (by omega), if_pos e1, if_pos e2]; omega
        · rw [if_pos ⟨by omega, e1⟩, if_pos e1, if_neg e2]; omega
      · rw [if_neg (by omega), if_neg e1, if_neg (by omega)]; omega

theorem Ahead_eq {n : Nat} {T A : List Int} (h : Fen n T A) (hn : n ≤ 64) (F : Nat) (hF : 200 ≤ F) (i : Int) :
    F24 F T i = some (if i < 0 ∨ i > n then (0, 1) else (sm i.toNat (nx 0 A), 0)) := by
  unfold F24
  rw [h.lt]
  by_cases h0 : i < 0 ∨ i > n
  · rw [if_pos h0, if_pos (by simp only [Bool.or_eq_true, decide_eq_true_eq]; omega)]
  · rw [if_neg h0, if_neg (by simp only [Bool.or_eq_true, decide_eq_true_eq]; omega)]
    obtain ⟨j, rfl⟩ : ∃ j : Nat, i = j := ⟨i.toNat, by omega⟩
    rw [ahead_eq h hn F hF j (by omega), Option.bind_some]; rfl

/-- The place at which y is found: the last that no more than y is ahead of. -/
def IsAt (n : Nat) (A : List Int) (y : Int) (a : Nat) : Prop := a ≤ n ∧ sm a (nx 0 A) ≤ y ∧ (a < n → y < sm (a + 1) (nx 0 A))
theorem IsAt.uniq {n : Nat} {T A : List Int} (h : Fen n T A) {y : Int} {a b : Nat} (ha : IsAt n A y a) (hb : IsAt n A y b) : a = b := by
  obtain ⟨a1, a2, a3⟩ := ha
  obtain ⟨b1, b2, b3⟩ := hb
  rcases Nat.lt_trichotomy a b with h1 | h1 | h1
  · have := a3 (by omega); have := h.mono (j := a + 1) (k := b) b1 (by omega); omega
  · exact h1
  · have := b3 (by omega); have := h.mono (j := b + 1) (k := a) a1 (by omega); omega

theorem seek_eq {n : Nat} {T A : List Int} (h : Fen n T A) (hn : n ≤ 64) (F : Nat) (hF : 200 ≤ F) (y : Int) (hy : 0 ≤ y) (hy2 : y ≤ 9223372036854775807) : ∃ a : Nat, iter (F25_l0 F T) F (y, 0, 64) = some (a : Int) ∧ IsAt n A y a := by
  obtain ⟨r, h1, h2⟩ := iter_inv (step := F25_l0 F T) (I := fun s => ∃ (j a : Nat), j ≤ 7 ∧ a ≤ n ∧ a % 2 ^ j = 0 ∧ sm a (nx 0 A) ≤ y ∧ (a + 2 ^ j ≤ n → y < sm (a + 2 ^ j) (nx 0 A)) ∧ s = (y - sm a (nx 0 A), (a : Int), if j = 0 then 0 else ((2 ^ (j - 1) : Nat) : Int)))
    (μ := fun s => s.2.2.toNat) (Q := fun r => ∃ a : Nat, r = (a : Int) ∧ IsAt n A y a) (by
    rintro s ⟨j, a, hj, ha, hm, hs, hn2, rfl⟩
    unfold F25_l0
    simp only [h.lt]
    cases j with
    | zero =>
      right
      simp only [if_true]
      rw [if_neg (by decide)]
      exact ⟨_, rfl, a, rfl, ha, hs, fun hlt => hn2 (by simp; omega)⟩
    | succ j =>
      left
      have hstep : (if j + 1 = 0 then (0 : Int) else ((2 ^ (j + 1 - 1) : Nat) : Int)) = ((2 ^ j : Nat) : Int) := by rw [if_neg (by omega), Nat.add_sub_cancel]
      rw [hstep]
      have hp : 1 ≤ 2 ^ j := Nat.one_le_two_pow
      have hp2 : 2 ^ (j + 1) = 2 ^ j + 2 ^ j := by rw [Nat.pow_succ]; omega
      have hle : 2 ^ j ≤ 64 := Nat.pow_le_pow_right (n := 2) (by omega) (show j ≤ 6 by omega)
      have hhalf : wrapA .i64 (Int.tdiv ((2 ^ j : Nat) : Int) 2) = if j = 0 then 0 else ((2 ^ (j - 1) : Nat) : Int) := by
        rw [show (2 : Int) = ((2 : Nat) : Int) from rfl, tdiv_nat]
        cases j with
        | zero => rfl
        | succ q =>
          rw [if_neg (by omega), Nat.add_sub_cancel, Nat.pow_succ, Nat.mul_div_cancel _ (by omega)]
          have : 2 ^ (q + 1) = 2 ^ q + 2 ^ q := by rw [Nat.pow_succ]; omega
          exact w64 (by omega) (by omega)
      have hdec : (if j = 0 then (0 : Int) else ((2 ^ (j - 1) : Nat) : Int)).toNat < 2 ^ j := by
        cases j with
        | zero => decide
        | succ q =>
          rw [if_neg (by omega), Nat.add_sub_cancel, Int.toNat_natCast, Nat.pow_succ]
          have : 1 ≤ 2 ^ q := Nat.one_le_two_pow
          omega
      have hmj : a % 2 ^ j = 0 := by
        have := Nat.mod_mod_of_dvd a (show 2 ^ j ∣ 2 ^ (j + 1) from ⟨2, by rw [Nat.pow_succ]⟩)
        rw [hm] at this; rw [← this]; simp
      rw [if_pos (decide_eq_true (by omega)), wadd (by omega), hhalf]
      by_cases hlt : a + 2 ^ j ≤ n
      · have hmod : (a + 2 ^ j) % 2 ^ (j + 1) = 2 ^ j := by
          rw [Nat.add_mod, hm, Nat.zero_add, Nat.mod_mod, Nat.mod_eq_of_lt (by omega)]
        have hlw := lw_pow (k := a + 2 ^ j) (j := j) (by omega) (by omega) hmod
        have e := h.tr (a + 2 ^ j) (by omega) hlt
        rw [hlw, Nat.add_sub_cancel] at e
        have g1 := h.sm_bd hn (k := a + 2 ^ j) hlt
        have g2 := h.sm_bd hn (k := a) ha
        rw [if_pos (decide_eq_true (by omega)), nx_get (d := 0) (by rw [h.lt]; omega), Option.bind_some, Option.bind_some, e]
        by_cases hy3 : sm (a + 2 ^ j) (nx 0 A) ≤ y
        · rw [if_pos (decide_eq_true (by omega)), Option.bind_some, w64 (by omega) (by omega)]
          refine ⟨_, rfl, ⟨j, a + 2 ^ j, by omega, hlt, by rw [Nat.add_mod_right]; exact hmj, hy3, fun hle2 => ?_, ?_⟩, by simp only [Int.toNat_natCast]; exact hdec⟩
          · rw [Nat.add_assoc, ← hp2] at hle2 ⊢; exact hn2 hle2
          · congr 1; omega
        · rw [if_neg (by rw [decide_eq_true_eq]; omega)]
          exact ⟨_, rfl, ⟨j, a, by omega, ha, hmj, hs, fun _ => by omega, rfl⟩, by simp only [Int.toNat_natCast]; exact hdec⟩
      · rw [if_neg (by rw [decide_eq_true_eq]; omega), Option.bind_some, if_neg (by decide)]
        exact ⟨_, rfl, ⟨j, a, by omega, ha, hmj, hs, fun hq => (hlt hq).elim, rfl⟩, by simp only [Int.toNat_natCast]; exact hdec⟩) F (y, 0, 64) ⟨7, 0, by omega, by omega, by omega, hy, fun h => by omega, by simp [sm]⟩ (by simp only; omega)
  obtain ⟨a, rfl, h3⟩ := h2
  exact ⟨a, h1, h3⟩
theorem Find_eq {n : Nat} {T A : List Int} (h : Fen n T A) (hn : n ≤ 64) (F : Nat) (hF : 200 ≤ F) (y : Int) (hy : 0 ≤ y) (hy2 : y ≤ 9223372036854775807) : ∃ a : Nat, F25 F T y = some (if a = n then (0, 4) else ((a : Int), 0)) ∧ IsAt n A y a := by
  unfold F25
  obtain ⟨a, h1, h2⟩ := seek_eq h hn F hF y hy hy2
  rw [if_neg (by rw [decide_eq_true_eq]; omega), h1, Option.bind_some, h.lt, w64 (by omega) (by omega)]
  refine ⟨a, ?_, h2⟩
  by_cases e : a = n
  · subst e; rw [if_pos (by simp), if_pos rfl]
  · rw [if_neg (by simp; omega), if_neg e]

/-! ### The law -/
theorem sum_eq (F : Nat) (A : List Int) (i : Nat) (hi : i ≤ A.length) (hF : 200 ≤ F) (hA : A.length ≤ 64) (hb : ∀ j, j < A.length → 0 ≤ nx 0 A j ∧ nx 0 A j ≤ 1000000000) : iter (F5_l0 F (A.take i)) F (0, 0) = some (sm i (nx 0 A)) := by
  have hl : (A.take i).length = i := by rw [List.length_take]; omega
  refine iter_count (step := F5_l0 F (A.take i)) (F := F) (fun k => (sm k (nx 0 A), (k : Int))) i (fun k hk => ?_) ?_ (by omega)
  · unfold F5_l0
    simp only [hl]
    have h1 := sm_bound (f := nx 0 A) (B := 1000000000) (k := k) (fun q hq => hb q (by omega))
    have h2 := hb k (by omega)
    rw [if_pos (decide_eq_true (by omega)), nx_get (d := 0) (by omega), Option.bind_some, show nx 0 (A.take i) k = nx 0 A k from by unfold nx; rw [List.getElem?_take_of_lt hk], w64 (by omega) (by omega), wsuc (by omega)]
    rfl
  · unfold F5_l0
    simp only [hl]
    rw [if_neg (by simp)]
theorem walk_eq (F : Nat) {n : Nat} {T A : List Int} (h : Fen n T A) (hn : n ≤ 64) (hF : 200 ≤ F) (y : Int) (hy : 0 ≤ y) (hy2 : y ≤ 9223372036854775807) : ∃ a : Nat, iter (F5_l1 F n A) F (0, y) = some (a : Int) ∧ IsAt n A y a := by
  obtain ⟨r, h1, h2⟩ := iter_inv (step := F5_l1 F n A) (I := fun s => ∃ a : Nat, a ≤ n ∧ sm a (nx 0 A) ≤ y ∧ s = ((a : Int), y - sm a (nx 0 A))) (μ := fun s => n - s.1.toNat) (Q := fun r => ∃ a : Nat, r = (a : Int) ∧ IsAt n A y a) (by
    rintro s ⟨a, ha, hs, rfl⟩
    unfold F5_l1
    simp only
    have hA := h.la
    by_cases hlt : a < n
    · have g1 := h.sm_bd hn (k := a) ha
      have g2 := h.bd a hlt
      rw [if_pos (decide_eq_true (by omega)), nx_get (d := 0) (by omega), Option.bind_some, Option.bind_some]
      by_cases hge : y - sm a (nx 0 A) ≥ nx 0 A a
      · left
        rw [if_pos (decide_eq_true hge), Option.bind_some, wsuc (by omega), w64 (by omega) (by omega)]
        refine ⟨_, rfl, ⟨a + 1, by omega, by rw [sm_succ]; omega, ?_⟩, by simp only [Int.toNat_natCast]; omega⟩
        rw [sm_succ]; congr 1; omega
      · right
        rw [if_neg (by simpa using hge)]
        exact ⟨_, rfl, a, rfl, ha, hs, fun _ => by rw [sm_succ]; omega⟩
    · right
      rw [if_neg (by rw [decide_eq_true_eq]; omega), Option.bind_some, if_neg (by decide)]
      exact ⟨_, rfl, a, rfl, ha, hs, fun h => (hlt h).elim⟩) F (0, y) ⟨0, by omega, hy, by simp [sm]⟩ (by simp only; omega)
  obtain ⟨a, rfl, h3⟩ := h2
  exact ⟨a, h1, h3⟩

theorem round_eq (F : Nat) {n : Nat} {T A : List Int} (h : Fen n T A) (hn : n ≤ 64) (hF : 200 ≤ F) (t1 : List (Int × Int)) (ht : t1.length ≤ maxLen) (q : Nat) (hq : q < t1.length) (hy2 : (nx (0, 0) t1 q).2 ≤ 9223372036854775807) :
    ∃ T' A', F5_l2 F n t1 ((q : Int), T, A) = some (.more (((q + 1 : Nat) : Int), T', A')) ∧ Fen n T' A' := by
  rcases hxy : nx (0, 0) t1 q with ⟨i, y⟩
  rw [hxy] at hy2
  simp only at hy2
  have hlen : q < 9223372036854775807 := by have : maxLen ≤ 9223372036854775807 := by decide
                                            omega
  unfold F5_l2
  simp only
  rw [if_pos (decide_eq_true (by omega)), nx_get (d := (0, 0)) hq, Option.bind_some, hxy]
  simp only
  obtain ⟨T', a1, a2, a3⟩ := add_eq h hn F hF i y
  have hA := h.la
  -- what is wanted
  have hw : ((if ((((decide (i < 0)) || (decide (i ≥ (n : Int)))) || (decide (y < (-1000000000)))) || (decide (y > 1000000000))) then
      (some 1)
      else
      (at? A i).bind fun x51 =>
      if (decide ((wrapA .i64 (x51 + y)) < 0)) then
      (some 3)
      else
      (at? A i).bind fun x54 =>
      if (decide ((wrapA .i64 (x54 + y)) > 1000000000)) then
      (some 2)
      else
      some 0) : Option Int) = some (wantOf n A i y) := by
    unfold wantOf
    by_cases h0 : i < 0 ∨ i ≥ n ∨ y < -1000000000 ∨ y > 1000000000
    · rw [if_pos h0, if_pos (by simp only [Bool.or_eq_true, decide_eq_true_eq]; omega)]
    · rw [if_neg h0, if_neg (by simp only [Bool.or_eq_true, decide_eq_true_eq]; omega)]
      obtain ⟨j, rfl⟩ : ∃ j : Nat, i = j := ⟨i.toNat, by omega⟩
      have hb := h.bd j (by omega)
      rw [nx_get (d := 0) (by omega), Option.bind_some, w64 (by omega) (by omega), Int.toNat_natCast]
      by_cases h1 : nx 0 A j + y < 0
      · rw [if_pos (decide_eq_true h1), if_pos h1]
      rw [if_neg (by simpa using h1), if_neg h1, Option.bind_some, w64 (by omega) (by omega)]
      by_cases h2 : nx 0 A j + y > 1000000000
      · rw [if_pos (decide_eq_true h2), if_pos h2]
      · rw [if_neg (by rw [decide_eq_true_eq]; exact h2), if_neg h2]
  rw [hw, Option.bind_some, a1, Option.bind_some]
  simp only
  rw [if_neg (by simp)]
  -- the list, turned
  obtain ⟨A', e1, e2⟩ : ∃ A', ((if (wantOf n A i y == 0) then
      ((at? A i).bind fun x72 =>
      (ck A i).bind fun u74 =>
      some ((A.set ((Int.toNat i)) ((wrapA .i64 (x72 + y))))))
      else
      some A) : Option (List Int)) = some A' ∧ Fen n T' A' := by
    by_cases h0 : wantOf n A i y = 0
    · refine ⟨_, ?_, a3 h0⟩
      rw [if_pos (by simpa using h0)]
      unfold wantOf at h0
      have hr : ¬ (i < 0 ∨ i ≥ n ∨ y < -1000000000 ∨ y > 1000000000) := fun hc => by rw [if_pos hc] at h0; cases h0
      obtain ⟨j, rfl⟩ : ∃ j : Nat, i = j := ⟨i.toNat, by omega⟩
      have hb := h.bd j (by omega)
      rw [nx_get (d := 0) (by omega), Option.bind_some, ck_ok (by omega), Option.bind_some, w64 (by omega) (by omega), Int.toNat_natCast]
    · refine ⟨A, ?_, by rw [a2 h0]; exact h⟩
      rw [if_neg (by simpa using h0)]
  rw [e1, Option.bind_some, Ahead_eq e2 hn F hF i, Option.bind_some]
  have hA' := e2.la
  refine ⟨T', A', ?_, e2⟩
  by_cases hy : y < 0
  · have hf : F25 F T' y = some (0, 1) := by unfold F25; rw [if_pos (decide_eq_true hy)]
    rw [hf, Option.bind_some]
    by_cases hi : i < 0 ∨ i > n
    · rw [if_pos hi]
      simp only
      rw [if_pos (by simp only [Bool.or_eq_true, decide_eq_true_eq]; exact hi), if_neg (by decide)]
      simp only [Option.bind_some]
      rw [if_pos (decide_eq_true hy), if_neg (by decide), wsuc hlen]
    · rw [if_neg hi]
      obtain ⟨j, rfl⟩ : ∃ j : Nat, i = j := ⟨i.toNat, by omega⟩
      simp only
      rw [if_neg (by simp only [Bool.or_eq_true, decide_eq_true_eq]; exact hi), sub?_to (by omega), Option.bind_some, sum_eq F A' j (by omega) hF (by omega) (by rw [hA']; exact e2.bd), Option.bind_some, Int.toNat_natCast, if_neg (by simp)]
      simp only [Option.bind_some]
      rw [if_pos (decide_eq_true hy), if_neg (by decide), wsuc hlen]
  · obtain ⟨a, f1, f2⟩ := Find_eq e2 hn F hF y (by omega) hy2
    obtain ⟨b, g1, g2⟩ := walk_eq F e2 hn hF y (by omega) hy2
    have hab := IsAt.uniq e2 f2 g2
    subst hab
    rw [f1, Option.bind_some]
    have tail : (if (decide (y < 0)) then
        (if (((if a = n then ((0 : Int), (4 : Int)) else ((a : Int), 0)).2 != 1) || ((if a = n then ((0 : Int), (4 : Int)) else ((a : Int), 0)).1 != 0)) then
        (some (Stp.stop ((Sum.inr false : Unit ⊕ Bool))))
        else
        some (.more (((wrapA .i64 ((q : Int) + 1)), T', A'))))
        else
        (iter (F5_l1 F n A') F (0, y)).bind fun b137 =>
        if (((b137 == (n : Int)) && (((if a = n then ((0 : Int), (4 : Int)) else ((a : Int), 0)).2 != 4) || ((if a = n then ((0 : Int), (4 : Int)) else ((a : Int), 0)).1 != 0))) || ((decide (b137 < (n : Int))) && (((if a = n then ((0 : Int), (4 : Int)) else ((a : Int), 0)).2 != 0) || ((if a = n then ((0 : Int), (4 : Int)) else ((a : Int), 0)).1 != b137)))) then
        (some (.stop ((.inr false))))
        else
        some (.more (((wrapA .i64 ((q : Int) + 1)), T', A')))) = some (.more (((q + 1 : Nat) : Int), T', A')) := by
      rw [if_neg (by rw [decide_eq_true_eq]; exact hy), g1, Option.bind_some, wsuc hlen]
      by_cases e : a = n
      · subst e; rw [if_pos rfl, if_neg (by simp)]
      · have := f2.1
        rw [if_neg e, if_neg (by simp; omega)]
    by_cases hi : i < 0 ∨ i > n
    · rw [if_pos hi]
      simp only
      rw [if_pos (by simp only [Bool.or_eq_true, decide_eq_true_eq]; exact hi), if_neg (by decide)]
      simp only [Option.bind_some]
      exact tail
    · rw [if_neg hi]
      obtain ⟨j, rfl⟩ : ∃ j : Nat, i = j := ⟨i.toNat, by omega⟩
      simp only
      rw [if_neg (by simp only [Bool.or_eq_true, decide_eq_true_eq]; exact hi), sub?_to (by omega), Option.bind_some, sum_eq F A' j (by omega) hF (by omega) (by rw [hA']; exact e2.bd), Option.bind_some, Int.toNat_natCast, if_neg (by simp)]
      simp only [Option.bind_some]
      exact tail

theorem PsumsPlay.holds (t0 : Int) (t1 : List ((Int) × (Int))) (h0 : inR .i64 t0) (h1 : (t1.length ≤ maxLen ∧ ∀ a ∈ t1, (inR .i64 a.1 ∧ inR .i64 a.2))) : ∃ F, F5 F t0 t1 = some true := by
  refine ⟨t1.length + 200, ?_⟩
  have h0 := inR64 h0
  unfold F5 F22
  by_cases hb : t0 < 1 ∨ t0 > 64
  · rw [if_pos (by simpa using hb), Option.bind_some]
    simp only
    rw [if_pos (by simpa using hb)]
    rfl
  · obtain ⟨n, rfl⟩ : ∃ n : Nat, t0 = n := ⟨t0.toNat, by omega⟩
    rw [if_neg (by simpa using hb), wsuc (by omega), mk?_ok (by omega)]
    simp only [Option.bind_some]
    rw [if_neg (by simpa using hb), if_neg (by decide), mk?_ok (by omega), Option.bind_some]
    have hz : ∀ (m k : Nat), nx 0 (List.replicate m (0 : Int)) k = 0 := fun m k => by
      unfold nx; rw [List.getElem?_replicate]; split <;> rfl
    have hsz : ∀ k, sm k (nx 0 (List.replicate n (0 : Int))) = 0 := fun k => by rw [sm_congr (g := fun _ => 0) (fun i _ => hz n i), sm_zero]
    obtain ⟨r, g1, g2⟩ := iter_inv (step := F5_l2 (t1.length + 200) n t1) (I := fun s => ∃ (q : Nat) (T A : List Int), s = ((q : Int), T, A) ∧ q ≤ t1.length ∧ Fen n T A) (μ := fun s => t1.length - s.1.toNat) (Q := fun r => r = .inl ()) (by
      rintro s ⟨q, T, A, rfl, hq, hf⟩
      by_cases hlt : q < t1.length
      · left
        have hm := h1.2 _ (nx_mem (d := (0, 0)) hlt)
        obtain ⟨T', A', r1, r2⟩ := round_eq (t1.length + 200) hf (by omega) (by omega) t1 h1.1 q hlt (inR64 hm.2).2
        exact ⟨_, r1, ⟨q + 1, T', A', rfl, by omega, r2⟩, by simp only [Int.toNat_natCast]; omega⟩
      · right
        unfold F5_l2
        simp only
        rw [if_neg (by rw [decide_eq_true_eq]; omega)]
        exact ⟨_, rfl, rfl⟩) (t1.length + 200) (0, List.replicate (n + 1) 0, List.replicate n 0)
      ⟨0, _, _, rfl, by omega, by simp, by simp, fun j hj => by rw [hz]; omega, fun k _ _ => by rw [hz, hsz, hsz]; rfl⟩ (by simp only; omega)
    subst g2
    rw [g1]
    rfl
end Go.Proofs.Ytkfmedmanhcdeaa

/- What the functional texts of package rises answer. -/
import Derived.Test.YtkfmedmanhcdeaaPermLib
import Derived.Test.YtkfmedmanhcdeaaMono
import Derived.Test.YtkfmedmanhcdeaaPrisesB
set_option linter.unusedVariables false
set_option linter.unusedSimpArgs false
namespace Go.Proofs.Ytkfmedmanhcdeaa
open Go.Am

theorem rises_in (n k : Nat) (hn : n < 16) (hk : k < 16) : ∃ x, F51 100 n k = some (x, 0) ∧ F55 100 n k = some x := by
  have h : chkR n k = true := by
    by_cases h1 : n < 13
    · exact (List.all_eq_true.1 ((List.all_eq_true.1 chkR_a) n (by simpa using h1))) k (by simpa using hk)
    · have : n = 13 ∨ n = 14 ∨ n = 15 := by omega
      rcases this with rfl | rfl | rfl
      · exact (List.all_eq_true.1 chkR_b) k (by simpa using hk)
      · exact (List.all_eq_true.1 chkR_c) k (by simpa using hk)
      · exact (List.all_eq_true.1 chkR_d) k (by simpa using hk)
  unfold chkR at h
  split at h
  · rename_i r x h1 h2
    simp only [Bool.and_eq_true, beq_iff_eq] at h
    obtain ⟨a, b⟩ := r
    simp only at h
    rw [h.1, h.2] at h1
    exact ⟨x, h1, h2⟩
  · cases h

/-- A number of a list, 0 beyond it. -/
def nth (p : List Int) (i : Nat) : Int := (p[i]?).getD 0
theorem at?_nth {p : List Int} {i : Nat} (h : i < p.length) : at? p (i : Int) = some (nth p i) := by
  rw [at?_in h]; simp [nth, h]
theorem at?_nthp {p : List Int} {i : Nat} (h : i < p.length) (h0 : 0 < i) : at? p ((i : Int) - 1) = some (nth p (i - 1)) := by
  rw [show (i : Int) - 1 = ((i - 1 : Nat) : Int) from by omega]; exact at?_nth (by omega)

/-- Falls among the first i places, and the sum of their places. -/
def fallsC (p : List Int) : Nat → Nat
  | 0 => 0
  | i + 1 => fallsC p i + (if 0 < i ∧ nth p i < nth p (i - 1) then 1 else 0)
def fallsS (p : List Int) : Nat → Nat
  | 0 => 0
  | i + 1 => fallsS p i + (if 0 < i ∧ nth p i < nth p (i - 1) then i else 0)
theorem fallsC_le (p : List Int) : ∀ i, fallsC p i ≤ i
  | 0 => Nat.le_refl _
  | i + 1 => by have := fallsC_le p i; simp only [fallsC]; split <;> omega
theorem fallsS_le (p : List Int) : ∀ i, i ≤ 10 → fallsS p i ≤ 10 * i
  | 0, _ => Nat.le_refl _
  | i + 1, h => by have := fallsS_le p i (by omega); simp only [fallsS]; split <;> omega
/-- How many ahead of place i, of the first k, are greater. -/
def gt (p : List Int) (x : Int) : Nat → Nat
  | 0 => 0
  | k + 1 => gt p x k + (if nth p k > x then 1 else 0)
def crossC (p : List Int) : Nat → Nat
  | 0 => 0
  | i + 1 => crossC p i + gt p (nth p i) i
theorem gt_le (p : List Int) (x : Int) : ∀ i, gt p x i ≤ i
  | 0 => Nat.le_refl _
  | i + 1 => by have := gt_le p x i; simp only [gt]; split <;> omega
theorem crossC_le (p : List Int) : ∀ i, i ≤ 10 → crossC p i ≤ 10 * i
  | 0, _ => Nat.le_refl _
  | i + 1, h => by have := crossC_le p i (by omega); have := gt_le p (nth p i) i; simp only [crossC]; omega

theorem permE_len {p : List Int} (h : permE p = 0) : p.length ≤ 10 := by
  unfold permE at h
  split at h
  · cases h
  · omega

theorem falls_eq (F : Nat) (p : List Int) (hF : 12 ≤ F) : ∃ r, F52 F p = some r ∧ r.2 = permE p ∧ (permE p ≠ 0 → r.1 = 0) ∧ (permE p = 0 → r.1 = ((fallsC p p.length : Nat) : Int)) := by
  unfold F52
  rw [check_eq F p hF]
  simp only [Option.bind_some]
  by_cases h : permE p = 0
  · rw [h, if_neg (by simp)]
    have hl := permE_len h
    by_cases h0 : p.length = 0
    · obtain ⟨G, rfl⟩ : ∃ G, F = G + 1 := ⟨F - 1, by omega⟩
      have : F52_l0 (G + 1) p (0, 1) = some (.stop 0) := by
        unfold F52_l0; rw [if_neg (by simp [h0])]
      rw [iter_stop this]
      exact ⟨_, rfl, rfl, fun h => (h rfl).elim, fun _ => by rw [h0]; rfl⟩
    have := iter_run (step := F52_l0 F p) (F := F) (fun i => (((fallsC p i : Nat) : Int), (i : Int))) (b := ((fallsC p p.length : Nat) : Int)) (p.length - 1) 1 ?_ ?_ (by omega)
    · rw [show ((0 : Int), (1 : Int)) = ((((fallsC p 1 : Nat) : Int)), ((1 : Nat) : Int)) from rfl, this]
      exact ⟨_, rfl, rfl, fun h => (h rfl).elim, fun _ => rfl⟩
    · intro i hi1 hi
      have hi : i < p.length := by omega
      unfold F52_l0
      simp only
      have := fallsC_le p i
      rw [if_pos (decide_eq_true (by omega)), at?_nth hi, w64 (by omega) (by omega), at?_nthp hi (by omega)]
      simp only [Option.bind_some, fallsC]
      by_cases e : nth p i < nth p (i - 1)
      · rw [if_pos (by simpa using e), if_pos ⟨by omega, e⟩, w64 (by omega) (by omega), w64 (by omega) (by omega)]; rfl
      · rw [if_neg (by simpa using e), if_neg (by omega), w64 (by omega) (by omega)]; rfl
    · rw [show 1 + (p.length - 1) = p.length from by omega]
      unfold F52_l0
      simp only
      rw [if_neg (by rw [decide_eq_true_eq]; omega)]
  · rw [if_pos (by simpa using h)]
    exact ⟨_, rfl, rfl, fun _ => rfl, fun e => (h e).elim⟩
theorem sum_eq (F : Nat) (p : List Int) (hF : 12 ≤ F) : ∃ r, F54 F p = some r ∧ r.2 = permE p ∧ (permE p ≠ 0 → r.1 = 0) ∧ (permE p = 0 → r.1 = ((fallsS p p.length : Nat) : Int)) := by
  unfold F54
  rw [check_eq F p hF]
  simp only [Option.bind_some]
  by_cases h : permE p = 0
  · rw [h, if_neg (by simp)]
    have hl := permE_len h
    by_cases h0 : p.length = 0
    · obtain ⟨G, rfl⟩ : ∃ G, F = G + 1 := ⟨F - 1, by omega⟩
      have : F54_l0 (G + 1) p (0, 1) = some (.stop 0) := by
        unfold F54_l0; rw [if_neg (by simp [h0])]
      rw [iter_stop this]
      exact ⟨_, rfl, rfl, fun h => (h rfl).elim, fun _ => by rw [h0]; rfl⟩
    have := iter_run (step := F54_l0 F p) (F := F) (fun i => (((fallsS p i : Nat) : Int), (i : Int))) (b := ((fallsS p p.length : Nat) : Int)) (p.length - 1) 1 ?_ ?_ (by omega)
    · rw [show ((0 : Int), (1 : Int)) = ((((fallsS p 1 : Nat) : Int)), ((1 : Nat) : Int)) from rfl, this]
      exact ⟨_, rfl, rfl, fun h => (h rfl).elim, fun _ => rfl⟩
    · intro i hi1 hi
      have hi : i < p.length := by omega
      unfold F54_l0
      simp only
      have := fallsS_le p i (by omega)
      rw [if_pos (decide_eq_true (by omega)), at?_nth hi, w64 (by omega) (by omega), at?_nthp hi (by omega)]
      simp only [Option.bind_some, fallsS]
      by_cases e : nth p i < nth p (i - 1)
      · rw [if_pos (by simpa using e), if_pos ⟨by omega, e⟩, w64 (by omega) (by omega), w64 (by omega) (by omega)]; rfl
      · rw [if_neg (by simpa using e), if_neg (by omega), w64 (by omega) (by omega)]; rfl
    · rw [show 1 + (p.length - 1) = p.length from by omega]
      unfold F54_l0
      simp only
      rw [if_neg (by rw [decide_eq_true_eq]; omega)]
  · rw [if_pos (by simpa using h)]
    exact ⟨_, rfl, rfl, fun _ => rfl, fun e => (h e).elim⟩

theorem sub_nth {p : List Int} {i k : Nat} (hk : k < i) (hi : i ≤ p.length) : nth ((p.take i).drop 0) k = nth p k := by
  simp [nth, List.getElem?_take_of_lt hk]
theorem crossed_eq (F : Nat) (p : List Int) (hF : 12 ≤ F) : ∃ r, F53 F p = some r ∧ r.2 = permE p ∧ (permE p ≠ 0 → r.1 = 0) ∧ (permE p = 0 → r.1 = ((crossC p p.length : Nat) : Int)) := by
  unfold F53
  rw [check_eq F p hF]
  simp only [Option.bind_some]
  by_cases h : permE p = 0
  · rw [h, if_neg (by simp)]
    have hl := permE_len h
    have := iter_count (step := F53_l1 F p) (F := F) (fun i => (((crossC p i : Nat) : Int), (i : Int))) (b := ((crossC p p.length : Nat) : Int)) p.length ?_ ?_ (by omega)
    · rw [show ((0 : Int), (0 : Int)) = ((((crossC p 0 : Nat) : Int)), ((0 : Nat) : Int)) from rfl, this]
      exact ⟨_, rfl, rfl, fun h => (h rfl).elim, fun _ => rfl⟩
    · intro i hi
      unfold F53_l1
      simp only
      have hc := crossC_le p i (by omega)
      have hsub : sub? p 0 (i : Int) = some ((p.take i).drop 0) := by
        unfold sub?; rw [if_pos (by omega)]; simp
      rw [if_pos (decide_eq_true (by omega)), at?_nth hi, hsub]
      simp only [Option.bind_some]
      have hin := iter_count (step := F53_l0 F (nth p i) ((p.take i).drop 0)) (F := F) (fun k => (((crossC p i + gt p (nth p i) k : Nat) : Int), (k : Int))) (b := ((crossC p i + gt p (nth p i) i : Nat) : Int)) i ?_ ?_ (by omega)
      · have hin' : iter (F53_l0 F (nth p i) ((p.take i).drop 0)) F (((crossC p i : Nat) : Int), 0) = some ((crossC p i + gt p (nth p i) i : Nat) : Int) := hin
        rw [hin']
        simp only [Option.bind_some, crossC]
        rw [w64 (by omega) (by omega)]; rfl
      · intro k hk
        unfold F53_l0
        simp only
        have hg := gt_le p (nth p i) k
        rw [if_pos (decide_eq_true (by simp; omega)), at?_nth (by simp; omega), sub_nth hk (by omega)]
        simp only [Option.bind_some, gt]
        by_cases e : nth p k > nth p i
        · rw [if_pos (by simpa using e), if_pos e, w64 (by omega) (by omega), w64 (by omega) (by omega)]; rfl
        · rw [if_neg (by simpa using e), if_neg e, w64 (by omega) (by omega)]; rfl
      · unfold F53_l0
        simp only
        rw [if_neg (by rw [decide_eq_true_eq]; simp; omega)]
    · unfold F53_l1
      simp only
      rw [if_neg (by rw [decide_eq_true_eq]; omega)]
  · rw [if_pos (by simpa using h)]
    exact ⟨_, rfl, rfl, fun _ => rfl, fun e => (h e).elim⟩
theorem refCrossed_eq (F : Nat) (p : List Int) (hF : 12 ≤ F) (hl : p.length ≤ 10) : F56 F p = some ((crossC p p.length : Nat) : Int) := by
  unfold F56
  have := iter_count (step := F56_l1 F p) (F := F) (fun i => (((crossC p i : Nat) : Int), (i : Int))) (b := ((crossC p p.length : Nat) : Int)) p.length ?_ ?_ (by omega)
  · rw [show ((0 : Int), (0 : Int)) = ((((crossC p 0 : Nat) : Int)), ((0 : Nat) : Int)) from rfl, this]
    rfl
  · intro i hi
    unfold F56_l1
    simp only
    have hc := crossC_le p i (by omega)
    rw [if_pos (decide_eq_true (by omega))]
    have hin := iter_count (step := F56_l0 F p (((crossC p i : Nat) : Int), (i : Int))) (F := F) (fun k => (((crossC p i + gt p (nth p i) k : Nat) : Int), (k : Int))) (b := ((crossC p i + gt p (nth p i) i : Nat) : Int)) i ?_ ?_ (by omega)
    · have hin' : iter (F56_l0 F p (((crossC p i : Nat) : Int), (i : Int))) F (((crossC p i : Nat) : Int), 0) = some ((crossC p i + gt p (nth p i) i : Nat) : Int) := hin
      rw [hin']
      simp only [Option.bind_some, crossC]
      rw [w64 (by omega) (by omega)]; rfl
    · intro k hk
      unfold F56_l0
      simp only
      have hg := gt_le p (nth p i) k
      rw [if_pos (decide_eq_true (by omega)), at?_nth (by omega), at?_nth hi]
      simp only [Option.bind_some, gt]
      by_cases e : nth p k > nth p i
      · rw [if_pos (by simpa using e), if_pos e, w64 (by omega) (by omega), w64 (by omega) (by omega)]; rfl
      · rw [if_neg (by simpa using e), if_neg e, w64 (by omega) (by omega)]; rfl
    · unfold F56_l0
      simp only
      rw [if_neg (by rw [decide_eq_true_eq]; omega)]
  · unfold F56_l1
    simp only
    rw [if_neg (by rw [decide_eq_true_eq]; omega)]
theorem risesLoop_eq (F : Nat) (p : List Int) (hF : 12 ≤ F) (hl : p.length ≤ 10) : iter (F9_l0 F p) F (0, 0, 0) = some (((fallsC p p.length : Nat) : Int), ((fallsS p p.length : Nat) : Int)) := by
  refine iter_count (step := F9_l0 F p) (fun i => (((fallsC p i : Nat) : Int), ((fallsS p i : Nat) : Int), (i : Int))) p.length ?_ ?_ (by omega)
  · intro i hi
    unfold F9_l0
    simp only
    have h1 := fallsC_le p i
    have h2 := fallsS_le p i (by omega)
    rw [if_pos (decide_eq_true (by omega))]
    by_cases h0 : 0 < i
    · rw [if_pos (decide_eq_true (by omega)), w64 (by omega) (by omega), at?_nthp hi h0, at?_nth hi]
      simp only [Option.bind_some, fallsC, fallsS]
      by_cases e : nth p i < nth p (i - 1)
      · rw [if_pos (by simpa using e), if_pos ⟨h0, e⟩, if_pos ⟨h0, e⟩, w64 (by omega) (by omega), w64 (by omega) (by omega), w64 (by omega) (by omega)]; rfl
      · rw [if_neg (by simpa using e), if_neg (by omega), if_neg (by omega), w64 (by omega) (by omega)]; rfl
    · rw [if_neg (by rw [decide_eq_true_eq]; omega)]
      simp only [Option.bind_some, fallsC, fallsS]
      rw [if_neg (by decide), if_neg (by omega), if_neg (by omega), w64 (by omega) (by omega)]; rfl
  · unfold F9_l0
    simp only
    rw [if_neg (by rw [decide_eq_true_eq]; omega)]

theorem PrisesSay.holds (t0 : Int) (t1 : Int) (t2 : List (Int)) (h0 : inR .i64 t0) (h1 : inR .i64 t1) (h2 : (t2.length ≤ maxLen ∧ ∀ a ∈ t2, inR .i64 a)) : ∃ F, F9 F t0 t1 t2 = some true := by
  refine ⟨100, ?_⟩
  obtain ⟨r5, e5, a1, a2, a3⟩ := falls_eq 100 t2 (by decide)
  obtain ⟨r9, e9, b1, b2, b3⟩ := crossed_eq 100 t2 (by decide)
  obtain ⟨r13, e13, c1, c2, c3⟩ := sum_eq 100 t2 (by decide)
  have e41 := permErr_eq 100 t2 (by decide)
  obtain ⟨r1, e1, hmid⟩ : ∃ r1, F51 100 t0 t1 = some r1 ∧ (if ((((decide (t0 < 0)) || (decide (t0 > 15))) || (decide (t1 < 0))) || (decide (t1 > 15))) = true then
      (if ((r1.2 != 1) || (r1.1 != 0)) = true then some (Sum.inr false) else some (Sum.inl ()))
      else ((if (r1.2 != 0) = true then some true else ((F55 100 t0 t1).bind fun r23 => some (r1.1 != r23))).bind fun y28 => if y28 = true then some (Sum.inr false) else some (Sum.inl ()))) = some (Sum.inl () : Unit ⊕ Bool) := by
    by_cases hn : ((t0 < 0 ∨ t0 > 15) ∨ t1 < 0) ∨ t1 > 15
    · refine ⟨(0, 1), ?_, ?_⟩
      · unfold F51; rw [if_pos (by simpa using hn)]
      · rw [if_pos (by simpa using hn)]; rfl
    · obtain ⟨n, rfl⟩ : ∃ n : Nat, t0 = n := ⟨t0.toNat, by omega⟩
      obtain ⟨k, rfl⟩ : ∃ k : Nat, t1 = k := ⟨t1.toNat, by omega⟩
      obtain ⟨x, d1, d2⟩ := rises_in n k (by omega) (by omega)
      refine ⟨_, d1, ?_⟩
      rw [if_neg (by simpa using hn), d2]
      simp
  unfold F9
  rw [e1, e5, e9, e13]
  simp only [Option.bind_some]
  rw [hmid]
  simp only [Option.bind_some, e41]
  by_cases h : permE t2 = 0
  · have hl := permE_len h
    rw [if_neg (by simp [h]), risesLoop_eq 100 t2 (by decide) hl]
    simp only [Option.bind_some]
    rw [refCrossed_eq 100 t2 (by decide) hl, a1, b1, c1, a3 h, b3 h, c3 h, h]
    simp
  · rw [if_pos (by simpa using h), a1, b1, c1, a2 h, b2 h, c2 h]
    simp
end Go.Proofs.Ytkfmedmanhcdeaa

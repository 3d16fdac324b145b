/- The law of package pool, in plain words. -/
import Derived.Test.YtdkmepeolmdccaaSortLib
import Derived.Test.YtdkmepeolmdccaaEqualLib
import Derived.Test.YtdkmepeolmdccaaMono
set_option linter.unusedVariables false
set_option linter.unusedSimpArgs false
namespace Go.Proofs.Ytdkmepeolmdccaa
open Go.Am

/-! ### Ways -/
def chkW (n k : Nat) : Bool := match F103 60 n k, F104 60 (maxI n k) k, F65 60 n with
  | some r, some c, some f => r.2 == 0 && (if n < k then r.1 == f else wrapA .i64 (r.1 * c) == f)
  | _, _, _ => false
theorem chkW_a : ((List.range 11).all fun n => (List.range 12).all fun k => chkW n (k + 1)) = true := by kernel_rfl
theorem chkW_ok (n k : Nat) (hn : n < 11) (h1 : 1 ≤ k) (hk : k < 13) : ∃ r c f, F103 60 n k = some (r, 0) ∧ F104 60 (maxI n k) k = some c ∧ F65 60 n = some f ∧ (if n < k then r = f else wrapA .i64 (r * c) = f) := by
  have ha := chkW_a
  simp only [List.all_eq_true, List.mem_range] at ha
  have h := ha n hn (k - 1) (by omega)
  rw [show k - 1 + 1 = k from by omega] at h
  unfold chkW at h
  split at h
  · rename_i r c f e1 e2 e3
    simp only [Bool.and_eq_true, beq_iff_eq] at h
    obtain ⟨r1, r2⟩ := r
    simp only at h
    refine ⟨r1, c, f, by rw [e1, h.1], e2, e3, ?_⟩
    have h2 := h.2
    split at h2 <;> rename_i hq
    · rw [if_pos hq]; simpa using h2
    · rw [if_neg hq]; simpa using h2
  · cases h

/-! ### Check -/
theorem check_same (F : Nat) (k : Int) (t : List Int) : F106 F k t = F105 F k t := rfl
theorem err_eq (F : Nat) (k : Int) (t : List Int) (hF : 40 ≤ F) : ∃ e, F105 F k t = some e ∧ (e = 0 → 1 ≤ k ∧ k ≤ 12 ∧ t.length ≤ 30 ∧ ∀ i, i < t.length → 0 ≤ nx 0 t i ∧ nx 0 t i ≤ i) := by
  unfold F105
  by_cases h1 : k < 1 ∨ k > 12
  · rw [if_pos (by simpa using h1)]
    exact ⟨1, rfl, fun h => by cases h⟩
  rw [if_neg (by simpa using h1)]
  by_cases h2 : (t.length : Int) > 30
  · rw [if_pos (decide_eq_true h2)]
    exact ⟨2, rfl, fun h => by cases h⟩
  rw [if_neg (mt of_decide_eq_true h2)]
  rcases seek_loop (step := F105_l0 F t) (F := F) t.length (fun i => (decide (nx 0 t i < 0)) || (decide (nx 0 t i > i))) (fun _ => 3) (fun i hi => by
    unfold F105_l0
    rw [if_pos (decide_eq_true (by omega)), nx_get (d := 0) hi, Option.bind_some, wsuc (by omega)]
    exact ite_some _ _) (by unfold F105_l0; rw [if_neg (by simp)]) (by omega) with ⟨g1, g2⟩ | ⟨i, g1, g2, g3, g4⟩
  · rw [g2]
    refine ⟨0, rfl, fun _ => ⟨by omega, by omega, by omega, fun i hi => ?_⟩⟩
    have := g1 i hi
    simp only [Bool.or_eq_false_iff, decide_eq_false_iff_not] at this
    omega
  · rw [g4]
    exact ⟨3, rfl, fun h => by cases h⟩

/-! ### Run -/
/-- Who stands at j when those below i have come. -/
def la (t : List Int) (k j : Nat) : Nat → Int
  | 0 => j
  | i + 1 => if k ≤ i ∧ nx 0 t i = j then i else la t k j i
theorem la_small (t : List Int) (k j : Nat) : ∀ i, i ≤ k → la t k j i = j
  | 0, _ => rfl
  | i + 1, h => by unfold la; rw [if_neg (by omega)]; exact la_small t k j i (by omega)
theorem la_big (t : List Int) (k j i : Nat) (h : k ≤ i) : la t k j (i + 1) = if nx 0 t i = j then (i : Int) else la t k j i := by
  rw [la]
  by_cases e : nx 0 t i = j
  · rw [if_pos ⟨h, e⟩, if_pos e]
  · rw [if_neg (fun q => e q.2), if_neg e]
def poolOf (t : List Int) (k : Nat) : List Int := tb (min t.length k) fun j => la t k j t.length
theorem run_eq (F k : Nat) (t : List Int) (hF : 40 ≤ F) (h : F105 F k t = some 0) (hk : 1 ≤ k ∧ k ≤ 12) (ht : t.length ≤ 30) (hv : ∀ i, i < t.length → 0 ≤ nx 0 t i ∧ nx 0 t i ≤ i) : F101 F k t = some (poolOf t k, 0) := by
  unfold F101
  rw [check_same, h, Option.bind_some, if_neg (by decide)]
  have := iter_count (step := F101_l0 F k t) (F := F) (fun i => (tb (min i k) fun j => la t k j i, (i : Int))) (b := poolOf t k) t.length ?_ ?_ (by omega)
  · rw [show (([] : List Int), (0 : Int)) = (tb (min 0 k) fun j => la t k j 0, ((0 : Nat) : Int)) from by rw [Nat.zero_min]; rfl, this, Option.bind_some]
  · intro i hi
    obtain ⟨h0, h1⟩ := hv i hi
    unfold F101_l0
    simp only
    rw [if_pos (decide_eq_true (by omega)), nx_get (d := 0) hi, Option.bind_some, wsuc (by omega)]
    by_cases hik : i < k
    · rw [if_pos (decide_eq_true (by omega)), app?_ok (by rw [tb_len]; simp; omega), Option.bind_some]
      congr 3
      rw [Nat.min_eq_left (by omega), Nat.min_eq_left (by omega), tb_succ, la_small t k i (i + 1) (by omega)]
      congr 1
      exact tb_congr fun j hj => by rw [la_small t k j i (by omega), la_small t k j (i + 1) (by omega)]
    · rw [if_neg (by rw [decide_eq_true_eq]; omega)]
      have e1 : min i k = k := by omega
      have e2 : min (i + 1) k = k := by omega
      rw [e1, e2]
      by_cases hx : nx 0 t i < k
      · obtain ⟨q, hq⟩ : ∃ q : Nat, nx 0 t i = q := ⟨(nx 0 t i).toNat, by omega⟩
        rw [if_pos (decide_eq_true hx), hq, tb_ck (by omega), Option.bind_some, Int.toNat_natCast, tb_set]
        congr 3
        refine tb_congr fun j hj => ?_
        rw [la_big t k j i (by omega), hq]
        by_cases e : j = q
        · subst e; simp
        · rw [if_neg e, if_neg (by omega)]
      · rw [if_neg (mt of_decide_eq_true hx)]
        congr 3
        refine tb_congr fun j hj => ?_
        rw [la_big t k j i (by omega), if_neg (by omega)]
  · unfold F101_l0
    simp only
    rw [if_neg (by simp)]
    rfl
theorem poolOf_eq (F k : Nat) (t : List Int) (hF : 40 ≤ F) (hk : 1 ≤ k ∧ k ≤ 12) (ht : t.length ≤ 30) : F107 F k t = some (poolOf t k) := by
  unfold F107
  have hmin : minI (k : Int) (t.length : Int) = ((min t.length k : Nat) : Int) := by unfold minI; split <;> omega
  have := iter_count (step := F107_l1 F k t) (F := F) (fun i => (tb i fun j => la t k j t.length, (i : Int))) (b := poolOf t k) (min t.length k) ?_ ?_ (by omega)
  · rw [show (([] : List Int), (0 : Int)) = (tb 0 fun j => la t k j t.length, ((0 : Nat) : Int)) from rfl, this, Option.bind_some]
  · intro j hj
    unfold F107_l1
    simp only
    have hin : iter (F107_l0 F t (tb j fun j => la t k j t.length, (j : Int))) F ((j : Int), (k : Int)) = some (la t k j t.length) := by
      by_cases hkt : k ≤ t.length
      · have h2 := iter_count (step := F107_l0 F t (tb j fun j => la t k j t.length, (j : Int))) (F := F) (fun i => (la t k j (k + i), ((k + i : Nat) : Int))) (b := la t k j t.length) (t.length - k) ?_ ?_ (by omega)
        · rw [← h2, Nat.add_zero, la_small t k j k (Nat.le_refl _)]
        · intro i hi
          unfold F107_l0
          simp only
          rw [if_pos (decide_eq_true (by omega)), nx_get (d := 0) (by omega), Option.bind_some, wsuc (by omega), ← Nat.add_assoc, la_big t k j (k + i) (by omega)]
          by_cases e : nx 0 t (k + i) = j
          · rw [if_pos (by simpa using e), if_pos e]
          · rw [if_neg (by simpa using e), if_neg e]
        · unfold F107_l0
          simp only
          rw [if_neg (by rw [decide_eq_true_eq]; omega), show k + (t.length - k) = t.length from by omega]
      · obtain ⟨G, rfl⟩ : ∃ q, F = q + 1 := ⟨F - 1, by omega⟩
        rw [la_small t k j t.length (by omega)]
        refine iter_stop ?_
        unfold F107_l0
        simp only
        rw [if_neg (by rw [decide_eq_true_eq]; omega)]
    rw [hmin, if_pos (decide_eq_true (by omega)), hin, Option.bind_some, app?_ok (by rw [tb_len]; simp; omega), Option.bind_some, wsuc (by omega), tb_succ]
  · unfold F107_l1
    simp only
    rw [hmin, if_neg (by simp)]
    rfl

theorem PpoolSays.holds (t0 : Int) (t1 : List (Int)) (t2 : Int) (h0 : inR .i64 t0) (h1 : (t1.length ≤ maxLen ∧ ∀ a ∈ t1, inR .i64 a)) (h2 : inR .i64 t2) : ∃ F, F14 F t0 t1 t2 = some true := by
  refine ⟨60, ?_⟩
  unfold F14
  obtain ⟨e, he, hv⟩ := err_eq 60 t0 t1 (by decide)
  -- what Run answers
  obtain ⟨r1, e1, hr1⟩ : ∃ r1, F101 60 t0 t1 = some r1 ∧ r1.2 = e ∧ r1.1.length ≤ 12 ∧ (e ≠ 0 → r1.1 = []) ∧ (e = 0 → F107 60 t0 t1 = some r1.1) := by
    by_cases hz : e = 0
    · obtain ⟨a, b, c, d⟩ := hv hz
      obtain ⟨k, rfl⟩ : ∃ k : Nat, t0 = k := ⟨t0.toNat, by omega⟩
      subst hz
      refine ⟨_, run_eq 60 k t1 (by decide) he (by omega) c d, rfl, ?_, fun h => absurd rfl h, fun _ => poolOf_eq 60 k t1 (by decide) (by omega) c⟩
      unfold poolOf; rw [tb_len]; omega
    · refine ⟨([], e), ?_, rfl, by simp, fun _ => rfl, fun h => absurd h hz⟩
      unfold F101
      rw [check_same, he, Option.bind_some, if_pos (by simpa using hz)]
  obtain ⟨M, hM, hMl⟩ := sort_ok 60 r1.1 (by decide) hr1.2.1
  have e7 : F102 60 t0 t1 = some (M, r1.2) := by
    unfold F102
    rw [e1, Option.bind_some, hM, Option.bind_some]
  -- Ways
  obtain ⟨r13, e13, hP⟩ : ∃ r13, F103 60 t2 t0 = some r13 ∧ ((if ((((decide (t2 < 0)) || (decide (t2 > 10))) || (decide (t0 < 1))) || (decide (t0 > 12))) then
      (if ((r13.2 != 1) || (r13.1 != 0)) then (some ((.inr false))) else some ((.inl ())))
      else
      (if (r13.2 != 0) then some true else
      ((F104 60 ((maxI t2 t0)) t0).bind fun r23 =>
      (F65 60 t2).bind fun r27 =>
      some (((wrapA .i64 (r13.1 * r23)) != r27) && (decide (t2 ≥ t0))))
      ).bind fun y33 =>
      (if y33 then some true else
      ((if (decide (t2 < t0)) then
      ((F65 60 t2).bind fun r37 =>
      some (r13.1 != r37))
       else some false).bind fun y42 =>
      some y42)
      ).bind fun y47 =>
      if y47 then (some ((.inr false))) else some ((.inl ()))) : Option (Unit ⊕ Bool)) = some (.inl ()) := by
    by_cases ho : t2 < 0 ∨ t2 > 10 ∨ t0 < 1 ∨ t0 > 12
    · refine ⟨(0, 1), ?_, ?_⟩
      · unfold F103
        rw [if_pos (by simp only [Bool.or_eq_true, decide_eq_true_eq]; omega)]
      · rw [if_pos (by simp only [Bool.or_eq_true, decide_eq_true_eq]; omega), if_neg (by decide)]
    · obtain ⟨n, rfl⟩ : ∃ n : Nat, t2 = n := ⟨t2.toNat, by omega⟩
      obtain ⟨k, rfl⟩ : ∃ k : Nat, t0 = k := ⟨t0.toNat, by omega⟩
      obtain ⟨r, c, f, g1, g2, g3, g4⟩ := chkW_ok n k (by omega) (by omega) (by omega)
      refine ⟨_, g1, ?_⟩
      rw [if_neg (by simp only [Bool.or_eq_true, decide_eq_true_eq]; omega), if_neg (by simp), g2, Option.bind_some, g3, Option.bind_some, Option.bind_some, Option.bind_some]
      by_cases hlt : n < k
      · rw [if_pos hlt] at g4
        have e1 : decide ((n : Int) ≥ (k : Int)) = false := decide_eq_false (by omega)
        have e2 : decide ((n : Int) < (k : Int)) = true := decide_eq_true (by omega)
        simp only [e1, e2, Bool.and_false, Bool.false_eq_true, if_false, if_true, Option.bind_some, g4, bne_self_eq_false]
      · rw [if_neg hlt] at g4
        have e2 : decide ((n : Int) < (k : Int)) = false := decide_eq_false (by omega)
        simp only [g4, e2, bne_self_eq_false, Bool.false_and, Bool.false_eq_true, if_false, Option.bind_some]
  rw [e1, Option.bind_some, e7, Option.bind_some, e13, Option.bind_some, hP, Option.bind_some]
  dsimp only
  rw [he, Option.bind_some, check_same, he, Option.bind_some, if_neg (by simp)]
  obtain ⟨q1, q2, q3, q4⟩ := hr1
  by_cases hz : e = 0
  · rw [if_neg (by simp [hz]), q4 hz, Option.bind_some, q1, if_neg (by simp [hz]), alike_eq 60 _ _ (by omega) (by omega), Option.bind_some, Option.bind_some, if_neg (by simp), hM, Option.bind_some, if_pos (by simp [hz]), alike_eq 60 _ _ (by omega) (by omega), Option.bind_some, Option.bind_some]
    simp
  · have : M = [] := List.eq_nil_of_length_eq_zero (by rw [hMl, q3 hz]; rfl)
    rw [if_pos (by simpa using hz), q1, q3 hz, this]
    simp only [beq_self_eq_true, Bool.true_and, List.length_nil]
    rfl
end Go.Proofs.Ytdkmepeolmdccaa

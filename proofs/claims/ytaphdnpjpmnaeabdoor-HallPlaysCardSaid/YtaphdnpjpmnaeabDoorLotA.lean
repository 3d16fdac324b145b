/- Tickets: who wins, and lending. -/
import Derived.Test.YtaphdnpjpmnaeabDoorTickA
set_option linter.unusedVariables false
set_option linter.unusedSimpArgs false
namespace Go.Proofs.YtaphdnpjpmnaeabDoor
open Go.Am

theorem tick_rng {l : List Int} (h : tickE l = 0) : l.length ≤ 8 ∧ ∀ i, i < l.length → 0 ≤ nx 0 l i ∧ nx 0 l i ≤ 100 := by
  obtain ⟨a, b⟩ := tickE_ok h
  exact ⟨a, fun i hi => b _ (nx_mem hi)⟩
theorem tick_sm {l : List Int} (h : tickE l = 0) : ∀ k, k ≤ l.length → 0 ≤ sm k (nx 0 l) ∧ sm k (nx 0 l) ≤ 800 := by
  obtain ⟨a, b⟩ := tick_rng h
  intro k hk
  have := sm_bound (f := nx 0 l) (k := k) (B := 100) fun i hi => b i (by omega)
  omega
theorem sumLoop (F : Nat) (l : List Int) (h : tickE l = 0) (hF : 20 ≤ F) (step : Int × Int → Option (Stp (Int × Int) Int))
    (hs : ∀ s : Int × Int, step s = if (decide (s.2 < (l.length : Int))) then ((at? l s.2).bind fun x12 => some (.more (((wrapA .i64 (s.1 + x12)), (wrapA .i64 (s.2 + 1)))))) else some (.stop s.1)) : iter step F (0, 0) = some (sm l.length (nx 0 l)) := by
  obtain ⟨a, b⟩ := tick_rng h
  refine iter_count (step := step) (fun i => (sm i (nx 0 l), (i : Int))) l.length ?_ ?_ (by omega)
  · intro i hi
    have h1 := tick_sm h i (by omega)
    have h2 := b i hi
    rw [hs]
    simp only
    rw [if_pos (decide_eq_true (by omega)), nx_get (d := 0) hi, Option.bind_some, w64 (by omega) (by omega), wsuc (by omega)]
    rfl
  · rw [hs]
    simp only
    rw [if_neg (by simp)]
theorem all_eq (F : Nat) (l : List Int) (h : tickE l = 0) (hF : 20 ≤ F) : F34 F l = some (sm l.length (nx 0 l), 0) := by
  unfold F34
  rw [tickCheck_eq F l (by omega), h, Option.bind_some, if_neg (by simp), sumLoop F l h hF (F34_l0 F l) (fun s => rfl)]
  rfl

/-! ### Who wins -/
/-- All tickets in a row, of the first k. -/
def RowOk (l A : List Int) (k : Nat) : Prop := (A.length : Int) = sm k (nx 0 l) ∧ ∀ j, j < k → ∀ p : Nat, sm j (nx 0 l) ≤ p → (p : Int) < sm (j + 1) (nx 0 l) → A[p]? = some (j : Int)
theorem row_eq (F : Nat) (l : List Int) (h : tickE l = 0) (hF : 200 ≤ F) : ∃ A, iter (F24_l1 F l) F ([], 0) = some A ∧ RowOk l A l.length := by
  obtain ⟨a, b⟩ := tick_rng h
  refine iter_inv (step := F24_l1 F l) (I := fun s => ∃ k : Nat, s.2 = (k : Int) ∧ k ≤ l.length ∧ RowOk l s.1 k) (μ := fun s => l.length - s.2.toNat) (Q := fun A => RowOk l A l.length) ?_ F ([], 0) ⟨0, rfl, by omega, by simp [sm], by omega⟩ (by simp only; omega)
  rintro ⟨A, k_⟩ ⟨k, rfl, hk, hA⟩
  simp only at hA
  unfold F24_l1
  simp only
  by_cases hlt : k < l.length
  · left
    have hx := b k hlt
    have hs := tick_sm h k hk
    have hs2 := tick_sm h (k + 1) (by omega)
    rw [sm_succ] at hs2
    obtain ⟨c, hc⟩ : ∃ c : Nat, nx 0 l k = c := ⟨(nx 0 l k).toNat, by omega⟩
    have hin : iter (F24_l0 F (A, (k : Int)) (c : Int)) F (A, 0) = some (A ++ List.replicate c (k : Int)) := by
      have := iter_count (step := F24_l0 F (A, (k : Int)) (c : Int)) (F := F) (fun q => (A ++ List.replicate q (k : Int), (q : Int))) (b := A ++ List.replicate c (k : Int)) c ?_ ?_ (by omega)
      · simpa using this
      · intro q hq
        unfold F24_l0
        simp only
        rw [if_pos (decide_eq_true (by omega)), app?_ok (by have := hA.1; simp <;> omega), Option.bind_some, wsuc (by omega), List.replicate_succ', List.append_assoc]
      · unfold F24_l0
        simp only
        rw [if_neg (by simp)]
    rw [if_pos (decide_eq_true (by omega)), nx_get (d := 0) hlt, Option.bind_some, hc, hin, Option.bind_some, wsuc (by omega)]
    refine ⟨_, rfl, ⟨k + 1, rfl, hlt, ?_, ?_⟩, by simp only; omega⟩
    · simp only [List.length_append, List.length_replicate, sm_succ, hc]
      have := hA.1; omega
    · intro j hj p hp1 hp2
      by_cases e : j = k
      · subst e
        rw [sm_succ, hc] at hp2
        have := hA.1
        rw [List.getElem?_append_right (by omega), List.getElem?_replicate, if_pos (by omega)]
      · have h1 := sm_mono (f := nx 0 l) (j := j + 1) (k := k) (fun i hi => (b i (by omega)).1) (by omega)
        have := hA.1
        rw [List.getElem?_append_left (by omega)]
        exact hA.2 j (by omega) p hp1 hp2
  · right
    have e : k = l.length := by omega
    subst e
    rw [if_neg (by simp)]
    exact ⟨_, rfl, hA⟩
theorem winner_both (F : Nat) (l : List Int) (lot : Int) (h : tickE l = 0) (hF : 200 ≤ F) : ∃ r : Int × Int, F12 F l lot = some r ∧ F24 F l lot = some r ∧ (r.2 = 0 → ∃ k : Nat, r.1 = k ∧ k < l.length) := by
  obtain ⟨a, b⟩ := tick_rng h
  obtain ⟨A, hA, hlen, hrow⟩ := row_eq F l h hF
  have hs := tick_sm h l.length (Nat.le_refl _)
  unfold F12 F24
  rw [all_eq F l h (by omega), hA, Option.bind_some, Option.bind_some, if_neg (by simp), hlen]
  by_cases h0 : sm l.length (nx 0 l) = 0
  · have h0' : (sm l.length (nx 0 l) == 0) = true := by simpa using h0
    simp only [if_pos h0']
    exact ⟨_, rfl, rfl, fun h => by cases h⟩
  · have h0' : ¬ (sm l.length (nx 0 l) == 0) = true := by simpa using h0
    simp only [if_neg h0']
    by_cases hr : lot < 0 ∨ lot ≥ sm l.length (nx 0 l)
    · have hr' : (decide (lot < 0) || decide (lot ≥ sm l.length (nx 0 l))) = true := by rw [Bool.or_eq_true, decide_eq_true_eq, decide_eq_true_eq]; exact hr
      simp only [if_pos hr']
      exact ⟨_, rfl, rfl, fun h => by cases h⟩
    · have hr' : ¬ (decide (lot < 0) || decide (lot ≥ sm l.length (nx 0 l))) = true := by rw [Bool.or_eq_true, decide_eq_true_eq, decide_eq_true_eq]; exact hr
      simp only [if_neg hr']
      rcases seekS (step := F12_l0 F l) (F := F) l.length (fun k => (lot - sm k (nx 0 l), (k : Int))) (fun k => decide (lot < sm (k + 1) (nx 0 l))) (fun k => (k : Int)) (0 : Int) (by
        intro k hk _
        have h1 := tick_sm h k (by omega)
        have h2 := b k hk
        unfold F12_l0
        simp only
        rw [nx_get (d := 0) hk, Option.bind_some, Option.bind_some, sm_succ]
        by_cases e : lot < sm k (nx 0 l) + nx 0 l k
        · rw [if_neg (by rw [decide_eq_true_eq]; omega), if_pos (decide_eq_true e)]
        · rw [if_pos (decide_eq_true (by omega)), if_neg (mt of_decide_eq_true e), w64 (by omega) (by omega), wsuc (by omega), Int.sub_sub]) (by
        intro hall
        exfalso
        rcases Nat.eq_zero_or_pos l.length with e | e
        · rw [e] at h0; exact h0 rfl
        · have := hall (l.length - 1) (by omega)
          rw [show l.length - 1 + 1 = l.length from by omega] at this
          simp at this; omega) (by omega) with ⟨h1, _⟩ | ⟨k, hk, h1, h2, h3⟩
      · exfalso
        rcases Nat.eq_zero_or_pos l.length with e | e
        · rw [e] at h0; exact h0 rfl
        · have := h1 (l.length - 1) (by omega)
          rw [show l.length - 1 + 1 = l.length from by omega] at this
          simp at this; omega
      · have h3' : iter (F12_l0 F l) F (lot, 0) = some (k : Int) := by
          rw [← h3]; simp [sm]
        rw [h3', Option.bind_some]
        have hge : sm k (nx 0 l) ≤ lot := by
          rcases Nat.eq_zero_or_pos k with e | e
          · subst e; simp only [sm]; omega
          · have := h2 (k - 1) (by omega)
            rw [show k - 1 + 1 = k from by omega] at this
            simp at this; omega
        have hat : at? A lot = some (k : Int) := by
          unfold at?
          rw [if_pos (by omega)]
          exact hrow k hk lot.toNat (by omega) (by have := of_decide_eq_true h1; omega)
        rw [hat, Option.bind_some]
        exact ⟨_, rfl, rfl, fun _ => ⟨k, rfl, hk⟩⟩

/-! ### Lending -/
def lendE (l : List Int) (fr to n : Int) : Int :=
  if fr < 0 ∨ fr ≥ l.length ∨ to < 0 ∨ to ≥ l.length ∨ n < 0 then 1 else if n > nx 0 l fr.toNat then 4 else if fr ≠ to ∧ nx 0 l to.toNat + n > 100 then 9 else 0
def lent (l : List Int) (fr to n : Int) : List Int := (l.set fr.toNat (nx 0 l fr.toNat - n)).set to.toNat (nx 0 (l.set fr.toNat (nx 0 l fr.toNat - n)) to.toNat + n)
theorem nx_set (l : List Int) (i j : Nat) (x : Int) (hi : i < l.length) : nx 0 (l.set i x) j = if i = j then x else nx 0 l j := by
  unfold nx
  rw [List.getElem?_set]
  by_cases e : i = j
  · subst e; simp [hi]
  · simp [e]
theorem lend_eq (F : Nat) (l : List Int) (fr to n : Int) (h : tickE l = 0) (hF : 20 ≤ F) : F42 F l fr to n = some (if lendE l fr to n = 0 then lent l fr to n else [], lendE l fr to n) := by
  obtain ⟨a, b⟩ := tick_rng h
  unfold F42
  rw [tickCheck_eq F l (by omega), h, Option.bind_some, if_neg (by simp)]
  unfold lendE
  by_cases h1 : fr < 0 ∨ fr ≥ l.length ∨ to < 0 ∨ to ≥ l.length ∨ n < 0
  · rw [if_pos (by simpa [or_assoc] using h1), if_pos h1, if_neg (by decide)]
  · rw [if_neg (by simpa [or_assoc] using h1), if_neg h1]
    obtain ⟨f, rfl⟩ : ∃ f : Nat, fr = f := ⟨fr.toNat, by omega⟩
    obtain ⟨t, rfl⟩ : ∃ t : Nat, to = t := ⟨to.toNat, by omega⟩
    have hf : f < l.length := by omega
    have ht : t < l.length := by omega
    have bf := b f hf
    have bt := b t ht
    rw [nx_get (d := 0) hf, Option.bind_some, Int.toNat_natCast, Int.toNat_natCast]
    by_cases h2 : n > nx 0 l f
    · rw [if_pos (decide_eq_true h2), if_pos h2, if_neg (by decide)]
    · rw [if_neg (mt of_decide_eq_true h2), if_neg h2, app?_ok (by simp <;> omega), Option.bind_some, List.nil_append, nx_get (d := 0) hf, Option.bind_some, ck_ok hf, Option.bind_some, w64 (a := nx 0 l f - n) (by omega) (by omega)]
      have ht' : t < (l.set f (nx 0 l f - n)).length := by simpa using ht
      rw [nx_get (d := 0) ht', Option.bind_some, ck_ok ht', Option.bind_some]
      have hx : nx 0 (l.set f (nx 0 l f - n)) t = if f = t then nx 0 l f - n else nx 0 l t := nx_set l f t _ hf
      have hxb : 0 ≤ nx 0 (l.set f (nx 0 l f - n)) t ∧ nx 0 (l.set f (nx 0 l f - n)) t ≤ 100 := by rw [hx]; split <;> omega
      rw [w64 (a := nx 0 (l.set f (nx 0 l f - n)) t + n) (by omega) (by omega)]
      have ht'' : t < ((l.set f (nx 0 l f - n)).set t (nx 0 (l.set f (nx 0 l f - n)) t + n)).length := by simpa using ht
      rw [nx_get (d := 0) ht'', Option.bind_some, nx_set _ t t _ ht', if_pos rfl]
      by_cases e : f = t
      · subst e
        rw [if_pos rfl] at hx
        have hz : (if ((f : Int) ≠ (f : Int) ∧ nx 0 l f + n > 100) then (9 : Int) else 0) = 0 := if_neg (by simp)
        rw [hz, if_pos rfl, if_neg (by rw [decide_eq_true_eq, hx]; omega)]
        rfl
      · rw [if_neg e] at hx
        by_cases h3 : nx 0 l t + n > 100
        · have hz : (if ((f : Int) ≠ (t : Int) ∧ nx 0 l t + n > 100) then (9 : Int) else 0) = 9 := if_pos ⟨by omega, h3⟩
          rw [hz, if_pos (by rw [decide_eq_true_eq, hx]; exact h3), if_neg (by decide)]
        · have hz : (if ((f : Int) ≠ (t : Int) ∧ nx 0 l t + n > 100) then (9 : Int) else 0) = 0 := if_neg (fun q => h3 q.2)
          rw [hz, if_pos rfl, if_neg (by rw [decide_eq_true_eq, hx]; exact h3)]
          rfl

end Go.Proofs.YtaphdnpjpmnaeabDoor

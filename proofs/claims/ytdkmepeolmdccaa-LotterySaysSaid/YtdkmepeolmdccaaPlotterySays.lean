/- What the functional texts of package lottery answer. -/
import Derived.Test.YtdkmepeolmdccaaTickLib
set_option linter.unusedVariables false
set_option linter.unusedSimpArgs false
namespace Go.Proofs.Ytdkmepeolmdccaa
open Go.Am

theorem tick_rng {l : List Int} (h : tickE l = 0) : l.length ≤ 8 ∧ ∀ i, i < l.length → 0 ≤ nx 0 l i ∧ nx 0 l i ≤ 100 := by
  obtain ⟨a, b⟩ := tickE_ok h
  exact ⟨a, fun i hi => b _ (nx_mem hi)⟩
theorem tick_sm {l : List Int} (h : tickE l = 0) : ∀ k, k ≤ l.length → 0 ≤ sm k (nx 0 l) ∧ sm k (nx 0 l) ≤ 800 := by
  obtain ⟨a, b⟩ := tick_rng h
  intro k hk
  have := sm_bound (f := nx 0 l) (k := k) (B := 100) fun i hi => b i (by omega)
  omega
theorem sumLoop (F : Nat) (l : List Int) (h : tickE l = 0) (hF : 20 ≤ F) (step : Int × Int → Option (Stp (Int × Int) Int))
    (hs : ∀ s : Int × Int, step s = if (decide (s.2 < (l.length : Int))) then ((at? l s.2).bind fun x12 => some (.more (((wrapA .i64 (s.1 + x12)), (wrapA .i64 (s.2 + 1)))))) else some (.stop s.1)) : iter step F (0, 0) = some (sm l.length (nx 0 l)) := by
  obtain ⟨a, b⟩ := tick_rng h
  refine iter_count (step := step) (fun i => (sm i (nx 0 l), (i : Int))) l.length ?_ ?_ (by omega)
  · intro i hi
    have h1 := tick_sm h i (by omega)
    have h2 := b i hi
    rw [hs]
    simp only
    rw [if_pos (decide_eq_true (by omega)), nx_get (d := 0) hi, Option.bind_some, w64 (by omega) (by omega), wsuc (by omega)]
    rfl
  · rw [hs]
    simp only
    rw [if_neg (by simp)]
theorem all_eq (F : Nat) (l : List Int) (h : tickE l = 0) (hF : 20 ≤ F) : F23 F l = some (sm l.length (nx 0 l), 0) := by
  unfold F23
  rw [tickCheck_eq F l (by omega), h, Option.bind_some, if_neg (by simp), sumLoop F l h hF (F23_l0 F l) (fun s => rfl)]
  rfl

/-! ### Who wins -/
/-- All tickets in a row, of the first k. -/
def RowOk (l A : List Int) (k : Nat) : Prop := (A.length : Int) = sm k (nx 0 l) ∧ ∀ j, j < k → ∀ p : Nat, sm j (nx 0 l) ≤ p → (p : Int) < sm (j + 1) (nx 0 l) → A[p]? = some (j : Int)
theorem row_eq (F : Nat) (l : List Int) (h : tickE l = 0) (hF : 200 ≤ F) : ∃ A, iter (F29_l1 F l) F ([], 0) = some A ∧ RowOk l A l.length := by
  obtain ⟨a, b⟩ := tick_rng h
  refine iter_inv (step := F29_l1 F l) (I := fun s => ∃ k : Nat, s.2 = (k : Int) ∧ k ≤ l.length ∧ RowOk l s.1 k) (μ := fun s => l.length - s.2.toNat) (Q := fun A => RowOk l A l.length) ?_ F ([], 0) ⟨0, rfl, by omega, by simp [sm], by omega⟩ (by simp only; omega)
  rintro ⟨A, k_⟩ ⟨k, rfl, hk, hA⟩
  simp only at hA
  unfold F29_l1
  simp only
  by_cases hlt : k < l.length
  · left
    have hx := b k hlt
    have hs := tick_sm h k hk
    have hs2 := tick_sm h (k + 1) (by omega)
    rw [sm_succ] at hs2
    obtain ⟨c, hc⟩ : ∃ c : Nat, nx 0 l k = c := ⟨(nx 0 l k).toNat, by omega⟩
    have hin : iter (F29_l0 F (A, (k : Int)) (c : Int)) F (A, 0) = some (A ++ List.replicate c (k : Int)) := by
      have := iter_count (step := F29_l0 F (A, (k : Int)) (c : Int)) (F := F) (fun q => (A ++ List.replicate q (k : Int), (q : Int))) (b := A ++ List.replicate c (k : Int)) c ?_ ?_ (by omega)
      · simpa using this
      · intro q hq
        unfold F29_l0
        simp only
        rw [if_pos (decide_eq_true (by omega)), app?_ok (by have := hA.1; simp <;> omega), Option.bind_some, wsuc (by omega), List.replicate_succ', List.append_assoc]
      · unfold F29_l0
        simp only
        rw [if_neg (by simp)]
    rw [if_pos (decide_eq_true (by omega)), nx_get (d := 0) hlt, Option.bind_some, hc, hin, Option.bind_some, wsuc (by omega)]
    refine ⟨_, rfl, ⟨k + 1, rfl, hlt, ?_, ?_⟩, by simp only; omega⟩
    · simp only [List.length_append, List.length_replicate, sm_succ, hc]
      have := hA.1; omega
    · intro j hj p hp1 hp2
      by_cases e : j = k
      · subst e
        rw [sm_succ, hc] at hp2
        have := hA.1
        rw [List.getElem?_append_right (by omega), List.getElem?_replicate, if_pos (by omega)]
      · have h1 := sm_mono (f := nx 0 l) (j := j + 1) (k := k) (fun i hi => (b i (by omega)).1) (by omega)
        have := hA.1
        rw [List.getElem?_append_left (by omega)]
        exact hA.2 j (by omega) p hp1 hp2
  · right
    have e : k = l.length := by omega
    subst e
    rw [if_neg (by simp)]
    exact ⟨_, rfl, hA⟩
theorem winner_both (F : Nat) (l : List Int) (lot : Int) (h : tickE l = 0) (hF : 200 ≤ F) : ∃ r : Int × Int, F24 F l lot = some r ∧ F29 F l lot = some r ∧ (r.2 = 0 → ∃ k : Nat, r.1 = k ∧ k < l.length) := by
  obtain ⟨a, b⟩ := tick_rng h
  obtain ⟨A, hA, hlen, hrow⟩ := row_eq F l h hF
  have hs := tick_sm h l.length (Nat.le_refl _)
  unfold F24 F29
  rw [all_eq F l h (by omega), hA, Option.bind_some, Option.bind_some, if_neg (by simp), hlen]
  by_cases h0 : sm l.length (nx 0 l) = 0
  · have h0' : (sm l.length (nx 0 l) == 0) = true := by simpa using h0
    simp only [if_pos h0']
    exact ⟨_, rfl, rfl, fun h => by cases h⟩
  · have h0' : ¬ (sm l.length (nx 0 l) == 0) = true := by simpa using h0
    simp only [if_neg h0']
    by_cases hr : lot < 0 ∨ lot ≥ sm l.length (nx 0 l)
    · have hr' : (decide (lot < 0) || decide (lot ≥ sm l.length (nx 0 l))) = true := by rw [Bool.or_eq_true, decide_eq_true_eq, decide_eq_true_eq]; exact hr
      simp only [if_pos hr']
      exact ⟨_, rfl, rfl, fun h => by cases h⟩
    · have hr' : ¬ (decide (lot < 0) || decide (lot ≥ sm l.length (nx 0 l))) = true := by rw [Bool.or_eq_true, decide_eq_true_eq, decide_eq_true_eq]; exact hr
      simp only [if_neg hr']
      rcases seekS (step := F24_l0 F l) (F := F) l.length (fun k => (lot - sm k (nx 0 l), (k : Int))) (fun k => decide (lot < sm (k + 1) (nx 0 l))) (fun k => (k : Int)) (0 : Int) (by
        intro k hk _
        have h1 := tick_sm h k (by omega)
        have h2 := b k hk
        unfold F24_l0
        simp only
        rw [nx_get (d := 0) hk, Option.bind_some, Option.bind_some, sm_succ]
        by_cases e : lot < sm k (nx 0 l) + nx 0 l k
        · rw [if_neg (by rw [decide_eq_true_eq]; omega), if_pos (decide_eq_true e)]
        · rw [if_pos (decide_eq_true (by omega)), if_neg (mt of_decide_eq_true e), w64 (by omega) (by omega), wsuc (by omega), Int.sub_sub]) (by
        intro hall
        exfalso
        rcases Nat.eq_zero_or_pos l.length with e | e
        · rw [e] at h0; exact h0 rfl
        · have := hall (l.length - 1) (by omega)
          rw [show l.length - 1 + 1 = l.length from by omega] at this
          simp at this; omega) (by omega) with ⟨h1, _⟩ | ⟨k, hk, h1, h2, h3⟩
      · exfalso
        rcases Nat.eq_zero_or_pos l.length with e | e
        · rw [e] at h0; exact h0 rfl
        · have := h1 (l.length - 1) (by omega)
          rw [show l.length - 1 + 1 = l.length from by omega] at this
          simp at this; omega
      · have h3' : iter (F24_l0 F l) F (lot, 0) = some (k : Int) := by
          rw [← h3]; simp [sm]
        rw [h3', Option.bind_some]
        have hge : sm k (nx 0 l) ≤ lot := by
          rcases Nat.eq_zero_or_pos k with e | e
          · subst e; simp only [sm]; omega
          · have := h2 (k - 1) (by omega)
            rw [show k - 1 + 1 = k from by omega] at this
            simp at this; omega
        have hat : at? A lot = some (k : Int) := by
          unfold at?
          rw [if_pos (by omega)]
          exact hrow k hk lot.toNat (by omega) (by have := of_decide_eq_true h1; omega)
        rw [hat, Option.bind_some]
        exact ⟨_, rfl, rfl, fun _ => ⟨k, rfl, hk⟩⟩

/-! ### Many lots -/
theorem runL_both (F : Nat) (l lots : List Int) (h : tickE l = 0) (hF : 300 ≤ F) (hl : lots.length ≤ 200) (r15 : List Int × Int) :
    ∃ b c, iter (F26_l0 F l lots) F (0, List.replicate l.length 0) = some b ∧ iter (F4_l1 F l lots r15) F (0, List.replicate l.length 0) = some c ∧
      ((∃ L, b = .inl L ∧ c = .inl L ∧ L.length ≤ 8) ∨ ∃ e : Int, e ≠ 0 ∧ b = .inr ([], e) ∧ c = .inr ((r15.2 == e) && ((r15.1.length : Int) == 0))) := by
  obtain ⟨a, _⟩ := tick_rng h
  refine iter_par (step := F26_l0 F l lots) (step' := F4_l1 F l lots r15) (I := fun s : Int × List Int => ∃ i : Nat, s.1 = (i : Int) ∧ i ≤ lots.length ∧ s.2.length = l.length ∧ ∀ x ∈ s.2, 0 ≤ x ∧ x ≤ i) (μ := fun s : Int × List Int => lots.length - s.1.toNat) _ ?_ F _ ⟨0, rfl, by omega, by simp, fun x hx => by rw [List.mem_replicate] at hx; omega⟩ (by simp only; omega)
  rintro ⟨i_, won⟩ ⟨i, rfl, hi, hw, hx⟩
  simp only at hw hx
  unfold F26_l0 F4_l1
  simp only
  by_cases hlt : i < lots.length
  · have hlt' : decide ((i : Int) < (lots.length : Int)) = true := decide_eq_true (by omega)
    simp only [if_pos hlt']
    obtain ⟨r, e1, e2, e3⟩ := winner_both F l (nx 0 lots i) h (by omega)
    rw [nx_get (d := 0) hlt]
    simp only [Option.bind_some]
    rw [e1, e2]
    simp only [Option.bind_some]
    by_cases hr : r.2 = 0
    · left
      have hr' : ¬ (r.2 != 0) = true := by simpa using hr
      simp only [if_neg hr']
      obtain ⟨k, hk, hk2⟩ := e3 hr
      have hkw : k < won.length := by omega
      have hxk := hx _ (nx_mem (d := 0) hkw)
      rw [hk, nx_get (d := 0) hkw, ck_ok hkw]
      simp only [Option.bind_some]
      rw [wsuc (by omega), w64 (by omega) (by omega)]
      refine ⟨_, rfl, rfl, ⟨i + 1, rfl, hlt, by simp [hw], fun y hy => ?_⟩, by simp only; omega⟩
      rcases List.mem_or_eq_of_mem_set hy with hy | hy
      · have := hx y hy; omega
      · omega
    · right
      have hr' : (r.2 != 0) = true := by simpa using hr
      simp only [if_pos hr']
      exact ⟨_, _, rfl, rfl, .inr ⟨r.2, hr, rfl, rfl⟩⟩
  · right
    have hlt' : ¬ decide ((i : Int) < (lots.length : Int)) = true := by rw [decide_eq_true_eq]; omega
    simp only [if_neg hlt']
    exact ⟨_, _, rfl, rfl, .inl ⟨won, rfl, rfl, by omega⟩⟩

/-! ### Lending -/
def lendE (l : List Int) (fr to n : Int) : Int :=
  if fr < 0 ∨ fr ≥ l.length ∨ to < 0 ∨ to ≥ l.length ∨ n < 0 then 1 else if n > nx 0 l fr.toNat then 4 else if fr ≠ to ∧ nx 0 l to.toNat + n > 100 then 9 else 0
def lent (l : List Int) (fr to n : Int) : List Int := (l.set fr.toNat (nx 0 l fr.toNat - n)).set to.toNat (nx 0 (l.set fr.toNat (nx 0 l fr.toNat - n)) to.toNat + n)
theorem nx_set (l : List Int) (i j : Nat) (x : Int) (hi : i < l.length) : nx 0 (l.set i x) j = if i = j then x else nx 0 l j := by
  unfold nx
  rw [List.getElem?_set]
  by_cases e : i = j
  · subst e; simp [hi]
  · simp [e]
theorem lend_eq (F : Nat) (l : List Int) (fr to n : Int) (h : tickE l = 0) (hF : 20 ≤ F) : F25 F l fr to n = some (if lendE l fr to n = 0 then lent l fr to n else [], lendE l fr to n) := by
  obtain ⟨a, b⟩ := tick_rng h
  unfold F25
  rw [tickCheck_eq F l (by omega), h, Option.bind_some, if_neg (by simp)]
  unfold lendE
  by_cases h1 : fr < 0 ∨ fr ≥ l.length ∨ to < 0 ∨ to ≥ l.length ∨ n < 0
  · rw [if_pos (by simpa [or_assoc] using h1), if_pos h1, if_neg (by decide)]
  · rw [if_neg (by simpa [or_assoc] using h1), if_neg h1]
    obtain ⟨f, rfl⟩ : ∃ f : Nat, fr = f := ⟨fr.toNat, by omega⟩
    obtain ⟨t, rfl⟩ : ∃ t : Nat, to = t := ⟨to.toNat, by omega⟩
    have hf : f < l.length := by omega
    have ht : t < l.length := by omega
    have bf := b f hf
    have bt := b t ht
    rw [nx_get (d := 0) hf, Option.bind_some, Int.toNat_natCast, Int.toNat_natCast]
    by_cases h2 : n > nx 0 l f
    · rw [if_pos (decide_eq_true h2), if_pos h2, if_neg (by decide)]
    · rw [if_neg (mt of_decide_eq_true h2), if_neg h2, app?_ok (by simp <;> omega), Option.bind_some, List.nil_append, nx_get (d := 0) hf, Option.bind_some, ck_ok hf, Option.bind_some, w64 (a := nx 0 l f - n) (by omega) (by omega)]
      have ht' : t < (l.set f (nx 0 l f - n)).length := by simpa using ht
      rw [nx_get (d := 0) ht', Option.bind_some, ck_ok ht', Option.bind_some]
      have hx : nx 0 (l.set f (nx 0 l f - n)) t = if f = t then nx 0 l f - n else nx 0 l t := nx_set l f t _ hf
      have hxb : 0 ≤ nx 0 (l.set f (nx 0 l f - n)) t ∧ nx 0 (l.set f (nx 0 l f - n)) t ≤ 100 := by rw [hx]; split <;> omega
      rw [w64 (a := nx 0 (l.set f (nx 0 l f - n)) t + n) (by omega) (by omega)]
      have ht'' : t < ((l.set f (nx 0 l f - n)).set t (nx 0 (l.set f (nx 0 l f - n)) t + n)).length := by simpa using ht
      rw [nx_get (d := 0) ht'', Option.bind_some, nx_set _ t t _ ht', if_pos rfl]
      by_cases e : f = t
      · subst e
        rw [if_pos rfl] at hx
        have hz : (if ((f : Int) ≠ (f : Int) ∧ nx 0 l f + n > 100) then (9 : Int) else 0) = 0 := if_neg (by simp)
        rw [hz, if_pos rfl, if_neg (by rw [decide_eq_true_eq, hx]; omega)]
        rfl
      · rw [if_neg e] at hx
        by_cases h3 : nx 0 l t + n > 100
        · have hz : (if ((f : Int) ≠ (t : Int) ∧ nx 0 l t + n > 100) then (9 : Int) else 0) = 9 := if_pos ⟨by omega, h3⟩
          rw [hz, if_pos (by rw [decide_eq_true_eq, hx]; exact h3), if_neg (by decide)]
        · have hz : (if ((f : Int) ≠ (t : Int) ∧ nx 0 l t + n > 100) then (9 : Int) else 0) = 0 := if_neg (fun q => h3 q.2)
          rw [hz, if_pos rfl, if_neg (by rw [decide_eq_true_eq, hx]; exact h3)]
          rfl

theorem PlotterySays.holds (t0 : List (Int)) (t1 : Int) (t2 : Int) (t3 : Int) (t4 : Int) (t5 : List (Int)) (h0 : (t0.length ≤ maxLen ∧ ∀ a ∈ t0, inR .i64 a)) (h1 : inR .i64 t1) (h2 : inR .i64 t2) (h3 : inR .i64 t3) (h4 : inR .i64 t4) (h5 : (t5.length ≤ maxLen ∧ ∀ a ∈ t5, inR .i64 a)) : ∃ F, F4 F t0 t1 t2 t3 t4 t5 = some true := by
  refine ⟨1000, ?_⟩
  have e27 := refTick_eq 1000 t0 (by decide)
  have e28 := tickCheck_eq 1000 t0 (by decide)
  by_cases ht : tickE t0 = 0
  · obtain ⟨a, b⟩ := tick_rng ht
    have e23 := all_eq 1000 t0 ht (by decide)
    obtain ⟨r5, e5, e49, _⟩ := winner_both 1000 t0 t1 ht (by decide)
    have e25 := lend_eq 1000 t0 t2 t3 t4 ht (by decide)
    -- Run
    obtain ⟨r15, e15, hrun⟩ : ∃ r15, F26 1000 t0 t5 = some r15 ∧ (if (decide ((t5.length : Int) > 200)) = true then some ((r15.2 == 2) && ((r15.1.length : Int) == 0)) else
        (mk? (t0.length : Int) (0 : Int)).bind fun L113 => (iter (F4_l1 1000 t0 t5 r15) 1000 (0, L113)).bind fun b141 => match b141 with
          | .inl b143 => ((if (r15.2 == 0) = true then ((F32 1000 r15.1 b143).bind fun r146 => some r146) else some false).bind fun y151 => some y151)
          | .inr b143 => some b143) = some true := by
      by_cases hl : t5.length ≤ 200
      · have hrn : ∀ b, iter (F26_l0 1000 t0 t5) 1000 (0, List.replicate t0.length 0) = some b → F26 1000 t0 t5 = some (Sum.elim (fun x => (x, 0)) (fun x => (x.1, x.2)) b) := by
          intro b hb
          unfold F26
          rw [e28, ht, Option.bind_some, if_neg (by simp), if_neg (by rw [decide_eq_true_eq]; omega), mk?_ok (by omega), Option.bind_some, hb, Option.bind_some]
          cases b <;> rfl
        obtain ⟨b0, _, hb0, _⟩ := runL_both 1000 t0 t5 ht (by decide) hl ([], 0)
        refine ⟨_, hrn b0 hb0, ?_⟩
        rw [if_neg (by rw [decide_eq_true_eq]; omega), mk?_ok (by omega), Option.bind_some]
        obtain ⟨b1, c1, q1, q2, q3⟩ := runL_both 1000 t0 t5 ht (by decide) hl (Sum.elim (fun x => (x, 0)) (fun x => (x.1, x.2)) b0)
        rw [q2, Option.bind_some]
        rw [hb0] at q1
        obtain rfl := someI q1
        rcases q3 with ⟨L, rfl, rfl, hL⟩ | ⟨e, he, rfl, rfl⟩
        · have ha := alike_eq 1000 L L (by omega) (by omega)
          show ((if ((0 : Int) == 0) = true then ((F32 1000 L L).bind fun r146 => some r146) else some false).bind fun y151 => some y151) = some true
          rw [if_pos (by decide), ha]
          simp
        · simp
      · refine ⟨([], 2), ?_, ?_⟩
        · unfold F26
          rw [e28, ht, Option.bind_some, if_neg (by simp), if_pos (decide_eq_true (by omega))]
        · rw [if_pos (decide_eq_true (by omega))]; rfl
    unfold F4
    rw [e23, e5, e25, e15]
    simp only [Option.bind_some]
    rw [e27, e28]
    simp only [Option.bind_some]
    rw [if_neg (by simp), if_neg (by simpa using ht), sumLoop 1000 t0 ht (by decide) (F4_l0 1000 t0) (fun s => rfl)]
    simp only [Option.bind_some]
    rw [e49]
    simp only [Option.bind_some]
    rw [if_neg (by simp)]
    -- what lending should say
    have hb : ((if (((((decide (t2 < 0)) || (decide (t2 ≥ (t0.length : Int)))) || (decide (t3 < 0))) || (decide (t3 ≥ (t0.length : Int)))) || (decide (t4 < 0))) = true then some 1 else
        (at? t0 t2).bind fun x62 => if (decide (t4 > x62)) = true then some 4 else (if (t2 != t3) = true then ((at? t0 t3).bind fun x65 => some (decide ((wrapA .i64 (x65 + t4)) > 100))) else some false).bind fun y68 => if y68 = true then some 9 else some (tickE t0)) : Option Int) = some (lendE t0 t2 t3 t4) := by
      unfold lendE
      by_cases q1 : t2 < 0 ∨ t2 ≥ t0.length ∨ t3 < 0 ∨ t3 ≥ t0.length ∨ t4 < 0
      · rw [if_pos (by simpa [or_assoc] using q1), if_pos q1]
      · rw [if_neg (by simpa [or_assoc] using q1), if_neg q1]
        obtain ⟨f, rfl⟩ : ∃ f : Nat, t2 = f := ⟨t2.toNat, by omega⟩
        obtain ⟨t, rfl⟩ : ∃ t : Nat, t3 = t := ⟨t3.toNat, by omega⟩
        have bf := b f (by omega)
        have bt := b t (by omega)
        rw [nx_get (d := 0) (by omega), Option.bind_some, Int.toNat_natCast, Int.toNat_natCast]
        by_cases q2 : t4 > nx 0 t0 f
        · rw [if_pos (decide_eq_true q2), if_pos q2]
        · rw [if_neg (mt of_decide_eq_true q2), if_neg q2]
          by_cases e : f = t
          · subst e
            rw [if_neg (by simp), Option.bind_some, if_neg (by decide), if_neg (by omega), ht]
          · rw [if_pos (by simp <;> omega), nx_get (d := 0) (by omega), Option.bind_some, Option.bind_some, w64 (by omega) (by omega)]
            by_cases q3 : nx 0 t0 t + t4 > 100
            · rw [if_pos (decide_eq_true q3), if_pos ⟨by omega, q3⟩]
            · rw [if_neg (mt of_decide_eq_true q3), if_neg (fun q => q3 q.2), ht]
    rw [hb]
    simp only [Option.bind_some]
    by_cases hz : lendE t0 t2 t3 t4 = 0
    · rw [if_neg (by simp [hz])]
      have hok : ∃ f t : Nat, t2 = f ∧ t3 = t ∧ f < t0.length ∧ t < t0.length ∧ 0 ≤ t4 ∧ t4 ≤ nx 0 t0 f := by
        unfold lendE at hz
        split at hz
        · cases hz
        · split at hz
          · cases hz
          · exact ⟨t2.toNat, t3.toNat, by omega, by omega, by omega, by omega, by omega, by omega⟩
      obtain ⟨f, t, rfl, rfl, hf, htt, h40, h4l⟩ := hok
      have bf := b f hf
      have ht' : t < (t0.set f (nx 0 t0 f - t4)).length := by simpa using htt
      have hx : nx 0 (t0.set f (nx 0 t0 f - t4)) t = if f = t then nx 0 t0 f - t4 else nx 0 t0 t := nx_set t0 f t _ hf
      have bt := b t htt
      have hxb : 0 ≤ nx 0 (t0.set f (nx 0 t0 f - t4)) t ∧ nx 0 (t0.set f (nx 0 t0 f - t4)) t ≤ 100 := by rw [hx]; split <;> omega
      have e30 : F30 1000 t0 = some t0 := by unfold F30; rw [if_pos (by omega)]
      rw [if_pos hz, if_pos (by simp [hz]), e30]
      simp only [Option.bind_some]
      rw [nx_get (d := 0) hf, Option.bind_some, ck_ok hf, Option.bind_some, Int.toNat_natCast, Int.toNat_natCast, w64 (a := nx 0 t0 f - t4) (by omega) (by omega), nx_get (d := 0) ht', Option.bind_some, ck_ok ht', Option.bind_some, w64 (by omega) (by omega)]
      have hlent : lent t0 (f : Int) (t : Int) t4 = (t0.set f (nx 0 t0 f - t4)).set t (nx 0 (t0.set f (nx 0 t0 f - t4)) t + t4) := rfl
      rw [hlent, equal_eq 1000 _ _ (by simp <;> omega) (by simp <;> omega)]
      simp only [Option.bind_some]
      rw [if_neg (by simp)]
      simp only [Option.bind_some]
      exact hrun
    · rw [if_neg hz, if_neg (by simp [hz]), if_neg (by simpa using hz)]
      simp only [Option.bind_some]
      exact hrun
  · unfold F4 F24 F23 F25 F26
    rw [e28]
    simp only [Option.bind_some]
    have ht' : (tickE t0 != 0) = true := by simpa using ht
    simp only [if_pos ht', Option.bind_some]
    rw [e27]
    simp only [Option.bind_some]
    rw [if_neg (by simp), if_pos ht']
    simp [wrapA]
end Go.Proofs.Ytdkmepeolmdccaa

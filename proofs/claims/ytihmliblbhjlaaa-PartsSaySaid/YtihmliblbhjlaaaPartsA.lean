/- Sums: the check, and how many there are. -/
import Derived.Test.YtihmliblbhjlaaaDef
import Derived.Test.YtihmliblbhjlaaaPureC
set_option linter.unusedVariables false
set_option linter.unusedSimpArgs false
namespace Go.Proofs.Ytihmliblbhjlaaa
open Go.Am

/-- A sum's parts, as the check leaves them. -/
structure Part (l : List Int) : Prop where
  pos : ∀ j, j < l.length → 1 ≤ nx 0 l j ∧ nx 0 l j ≤ 40
  dec : ∀ j, j + 1 < l.length → nx 0 l (j + 1) ≤ nx 0 l j
  sum : sm l.length (nx 0 l) ≤ 40
theorem sm_ge {f : Nat → Int} : ∀ {k : Nat}, (∀ j, j < k → 1 ≤ f j) → (k : Int) ≤ sm k f
  | 0, _ => Int.le_refl _
  | k + 1, h => by
    have := sm_ge (k := k) fun j hj => h j (by omega)
    have := h k (by omega)
    rw [sm_succ]; omega
theorem Part.len {l : List Int} (h : Part l) : l.length ≤ 40 := by
  have := sm_ge fun j hj => (h.pos j hj).1
  have := h.sum
  omega
theorem sumErr_eq (F : Nat) (l : List Int) : F41 F l = F42 F l := rfl
theorem check_eq (F : Nat) (l : List Int) (hF : l.length < F) (hl : l.length ≤ 9223372036854775807) : ∃ w : Int, F42 F l = some w ∧ (w = 0 → Part l) := by
  unfold F42
  obtain ⟨b, hb, hQ⟩ := iter_inv (step := F42_l0 F l) (I := fun s => ∃ i : Nat, s.2 = (i : Int) ∧ i ≤ l.length ∧ s.1 = sm i (nx 0 l) ∧ s.1 ≤ 40 ∧ 0 ≤ s.1 ∧ (∀ j, j < i → 1 ≤ nx 0 l j ∧ nx 0 l j ≤ 40) ∧ (∀ j, j + 1 < i → nx 0 l (j + 1) ≤ nx 0 l j)) (μ := fun s => l.length - s.2.toNat)
    (Q := fun b => (b = .inl () ∧ Part l) ∨ ∃ w, b = .inr w ∧ w ≠ 0) (by
      rintro ⟨a, s⟩ ⟨i, h1, h2, h3, h4, h5, h6, h7⟩
      simp only at h1 h3 h4 h5
      subst h1
      unfold F42_l0
      simp only
      by_cases hlt : i < l.length
      · rw [if_pos (decide_eq_true (by omega)), nx_get (d := 0) hlt, Option.bind_some]
        by_cases q1 : ((decide (nx 0 l i < 1)) || (decide (nx 0 l i > 40))) = true
        · rw [if_pos q1]; exact .inr ⟨_, rfl, .inr ⟨1, rfl, by decide⟩⟩
        rw [if_neg q1]
        simp only [Bool.or_eq_true, decide_eq_true_eq] at q1
        have e1 : (if (decide ((i : Int) > 0)) = true then ((at? l (wrapA .i64 ((i : Int) - 1))).bind fun x13 => some (decide (nx 0 l i > x13))) else some false) = some (decide (0 < i ∧ nx 0 l (i - 1) < nx 0 l i)) := by
          by_cases h0 : 0 < i
          · rw [if_pos (decide_eq_true (by omega)), wpred h0 (by omega), nx_get (d := 0) (by omega), Option.bind_some]
            simp [h0]
          · rw [if_neg (by rw [decide_eq_true_eq]; omega)]
            simp [h0]
        rw [e1, Option.bind_some]
        by_cases q2 : 0 < i ∧ nx 0 l (i - 1) < nx 0 l i
        · rw [if_pos (decide_eq_true q2)]; exact .inr ⟨_, rfl, .inr ⟨3, rfl, by decide⟩⟩
        rw [if_neg (by rw [decide_eq_true_eq]; exact q2), w64 (a := a + nx 0 l i) (by omega) (by omega)]
        by_cases q3 : a + nx 0 l i > 40
        · rw [if_pos (decide_eq_true q3)]; exact .inr ⟨_, rfl, .inr ⟨2, rfl, by decide⟩⟩
        rw [if_neg (by rw [decide_eq_true_eq]; exact q3), wsuc (by omega)]
        refine .inl ⟨_, rfl, ⟨i + 1, rfl, by omega, by rw [sm_succ, h3], by simp only; omega, by simp only; omega, fun j hj => ?_, fun j hj => ?_⟩, by simp only; omega⟩
        · by_cases e : j = i
          · subst e; omega
          · exact h6 j (by omega)
        · by_cases e : j + 1 = i
          · subst e
            have : ¬ (nx 0 l j < nx 0 l (j + 1)) := fun q => q2 ⟨by omega, by simpa using q⟩
            omega
          · exact h7 j (by omega)
      · rw [if_neg (by rw [decide_eq_true_eq]; omega)]
        have : i = l.length := by omega
        subst this
        exact .inr ⟨_, rfl, .inl ⟨rfl, h6, h7, by rw [← h3]; exact h4⟩⟩) F (0, 0) ⟨0, rfl, by omega, rfl, by decide, by decide, fun _ h => by omega, fun _ h => by omega⟩ (by simpa using hF)
  rw [hb]
  rcases hQ with ⟨rfl, h⟩ | ⟨w, rfl, h⟩
  · exact ⟨0, rfl, fun _ => h⟩
  · exact ⟨w, rfl, fun e => (h e).elim⟩

/-! ### How many -/
theorem wrap_in (a : Int) : -9223372036854775808 ≤ wrapA .i64 a ∧ wrapA .i64 a ≤ 9223372036854775807 := by
  unfold wrapA
  simp only
  split
  · assumption
  · show _ ≤ (if (true && decide (a % 18446744073709551616 ≥ 9223372036854775808)) = true then a % 18446744073709551616 - 18446744073709551616 else a % 18446744073709551616) ∧ (if (true && decide (a % 18446744073709551616 ≥ 9223372036854775808)) = true then a % 18446744073709551616 - 18446744073709551616 else a % 18446744073709551616) ≤ _
    simp only [Bool.true_and, decide_eq_true_eq]
    split <;> omega
theorem cntI_in (a : Int) (k : Nat) : -9223372036854775808 ≤ cntI a k ∧ cntI a k ≤ 9223372036854775807 := by
  by_cases h0 : a = 0
  · subst h0; rw [cntI_zero]; decide
  by_cases h1 : a < 0 ∨ k = 0
  · rw [cntI_none h0 h1]; decide
  · rw [cntI_step (by omega) (by omega)]; exact wrap_in _
theorem cntI_less {a : Int} {k : Nat} (h0 : 0 ≤ a) (h : a < k) : cntI a k = cntI a (k - 1) := by
  by_cases h1 : a = 0
  · subst h1; rw [cntI_zero, cntI_zero]
  · rw [cntI_step (by omega) (by omega), cntI_none (a := a - k) (by omega) (.inl (by omega)), Int.zero_add, w64 (cntI_in _ _).1 (cntI_in _ _).2]
theorem count_eq (F n k : Nat) (hn : n ≤ 40) (hk : k ≤ 40) (hF : 100 ≤ F) : F36 F (n : Int) (k : Int) = some (cntI (n : Int) k, 0) := by
  unfold F36
  rw [if_neg (by simp only [Bool.or_eq_true, decide_eq_true_eq]; omega), wsuc (by omega), mk?_ok (by omega), Option.bind_some, show ck (List.replicate (n + 1) (0 : Int)) 0 = some () from ck_ok (i := 0) (by simp), Option.bind_some]
  have e0 : (List.replicate (n + 1) (0 : Int)).set (Int.toNat 0) 1 = tb (n + 1) fun x => cntI (x : Int) 0 := by
    rw [tb_rep, show Int.toNat 0 = 0 from rfl, tb_set]
    refine tb_congr fun i hi => ?_
    by_cases h : i = 0
    · subst h; rw [if_pos rfl]; exact (cntI_zero 0).symm
    · rw [if_neg h]; exact (cntI_none (by omega) (.inr rfl)).symm
  rw [e0]
  have hin : ∀ (q x : Nat), 0 < q → q ≤ x → x ≤ n → F36_l0 F (n : Int) ((q : Int), tb (n + 1) fun x => cntI (x : Int) (q - 1)) ((x : Int), tb (n + 1) fun j => if j < x then cntI (j : Int) q else cntI (j : Int) (q - 1)) =
      some (.more (((x + 1 : Nat) : Int), tb (n + 1) fun j => if j < x + 1 then cntI (j : Int) q else cntI (j : Int) (q - 1))) := by
    intro q x hq hx hn
    unfold F36_l0
    simp only
    rw [if_pos (decide_eq_true (by omega)), tb_get (by omega), Option.bind_some, wsub hx (by omega), tb_get (by omega), Option.bind_some, tb_ck (by omega), Option.bind_some, wsuc (by omega), Int.toNat_natCast, tb_set]
    congr 3
    refine tb_congr fun j hj => ?_
    by_cases e : j = x
    · subst e
      rw [if_pos rfl, if_neg (Nat.lt_irrefl j), if_pos (show j - q < j by omega), if_pos (Nat.lt_succ_self j), cntI_step (a := (j : Int)) (k := q) (by omega) hq, show ((j - q : Nat) : Int) = (j : Int) - (q : Int) from by omega, Int.add_comm]
    · rw [if_neg e]
      by_cases h : j < x
      · rw [if_pos h, if_pos (by omega)]
      · rw [if_neg h, if_neg (by omega)]
  have hout : ∀ q : Nat, q ≤ k → 0 < q → F36_l1 F (n : Int) (k : Int) ((q : Int), tb (n + 1) fun x => cntI (x : Int) (q - 1)) = some (.more (((q + 1 : Nat) : Int), tb (n + 1) fun x => cntI (x : Int) q)) := by
    intro q hqk hq
    unfold F36_l1
    simp only
    rw [if_pos (decide_eq_true (by omega))]
    have e1 : (tb (n + 1) fun x => cntI (x : Int) (q - 1)) = tb (n + 1) fun j => if j < min q (n + 1) then cntI (j : Int) q else cntI (j : Int) (q - 1) := by
      refine tb_congr fun j hj => ?_
      by_cases h : j < q
      · rw [if_pos (by omega)]; exact (cntI_less (by omega) (by omega)).symm
      · rw [if_neg (by omega)]
    have := iter_run (step := F36_l0 F (n : Int) ((q : Int), tb (n + 1) fun x => cntI (x : Int) (q - 1))) (fun x => ((x : Int), tb (n + 1) fun j => if j < min x (n + 1) then cntI (j : Int) q else cntI (j : Int) (q - 1))) (b := tb (n + 1) fun x => cntI (x : Int) q) (n + 1 - q) q F (fun j h1 h2 => by
        rw [Nat.min_eq_left (by omega), Nat.min_eq_left (by omega)]; exact hin q j hq h1 (by omega)) (by
        unfold F36_l0
        simp only
        rw [if_neg (by rw [decide_eq_true_eq]; omega)]
        congr 2
        refine tb_congr fun j hj => ?_
        rw [if_pos (by omega)]) (by omega)
    rw [← e1] at this
    rw [this, Option.bind_some, wsuc (by omega)]
  have := iter_run (step := F36_l1 F (n : Int) (k : Int)) (fun q => ((q : Int), tb (n + 1) fun x => cntI (x : Int) (q - 1))) (b := tb (n + 1) fun x => cntI (x : Int) k) k 1 F (fun j h1 h2 => hout j (by omega) (by omega)) (by
    unfold F36_l1
    simp only
    rw [if_neg (by rw [decide_eq_true_eq]; omega), Nat.add_sub_cancel_left]) (by omega)
  rw [show ((1 : Nat) : Int) = 1 from rfl] at this
  rw [this, Option.bind_some, tb_get (by omega), Option.bind_some]
end Go.Proofs.Ytihmliblbhjlaaa

/- Samples of names: the check, the joining, the comparison. -/
import Derived.Test.YtihmliblbhjlaaaBottomB
set_option linter.unusedVariables false
set_option linter.unusedSimpArgs false
namespace Go.Proofs.Ytihmliblbhjlaaa.bot
open Go.Am Go.Proofs.Ytihmliblbhjlaaa.pdqS

theorem seq_eq (F : Nat) (p q : List E) (hF : p.length < F) (hl : p.length ≤ 9223372036854775807) : F86 F p q = some (decide (p = q)) := by
  unfold F86
  by_cases hn : p.length = q.length
  · rw [if_neg (by simp [hn])]
    obtain ⟨b, hb, hQ⟩ := iter_inv (step := F86_l0 F p q) (I := fun s => ∃ i : Nat, s = i ∧ i ≤ p.length ∧ p.take i = q.take i) (μ := fun s => p.length - s.toNat)
      (Q := fun b => (b = .inl () ∧ p = q) ∨ b = .inr false ∧ p ≠ q) (by
        rintro s ⟨i, rfl, hi, hn2⟩
        unfold F86_l0
        by_cases hlt : i < p.length
        · rw [if_pos (decide_eq_true (by omega)), at?_in hlt, at?_in (by omega : i < q.length)]
          simp only [Option.bind_some]
          by_cases e : p[i] = q[i]
          · left
            rw [if_neg (by simpa using e), w64 (by omega) (by omega)]
            refine ⟨_, rfl, ⟨i + 1, by omega, by omega, ?_⟩, by omega⟩
            rw [List.take_add_one, List.take_add_one, hn2, List.getElem?_eq_getElem hlt, List.getElem?_eq_getElem (by omega : i < q.length), e]
          · right
            rw [if_pos (by simpa using e)]
            exact ⟨_, rfl, .inr ⟨rfl, fun h => e (by subst h; rfl)⟩⟩
        · right
          rw [if_neg (by rw [decide_eq_true_eq]; omega)]
          refine ⟨_, rfl, .inl ⟨rfl, ?_⟩⟩
          rwa [List.take_of_length_le (by omega), List.take_of_length_le (by omega)] at hn2) F 0 ⟨0, rfl, by omega, by simp⟩ (by simpa using hF)
    rw [hb]
    simp only [Option.bind_some]
    rcases hQ with ⟨rfl, h⟩ | ⟨rfl, h⟩
    · simp [h]
    · simp [h]
  · rw [if_pos (by simp; omega)]
    have : p ≠ q := fun h => hn (by rw [h])
    simp [this]
theorem in_eq (F : Nat) (l : List E) (x : E) (hF : l.length < F) (hl : l.length ≤ 9223372036854775806) : ∃ b : Bool, F70 F l x = some b := by
  unfold F70 F134
  have hs : ∀ (i : Nat) (h : i < l.length), F134_l0 F l x (i : Int) = some (if (x == l[i]) then .stop (.inr (i : Int)) else .more ((i + 1 : Nat) : Int)) := by
    intro i h
    unfold F134_l0
    rw [if_pos (decide_eq_true (by omega)), at?_in h, Option.bind_some, wsuc (by omega)]
    exact ite_some _ _
  have he : F134_l0 F l x (l.length : Int) = some (.stop (.inl ())) := by
    unfold F134_l0
    rw [if_neg (by rw [decide_eq_true_eq]; omega)]
  rcases find_loop (step := F134_l0 F l x) (F := F) l (fun y => x == y) (fun i _ => (i : Int)) hs he hF with ⟨_, h⟩ | ⟨i, hi, _, _, h⟩
  · rw [h]; exact ⟨_, rfl⟩
  · rw [h]; exact ⟨_, rfl⟩

section
variable {lt : E → E → Bool}
theorem check_eq (hO : Ord lt) (F : Nat) (m : Int) (l : List E) (hF : 2000 ≤ F) : ∃ c : Int, F68 F (m, l) = some c ∧ F67 F (m, l) = some c ∧ (c = 0 → 1 ≤ m ∧ m ≤ 30 ∧ (l.length : Int) ≤ m ∧ (∀ x ∈ l, Sh x) ∧ l.Pairwise (Rl lt)) ∧ (1 ≤ m ∧ m ≤ 30 ∧ (l.length : Int) ≤ m ∧ (∀ x ∈ l, Sh x) ∧ l.Pairwise (Rl lt) → c = 0) := by
  unfold F68 F67
  simp only
  by_cases hm : ((decide (m < 1)) || (decide (m > 30))) = true
  · rw [if_pos hm, if_pos hm]; exact ⟨1, rfl, rfl, fun h => (by cases h), fun h => by simp only [Bool.or_eq_true, decide_eq_true_eq] at hm; omega⟩
  rw [if_neg hm, if_neg hm]
  simp only [Bool.or_eq_true, decide_eq_true_eq, not_or] at hm
  by_cases hl : (decide ((l.length : Int) > m)) = true
  · rw [if_pos hl, if_pos hl]; exact ⟨2, rfl, rfl, fun h => (by cases h), fun h => by rw [decide_eq_true_eq] at hl; omega⟩
  rw [if_neg hl, if_neg hl]
  rw [decide_eq_true_eq] at hl
  obtain ⟨b, c, e1, e2, hQ, hQ2⟩ := iter_par (step := F68_l0 F (m, l)) (step' := F67_l0 F (m, l)) (I := fun s : Int => ∃ i : Nat, s = (i : Int) ∧ i ≤ l.length ∧ (∀ x ∈ l.take i, Sh x) ∧ (l.take i).Pairwise (Rl lt)) (μ := fun s => l.length - s.toNat)
    (R := fun (b c : Unit ⊕ Int) => b = c ∧ (b = .inl () ∧ (∀ x ∈ l, Sh x) ∧ l.Pairwise (Rl lt) ∨ ∃ z : Int, b = .inr z ∧ z ≠ 0 ∧ ¬ ((∀ x ∈ l, Sh x) ∧ l.Pairwise (Rl lt)))) (by
    rintro s ⟨i, rfl, hi, hsh, hpw⟩
    unfold F68_l0 F67_l0
    simp only
    by_cases hlt : i < l.length
    · rw [if_pos (decide_eq_true (by omega)), if_pos (decide_eq_true (by omega)), at?_in hlt]
      simp only [Option.bind_some]
      by_cases h12 : (decide ((l[i].length : Int) > 12)) = true
      · right
        rw [if_pos h12, if_pos h12]
        exact ⟨_, _, rfl, rfl, rfl, .inr ⟨2, rfl, by decide, fun h => by
          have := h.1 _ (List.getElem_mem hlt)
          rw [decide_eq_true_eq] at h12
          unfold Sh at this; omega⟩⟩
      rw [if_neg h12, if_neg h12]
      rw [decide_eq_true_eq] at h12
      have hx : Sh l[i] := by unfold Sh; omega
      have ht := take_snoc l i hlt
      have hshn : ∀ x ∈ l.take (i + 1), Sh x := fun x hx2 => by
        rw [ht, List.mem_append] at hx2
        rcases hx2 with k | k
        · exact hsh x k
        · rw [List.mem_singleton.1 k]; exact hx
      by_cases h0 : 0 < i
      · rw [if_pos (decide_eq_true (by omega)), if_pos (decide_eq_true (by omega)), wpred h0 (by omega), at?_in (by omega : i - 1 < l.length)]
        simp only [Option.bind_some]
        have hp : Sh l[i - 1] := hsh _ (by rw [List.mem_iff_getElem]; exact ⟨i - 1, by rw [List.length_take]; omega, by rw [List.getElem_take]⟩)
        have hp' : l[i - 1].length ≤ 12 := hp
        have hx' : l[i].length ≤ 12 := hx
        rw [hO.ah F _ _ (by omega) (by omega) (by omega) (by omega), hO.bf F _ _ (by omega) (by omega) (by omega) (by omega)]
        simp only [Option.bind_some]
        have e : decide (cv lt l[i - 1] l[i] ≥ 0) = !(lt l[i - 1] l[i]) := by
          have := cv_neg (lt := lt) (a := l[i - 1]) (b := l[i])
          cases q : lt l[i - 1] l[i] with
          | true => rw [q] at this; simp only [iff_true] at this; simp only [Bool.not_true, decide_eq_false_iff_not]; omega
          | false => rw [q] at this; simp only [Bool.false_eq_true, iff_false] at this; simp only [Bool.not_false, decide_eq_true_eq]; omega
        rw [e]
        cases q : lt l[i - 1] l[i] with
        | false =>
          right
          exact ⟨_, _, rfl, rfl, rfl, .inr ⟨3, rfl, by decide, fun h => by
            have k := List.pairwise_iff_getElem.1 h.2 (i - 1) i (by omega) hlt (by omega)
            have k : lt l[i - 1] l[i] = true := k
            rw [q] at k; cases k⟩⟩
        | true =>
          left
          simp only [Bool.not_true, Bool.false_eq_true, if_false]
          rw [wsuc (by omega)]
          refine ⟨_, rfl, rfl, ⟨i + 1, rfl, by omega, hshn, ?_⟩, by omega⟩
          rw [ht, List.pairwise_append]
          refine ⟨hpw, by simp, fun a ha b hb => ?_⟩
          rw [List.mem_singleton.1 hb]
          obtain ⟨j, hj, rfl⟩ := List.getElem_of_mem ha
          rw [List.length_take] at hj
          rw [List.getElem_take]
          by_cases hji : j = i - 1
          · subst hji; exact q
          · have := List.pairwise_iff_getElem.1 hpw j (i - 1) (by rw [List.length_take]; omega) (by rw [List.length_take]; omega) (by omega)
            rw [List.getElem_take, List.getElem_take] at this
            exact hO.tr this q
      · left
        rw [if_neg (by rw [decide_eq_true_eq]; omega), if_neg (by rw [decide_eq_true_eq]; omega)]
        simp only [Option.bind_some, Bool.false_eq_true, if_false]
        rw [wsuc (by omega)]
        refine ⟨_, rfl, rfl, ⟨i + 1, rfl, by omega, hshn, ?_⟩, by omega⟩
        have : i = 0 := by omega
        subst this
        rw [ht]; simp
    · right
      rw [if_neg (by rw [decide_eq_true_eq]; omega), if_neg (by rw [decide_eq_true_eq]; omega)]
      have : i = l.length := by omega
      subst this
      rw [List.take_length] at hsh hpw
      exact ⟨_, _, rfl, rfl, rfl, .inl ⟨rfl, hsh, hpw⟩⟩) F 0 ⟨0, rfl, Nat.zero_le _, by simp, by simp⟩ (by simp only [Int.toNat_zero]; omega)
  subst hQ
  rw [e1, e2]
  simp only [Option.bind_some]
  rcases hQ2 with ⟨rfl, h1, h2⟩ | ⟨z, rfl, hz, hn⟩
  · exact ⟨0, rfl, rfl, fun _ => ⟨by omega, by omega, by omega, h1, h2⟩, fun _ => rfl⟩
  · exact ⟨z, rfl, rfl, fun h => absurd h hz, fun h => absurd ⟨h.2.2.2.1, h.2.2.2.2⟩ hn⟩
theorem concat_eq (F : Nat) (a b : List E) (hl : a.length + b.length ≤ 1000) (hF : 10 ≤ F) : F69 F [a, b] = some (a ++ b) := by
  obtain ⟨F, rfl⟩ : ∃ q, F = q + 3 := ⟨F - 3, by omega⟩
  unfold F69
  have l0 : iter (F69_l0 (F + 3) [a, b]) (F + 3) (0, 0) = some ((a.length + b.length : Nat) : Int) := by
    have s0 : F69_l0 (F + 3) [a, b] (0, 0) = some (.more ((a.length : Int), 1)) := by
      unfold F69_l0
      simp only
      rw [if_pos (decide_eq_true (by show (0 : Int) < 2; decide)), show at? [a, b] 0 = some a from rfl, Option.bind_some, w64 (by omega) (by omega), if_neg (by rw [decide_eq_true_eq]; omega), Int.zero_add]
      rfl
    have s1 : F69_l0 (F + 3) [a, b] ((a.length : Int), 1) = some (.more (((a.length + b.length : Nat) : Int), 2)) := by
      unfold F69_l0
      simp only
      rw [if_pos (decide_eq_true (by show (1 : Int) < 2; decide)), show at? [a, b] 1 = some b from rfl, Option.bind_some, wadd (by omega), if_neg (by rw [decide_eq_true_eq]; omega)]
      rfl
    have s2 : F69_l0 (F + 3) [a, b] (((a.length + b.length : Nat) : Int), 2) = some (.stop ((a.length + b.length : Nat) : Int)) := by
      unfold F69_l0
      simp only
      rw [if_neg (by rw [decide_eq_true_eq]; show ¬ (2 : Int) < 2; decide)]
    rw [iter_more s0, iter_more s1, iter_stop s2]
  have l1 : iter (F69_l1 (F + 3) [a, b]) (F + 3) ([], 0) = some (a ++ b) := by
    have s0 : F69_l1 (F + 3) [a, b] ([], 0) = some (.more (a, 1)) := by
      unfold F69_l1
      simp only
      rw [if_pos (decide_eq_true (by show (0 : Int) < 2; decide)), show at? [a, b] 0 = some a from rfl, Option.bind_some, app?_ok (by simp; omega), Option.bind_some]
      rfl
    have s1 : F69_l1 (F + 3) [a, b] (a, 1) = some (.more (a ++ b, 2)) := by
      unfold F69_l1
      simp only
      rw [if_pos (decide_eq_true (by show (1 : Int) < 2; decide)), show at? [a, b] 1 = some b from rfl, Option.bind_some, app?_ok (by omega), Option.bind_some]
      rfl
    have s2 : F69_l1 (F + 3) [a, b] (a ++ b, 2) = some (.stop (a ++ b)) := by
      unfold F69_l1
      simp only
      rw [if_neg (by rw [decide_eq_true_eq]; show ¬ (2 : Int) < 2; decide)]
    rw [iter_more s0, iter_more s1, iter_stop s2]
  rw [l0, Option.bind_some]
  have hg : F133 (F + 3) [] ((a.length + b.length : Nat) : Int) = some [] := by
    unfold F133
    rw [if_pos (by simp only [List.length_nil, Bool.and_eq_true, decide_eq_true_eq]; exact ⟨⟨rfl, by omega⟩, by omega⟩)]
  rw [hg, Option.bind_some, l1]; rfl
/-- What Of answers. -/
theorem of_eq (hO : Ord lt) (F : Nat) (m : Int) (l : List E) (hl : l.length ≤ 8796093022208) (hF : 8796093100000 ≤ F) :
    (¬ (1 ≤ m ∧ m ≤ 30) ∧ F58 F m l = some ((0, []), 1)) ∨ ((1 ≤ m ∧ m ≤ 30) ∧ (∃ x ∈ l, ¬ Sh x) ∧ F58 F m l = some ((0, []), 2)) ∨
    ((1 ≤ m ∧ m ≤ 30) ∧ (∀ x ∈ l, Sh x) ∧ ∃ M : List E, F58 F m l = some ((m, M.take m.toNat), 0) ∧ M.Pairwise (Rl lt) ∧ ∀ x, x ∈ M ↔ x ∈ l) := by
  unfold F58
  by_cases hm : ((decide (m < 1)) || (decide (m > 30))) = true
  · left
    rw [if_pos hm]
    simp only [Bool.or_eq_true, decide_eq_true_eq] at hm
    exact ⟨by omega, rfl⟩
  rw [if_neg hm]
  simp only [Bool.or_eq_true, decide_eq_true_eq, not_or] at hm
  have hs : ∀ i, i < l.length → (∀ j, j < i → decide (((nx e0 l j).length : Int) > 12) = false) → F58_l0 F l ((i : Int), 0, []) = some (if decide (((nx e0 l i).length : Int) > 12) then .stop (.inr (2, 0, [])) else .more (((i + 1 : Nat) : Int), 0, [])) := by
    intro i hi _
    unfold F58_l0
    simp only
    rw [if_pos (decide_eq_true (by omega)), nx_get (d := e0) hi, Option.bind_some, wsuc (by omega)]
    exact ite_some _ _
  have he : (∀ j, j < l.length → decide (((nx e0 l j).length : Int) > 12) = false) → F58_l0 F l ((l.length : Int), 0, []) = some (.stop (.inl (0, []))) := by
    intro _
    unfold F58_l0
    simp only
    rw [if_neg (by rw [decide_eq_true_eq]; omega)]
  right
  rcases seekS (step := F58_l0 F l) (F := F) l.length (fun i => ((i : Int), (0 : Int), ([] : List E))) (fun i => decide (((nx e0 l i).length : Int) > 12)) (fun _ => .inr (2, 0, [])) (.inl (0, [])) hs he (by omega) with ⟨h1, h2⟩ | ⟨i, hi, h1, _, h2⟩
  · right
    have hsh : ∀ x ∈ l, Sh x := fun x hx => by
      obtain ⟨i, hi, rfl⟩ := nx_of (d := e0) hx
      have := h1 i hi
      rw [decide_eq_false_iff_not] at this
      unfold Sh; omega
    have h2' : iter (F58_l0 F l) F (0, 0, []) = some (.inl (0, [])) := h2
    rw [h2', Option.bind_some]
    simp only
    obtain ⟨M, e, k1, k2⟩ := least_eq hO F m.toNat l hsh hl (by omega) (by omega)
    rw [Int.toNat_of_nonneg (by omega)] at e
    rw [e]
    exact ⟨⟨by omega, by omega⟩, hsh, M, rfl, k1, k2⟩
  · left
    have h2' : iter (F58_l0 F l) F (0, 0, []) = some (.inr (2, 0, [])) := h2
    rw [h2', Option.bind_some]
    refine ⟨⟨by omega, by omega⟩, ⟨nx e0 l i, nx_mem hi, ?_⟩, rfl⟩
    rw [decide_eq_true_eq] at h1
    unfold Sh; omega
/-- What Join answers. -/
theorem join_eq (hO : Ord lt) (F : Nat) (m n : Int) (a b : List E) (hF : 3000 ≤ F) : ∃ c : Int, (∃ ca, F67 F (m, a) = some ca ∧ True ∧ ((ca ≠ 0 ∧ c = ca) ∨ (ca = 0 ∧ ∃ cb, F67 F (n, b) = some cb ∧ ((cb ≠ 0 ∧ c = cb) ∨ cb = 0 ∧ (m ≠ n ∧ c = 3 ∨ m = n ∧ c = 0))))) ∧
    (c ≠ 0 → F59 F (m, a) (n, b) = some ((0, []), c)) ∧ (c = 0 → (1 ≤ m ∧ m ≤ 30) ∧ a.length + b.length ≤ 60 ∧ (∀ x ∈ a ++ b, Sh x) ∧ ∃ M : List E, F59 F (m, a) (n, b) = some ((m, M.take m.toNat), 0) ∧ M.Pairwise (Rl lt) ∧ ∀ x, x ∈ M ↔ x ∈ a ++ b) := by
  obtain ⟨ca, e1, e2, h1, _⟩ := check_eq hO F m a (by omega)
  obtain ⟨cb, e3, e4, h2, _⟩ := check_eq hO F n b (by omega)
  generalize hJ : F59 F (m, a) (n, b) = J
  unfold F59 at hJ
  simp only at hJ
  rw [e1, Option.bind_some] at hJ
  by_cases q1 : ca = 0
  · obtain ⟨a1, a2, a3, a4, a5⟩ := h1 q1
    subst q1
    rw [if_neg (by simp), e3, Option.bind_some] at hJ
    by_cases q2 : cb = 0
    · obtain ⟨b1, b2, b3, b4, b5⟩ := h2 q2
      subst q2
      rw [if_neg (by simp)] at hJ
      by_cases q3 : m = n
      · subst q3
        have hsh : ∀ x ∈ a ++ b, Sh x := fun x hx => by
          rcases List.mem_append.1 hx with k | k
          · exact a4 x k
          · exact b4 x k
        obtain ⟨M, e, k1, k2⟩ := least_eq hO F m.toNat (a ++ b) hsh (by rw [List.length_append]; omega) (by omega) (by rw [List.length_append]; omega)
        rw [Int.toNat_of_nonneg (by omega)] at e
        rw [if_neg (by simp), concat_eq F a b (by omega) (by omega), Option.bind_some, e] at hJ
        exact ⟨0, ⟨0, e2, trivial, .inr ⟨rfl, 0, e4, .inr ⟨rfl, .inr ⟨rfl, rfl⟩⟩⟩⟩, fun h => absurd rfl h, fun _ => ⟨⟨a1, a2⟩, by omega, hsh, M, hJ.symm, k1, k2⟩⟩
      · rw [if_pos (by simpa using q3)] at hJ
        exact ⟨3, ⟨0, e2, trivial, .inr ⟨rfl, 0, e4, .inr ⟨rfl, .inl ⟨q3, rfl⟩⟩⟩⟩, fun _ => hJ.symm, fun h => by cases h⟩
    · rw [if_pos (by simpa using q2)] at hJ
      exact ⟨cb, ⟨0, e2, trivial, .inr ⟨rfl, cb, e4, .inl ⟨q2, rfl⟩⟩⟩, fun _ => hJ.symm, fun h => absurd h q2⟩
  · rw [if_pos (by simpa using q1)] at hJ
    exact ⟨ca, ⟨ca, e2, trivial, .inl ⟨q1, rfl⟩⟩, fun _ => hJ.symm, fun h => absurd h q1⟩
end
end Go.Proofs.Ytihmliblbhjlaaa.bot

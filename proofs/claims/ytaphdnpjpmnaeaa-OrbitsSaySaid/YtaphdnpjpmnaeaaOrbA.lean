/- Rows of numbers in order: slices.Compare, the sort of rows, and what CompactFunc leaves of sorted rows. -/
import Derived.Test.YtaphdnpjpmnaeaaPdrF
import Derived.Test.YtaphdnpjpmnaeaaPermC
set_option linter.unusedVariables false
set_option linter.unusedSimpArgs false
namespace Go.Proofs.Ytaphdnpjpmnaeaa.orb
open Go.Am Go.Proofs.Ytaphdnpjpmnaeaa.pdqR

def cvR : List Int → List Int → Int
  | [], [] => 0
  | [], _ :: _ => -1
  | _ :: _, [] => 1
  | a :: x, b :: y => if a < b then -1 else if b < a then 1 else cvR x y
theorem cvR_self : ∀ x, cvR x x = 0
  | [] => rfl
  | a :: x => by unfold cvR; rw [if_neg (by omega), if_neg (by omega), cvR_self x]
theorem cvR_swap : ∀ x y, cvR y x = - cvR x y
  | [], [] => rfl
  | [], _ :: _ => rfl
  | _ :: _, [] => rfl
  | a :: x, b :: y => by
    unfold cvR
    by_cases h : a < b
    · rw [if_neg (by omega), if_pos h, if_pos h]; rfl
    · by_cases h2 : b < a
      · rw [if_pos h2, if_neg h, if_pos h2]
      · rw [if_neg h2, if_neg h, if_neg h, if_neg h2, cvR_swap x y]
theorem cvR_eq : ∀ {x y}, cvR x y = 0 → x = y
  | [], [], _ => rfl
  | [], _ :: _, h => by cases h
  | _ :: _, [], h => by cases h
  | a :: x, b :: y, h => by
    unfold cvR at h
    split at h
    · cases h
    · split at h
      · cases h
      · rw [show a = b from by omega, cvR_eq h]
theorem cvR_tr : ∀ {x y z}, cvR x y ≤ 0 → cvR y z ≤ 0 → cvR x z ≤ 0
  | [], _, [], _, _ => Int.le_refl 0
  | [], _, _ :: _, _, _ => (by omega : (-1 : Int) ≤ 0)
  | _ :: _, [], _, h, _ => absurd (show (1 : Int) ≤ 0 from h) (by omega)
  | _ :: _, _ :: _, [], _, h => absurd (show (1 : Int) ≤ 0 from h) (by omega)
  | a :: x, b :: y, c :: z, h, g => by
    unfold cvR at h g ⊢
    by_cases h1 : a < c
    · rw [if_pos h1]; decide
    · rw [if_neg h1]
      have hab : a ≤ b := by
        by_cases q : b < a
        · rw [if_neg (by omega), if_pos q] at h; omega
        · omega
      have hbc : b ≤ c := by
        by_cases q : c < b
        · rw [if_neg (by omega), if_pos q] at g; omega
        · omega
      rw [if_neg (by omega)]
      rw [if_neg (by omega), if_neg (by omega)] at h g
      exact cvR_tr h g

theorem cmp1 (F : Nat) (a b : Int) : F30 F a b = some (if a < b then -1 else if b < a then 1 else 0) := by
  unfold F30 F47
  rw [Option.bind_some, Option.bind_some, if_neg (by simp), if_neg (by simp)]
  by_cases h : a < b
  · rw [if_pos (decide_eq_true h), if_pos h]
  · rw [if_neg (mt of_decide_eq_true h), if_neg h]
    by_cases h2 : b < a
    · rw [if_pos (decide_eq_true h2), if_pos h2]
    · rw [if_neg (mt of_decide_eq_true h2), if_neg h2]
theorem cmp_loop (F : Nat) (x y : List Int) : ∀ (k i G : Nat), x.length = i + k → i ≤ y.length → k < G → x.length ≤ 1000000 →
    ∃ b, iter (F17_l0 F x y) G (i : Int) = some b ∧ ((b = .inl () ∧ cvR (x.drop i) (y.drop i) = if x.length < y.length then -1 else 0) ∨ b = .inr (cvR (x.drop i) (y.drop i)))
  | 0, i, G, h, hy, hG, hx => by
    obtain ⟨G, rfl⟩ : ∃ q, G = q + 1 := ⟨G - 1, by omega⟩
    refine ⟨.inl (), iter_stop ?_, .inl ⟨rfl, ?_⟩⟩
    · unfold F17_l0
      rw [if_neg (by rw [decide_eq_true_eq]; omega)]
    · rw [List.drop_of_length_le (by omega : x.length ≤ i)]
      by_cases q : x.length < y.length
      · rw [if_pos q, List.drop_eq_getElem_cons (by omega : i < y.length)]; rfl
      · rw [if_neg q, List.drop_of_length_le (by omega : y.length ≤ i)]; rfl
  | k + 1, i, G, h, hy, hG, hx => by
    obtain ⟨G, rfl⟩ : ∃ q, G = q + 1 := ⟨G - 1, by omega⟩
    have hi : i < x.length := by omega
    by_cases q : i < y.length
    · rw [List.drop_eq_getElem_cons hi, List.drop_eq_getElem_cons q]
      by_cases e : (if x[i] < y[i] then (-1 : Int) else if y[i] < x[i] then 1 else 0) = 0
      · have hstep : F17_l0 F x y (i : Int) = some (.more ((i + 1 : Nat) : Int)) := by
          unfold F17_l0
          rw [if_pos (decide_eq_true (by omega)), at?_in hi, Option.bind_some, if_neg (by rw [decide_eq_true_eq]; omega), at?_in q, Option.bind_some, cmp1, Option.bind_some, e, if_neg (by decide), wsuc (by omega)]
        rw [iter_more hstep]
        obtain ⟨b, h1, h2⟩ := cmp_loop F x y k (i + 1) G (by omega) (by omega) (by omega) hx
        refine ⟨b, h1, ?_⟩
        have hc : cvR (x[i] :: x.drop (i + 1)) (y[i] :: y.drop (i + 1)) = cvR (x.drop (i + 1)) (y.drop (i + 1)) := by
          conv => lhs; unfold cvR
          split at e
          · cases e
          · split at e
            · cases e
            · rw [if_neg (by assumption), if_neg (by assumption)]
        rw [hc]; exact h2
      · refine ⟨.inr _, iter_stop ?_, .inr rfl⟩
        unfold F17_l0
        rw [if_pos (decide_eq_true (by omega)), at?_in hi, Option.bind_some, if_neg (by rw [decide_eq_true_eq]; omega), at?_in q, Option.bind_some, cmp1, Option.bind_some, if_pos (by simpa using e)]
        congr 3
        conv => rhs; unfold cvR
        by_cases h1 : x[i] < y[i]
        · rw [if_pos h1, if_pos h1]
        · rw [if_neg h1, if_neg h1]
          by_cases h2 : y[i] < x[i]
          · rw [if_pos h2, if_pos h2]
          · exfalso; apply e; rw [if_neg h1, if_neg h2]
    · refine ⟨.inr 1, iter_stop ?_, .inr ?_⟩
      · unfold F17_l0
        rw [if_pos (decide_eq_true (by omega)), at?_in hi, Option.bind_some, if_pos (decide_eq_true (by omega))]
      · rw [List.drop_eq_getElem_cons hi, List.drop_of_length_le (by omega : y.length ≤ i)]; rfl
theorem compare_eq (F : Nat) (x y : List Int) (hF : 20 ≤ F) (hx : x.length ≤ 10) : F17 F x y = some (cvR x y) := by
  unfold F17
  obtain ⟨b, h1, h2⟩ := cmp_loop F x y x.length 0 F (by omega) (by omega) (by omega) (by omega)
  rw [List.drop_zero, List.drop_zero] at h2
  rw [show (0 : Int) = ((0 : Nat) : Int) from rfl, h1, Option.bind_some]
  rcases h2 with ⟨rfl, h2⟩ | rfl
  · by_cases q : x.length < y.length
    · rw [if_pos q] at h2; rw [h2]; simp only; rw [if_pos (decide_eq_true (by omega))]
    · rw [if_neg q] at h2; rw [h2]; simp only; rw [if_neg (by rw [decide_eq_true_eq]; omega)]; rfl
  · rfl
abbrev Sh (x : List Int) : Prop := x.length ≤ 10
theorem cmpR : Cmp Sh cvR 20 := by
  refine ⟨fun F hF x y hx _ => compare_eq F x y hF hx, fun x _ => by rw [cvR_self]; omega, fun x y z _ _ _ h1 h2 => ?_, fun x y _ _ h => by have := cvR_swap x y; omega⟩
  have a := cvR_swap x y; have b := cvR_swap y z; have c := cvR_swap x z
  have := cvR_tr (x := x) (y := y) (z := z) (by omega) (by omega)
  omega
/-- Ahead, and not behind. -/
abbrev Rl (a b : List Int) : Prop := cvR a b < 0
abbrev Wl (a b : List Int) : Prop := ¬ cvR b a < 0
theorem sortR_eq (F : Nat) (L : List (List Int)) (hs : ∀ x ∈ L, Sh x) (hl : L.length ≤ 1000000) (hF : L.length + 100 ≤ F) : ∃ M, F16_17 F L = some M ∧ M.Perm L ∧ M.Pairwise Wl := by
  obtain ⟨M, h1, h2, h3⟩ := sort_eq (F := F) cmpR (L := L) (fun k hk => hs _ (nx_mem hk)) (by omega) (by omega)
  refine ⟨M, h1, h2, ?_⟩
  rw [List.pairwise_iff_getElem]
  intro i j hi hj hij
  have := h3 i j (Nat.zero_le _) hij hj
  rw [nx_eq hj, nx_eq hi] at this
  exact this
theorem st_uniq : ∀ {L M : List (List Int)}, L.Pairwise Rl → M.Pairwise Rl → (∀ x, x ∈ L ↔ x ∈ M) → L = M
  | [], [], _, _, _ => rfl
  | [], y :: M, _, _, h => by have := (h y).2 (by simp); simp at this
  | x :: L, [], _, _, h => by have := (h x).1 (by simp); simp at this
  | x :: L, y :: M, h1, h2, h => by
    rw [List.pairwise_cons] at h1 h2
    have e : x = y := by
      rcases List.mem_cons.1 ((h x).1 (by simp)) with e | e
      · exact e
      · rcases List.mem_cons.1 ((h y).2 (by simp)) with e' | e'
        · exact e'.symm
        · have a := h1.1 y e'; have b := h2.1 x e
          have := cvR_swap x y
          omega
    subst e
    have : L = M := st_uniq h1.2 h2.2 fun z => by
      constructor
      · intro hz
        rcases List.mem_cons.1 ((h z).1 (List.mem_cons_of_mem _ hz)) with e | e
        · subst e; have a := h1.1 z hz; rw [Rl, cvR_self] at a; omega
        · exact e
      · intro hz
        rcases List.mem_cons.1 ((h z).2 (List.mem_cons_of_mem _ hz)) with e | e
        · subst e; have a := h2.1 z hz; rw [Rl, cvR_self] at a; omega
        · exact e
    rw [this]
theorem st_nodup {L : List (List Int)} (h : L.Pairwise Rl) : L.Nodup := by
  rw [List.nodup_iff_pairwise_ne]
  exact h.imp fun {a b} q e => by subst e; rw [Rl, cvR_self] at q; omega
theorem st_of {L : List (List Int)} (h : L.Pairwise Wl) (hn : L.Nodup) : L.Pairwise Rl := by
  rw [List.nodup_iff_pairwise_ne] at hn
  refine (h.and hn).imp fun {a b} q => ?_
  have h1 := cvR_swap a b
  have h2 : cvR a b ≠ 0 := fun e => q.2 (cvR_eq e)
  have := q.1
  show cvR a b < 0
  omega
theorem dd_ok {eq : List Int → List Int → Option Bool} : ∀ (L : List (List Int)) (p : List Int), (∀ x ∈ p :: L, ∀ y ∈ p :: L, eq x y = some (decide (x = y))) → (p :: L).Pairwise Wl → ∃ M, ddF eq p L = some M ∧ (p :: M).Pairwise Rl ∧ (∀ x, x ∈ p :: M ↔ x ∈ p :: L) ∧ M.length ≤ L.length
  | [], p, _, _ => ⟨[], rfl, by simp, fun x => Iff.rfl, Nat.le_refl _⟩
  | x :: r, p, he, h => by
    rw [List.pairwise_cons] at h
    obtain ⟨M, e, h1, h2, h3⟩ := dd_ok r x (fun a ha b hb => he a (List.mem_cons_of_mem _ ha) b (List.mem_cons_of_mem _ hb)) h.2
    unfold ddF
    rw [he x (by simp) p (by simp), Option.bind_some]
    rw [e, Option.bind_some]
    by_cases q : x = p
    · subst q
      rw [if_pos (by simp)]
      exact ⟨M, rfl, h1, fun z => by rw [h2 z]; simp, by simp; omega⟩
    · rw [if_neg (by simpa using q)]
      have hlt : cvR p x < 0 := by
        have a := h.1 x (by simp)
        have b := cvR_swap p x
        have c : cvR p x ≠ 0 := fun e => q (cvR_eq e).symm
        omega
      refine ⟨x :: M, rfl, ?_, fun z => ?_, by simp; omega⟩
      · rw [List.pairwise_cons]
        refine ⟨fun z hz => ?_, h1⟩
        rw [List.pairwise_cons] at h1
        rcases List.mem_cons.1 hz with e | e
        · subst e; exact hlt
        · have a := h1.1 z e
          have b := cvR_tr (x := p) (y := x) (z := z) (by omega) (by have : cvR x z < 0 := a; omega)
          have c : cvR p z ≠ 0 := fun e2 => by
            have := cvR_eq e2; subst this
            have := cvR_swap p x
            have : cvR x p < 0 := a
            omega
          show cvR p z < 0
          omega
      · rw [List.mem_cons, h2 z, List.mem_cons (b := p)]
theorem compR_ok {eq : List Int → List Int → Option Bool} (L : List (List Int)) (he : ∀ x ∈ L, ∀ y ∈ L, eq x y = some (decide (x = y))) (h : L.Pairwise Wl) (hl : L.length ≤ 1152921504606846976) : ∃ M, compF? eq L = some M ∧ M.Pairwise Rl ∧ (∀ x, x ∈ M ↔ x ∈ L) ∧ M.length ≤ L.length := by
  match L, he, h, hl with
  | [], _, _, _ => exact ⟨[], rfl, by simp, fun _ => Iff.rfl, Nat.le_refl _⟩
  | a :: r, he, h, hl =>
    obtain ⟨M, e, h1, h2, h3⟩ := dd_ok r a he h
    simp only [compF?]
    rw [if_pos hl, e]
    exact ⟨a :: M, rfl, h1, h2, by simp; omega⟩
theorem compactR_eq (F : Nat) (L : List (List Int)) (hs : ∀ x ∈ L, Sh x) (h : L.Pairwise Wl) (hl : L.length ≤ 1000000) (hF : 20 ≤ F) : ∃ M, F25_10 F L = some M ∧ M.Pairwise Rl ∧ (∀ x, x ∈ M ↔ x ∈ L) ∧ M.length ≤ L.length := by
  unfold F25_10
  rw [if_pos (by omega)]
  exact compR_ok L (fun x hx y _ => equal_eq F x y (by have := hs x hx; omega) (by have := hs x hx; omega)) h (by omega)
end Go.Proofs.Ytaphdnpjpmnaeaa.orb

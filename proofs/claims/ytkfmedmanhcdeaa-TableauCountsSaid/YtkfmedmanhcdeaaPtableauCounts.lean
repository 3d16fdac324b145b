/- What the functional texts of tableau.Count and its reference answer. -/
import Derived.Test.YtkfmedmanhcdeaaPureB
import Derived.Test.YtkfmedmanhcdeaaMono
import Derived.Test.YtkfmedmanhcdeaaPtableauB
set_option linter.unusedVariables false
set_option linter.unusedSimpArgs false
namespace Go.Proofs.Ytkfmedmanhcdeaa
open Go.Am

theorem at?_nthS {p : List Int} {i : Nat} (h : i < p.length) : at? p (i : Int) = some (nthS p i) := by
  rw [at?_in h]; simp [nthS, h]
theorem nthS_out {p : List Int} {i : Nat} (h : p.length ≤ i) : nthS p i = 0 := by simp [nthS, h]
def sumS (L : List Int) : Nat → Int
  | 0 => 0
  | i + 1 => sumS L i + nthS L i

/-! ### A shape: rows that do not grow -/
structure Shape (L : List Int) : Prop where
  pos : ∀ i, i < L.length → 1 ≤ nthS L i
  dec : ∀ i, i + 1 < L.length → nthS L (i + 1) ≤ nthS L i
  sum : sumS L L.length ≤ 12
theorem sumS_ge {L : List Int} (h : ∀ i, i < L.length → 1 ≤ nthS L i) : ∀ k, k ≤ L.length → (k : Int) ≤ sumS L k
  | 0, _ => Int.le_refl _
  | k + 1, hk => by have := sumS_ge h k (by omega); have := h k (by omega); simp only [sumS]; omega
theorem sumS_mono {L : List Int} (h : ∀ i, i < L.length → 0 ≤ nthS L i) {j : Nat} : ∀ k, j ≤ k → k ≤ L.length → sumS L j ≤ sumS L k
  | 0, h1, _ => by rw [show j = 0 from by omega]; exact Int.le_refl _
  | k + 1, h1, h2 => by
    by_cases e : j = k + 1
    · subst e; exact Int.le_refl _
    · have := sumS_mono (L := L) h (j := j) k (by omega) (by omega); have := h k (by omega); simp only [sumS]; omega

/-- The check, told of a shape that begins as pre. -/
theorem allP_all : ∀ (f : Nat) (suf : List Int) (left most : Nat) (pre : List Int), allP f left most pre = true → suf.length < f → (∀ x ∈ suf, 1 ≤ x) → (∀ i, i + 1 < suf.length → nthS suf (i + 1) ≤ nthS suf i) → nthS suf 0 ≤ most → sumS suf suf.length ≤ left → okS (pre ++ suf) = true
  | 0, _, _, _, _, _, h, _, _, _, _ => by omega
  | f + 1, [], left, most, pre, h, _, _, _, _, _ => by
    simp only [allP, Bool.and_eq_true] at h
    rw [List.append_nil]; exact h.1
  | f + 1, x :: suf, left, most, pre, h, hl, hp, hd, hm, hs => by
    simp only [allP, Bool.and_eq_true, List.all_eq_true, List.mem_range] at h
    have hx := hp x (by simp)
    have hx0 : nthS (x :: suf) 0 = x := rfl
    rw [hx0] at hm
    have hsum : ∀ k, sumS (x :: suf) (k + 1) = x + sumS suf k := by
      intro k
      induction k with
      | zero => simp [sumS, nthS]
      | succ k ih => rw [sumS, ih, sumS]; simp only [nthS, List.getElem?_cons_succ]; omega
    rw [List.length_cons, hsum] at hs
    have hpos : 0 ≤ sumS suf suf.length := by
      have := sumS_ge (L := suf) (fun i hi => hp _ (by simp only [nthS]; rw [List.getElem?_eq_getElem hi]; simp)) suf.length (Nat.le_refl _)
      omega
    have h1 := h.2 (x.toNat - 1) (by omega)
    rw [show x.toNat - 1 + 1 = x.toNat from by omega, show ((x.toNat : Nat) : Int) = x from by omega] at h1
    have := allP_all f suf (left - x.toNat) x.toNat (pre ++ [x]) h1 (by simpa using hl) (fun y hy => hp y (by simp [hy])) (fun i hi => by
      have := hd (i + 1) (by simpa using hi)
      simpa [nthS] using this) (by
        by_cases e : suf.length = 0
        · rw [nthS_out (by omega)]; omega
        · have := hd 0 (by simp; omega)
          simp only [nthS, List.getElem?_cons_succ, List.getElem?_cons_zero] at this ⊢
          simp only [Option.getD_some] at this
          omega) (by omega)
    rwa [List.append_assoc] at this
theorem shape_ok {L : List Int} (h : Shape L) : okS L = true := by
  have hl := sumS_ge h.pos L.length (Nat.le_refl _)
  have hs := h.sum
  have := allP_all 14 L 12 12 [] allP_ok (by omega) (fun x hx => by
    obtain ⟨i, hi, rfl⟩ := List.getElem_of_mem hx
    have := h.pos i hi
    simpa [nthS, hi] using this) h.dec (by
      by_cases e : L.length = 0
      · rw [nthS_out (by omega)]; omega
      · have := sumS_mono (fun i hi => by have := h.pos i hi; omega) (j := 1) L.length (by omega) (Nat.le_refl _)
        simp only [sumS] at this
        omega) (by omega)
  simpa using this

/-! ### The reference's count -/
def pad (L : List Int) (z : Nat) : List Int := L ++ List.replicate z 0
theorem pad_len (L : List Int) (z : Nat) : (pad L z).length = L.length + z := by simp [pad]
theorem pad_nth (L : List Int) (z i : Nat) : nthS (pad L z) i = nthS L i := by
  simp only [pad, nthS]
  by_cases h : i < L.length
  · rw [List.getElem?_append_left h]
  · rw [List.getElem?_append_right (by omega), List.getElem?_eq_none (l := L) (by omega), List.getElem?_replicate]
    split <;> rfl
theorem hk_pad (L : List Int) (z : Nat) : hk (pad L z) = hk L := by
  unfold hk pad
  rw [List.filter_append]
  have : List.filter (fun x : Int => decide (0 < x)) (List.replicate z 0) = [] := by
    rw [List.filter_eq_nil_iff]; intro a ha; rw [List.mem_replicate] at ha; rw [ha.2]; decide
  rw [this, List.append_nil]
theorem pad_set (L : List Int) (z i : Nat) (x : Int) (h : i < L.length) : (pad L z).set i x = pad (L.set i x) z := by
  unfold pad; rw [List.set_append_left _ _ h]
theorem corner_pad (L : List Int) (z i : Nat) : corner (pad L z) i = corner L i := by
  unfold corner; rw [pad_nth, pad_nth]
theorem corner_lt {L : List Int} {i : Nat} (h : corner L i = true) : i < L.length := by
  unfold corner at h
  simp only [Bool.and_eq_true, decide_eq_true_eq] at h
  rcases Nat.lt_or_ge i L.length with h1 | h1
  · exact h1
  · rw [nthS_out h1] at h; omega
theorem cornerS_pad (L : List Int) (z : Nat) : ∀ k, cornerS (pad L z) k = cornerS L k
  | 0 => rfl
  | k + 1 => by
    simp only [cornerS]
    rw [cornerS_pad L z k, corner_pad]
    by_cases h : corner L k = true
    · rw [if_pos h, if_pos h, pad_set _ _ _ _ (corner_lt h), hk_pad, pad_nth]
    · rw [if_neg h, if_neg h]
theorem cornerS_out (L : List Int) : ∀ k, L.length ≤ k → cornerS L k = cornerS L L.length := by
  intro k
  induction k with
  | zero => intro h; rw [show L.length = 0 from by omega]
  | succ k ih =>
    intro h
    by_cases e : L.length = k + 1
    · rw [e]
    · have hc : ¬ corner L k = true := fun hc => by have := corner_lt hc; omega
      simp only [cornerS]
      rw [if_neg hc, ih (by omega)]; omega
theorem hk_of {L : List Int} (h : Shape L) : ∃ v, F19 60 L = some (v, 0) ∧ hk L = v ∧ 0 ≤ v ∧ v ≤ 479001600 ∧ (L ≠ [] → cornerS L L.length = v) := by
  have ok := shape_ok h
  have hf : (L.filter fun x => decide (0 < x)) = L := by
    rw [List.filter_eq_self]; intro x hx
    obtain ⟨i, hi, rfl⟩ := List.getElem_of_mem hx
    have := h.pos i hi
    simp only [nthS, List.getElem?_eq_getElem hi, Option.getD_some] at this
    exact decide_eq_true (by omega)
  unfold okS at ok
  split at ok
  · rename_i r hr
    simp only [Bool.and_eq_true, beq_iff_eq, decide_eq_true_eq, Bool.or_eq_true] at ok
    obtain ⟨⟨⟨h1, h2⟩, h3⟩, h4⟩ := ok
    refine ⟨r.1, ?_, ?_, h2, h3, fun hne => ?_⟩
    · rw [hr]; obtain ⟨a, b⟩ := r; simp only at h1; rw [h1]
    · unfold hk; rw [hf, hr]
    · rcases h4 with h4 | h4
      · simp at h4; exact (hne h4).elim
      · exact h4
  · cases ok
theorem sumS_set {L : List Int} {i : Nat} (hi : i < L.length) (x : Int) : ∀ k, sumS (L.set i x) k = sumS L k + if i < k then x - nthS L i else 0
  | 0 => by simp [sumS]
  | k + 1 => by
    simp only [sumS]
    rw [sumS_set hi x k]
    by_cases e : i = k
    · subst e
      rw [if_neg (by omega), if_pos (by omega)]
      simp [nthS, hi]; omega
    · have : nthS (L.set i x) k = nthS L k := by simp [nthS, List.getElem?_set_ne e]
      rw [this]
      by_cases h : i < k
      · rw [if_pos h, if_pos (by omega)]; omega
      · rw [if_neg h, if_neg (by omega)]; omega
/-- A corner taken off: a shape again. -/
theorem corner_off {L : List Int} (h : Shape L) {i : Nat} (hc : corner L i = true) : ∃ M z, L.set i (nthS L i - 1) = pad M z ∧ Shape M ∧ sumS M M.length + 1 = sumS L L.length := by
  have hi := corner_lt hc
  unfold corner at hc
  simp only [Bool.and_eq_true, decide_eq_true_eq] at hc
  have hn : ∀ k, nthS (L.set i (nthS L i - 1)) k = if k = i then nthS L i - 1 else nthS L k := by
    intro k
    by_cases e : k = i
    · subst e; rw [if_pos rfl]; simp [nthS, hi]
    · rw [if_neg e]; simp [nthS, List.getElem?_set_ne (Ne.symm e)]
  have hsum := sumS_set hi (nthS L i - 1) L.length
  rw [if_pos hi] at hsum
  by_cases h1 : nthS L i = 1
  · -- the last row is gone
    have hlast : i + 1 = L.length := by
      rcases Nat.lt_or_ge (i + 1) L.length with h2 | h2
      · have := h.pos (i + 1) h2; omega
      · omega
    have e : L.set i (nthS L i - 1) = pad (L.take i) 1 := by
      rw [h1]
      apply List.ext_getElem?
      intro k
      unfold pad
      rw [List.getElem?_set]
      by_cases e : i = k
      · subst e
        rw [if_pos rfl, if_pos hi, List.getElem?_append_right (by simp; omega)]
        simp [List.length_take, Nat.min_eq_left (Nat.le_of_lt hi)]
      · rw [if_neg e]
        by_cases h3 : k < i
        · rw [List.getElem?_append_left (by simp; omega), List.getElem?_take_of_lt h3]
        · rw [List.getElem?_eq_none (by omega), List.getElem?_eq_none (by simp; omega)]
    have hnt : ∀ k, k < i → nthS (L.take i) k = nthS L k := fun k hk => by simp [nthS, List.getElem?_take_of_lt hk]
    have hst : ∀ k, k ≤ i → sumS (L.take i) k = sumS L k := by
      intro k
      induction k with
      | zero => intro _; rfl
      | succ k ih => intro hk; simp only [sumS]; rw [ih (by omega), hnt k (by omega)]
    have hlen : (L.take i).length = i := by simp; omega
    have hs2 : sumS L L.length = sumS L i + 1 := by rw [← hlast, sumS, h1]
    have := h.sum
    refine ⟨L.take i, 1, e, ⟨fun k hk => ?_, fun k hk => ?_, ?_⟩, ?_⟩
    · rw [hlen] at hk; rw [hnt k hk]; exact h.pos k (by omega)
    · rw [hlen] at hk; rw [hnt k (by omega), hnt _ hk]; exact h.dec k (by omega)
    · rw [hlen, hst i (Nat.le_refl _)]; omega
    · rw [hlen, hst i (Nat.le_refl _)]; omega
  · have := h.sum
    refine ⟨L.set i (nthS L i - 1), 0, by simp [pad], ⟨fun k hk => ?_, fun k hk => ?_, ?_⟩, ?_⟩
    · rw [List.length_set] at hk
      rw [hn]
      split
      · omega
      · exact h.pos k hk
    · rw [List.length_set] at hk
      rw [hn, hn]
      have := h.dec k hk
      by_cases e1 : k = i
      · subst e1; rw [if_pos rfl, if_neg (by omega)]; omega
      · rw [if_neg e1]
        split
        · rename_i e2; rw [← e2]; omega
        · exact this
    · rw [List.length_set, hsum]; omega
    · rw [List.length_set, hsum]; omega
theorem hk_corner {L : List Int} (h : Shape L) {i : Nat} (hc : corner L i = true) : 0 ≤ hk (L.set i (nthS L i - 1)) ∧ hk (L.set i (nthS L i - 1)) ≤ 479001600 := by
  obtain ⟨M, z, e, hM, _⟩ := corner_off h hc
  obtain ⟨v, _, h2, h3, h4, _⟩ := hk_of hM
  rw [e, hk_pad, h2]; exact ⟨h3, h4⟩
theorem cornerS_range {L : List Int} (h : Shape L) : ∀ k, 0 ≤ cornerS L k ∧ cornerS L k ≤ 479001600 * k
  | 0 => by simp [cornerS]
  | k + 1 => by
    have := cornerS_range h k
    simp only [cornerS]
    split
    · rename_i hc; have := hk_corner h hc; omega
    · omega

theorem refSum_eq (F : Nat) (L : List Int) (hr : ∀ k, k ≤ L.length → 0 ≤ sumS L k ∧ sumS L k ≤ 12) (hF : L.length < F) (hl : L.length ≤ 1000) : iter (F21_l0 F L) F (0, 0) = some (sumS L L.length) := by
  refine iter_count (step := F21_l0 F L) (fun i => (sumS L i, (i : Int))) L.length ?_ ?_ hF
  · intro i hi
    unfold F21_l0
    simp only
    have h1 := hr i (by omega)
    have h2 := hr (i + 1) (by omega)
    simp only [sumS] at h2
    rw [if_pos (decide_eq_true (by omega)), at?_nthS hi, Option.bind_some, w64 (by omega) (by omega), w64 (by omega) (by omega)]
    rfl
  · unfold F21_l0
    simp only
    rw [if_neg (by simp)]
theorem pad_sum (L : List Int) (z : Nat) : ∀ k, sumS (pad L z) k = sumS L k
  | 0 => rfl
  | k + 1 => by simp only [sumS]; rw [pad_sum L z k, pad_nth]
theorem sumS_out (L : List Int) : ∀ k, L.length ≤ k → sumS L k = sumS L L.length := by
  intro k
  induction k with
  | zero => intro h; rw [show L.length = 0 from by omega]
  | succ k ih =>
    intro h
    by_cases e : L.length = k + 1
    · rw [e]
    · simp only [sumS]; rw [nthS_out (by omega), ih (by omega)]; omega

theorem refShapes_eq : ∀ (n F : Nat) (L : List Int) (z : Nat), Shape L → sumS L L.length = n → L.length + z ≤ 12 → n ≤ 12 → 30 + n < F → F21 F (pad L z) = some (hk L) := by
  intro n
  induction n with
  | zero =>
    intro F L z h hs hz hn hF
    obtain ⟨F, rfl⟩ : ∃ G, F = G + 1 := ⟨F - 1, by omega⟩
    have hl := sumS_ge h.pos L.length (Nat.le_refl _)
    have : L = [] := List.eq_nil_of_length_eq_zero (by omega)
    subst this
    rw [F21]
    try dsimp only
    rw [refSum_eq F _ (fun k hk => by rw [pad_sum, sumS_out [] k (by simp)]; simp [sumS]) (by rw [pad_len]; simp; omega) (by rw [pad_len]; simp; omega), Option.bind_some, pad_sum, sumS_out [] _ (by simp)]
    rw [if_pos (by simp [sumS])]
    rfl
  | succ n ih =>
    intro F L z h hs hz hn hF
    obtain ⟨F, rfl⟩ : ∃ G, F = G + 1 := ⟨F - 1, by omega⟩
    have hl := sumS_ge h.pos L.length (Nat.le_refl _)
    have hne : L ≠ [] := by intro e; subst e; simp [sumS] at hs; omega
    obtain ⟨v, _, hv, hv1, hv2, hv3⟩ := hk_of h
    have hlen : (pad L z).length ≤ 24 := by rw [pad_len]; omega
    have hsr : ∀ k, 0 ≤ sumS L k ∧ sumS L k ≤ 12 := by
      intro k
      rcases Nat.le_total k L.length with hk | hk
      · have h1 := sumS_mono (fun i hi => by have := h.pos i hi; omega) (j := k) L.length hk (Nat.le_refl _)
        have h2 := sumS_ge h.pos k hk
        omega
      · rw [sumS_out L k hk]; omega
    rw [F21]
    try dsimp only
    rw [refSum_eq F _ (fun k hk => by rw [pad_sum]; exact hsr k) (by omega) (by omega), Option.bind_some, pad_sum, sumS_out L _ (by rw [pad_len]; omega)]
    rw [if_neg (by rw [hs]; simp; omega)]
    have := iter_count (step := F21_l1 F (pad L z) (F21 F)) (F := F) (fun i => (cornerS L i, (i : Int))) (b := v) (pad L z).length ?_ ?_ (by omega)
    · rw [show ((0 : Int), (0 : Int)) = (cornerS L 0, ((0 : Nat) : Int)) from rfl, this, hv]; rfl
    · intro i hi
      have hcr := cornerS_range h i
      have hcr2 := cornerS_range h (i + 1)
      have e95 : F95 F (pad L z) = some (pad L z) := by
        unfold F95; rw [if_pos (by omega)]
      unfold F21_l1
      simp only
      rw [if_pos (decide_eq_true (by omega)), at?_nthS hi, Option.bind_some, w64 (a := ((pad L z).length : Int) - 1) (by omega) (by omega), w64 (a := (i : Int) + 1) (by omega) (by omega)]
      simp only [pad_nth]
      -- the corner's test
      have hbody : (if decide (nthS L i > 0) = true then ((if ((i : Int) == ((pad L z).length : Int) - 1) = true then some true else ((at? (pad L z) ((i : Int) + 1)).bind fun x22 => some (decide (x22 < nthS L i)))).bind fun y25 => some y25) else some false) = some (corner L i) := by
        unfold corner
        by_cases h0 : 0 < nthS L i
        · rw [if_pos (decide_eq_true h0), decide_eq_true h0, Bool.true_and]
          by_cases h1 : i + 1 = (pad L z).length
          · rw [if_pos (by simp; omega), Option.bind_some]
            have := pad_nth L z (i + 1)
            rw [nthS_out (by omega)] at this
            rw [← this, decide_eq_true h0]
          · rw [if_neg (by simp; omega), show (i : Int) + 1 = ((i + 1 : Nat) : Int) from rfl, at?_nthS (by omega), Option.bind_some, pad_nth, Option.bind_some]
        · rw [if_neg (by simpa using h0)]
          simp [h0]
      rw [hbody, Option.bind_some]
      simp only [cornerS]
      by_cases hc : corner L i = true
      · rw [if_pos hc, if_pos hc, e95, Option.bind_some, at?_nthS hi, Option.bind_some, ck_ok hi, Option.bind_some, pad_nth, Int.toNat_natCast, pad_set _ _ _ _ (corner_lt hc)]
        obtain ⟨M, z2, e, hM, hs2⟩ := corner_off h hc
        have hw : wrapA .i64 (nthS L i - 1) = nthS L i - 1 := by
          have h1 := hsr (i + 1)
          have h2 := hsr i
          simp only [sumS] at h1
          exact w64 (by omega) (by omega)
        have hlm := congrArg List.length e
        rw [List.length_set, pad_len] at hlm
        have hml := sumS_ge hM.pos M.length (Nat.le_refl _)
        have hih := ih F M (z2 + z) hM (by omega) (by omega) (by omega) (by omega)
        have epad : pad (pad M z2) z = pad M (z2 + z) := by unfold pad; rw [List.append_assoc, List.replicate_append_replicate]
        rw [hw, e, epad, hih, Option.bind_some, hk_pad]
        simp only [cornerS, if_pos hc] at hcr2
        rw [e, hk_pad] at hcr2
        rw [w64 (by omega) (by omega)]
        rfl
      · rw [if_neg hc, if_neg hc, Int.add_zero]
        rfl
    · unfold F21_l1
      simp only
      rw [if_neg (by simp), pad_len, cornerS_out L _ (by omega), hv3 hne]

/-! ### Is it a shape? -/
structure Part (L : List Int) (i : Nat) : Prop where
  le : i ≤ L.length
  pos : ∀ k, k < i → 1 ≤ nthS L k
  dec : ∀ k, k + 1 < i → nthS L (k + 1) ≤ nthS L k
  sum : sumS L i ≤ 12
theorem Part.i12 {L : List Int} {i : Nat} (h : Part L i) : (i : Int) ≤ sumS L i ∧ i ≤ 12 := by
  have hs := h.sum
  have : ∀ k, k ≤ i → (k : Int) ≤ sumS L k := by
    intro k
    induction k with
    | zero => intro _; exact Int.le_refl _
    | succ k ih => intro hk; have := ih (by omega); have := h.pos k (by omega); simp only [sumS]; omega
  have := this i (Nat.le_refl _)
  omega
theorem form_both (F : Nat) (L : List Int) (hF : 20 ≤ F) : ∃ (b : Int ⊕ (Int × Int)) (c : Unit ⊕ Int), iter (F19_l0 F L) F (0, 0) = some b ∧ iter (F20_l0 F L) F (0, 0) = some c ∧ ((c = .inl () ∧ Shape L) ∨ ∃ e : Int, e ≠ 0 ∧ b = .inr (0, e) ∧ c = .inr e) := by
  refine iter_par (step := F19_l0 F L) (step' := F20_l0 F L) (I := fun s : Int × Int => ∃ i : Nat, s = (sumS L i, (i : Int)) ∧ Part L i) (μ := fun s : Int × Int => 13 - s.2.toNat) _ ?_ F _ ⟨0, rfl, ⟨by omega, by omega, by omega, by simp [sumS]⟩⟩ (by simp only; omega)
  rintro _ ⟨i, rfl, h⟩
  have ⟨h1, h2⟩ := h.i12
  have h3 := h.sum
  unfold F19_l0 F20_l0
  simp only
  by_cases hi : i < L.length
  · rw [if_pos (decide_eq_true (by omega)), if_pos (decide_eq_true (by omega)), at?_nthS hi, Option.bind_some, Option.bind_some]
    by_cases hx : nthS L i < 1 ∨ nthS L i > 12
    · right
      have hx' : (decide (nthS L i < 1) || decide (nthS L i > 12)) = true := by simpa using hx
      simp only [if_pos hx']
      exact ⟨_, _, rfl, rfl, .inr ⟨1, by decide, rfl, rfl⟩⟩
    · have hx' : ¬ (decide (nthS L i < 1) || decide (nthS L i > 12)) = true := by simpa using hx
      simp only [if_neg hx']
      have hd : (if decide ((i : Int) > 0) = true then ((at? L (wrapA .i64 ((i : Int) - 1))).bind fun x13 => some (decide (nthS L i > x13))) else some false) = some (decide (0 < i ∧ nthS L (i - 1) < nthS L i)) := by
        by_cases h0 : 0 < i
        · rw [if_pos (decide_eq_true (by omega)), w64 (by omega) (by omega), show (i : Int) - 1 = ((i - 1 : Nat) : Int) from by omega, at?_nthS (by omega), Option.bind_some]
          simp [h0]
        · rw [if_neg (by simp; omega)]; simp [h0]
      rw [hd]
      simp only [Option.bind_some]
      by_cases hg : 0 < i ∧ nthS L (i - 1) < nthS L i
      · right
        simp only [if_pos (decide_eq_true hg)]
        exact ⟨_, _, rfl, rfl, .inr ⟨3, by decide, rfl, rfl⟩⟩
      · have hg' : ¬ decide (0 < i ∧ nthS L (i - 1) < nthS L i) = true := by rw [decide_eq_true_eq]; exact hg
        simp only [if_neg hg']
        rw [w64 (a := sumS L i + nthS L i) (by omega) (by omega), w64 (a := (i : Int) + 1) (by omega) (by omega)]
        by_cases hs : sumS L i + nthS L i > 12
        · right
          simp only [if_pos (decide_eq_true hs)]
          exact ⟨_, _, rfl, rfl, .inr ⟨2, by decide, rfl, rfl⟩⟩
        · left
          have hs' : ¬ decide (sumS L i + nthS L i > 12) = true := by rw [decide_eq_true_eq]; exact hs
          simp only [if_neg hs']
          have hp : Part L (i + 1) := by
            refine ⟨hi, fun k hk => ?_, fun k hk => ?_, by simp only [sumS]; omega⟩
            · by_cases e : k = i
              · subst e; omega
              · exact h.pos k (by omega)
            · by_cases e : k + 1 = i
              · subst e; simp at hg; omega
              · exact h.dec k (by omega)
          have := hp.i12
          exact ⟨_, rfl, rfl, ⟨i + 1, rfl, hp⟩, by simp only; omega⟩
  · right
    rw [if_neg (by simpa using hi), if_neg (by simpa using hi)]
    have e : i = L.length := by have := h.le; omega
    subst e
    exact ⟨_, _, rfl, rfl, .inl ⟨rfl, ⟨h.pos, h.dec, h.sum⟩⟩⟩

theorem PtableauCounts.holds (t0 : List (Int)) (h0 : (t0.length ≤ maxLen ∧ ∀ a ∈ t0, inR .i64 a)) : ∃ F, F4 F t0 = some true := by
  refine ⟨60, ?_⟩
  obtain ⟨b, c, hb, hc, hq⟩ := form_both 60 t0 (by decide)
  unfold F4
  rcases hq with ⟨rfl, hS⟩ | ⟨e, he, rfl, rfl⟩
  · obtain ⟨v, e19, e2, _⟩ := hk_of hS
    have hl := sumS_ge hS.pos t0.length (Nat.le_refl _)
    have hs := hS.sum
    have e21 := refShapes_eq (sumS t0 t0.length).toNat 60 t0 0 hS (by omega) (by omega) (by omega) (by omega)
    rw [show pad t0 0 = t0 from by simp [pad]] at e21
    unfold F20
    rw [e19, hc, Option.bind_some, Option.bind_some, Option.bind_some, e21, Option.bind_some, e2]
    simp
  · unfold F19 F20
    rw [hb, hc]
    simp [he]
end Go.Proofs.Ytkfmedmanhcdeaa

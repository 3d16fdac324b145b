/- More plain laws of the functional texts' words: loops over a list. -/
import Derived.Test.YtaphdnpjpmnaeabDoorPure
namespace Go.Am

theorem sub?_ok {α : Type} {L : List α} {a b : Nat} (h : a ≤ b) (h2 : b ≤ L.length) : sub? L (a : Int) (b : Int) = some ((L.take b).drop a) := by
  unfold sub?; rw [if_pos (by omega)]; rfl
theorem sub?_from {α : Type} {L : List α} {a : Nat} (h : a ≤ L.length) : sub? L (a : Int) (L.length : Int) = some (L.drop a) := by
  rw [sub?_ok h (Nat.le_refl _), List.take_length]
theorem sub?_to {α : Type} {L : List α} {b : Nat} (h : b ≤ L.length) : sub? L 0 (b : Int) = some (L.take b) := by
  rw [show (0 : Int) = ((0 : Nat) : Int) from rfl, sub?_ok (Nat.zero_le _) h, List.drop_zero]
theorem sub?_mid {α : Type} {L : List α} {a k : Nat} (h : a + k ≤ L.length) : sub? L (a : Int) ((a : Int) + (k : Int)) = some ((L.drop a).take k) := by
  rw [← Int.natCast_add, sub?_ok (Nat.le_add_right _ _) h, List.drop_take]; congr 2; omega
theorem set?_in {α : Type} {L : List α} {i : Nat} {x : α} (h : i < L.length) : set? L (i : Int) x = some (L.set i x) := by
  unfold set?; rw [if_pos (by omega)]; rfl
theorem at?_out {α : Type} {L : List α} {i : Nat} (h : L.length ≤ i) : at? L (i : Int) = none := by
  unfold at?; rw [if_pos (by omega)]; simpa using h

/-- A loop that seeks the first that is p. -/
theorem find_loop {α β : Type} {step : Int → Option (Stp Int (Unit ⊕ β))} {F : Nat} (L : List α) (p : α → Bool) (g : Nat → α → β)
    (hs : ∀ (i : Nat) (h : i < L.length), step (i : Int) = some (if p L[i] then .stop (.inr (g i L[i])) else .more ((i + 1 : Nat) : Int)))
    (he : step (L.length : Int) = some (.stop (.inl ()))) (hF : L.length < F) :
    ((∀ x ∈ L, p x = false) ∧ iter step F 0 = some (.inl ())) ∨ ∃ (i : Nat) (h : i < L.length), p L[i] = true ∧ (∀ (j : Nat) (hj : j < i), p (L[j]'(by omega)) = false) ∧ iter step F 0 = some (.inr (g i L[i])) := by
  have hmore : ∀ j, j < L.findIdx p → step (j : Int) = some (.more ((j + 1 : Nat) : Int)) := by
    intro j hj
    have hl : j < L.length := Nat.lt_of_lt_of_le hj List.findIdx_le_length
    rw [hs j hl, if_neg (by simpa using List.not_of_lt_findIdx hj)]
  by_cases h : L.findIdx p < L.length
  · right
    refine ⟨L.findIdx p, h, List.findIdx_getElem, fun j hj => by simpa using List.not_of_lt_findIdx hj, ?_⟩
    refine iter_count (step := step) (fun i => (i : Int)) (L.findIdx p) hmore ?_ (by omega)
    rw [hs _ h, if_pos List.findIdx_getElem]
  · left
    have e : L.findIdx p = L.length := Nat.le_antisymm List.findIdx_le_length (by omega)
    refine ⟨List.findIdx_eq_length.1 e, ?_⟩
    rw [e] at hmore
    exact iter_count (step := step) (fun i => (i : Int)) L.length hmore he hF

/-- A loop that gathers. -/
theorem iter_fold {α σ β : Type} {step : σ × Int → Option (Stp (σ × Int) β)} {F : Nat} (L : List α) (f : σ → α → σ) (a : σ) (b : β)
    (hs : ∀ (i : Nat) (h : i < L.length), step ((L.take i).foldl f a, (i : Int)) = some (.more (f ((L.take i).foldl f a) L[i], ((i + 1 : Nat) : Int))))
    (he : step (L.foldl f a, (L.length : Int)) = some (.stop b)) (hF : L.length < F) : iter step F (a, 0) = some b := by
  have := iter_count (step := step) (F := F) (b := b) (fun i => ((L.take i).foldl f a, (i : Int))) L.length (fun i hi => ?_) (by rw [List.take_length]; exact he) hF
  · simpa using this
  · rw [hs i hi, List.take_add_one, List.getElem?_eq_getElem hi]
    simp only [Option.toList_some, List.foldl_append, List.foldl_cons, List.foldl_nil]

theorem foldl_inv {α σ : Type} (I : σ → Prop) (f : σ → α → σ) : ∀ (L : List α) (a : σ), I a → (∀ s x, x ∈ L → I s → I (f s x)) → I (L.foldl f a)
  | [], _, h, _ => h
  | x :: L, a, h, k => foldl_inv I f L (f a x) (k a x (by simp) h) fun s y hy => k s y (by simp [hy])

/-- any, as a first place. -/
theorem any_of_first {α : Type} {L : List α} {p : α → Bool} {i : Nat} (h : i < L.length) (hp : p L[i] = true) : L.any p = true := by
  rw [List.any_eq_true]; exact ⟨_, List.getElem_mem h, hp⟩
theorem any_none {α : Type} {L : List α} {p : α → Bool} (h : ∀ x ∈ L, p x = false) : L.any p = false := by
  rw [List.any_eq_false]; intro x hx; rw [h x hx]; decide
/-- A loop that asks whether any is p. -/
theorem any_loop {α β : Type} {step : Int → Option (Stp Int (Unit ⊕ β))} {F : Nat} (L : List α) (p : α → Bool) (c : β)
    (hs : ∀ (i : Nat) (h : i < L.length), step (i : Int) = some (if p L[i] then .stop (.inr c) else .more ((i + 1 : Nat) : Int)))
    (he : step (L.length : Int) = some (.stop (.inl ()))) (hF : L.length < F) : iter step F 0 = some (if L.any p then .inr c else .inl ()) := by
  rcases find_loop L p (fun _ _ => c) hs he hF with ⟨h1, h2⟩ | ⟨i, h, h1, _, h2⟩
  · rw [h2, any_none h1]; rfl
  · rw [h2, any_of_first h h1]; rfl
/-- A loop that seeks the first place that is p. -/
theorem seek_loop {β : Type} {step : Int → Option (Stp Int (Unit ⊕ β))} {F : Nat} (N : Nat) (p : Nat → Bool) (g : Nat → β)
    (hs : ∀ (i : Nat), i < N → step (i : Int) = some (if p i then .stop (.inr (g i)) else .more ((i + 1 : Nat) : Int)))
    (he : step (N : Int) = some (.stop (.inl ()))) (hF : N < F) :
    ((∀ i, i < N → p i = false) ∧ iter step F 0 = some (.inl ())) ∨ ∃ (i : Nat), i < N ∧ p i = true ∧ (∀ (j : Nat), j < i → p j = false) ∧ iter step F 0 = some (.inr (g i)) := by
  rcases find_loop (step := step) (F := F) (List.range N) p (fun i _ => g i) (fun i h => by simp only [List.getElem_range]; exact hs i (by simpa using h)) (by simpa using he) (by simpa using hF) with ⟨h1, h2⟩ | ⟨i, h, h1, h3, h2⟩
  · exact .inl ⟨fun i hi => h1 i (by simpa using hi), h2⟩
  · simp only [List.getElem_range] at h1 h3 h2
    exact .inr ⟨i, by simpa using h, h1, h3, h2⟩
/-- Two loops side by side. -/
theorem iter_par {σ β γ : Type} {step : σ → Option (Stp σ β)} {step' : σ → Option (Stp σ γ)} (I : σ → Prop) (μ : σ → Nat) (R : β → γ → Prop)
    (h : ∀ s, I s → (∃ s', step s = some (.more s') ∧ step' s = some (.more s') ∧ I s' ∧ μ s' < μ s) ∨ ∃ b c, step s = some (.stop b) ∧ step' s = some (.stop c) ∧ R b c) :
    ∀ (F : Nat) (s : σ), I s → μ s < F → ∃ b c, iter step F s = some b ∧ iter step' F s = some c ∧ R b c
  | 0, _, _, hF => by omega
  | F + 1, s, hs, hF => by
    rcases h s hs with ⟨s', h1, h1', h2, h3⟩ | ⟨b, c, h1, h2, h3⟩
    · rw [iter_more h1, iter_more h1']; exact iter_par I μ R h F s' h2 (by omega)
    · exact ⟨b, c, iter_stop h1, iter_stop h2, h3⟩

/-! ### Numbers that stay small -/
theorem wadd {a b : Nat} (h : a + b ≤ 9223372036854775807) : wrapA .i64 ((a : Int) + (b : Int)) = ((a + b : Nat) : Int) := by
  rw [w64 (by omega) (by omega)]; rfl
theorem wsuc {a : Nat} (h : a < 9223372036854775807) : wrapA .i64 ((a : Int) + 1) = ((a + 1 : Nat) : Int) := by
  rw [w64 (by omega) (by omega)]; rfl
theorem wsub {a b : Nat} (h : b ≤ a) (h2 : a ≤ 9223372036854775807) : wrapA .i64 ((a : Int) - (b : Int)) = ((a - b : Nat) : Int) := by
  rw [w64 (by omega) (by omega)]; omega
theorem wpred {a : Nat} (h : 0 < a) (h2 : a ≤ 9223372036854775807) : wrapA .i64 ((a : Int) - 1) = ((a - 1 : Nat) : Int) := by
  rw [w64 (by omega) (by omega)]; omega
theorem wmul {a b : Nat} (h : a * b ≤ 9223372036854775807) : wrapA .i64 ((a : Int) * (b : Int)) = ((a * b : Nat) : Int) := by
  rw [← Int.natCast_mul, w64 (by omega) (by omega)]
theorem wnat {a : Nat} (h : a ≤ 9223372036854775807) : wrapA .i64 (a : Int) = (a : Int) := w64 (by omega) (by omega)
end Go.Am

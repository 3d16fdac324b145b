/- Insertion sort, for any order; slices.Sort at int sorts (of twelve elements at most). -/
import Derived.Test.YtaphdnpjpmnaeaaSortPerm
set_option linter.unusedVariables false
set_option linter.unusedSimpArgs false
namespace Go.Proofs.Ytaphdnpjpmnaeaa
open Go.Am
theorem nx_set {D : List Int} {q a : Nat} {x : Int} (hq : q < D.length) : nx 0 (D.set q x) a = if a = q then x else nx 0 D a := by
  unfold nx
  rw [List.getElem?_set]
  by_cases e : q = a
  · subst e; simp [hq]
  · rw [if_neg e, if_neg (fun h => e h.symm)]
/-- The order: b is not ahead of a. -/
structure Ord (lt : Int → Int → Bool) : Prop where
  asym : ∀ a b, lt a b = true → lt b a = false
  trans : ∀ a b c, lt b a = false → lt c b = false → lt c a = false
theorem ins_inner {lt : Int → Int → Bool} (hlt : Ord lt) {step : Int × List Int → Option (Stp (Int × List Int) (List Int))} (L0 : List Int) (n : Nat) (hn : L0.length = n)
    (hs : ∀ (q : Nat) (D : List Int), D.Perm L0 → q + 1 < n → step (((q + 1 : Nat) : Int), D) = some (if lt (nx 0 D (q + 1)) (nx 0 D q) then .more ((q : Int), (D.set (q + 1) (nx 0 D q)).set q (nx 0 D (q + 1))) else .stop D))
    (h0 : ∀ D : List Int, D.Perm L0 → step ((0 : Int), D) = some (.stop D)) (F i : Nat) (D : List Int) (hD : D.Perm L0) (hi : i < n) (hF : i < F) (hso : ∀ a b, a < b → b < i → lt (nx 0 D b) (nx 0 D a) = false) :
    ∃ M, iter step F ((i : Int), D) = some M ∧ M.Perm D ∧ ∀ a b, a < b → b ≤ i → lt (nx 0 M b) (nx 0 M a) = false := by
  refine iter_inv (step := step) (I := fun s => ∃ j : Nat, s.1 = j ∧ j ≤ i ∧ s.2.Perm D ∧ ∀ a b, a < b → b ≤ i → b ≠ j → lt (nx 0 s.2 b) (nx 0 s.2 a) = false) (μ := fun s => s.1.toNat) (Q := fun M => M.Perm D ∧ ∀ a b, a < b → b ≤ i → lt (nx 0 M b) (nx 0 M a) = false) ?_ F ((i : Int), D) ⟨i, rfl, Nat.le_refl _, List.Perm.refl _, fun a b h1 h2 h3 => hso a b h1 (by omega)⟩ (by simpa using hF)
  rintro ⟨_, E⟩ ⟨j, rfl, hj, hP, hI⟩
  simp only at hP hI ⊢
  have hE : E.length = n := by rw [hP.length_eq, hD.length_eq, hn]
  have hE0 : E.Perm L0 := hP.trans hD
  cases j with
  | zero =>
    right
    exact ⟨E, h0 E hE0, hP, fun a b h1 h2 => hI a b h1 h2 (by omega)⟩
  | succ q =>
    rw [hs q E hE0 (by omega)]
    by_cases hl : lt (nx 0 E (q + 1)) (nx 0 E q) = true
    · left
      rw [if_pos hl]
      refine ⟨_, rfl, ⟨q, rfl, by omega, (swap_perm E q (by omega)).trans hP, ?_⟩, by simp only; omega⟩
      intro a b h1 h2 h3
      simp only
      have hset : ∀ c, nx 0 ((E.set (q + 1) (nx 0 E q)).set q (nx 0 E (q + 1))) c = if c = q then nx 0 E (q + 1) else if c = q + 1 then nx 0 E q else nx 0 E c := by
        intro c
        rw [nx_set (by rw [List.length_set]; omega), nx_set (by omega)]
      rw [hset b, hset a, if_neg h3]
      by_cases e1 : b = q + 1
      · rw [if_pos e1]
        by_cases e2 : a = q
        · rw [if_pos e2]; exact hlt.asym _ _ hl
        · rw [if_neg e2, if_neg (by omega)]
          exact hI a q (by omega) (by omega) (by omega)
      · rw [if_neg e1]
        by_cases e2 : a = q
        · rw [if_pos e2]; exact hI (q + 1) b (by omega) h2 e1
        · rw [if_neg e2]
          by_cases e3 : a = q + 1
          · rw [if_pos e3]; exact hI q b (by omega) h2 e1
          · rw [if_neg e3]; exact hI a b h1 h2 e1
    · right
      rw [if_neg hl]
      have hl : lt (nx 0 E (q + 1)) (nx 0 E q) = false := by simpa using hl
      refine ⟨E, rfl, hP, fun a b h1 h2 => ?_⟩
      by_cases e1 : b = q + 1
      · subst e1
        by_cases e2 : a = q
        · subst e2; exact hl
        · exact hlt.trans _ _ _ (hI a q (by omega) (by omega) (by omega)) hl
      · exact hI a b h1 h2 e1
theorem ins_outer {lt : Int → Int → Bool} (hlt : Ord lt) {step : Int × List Int → Option (Stp (Int × List Int) (List Int))} {step1 : Int × List Int → Option (Stp (Int × List Int) (List Int))} (n F : Nat) (L : List Int) (hL : L.length = n)
    (hs : ∀ (q : Nat) (D : List Int), D.Perm L → q + 1 < n → step (((q + 1 : Nat) : Int), D) = some (if lt (nx 0 D (q + 1)) (nx 0 D q) then .more ((q : Int), (D.set (q + 1) (nx 0 D q)).set q (nx 0 D (q + 1))) else .stop D))
    (h0 : ∀ D : List Int, D.Perm L → step ((0 : Int), D) = some (.stop D))
    (h1 : ∀ (i : Nat) (D M : List Int), i < n → iter step F ((i : Int), D) = some M → step1 ((i : Int), D) = some (.more (((i + 1 : Nat) : Int), M)))
    (h2 : ∀ (i : Nat) (D : List Int), n ≤ i → step1 ((i : Int), D) = some (.stop D)) (hF : n + 2 ≤ F) :
    ∃ M, iter step1 F (1, L) = some M ∧ M.Perm L ∧ M.Pairwise (fun a b => lt b a = false) := by
  obtain ⟨M, hM, hP, hS⟩ := iter_inv (step := step1) (I := fun s => ∃ i : Nat, s.1 = i ∧ 1 ≤ i ∧ i ≤ n + 1 ∧ s.2.Perm L ∧ ∀ a b, a < b → b < i → b < n → lt (nx 0 s.2 b) (nx 0 s.2 a) = false) (μ := fun s => n + 1 - s.1.toNat) (Q := fun M => M.Perm L ∧ ∀ a b, a < b → b < n → lt (nx 0 M b) (nx 0 M a) = false) (by
    rintro ⟨_, D⟩ ⟨i, rfl, h3, h4, hP, hI⟩
    simp only at hP hI ⊢
    by_cases hi : i < n
    · left
      obtain ⟨M, hM, hMP, hMS⟩ := ins_inner hlt L n hL hs h0 F i D hP hi (by omega) (fun a b h5 h6 => hI a b h5 h6 (by omega))
      exact ⟨_, h1 i D M hi hM, ⟨i + 1, rfl, by omega, by omega, hMP.trans hP, fun a b h5 h6 _ => hMS a b h5 (by omega)⟩, by simp only; omega⟩
    · right
      exact ⟨D, h2 i D (by omega), hP, fun a b h5 h6 => hI a b h5 (by omega) h6⟩) F (1, L) ⟨1, rfl, Nat.le_refl _, by omega, List.Perm.refl _, fun a b h5 h6 => by omega⟩ (by simp only; omega)
  refine ⟨M, hM, hP, ?_⟩
  rw [List.pairwise_iff_getElem]
  intro a b ha hb hab
  have hl := hP.length_eq
  have := hS a b hab (by omega)
  rwa [nx_eq ha, nx_eq hb] at this
theorem ord_lt : Ord (fun a b => decide (a < b)) := ⟨fun a b h => by simp at h ⊢; omega, fun a b c h1 h2 => by simp at h1 h2 ⊢; omega⟩
theorem ord_gt : Ord (fun a b => decide (b < a)) := ⟨fun a b h => by simp at h ⊢; omega, fun a b c h1 h2 => by simp at h1 h2 ⊢; omega⟩
theorem insertion_sorted (F : Nat) (L : List Int) (hF : L.length + 2 ≤ F) (hl : L.length ≤ 1000000) : ∃ M, F64 F L 0 (L.length : Int) = some M ∧ M.Perm L ∧ M.Pairwise (· ≤ ·) := by
  unfold F64
  obtain ⟨M, hM, hP, hS⟩ := ins_outer ord_lt (step := F64_l0 F 0) (step1 := F64_l1 F 0 (L.length : Int)) L.length F L rfl (by
    intro q D hD0 hq
    have hD := hD0.length_eq
    unfold F64_l0
    simp only
    rw [if_pos (decide_eq_true (by omega)), nx_get (d := 0) (by omega), Option.bind_some, wpred (by omega) (by omega), show q + 1 - 1 = q from rfl, nx_get (d := 0) (by omega), Option.bind_some, less_eq, Option.bind_some, Option.bind_some]
    by_cases hlt : nx 0 D (q + 1) < nx 0 D q
    · rw [if_pos (decide_eq_true hlt), if_pos (decide_eq_true hlt), Option.bind_some, Option.bind_some, ck_ok (by omega), Option.bind_some, ck_ok (by rw [List.length_set]; omega), Option.bind_some]
      rfl
    · rw [if_neg (mt of_decide_eq_true hlt), if_neg (mt of_decide_eq_true hlt)]) (by
    intro D hD
    unfold F64_l0
    simp only
    rw [if_neg (by simp), Option.bind_some, if_neg (by simp)]) (by
    intro i D M hi h
    unfold F64_l1
    simp only
    rw [if_pos (decide_eq_true (by omega)), h, Option.bind_some, wsuc (by omega)]) (by
    intro i D hi
    unfold F64_l1
    simp only
    rw [if_neg (by rw [decide_eq_true_eq]; omega)]) hF
  rw [show wrapA .i64 (0 + 1) = (1 : Int) from rfl, hM]
  exact ⟨M, rfl, hP, hS.imp fun h => by simpa using h⟩
theorem sort_sorted (F : Nat) (L : List Int) (hF : 20 ≤ F) (hl : L.length ≤ 12) : ∃ M, F35 F L = some M ∧ M.Perm L ∧ M.Pairwise (· ≤ ·) := by
  unfold F35
  have hb := bitsLen_ok
  simp only [List.all_eq_true, List.mem_range] at hb
  obtain ⟨x, hx⟩ := Option.isSome_iff_exists.1 (hb L.length (by omega))
  obtain ⟨M, hM, hM2⟩ := insertion_sorted F L (by omega) (by omega)
  obtain ⟨G, rfl⟩ : ∃ q, F = q + 1 := ⟨F - 1, by omega⟩
  rw [bitsLen_F, hx, Option.bind_some]
  unfold F50
  rw [iter_stop (b := M)]
  · exact ⟨M, rfl, hM2⟩
  · unfold F50_l0
    simp only
    rw [if_pos (decide_eq_true (by rw [w64 (by omega) (by omega)]; omega)), hM, Option.bind_some]
/-- Two lists of the same elements, both in order, are equal. -/
theorem sorted_eq : ∀ {L M : List Int}, L.Perm M → L.Pairwise (· ≤ ·) → M.Pairwise (· ≤ ·) → L = M
  | [], M, h, _, _ => by rw [List.nil_perm.1 h]
  | a :: L, [], h, _, _ => by simpa using h.length_eq
  | a :: L, b :: M, h, h1, h2 => by
    rw [List.pairwise_cons] at h1 h2
    have e : a = b := by
      have ha : a ∈ b :: M := h.mem_iff.1 (by simp)
      have hb : b ∈ a :: L := h.mem_iff.2 (by simp)
      rcases List.mem_cons.1 ha with e | ha
      · exact e
      · rcases List.mem_cons.1 hb with e | hb
        · exact e.symm
        · have := h1.1 b hb
          have := h2.1 a ha
          omega
    subst e
    rw [sorted_eq ((List.perm_cons a).1 h) h1.2 h2.2]
end Go.Proofs.Ytaphdnpjpmnaeaa

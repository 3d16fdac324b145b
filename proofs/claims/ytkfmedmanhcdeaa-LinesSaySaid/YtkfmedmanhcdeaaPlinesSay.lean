/- The law of package lines, in plain words. -/
import Derived.Test.YtkfmedmanhcdeaaEqualLib
import Derived.Test.YtkfmedmanhcdeaaPureC
import Derived.Test.YtkfmedmanhcdeaaMono
set_option linter.unusedVariables false
set_option linter.unusedSimpArgs false
namespace Go.Proofs.Ytkfmedmanhcdeaa
open Go.Am

/-! ### Chains of places -/
section ch
variable {t : List Int} {may : Int → Int → Bool} {c : List Nat} {i j k : Nat}
def IsCh (t : List Int) (may : Int → Int → Bool) (c : List Nat) : Prop :=
  (∀ i, i < c.length → nx 0 c i < t.length) ∧ ∀ i, i + 1 < c.length → nx 0 c i < nx 0 c (i + 1) ∧ may (nx 0 t (nx 0 c i)) (nx 0 t (nx 0 c (i + 1))) = true
def Ends (c : List Nat) (j : Nat) : Prop := 0 < c.length ∧ nx 0 c (c.length - 1) = j
def Begins (c : List Nat) (j : Nat) : Prop := 0 < c.length ∧ nx 0 c 0 = j
theorem nx_l {α : Type} {d : α} {a b : List α} {i : Nat} (h : i < a.length) : nx d (a ++ b) i = nx d a i := by unfold nx; rw [List.getElem?_append_left h]
theorem nx_r {α : Type} {d : α} {a : List α} {x : α} : nx d (a ++ [x]) a.length = x := by unfold nx; rw [List.getElem?_append_right (Nat.le_refl _)]; simp
theorem nx_take {α : Type} {d : α} {a : List α} {i n : Nat} (h : i < n) : nx d (a.take n) i = nx d a i := by unfold nx; rw [List.getElem?_take_of_lt h]
theorem nx_drop1 {α : Type} {d : α} {a : List α} {i : Nat} : nx d (a.drop 1) i = nx d a (i + 1) := by unfold nx; rw [List.getElem?_drop, Nat.add_comm]
theorem nx_cons {α : Type} {d x : α} {a : List α} {i : Nat} : nx d (x :: a) (i + 1) = nx d a i := by unfold nx; rw [List.getElem?_cons_succ]
theorem nx_set {α : Type} {d : α} {a : List α} {i j : Nat} {x : α} (h : i < a.length) : nx d (a.set i x) j = if j = i then x else nx d a j := by
  unfold nx; rw [List.getElem?_set]
  by_cases e : i = j
  · subst e; simp [h]
  · rw [if_neg e, if_neg (fun q => e q.symm)]
theorem nx_map {c : List Nat} {i : Nat} (h : i < c.length) : nx 0 (c.map Int.ofNat) i = ((nx (0 : Nat) c i : Nat) : Int) := by unfold nx; rw [List.getElem?_map, List.getElem?_eq_getElem h]; rfl

theorem IsCh.snoc (h : IsCh t may c) (he : c = [] ∨ ∃ k, Ends c k ∧ k < i ∧ may (nx 0 t k) (nx 0 t i) = true) (hi : i < t.length) : IsCh t may (c ++ [i]) := by
  constructor
  · intro q hq
    by_cases h1 : q < c.length
    · rw [nx_l h1]; exact h.1 q h1
    · have : q = c.length := by simp at hq; omega
      subst this; rw [nx_r]; exact hi
  · intro q hq
    by_cases h1 : q + 1 < c.length
    · rw [nx_l (by omega), nx_l h1]; exact h.2 q h1
    · have e : q + 1 = c.length := by simp at hq; omega
      rcases he with rfl | ⟨k, ⟨h2, h3⟩, h4, h5⟩
      · simp at e
      · rw [nx_l (by omega), e, nx_r, show q = c.length - 1 from by omega, h3]
        exact ⟨h4, h5⟩
theorem IsCh.front (h : IsCh t may c) : IsCh t may (c.take (c.length - 1)) := by
  have e : (c.take (c.length - 1)).length = c.length - 1 := by rw [List.length_take]; omega
  refine ⟨fun q hq => ?_, fun q hq => ?_⟩
  · rw [e] at hq; rw [nx_take hq]; exact h.1 q (by omega)
  · rw [e] at hq; rw [nx_take (by omega), nx_take hq]; exact h.2 q (by omega)
theorem IsCh.cons (h : IsCh t may c) (he : c = [] ∨ ∃ k, Begins c k ∧ i < k ∧ may (nx 0 t i) (nx 0 t k) = true) (hi : i < t.length) : IsCh t may (i :: c) := by
  constructor
  · intro q hq
    cases q with
    | zero => exact hi
    | succ q => rw [nx_cons]; exact h.1 q (by simpa using hq)
  · intro q hq
    cases q with
    | zero =>
      rcases he with rfl | ⟨k, ⟨h2, h3⟩, h4, h5⟩
      · simp at hq
      · rw [nx_cons, h3]; exact ⟨h4, h5⟩
    | succ q => rw [nx_cons, nx_cons]; exact h.2 q (by simpa using hq)
theorem IsCh.tail (h : IsCh t may c) : IsCh t may (c.drop 1) := by
  have e : (c.drop 1).length = c.length - 1 := by simp
  refine ⟨fun q hq => ?_, fun q hq => ?_⟩
  · rw [e] at hq; rw [nx_drop1]; exact h.1 _ (by omega)
  · rw [e] at hq; rw [nx_drop1, nx_drop1]; exact h.2 _ (by omega)
/-- The longest that ends at j. -/
def Lst (t : List Int) (may : Int → Int → Bool) (j : Nat) (R : List Int) : Prop := ∃ c : List Nat, R = c.map Int.ofNat ∧ IsCh t may c ∧ Ends c j ∧ ∀ c', IsCh t may c' → Ends c' j → c'.length ≤ c.length
/-- The longest of all. -/
def Bst (t : List Int) (may : Int → Int → Bool) (R : List Int) : Prop := ∃ c : List Nat, R = c.map Int.ofNat ∧ IsCh t may c ∧ ∀ c', IsCh t may c' → c'.length ≤ c.length
theorem IsCh.nil : IsCh t may [] := ⟨fun i h => by simp at h, fun i h => by simp at h⟩
end ch

/-! ### The longest -/
def lgL0 (may : Int → Int → Bool) (s7 : (List Int) × Int × (List (List Int))) (x17 : Int) (L19 : List Int) (s23 : Int × (List (List Int))) : Option (Stp (Int × (List (List Int))) ((List (List Int)))) :=
  if (decide (s23.1 < (L19.length : Int))) then
  ((at? L19 s23.1).bind fun x29 =>
  (some (may x29 x17)).bind fun r31 =>
  (if r31 then 
  ((at? s23.2 s23.1).bind fun L35 =>
  (at? s23.2 s7.2.1).bind fun L39 =>
  some (decide ((L35.length : Int) > (L39.length : Int))))
   else some false).bind fun y44 =>
  if y44 then
  ((at? s23.2 s23.1).bind fun L47 =>
  (ck s23.2 s7.2.1).bind fun u51 =>
  some (.more (((wrapA .i64 (s23.1 + 1)), (s23.2.set ((Int.toNat s7.2.1)) L47)))))
  else
  some (.more (((wrapA .i64 (s23.1 + 1)), s23.2))))
  else
  some (.stop s23.2)
def lgL1 (may : Int → Int → Bool) (F : Nat) (t0 : List Int) (s7 : (List Int) × Int × (List (List Int))) : Option (Stp ((List Int) × Int × (List (List Int))) ((List Int))) :=
  if (decide (s7.2.1 < (t0.length : Int))) then
  ((at? t0 s7.2.1).bind fun x17 =>
  (sub? t0 0 s7.2.1).bind fun L19 =>
  (iter (lgL0 may s7 x17 L19) F (0, s7.2.2)).bind fun b55 =>
  (at? b55 s7.2.1).bind fun L59 =>
  (F95 F L59).bind fun r63 =>
  (app? r63 ([s7.2.1])).bind fun L73 =>
  (ck b55 s7.2.1).bind fun u79 =>
  (at? ((b55.set ((Int.toNat s7.2.1)) L73)) s7.2.1).bind fun L83 =>
  if (decide ((L83.length : Int) > (s7.1.length : Int))) then
  ((at? ((b55.set ((Int.toNat s7.2.1)) L73)) s7.2.1).bind fun L88 =>
  some (.more ((L88, (wrapA .i64 (s7.2.1 + 1)), (b55.set ((Int.toNat s7.2.1)) L73)))))
  else
  some (.more ((s7.1, (wrapA .i64 (s7.2.1 + 1)), (b55.set ((Int.toNat s7.2.1)) L73)))))
  else
  some (.stop s7.1)
def lg (may : Int → Int → Bool) (F : Nat) (t0 : List Int) : Option ((List Int)) :=
  (mk? (t0.length : Int) ([] : List Int)).bind fun L1 =>
  (iter (lgL1 may F t0) F ([], 0, L1)).bind fun b92 =>
  (F95 F b92).bind fun r97 =>
  some r97
theorem lg_up (F : Nat) (t : List Int) : F105_106 F t = lg (fun a b => decide (a < b)) F t := rfl
theorem lg_down (F : Nat) (t : List Int) : F105_107 F t = lg (fun a b => decide (a ≥ b)) F t := rfl

theorem clone_eq {F : Nat} {t : List Int} (h : t.length ≤ 549755813888) : F95 F t = some t := if_pos h

/-- What the inner loop leaves at i: the longest of those that may stand ahead. -/
def Pre (t : List Int) (may : Int → Int → Bool) (at0 : List (List Int)) (i k : Nat) (R : List Int) : Prop :=
  (R = [] ∨ ∃ q, q < k ∧ may (nx 0 t q) (nx 0 t i) = true ∧ R = nx [] at0 q) ∧ ∀ q, q < k → may (nx 0 t q) (nx 0 t i) = true → (nx [] at0 q).length ≤ R.length
theorem lgL0_eq (may : Int → Int → Bool) (F : Nat) (t b : List Int) (at0 : List (List Int)) (i : Nat) (hF : 40 ≤ F) (ht : t.length ≤ 30) (hi : i < t.length) (hl : at0.length = t.length) (h0 : nx [] at0 i = []) :
    ∃ R, iter (lgL0 may (b, (i : Int), at0) (nx 0 t i) (t.take i)) F (0, at0) = some (at0.set i R) ∧ Pre t may at0 i i R := by
  have hself : at0.set i [] = at0 := by
    apply List.ext_getElem?
    intro q
    rw [List.getElem?_set]
    split
    · rename_i e; subst e
      rw [if_pos (by omega), List.getElem?_eq_getElem (by omega)]
      rw [nx_eq (by omega)] at h0; rw [h0]
    · rfl
  have hlt : (t.take i).length = i := by rw [List.length_take]; omega
  obtain ⟨r, h1, R, rfl, h2⟩ := iter_inv (step := lgL0 may (b, (i : Int), at0) (nx 0 t i) (t.take i)) (I := fun s => ∃ (k : Nat) (R : List Int), s = ((k : Int), at0.set i R) ∧ k ≤ i ∧ Pre t may at0 i k R) (μ := fun s => i - s.1.toNat) (Q := fun r => ∃ R, r = at0.set i R ∧ Pre t may at0 i i R) (by
    rintro s ⟨k, R, rfl, hk, hp⟩
    unfold lgL0
    simp only [hlt]
    by_cases hlt2 : k < i
    · left
      rw [if_pos (decide_eq_true (by omega)), nx_get (d := 0) (by omega), Option.bind_some, nx_take (by omega), Option.bind_some, wsuc (by omega)]
      have hk1 : nx [] (at0.set i R) k = nx [] at0 k := by rw [nx_set (by omega), if_neg (by omega)]
      have hi1 : nx [] (at0.set i R) i = R := by rw [nx_set (by omega), if_pos rfl]
      rw [nx_get (d := []) (by rw [List.length_set]; omega), nx_get (d := []) (i := i) (by rw [List.length_set]; omega)]
      rw [hk1, hi1]
      simp only [Option.bind_some]
      rw [ck_ok (by rw [List.length_set]; omega), Option.bind_some, Int.toNat_natCast, List.set_set]
      by_cases hm : may (nx 0 t k) (nx 0 t i) = true
      · rw [if_pos hm, Option.bind_some]
        by_cases hg : ((nx [] at0 k).length : Int) > (R.length : Int)
        · rw [if_pos (decide_eq_true hg)]
          refine ⟨_, rfl, ⟨k + 1, _, rfl, by omega, .inr ⟨k, by omega, hm, rfl⟩, fun q hq hmq => ?_⟩, by simp only [Int.toNat_natCast]; omega⟩
          by_cases e : q = k
          · subst e; exact Nat.le_refl _
          · have := hp.2 q (by omega) hmq; omega
        · rw [if_neg (by simpa using hg)]
          refine ⟨_, rfl, ⟨k + 1, R, rfl, by omega, ?_, fun q hq hmq => ?_⟩, by simp only [Int.toNat_natCast]; omega⟩
          · rcases hp.1 with h | ⟨q, h1, h2, h3⟩
            · exact .inl h
            · exact .inr ⟨q, by omega, h2, h3⟩
          · by_cases e : q = k
            · subst e; omega
            · exact hp.2 q (by omega) hmq
      · rw [if_neg hm, Option.bind_some, if_neg (by decide)]
        refine ⟨_, rfl, ⟨k + 1, R, rfl, by omega, ?_, fun q hq hmq => ?_⟩, by simp only [Int.toNat_natCast]; omega⟩
        · rcases hp.1 with h | ⟨q, h1, h2, h3⟩
          · exact .inl h
          · exact .inr ⟨q, by omega, h2, h3⟩
        · by_cases e : q = k
          · subst e; exact (hm hmq).elim
          · exact hp.2 q (by omega) hmq
    · right
      rw [if_neg (by rw [decide_eq_true_eq]; omega)]
      have : k = i := by omega
      subst this
      exact ⟨_, rfl, R, rfl, hp⟩) F ((0 : Nat), at0) ⟨0, [], by rw [hself], by omega, .inl rfl, fun q hq => by omega⟩ (by simp only [Int.toNat_natCast]; omega)
  exact ⟨R, h1, h2⟩

theorem Pre.lst {may : Int → Int → Bool} {t : List Int} {at0 : List (List Int)} {i : Nat} {R : List Int} (hi : i < t.length) (h : Pre t may at0 i i R) (hat : ∀ j, j < i → Lst t may j (nx [] at0 j)) : Lst t may i (R ++ [(i : Int)]) := by
  have key : ∀ c, IsCh t may c → Ends c i → c.length ≤ R.length + 1 := by
    intro c hc he
    by_cases h1 : c.length = 1
    · omega
    · have hlen : 2 ≤ c.length := by have := he.1; omega
      have hlast := hc.2 (c.length - 2) (by omega)
      rw [show c.length - 2 + 1 = c.length - 1 from by omega, he.2] at hlast
      obtain ⟨c0, e0, _, _, h4⟩ := hat _ hlast.1
      have h5 := h4 _ hc.front ⟨by rw [List.length_take]; omega, by rw [List.length_take, nx_take (by omega)]; congr 1; omega⟩
      have h6 := h.2 _ hlast.1 hlast.2
      rw [e0, List.length_map] at h6
      rw [List.length_take] at h5
      omega
  rcases h.1 with rfl | ⟨q, h1, h2, rfl⟩
  · exact ⟨[i], rfl, IsCh.nil.snoc (.inl rfl) hi, ⟨by simp, rfl⟩, fun c' h3 h4 => by simpa using key c' h3 h4⟩
  · obtain ⟨c0, e0, h3, h4, _⟩ := hat q h1
    refine ⟨c0 ++ [i], by rw [e0]; simp, h3.snoc (.inr ⟨q, h4, h1, h2⟩) hi, ⟨by simp, by rw [List.length_append]; exact nx_r⟩, fun c' h5 h6 => ?_⟩
    have := key c' h5 h6
    rw [e0, List.length_map] at this
    simpa using this

theorem Lst.len {may : Int → Int → Bool} {t : List Int} {j : Nat} {R : List Int} (h : Lst t may j R) : R.length ≤ t.length := by
  obtain ⟨c, rfl, hc, _⟩ := h
  rw [List.length_map]
  have : ∀ q, q < c.length → q ≤ nx 0 c q := by
    intro q
    induction q with
    | zero => intro _; omega
    | succ q ih => intro hq; have := ih (by omega); have := (hc.2 q hq).1; omega
  by_cases h0 : c.length = 0
  · omega
  · have h1 := this (c.length - 1) (by omega); have h2 := hc.1 (c.length - 1) (by omega); omega

theorem lg_eq (may : Int → Int → Bool) (F : Nat) (t : List Int) (hF : 40 ≤ F) (ht : t.length ≤ 30) : ∃ R, lg may F t = some R ∧ Bst t may R := by
  unfold lg
  rw [mk?_ok (by omega), Option.bind_some]
  obtain ⟨r, h1, h2⟩ := iter_inv (step := lgL1 may F t) (I := fun s => ∃ (b : List Int) (i : Nat) (at0 : List (List Int)), s = (b, (i : Int), at0) ∧ i ≤ t.length ∧ at0.length = t.length ∧ (∀ j, j < i → Lst t may j (nx [] at0 j)) ∧ (∀ j, i ≤ j → j < t.length → nx [] at0 j = []) ∧ (b = [] ∨ ∃ j, j < i ∧ b = nx [] at0 j) ∧ ∀ j, j < i → (nx [] at0 j).length ≤ b.length)
    (μ := fun s => t.length - s.2.1.toNat) (Q := fun r => Bst t may r ∧ r.length ≤ 30) (by
    rintro s ⟨b, i, at0, rfl, hi, hl, hlst, hnil, hb, hmax⟩
    unfold lgL1
    simp only
    by_cases hlt : i < t.length
    · left
      rw [if_pos (decide_eq_true (by omega)), nx_get (d := 0) hlt, Option.bind_some, sub?_to (by omega), Option.bind_some]
      obtain ⟨R, h3, h4⟩ := lgL0_eq may F t b at0 i hF ht hlt hl (hnil i (by omega) hlt)
      have hL := Pre.lst hlt h4 hlst
      have hRlen := hL.len
      simp only [List.length_append, List.length_cons, List.length_nil] at hRlen
      rw [h3, Option.bind_some, nx_get (d := []) (by rw [List.length_set]; omega), nx_set (by omega), if_pos rfl, Option.bind_some, clone_eq (by omega), Option.bind_some, app?_ok (by simp; omega), Option.bind_some, ck_ok (by rw [List.length_set]; omega), Option.bind_some, Int.toNat_natCast, List.set_set,
        nx_get (d := []) (by rw [List.length_set]; omega), nx_set (by omega), if_pos rfl, Option.bind_some, wsuc (by omega)]
      have hnew : ∀ j, j < i → nx [] (at0.set i (R ++ [(i : Int)])) j = nx [] at0 j := fun j hj => by rw [nx_set (by omega), if_neg (by omega)]
      have hnewi : nx [] (at0.set i (R ++ [(i : Int)])) i = R ++ [(i : Int)] := by rw [nx_set (by omega), if_pos rfl]
      have hlst' : ∀ j, j < i + 1 → Lst t may j (nx [] (at0.set i (R ++ [(i : Int)])) j) := fun j hj => by
        by_cases e : j = i
        · subst e; rw [hnewi]; exact hL
        · rw [hnew j (by omega)]; exact hlst j (by omega)
      have hnil' : ∀ j, i + 1 ≤ j → j < t.length → nx [] (at0.set i (R ++ [(i : Int)])) j = [] := fun j h5 h6 => by
        rw [nx_set (by omega), if_neg (by omega)]; exact hnil j (by omega) h6
      by_cases hg : ((R ++ [(i : Int)]).length : Int) > (b.length : Int)
      · rw [if_pos (decide_eq_true hg)]
        simp only [Option.bind_some]
        refine ⟨_, rfl, ⟨_, i + 1, _, rfl, by omega, by rw [List.length_set]; exact hl, hlst', hnil', .inr ⟨i, by omega, hnewi.symm⟩, fun j hj => ?_⟩, by simp only [Int.toNat_natCast]; omega⟩
        by_cases e : j = i
        · subst e; rw [hnewi]; exact Nat.le_refl _
        · rw [hnew j (by omega)]; have := hmax j (by omega); omega
      · rw [if_neg (by rw [decide_eq_true_eq]; exact hg)]
        refine ⟨_, rfl, ⟨_, i + 1, _, rfl, by omega, by rw [List.length_set]; exact hl, hlst', hnil', ?_, fun j hj => ?_⟩, by simp only [Int.toNat_natCast]; omega⟩
        · rcases hb with h | ⟨j, h5, h6⟩
          · exact .inl h
          · exact .inr ⟨j, by omega, by rw [hnew j h5]; exact h6⟩
        · by_cases e : j = i
          · subst e; rw [hnewi]; omega
          · rw [hnew j (by omega)]; exact hmax j (by omega)
    · right
      rw [if_neg (by rw [decide_eq_true_eq]; omega)]
      have : i = t.length := by omega
      subst this
      refine ⟨_, rfl, ?_⟩
      have hall : ∀ c', IsCh t may c' → c'.length ≤ b.length := by
        intro c' hc'
        by_cases h0 : c'.length = 0
        · omega
        · have h5 := hc'.1 (c'.length - 1) (by omega)
          obtain ⟨c0, e0, _, _, h6⟩ := hlst _ h5
          have h7 := h6 c' hc' ⟨by omega, rfl⟩
          have h8 := hmax _ h5
          rw [e0, List.length_map] at h8
          omega
      rcases hb with rfl | ⟨j, h5, rfl⟩
      · exact ⟨⟨[], rfl, IsCh.nil, hall⟩, by simp⟩
      · obtain ⟨c0, e0, h6, _, _⟩ := hlst j h5
        refine ⟨⟨c0, e0, h6, fun c' hc' => ?_⟩, Nat.le_trans (hlst j h5).len ht⟩
        have := hall c' hc'
        rw [e0, List.length_map] at this; exact this) F ([], ((0 : Nat) : Int), List.replicate t.length [])
    ⟨[], 0, _, rfl, by omega, by simp, fun j hj => by omega, fun j _ hj => by unfold nx; rw [List.getElem?_replicate, if_pos hj]; rfl, .inl rfl, fun j hj => by omega⟩ (by simp only [Int.toNat_natCast]; omega)
  have h1 : iter (lgL1 may F t) F ([], 0, List.replicate t.length []) = some r := h1
  rw [h1, Option.bind_some, clone_eq (by omega)]
  exact ⟨r, rfl, h2.1⟩

/-! ### How long the longest is, from behind -/
def lbL0 (may : Int → Int → Bool) (t0 : List Int) (s7 : Int × Int × (List Int)) (s13 : Int × (List Int)) : Option (Stp (Int × (List Int)) ((List Int))) :=
  if (decide (s13.1 < (t0.length : Int))) then
  ((at? t0 s7.2.1).bind fun x19 =>
  (at? t0 s13.1).bind fun x21 =>
  (some (may x19 x21)).bind fun r23 =>
  if r23 then
  ((at? s13.2 s7.2.1).bind fun x28 =>
  (at? s13.2 s13.1).bind fun x30 =>
  (ck s13.2 s7.2.1).bind fun u32 =>
  some (.more (((wrapA .i64 (s13.1 + 1)), (s13.2.set ((Int.toNat s7.2.1)) ((maxI x28 x30)))))))
  else
  some (.more (((wrapA .i64 (s13.1 + 1)), s13.2))))
  else
  some (.stop s13.2)
def lbL1 (may : Int → Int → Bool) (F : Nat) (t0 : List Int) (s7 : Int × Int × (List Int)) : Option (Stp (Int × Int × (List Int)) (Int)) :=
  if (decide (s7.2.1 ≥ 0)) then
  ((iter (lbL0 may t0 s7) F ((wrapA .i64 (s7.2.1 + 1)), s7.2.2)).bind fun b36 =>
  (at? b36 s7.2.1).bind fun x40 =>
  (ck b36 s7.2.1).bind fun u42 =>
  (at? ((b36.set ((Int.toNat s7.2.1)) ((wrapA .i64 (x40 + 1))))) s7.2.1).bind fun x46 =>
  some (.more (((maxI s7.1 x46), (wrapA .i64 (s7.2.1 - 1)), (b36.set ((Int.toNat s7.2.1)) ((wrapA .i64 (x40 + 1))))))))
  else
  some (.stop s7.1)
def lb (may : Int → Int → Bool) (F : Nat) (t0 : List Int) : Option Int :=
  (mk? (t0.length : Int) (0 : Int)).bind fun L1 =>
  (iter (lbL1 may F t0) F (0, (wrapA .i64 ((t0.length : Int) - 1)), L1)).bind fun b48 =>
  some b48
theorem lb_up (F : Nat) (t : List Int) : F110_61 F t = lb (fun a b => decide (a < b)) F t := rfl
theorem lb_down (F : Nat) (t : List Int) : F110_62 F t = lb (fun a b => decide (a ≥ b)) F t := rfl

/-- How long the longest is that begins at j. -/
def Lnb (t : List Int) (may : Int → Int → Bool) (j : Nat) (x : Int) : Prop := (∃ c, IsCh t may c ∧ Begins c j ∧ (c.length : Int) = x) ∧ ∀ c, IsCh t may c → Begins c j → (c.length : Int) ≤ x
def Pst (t : List Int) (may : Int → Int → Bool) (fr : List Int) (i k : Nat) (x : Int) : Prop :=
  (x = 0 ∨ ∃ q, i < q ∧ q < k ∧ may (nx 0 t i) (nx 0 t q) = true ∧ x = nx 0 fr q) ∧ 0 ≤ x ∧ ∀ q, i < q → q < k → may (nx 0 t i) (nx 0 t q) = true → nx 0 fr q ≤ x
theorem lbL0_eq (may : Int → Int → Bool) (F : Nat) (t : List Int) (b : Int) (fr : List Int) (i : Nat) (hF : 40 ≤ F) (ht : t.length ≤ 30) (hi : i < t.length) (hl : fr.length = t.length) (h0 : nx 0 fr i = 0) :
    ∃ x, iter (lbL0 may t (b, (i : Int), fr)) F (((i + 1 : Nat) : Int), fr) = some (fr.set i x) ∧ Pst t may fr i t.length x := by
  have hself : fr.set i 0 = fr := by
    apply List.ext_getElem?
    intro q
    rw [List.getElem?_set]
    split
    · rename_i e; subst e
      rw [if_pos (by omega), List.getElem?_eq_getElem (by omega)]
      rw [nx_eq (by omega)] at h0; rw [h0]
    · rfl
  obtain ⟨r, h1, x, rfl, h2⟩ := iter_inv (step := lbL0 may t (b, (i : Int), fr)) (I := fun s => ∃ (k : Nat) (x : Int), s = ((k : Int), fr.set i x) ∧ i < k ∧ k ≤ t.length ∧ Pst t may fr i k x) (μ := fun s => t.length - s.1.toNat) (Q := fun r => ∃ x, r = fr.set i x ∧ Pst t may fr i t.length x) (by
    rintro s ⟨k, x, rfl, hik, hk, hp⟩
    unfold lbL0
    simp only
    by_cases hlt2 : k < t.length
    · left
      rw [if_pos (decide_eq_true (by omega)), nx_get (d := 0) hi, Option.bind_some, nx_get (d := 0) hlt2, Option.bind_some, Option.bind_some, wsuc (by omega)]
      have hk1 : nx 0 (fr.set i x) k = nx 0 fr k := by rw [nx_set (by omega), if_neg (by omega)]
      have hi1 : nx 0 (fr.set i x) i = x := by rw [nx_set (by omega), if_pos rfl]
      by_cases hm : may (nx 0 t i) (nx 0 t k) = true
      · rw [if_pos hm, nx_get (d := 0) (i := i) (by rw [List.length_set]; omega), nx_get (d := 0) (i := k) (by rw [List.length_set]; omega), hk1, hi1]
        simp only [Option.bind_some]
        rw [ck_ok (by rw [List.length_set]; omega), Option.bind_some, Int.toNat_natCast, List.set_set]
        refine ⟨_, rfl, ⟨k + 1, _, rfl, by omega, by omega, ?_, ?_, fun q hq1 hq2 hmq => ?_⟩, by simp only [Int.toNat_natCast]; omega⟩
        · unfold maxI
          split
          · exact .inr ⟨k, hik, by omega, hm, rfl⟩
          · rcases hp.1 with h | ⟨q, g1, g2, g3, g4⟩
            · exact .inl h
            · exact .inr ⟨q, g1, by omega, g3, g4⟩
        · have := hp.2.1; unfold maxI; split <;> omega
        · by_cases e : q = k
          · subst e; unfold maxI; split <;> omega
          · have := hp.2.2 q hq1 (by omega) hmq; unfold maxI; split <;> omega
      · rw [if_neg hm]
        refine ⟨_, rfl, ⟨k + 1, x, rfl, by omega, by omega, ?_, hp.2.1, fun q hq1 hq2 hmq => ?_⟩, by simp only [Int.toNat_natCast]; omega⟩
        · rcases hp.1 with h | ⟨q, g1, g2, g3, g4⟩
          · exact .inl h
          · exact .inr ⟨q, g1, by omega, g3, g4⟩
        · by_cases e : q = k
          · subst e; exact (hm hmq).elim
          · exact hp.2.2 q hq1 (by omega) hmq
    · right
      rw [if_neg (by rw [decide_eq_true_eq]; omega)]
      have : k = t.length := by omega
      subst this
      exact ⟨_, rfl, x, rfl, hp⟩) F (((i + 1 : Nat) : Int), fr) ⟨i + 1, 0, by rw [hself], by omega, by omega, .inl rfl, Int.le_refl _, fun q h1 h2 => by omega⟩ (by simp only [Int.toNat_natCast]; omega)
  exact ⟨x, h1, h2⟩
theorem Pst.lnb {may : Int → Int → Bool} {t fr : List Int} {i : Nat} {x : Int} (hi : i < t.length) (h : Pst t may fr i t.length x) (hfr : ∀ j, i < j → j < t.length → Lnb t may j (nx 0 fr j)) : Lnb t may i (x + 1) := by
  constructor
  · rcases h.1 with rfl | ⟨q, g1, g2, g3, rfl⟩
    · exact ⟨[i], IsCh.nil.cons (.inl rfl) hi, ⟨by simp, rfl⟩, rfl⟩
    · obtain ⟨⟨c, h1, h2, h3⟩, _⟩ := hfr q g1 g2
      exact ⟨i :: c, h1.cons (.inr ⟨q, h2, g1, g3⟩) hi, ⟨by simp, rfl⟩, by rw [← h3]; simp⟩
  · intro c hc hb
    by_cases h1 : c.length = 1
    · have := h.2.1; omega
    · have hlen : 2 ≤ c.length := by have := hb.1; omega
      have hf := hc.2 0 (by omega)
      rw [hb.2] at hf
      have hlt := hc.1 1 (by omega)
      have h5 := (hfr _ hf.1 hlt).2 _ hc.tail ⟨by simp; omega, by rw [nx_drop1]⟩
      have h6 := h.2.2 _ hf.1 hlt hf.2
      rw [List.length_drop] at h5
      simp only [Nat.zero_add] at h5 h6
      omega
theorem Lnb.len {may : Int → Int → Bool} {t : List Int} {j : Nat} {x : Int} (h : Lnb t may j x) : 0 ≤ x ∧ x ≤ t.length := by
  obtain ⟨⟨c, hc, hb, rfl⟩, _⟩ := h
  have := (Lst.len (j := nx 0 c (c.length - 1)) (R := c.map Int.ofNat) (t := t) (may := may))
  have hle : c.length ≤ t.length := by
    have : ∀ q, q < c.length → q ≤ nx 0 c q := by
      intro q
      induction q with
      | zero => intro _; omega
      | succ q ih => intro hq; have := ih (by omega); have := (hc.2 q hq).1; omega
    have h1 := this (c.length - 1) (by have := hb.1; omega); have h2 := hc.1 (c.length - 1) (by have := hb.1; omega); omega
  omega
theorem lb_eq (may : Int → Int → Bool) (F : Nat) (t : List Int) (hF : 40 ≤ F) (ht : t.length ≤ 30) : ∃ x, lb may F t = some x ∧ (∃ c, IsCh t may c ∧ (c.length : Int) = x) ∧ ∀ c, IsCh t may c → (c.length : Int) ≤ x := by
  unfold lb
  rw [mk?_ok (by omega), Option.bind_some]
  obtain ⟨r, h1, h2⟩ := iter_inv (step := lbL1 may F t) (I := fun s => ∃ (b : Int) (i : Nat) (fr : List Int), s = (b, (i : Int) - 1, fr) ∧ i ≤ t.length ∧ fr.length = t.length ∧ (∀ j, i ≤ j → j < t.length → Lnb t may j (nx 0 fr j)) ∧ (∀ j, j < i → nx 0 fr j = 0) ∧ (b = 0 ∨ ∃ j, i ≤ j ∧ j < t.length ∧ b = nx 0 fr j) ∧ 0 ≤ b ∧ ∀ j, i ≤ j → j < t.length → nx 0 fr j ≤ b)
    (μ := fun s => (s.2.1 + 1).toNat) (Q := fun x => (∃ c, IsCh t may c ∧ (c.length : Int) = x) ∧ ∀ c, IsCh t may c → (c.length : Int) ≤ x) (by
    rintro s ⟨b, i, fr, rfl, hi, hl, hln, hz, hb, hb0, hmax⟩
    unfold lbL1
    simp only
    by_cases h0 : i = 0
    · right
      subst h0
      rw [if_neg (by simp)]
      refine ⟨_, rfl, ?_, fun c hc => ?_⟩
      · rcases hb with rfl | ⟨j, _, h5, rfl⟩
        · exact ⟨[], IsCh.nil, rfl⟩
        · obtain ⟨⟨c, g1, g2, g3⟩, _⟩ := hln j (by omega) h5
          exact ⟨c, g1, g3⟩
      · by_cases h3 : c.length = 0
        · omega
        · have h5 := hc.1 0 (by omega)
          have h6 := (hln _ (by omega) h5).2 c hc ⟨by omega, rfl⟩
          have h7 := hmax _ (by omega) h5
          omega
    · left
      obtain ⟨p, rfl⟩ : ∃ p, i = p + 1 := ⟨i - 1, by omega⟩
      rw [show ((p + 1 : Nat) : Int) - 1 = (p : Int) from by omega, if_pos (decide_eq_true (by omega)), wsuc (by omega)]
      obtain ⟨x, h3, h4⟩ := lbL0_eq may F t b fr p hF ht (by omega) hl (hz p (by omega))
      have hL := Pst.lnb (by omega) h4 (fun j g1 g2 => hln j (by omega) g2)
      have hxl := hL.len
      rw [h3, Option.bind_some, nx_get (d := 0) (by rw [List.length_set]; omega), nx_set (by omega), if_pos rfl, Option.bind_some, ck_ok (by rw [List.length_set]; omega), Option.bind_some, Int.toNat_natCast, List.set_set, w64 (by omega) (by omega),
        nx_get (d := 0) (by rw [List.length_set]; omega), nx_set (by omega), if_pos rfl, Option.bind_some, w64 (by omega) (by omega)]
      have hnew : ∀ j, j ≠ p → nx 0 (fr.set p (x + 1)) j = nx 0 fr j := fun j hj => by rw [nx_set (by omega), if_neg hj]
      have hnewp : nx 0 (fr.set p (x + 1)) p = x + 1 := by rw [nx_set (by omega), if_pos rfl]
      refine ⟨_, rfl, ⟨_, p, _, rfl, by omega, by rw [List.length_set]; exact hl, fun j g1 g2 => ?_, fun j hj => ?_, ?_, ?_, fun j g1 g2 => ?_⟩, by simp only; omega⟩
      · by_cases e : j = p
        · subst e; rw [hnewp]; exact hL
        · rw [hnew j e]; exact hln j (by omega) g2
      · rw [hnew j (by omega)]; exact hz j (by omega)
      · unfold maxI
        split
        · exact .inr ⟨p, by omega, by omega, hnewp.symm⟩
        · rcases hb with h | ⟨j, g1, g2, g3⟩
          · exact .inl h
          · exact .inr ⟨j, by omega, g2, by rw [hnew j (by omega)]; exact g3⟩
      · unfold maxI; split <;> omega
      · by_cases e : j = p
        · subst e; rw [hnewp]; unfold maxI; split <;> omega
        · rw [hnew j e]; have := hmax j (by omega) g2; unfold maxI; split <;> omega) F (0, (t.length : Int) - 1, List.replicate t.length 0)
    ⟨0, t.length, _, rfl, by omega, by simp, fun j h1 h2 => by omega, fun j hj => by unfold nx; rw [List.getElem?_replicate, if_pos hj]; rfl, .inl rfl, Int.le_refl _, fun j h1 h2 => by omega⟩ (by simp only; omega)
  rw [w64 (by omega) (by omega), h1, Option.bind_some]
  exact ⟨r, rfl, h2⟩

/-! ### Placed -/
def plL0 (may : Int → Int → Bool) (t0 : List Int) (t1 : List Int) (s6 : Int) : Option (Stp (Int) (Unit ⊕ Bool)) :=
  if (decide (s6 < (t1.length : Int))) then
  ((at? t1 s6).bind fun x14 =>
  (if ((decide (x14 < 0)) || (decide (x14 ≥ (t0.length : Int)))) then some true else 
  ((if (decide (s6 > 0)) then 
  ((at? t1 (wrapA .i64 (s6 - 1))).bind fun x17 =>
  (if (decide (x14 ≤ x17)) then some true else 
  ((at? t1 (wrapA .i64 (s6 - 1))).bind fun x19 =>
  (at? t0 x19).bind fun x21 =>
  (at? t0 x14).bind fun x23 =>
  (some (may x21 x23)).bind fun r25 =>
  some (!r25))
  ).bind fun y30 =>
  some y30)
   else some false).bind fun y35 =>
  some y35)
  ).bind fun y40 =>
  if y40 then
  (some (.stop ((.inr false))))
  else
  some (.more ((wrapA .i64 (s6 + 1)))))
  else
  some (.stop ((.inl ())))
def pl (may : Int → Int → Bool) (F : Nat) (t0 : List Int) (t1 : List Int) : Option Bool :=
  (lb may F t0).bind fun r1 =>
  if ((t1.length : Int) != r1) then
  (some false)
  else
  (iter (plL0 may t0 t1) F 0).bind fun b45 =>
  match b45 with
  | .inl b47 => (some true)
  | .inr b47 => (some b47)
theorem pl_up (F : Nat) (t r : List Int) : F63_61 F t r = pl (fun a b => decide (a < b)) F t r := rfl
theorem pl_down (F : Nat) (t r : List Int) : F63_62 F t r = pl (fun a b => decide (a ≥ b)) F t r := rfl
theorem pl_eq (may : Int → Int → Bool) (F : Nat) (t R : List Int) (hF : 40 ≤ F) (ht : t.length ≤ 30) (h : Bst t may R) : pl may F t R = some true := by
  unfold pl
  obtain ⟨x, h1, ⟨c0, h2, h3⟩, h4⟩ := lb_eq may F t hF ht
  obtain ⟨c, rfl, hc, hm⟩ := h
  have hlen : (c.length : Int) = x := by
    have a := hm c0 h2
    have b := h4 c hc
    omega
  have hle : c.length ≤ 30 := by
    have : ∀ q, q < c.length → q ≤ nx 0 c q := by
      intro q
      induction q with
      | zero => intro _; omega
      | succ q ih => intro hq; have := ih (by omega); have := (hc.2 q hq).1; omega
    by_cases h0 : c.length = 0
    · omega
    · have h1 := this (c.length - 1) (by omega); have h2 := hc.1 (c.length - 1) (by omega); omega
  rw [h1, Option.bind_some, if_neg (by simp [hlen])]
  have := iter_count (step := plL0 may t (c.map Int.ofNat)) (F := F) (fun i => (i : Int)) (b := Sum.inl ()) c.length ?_ ?_ (by omega)
  · rw [show (0 : Int) = ((0 : Nat) : Int) from rfl, this]
    rfl
  · intro q hq
    have hq1 := hc.1 q hq
    unfold plL0
    rw [if_pos (decide_eq_true (by rw [List.length_map]; omega)), nx_get (d := 0) (by rw [List.length_map]; omega), Option.bind_some, nx_map hq]
    rw [if_neg (by simp; omega)]
    by_cases h0 : q = 0
    · subst h0
      rw [if_neg (by decide)]
      rfl
    · obtain ⟨p, rfl⟩ : ∃ p, q = p + 1 := ⟨q - 1, by omega⟩
      have hp := hc.2 p hq
      have hp1 := hc.1 p (by omega)
      rw [if_pos (decide_eq_true (by omega)), wpred (by omega) (by omega), Nat.add_sub_cancel, nx_get (d := 0) (by rw [List.length_map]; omega), Option.bind_some, nx_map (by omega)]
      rw [if_neg (by rw [decide_eq_true_eq]; omega), Option.bind_some, nx_get (d := 0) hp1, Option.bind_some, nx_get (d := 0) hq1, Option.bind_some, Option.bind_some, hp.2]
      simp only [Option.bind_some, Bool.not_true, Bool.false_eq_true, if_false]
      rw [wsuc (by omega)]
  · unfold plL0
    rw [if_neg (by simp)]

/-! ### Heaps -/
def lasts (H : List (List Int)) : List Int := H.map fun h => nx 0 h (h.length - 1)
theorem nx_lasts {H : List (List Int)} {i : Nat} (h : i < H.length) : nx 0 (lasts H) i = nx 0 (nx [] H i) ((nx [] H i).length - 1) := by
  unfold lasts nx
  rw [List.getElem?_map, List.getElem?_eq_getElem h]; rfl
/-- The first place at which p stands, or the end. -/
theorem first_ex (p : Nat → Bool) : ∀ N, ∃ k, k ≤ N ∧ (∀ j, j < k → p j = false) ∧ (k < N → p k = true)
  | 0 => ⟨0, Nat.le_refl _, fun j h => by omega, fun h => by omega⟩
  | N + 1 => by
    obtain ⟨k, h1, h2, h3⟩ := first_ex p N
    by_cases hk : k < N
    · exact ⟨k, by omega, h2, fun _ => h3 hk⟩
    · have : k = N := by omega
      subst this
      by_cases hp : p k = true
      · exact ⟨k, by omega, h2, fun _ => hp⟩
      · exact ⟨k + 1, Nat.le_refl _, fun j hj => by
          by_cases e : j = k
          · subst e; simpa using hp
          · exact h2 j (by omega), fun h => by omega⟩
theorem idx_eq (F : Nat) (T : List Int) (x : Int) (k : Nat) (hF : 40 ≤ F) (hT : T.length ≤ 30) (h1 : k ≤ T.length) (h2 : ∀ j, j < k → decide (nx 0 T j ≥ x) = false) (h3 : k < T.length → decide (nx 0 T k ≥ x) = true) :
    F108_109 F T x = some (if k < T.length then (k : Int) else -1) := by
  unfold F108_109
  have hmore : ∀ j, j < k → F108_109_l0 F T x (j : Int) = some (.more ((j + 1 : Nat) : Int)) := by
    intro j hj
    unfold F108_109_l0 F109
    rw [if_pos (decide_eq_true (by omega)), nx_get (d := 0) (by omega), Option.bind_some, Option.bind_some, h2 j hj, if_neg (by decide), wsuc (by omega)]
  by_cases hk : k < T.length
  · have := iter_count (step := F108_109_l0 F T x) (F := F) (fun i => (i : Int)) (b := Sum.inr (k : Int)) k hmore (by
      unfold F108_109_l0 F109
      rw [if_pos (decide_eq_true (by omega)), nx_get (d := 0) hk, Option.bind_some, Option.bind_some, h3 hk, if_pos rfl]) (by omega)
    rw [show (0 : Int) = ((0 : Nat) : Int) from rfl, this, if_pos hk]
    rfl
  · have e : k = T.length := by omega
    have := iter_count (step := F108_109_l0 F T x) (F := F) (fun i => (i : Int)) (b := Sum.inl ()) k hmore (by
      unfold F108_109_l0
      rw [if_neg (by rw [decide_eq_true_eq]; omega)]) (by omega)
    rw [show (0 : Int) = ((0 : Nat) : Int) from rfl, this, if_neg hk]
    rfl
theorem heap_at (F : Nat) (H : List (List Int)) (o : List Int) (i : Int) (x : Int) (k : Nat) (hF : 40 ≤ F) (hT : H.length ≤ 30) (hne : ∀ j, j < H.length → 0 < (nx [] H j).length ∧ (nx [] H j).length ≤ 30) (h1 : k ≤ H.length) (h2 : ∀ j, j < k → decide (nx 0 (lasts H) j ≥ x) = false) (h3 : k < H.length → decide (nx 0 (lasts H) k ≥ x) = true) :
    iter (F65_l0 F (H, o, i) x) F 0 = some (k : Int) := by
  refine iter_count (step := F65_l0 F (H, o, i) x) (F := F) (fun i => (i : Int)) (b := (k : Int)) k (fun j hj => ?_) ?_ (by omega)
  · unfold F65_l0
    have := hne j (by omega)
    have hj2 := h2 j hj
    rw [nx_lasts (by omega)] at hj2
    simp only
    rw [if_pos (decide_eq_true (by omega)), nx_get (d := []) (by omega)]
    simp only [Option.bind_some]
    rw [wpred this.1 (by omega), nx_get (d := 0) (by omega), Option.bind_some, Option.bind_some, if_pos (by simp at hj2 ⊢; omega), wsuc (by omega)]
  · unfold F65_l0
    simp only
    by_cases hk : k < H.length
    · have := hne k hk
      have hj3 := h3 hk
      rw [nx_lasts hk] at hj3
      rw [if_pos (decide_eq_true (by omega)), nx_get (d := []) (by omega)]
      simp only [Option.bind_some]
      rw [wpred this.1 (by omega), nx_get (d := 0) (by omega), Option.bind_some, Option.bind_some, if_neg (by simp at hj3 ⊢; omega)]
    · rw [if_neg (by rw [decide_eq_true_eq]; omega)]
      rfl
theorem nx_snoc_last {h : List Int} {x : Int} : nx 0 (h ++ [x]) ((h ++ [x]).length - 1) = x := by
  rw [show (h ++ [x]).length - 1 = h.length from by simp]; exact nx_r

theorem split_eq (F : Nat) (t : List Int) (hF : 40 ≤ F) (ht : t.length ≤ 30) : ∃ r, F59 F t = some (r, 0) ∧ F65 F t = some r ∧ r.length ≤ 30 := by
  unfold F59 F60 F65
  rw [if_neg (by simp; omega), Option.bind_some, if_neg (by decide)]
  -- both loops, side by side
  have key : ∀ n i, i + n = t.length → ∀ (H : List (List Int)) (o : List Int), H.length ≤ i → o.length = i → (∀ j, j < H.length → 0 < (nx [] H j).length ∧ (nx [] H j).length ≤ i) → ∀ f, n < f →
      ∃ r, iter (F59_l0 F t) f (lasts H, o, (i : Int)) = some r ∧ iter (F65_l1 F t) f (H, o, (i : Int)) = some r ∧ r.length ≤ 30 := by
    intro n
    induction n with
    | zero =>
      intro i hi H o hH ho hne f hf
      obtain ⟨f, rfl⟩ : ∃ q, f = q + 1 := ⟨f - 1, by omega⟩
      refine ⟨o, iter_stop ?_, iter_stop ?_, by omega⟩
      · unfold F59_l0; simp only; rw [if_neg (by rw [decide_eq_true_eq]; omega)]
      · unfold F65_l1; simp only; rw [if_neg (by rw [decide_eq_true_eq]; omega)]
    | succ n ih =>
      intro i hi H o hH ho hne f hf
      obtain ⟨f, rfl⟩ : ∃ q, f = q + 1 := ⟨f - 1, by omega⟩
      have hit : i < t.length := by omega
      have hll : (lasts H).length = H.length := by simp [lasts]
      obtain ⟨k, h1, h2, h3⟩ := first_ex (fun j => decide (nx 0 (lasts H) j ≥ nx 0 t i)) H.length
      by_cases hk : k < H.length
      · -- put on a heap
        have hkk := hne k hk
        obtain ⟨r, r1, r2, r3⟩ := ih (i + 1) (by omega) (H.set k (nx [] H k ++ [nx 0 t i])) (o ++ [(k : Int)]) (by rw [List.length_set]; omega) (by simp; omega) (fun j hj => by
          rw [List.length_set] at hj
          rw [nx_set hk]
          by_cases e : j = k
          · rw [if_pos e]; simp; omega
          · rw [if_neg e]; have := hne j hj; omega) f (by omega)
        refine ⟨r, ?_, ?_, r3⟩
        · rw [← r1]
          refine iter_more ?_
          unfold F59_l0
          simp only
          rw [if_pos (decide_eq_true (by omega)), nx_get (d := 0) hit, Option.bind_some, idx_eq F (lasts H) (nx 0 t i) k hF (by omega) (by omega) h2 (by rw [hll]; exact h3), if_pos (by omega), Option.bind_some, if_neg (by rw [decide_eq_true_eq]; omega), Option.bind_some]
          simp only
          rw [ck_ok (by omega), Option.bind_some, app?_ok (by simp; omega), Option.bind_some, wsuc (by omega), Int.toNat_natCast]
          congr 3
          apply List.ext_getElem?
          intro q
          unfold lasts
          rw [List.getElem?_set, List.getElem?_map, List.getElem?_map, List.getElem?_set, List.length_map]
          by_cases e : k = q
          · subst e; simp only [if_true, hk, Option.map_some]; rw [nx_snoc_last]
          · rw [if_neg e, if_neg e]
        · rw [← r2]
          refine iter_more ?_
          unfold F65_l1
          simp only
          rw [if_pos (decide_eq_true (by omega)), nx_get (d := 0) hit, Option.bind_some, heap_at F H o i (nx 0 t i) k hF (by omega) (fun j hj => by have := hne j hj; omega) h1 h2 h3, Option.bind_some, if_neg (by simp; omega), Option.bind_some]
          rw [nx_get (d := []) hk, Option.bind_some, app?_ok (by simp; omega), Option.bind_some, ck_ok hk, Option.bind_some, app?_ok (by simp; omega), Option.bind_some, wsuc (by omega), Int.toNat_natCast]
      · -- a new heap
        have hkH : k = H.length := by omega
        obtain ⟨r, r1, r2, r3⟩ := ih (i + 1) (by omega) (H ++ [[nx 0 t i]]) (o ++ [(k : Int)]) (by simp; omega) (by simp; omega) (fun j hj => by
          by_cases e : j < H.length
          · rw [nx_l e]; have := hne j e; omega
          · have : j = H.length := by simp at hj; omega
            subst this; rw [nx_r]; simp) f (by omega)
        refine ⟨r, ?_, ?_, r3⟩
        · rw [← r1]
          refine iter_more ?_
          unfold F59_l0
          simp only
          rw [if_pos (decide_eq_true (by omega)), nx_get (d := 0) hit, Option.bind_some, idx_eq F (lasts H) (nx 0 t i) k hF (by omega) (by omega) h2 (by rw [hll]; exact h3), if_neg (by omega), Option.bind_some, if_pos (by decide), app?_ok (by simp; omega), Option.bind_some, Option.bind_some]
          simp only
          rw [ck_ok (by simp), Option.bind_some, app?_ok (by simp; omega), Option.bind_some, wsuc (by omega), Int.toNat_natCast, hll, ← hkH]
          congr 3
          unfold lasts
          rw [List.map_append]
          apply List.ext_getElem?
          intro q
          rw [List.getElem?_set, List.length_append, List.length_map]
          by_cases e : k = q
          · subst e
            rw [if_pos rfl, if_pos (by simp; omega), List.getElem?_append_right (by simp; omega)]
            simp [hkH, nx]
          · rw [if_neg e]
            by_cases e2 : q < H.length
            · rw [List.getElem?_append_left (by simpa using e2), List.getElem?_append_left (by simpa using e2)]
            · rw [List.getElem?_append_right (by simp; omega), List.getElem?_append_right (by simp; omega), List.length_map]
              rw [List.getElem?_eq_none (by simp; omega), List.getElem?_eq_none (by simp; omega)]
        · rw [← r2]
          refine iter_more ?_
          unfold F65_l1
          simp only
          rw [if_pos (decide_eq_true (by omega)), nx_get (d := 0) hit, Option.bind_some, heap_at F H o i (nx 0 t i) k hF (by omega) (fun j hj => by have := hne j hj; omega) h1 h2 h3, Option.bind_some, if_pos (by simp [hkH]), app?_ok (by simp; omega), Option.bind_some, Option.bind_some]
          rw [hkH, nx_get (d := []) (by simp), nx_r, Option.bind_some, app?_ok (by simp), Option.bind_some, ck_ok (by simp), Option.bind_some, app?_ok (by simp; omega), Option.bind_some, wsuc (by omega), Int.toNat_natCast]
          congr 3
          apply List.ext_getElem?
          intro q
          rw [List.getElem?_set, List.length_append]
          by_cases e : H.length = q
          · subst e; rw [if_pos rfl, if_pos (by simp), List.getElem?_append_right (Nat.le_refl _)]; simp
          · rw [if_neg e]
            by_cases e2 : q < H.length
            · rw [List.getElem?_append_left e2, List.getElem?_append_left e2]
            · rw [List.getElem?_eq_none (by simp; omega), List.getElem?_eq_none (by simp; omega)]
  obtain ⟨r, r1, r2, r3⟩ := key t.length 0 (by omega) [] [] (by simp) (by simp) (fun j hj => by simp at hj) F (by omega)
  refine ⟨r, ?_, ?_, r3⟩
  · have r1 : iter (F59_l0 F t) F ([], [], 0) = some r := r1
    rw [r1]; rfl
  · have r2 : iter (F65_l1 F t) F ([], [], 0) = some r := r2
    rw [r2]; rfl

theorem PlinesSay.holds (t0 : List (Int)) (h0 : (t0.length ≤ maxLen ∧ ∀ a ∈ t0, inR .i64 a)) : ∃ F, F10 F t0 = some true := by
  refine ⟨40, ?_⟩
  unfold F10
  by_cases ht : t0.length ≤ 30
  · obtain ⟨u, hu1, hu2⟩ := lg_eq (fun a b => decide (a < b)) 40 t0 (by omega) ht
    obtain ⟨d, hd1, hd2⟩ := lg_eq (fun a b => decide (a ≥ b)) 40 t0 (by omega) ht
    obtain ⟨s, hs1, hs2, hs3⟩ := split_eq 40 t0 (by omega) ht
    have hU : F57 40 t0 = some (u, 0) := by
      unfold F57 F60
      rw [if_neg (by simp; omega), Option.bind_some, if_neg (by decide), lg_up, hu1]; rfl
    have hD : F58 40 t0 = some (d, 0) := by
      unfold F58 F60
      rw [if_neg (by simp; omega), Option.bind_some, if_neg (by decide), lg_down, hd1]; rfl
    rw [hU, Option.bind_some, hD, Option.bind_some, hs1, Option.bind_some, if_neg (by simp; omega), Option.bind_some]
    unfold F60
    rw [if_neg (by simp; omega), Option.bind_some, if_neg (by decide), if_neg (by decide)]
    simp only
    rw [if_pos (by decide), pl_up, pl_eq _ 40 t0 u (by omega) ht hu2, Option.bind_some, Option.bind_some, if_pos rfl, pl_down, pl_eq _ 40 t0 d (by omega) ht hd2, Option.bind_some, Option.bind_some, if_pos rfl, hs2, Option.bind_some, alike_eq 40 s s (by omega) (by omega)]
    simp
  · have hC : F60 40 t0 = some 2 := by
      unfold F60
      rw [if_pos (decide_eq_true (by omega))]
    have hU : F57 40 t0 = some ([], 2) := by
      unfold F57; rw [hC]; rfl
    have hD : F58 40 t0 = some ([], 2) := by
      unfold F58; rw [hC]; rfl
    have hS : F59 40 t0 = some ([], 2) := by
      unfold F59; rw [hC]; rfl
    rw [hU, Option.bind_some, hD, Option.bind_some, hS, Option.bind_some, if_pos (decide_eq_true (by omega)), Option.bind_some, hC]
    rfl
end Go.Proofs.Ytkfmedmanhcdeaa

/- Tickets: who is next. -/
import Derived.Test.YtaphdnpjpmnaeabDoorPureB
import Derived.Test.YtaphdnpjpmnaeabDoorTickA
set_option linter.unusedVariables false
set_option linter.unusedSimpArgs false
namespace Go.Proofs.YtaphdnpjpmnaeabDoor
open Go.Am

/-! ### Who is next -/
def nth (p : List Int) (i : Nat) : Int := (p[i]?).getD 0
theorem at?_nth {p : List Int} {i : Nat} (h : i < p.length) : at? p (i : Int) = some (nth p i) := by
  rw [at?_in h]; simp [nth, h]
theorem nth_mem {p : List Int} {i : Nat} (h : i < p.length) : nth p i ∈ p := by
  have : nth p i = p[i] := by simp [nth, h]
  rw [this]; exact List.getElem_mem h
/-- k is before i: less for his tickets. -/
def lt (l had : List Int) (k i : Nat) : Prop := nth had k * nth l i < nth had i * nth l k
instance (l had : List Int) (k i : Nat) : Decidable (lt l had k i) := inferInstanceAs (Decidable (_ < _))
theorem lt_trans' {a b c x y z : Int} (hx : 0 < x) (hy : 0 < y) (hz : 0 < z) (h1 : a * y < b * x) (h2 : b * z ≤ c * y) : a * z < c * x := by
  have e1 : a * y * z < b * x * z := Int.mul_lt_mul_of_pos_right h1 hz
  have e2 : b * z * x ≤ c * y * x := Int.mul_le_mul_of_nonneg_right h2 (by omega)
  have e3 : b * x * z = b * z * x := by rw [Int.mul_assoc, Int.mul_comm x z, ← Int.mul_assoc]
  have e4 : a * y * z = a * z * y := by rw [Int.mul_assoc, Int.mul_comm y z, ← Int.mul_assoc]
  have e5 : c * y * x = c * x * y := by rw [Int.mul_assoc, Int.mul_comm y x, ← Int.mul_assoc]
  rw [e3, e4] at e1
  rw [e5] at e2
  exact Int.lt_of_mul_lt_mul_right (Int.lt_of_lt_of_le e1 e2) (by omega)
/-- b is the one who is next of the first N. -/
def Best (l had : List Int) (N : Nat) (b : Int) : Prop := (b = -1 ∧ ∀ k, k < N → nth l k = 0) ∨ ∃ c : Nat, b = c ∧ c < N ∧ 0 < nth l c ∧ ∀ k, k < N → 0 < nth l k → ¬ lt l had k c ∧ (k < c → lt l had c k)
def bestC (l had : List Int) : Nat → Int
  | 0 => -1
  | i + 1 => if 0 < nth l i ∧ (bestC l had i < 0 ∨ lt l had i (bestC l had i).toNat) then (i : Int) else bestC l had i
theorem bestC_ok (l had : List Int) (hp : ∀ x ∈ l, 0 ≤ x) : ∀ N, N ≤ l.length → Best l had N (bestC l had N)
  | 0, _ => .inl ⟨rfl, by omega⟩
  | N + 1, hN => by
    have h0 := hp _ (nth_mem (show N < l.length by omega))
    rcases bestC_ok l had hp N (by omega) with ⟨h1, h2⟩ | ⟨c, h1, h2, h3, h4⟩
    · simp only [bestC]
      by_cases hx : 0 < nth l N
      · rw [if_pos ⟨hx, .inl (by omega)⟩]
        refine .inr ⟨N, rfl, by omega, hx, fun k hk hk2 => ?_⟩
        by_cases e : k = N
        · subst e; exact ⟨by simp [lt], by omega⟩
        · rw [h2 k (by omega)] at hk2; omega
      · rw [if_neg (by omega)]
        refine .inl ⟨h1, fun k hk => ?_⟩
        by_cases e : k = N
        · subst e; omega
        · exact h2 k (by omega)
    · have hc : (bestC l had N).toNat = c := by omega
      simp only [bestC]
      rw [hc]
      by_cases hx : 0 < nth l N ∧ lt l had N c
      · rw [if_pos ⟨hx.1, .inr hx.2⟩]
        refine .inr ⟨N, rfl, by omega, hx.1, fun k hk hk2 => ?_⟩
        by_cases e : k = N
        · subst e; exact ⟨by simp [lt], by omega⟩
        · have ⟨q1, q2⟩ := h4 k (by omega) hk2
          have q : lt l had N k := by
            unfold lt at q1 hx ⊢
            exact lt_trans' hx.1 h3 hk2 hx.2 (by omega)
          refine ⟨?_, fun _ => q⟩
          unfold lt at q ⊢; omega
      · rw [if_neg (by intro hc2; rcases hc2.2 with h | h; (· omega); exact hx ⟨hc2.1, h⟩)]
        refine .inr ⟨c, h1, by omega, h3, fun k hk hk2 => ?_⟩
        by_cases e : k = N
        · subst e
          exact ⟨fun h => hx ⟨hk2, h⟩, by omega⟩
        · exact h4 k (by omega) hk2

structure Good (l had : List Int) (B : Int) : Prop where
  len : had.length = l.length
  len8 : l.length ≤ 8
  l0 : ∀ x ∈ l, 0 ≤ x ∧ x ≤ 100
  h0 : ∀ x ∈ had, 0 ≤ x ∧ x ≤ B
  hB : B ≤ 1000000000
theorem Good.prod {l had : List Int} {B : Int} (g : Good l had B) {i k : Nat} (hi : i < l.length) (hk : k < l.length) : 0 ≤ nth had i * nth l k ∧ nth had i * nth l k ≤ 100000000000 := by
  have h1 := g.l0 _ (nth_mem hk)
  have h2 := g.h0 _ (nth_mem (p := had) (i := i) (by rw [g.len]; exact hi))
  have h3 := g.hB
  refine ⟨Int.mul_nonneg h2.1 h1.1, ?_⟩
  have := Int.mul_le_mul (a := nth had i) (b := nth l k) (c := 1000000000) (d := 100) (by omega) h1.2 h1.1 (by omega)
  omega
theorem next_eq (F : Nat) (l had : List Int) (B : Int) (g : Good l had B) (hF : 10 ≤ F) : F36 F l had = some (bestC l had l.length) := by
  have hp : ∀ x ∈ l, 0 ≤ x := fun x hx => (g.l0 x hx).1
  have h8 := g.len8
  unfold F36
  have := iter_count (step := F36_l0 F l had) (F := F) (fun i => (bestC l had i, (i : Int))) (b := bestC l had l.length) l.length ?_ ?_ (by omega)
  · rw [show ((-1 : Int), (0 : Int)) = (bestC l had 0, ((0 : Nat) : Int)) from rfl, this]; rfl
  · intro i hi
    unfold F36_l0
    simp only
    rw [if_pos (decide_eq_true (by omega)), at?_nth hi]
    simp only [Option.bind_some, bestC]
    rw [w64 (by omega) (by omega)]
    by_cases hx : 0 < nth l i
    · rw [if_pos (decide_eq_true (by omega))]
      rcases bestC_ok l had hp i (by omega) with ⟨h1, h2⟩ | ⟨c, h1, h2, h3, h4⟩
      · rw [if_pos (decide_eq_true (by omega)), if_pos ⟨hx, .inl (by omega)⟩]; rfl
      · rw [h1, if_neg (by rw [decide_eq_true_eq]; omega), at?_nth (by rw [g.len]; exact hi), at?_nth (by omega), at?_nth (by rw [g.len]; omega)]
        simp only [Option.bind_some]
        have p1 := g.prod (i := i) (k := c) hi (by omega)
        have p2 := g.prod (i := c) (k := i) (by omega) hi
        rw [w64 (by omega) (by omega), w64 (by omega) (by omega)]
        by_cases hc : lt l had i c
        · rw [if_pos (by simpa [lt] using hc), if_pos ⟨hx, .inr (by simpa using hc)⟩]; rfl
        · rw [if_neg (by simpa [lt] using hc), if_neg (by intro hq; rcases hq.2 with h | h; (· omega); exact hc (by simpa using h))]; rfl
    · rw [if_neg (by simpa using hx), if_neg (by omega)]; rfl
  · unfold F36_l0
    simp only
    rw [if_neg (by rw [decide_eq_true_eq]; omega)]

/-! ### The document's own answer -/
def bad (l had : List Int) (i k : Nat) : Bool := decide (0 < nth l k) && (decide (lt l had k i) || (decide (k < i) && decide (nth had k * nth l i = nth had i * nth l k)))
theorem refIn_eq (F : Nat) (l had : List Int) (B : Int) (g : Good l had B) (hF : 10 ≤ F) (i : Nat) (hi : i < l.length) : iter (F27_l0 F l had (i : Int)) F (true, 0) = some ((List.range l.length).all fun k => !bad l had i k) := by
  have h8 := g.len8
  refine iter_count (step := F27_l0 F l had (i : Int)) (fun k => ((List.range k).all (fun k => !bad l had i k), (k : Int))) l.length ?_ ?_ (by omega)
  · intro k hk
    unfold F27_l0
    simp only
    have p1 := g.prod (i := k) (k := i) hk hi
    have p2 := g.prod (i := i) (k := k) hi hk
    rw [if_pos (decide_eq_true (by omega)), at?_nth hk, at?_nth (by rw [g.len]; exact hk), at?_nth hi, at?_nth (by rw [g.len]; exact hi)]
    simp only [Option.bind_some]
    rw [w64 (by omega) (by omega), w64 (by omega) (by omega), w64 (by omega) (by omega), List.range_succ, List.all_append]
    by_cases hx : 0 < nth l k
    · rw [if_pos (decide_eq_true (by omega))]
      by_cases h1 : lt l had k i
      · have e : bad l had i k = true := by simp [bad, hx, h1]
        rw [if_pos (by simpa [lt] using h1)]
        simp [e]
      · rw [if_neg (by simpa [lt] using h1)]
        by_cases h2 : k < i
        · rw [if_pos (decide_eq_true (by omega))]
          by_cases h3 : nth had k * nth l i = nth had i * nth l k
          · have e : bad l had i k = true := by simp [bad, hx, h2, h3]
            simp [e, h3]
          · have e : bad l had i k = false := by simp [bad, h1, h3]
            simp [e, h3]
        · have e : bad l had i k = false := by simp [bad, h1, h2]
          rw [if_neg (by rw [decide_eq_true_eq]; omega)]
          simp [e]
    · have e : bad l had i k = false := by simp [bad, hx]
      rw [if_neg (by simpa using hx)]
      simp [e]
  · unfold F27_l0
    simp only
    rw [if_neg (by rw [decide_eq_true_eq]; omega)]
theorem nextOf_eq (F : Nat) (l had : List Int) (B : Int) (g : Good l had B) (hF : 10 ≤ F) : F27 F l had = some (bestC l had l.length) := by
  have h8 := g.len8
  have hp : ∀ x ∈ l, 0 ≤ x := fun x hx => (g.l0 x hx).1
  have hs : ∀ i : Nat, i < l.length → F27_l1 F l had (i : Int) = some (if (decide (nth l i ≠ 0) && (List.range l.length).all fun k => !bad l had i k) then .stop (.inr (i : Int)) else .more ((i + 1 : Nat) : Int)) := by
    intro i hi
    unfold F27_l1
    rw [if_pos (decide_eq_true (by omega)), at?_nth hi]
    simp only [Option.bind_some]
    rw [w64 (by omega) (by omega), refIn_eq F l had B g hF i hi]
    simp only [Option.bind_some]
    by_cases h : nth l i = 0
    · simp [h]
    · rw [if_neg (by simpa using h)]
      cases (List.range l.length).all fun k => !bad l had i k <;> simp [h]
  have he : F27_l1 F l had (l.length : Int) = some (.stop (.inl ())) := by
    unfold F27_l1
    rw [if_neg (by rw [decide_eq_true_eq]; omega)]
  have hb := bestC_ok l had hp l.length (Nat.le_refl _)
  unfold F27
  have notbad : ∀ c k, ¬ lt l had k c → (k < c → lt l had c k) → bad l had c k = false := by
    intro c k h1 h2
    simp only [bad, Bool.and_eq_false_iff, Bool.or_eq_false_iff, decide_eq_false_iff_not]
    right
    refine ⟨h1, ?_⟩
    by_cases h3 : k < c
    · right
      have := h2 h3
      unfold lt at this
      omega
    · left; exact h3
  rcases seek_loop l.length _ (fun i => (i : Int)) hs he (by omega : l.length < F) with ⟨h1, h2⟩ | ⟨i, hi, h1, h3, h2⟩
  · rw [h2]
    simp only [Option.bind_some]
    rcases hb with ⟨h4, _⟩ | ⟨c, h4, h5, h6, h7⟩
    · rw [h4]
    · exfalso
      have := h1 c h5
      rw [Bool.and_eq_false_iff] at this
      rcases this with h | h
      · simp at h; omega
      · rw [List.all_eq_false] at h
        obtain ⟨k, hk, hk2⟩ := h
        simp only [List.mem_range] at hk
        by_cases hx : 0 < nth l k
        · have := h7 k hk hx
          rw [notbad c k this.1 this.2] at hk2; simp at hk2
        · have : bad l had c k = false := by simp [bad, hx]
          rw [this] at hk2; simp at hk2
  · rw [h2]
    simp only [Option.bind_some]
    rw [Bool.and_eq_true, List.all_eq_true] at h1
    obtain ⟨h8', h9⟩ := h1
    have h8' : 0 < nth l i := by
      have := hp _ (nth_mem hi)
      simp at h8'; omega
    rcases hb with ⟨h4, h5⟩ | ⟨c, h4, h5, h6, h7⟩
    · rw [h5 i hi] at h8'; omega
    · rw [h4]
      have hc := h9 c (by simpa using h5)
      have hi' := h7 i hi h8'
      by_cases e : i = c
      · rw [e]
      · exfalso
        have hbad : bad l had i c = true := by
          simp only [bad, Bool.and_eq_true, Bool.or_eq_true, decide_eq_true_eq]
          refine ⟨h6, ?_⟩
          by_cases hlt : i < c
          · exact .inl (hi'.2 hlt)
          · by_cases h10 : lt l had c i
            · exact .inl h10
            · right
              refine ⟨by omega, ?_⟩
              have := hi'.1
              unfold lt at this h10
              omega
        rw [hbad] at hc; cases hc

/-! ### Next -/
def hadBad (had : List Int) : Bool := had.any fun x => decide (x < 0) || decide (x > 1000000000)
def nextR (l had : List Int) : Int × Int := if tickE l ≠ 0 then (0, tickE l) else if had.length ≠ l.length then (0, 3) else if hadBad had = true then (0, 1) else if bestC l had l.length < 0 then (0, 4) else (bestC l had l.length, 0)
theorem hadBad_good {l had : List Int} (h1 : tickE l = 0) (h2 : had.length = l.length) (h3 : ¬ hadBad had = true) : Good l had 1000000000 := by
  have ⟨a, b⟩ := tickE_ok h1
  refine ⟨h2, a, b, fun x hx => ?_, Int.le_refl _⟩
  have : ¬ (x < 0 ∨ x > 1000000000) := fun hc => h3 (List.any_eq_true.2 ⟨x, hx, by simpa using hc⟩)
  omega
theorem nextR_ok {l had : List Int} (h1 : tickE l = 0) (h2 : had.length = l.length) (h3 : ¬ hadBad had = true) : nextR l had = if bestC l had l.length < 0 then (0, 4) else (bestC l had l.length, 0) := by
  unfold nextR; rw [if_neg (by rw [h1]; decide), if_neg (by simp [h2]), if_neg h3]
theorem Next_eq (F : Nat) (l had : List Int) (hF : 10 ≤ F) : F14 F l had = some (nextR l had) := by
  unfold F14 nextR
  rw [tickCheck_eq F l hF]
  simp only [Option.bind_some]
  by_cases h1 : tickE l = 0
  · simp only [h1, bne_self_eq_false, ne_eq, eq_self, not_true_eq_false, Bool.false_eq_true, if_false]
    have ⟨a, b⟩ := tickE_ok h1
    by_cases h2 : had.length = l.length
    · rw [if_neg (by simp [h2]), if_neg (by simp [h2])]
      rw [any_loop (step := F14_l0 F had) had (fun x => decide (x < 0) || decide (x > 1000000000)) (0, 1) ?_ ?_ (by omega)]
      · by_cases h3 : hadBad had = true
        · rw [if_pos h3]
          unfold hadBad at h3
          rw [if_pos h3]; rfl
        · have h3' := h3
          unfold hadBad at h3'
          rw [if_neg h3, if_neg h3']
          simp only [Option.bind_some]
          rw [next_eq F l had _ (hadBad_good h1 h2 h3) hF]
          simp only [Option.bind_some]
          by_cases h4 : bestC l had l.length < 0
          · rw [if_pos (by simpa using h4), if_pos h4]
          · rw [if_neg (by simpa using h4), if_neg h4]
      · intro i hi
        unfold F14_l0
        rw [if_pos (decide_eq_true (by omega)), at?_in hi, w64 (by omega) (by omega)]
        simp only [Option.bind_some]
        split <;> simp_all
      · unfold F14_l0
        rw [if_neg (by rw [decide_eq_true_eq]; omega)]
    · rw [if_pos (by simp; omega), if_pos h2]
  · rw [if_pos (by simpa using h1), if_pos h1]

theorem bestC_range {l had : List Int} {B : Int} (g : Good l had B) : bestC l had l.length < 0 ∨ ∃ c : Nat, bestC l had l.length = c ∧ c < l.length := by
  rcases bestC_ok l had (fun x hx => (g.l0 x hx).1) l.length (Nat.le_refl _) with ⟨h, _⟩ | ⟨c, h1, h2, _⟩
  · left; omega
  · exact .inr ⟨c, h1, h2⟩
end Go.Proofs.YtaphdnpjpmnaeabDoor

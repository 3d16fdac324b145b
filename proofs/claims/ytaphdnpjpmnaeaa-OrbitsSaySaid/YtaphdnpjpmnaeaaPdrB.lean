/- Sorting by a comparison: the insertion sort that gives up, and the partitions. -/
import Derived.Test.YtaphdnpjpmnaeaaPdrA
set_option linter.unusedVariables false
set_option linter.unusedSimpArgs false
namespace Go.Proofs.Ytaphdnpjpmnaeaa.pdqR
open Go.Am Go.Proofs.Ytaphdnpjpmnaeaa.pdqN

/-- A loop that goes up while p. -/
theorem adv_loop {step : Int → Option (Stp Int Int)} (p : Nat → Bool) (jj : Nat) : ∀ (n i G : Nat), jj - i ≤ n → n < G → i ≤ jj → (∀ k, i ≤ k → k < jj → step (k : Int) = some (if p k then .more ((k + 1 : Nat) : Int) else .stop (k : Int))) → step (jj : Int) = some (.stop (jj : Int)) →
    ∃ i1 : Nat, iter step G (i : Int) = some (i1 : Int) ∧ i ≤ i1 ∧ i1 ≤ jj ∧ (∀ k, i ≤ k → k < i1 → p k = true) ∧ (i1 < jj → p i1 = false)
  | 0, i, G, h, hG, hi, hs, he => by
    obtain ⟨G, rfl⟩ : ∃ q, G = q + 1 := ⟨G - 1, by omega⟩
    have : i = jj := by omega
    subst this
    exact ⟨i, iter_stop he, Nat.le_refl _, Nat.le_refl _, fun k h1 h2 => by omega, fun h => by omega⟩
  | n + 1, i, G, h, hG, hi, hs, he => by
    obtain ⟨G, rfl⟩ : ∃ q, G = q + 1 := ⟨G - 1, by omega⟩
    by_cases e : i = jj
    · subst e
      exact ⟨i, iter_stop he, Nat.le_refl _, Nat.le_refl _, fun k h1 h2 => by omega, fun h => by omega⟩
    · have h0 := hs i (Nat.le_refl _) (by omega)
      cases hp : p i
      · rw [hp] at h0
        exact ⟨i, iter_stop h0, Nat.le_refl _, hi, fun k h1 h2 => by omega, fun _ => hp⟩
      · rw [hp] at h0
        obtain ⟨i1, e1, e2, e3, e4, e5⟩ := adv_loop p jj n (i + 1) G (by omega) (by omega) (by omega) (fun k h1 h2 => hs k (by omega) h2) he
        refine ⟨i1, by rw [iter_more h0]; exact e1, by omega, e3, fun k h1 h2 => ?_, e5⟩
        by_cases q : k = i
        · rw [q]; exact hp
        · exact e4 k (by omega) h2
/-- A loop that goes down while p. -/
theorem dec_loop {step : Int → Option (Stp Int Int)} (p : Nat → Bool) (i : Nat) : ∀ (n jj G : Nat), jj - i ≤ n → n < G → i ≤ jj → (∀ k, i ≤ k → k < jj → step (k : Int) = some (if p k then .more ((k : Int) - 1) else .stop (k : Int))) → step ((i : Int) - 1) = some (.stop ((i : Int) - 1)) →
    ∃ j1 : Nat, iter step G ((jj : Int) - 1) = some ((j1 : Int) - 1) ∧ i ≤ j1 ∧ j1 ≤ jj ∧ (∀ k, j1 ≤ k → k < jj → p k = true) ∧ (i < j1 → p (j1 - 1) = false)
  | 0, jj, G, h, hG, hi, hs, he => by
    obtain ⟨G, rfl⟩ : ∃ q, G = q + 1 := ⟨G - 1, by omega⟩
    have : i = jj := by omega
    subst this
    exact ⟨i, iter_stop he, Nat.le_refl _, Nat.le_refl _, fun k h1 h2 => by omega, fun h => by omega⟩
  | n + 1, jj, G, h, hG, hi, hs, he => by
    obtain ⟨G, rfl⟩ : ∃ q, G = q + 1 := ⟨G - 1, by omega⟩
    by_cases e : i = jj
    · subst e
      exact ⟨i, iter_stop he, Nat.le_refl _, Nat.le_refl _, fun k h1 h2 => by omega, fun h => by omega⟩
    · have h0 := hs (jj - 1) (by omega) (by omega)
      rw [show ((jj - 1 : Nat) : Int) = (jj : Int) - 1 from by omega] at h0
      cases hp : p (jj - 1)
      · rw [hp] at h0
        exact ⟨jj, iter_stop h0, hi, Nat.le_refl _, fun k h1 h2 => by omega, fun _ => hp⟩
      · rw [hp] at h0
        obtain ⟨j1, e1, e2, e3, e4, e5⟩ := dec_loop p i n (jj - 1) G (by omega) (by omega) (by omega) (fun k h1 h2 => hs k h1 (by omega)) he
        rw [show ((jj - 1 : Nat) : Int) = (jj : Int) - 1 from by omega] at e1
        refine ⟨j1, by rw [iter_more h0]; exact e1, e2, by omega, fun k h1 h2 => ?_, e5⟩
        by_cases q : k = jj - 1
        · rw [q]; exact hp
        · exact e4 k h1 (by omega)

section
variable {P : E → Prop} {cv : E → E → Int} {F0 F : Nat} {L : List E} {a b : Nat}

/-! ### Equal ones apart -/
/-- What is below a is no more than what stands between a and b. -/
def Low (cv : E → E → Int) (a b : Nat) (L : List E) : Prop := 0 < a → ∀ k, a ≤ k → k < b → ¬ cv (nx e0 L k) (nx e0 L (a - 1)) < 0

theorem peq_eq (hC : Cmp P cv F0) (hF : F0 ≤ F) (hR : Rng L a b) (hP : AP P L) (hG : b - a + 5 ≤ F) (v : Nat) (hv : a ≤ v) (hvb : v < b) : ∃ (m : Nat) (L' : List E), F43_17 F L (a : Int) (b : Int) (v : Int) = some ((m : Int), L') ∧ a < m ∧ m ≤ b ∧ Mv a b L L' ∧
    nx e0 L' a = nx e0 L v ∧ (∀ k, a ≤ k → k < m → ¬ cv (nx e0 L v) (nx e0 L' k) < 0) ∧ (∀ k, m ≤ k → k < b → cv (nx e0 L v) (nx e0 L' k) < 0) := by
  have h1 := hR.ab; have h2 := hR.bl; have h3 := hR.sm
  have hpv := hP v (by omega)
  unfold F43_17
  rw [nx_get (d := e0) (by omega : v < L.length), nx_get (d := e0) (by omega : a < L.length), Option.bind_some, Option.bind_some, ck_ok (by omega : a < L.length), Option.bind_some]
  simp only [Int.toNat_natCast]
  rw [ck_ok (by simp; omega), Option.bind_some, wsuc (by omega), wpred (by omega) (by omega)]
  obtain ⟨x, e, hQ⟩ := iter_inv (step := F43_17_l2 F (a : Int)) (I := fun s : Int × Int × List E => ∃ i jj : Nat, s.1 = (i : Int) ∧ s.2.1 = (jj : Int) - 1 ∧ a < i ∧ i ≤ jj ∧ jj ≤ b ∧ Mv a b L s.2.2 ∧ nx e0 s.2.2 a = nx e0 L v ∧ (∀ k, a ≤ k → k < i → ¬ cv (nx e0 L v) (nx e0 s.2.2 k) < 0) ∧ (∀ k, jj ≤ k → k < b → cv (nx e0 L v) (nx e0 s.2.2 k) < 0)) (μ := fun s => (s.2.1 + 1 - s.1).toNat) (Q := fun r : Int × List E => ∃ m : Nat, r.1 = (m : Int) ∧ a < m ∧ m ≤ b ∧ Mv a b L r.2 ∧ nx e0 r.2 a = nx e0 L v ∧ (∀ k, a ≤ k → k < m → ¬ cv (nx e0 L v) (nx e0 r.2 k) < 0) ∧ (∀ k, m ≤ k → k < b → cv (nx e0 L v) (nx e0 r.2 k) < 0)) (by
    rintro ⟨s, t, L2⟩ ⟨i, jj, rfl, rfl, i1, i2, i3, i4, i5, i6, i7⟩
    simp only at i4 i5 i6 i7
    have hl := i4.len
    have hP2 := hP.mv h2 i4
    have hpa := hP2 a (by omega)
    unfold F43_17_l2
    simp only
    obtain ⟨x1, e1, a1, a2, a3, a4⟩ := adv_loop (step := F43_17_l0 F (a : Int) ((i : Int), (jj : Int) - 1, L2)) (fun k => !decide (cv (nx e0 L v) (nx e0 L2 k) < 0)) jj (jj - i) i F (Nat.le_refl _) (by omega) i2 (fun k k1 k2 => by
      unfold F43_17_l0
      simp only
      rw [if_pos (decide_eq_true (by omega)), nx_get (d := e0) (by omega : a < L2.length), nx_get (d := e0) (by omega : k < L2.length)]
      simp only [Option.bind_some]
      rw [hC.ok F hF _ _ hpa (hP2 k (by omega)), i5, wsuc (by omega)]
      simp only [Option.bind_some]
      exact ite_some _ _) (by
      unfold F43_17_l0
      simp only
      rw [if_neg (by rw [decide_eq_true_eq]; omega)]
      rfl)
    rw [e1, Option.bind_some]
    obtain ⟨y1, f1, b1, b2, b3, b4⟩ := dec_loop (step := F43_17_l1 F (a : Int) ((i : Int), (jj : Int) - 1, L2) (x1 : Int)) (fun k => decide (cv (nx e0 L v) (nx e0 L2 k) < 0)) x1 (jj - x1) jj F (Nat.le_refl _) (by omega) a2 (fun k k1 k2 => by
      unfold F43_17_l1
      simp only
      rw [if_pos (decide_eq_true (by omega)), nx_get (d := e0) (by omega : a < L2.length), nx_get (d := e0) (by omega : k < L2.length)]
      simp only [Option.bind_some]
      rw [hC.ok F hF _ _ hpa (hP2 k (by omega)), i5, w64 (by omega) (by omega)]
      simp only [Option.bind_some]
      exact ite_some _ _) (by
      unfold F43_17_l1
      simp only
      rw [if_neg (by rw [decide_eq_true_eq]; omega)]
      rfl)
    rw [f1, Option.bind_some]
    have lo1 : ∀ k, a ≤ k → k < x1 → ¬ cv (nx e0 L v) (nx e0 L2 k) < 0 := fun k k1 k2 => by
      by_cases q : k < i
      · exact i6 k k1 q
      · have := a3 k (by omega) k2; simpa using this
    have hi1 : ∀ k, y1 ≤ k → k < b → cv (nx e0 L v) (nx e0 L2 k) < 0 := fun k k1 k2 => by
      by_cases q : k < jj
      · have := b3 k k1 q; simpa using this
      · exact i7 k (by omega) k2
    by_cases hxy : y1 ≤ x1
    · right
      rw [if_pos (decide_eq_true (by omega))]
      exact ⟨_, rfl, x1, rfl, by omega, by omega, i4, i5, lo1, fun k k1 k2 => hi1 k (by omega) k2⟩
    · left
      have hx : cv (nx e0 L v) (nx e0 L2 x1) < 0 := by have := a4 (by omega); simpa using this
      have hy : ¬ cv (nx e0 L v) (nx e0 L2 (y1 - 1)) < 0 := by have := b4 (by omega); simpa using this
      have hne : x1 ≠ y1 - 1 := fun e => hy (e ▸ hx)
      rw [if_neg (by rw [decide_eq_true_eq]; omega), show (y1 : Int) - 1 = ((y1 - 1 : Nat) : Int) from by omega, nx_get (d := e0) (by omega : y1 - 1 < L2.length), nx_get (d := e0) (by omega : x1 < L2.length)]
      simp only [Option.bind_some]
      rw [ck_ok (by omega : x1 < L2.length), Option.bind_some]
      simp only [Int.toNat_natCast]
      rw [ck_ok (by simp; omega), Option.bind_some, wsuc (by omega), w64 (by omega) (by omega)]
      have hsw := nx_swp (L := L2) (i := x1) (j := y1 - 1) (by omega) (by omega)
      refine ⟨_, rfl, ⟨x1 + 1, y1 - 1, rfl, rfl, by omega, by omega, by omega, i4.trans (Mv.swap (i := x1) (j := y1 - 1) (by omega) (by omega) (by omega)), ?_, fun k k1 k2 => ?_, fun k k1 k2 => ?_⟩, by simp only; omega⟩
      · show nx e0 (swp L2 x1 (y1 - 1)) a = _
        rw [hsw, if_neg (by omega), if_neg (by omega)]; exact i5
      · show ¬ cv _ (nx e0 (swp L2 x1 (y1 - 1)) k) < 0
        rw [hsw, if_neg (by omega)]
        by_cases q : k = x1
        · rw [if_pos q]; exact hy
        · rw [if_neg q]; exact lo1 k k1 (by omega)
      · show cv _ (nx e0 (swp L2 x1 (y1 - 1)) k) < 0
        rw [hsw]
        by_cases q : k = y1 - 1
        · rw [if_pos q]; exact hx
        · rw [if_neg q, if_neg (by omega)]; exact hi1 k (by omega) k2) F (((a + 1 : Nat) : Int), ((b - 1 : Nat) : Int), swp L a v) ⟨a + 1, b, rfl, by simp only; omega, by omega, by omega, Nat.le_refl _, Mv.swap (by omega) (by omega) (by omega), by
      rw [nx_swp (by omega) (by omega)]
      by_cases q : a = v
      · rw [if_pos q, q]
      · rw [if_neg q, if_pos rfl], fun k k1 k2 => by
      have : k = a := by omega
      subst this
      rw [nx_swp (by omega) (by omega)]
      by_cases q : k = v
      · rw [if_pos q, q]; exact hC.irr _ hpv
      · rw [if_neg q, if_pos rfl]; exact hC.irr _ hpv, fun k k1 k2 => by omega⟩ (by simp only; omega)
  obtain ⟨m, hm, q1, q2, q3, q4, q5, q6⟩ := hQ
  have e' : iter (F43_17_l2 F (a : Int)) F (((a + 1 : Nat) : Int), ((b - 1 : Nat) : Int), (L.set a (nx e0 L v)).set v (nx e0 L a)) = some x := e
  rw [e', Option.bind_some]
  exact ⟨m, x.2, by rw [← hm], q1, q2, q3, q4, q5, q6⟩
end
end Go.Proofs.Ytaphdnpjpmnaeaa.pdqR

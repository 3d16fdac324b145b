/- Sorting by a comparison: the insertion sort that gives up; the heap sort. -/
import Derived.Test.YtaphdnpjpmnaeaaPdrC
set_option linter.unusedVariables false
set_option linter.unusedSimpArgs false
namespace Go.Proofs.Ytaphdnpjpmnaeaa.pdqR
open Go.Am Go.Proofs.Ytaphdnpjpmnaeaa.pdqN

section
variable {P : E → Prop} {cv : E → E → Int} {F0 F : Nat} {L : List E} {a b : Nat}
theorem Low.mv {L' : List E} {a' b' : Nat} (h : Low cv a b L) (m : Mv a' b' L L') (ha : a ≤ a') (hb : b' ≤ b) : Low cv a b L' := fun h0 k k1 k2 => by
  rw [m.out (a - 1) (by omega)]
  by_cases q : a' ≤ k ∧ k < b'
  · obtain ⟨j, j1, j2, j3⟩ := m.cont k q.1 q.2
    rw [j3]; exact h h0 j (by omega) (by omega)
  · rw [m.out k (by omega)]; exact h h0 k k1 k2

/-! ### To the left, to the right -/
theorem left_loop (hC : Cmp P cv F0) (hF : F0 ≤ F) (a b : Nat) : ∀ (j : Nat) (L2 : List E) (G i : Nat), j - a < G → a ≤ j → j ≤ i → i < L2.length → i < b → L2.length ≤ 8796093022208 → AP P L2 → Low cv a b L2 →
    (∀ p q, a ≤ p → p < q → q ≤ i → q ≠ j → ¬ cv (nx e0 L2 q) (nx e0 L2 p) < 0) →
    ∃ L', iter (F42_17_l1 F) G ((j : Int), L2) = some L' ∧ Mv a (i + 1) L2 L' ∧ Sd cv a (i + 1) L' := by
  intro j
  induction j with
  | zero =>
    intro L2 G i hG ha hji hi hib hsm hp hlow hs
    obtain ⟨G, rfl⟩ : ∃ q, G = q + 1 := ⟨G - 1, by omega⟩
    refine ⟨L2, iter_stop ?_, Mv.refl _ _ _, fun p q h1 h2 h3 => hs p q h1 h2 (by omega) (by omega)⟩
    unfold F42_17_l1
    simp only
    rw [if_neg (by rw [decide_eq_true_eq]; omega)]
  | succ j ih =>
    intro L2 G i hG ha hji hi hib hsm hp hlow hs
    obtain ⟨G, rfl⟩ : ∃ q, G = q + 1 := ⟨G - 1, by omega⟩
    have p1 := hp (j + 1) (by omega)
    have p2 := hp j (by omega)
    by_cases hc : cv (nx e0 L2 (j + 1)) (nx e0 L2 j) < 0
    · have hja : a < j + 1 := by
        by_cases e : a = j + 1
        · exfalso
          have := hlow (by omega) (j + 1) (by omega) (by omega)
          rw [e, Nat.add_sub_cancel] at this
          exact this hc
        · omega
      have hs1 : F42_17_l1 F (((j + 1 : Nat) : Int), L2) = some (.more ((j : Int), swp L2 (j + 1) j)) := by
        unfold F42_17_l1
        simp only
        rw [if_pos (decide_eq_true (by omega)), wpred (by omega) (by omega), Nat.add_sub_cancel, nx_get (d := e0) (by omega : j + 1 < L2.length), nx_get (d := e0) (by omega : j < L2.length)]
        simp only [Option.bind_some]
        rw [hC.ok F hF _ _ p1 p2]
        simp only [Option.bind_some]
        rw [if_neg (by simp [hc]), ck_ok (by omega : j + 1 < L2.length)]
        simp only [Option.bind_some, Int.toNat_natCast]
        rw [ck_ok (by simp; omega)]
        rfl
      have hm : Mv a (i + 1) L2 (swp L2 (j + 1) j) := Mv.swap (by omega) (by omega) (by omega)
      have hn := nx_swp (L := L2) (i := j + 1) (j := j) (by omega) (by omega)
      obtain ⟨L', e1, e2, e3⟩ := ih (swp L2 (j + 1) j) G i (by omega) (by omega) (by omega) (by rw [swp_len]; exact hi) hib (by rw [swp_len]; exact hsm) (hp.mv (by omega) hm) (hlow.mv hm (Nat.le_refl _) (by omega)) (fun p q h1 h2 h3 h4 => by
        rw [hn q, hn p]
        by_cases q1 : q = j + 1
        · rw [if_neg (by omega), if_pos q1]
          by_cases q2 : p = j
          · rw [if_pos q2]
            exact hC.asy _ _ p1 p2 hc
          · rw [if_neg q2, if_neg (by omega)]
            exact hs p j h1 (by omega) (by omega) (by omega)
        · rw [if_neg h4, if_neg q1]
          by_cases q2 : p = j
          · rw [if_pos q2]
            exact hs (j + 1) q (by omega) (by omega) h3 q1
          · rw [if_neg q2]
            by_cases q3 : p = j + 1
            · rw [if_pos q3]
              exact hs j q (by omega) (by omega) h3 q1
            · rw [if_neg q3]
              exact hs p q h1 h2 h3 q1)
      exact ⟨L', by rw [iter_more hs1]; exact e1, hm.trans e2, e3⟩
    · refine ⟨L2, iter_stop ?_, Mv.refl _ _ _, fun p q h1 h2 h3 => ?_⟩
      · unfold F42_17_l1
        simp only
        rw [if_pos (decide_eq_true (by omega)), wpred (by omega) (by omega), Nat.add_sub_cancel, nx_get (d := e0) (by omega : j + 1 < L2.length), nx_get (d := e0) (by omega : j < L2.length)]
        simp only [Option.bind_some]
        rw [hC.ok F hF _ _ p1 p2]
        simp only [Option.bind_some]
        rw [if_pos (by simp [hc])]
      · by_cases q1 : q = j + 1
        · subst q1
          by_cases q2 : p = j
          · subst q2; exact hc
          · exact hC.tr _ _ _ (hp p (by omega)) p2 p1 (hs p j h1 (by omega) (by omega) (by omega)) hc
        · exact hs p q h1 h2 (by omega) q1
theorem right_loop (hC : Cmp P cv F0) (hF : F0 ≤ F) (b : Nat) : ∀ (n j : Nat) (L2 : List E) (G i : Nat), b - j ≤ n → n < G → i < j → b ≤ L2.length → L2.length ≤ 8796093022208 → AP P L2 →
    ∃ L', iter (F42_17_l2 F (b : Int)) G ((j : Int), L2) = some L' ∧ Mv i b L2 L'
  | 0, j, L2, G, i, hn, hG, hij, hb, hsm, hp => by
    obtain ⟨G, rfl⟩ : ∃ q, G = q + 1 := ⟨G - 1, by omega⟩
    refine ⟨L2, iter_stop ?_, Mv.refl _ _ _⟩
    unfold F42_17_l2
    simp only
    rw [if_neg (by rw [decide_eq_true_eq]; omega)]
  | n + 1, j, L2, G, i, hn, hG, hij, hb, hsm, hp => by
    obtain ⟨G, rfl⟩ : ∃ q, G = q + 1 := ⟨G - 1, by omega⟩
    by_cases hjb : j < b
    · have p1 := hp j (by omega)
      have p2 := hp (j - 1) (by omega)
      by_cases hc : cv (nx e0 L2 j) (nx e0 L2 (j - 1)) < 0
      · have hs1 : F42_17_l2 F (b : Int) ((j : Int), L2) = some (.more (((j + 1 : Nat) : Int), swp L2 j (j - 1))) := by
          unfold F42_17_l2
          simp only
          rw [if_pos (decide_eq_true (by omega)), wpred (by omega) (by omega), nx_get (d := e0) (by omega : j < L2.length), nx_get (d := e0) (by omega : j - 1 < L2.length)]
          simp only [Option.bind_some]
          rw [hC.ok F hF _ _ p1 p2]
          simp only [Option.bind_some]
          rw [if_neg (by simp [hc]), ck_ok (by omega : j < L2.length)]
          simp only [Option.bind_some, Int.toNat_natCast]
          rw [ck_ok (by simp; omega), wsuc (by omega)]
          rfl
        have hm : Mv i b L2 (swp L2 j (j - 1)) := Mv.swap (by omega) (by omega) (by omega)
        obtain ⟨L', e1, e2⟩ := right_loop hC hF b n (j + 1) (swp L2 j (j - 1)) G i (by omega) (by omega) (by omega) (by rw [swp_len]; exact hb) (by rw [swp_len]; exact hsm) (hp.mv hb hm)
        exact ⟨L', by rw [iter_more hs1]; exact e1, hm.trans e2⟩
      · refine ⟨L2, iter_stop ?_, Mv.refl _ _ _⟩
        unfold F42_17_l2
        simp only
        rw [if_pos (decide_eq_true (by omega)), wpred (by omega) (by omega), nx_get (d := e0) (by omega : j < L2.length), nx_get (d := e0) (by omega : j - 1 < L2.length)]
        simp only [Option.bind_some]
        rw [hC.ok F hF _ _ p1 p2]
        simp only [Option.bind_some]
        rw [if_pos (by simp [hc])]
    · refine ⟨L2, iter_stop ?_, Mv.refl _ _ _⟩
      unfold F42_17_l2
      simp only
      rw [if_neg (by rw [decide_eq_true_eq]; omega)]
theorem pis_eq (hC : Cmp P cv F0) (hF : F0 ≤ F) (hR : Rng L a b) (hP : AP P L) (hG : b - a + 10 ≤ F) (hlow : Low cv a b L) (hab : a < b) : ∃ (f : Bool) (L' : List E), F42_17 F L (a : Int) (b : Int) = some (f, L') ∧ Mv a b L L' ∧ (f = true → Sd cv a b L') := by
  have h1 := hR.ab; have h2 := hR.bl; have h3 := hR.sm
  unfold F42_17
  rw [wsuc (by omega)]
  obtain ⟨x, e, hQ⟩ := iter_inv (step := F42_17_l3 F (a : Int) (b : Int)) (I := fun s : Int × Int × List E => ∃ i k : Nat, s.1 = (i : Int) ∧ s.2.1 = (k : Int) ∧ a < i ∧ i ≤ b ∧ k ≤ 5 ∧ Mv a b L s.2.2 ∧ Sd cv a i s.2.2) (μ := fun s => 6 - s.2.1.toNat) (Q := fun r : List E ⊕ (Bool × List E) => match r with | .inl L' => Mv a b L L' | .inr q => Mv a b L q.2 ∧ (q.1 = true → Sd cv a b q.2)) (by
    rintro ⟨s, t, L2⟩ ⟨i, k, rfl, rfl, i1, i2, i3, i4, i5⟩
    simp only at i4 i5
    have hl := i4.len
    have hP2 := hP.mv h2 i4
    have hlow2 := hlow.mv i4 (Nat.le_refl _) (Nat.le_refl _)
    unfold F42_17_l3
    simp only
    by_cases hk : k < 5
    · rw [if_pos (decide_eq_true (by omega))]
      obtain ⟨x1, e1, a1, a2, a3, a4⟩ := adv_loop (step := F42_17_l0 F (b : Int) ((i : Int), (k : Int), L2)) (fun k => !decide (cv (nx e0 L2 k) (nx e0 L2 (k - 1)) < 0)) b (b - i) i F (Nat.le_refl _) (by omega) i2 (fun k k1 k2 => by
        unfold F42_17_l0
        simp only
        rw [if_pos (decide_eq_true (by omega)), wpred (by omega) (by omega), nx_get (d := e0) (by omega : k < L2.length), nx_get (d := e0) (by omega : k - 1 < L2.length)]
        simp only [Option.bind_some]
        rw [hC.ok F hF _ _ (hP2 k (by omega)) (hP2 (k - 1) (by omega)), wsuc (by omega)]
        simp only [Option.bind_some]
        exact ite_some _ _) (by
        unfold F42_17_l0
        simp only
        rw [if_neg (by rw [decide_eq_true_eq]; omega)]
        rfl)
      rw [e1, Option.bind_some]
      have ext : ∀ n, i ≤ n → n ≤ x1 → Sd cv a n L2 := by
        intro n hn1 hn2
        induction n with
        | zero => omega
        | succ n ih =>
          by_cases q : i = n + 1
          · rw [← q]; exact i5
          · have ih := ih (by omega) (by omega)
            intro p r r1 r2 r3
            by_cases q2 : r = n
            · subst q2
              have ha := a3 r (by omega) (by omega)
              have ha : ¬ cv (nx e0 L2 r) (nx e0 L2 (r - 1)) < 0 := by simpa using ha
              by_cases q3 : p = r - 1
              · rw [q3]; exact ha
              · exact hC.tr _ _ _ (hP2 p (by omega)) (hP2 (r - 1) (by omega)) (hP2 r (by omega)) (ih p (r - 1) r1 (by omega) (by omega)) ha
            · exact ih p r r1 r2 (by omega)
      have hsd := ext x1 a1 (Nat.le_refl _)
      by_cases hx : x1 = b
      · right
        rw [if_pos (by simp [hx])]
        refine ⟨_, rfl, i4, fun _ => ?_⟩
        rw [← hx]; exact hsd
      · rw [if_neg (by simp; omega), wsub (by omega) (by omega)]
        by_cases h50 : b - a < 50
        · right
          rw [if_pos (decide_eq_true (by omega))]
          exact ⟨_, rfl, i4, fun h => by cases h⟩
        · left
          have hcx : cv (nx e0 L2 x1) (nx e0 L2 (x1 - 1)) < 0 := by have := a4 (by omega); simpa using this
          rw [if_neg (by rw [decide_eq_true_eq]; omega), wpred (by omega) (by omega), nx_get (d := e0) (by omega : x1 - 1 < L2.length), nx_get (d := e0) (by omega : x1 < L2.length)]
          simp only [Option.bind_some]
          rw [ck_ok (by omega : x1 < L2.length), Option.bind_some]
          simp only [Int.toNat_natCast]
          rw [ck_ok (by simp; omega), Option.bind_some, wsub (by omega) (by omega), wsub (by omega) (by omega), wsuc (by omega), wsuc (by omega)]
          rw [show (L2.set x1 (nx e0 L2 (x1 - 1))).set (x1 - 1) (nx e0 L2 x1) = swp L2 x1 (x1 - 1) from rfl]
          have hm : Mv a b L2 (swp L2 x1 (x1 - 1)) := Mv.swap (by omega) (by omega) (by omega)
          have hn := nx_swp (L := L2) (i := x1) (j := x1 - 1) (by omega) (by omega)
          -- to the left
          have hleft : ∃ L3, (if (decide (((x1 - a : Nat) : Int) ≥ 2)) = true then ((iter (F42_17_l1 F) F (((x1 - 1 : Nat) : Int), swp L2 x1 (x1 - 1))).bind fun b74 => some b74) else some (swp L2 x1 (x1 - 1)) : Option (List E)) = some L3 ∧ Mv a b L2 L3 ∧ Sd cv a x1 L3 := by
            by_cases h2a : 2 ≤ x1 - a
            · obtain ⟨L3, e3, m3, s3⟩ := left_loop hC hF a b (x1 - 1) (swp L2 x1 (x1 - 1)) F (x1 - 1) (by omega) (by omega) (Nat.le_refl _) (by rw [swp_len]; omega) (by omega) (by rw [swp_len]; omega) (hP2.mv (by omega) hm) (hlow2.mv hm (Nat.le_refl _) (Nat.le_refl _)) (fun p q q1 q2 q3 q4 => by
                rw [hn q, hn p, if_neg q4, if_neg (by omega), if_neg (by omega), if_neg (by omega)]
                exact hsd p q q1 q2 (by omega))
              rw [if_pos (decide_eq_true (by omega)), e3]
              rw [show x1 - 1 + 1 = x1 from by omega] at m3 s3
              exact ⟨L3, rfl, hm.trans (m3.mono (Nat.le_refl _) (by omega)), s3⟩
            · rw [if_neg (by rw [decide_eq_true_eq]; omega)]
              exact ⟨_, rfl, hm, fun p q q1 q2 q3 => by omega⟩
          obtain ⟨L3, e3, m3, s3⟩ := hleft
          rw [e3]
          simp only [Option.bind_some]
          have hl3 := m3.len
          by_cases h2b : 2 ≤ b - x1
          · obtain ⟨L4, e4, m4⟩ := right_loop hC hF b (b - (x1 + 1)) (x1 + 1) L3 F x1 (Nat.le_refl _) (by omega) (by omega) (by omega) (by omega) (hP2.mv (by omega) m3)
            rw [if_pos (decide_eq_true (by omega)), e4]
            simp only [Option.bind_some]
            refine ⟨_, rfl, ⟨x1, k + 1, rfl, rfl, by omega, by omega, by omega, (i4.trans m3).trans (m4.mono (by omega) (Nat.le_refl _)), fun p q q1 q2 q3 => ?_⟩, by simp only [Int.toNat_natCast]; omega⟩
            rw [m4.out p (by omega), m4.out q (by omega)]
            exact s3 p q q1 q2 q3
          · rw [if_neg (by rw [decide_eq_true_eq]; omega)]
            exact ⟨_, rfl, ⟨x1, k + 1, rfl, rfl, by omega, by omega, by omega, i4.trans m3, s3⟩, by simp only [Int.toNat_natCast]; omega⟩
    · right
      rw [if_neg (by rw [decide_eq_true_eq]; omega)]
      exact ⟨_, rfl, i4⟩) F (((a + 1 : Nat) : Int), 0, L) ⟨a + 1, 0, rfl, rfl, by omega, by omega, by omega, Mv.refl _ _ _, fun p q q1 q2 q3 => by omega⟩ (by simp only [Int.toNat_zero]; omega)
  rw [e, Option.bind_some]
  cases x with
  | inl L' => exact ⟨false, L', rfl, hQ, fun h => by cases h⟩
  | inr q => exact ⟨q.1, q.2, rfl, hQ.1, hQ.2⟩
end
end Go.Proofs.Ytaphdnpjpmnaeaa.pdqR

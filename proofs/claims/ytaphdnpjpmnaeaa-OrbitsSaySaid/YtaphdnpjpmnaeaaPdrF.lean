/- Sorting by a comparison: the whole. -/
import Derived.Test.YtaphdnpjpmnaeaaPdrE
set_option linter.unusedVariables false
set_option linter.unusedSimpArgs false
namespace Go.Proofs.Ytaphdnpjpmnaeaa.pdqR
open Go.Am Go.Proofs.Ytaphdnpjpmnaeaa.pdqN

section
variable {P : E → Prop} {cv : E → E → Int} {F0 F : Nat} {L : List E} {a b : Nat}
/-- Sorted, but for what stands between a and b. -/
def Bd (cv : E → E → Int) (a0 b0 a b : Nat) (L : List E) : Prop := ∀ p q, a0 ≤ p → p < q → q < b0 → (p < a ∨ b ≤ q) → ¬ cv (nx e0 L q) (nx e0 L p) < 0
theorem Bd.mv {a0 b0 : Nat} {L L' : List E} (h : Bd cv a0 b0 a b L) (m : Mv a b L L') (h1 : a0 ≤ a) (h2 : b ≤ b0) : Bd cv a0 b0 a b L' := fun p q p1 p2 p3 p4 => by
  have gp : ∃ p', a0 ≤ p' ∧ (p < a → p' = p) ∧ (b ≤ p → p' = p) ∧ (a ≤ p → p < b → a ≤ p' ∧ p' < b) ∧ nx e0 L' p = nx e0 L p' := by
    by_cases c : a ≤ p ∧ p < b
    · obtain ⟨j, j1, j2, j3⟩ := m.cont p c.1 c.2
      exact ⟨j, by omega, fun h => by omega, fun h => by omega, fun _ _ => ⟨j1, j2⟩, j3⟩
    · exact ⟨p, p1, fun _ => rfl, fun _ => rfl, fun h h' => by omega, m.out p (by omega)⟩
  have gq : ∃ q', (q < a → q' = q) ∧ (b ≤ q → q' = q) ∧ (a ≤ q → q < b → a ≤ q' ∧ q' < b) ∧ nx e0 L' q = nx e0 L q' := by
    by_cases c : a ≤ q ∧ q < b
    · obtain ⟨j, j1, j2, j3⟩ := m.cont q c.1 c.2
      exact ⟨j, fun h => by omega, fun h => by omega, fun _ _ => ⟨j1, j2⟩, j3⟩
    · exact ⟨q, fun _ => rfl, fun _ => rfl, fun h h' => by omega, m.out q (by omega)⟩
  obtain ⟨p', a1, a2, a3, a4, a5⟩ := gp
  obtain ⟨q', b1, b2, b3, b4⟩ := gq
  rw [a5, b4]
  rcases p4 with c | c
  · have e1 := a2 c
    subst e1
    by_cases c2 : q < a
    · rw [b1 c2]; exact h _ _ p1 p2 p3 (.inl c)
    · by_cases c3 : b ≤ q
      · rw [b2 c3]; exact h _ _ p1 p2 p3 (.inl c)
      · have := b3 (by omega) (by omega)
        exact h _ _ p1 (by omega) (by omega) (.inl c)
  · have e1 := b2 c
    subst e1
    by_cases c2 : p < a
    · rw [a2 c2]; exact h _ _ p1 p2 p3 (.inr c)
    · by_cases c3 : b ≤ p
      · rw [a3 c3]; exact h _ _ p1 p2 p3 (.inr c)
      · have := a4 (by omega) (by omega)
        exact h _ _ a1 (by omega) p3 (.inr c)
theorem Bd.sd {a0 b0 : Nat} {L : List E} (h : Bd cv a0 b0 a b L) (s : Sd cv a b L) : Sd cv a0 b0 L := fun p q p1 p2 p3 => by
  by_cases c : p < a ∨ b ≤ q
  · exact h p q p1 p2 p3 c
  · exact s p q (by omega) p2 (by omega)
theorem Bd.low {a0 b0 : Nat} {L : List E} (h : Bd cv a0 b0 a b L) (hl : Low cv a0 b0 L) (h1 : a0 ≤ a) (h2 : b ≤ b0) : Low cv a b L := fun h0 k k1 k2 => by
  by_cases c : a = a0
  · subst c; exact hl h0 k k1 (by omega)
  · exact h (a - 1) k (by omega) (by omega) (by omega) (.inl (by omega))

/-- What is asked of the sort of a smaller part. -/
def Sub (P : E → Prop) (cv : E → E → Int) (frec : List E → Int → Int → Int → Option (List E)) (N : Nat) : Prop :=
  ∀ (a b : Nat) (L : List E) (lim : Int), Rng L a b → AP P L → Low cv a b L → b - a < N → ∃ L', frec L (a : Int) (b : Int) lim = some L' ∧ Mv a b L L' ∧ Sd cv a b L'

theorem pdq_loop (hC : Cmp P cv F0) (hF : F0 ≤ F) {frec : List E → Int → Int → Int → Option (List E)} {a0 b0 : Nat} {L0 : List E} (hS : Sub P cv frec (b0 - a0)) (hR0 : Rng L0 a0 b0) (hP0 : AP P L0) (hlow0 : Low cv a0 b0 L0) (hFb : b0 - a0 + 20 ≤ F) :
    ∀ (n a b : Nat) (lim : Int) (wb wp : Bool) (L : List E) (G : Nat), b - a ≤ n → n < G → a0 ≤ a → a ≤ b → b ≤ b0 → Mv a0 b0 L0 L → Bd cv a0 b0 a b L →
    ∃ L', iter (F28_17_l0 F frec) G ((a : Int), (b : Int), lim, wb, wp, L) = some L' ∧ Mv a0 b0 L0 L' ∧ Sd cv a0 b0 L' := by
  have g1 := hR0.ab; have g2 := hR0.bl; have g3 := hR0.sm
  intro n
  induction n with
  | zero =>
    intro a b lim wb wp L G hn hG ha hab hb m hB
    obtain ⟨G, rfl⟩ : ∃ q, G = q + 1 := ⟨G - 1, by omega⟩
    have hl := m.len
    have hP := hP0.mv g2 m
    have hR : Rng L a b := ⟨hab, by omega, by omega⟩
    obtain ⟨L', e1, m1, s1⟩ := ins_eq hC hF hR hP (by omega)
    refine ⟨L', iter_stop ?_, m.trans (m1.mono ha hb), (hB.mv m1 ha hb).sd s1⟩
    unfold F28_17_l0
    simp only
    rw [wsub hab (by omega), if_pos (decide_eq_true (by omega)), e1]
    rfl
  | succ n ih =>
    intro a b lim wb wp L G hn hG ha hab hb m hB
    obtain ⟨G, rfl⟩ : ∃ q, G = q + 1 := ⟨G - 1, by omega⟩
    have hl := m.len
    have hP := hP0.mv g2 m
    have hR : Rng L a b := ⟨hab, by omega, by omega⟩
    have hlowL0 : Low cv a0 b0 L := hlow0.mv m (Nat.le_refl _) (Nat.le_refl _)
    have hlow : Low cv a b L := hB.low hlowL0 ha hb
    by_cases h12 : b - a ≤ 12
    · obtain ⟨L', e1, m1, s1⟩ := ins_eq hC hF hR hP (by omega)
      refine ⟨L', iter_stop ?_, m.trans (m1.mono ha hb), (hB.mv m1 ha hb).sd s1⟩
      unfold F28_17_l0
      simp only
      rw [wsub hab (by omega), if_pos (decide_eq_true (by omega)), e1]
      rfl
    by_cases hlim : (lim == 0) = true
    · obtain ⟨L', e1, m1, s1⟩ := heap_eq hC hF hR hP (by omega) (by omega)
      refine ⟨L', iter_stop ?_, m.trans (m1.mono ha hb), (hB.mv m1 ha hb).sd s1⟩
      unfold F28_17_l0
      simp only
      rw [wsub hab (by omega), if_neg (by rw [decide_eq_true_eq]; omega), if_pos hlim, e1]
      rfl
    -- patterns are broken
    obtain ⟨lim2, L2, e2, m2⟩ : ∃ (lim2 : Int) (L2 : List E), (if (!wb) = true then ((F39_17 F L (a : Int) (b : Int)).bind fun r17 => some (((wrapA .i64 (lim - 1)), r17))) else some ((lim, L)) : Option (Int × List E)) = some (lim2, L2) ∧ Mv a b L L2 := by
      by_cases hw : (!wb) = true
      · obtain ⟨L2, e, m2⟩ := break_eq (F := F) hR (by omega)
        rw [if_pos hw, e]; exact ⟨_, L2, rfl, m2⟩
      · rw [if_neg hw]; exact ⟨_, L, rfl, Mv.refl _ _ _⟩
    have hR2 := hR.mv m2
    have hP2 := hP.mv (by omega) m2
    have hl2 := m2.len
    obtain ⟨pv, hint, e3, v1, v2⟩ := choose_eq hC hF hR2 hP2 (by omega)
    -- turned round
    obtain ⟨pv2, hint2, L3, e4, v3, v4, m3⟩ : ∃ (pv2 : Nat) (hint2 : Int) (L3 : List E), (if (hint == 2) = true then ((F41_17 F L2 (a : Int) (b : Int)).bind fun r31 => some (((wrapA .i64 ((wrapA .i64 ((b : Int) - 1)) - (wrapA .i64 ((pv : Int) - (a : Int))))), 1, r31))) else some (((pv : Int), hint, L2)) : Option (Int × Int × List E)) = some ((pv2 : Int), hint2, L3) ∧ a ≤ pv2 ∧ pv2 < b ∧ Mv a b L2 L3 := by
      by_cases hh : (hint == 2) = true
      · obtain ⟨L3, e, m3⟩ := rev_eq (F := F) hR2 (by omega) (by omega)
        rw [if_pos hh, e, wpred (by omega) (by omega), wsub (by omega) (by omega), wsub (by omega) (by omega)]
        exact ⟨_, _, L3, rfl, by omega, by omega, m3⟩
      · rw [if_neg hh]; exact ⟨pv, _, L2, rfl, v1, v2, Mv.refl _ _ _⟩
    have hR3 := hR2.mv m3
    have hP3 := hP2.mv (by omega) m3
    have hl3 := m3.len
    have m23 := m2.trans m3
    have hlow3 : Low cv a b L3 := hlow.mv m23 (Nat.le_refl _) (Nat.le_refl _)
    have hB3 := hB.mv m23 ha hb
    have mm3 := m.trans (m23.mono ha hb)
    -- sorted already?
    obtain ⟨z, e5, hz⟩ : ∃ z : List E ⊕ List E, (if ((wb && wp) && (hint2 == 1)) = true then ((F42_17 F L3 (a : Int) (b : Int)).bind fun r43 => if r43.1 = true then (some ((.inr r43.2))) else some ((.inl r43.2))) else some ((.inl L3)) : Option (List E ⊕ List E)) = some z ∧ (match z with | .inl L4 => Mv a b L3 L4 | .inr L4 => Mv a b L3 L4 ∧ Sd cv a b L4) := by
      by_cases hc : ((wb && wp) && (hint2 == 1)) = true
      · obtain ⟨f, L4, e, m4, s4⟩ := pis_eq hC hF hR3 hP3 (by omega) hlow3 (by omega)
        rw [if_pos hc, e]
        simp only [Option.bind_some]
        cases f
        · exact ⟨_, rfl, m4⟩
        · exact ⟨_, rfl, m4, s4 rfl⟩
      · rw [if_neg hc]; exact ⟨_, rfl, Mv.refl _ _ _⟩
    cases z with
    | inr L4 =>
      obtain ⟨m4, s4⟩ := hz
      refine ⟨L4, iter_stop ?_, mm3.trans (m4.mono ha hb), (hB3.mv m4 ha hb).sd s4⟩
      unfold F28_17_l0
      simp only
      rw [wsub hab (by omega), if_neg (by rw [decide_eq_true_eq]; omega), if_neg hlim, e2, Option.bind_some]
      simp only
      rw [e3, Option.bind_some]
      simp only
      rw [e4, Option.bind_some]
      simp only
      rw [e5, Option.bind_some]
    | inl L4 =>
      have m4 : Mv a b L3 L4 := hz
      have hR4 := hR3.mv m4
      have hP4 := hP3.mv (by omega) m4
      have hl4 := m4.len
      have hlow4 := hlow3.mv m4 (Nat.le_refl _) (Nat.le_refl _)
      have hB4 := hB3.mv m4 ha hb
      have mm4 := mm3.trans (m4.mono ha hb)
      -- is the pivot no more than what stands ahead?
      obtain ⟨y, e6, hy⟩ : ∃ y : Bool, (if (decide ((a : Int) > 0)) = true then ((at? L4 (wrapA .i64 ((a : Int) - 1))).bind fun x56 => (at? L4 (pv2 : Int)).bind fun x58 => (F17 F x56 x58).bind fun r60 => some (!(decide (r60 < 0)))) else some false : Option Bool) = some y ∧ (y = true → 0 < a ∧ ¬ cv (nx e0 L4 (a - 1)) (nx e0 L4 pv2) < 0) := by
        by_cases h0 : 0 < a
        · rw [if_pos (decide_eq_true (by omega)), wpred h0 (by omega), nx_get (d := e0) (by omega : a - 1 < L4.length), nx_get (d := e0) (by omega : pv2 < L4.length)]
          simp only [Option.bind_some]
          rw [hC.ok F hF _ _ (hP4 _ (by omega)) (hP4 _ (by omega))]
          exact ⟨_, rfl, fun h => ⟨h0, by simpa using h⟩⟩
        · rw [if_neg (by rw [decide_eq_true_eq]; omega)]
          exact ⟨_, rfl, fun h => by cases h⟩
      cases y with
      | true =>
        obtain ⟨h0, hle⟩ := hy rfl
        obtain ⟨mid, L5, e7, d1, d2, m5, d3, d4, d5⟩ := peq_eq hC hF hR4 hP4 (by omega) pv2 v3 v4
        have hl5 := m5.len
        have hP5 := hP4.mv (by omega) m5
        have hB5 := hB4.mv m5 ha hb
        have hlow5 := hlow4.mv m5 (Nat.le_refl _) (Nat.le_refl _)
        have hpp := hP4 pv2 (by omega)
        have hB6 : Bd cv a0 b0 mid b L5 := fun p q p1 p2 p3 p4 => by
          by_cases c : p < a ∨ b ≤ q
          · exact hB5 p q p1 p2 p3 c
          · have hpm : p < mid := by omega
            have l1 := d4 p (by omega) hpm
            by_cases c2 : q < mid
            · -- both equal to the pivot
              have l2 := hlow5 h0 q (by omega) (by omega)
              rw [m5.out (a - 1) (by omega)] at l2
              exact hC.tr _ _ _ (hP5 p (by omega)) (hP4 (a - 1) (by omega)) (hP5 q (by omega)) (hC.tr _ _ _ (hP5 p (by omega)) hpp (hP4 (a - 1) (by omega)) l1 hle) l2
            · have l2 := d5 q (by omega) (by omega)
              exact hC.tr _ _ _ (hP5 p (by omega)) hpp (hP5 q (by omega)) l1 (hC.asy _ _ hpp (hP5 q (by omega)) l2)
        obtain ⟨L', e8, q1, q2⟩ := ih mid b lim2 wb wp L5 G (by omega) (by omega) (by omega) d2 hb (mm4.trans (m5.mono ha hb)) hB6
        refine ⟨L', ?_, q1, q2⟩
        have hs : F28_17_l0 F frec ((a : Int), (b : Int), lim, wb, wp, L) = some (.more ((mid : Int), (b : Int), lim2, wb, wp, L5)) := by
          unfold F28_17_l0
          simp only
          rw [wsub hab (by omega), if_neg (by rw [decide_eq_true_eq]; omega), if_neg hlim, e2, Option.bind_some]
          simp only
          rw [e3, Option.bind_some]
          simp only
          rw [e4, Option.bind_some]
          simp only
          rw [e5, Option.bind_some]
          simp only
          rw [e6, Option.bind_some, if_pos rfl, e7, Option.bind_some]
        rw [iter_more hs]; exact e8
      | false =>
        obtain ⟨mid, al, L5, e7, hq⟩ := part_eq hC hF hR4 hP4 (by omega) pv2 v3 v4
        have d1 := hq.am; have d2 := hq.mb; have m5 := hq.mv
        have hl5 := m5.len
        have hR5 := hR4.mv m5
        have hP5 := hP4.mv (by omega) m5
        have hB5 := hB4.mv m5 ha hb
        have hlow5 := hlow4.mv m5 (Nat.le_refl _) (Nat.le_refl _)
        have hpp := hP4 pv2 (by omega)
        have mm5 := mm4.trans (m5.mono ha hb)
        have hpre : F28_17_l0 F frec ((a : Int), (b : Int), lim, wb, wp, L) =
            (if (decide (((mid - a : Nat) : Int) < ((b - mid : Nat) : Int))) = true then ((frec L5 (a : Int) (mid : Int) lim2).bind fun r79 => some (.more (((mid + 1 : Nat) : Int), (b : Int), lim2, (decide (((mid - a : Nat) : Int) ≥ (wrapA .i64 (Int.tdiv ((b - a : Nat) : Int) 8)))), al, r79)))
            else (frec L5 (((mid + 1 : Nat) : Int)) (b : Int) lim2).bind fun r83 => some (.more ((a : Int), (mid : Int), lim2, (decide (((b - mid : Nat) : Int) ≥ (wrapA .i64 (Int.tdiv ((b - a : Nat) : Int) 8)))), al, r83))) := by
          unfold F28_17_l0
          simp only
          rw [wsub hab (by omega), if_neg (by rw [decide_eq_true_eq]; omega), if_neg hlim, e2, Option.bind_some]
          simp only
          rw [e3, Option.bind_some]
          simp only
          rw [e4, Option.bind_some]
          simp only
          rw [e5, Option.bind_some]
          simp only
          rw [e6, Option.bind_some, if_neg (by decide), e7, Option.bind_some]
          simp only
          rw [wsub d1 (by omega), wsub (by omega : mid ≤ b) (by omega), wsuc (by omega)]
        by_cases hlr : mid - a < b - mid
        · obtain ⟨L6, e8, m6, s6⟩ := hS a mid L5 lim2 ⟨d1, by omega, by omega⟩ hP5 (fun h0 k k1 k2 => hlow5 h0 k k1 (by omega)) (by omega)
          have hl6 := m6.len
          have hP6 := hP5.mv (by omega) m6
          have hB6 := hB5.mv (m6.mono (Nat.le_refl _) (by omega)) ha hb
          have hB7 : Bd cv a0 b0 (mid + 1) b L6 := fun p q p1 p2 p3 p4 => by
            by_cases c : p < a ∨ b ≤ q
            · exact hB6 p q p1 p2 p3 c
            · have hpm : p ≤ mid := by omega
              by_cases c2 : q < mid
              · exact s6 p q (by omega) p2 c2
              · -- p is no more than the pivot, q no less
                have lq : ¬ cv (nx e0 L6 q) (nx e0 L4 pv2) < 0 := by
                  rw [m6.out q (by omega)]
                  by_cases c3 : q = mid
                  · rw [c3, hq.pm]; exact hC.irr _ hpp
                  · exact hq.hi q (by omega) (by omega)
                have lp : ¬ cv (nx e0 L4 pv2) (nx e0 L6 p) < 0 := by
                  by_cases c3 : p = mid
                  · rw [m6.out p (by omega), c3, hq.pm]; exact hC.irr _ hpp
                  · obtain ⟨j, j1, j2, j3⟩ := m6.cont p (by omega) (by omega)
                    rw [j3]
                    exact hC.asy _ _ (hP5 j (by omega)) hpp (hq.lo j j1 j2)
                exact hC.tr _ _ _ (hP6 p (by omega)) hpp (hP6 q (by omega)) lp lq
          rw [if_pos (decide_eq_true (by omega)), e8, Option.bind_some] at hpre
          obtain ⟨L', e9, q1, q2⟩ := ih (mid + 1) b lim2 _ al L6 G (by omega) (by omega) (by omega) (by omega) hb (mm5.trans (m6.mono ha (by omega))) hB7
          exact ⟨L', by rw [iter_more hpre]; exact e9, q1, q2⟩
        · obtain ⟨L6, e8, m6, s6⟩ := hS (mid + 1) b L5 lim2 ⟨by omega, by omega, by omega⟩ hP5 (fun h0 k k1 k2 => by
            rw [Nat.add_sub_cancel, hq.pm]; exact hq.hi k (by omega) k2) (by omega)
          have hl6 := m6.len
          have hP6 := hP5.mv (by omega) m6
          have hB6 := hB5.mv (m6.mono (by omega) (Nat.le_refl _)) ha hb
          have hB7 : Bd cv a0 b0 a mid L6 := fun p q p1 p2 p3 p4 => by
            by_cases c : p < a ∨ b ≤ q
            · exact hB6 p q p1 p2 p3 c
            · have hqm : mid ≤ q := by omega
              by_cases c2 : mid < p
              · exact s6 p q (by omega) p2 (by omega)
              · have lp : ¬ cv (nx e0 L4 pv2) (nx e0 L6 p) < 0 := by
                  rw [m6.out p (by omega)]
                  by_cases c3 : p = mid
                  · rw [c3, hq.pm]; exact hC.irr _ hpp
                  · exact hC.asy _ _ (hP5 p (by omega)) hpp (hq.lo p (by omega) (by omega))
                have lq : ¬ cv (nx e0 L6 q) (nx e0 L4 pv2) < 0 := by
                  by_cases c3 : q = mid
                  · rw [m6.out q (by omega), c3, hq.pm]; exact hC.irr _ hpp
                  · obtain ⟨j, j1, j2, j3⟩ := m6.cont q (by omega) (by omega)
                    rw [j3]
                    exact hq.hi j (by omega) j2
                exact hC.tr _ _ _ (hP6 p (by omega)) hpp (hP6 q (by omega)) lp lq
          rw [if_neg (by rw [decide_eq_true_eq]; omega), e8, Option.bind_some] at hpre
          obtain ⟨L', e9, q1, q2⟩ := ih a mid lim2 _ al L6 G (by omega) (by omega) ha d1 (by omega) (mm5.trans (m6.mono (by omega) hb)) hB7
          exact ⟨L', by rw [iter_more hpre]; exact e9, q1, q2⟩
theorem pdq_eq (hC : Cmp P cv F0) : ∀ (F : Nat), Sub P cv (F28_17 F) (F - (F0 + 40))
  | 0 => fun a b L lim _ _ _ h => by omega
  | F + 1 => fun a b L lim hR hP hlow h => by
    rw [F28_17]
    try dsimp only
    have hS : Sub P cv (F28_17 F) (b - a) := fun a' b' L' lim' r1 r2 r3 r4 => pdq_eq hC F a' b' L' lim' r1 r2 r3 (by omega)
    obtain ⟨L', e, q1, q2⟩ := pdq_loop hC (by omega : F0 ≤ F) hS hR hP hlow (by omega) (b - a) a b lim true true L F (Nat.le_refl _) (by omega) (Nat.le_refl _) hR.ab (Nat.le_refl _) (Mv.refl _ _ _) (fun p q p1 p2 p3 p4 => by omega)
    rw [e]
    exact ⟨L', rfl, q1, q2⟩
/-- THE SORT. -/
theorem sort_eq (hC : Cmp P cv F0) (hP : AP P L) (hl : L.length ≤ 8796093022208) (hF : F0 + L.length + 50 ≤ F) : ∃ L', F16_17 F L = some L' ∧ L'.Perm L ∧ Sd cv 0 L'.length L' := by
  unfold F16_17
  obtain ⟨k, e, _⟩ := len_eq F L.length hl
  rw [e, Option.bind_some]
  obtain ⟨L', e1, m1, s1⟩ := pdq_eq hC F 0 L.length L (k : Int) ⟨by omega, Nat.le_refl _, hl⟩ hP (fun h => by omega) (by omega)
  have e1' : F28_17 F L 0 (L.length : Int) (k : Int) = some L' := e1
  rw [e1', Option.bind_some]
  exact ⟨L', rfl, m1.perm, by rw [m1.len]; exact s1⟩
end
end Go.Proofs.Ytaphdnpjpmnaeaa.pdqR

/- Sorting by a comparison: the heap sort. -/
import Derived.Test.YtaphdnpjpmnaeaaPdrD
set_option linter.unusedVariables false
set_option linter.unusedSimpArgs false
namespace Go.Proofs.Ytaphdnpjpmnaeaa.pdqR
open Go.Am Go.Proofs.Ytaphdnpjpmnaeaa.pdqN

section
variable {P : E → Prop} {cv : E → E → Int} {F0 F : Nat} {L : List E} {a b : Nat}
def Kid (r c : Nat) : Prop := c = 2 * r + 1 ∨ c = 2 * r + 2
/-- No root from lo on is less than what hangs below it. -/
def Hp (cv : E → E → Int) (first lo hi : Nat) (L : List E) : Prop := ∀ r c, lo ≤ r → Kid r c → c < hi → ¬ cv (nx e0 L (first + r)) (nx e0 L (first + c)) < 0
structure SI (cv : E → E → Int) (first lo hi root : Nat) (L2 : List E) : Prop where
  lr : lo ≤ root
  hp : ∀ r c, lo ≤ r → r ≠ root → Kid r c → c < hi → ¬ cv (nx e0 L2 (first + r)) (nx e0 L2 (first + c)) < 0
  gp : ∀ g c, lo ≤ g → Kid g root → Kid root c → c < hi → ¬ cv (nx e0 L2 (first + g)) (nx e0 L2 (first + c)) < 0
theorem SI.done {first lo hi root : Nat} {L2 : List E} (h : SI cv first lo hi root L2) (hr : ∀ c, Kid root c → c < hi → ¬ cv (nx e0 L2 (first + root)) (nx e0 L2 (first + c)) < 0) : Hp cv first lo hi L2 := fun r c h1 h2 h3 => by
  by_cases q : r = root
  · subst q; exact hr c h2 h3
  · exact h.hp r c h1 q h2 h3
theorem SI.next (hC : Cmp P cv F0) {first lo hi root ch : Nat} {L2 : List E} (hP : AP P L2) (hl : first + hi ≤ L2.length) (h : SI cv first lo hi root L2) (hk : Kid root ch) (hh : ch < hi) (hlt : cv (nx e0 L2 (first + root)) (nx e0 L2 (first + ch)) < 0)
    (hbig : ∀ c, Kid root c → c < hi → c ≠ ch → ¬ cv (nx e0 L2 (first + ch)) (nx e0 L2 (first + c)) < 0) : SI cv first lo hi ch (swp L2 (first + root) (first + ch)) := by
  have hlr := h.lr
  have hrc : root < ch := by rcases hk with h | h <;> omega
  have hs := nx_swp (L := L2) (i := first + root) (j := first + ch) (by omega) (by omega)
  have g1 : ∀ k, k ≠ root → k ≠ ch → nx e0 (swp L2 (first + root) (first + ch)) (first + k) = nx e0 L2 (first + k) := fun k k1 k2 => by rw [hs, if_neg (by omega), if_neg (by omega)]
  have g2 : nx e0 (swp L2 (first + root) (first + ch)) (first + root) = nx e0 L2 (first + ch) := by rw [hs, if_neg (by omega), if_pos rfl]
  have g3 : nx e0 (swp L2 (first + root) (first + ch)) (first + ch) = nx e0 L2 (first + root) := by rw [hs, if_pos rfl]
  refine ⟨by omega, fun r c r1 r2 r3 r4 => ?_, fun g c q1 q2 q3 q4 => ?_⟩
  · have hrr : r < c := by rcases r3 with h | h <;> omega
    by_cases e1 : r = root
    · subst e1
      rw [g2]
      by_cases e2 : c = ch
      · subst e2
        rw [g3]
        exact hC.asy _ _ (hP _ (by omega)) (hP _ (by omega)) hlt
      · rw [g1 c (by omega) e2]
        exact hbig c r3 r4 e2
    · rw [g1 r e1 r2]
      by_cases e2 : c = root
      · subst e2
        rw [g2]
        exact h.gp r ch r1 r3 hk hh
      · have e3 : c ≠ ch := fun e => by
          subst e
          unfold Kid at hk r3
          omega
        rw [g1 c e2 e3]
        exact h.hp r c r1 e1 r3 r4
  · have eg : g = root := by unfold Kid at hk q2; omega
    subst eg
    have hcc : ch < c := by rcases q3 with h | h <;> omega
    rw [g2, g1 c (by omega) (by omega)]
    exact h.hp ch c (by omega) (by omega) q3 q4
theorem sift_eq (hC : Cmp P cv F0) (hF : F0 ≤ F) (first lo hi : Nat) (hl : first + hi ≤ L.length) (hsm : L.length ≤ 8796093022208) (hlo : lo ≤ hi) (hP : AP P L) (hG : hi + 5 ≤ F) (h : SI cv first lo hi lo L) :
    ∃ L', F51_17 F L (lo : Int) (hi : Int) (first : Int) = some L' ∧ Mv (first + lo) (first + hi) L L' ∧ Hp cv first lo hi L' := by
  unfold F51_17
  obtain ⟨x, e, hQ⟩ := iter_inv (step := F51_17_l0 F (hi : Int) (first : Int)) (I := fun s : Int × List E => ∃ root : Nat, s.1 = (root : Int) ∧ root ≤ hi ∧ Mv (first + lo) (first + hi) L s.2 ∧ SI cv first lo hi root s.2) (μ := fun s => hi + 1 - s.1.toNat) (Q := fun r : List E ⊕ List E => match r with | .inl L' => Mv (first + lo) (first + hi) L L' ∧ Hp cv first lo hi L' | .inr L' => Mv (first + lo) (first + hi) L L' ∧ Hp cv first lo hi L') (by
    rintro ⟨s, L2⟩ ⟨root, rfl, i1, i2, i3⟩
    simp only at i2 i3
    have hl2 := i2.len
    have hP2 := hP.mv (by omega) i2
    have hlr := i3.lr
    have w1 : wrapA .i64 (2 * (root : Int)) = ((2 * root : Nat) : Int) := by rw [show (2 : Int) * (root : Int) = ((2 * root : Nat) : Int) from by omega, wnat (by omega)]
    have w2 : wrapA .i64 (((2 * root : Nat) : Int) + 1) = ((2 * root + 1 : Nat) : Int) := wsuc (by omega)
    have w3 : wrapA .i64 (((2 * root + 1 : Nat) : Int) + 1) = ((2 * root + 2 : Nat) : Int) := wsuc (by omega)
    unfold F51_17_l0
    simp only
    rw [w1, w2, w3]
    by_cases hc : hi ≤ 2 * root + 1
    · right
      rw [if_pos (decide_eq_true (by omega))]
      exact ⟨_, rfl, i2, i3.done fun c k1 k2 => by unfold Kid at k1; omega⟩
    · rw [if_neg (by rw [decide_eq_true_eq]; omega), wadd (a := first) (b := 2 * root + 1) (by omega), wsuc (by omega), wadd (a := first) (b := root) (by omega)]
      -- the greater child
      have hsel : ∃ ch : Nat, Kid root ch ∧ ch < hi ∧ (∀ c, Kid root c → c < hi → c ≠ ch → ¬ cv (nx e0 L2 (first + ch)) (nx e0 L2 (first + c)) < 0) ∧
          ((if (decide (((2 * root + 2 : Nat) : Int) < (hi : Int))) = true then ((at? L2 ((first + (2 * root + 1) : Nat) : Int)).bind fun x9 => (at? L2 ((first + (2 * root + 1) + 1 : Nat) : Int)).bind fun x11 => (F17 F x9 x11).bind fun r13 => some (decide (r13 < 0))) else some false : Option Bool).bind fun y18 => (if y18 = true then some ((2 * root + 2 : Nat) : Int) else some ((2 * root + 1 : Nat) : Int) : Option Int)) = some (ch : Int) := by
        by_cases h2 : 2 * root + 2 < hi
        · rw [if_pos (decide_eq_true (by omega)), nx_get (d := e0) (by omega : first + (2 * root + 1) < L2.length), nx_get (d := e0) (by omega : first + (2 * root + 1) + 1 < L2.length)]
          simp only [Option.bind_some]
          rw [hC.ok F hF _ _ (hP2 _ (by omega)) (hP2 _ (by omega))]
          simp only [Option.bind_some]
          by_cases hlt : cv (nx e0 L2 (first + (2 * root + 1))) (nx e0 L2 (first + (2 * root + 1) + 1)) < 0
          · rw [if_pos (decide_eq_true hlt)]
            refine ⟨2 * root + 2, .inr rfl, h2, fun c k1 k2 k3 => ?_, rfl⟩
            have : c = 2 * root + 1 := by unfold Kid at k1; omega
            subst this
            exact hC.asy _ _ (hP2 _ (by omega)) (hP2 _ (by omega)) hlt
          · rw [if_neg (by rw [decide_eq_true_eq]; exact hlt)]
            refine ⟨2 * root + 1, .inl rfl, by omega, fun c k1 k2 k3 => ?_, rfl⟩
            have : c = 2 * root + 2 := by unfold Kid at k1; omega
            subst this
            exact hlt
        · rw [if_neg (by rw [decide_eq_true_eq]; omega)]
          simp only [Option.bind_some]
          rw [if_neg (by decide)]
          refine ⟨2 * root + 1, .inl rfl, by omega, fun c k1 k2 k3 => ?_, rfl⟩
          unfold Kid at k1; omega
      obtain ⟨ch, c1, c2, c3, c4⟩ := hsel
      have hrc : root < ch := by rcases c1 with h | h <;> omega
      rw [← Option.bind_assoc, c4, Option.bind_some, wadd (a := first) (b := ch) (by omega), nx_get (d := e0) (by omega : first + root < L2.length), nx_get (d := e0) (by omega : first + ch < L2.length)]
      simp only [Option.bind_some]
      rw [hC.ok F hF _ _ (hP2 _ (by omega)) (hP2 _ (by omega))]
      simp only [Option.bind_some]
      by_cases hlt : cv (nx e0 L2 (first + root)) (nx e0 L2 (first + ch)) < 0
      · left
        rw [if_neg (by simp [hlt]), ck_ok (by omega : first + root < L2.length), Option.bind_some]
        simp only [Int.toNat_natCast]
        rw [ck_ok (by simp; omega), Option.bind_some]
        exact ⟨_, rfl, ⟨ch, rfl, by omega, i2.trans (Mv.swap (i := first + root) (j := first + ch) (by omega) (by omega) (by omega)), i3.next hC hP2 (by omega) c1 c2 hlt c3⟩, by simp only [Int.toNat_natCast]; omega⟩
      · right
        rw [if_pos (by simp [hlt])]
        refine ⟨_, rfl, i2, i3.done fun c k1 k2 => ?_⟩
        by_cases q : c = ch
        · rw [q]; exact hlt
        · exact hC.tr _ _ _ (hP2 _ (by omega)) (hP2 _ (by omega)) (hP2 _ (by omega)) (c3 c k1 k2 q) hlt) F ((lo : Int), L) ⟨lo, rfl, hlo, Mv.refl _ _ _, h⟩ (by simp only [Int.toNat_natCast]; omega)
  rw [e, Option.bind_some]
  cases x with
  | inl L' => exact ⟨L', rfl, hQ.1, hQ.2⟩
  | inr L' => exact ⟨L', rfl, hQ.1, hQ.2⟩
theorem Hp.max (hC : Cmp P cv F0) {first hi : Nat} (hP : AP P L) (hl : first + hi ≤ L.length) (h : Hp cv first 0 hi L) : ∀ k, k < hi → ¬ cv (nx e0 L (first + 0)) (nx e0 L (first + k)) < 0 := by
  intro k
  induction k using Nat.strongRecOn with
  | _ k ih =>
    intro hk
    by_cases h0 : k = 0
    · subst h0; exact hC.irr _ (hP _ (by omega))
    · have h1 := ih ((k - 1) / 2) (by omega) (by omega)
      have h2 := h ((k - 1) / 2) k (by omega) (by unfold Kid; omega) hk
      exact hC.tr _ _ _ (hP _ (by omega)) (hP _ (by omega)) (hP _ (by omega)) h2 h1
theorem heap_eq (hC : Cmp P cv F0) (hF : F0 ≤ F) (hR : Rng L a b) (hP : AP P L) (hG : b - a + 10 ≤ F) (hab : a < b) : ∃ L', F38_17 F L (a : Int) (b : Int) = some L' ∧ Mv a b L L' ∧ Sd cv a b L' := by
  have h1 := hR.ab; have h2 := hR.bl; have h3 := hR.sm
  unfold F38_17
  rw [wsub h1 (by omega), wpred (by omega) (by omega), show (2 : Int) = ((2 : Nat) : Int) from rfl, tdiv_nat, wnat (by omega)]
  obtain ⟨L1, e1, m1, s1⟩ := iter_inv (step := F38_17_l0 F (a : Int) (b : Int)) (I := fun s : Int × List E => ∃ n : Nat, s.1 = (n : Int) - 1 ∧ n ≤ (b - a - 1) / 2 + 1 ∧ Mv a b L s.2 ∧ Hp cv a n (b - a) s.2) (μ := fun s => (s.1 + 1).toNat) (Q := fun L' => Mv a b L L' ∧ Hp cv a 0 (b - a) L') (by
    rintro ⟨s, L2⟩ ⟨n, rfl, i1, i2, i3⟩
    simp only at i2 i3
    have hl2 := i2.len
    have hP2 := hP.mv h2 i2
    unfold F38_17_l0
    simp only
    cases n with
    | zero =>
      right
      rw [if_neg (by rw [decide_eq_true_eq]; omega)]
      exact ⟨_, rfl, i2, i3⟩
    | succ n =>
      left
      obtain ⟨L3, e3, m3, s3⟩ := sift_eq hC hF a n (b - a) (by omega) (by omega) (by omega) hP2 (by omega) (L := L2) ⟨Nat.le_refl _, fun r c r1 r2 r3 r4 => i3 r c (by omega) r3 r4, fun g c q1 q2 q3 q4 => by unfold Kid at q2; omega⟩
      rw [show ((n + 1 : Nat) : Int) - 1 = (n : Int) from by omega, if_pos (decide_eq_true (by omega)), wsub h1 (by omega), e3, Option.bind_some, w64 (by omega) (by omega)]
      exact ⟨_, rfl, ⟨n, rfl, by omega, i2.trans (m3.mono (by omega) (by omega)), s3⟩, by simp only; omega⟩) F ((((b - a - 1) / 2 : Nat) : Int), L) ⟨(b - a - 1) / 2 + 1, by simp only; omega, Nat.le_refl _, Mv.refl _ _ _, fun r c r1 r2 r3 => by unfold Kid at r2; omega⟩ (by simp only; omega)
  rw [e1, Option.bind_some]
  obtain ⟨L', e, hQ1, hQ2⟩ := iter_inv (step := F38_17_l1 F (a : Int)) (I := fun s : Int × List E => ∃ n : Nat, s.1 = (n : Int) - 1 ∧ n ≤ b - a ∧ Mv a b L s.2 ∧ Hp cv a 0 n s.2 ∧ Sd cv (a + n) b s.2 ∧ ∀ p q, a ≤ p → p < a + n → a + n ≤ q → q < b → ¬ cv (nx e0 s.2 q) (nx e0 s.2 p) < 0) (μ := fun s => (s.1 + 1).toNat) (Q := fun L' => Mv a b L L' ∧ Sd cv a b L') (by
    rintro ⟨s, L2⟩ ⟨n, rfl, i1, i2, i3, i4, i5⟩
    simp only at i2 i3 i4 i5
    have hl2 := i2.len
    have hP2 := hP.mv h2 i2
    unfold F38_17_l1
    simp only
    cases n with
    | zero =>
      right
      rw [if_neg (by rw [decide_eq_true_eq]; omega)]
      exact ⟨_, rfl, i2, i4⟩
    | succ n =>
      left
      rw [show ((n + 1 : Nat) : Int) - 1 = (n : Int) from by omega, if_pos (decide_eq_true (by omega)), wadd (by omega), nx_get (d := e0) (by omega : a + n < L2.length), nx_get (d := e0) (by omega : a < L2.length)]
      simp only [Option.bind_some]
      rw [ck_ok (by omega : a < L2.length), Option.bind_some]
      simp only [Int.toNat_natCast]
      rw [ck_ok (by simp; omega), Option.bind_some]
      rw [show (L2.set a (nx e0 L2 (a + n))).set (a + n) (nx e0 L2 a) = swp L2 a (a + n) from rfl]
      have hmx := i3.max hC hP2 (by omega)
      have hm : Mv a (a + (n + 1)) L2 (swp L2 a (a + n)) := Mv.swap (by omega) (by omega) (by omega)
      have hs := nx_swp (L := L2) (i := a) (j := a + n) (by omega) (by omega)
      have hP3 := hP2.mv (by omega) hm
      have hl3 := hm.len
      obtain ⟨L3, e3, m3, s3⟩ := sift_eq hC hF a 0 n (by omega) (by omega) (by omega) hP3 (by omega) (L := swp L2 a (a + n)) ⟨Nat.le_refl _, fun r c r1 r2 r3 r4 => by
        have hrr : r < c := by rcases r3 with h | h <;> omega
        rw [hs, hs, if_neg (by omega), if_neg (by omega), if_neg (by omega), if_neg (by omega)]
        exact i3 r c (by omega) r3 (by omega), fun g c q1 q2 q3 q4 => by unfold Kid at q2; omega⟩
      have e3' : F51_17 F (swp L2 a (a + n)) 0 (n : Int) (a : Int) = some L3 := e3
      rw [e3', Option.bind_some, w64 (by omega) (by omega)]
      have hout : ∀ k, a + n ≤ k → nx e0 L3 k = nx e0 (swp L2 a (a + n)) k := fun k hk => m3.out k (by omega)
      refine ⟨_, rfl, ⟨n, rfl, by omega, (i2.trans (hm.mono (Nat.le_refl _) (by omega))).trans (m3.mono (by omega) (by omega)), s3, fun p q q1 q2 q3 => ?_, fun p q q1 q2 q3 q4 => ?_⟩, by simp only; omega⟩
      · simp only
        rw [hout p q1, hout q (by omega), hs p, hs q, if_neg (by omega : ¬ q = a + n), if_neg (by omega : ¬ q = a)]
        by_cases e : p = a + n
        · rw [if_pos e]; exact i5 a q (Nat.le_refl _) (by omega) (by omega) q3
        · rw [if_neg e, if_neg (by omega)]; exact i4 p q (by omega) q2 q3
      · simp only
        rw [hout q q3, hs q]
        -- what stands at p came of the heap
        obtain ⟨j, j1, j2, j3⟩ : ∃ j, a ≤ j ∧ j < a + (n + 1) ∧ nx e0 L3 p = nx e0 L2 j := by
          obtain ⟨j, j1, j2, j3⟩ := m3.cont p (by omega) q2
          obtain ⟨k, k1, k2, k3⟩ := hm.cont j (by omega) (by omega)
          exact ⟨k, k1, k2, j3.trans k3⟩
        rw [j3]
        by_cases e : q = a + n
        · rw [if_pos e]
          have := hmx (j - a) (by omega)
          rw [Nat.add_zero, show a + (j - a) = j from by omega] at this
          exact this
        · rw [if_neg e, if_neg (by omega)]
          exact i5 j q j1 (by omega) (by omega) q4) F (((b - a - 1 : Nat) : Int), L1) ⟨b - a, by simp only; omega, Nat.le_refl _, m1, s1, fun p q q1 q2 q3 => by omega, fun p q q1 q2 q3 q4 => by omega⟩ (by simp only; omega)
  rw [e, Option.bind_some]
  exact ⟨L', rfl, hQ1, hQ2⟩
end
end Go.Proofs.Ytaphdnpjpmnaeaa.pdqR

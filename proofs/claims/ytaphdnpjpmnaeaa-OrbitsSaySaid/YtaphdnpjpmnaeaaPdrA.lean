/- Sorting by a comparison: moves within a part of a list; the insertion sort, and the helpers that only move. -/
import Derived.Test.YtaphdnpjpmnaeaaDef
import Derived.Test.YtaphdnpjpmnaeaaPureC
import Derived.Test.YtaphdnpjpmnaeaaPdqN
set_option linter.unusedVariables false
set_option linter.unusedSimpArgs false
namespace Go.Proofs.Ytaphdnpjpmnaeaa.pdqR
open Go.Am Go.Proofs.Ytaphdnpjpmnaeaa.pdqN

abbrev E := List Int
abbrev e0 : E := []
abbrev at' (L : List E) (k : Nat) : E := nx e0 L k

/-! ### Moves -/
theorem nx_set {L : List E} {i j : Nat} {x : E} (hi : i < L.length) : nx e0 (L.set i x) j = if j = i then x else nx e0 L j := by
  unfold nx
  rw [List.getElem?_set]
  by_cases e : i = j
  · subst e; rw [if_pos rfl, if_pos hi, if_pos rfl]; rfl
  · rw [if_neg e, if_neg (fun h => e h.symm)]
theorem set_perm {L : List E} {i : Nat} {x : E} (hi : i < L.length) : (nx e0 L i :: L.set i x).Perm (x :: L) := by
  have h1 : L = L.take i ++ nx e0 L i :: L.drop (i + 1) := by rw [nx_eq hi, List.getElem_cons_drop, List.take_append_drop]
  have h2 : L.set i x = L.take i ++ x :: L.drop (i + 1) := by rw [List.set_eq_take_append_cons_drop, if_pos hi]
  have e : x :: L = x :: (L.take i ++ nx e0 L i :: L.drop (i + 1)) := by rw [← h1]
  rw [e, h2]
  refine (List.Perm.cons _ List.perm_middle).trans ?_
  refine (List.Perm.swap _ _ _).trans ?_
  exact List.Perm.cons _ List.perm_middle.symm
def swp (L : List E) (i j : Nat) : List E := (L.set i (nx e0 L j)).set j (nx e0 L i)
theorem swp_len (L : List E) (i j : Nat) : (swp L i j).length = L.length := by unfold swp; simp
theorem nx_swp {L : List E} {i j : Nat} (hi : i < L.length) (hj : j < L.length) (k : Nat) : nx e0 (swp L i j) k = if k = j then nx e0 L i else if k = i then nx e0 L j else nx e0 L k := by
  unfold swp
  rw [nx_set (by simpa using hj), nx_set hi]
theorem swp_perm {L : List E} {i j : Nat} (hi : i < L.length) (hj : j < L.length) : (swp L i j).Perm L := by
  by_cases e : i = j
  · subst e
    unfold swp
    rw [List.set_set, nx_eq hi, List.set_getElem_self]
  · have h1 := set_perm (L := L.set i (nx e0 L j)) (i := j) (x := nx e0 L i) (by simpa using hj)
    rw [nx_set hi, if_neg (fun h => e h.symm)] at h1
    have h2 := set_perm (L := L) (i := i) (x := nx e0 L j) hi
    exact (h1.trans h2).cons_inv
structure Mv (a b : Nat) (L L' : List E) : Prop where
  len : L'.length = L.length
  out : ∀ k, k < a ∨ b ≤ k → nx e0 L' k = nx e0 L k
  perm : L'.Perm L
  cont : ∀ k, a ≤ k → k < b → ∃ j, a ≤ j ∧ j < b ∧ nx e0 L' k = nx e0 L j
theorem Mv.refl (a b : Nat) (L : List E) : Mv a b L L := ⟨rfl, fun _ _ => rfl, List.Perm.refl _, fun k h1 h2 => ⟨k, h1, h2, rfl⟩⟩
theorem Mv.trans {a b : Nat} {L L' L2 : List E} (h : Mv a b L L') (k : Mv a b L' L2) : Mv a b L L2 :=
  ⟨k.len.trans h.len, fun q hq => (k.out q hq).trans (h.out q hq), k.perm.trans h.perm, fun q h1 h2 => by
    obtain ⟨j, j1, j2, j3⟩ := k.cont q h1 h2
    obtain ⟨i, i1, i2, i3⟩ := h.cont j j1 j2
    exact ⟨i, i1, i2, j3.trans i3⟩⟩
theorem Mv.mono {a b a' b' : Nat} {L L' : List E} (h : Mv a b L L') (h1 : a' ≤ a) (h2 : b ≤ b') : Mv a' b' L L' :=
  ⟨h.len, fun k hk => h.out k (by omega), h.perm, fun k k1 k2 => by
    by_cases q : a ≤ k ∧ k < b
    · obtain ⟨j, j1, j2, j3⟩ := h.cont k q.1 q.2
      exact ⟨j, by omega, by omega, j3⟩
    · exact ⟨k, k1, k2, h.out k (by omega)⟩⟩
theorem Mv.swap {a b i j : Nat} {L : List E} (hb : b ≤ L.length) (hi : a ≤ i ∧ i < b) (hj : a ≤ j ∧ j < b) : Mv a b L (swp L i j) :=
  ⟨swp_len _ _ _, fun k hk => by rw [nx_swp (by omega) (by omega), if_neg (by omega), if_neg (by omega)], swp_perm (by omega) (by omega), fun k k1 k2 => by
    rw [nx_swp (by omega) (by omega)]
    by_cases e : k = j
    · rw [if_pos e]; exact ⟨i, hi.1, hi.2, rfl⟩
    · rw [if_neg e]
      by_cases e2 : k = i
      · rw [if_pos e2]; exact ⟨j, hj.1, hj.2, rfl⟩
      · rw [if_neg e2]; exact ⟨k, k1, k2, rfl⟩⟩

/-! ### The comparison -/
structure Cmp (P : E → Prop) (cv : E → E → Int) (F0 : Nat) : Prop where
  ok : ∀ F, F0 ≤ F → ∀ x y, P x → P y → F17 F x y = some (cv x y)
  irr : ∀ x, P x → ¬ cv x x < 0
  tr : ∀ x y z, P x → P y → P z → ¬ cv y x < 0 → ¬ cv z y < 0 → ¬ cv z x < 0
  asy : ∀ x y, P x → P y → cv x y < 0 → ¬ cv y x < 0
def AP (P : E → Prop) (L : List E) : Prop := ∀ k, k < L.length → P (nx e0 L k)
theorem AP.mv {P : E → Prop} {L L' : List E} {a b : Nat} (h : AP P L) (hb : b ≤ L.length) (m : Mv a b L L') : AP P L' := fun k hk => by
  rw [m.len] at hk
  by_cases q : a ≤ k ∧ k < b
  · obtain ⟨j, j1, j2, j3⟩ := m.cont k q.1 q.2
    rw [j3]; exact h j (by omega)
  · rw [m.out k (by omega)]; exact h k hk
/-- Sorted between a and b. -/
def Sd (cv : E → E → Int) (a b : Nat) (L : List E) : Prop := ∀ i j, a ≤ i → i < j → j < b → ¬ cv (nx e0 L j) (nx e0 L i) < 0

/-- What is asked of the numbers. -/
structure Rng (L : List E) (a b : Nat) : Prop where
  ab : a ≤ b
  bl : b ≤ L.length
  sm : L.length ≤ 8796093022208

section
variable {P : E → Prop} {cv : E → E → Int} {F0 F : Nat} {L : List E} {a b : Nat}
theorem Rng.mv {L' : List E} {a' b' : Nat} (h : Rng L a b) (m : Mv a' b' L L') : Rng L' a b := ⟨h.ab, by rw [m.len]; exact h.bl, by rw [m.len]; exact h.sm⟩

/-! ### The insertion sort -/
theorem ins_inner (hC : Cmp P cv F0) (hF : F0 ≤ F) (a : Nat) (hsm : L.length ≤ 8796093022208) : ∀ (j : Nat) (L2 : List E) (G i : Nat), j - a < G → a ≤ j → j ≤ i → i < L.length → L2.length = L.length → AP P L2 →
    (∀ p q, a ≤ p → p < q → q ≤ i → q ≠ j → ¬ cv (nx e0 L2 q) (nx e0 L2 p) < 0) →
    ∃ L', iter (F37_17_l0 F (a : Int)) G ((j : Int), L2) = some L' ∧ Mv a (i + 1) L2 L' ∧ Sd cv a (i + 1) L' := by
  intro j
  induction j with
  | zero =>
    intro L2 G i hG ha hji hi hl hp hs
    obtain ⟨G, rfl⟩ : ∃ q, G = q + 1 := ⟨G - 1, by omega⟩
    refine ⟨L2, iter_stop ?_, Mv.refl _ _ _, fun p q h1 h2 h3 => hs p q h1 h2 (by omega) (by omega)⟩
    unfold F37_17_l0
    simp only
    rw [if_neg (by rw [decide_eq_true_eq]; omega)]
    rfl
  | succ j ih =>
    intro L2 G i hG ha hji hi hl hp hs
    obtain ⟨G, rfl⟩ : ∃ q, G = q + 1 := ⟨G - 1, by omega⟩
    by_cases hja : a < j + 1
    · have p1 := hp (j + 1) (by omega)
      have p2 := hp j (by omega)
      by_cases hc : cv (nx e0 L2 (j + 1)) (nx e0 L2 j) < 0
      · have hs1 : F37_17_l0 F (a : Int) (((j + 1 : Nat) : Int), L2) = some (.more ((j : Int), swp L2 (j + 1) j)) := by
          unfold F37_17_l0
          simp only
          rw [if_pos (decide_eq_true (by omega)), wpred (by omega) (by omega), Nat.add_sub_cancel, nx_get (d := e0) (by omega : j + 1 < L2.length), nx_get (d := e0) (by omega : j < L2.length)]
          simp only [Option.bind_some]
          rw [hC.ok F hF _ _ p1 p2]
          simp only [Option.bind_some]
          rw [if_pos (decide_eq_true hc), ck_ok (by omega : j + 1 < L2.length)]
          simp only [Option.bind_some, Int.toNat_natCast]
          rw [ck_ok (by simp; omega)]
          rfl
        have hm : Mv a (i + 1) L2 (swp L2 (j + 1) j) := Mv.swap (by omega) (by omega) (by omega)
        have hn := nx_swp (L := L2) (i := j + 1) (j := j) (by omega) (by omega)
        obtain ⟨L', e1, e2, e3⟩ := ih (swp L2 (j + 1) j) G i (by omega) (by omega) (by omega) hi (by rw [swp_len, hl]) (hp.mv (by omega) hm) (fun p q h1 h2 h3 h4 => by
          rw [hn q, hn p]
          by_cases q1 : q = j + 1
          · rw [if_neg (by omega), if_pos q1]
            by_cases q2 : p = j
            · rw [if_pos q2]
              exact hC.asy _ _ p1 p2 hc
            · rw [if_neg q2, if_neg (by omega)]
              exact hs p j h1 (by omega) (by omega) (by omega)
          · rw [if_neg h4, if_neg q1]
            by_cases q2 : p = j
            · rw [if_pos q2]
              exact hs (j + 1) q (by omega) (by omega) h3 q1
            · rw [if_neg q2]
              by_cases q3 : p = j + 1
              · rw [if_pos q3]
                exact hs j q (by omega) (by omega) h3 q1
              · rw [if_neg q3]
                exact hs p q h1 h2 h3 q1)
        exact ⟨L', by rw [iter_more hs1]; exact e1, hm.trans e2, e3⟩
      · refine ⟨L2, iter_stop ?_, Mv.refl _ _ _, fun p q h1 h2 h3 => ?_⟩
        · unfold F37_17_l0
          simp only
          rw [if_pos (decide_eq_true (by omega)), wpred (by omega) (by omega), Nat.add_sub_cancel, nx_get (d := e0) (by omega : j + 1 < L2.length), nx_get (d := e0) (by omega : j < L2.length)]
          simp only [Option.bind_some]
          rw [hC.ok F hF _ _ p1 p2]
          simp only [Option.bind_some]
          rw [if_neg (by rw [decide_eq_true_eq]; exact hc)]
        · by_cases q1 : q = j + 1
          · subst q1
            by_cases q2 : p = j
            · subst q2; exact hc
            · exact hC.tr _ _ _ (hp p (by omega)) p2 p1 (hs p j h1 (by omega) (by omega) (by omega)) hc
          · exact hs p q h1 h2 (by omega) q1
    · refine ⟨L2, iter_stop ?_, Mv.refl _ _ _, fun p q h1 h2 h3 => ?_⟩
      · unfold F37_17_l0
        simp only
        rw [if_neg (by rw [decide_eq_true_eq]; omega)]
        rfl
      · exact hs p q h1 h2 (by omega) (by omega)
theorem ins_eq (hC : Cmp P cv F0) (hF : F0 ≤ F) (hR : Rng L a b) (hP : AP P L) (hG : b - a + 2 ≤ F) : ∃ L', F37_17 F L (a : Int) (b : Int) = some L' ∧ Mv a b L L' ∧ Sd cv a b L' := by
  have h1 := hR.ab; have h2 := hR.bl; have h3 := hR.sm
  unfold F37_17
  rw [wsuc (by omega)]
  obtain ⟨L', e, hQ⟩ := iter_inv (step := F37_17_l1 F (a : Int) (b : Int)) (I := fun s : Int × List E => ∃ i : Nat, s.1 = (i : Int) ∧ a + 1 ≤ i ∧ i ≤ max b (a + 1) ∧ Mv a b L s.2 ∧ Sd cv a i s.2) (μ := fun s => b - s.1.toNat) (Q := fun L' => Mv a b L L' ∧ Sd cv a b L') (by
    rintro ⟨s, L2⟩ ⟨i, rfl, i1, i2, i3, i4⟩
    simp only at i3 i4
    have hl := i3.len
    unfold F37_17_l1
    simp only
    by_cases hib : i < b
    · left
      obtain ⟨L3, e1, e2, e3⟩ := ins_inner (L := L2) hC hF a (by omega) i L2 F i (by omega) (by omega) (Nat.le_refl _) (by omega) rfl (hP.mv h2 i3) (fun p q q1 q2 q3 q4 => i4 p q q1 q2 (by omega))
      rw [if_pos (decide_eq_true (by omega)), e1, Option.bind_some, wsuc (by omega)]
      exact ⟨_, rfl, ⟨i + 1, rfl, by omega, by omega, i3.trans (e2.mono (Nat.le_refl _) (by omega)), e3⟩, by simp only [Int.toNat_natCast]; omega⟩
    · right
      rw [if_neg (by rw [decide_eq_true_eq]; omega)]
      exact ⟨_, rfl, i3, fun p q q1 q2 q3 => i4 p q q1 q2 (by omega)⟩) F (((a + 1 : Nat) : Int), L) ⟨a + 1, rfl, Nat.le_refl _, by omega, Mv.refl _ _ _, fun p q q1 q2 q3 => by omega⟩ (by simp only [Int.toNat_natCast]; omega)
  rw [e, Option.bind_some]
  exact ⟨L', rfl, hQ.1, hQ.2⟩

/-! ### What only moves -/
theorem rev_eq (hR : Rng L a b) (hG : b - a + 2 ≤ F) (hab : a < b) : ∃ L', F41_17 F L (a : Int) (b : Int) = some L' ∧ Mv a b L L' := by
  have h1 := hR.ab; have h2 := hR.bl; have h3 := hR.sm
  unfold F41_17
  rw [wpred (by omega) (by omega)]
  obtain ⟨L', e, hQ⟩ := iter_inv (step := F41_17_l0 F) (I := fun s : Int × Int × List E => ∃ i j : Nat, s.1 = (i : Int) ∧ s.2.1 = (j : Int) - 1 ∧ a ≤ i ∧ j ≤ b ∧ i ≤ b ∧ Mv a b L s.2.2) (μ := fun s => s.2.1.toNat + 1 - s.1.toNat) (Q := fun L' => Mv a b L L') (by
    rintro ⟨s, t, L2⟩ ⟨i, j, rfl, rfl, i1, i2, i5, i3⟩
    simp only at i3
    have hl := i3.len
    unfold F41_17_l0
    simp only
    by_cases hib : i + 1 < j
    · left
      have e2 : ((j : Int) - 1) = ((j - 1 : Nat) : Int) := by omega
      have hs : F41_17_l0 F ((i : Int), (j : Int) - 1, L2) = some (.more (((i + 1 : Nat) : Int), ((j - 1 : Nat) : Int) - 1, swp L2 i (j - 1))) := by
        rw [e2]
        unfold F41_17_l0
        simp only
        rw [if_pos (decide_eq_true (by omega)), nx_get (d := e0) (by omega : j - 1 < L2.length), nx_get (d := e0) (by omega : i < L2.length)]
        simp only [Option.bind_some]
        rw [ck_ok (by omega : i < L2.length), Option.bind_some]
        simp only [Int.toNat_natCast]
        rw [ck_ok (by simp; omega), Option.bind_some, wsuc (by omega), w64 (by omega) (by omega)]
        rfl
      unfold F41_17_l0 at hs
      simp only at hs
      rw [hs]
      exact ⟨_, rfl, ⟨i + 1, j - 1, rfl, rfl, by omega, by omega, by omega, i3.trans (Mv.swap (by omega) (by omega) (by omega))⟩, by simp only; omega⟩
    · right
      rw [if_neg (by rw [decide_eq_true_eq]; omega)]
      exact ⟨_, rfl, i3⟩) F ((a : Int), ((b - 1 : Nat) : Int), L) ⟨a, b, rfl, by simp only; omega, Nat.le_refl _, Nat.le_refl _, h1, Mv.refl _ _ _⟩ (by simp only; omega)
  rw [e, Option.bind_some]
  exact ⟨L', rfl, hQ⟩

/-! ### The swaps that break patterns -/
theorem xs_eq (F : Nat) (x : Int) : ∃ r q : Int, F53 F x = some (r, q) := by
  unfold F53 shl? shr?
  rw [if_neg (by decide), Option.bind_some, if_neg (by decide), Option.bind_some, if_neg (by decide), Option.bind_some]
  exact ⟨_, _, rfl⟩
theorem tdiv4 (n : Nat) (h : n ≤ 8796093022208) : wrapA .i64 (Int.tdiv ((n : Nat) : Int) 4) = ((n / 4 : Nat) : Int) := by
  rw [show (4 : Int) = ((4 : Nat) : Int) from rfl, tdiv_nat, wnat (by omega)]
theorem break_eq (hR : Rng L a b) (hG : 10 ≤ F) : ∃ L', F39_17 F L (a : Int) (b : Int) = some L' ∧ Mv a b L L' := by
  have h1 := hR.ab; have h2 := hR.bl; have h3 := hR.sm
  unfold F39_17
  rw [wsub h1 (by omega)]
  by_cases h8 : 8 ≤ b - a
  · obtain ⟨M, eM, m1, m2⟩ := npt_eq F (b - a) (by omega) (by omega)
    rw [if_pos (decide_eq_true (by omega)), eM, Option.bind_some, tdiv4 _ (by omega)]
    rw [show (((b - a) / 4 : Nat) : Int) * 2 = (((b - a) / 4 * 2 : Nat) : Int) from by omega, wnat (by omega), wadd (by omega), wpred (by omega) (by omega)]
    obtain ⟨L', e, hQ⟩ := iter_inv (step := F39_17_l0 F (a : Int) (b : Int) (M : Int)) (I := fun s : Int × List E × Int => ∃ i : Nat, s.1 = (i : Int) ∧ a + (b - a) / 4 * 2 - 1 ≤ i ∧ i ≤ a + (b - a) / 4 * 2 + 2 ∧ Mv a b L s.2.1) (μ := fun s => a + (b - a) / 4 * 2 + 2 - s.1.toNat) (Q := fun L' => Mv a b L L') (by
      rintro ⟨s, L2, x⟩ ⟨i, rfl, i1, i2, i3⟩
      simp only at i3
      have hl := i3.len
      unfold F39_17_l0
      simp only
      rw [wsub h1 (by omega), tdiv4 _ (by omega), show (((b - a) / 4 : Nat) : Int) * 2 = (((b - a) / 4 * 2 : Nat) : Int) from by omega, wnat (by omega), wadd (by omega), wsuc (by omega)]
      by_cases hi : i ≤ a + (b - a) / 4 * 2 + 1
      · left
        obtain ⟨r, q, er⟩ := xs_eq F x
        rw [if_pos (decide_eq_true (by omega)), er]
        simp only [Option.bind_some]
        rw [show (M : Int) - 1 = ((M - 1 : Nat) : Int) from by omega, wu64 (a := ((M - 1 : Nat) : Int)) (by omega) (by omega)]
        obtain ⟨z, ez, hz⟩ := and_le r (M - 1) (by omega)
        rw [ez, wnat (by omega)]
        have hsel : ∃ w : Nat, w < b - a ∧ (if (decide ((z : Int) ≥ ((b - a : Nat) : Int))) = true then (some ((wrapA .i64 ((z : Int) - ((b - a : Nat) : Int))))) else some (z : Int) : Option Int) = some (w : Int) := by
          by_cases hzz : b - a ≤ z
          · exact ⟨z - (b - a), by omega, by rw [if_pos (decide_eq_true (by omega)), wsub hzz (by omega)]⟩
          · exact ⟨z, by omega, by rw [if_neg (by rw [decide_eq_true_eq]; omega)]⟩
        obtain ⟨w, hw, ew⟩ := hsel
        rw [ew]
        simp only [Option.bind_some]
        rw [wadd (by omega), nx_get (d := e0) (by omega : a + w < L2.length), nx_get (d := e0) (by omega : i < L2.length)]
        simp only [Option.bind_some]
        rw [ck_ok (by omega : i < L2.length), Option.bind_some]
        simp only [Int.toNat_natCast]
        rw [ck_ok (by simp; omega), Option.bind_some, wsuc (by omega)]
        exact ⟨_, rfl, ⟨i + 1, rfl, by omega, by omega, i3.trans (Mv.swap (i := i) (j := a + w) (by omega) (by omega) (by omega))⟩, by simp only [Int.toNat_natCast]; omega⟩
      · right
        rw [if_neg (by rw [decide_eq_true_eq]; omega)]
        exact ⟨_, rfl, i3⟩) F (((a + (b - a) / 4 * 2 - 1 : Nat) : Int), L, wrapA .u64 ((b - a : Nat) : Int)) ⟨_, rfl, Nat.le_refl _, by omega, Mv.refl _ _ _⟩ (by simp only [Int.toNat_natCast]; omega)
    rw [e, Option.bind_some]
    exact ⟨L', rfl, hQ⟩
  · rw [if_neg (by rw [decide_eq_true_eq]; omega)]
    exact ⟨L, rfl, Mv.refl _ _ _⟩

/-! ### The choice of a pivot -/
theorem ord_eq (hC : Cmp P cv F0) (hF : F0 ≤ F) (hP : AP P L) (i j : Nat) (s : Int) (hi : i < L.length) (hj : j < L.length) : ∃ (p q : Nat) (z : Int), F73_17 F L (i : Int) (j : Int) s = some ((p : Int), (q : Int), z) ∧ (p = i ∧ q = j ∨ p = j ∧ q = i) := by
  unfold F73_17
  rw [nx_get (d := e0) hj, nx_get (d := e0) hi]
  simp only [Option.bind_some]
  rw [hC.ok F hF _ _ (hP j hj) (hP i hi), Option.bind_some]
  by_cases h : cv (nx e0 L j) (nx e0 L i) < 0
  · rw [if_pos (decide_eq_true h)]; exact ⟨j, i, _, rfl, .inr ⟨rfl, rfl⟩⟩
  · rw [if_neg (by rw [decide_eq_true_eq]; exact h)]; exact ⟨i, j, _, rfl, .inl ⟨rfl, rfl⟩⟩
theorem med_eq (hC : Cmp P cv F0) (hF : F0 ≤ F) (hP : AP P L) (i j k : Nat) (s : Int) (hi : i < L.length) (hj : j < L.length) (hk : k < L.length) : ∃ (p : Nat) (z : Int), F55_17 F L (i : Int) (j : Int) (k : Int) s = some ((p : Int), z) ∧ (p = i ∨ p = j ∨ p = k) := by
  unfold F55_17
  obtain ⟨p1, q1, z1, e1, h1⟩ := ord_eq hC hF hP i j s hi hj
  rw [e1, Option.bind_some]
  obtain ⟨p2, q2, z2, e2, h2⟩ := ord_eq hC hF hP q1 k z1 (by omega) hk
  simp only
  rw [e2, Option.bind_some]
  obtain ⟨p3, q3, z3, e3, h3⟩ := ord_eq hC hF hP p1 p2 z2 (by omega) (by omega)
  simp only
  rw [e3, Option.bind_some]
  exact ⟨q3, z3, rfl, by omega⟩
theorem adj_eq (hC : Cmp P cv F0) (hF : F0 ≤ F) (hP : AP P L) (i : Nat) (s : Int) (h0 : 0 < i) (hi : i + 1 < L.length) (hs : L.length ≤ 8796093022208) : ∃ (p : Nat) (z : Int), F54_17 F L (i : Int) s = some ((p : Int), z) ∧ i - 1 ≤ p ∧ p ≤ i + 1 := by
  unfold F54_17
  rw [wpred h0 (by omega), wsuc (by omega)]
  obtain ⟨p, z, e, h⟩ := med_eq hC hF hP (i - 1) i (i + 1) s (by omega) (by omega) hi
  rw [e, Option.bind_some]
  exact ⟨p, z, rfl, by omega, by omega⟩
theorem choose_eq (hC : Cmp P cv F0) (hF : F0 ≤ F) (hR : Rng L a b) (hP : AP P L) (hab : a < b) : ∃ (p : Nat) (h : Int), F40_17 F L (a : Int) (b : Int) = some ((p : Int), h) ∧ a ≤ p ∧ p < b := by
  have h1 := hR.ab; have h2 := hR.bl; have h3 := hR.sm
  have fin : ∀ (p : Nat) (z : Int), a ≤ p → p < b → ∃ (p' : Nat) (h : Int), (if (z == 0) = true then (some (((p : Int), (1 : Int)))) else if (z == 12) = true then (some (((p : Int), (2 : Int)))) else some ((p : Int), (0 : Int)) : Option (Int × Int)) = some ((p' : Int), h) ∧ a ≤ p' ∧ p' < b := by
    intro p z hp1 hp2
    by_cases z0 : (z == 0) = true
    · rw [if_pos z0]; exact ⟨p, 1, rfl, hp1, hp2⟩
    · rw [if_neg z0]
      by_cases z1 : (z == 12) = true
      · rw [if_pos z1]; exact ⟨p, 2, rfl, hp1, hp2⟩
      · rw [if_neg z1]; exact ⟨p, 0, rfl, hp1, hp2⟩
  unfold F40_17
  rw [wsub h1 (by omega), tdiv4 _ (by omega)]
  rw [show (((b - a) / 4 : Nat) : Int) * 1 = (((b - a) / 4 : Nat) : Int) from by omega, show (((b - a) / 4 : Nat) : Int) * 2 = (((b - a) / 4 * 2 : Nat) : Int) from by omega, show (((b - a) / 4 : Nat) : Int) * 3 = (((b - a) / 4 * 3 : Nat) : Int) from by omega]
  rw [wnat (a := (b - a) / 4) (by omega), wnat (a := (b - a) / 4 * 2) (by omega), wnat (a := (b - a) / 4 * 3) (by omega), wadd (b := (b - a) / 4) (by omega), wadd (b := (b - a) / 4 * 2) (by omega), wadd (b := (b - a) / 4 * 3) (by omega)]
  by_cases h8 : 8 ≤ b - a
  · rw [if_pos (decide_eq_true (by omega))]
    by_cases h50 : 50 ≤ b - a
    · rw [if_pos (decide_eq_true (by omega))]
      obtain ⟨p1, z1, e1, a1, b1⟩ := adj_eq hC hF hP (a + (b - a) / 4) 0 (by omega) (by omega) h3
      rw [e1, Option.bind_some]
      simp only
      obtain ⟨p2, z2, e2, a2, b2⟩ := adj_eq hC hF hP (a + (b - a) / 4 * 2) z1 (by omega) (by omega) h3
      rw [e2, Option.bind_some]
      simp only
      obtain ⟨p3, z3, e3, a3, b3⟩ := adj_eq hC hF hP (a + (b - a) / 4 * 3) z2 (by omega) (by omega) h3
      rw [e3, Option.bind_some]
      simp only
      obtain ⟨p, z, e, h⟩ := med_eq hC hF hP p1 p2 p3 z3 (by omega) (by omega) (by omega)
      rw [e]
      simp only [Option.bind_some]
      exact fin p z (by omega) (by omega)
    · rw [if_neg (by rw [decide_eq_true_eq]; omega)]
      obtain ⟨p, z, e, h⟩ := med_eq hC hF hP (a + (b - a) / 4) (a + (b - a) / 4 * 2) (a + (b - a) / 4 * 3) 0 (by omega) (by omega) (by omega)
      rw [e]
      simp only [Option.bind_some]
      exact fin p z (by omega) (by omega)
  · rw [if_neg (by rw [decide_eq_true_eq]; omega)]
    simp only [Option.bind_some]
    exact fin (a + (b - a) / 4 * 2) 0 (by omega) (by omega)
end
end Go.Proofs.Ytaphdnpjpmnaeaa.pdqR

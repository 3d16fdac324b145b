/- Sums of odd numbers: the answer; what Compact leaves. -/
import Derived.Test.YtihmliblbhjlaaaPartsC
set_option linter.unusedVariables false
set_option linter.unusedSimpArgs false
namespace Go.Proofs.Ytihmliblbhjlaaa
open Go.Am

/-- Two neighbours are the same. -/
def Adj (L : List Int) : Prop := ∃ j, j + 1 < L.length ∧ nx 0 L j = nx 0 L (j + 1)
theorem Adj.cons {p x : Int} {r : List Int} : Adj (p :: x :: r) ↔ p = x ∨ Adj (x :: r) := by
  constructor
  · rintro ⟨j, h1, h2⟩
    cases j with
    | zero => exact .inl h2
    | succ j => exact .inr ⟨j, by simpa using h1, h2⟩
  · rintro (h | ⟨j, h1, h2⟩)
    · exact ⟨0, by simp, h⟩
    · exact ⟨j + 1, by simpa using h1, h2⟩
theorem ddF_adj : ∀ (p : Int) (r : List Int), ∃ M, ddF (fun x p => some (x == p)) p r = some M ∧ M.length ≤ r.length ∧ (M.length < r.length ↔ Adj (p :: r))
  | p, [] => ⟨[], rfl, Nat.le_refl _, by simp [Adj]⟩
  | p, x :: r => by
    obtain ⟨M, h1, h2, h3⟩ := ddF_adj x r
    simp only [ddF, Option.bind_some, h1]
    rw [Adj.cons, ← h3]
    by_cases e : x = p
    · subst e
      simp only [beq_self_eq_true, if_true]
      exact ⟨M, rfl, by simp; omega, by simp; omega⟩
    · rw [if_neg (by simpa using e)]
      refine ⟨x :: M, rfl, by simpa using h2, ?_⟩
      simp only [List.length_cons, Nat.add_lt_add_iff_right]
      constructor
      · exact .inr
      · rintro (h | h)
        · exact (e h.symm).elim
        · exact h
theorem compact_eq (F : Nat) (l : List Int) (hl : l.length ≤ 1000) : ∃ M, F44 F l = some M ∧ (M.length < l.length ↔ Adj l) := by
  unfold F44
  rw [if_pos (by omega)]
  cases l with
  | nil => exact ⟨[], rfl, by simp [Adj]⟩
  | cons a r =>
    obtain ⟨M, h1, h2, h3⟩ := ddF_adj a r
    refine ⟨a :: M, ?_, by simpa using h3⟩
    show (if (a :: r).length ≤ 1152921504606846976 then _ else _) = some (a :: M)
    rw [if_pos (by omega), h1]; rfl

theorem Hal.one {x : Int} (h1 : 1 ≤ x) (h2 : x ≤ 40) : Hal [x] (List.replicate (od 6 x.toNat).2 ((od 6 x.toNat).1 : Int)) := by
  obtain ⟨⟨a1, a2, a3, a4, _⟩, _⟩ := od_ok (x := x.toNat) (by omega) (by omega)
  have hp : (od 6 x.toNat).2 ≤ x.toNat := by
    have := Nat.mul_le_mul_right (od 6 x.toNat).2 a3
    omega
  have ho : (od 6 x.toNat).1 ≤ x.toNat := by
    have := Nat.mul_le_mul_left (od 6 x.toNat).1 a4
    omega
  refine ⟨fun d => ?_, by simp only [List.length_replicate, tot]; omega, fun y hy => ?_⟩
  · rw [List.count_replicate]
    simp only [S, w, beq_iff_eq, Nat.add_zero]
  · have := (List.mem_replicate.1 hy).2
    omega
theorem odd_eq (F : Nat) (l : List Int) (hP : Part l) (hc : F42 F l = some 0) (hF : 300 ≤ F) : (Adj l ∧ F38 F l = some ([], 3)) ∨ (¬ Adj l ∧ ∃ r, F38 F l = some (r, 0) ∧ (r.Pairwise fun a b => b ≤ a) ∧ Hal l r) := by
  have hlen := hP.len
  obtain ⟨hpos, htot⟩ := hP.list
  unfold F38
  rw [hc, Option.bind_some, if_neg (by decide)]
  obtain ⟨b, hb, hQ⟩ := iter_inv (step := F38_l2 F l) (I := fun s => ∃ i : Nat, s.2 = (i : Int) ∧ i ≤ l.length ∧ Hal (l.take i) s.1 ∧ ∀ j, j + 1 < i → nx 0 l j ≠ nx 0 l (j + 1)) (μ := fun s => l.length - s.2.toNat)
    (Q := fun b => (b = .inr ([], 3) ∧ Adj l) ∨ ∃ o, b = .inl o ∧ Hal l o ∧ ¬ Adj l) (by
      rintro ⟨o, s⟩ ⟨i, h1, h2, h3, h4⟩
      simp only at h1 h3
      subst h1
      unfold F38_l2
      simp only
      by_cases hlt : i < l.length
      · have hxp := hpos _ (nx_mem (d := 0) hlt)
        have h3l := h3.len
        have htm := tot_mono hpos (i := i)
        rw [if_pos (decide_eq_true (by omega)), nx_get (d := 0) hlt, Option.bind_some]
        have e1 : (if (decide ((i : Int) > 0)) = true then ((at? l (wrapA .i64 ((i : Int) - 1))).bind fun x21 => some (nx 0 l i == x21)) else some false) = some (decide (0 < i ∧ nx 0 l (i - 1) = nx 0 l i)) := by
          by_cases h0 : 0 < i
          · rw [if_pos (decide_eq_true (by omega)), wpred h0 (by omega), nx_get (d := 0) (by omega), Option.bind_some]
            congr 1
            rw [Bool.eq_iff_iff, beq_iff_eq, decide_eq_true_eq]
            exact ⟨fun h => ⟨h0, h.symm⟩, fun h => h.2.symm⟩
          · rw [if_neg (by rw [decide_eq_true_eq]; omega)]
            simp [h0]
        rw [e1, Option.bind_some]
        by_cases q : 0 < i ∧ nx 0 l (i - 1) = nx 0 l i
        · rw [if_pos (decide_eq_true q)]
          refine .inr ⟨_, rfl, .inl ⟨rfl, i - 1, by omega, ?_⟩⟩
          rw [show i - 1 + 1 = i from by omega]; exact q.2
        rw [if_neg (by rw [decide_eq_true_eq]; exact q)]
        left
        obtain ⟨x, hx⟩ : ∃ x : Nat, nx 0 l i = (x : Int) := ⟨(nx 0 l i).toNat, by omega⟩
        have ho := Hal.one hxp.1 hxp.2
        rw [hx] at hxp
        rw [hx, (od_ok (x := x) (by omega) (by omega)).2 F (by omega), Option.bind_some]
        rw [hx, Int.toNat_natCast] at ho
        have hol := ho.len
        simp only [List.length_replicate, tot] at hol
        have := iter_count (step := F38_l1 F (((od 6 x).1 : Int), ((od 6 x).2 : Int))) (F := F) (fun j => (o ++ List.replicate j ((od 6 x).1 : Int), (j : Int))) (b := o ++ List.replicate (od 6 x).2 ((od 6 x).1 : Int)) (od 6 x).2 (fun j hj => by
          unfold F38_l1
          simp only
          rw [if_pos (decide_eq_true (by omega)), app?_ok (by simp; omega), Option.bind_some, wsuc (by omega), List.append_assoc, ← List.replicate_succ']) (by
          unfold F38_l1
          simp only
          rw [if_neg (by rw [decide_eq_true_eq]; omega)]) (by omega)
        rw [List.replicate_zero, List.append_nil, show ((0 : Nat) : Int) = 0 from rfl] at this
        rw [this, Option.bind_some, wsuc (by omega)]
        refine ⟨_, rfl, ⟨i + 1, rfl, by omega, by rw [take_snoc hlt, hx]; exact h3.app ho, fun j hj => ?_⟩, by simp only; omega⟩
        by_cases e : j + 1 = i
        · subst e
          intro h
          exact q ⟨by omega, by simpa using h⟩
        · exact h4 j (by omega)
      · right
        rw [if_neg (by rw [decide_eq_true_eq]; omega)]
        have : i = l.length := by omega
        subst this
        rw [List.take_length] at h3
        exact ⟨_, rfl, .inr ⟨_, rfl, h3, fun ⟨j, j1, j2⟩ => h4 j j1 j2⟩⟩) F ([], 0) ⟨0, rfl, by omega, Hal.nil, fun j hj => by omega⟩ (by simp; omega)
  rw [hb]
  rcases hQ with ⟨rfl, h⟩ | ⟨o, rfl, h, hn⟩
  · exact .inl ⟨h, rfl⟩
  · right
    have hol := h.len
    obtain ⟨M, m1, m2, m3⟩ := sortI F o h.pos (by omega) (by omega)
    simp only [Option.bind_some]
    rw [m1]
    exact ⟨hn, M, rfl, m3, h.perm m2⟩
end Go.Proofs.Ytihmliblbhjlaaa

/- What the functional text of castlaw.OddsSay answers: true. -/
import Derived.Test.YtihmliblbhjlaaaOddsLaw
set_option linter.unusedVariables false
set_option linter.unusedSimpArgs false
namespace Go.Proofs.Ytihmliblbhjlaaa
open Go.Am

theorem Good.farLoop {V W : List Int} {F : Nat} (h : Good V W) (c : Int) (hF : 13 ≤ F) : iter (F3_l0 F (V, W) c) F (0, 0) = some (TF V W c) := by
  have hn := h.hi
  have := iter_count (step := F3_l0 F (V, W) c) (F := F) (P := fun i => (sm i (farAt V W c), (i : Int))) (b := TF V W c) V.length (fun i hi => by
    have hw := h.w i hi
    have hb := sm_bound (f := farAt V W c) (B := 100) (k := i) (fun j hj => h.farB c (by omega))
    unfold F3_l0
    simp only
    rw [if_pos (decide_eq_true (by have := h.len; omega)), nx_get (d := 0) hi, nx_get (d := 0) (by have := h.len; omega : i < W.length)]
    simp only [Option.bind_some]
    rw [wsuc (by omega), sm_succ]
    by_cases q : nx 0 V i ≥ c
    · rw [if_pos (decide_eq_true q), show farAt V W c i = nx 0 W i from if_pos q, w64 (by omega) (by omega)]
    · rw [if_neg (by rw [decide_eq_true_eq]; exact q), show farAt V W c i = 0 from if_neg q, Int.add_zero]) (by
    unfold F3_l0
    simp only
    rw [if_neg (by rw [decide_eq_true_eq]; have := h.len; omega)]; rfl) (by omega)
  exact this

section both
variable {V W X Y : List Int} {F : Nat}
theorem inner_eq {s : Int × List Int × List Int} {x : Int} (hx : at? V s.1 = some x) : F15_l0 F (V, W) (X, Y) s x = F3_l1 F (V, W) (X, Y) s := by
  funext r
  unfold F15_l0 F3_l1
  simp only [hx, Option.bind_some]
theorem outer_eq (hn : V.length ≤ 12) (G : Nat) : iter (F15_l1 F (V, W) (X, Y)) G (0, [], []) = iter (F3_l2 F (V, W) (X, Y)) G (0, [], []) := by
  refine iter_congr (fun s => 0 ≤ s.1) (fun s hs => ?_) (fun s s' hs he => ?_) G _ (by simp)
  · obtain ⟨a, L1, L2⟩ := s
    obtain ⟨i, rfl⟩ := Int.eq_ofNat_of_zero_le hs
    unfold F15_l1 F3_l2
    simp only
    by_cases hi : i < V.length
    · rw [if_pos (decide_eq_true (by omega)), if_pos (decide_eq_true (by omega)), nx_get (d := 0) hi, Option.bind_some, inner_eq (by exact nx_get (d := 0) hi)]
    · rw [if_neg (by rw [decide_eq_true_eq]; omega), if_neg (by rw [decide_eq_true_eq]; omega)]
  · obtain ⟨a, L1, L2⟩ := s
    have hs : 0 ≤ a := hs
    obtain ⟨i, rfl⟩ := Int.eq_ofNat_of_zero_le hs
    unfold F15_l1 at he
    simp only at he
    by_cases hi : i < V.length
    · rw [if_pos (decide_eq_true (by omega)), nx_get (d := 0) hi, Option.bind_some] at he
      revert he
      cases iter (F15_l0 F (V, W) (X, Y) ((i : Int), L1, L2) (nx 0 V i)) F (0, L1, L2) with
      | none => intro he; cases he
      | some b =>
        intro he
        simp only [Option.bind_some, Option.some.injEq, Stp.more.injEq] at he
        subst he
        simp only
        rw [wsuc (by omega)]; exact Int.natCast_nonneg _
    · rw [if_neg (by rw [decide_eq_true_eq]; omega)] at he
      cases he
theorem inner_run (h1 : Good V W) (h2 : Good X Y) (hF : 13 ≤ F) {i : Nat} (hi : i < V.length) (L1 L2 : List Int) (c : Nat) (hc : c ≤ 1000) (hl1 : L1.length ≤ c) (hl2 : L2.length ≤ c) (hv : ∀ a ∈ L1, inR .i64 a) :
    ∃ b, iter (F3_l1 F (V, W) (X, Y) ((i : Int), L1, L2)) F (0, L1, L2) = some b ∧ b.1.length ≤ c + 12 ∧ b.2.length ≤ c + 12 ∧ ∀ a ∈ b.1, inR .i64 a := by
  refine iter_inv (I := fun (s : Int × List Int × List Int) => ∃ k : Nat, s.1 = (k : Int) ∧ k ≤ X.length ∧ s.2.1.length ≤ c + k ∧ s.2.2.length ≤ c + k ∧ ∀ a ∈ s.2.1, inR .i64 a) (μ := fun s => X.length - s.1.toNat) (Q := fun (b : List Int × List Int) => b.1.length ≤ c + 12 ∧ b.2.length ≤ c + 12 ∧ ∀ a ∈ b.1, inR .i64 a) ?_ F _ ⟨0, rfl, by omega, by simpa using hl1, by simpa using hl2, hv⟩ (by have := h2.hi; simp only [Int.toNat_zero]; omega)
  rintro ⟨s0, M1, M2⟩ ⟨k, rfl, hk, q1, q2, q3⟩
  have hn := h2.hi
  simp only at q1 q2 q3
  unfold F3_l1
  simp only
  by_cases hlt : k < X.length
  · left
    have v1 := h1.v i hi
    have v2 := h2.v k hlt
    rw [if_pos (decide_eq_true (by omega)), nx_get (d := 0) hi, nx_get (d := 0) hlt, nx_get (d := 0) (by have := h1.len; omega : i < W.length), nx_get (d := 0) (by have := h2.len; omega : k < Y.length)]
    simp only [Option.bind_some]
    rw [app?_ok (by simp; omega), app?_ok (by simp; omega), wsuc (by omega)]
    simp only [Option.bind_some]
    refine ⟨_, rfl, ⟨k + 1, rfl, hlt, by simp; omega, by simp; omega, ?_⟩, by simp only [Int.toNat_natCast]; omega⟩
    intro a ha
    simp only [List.mem_append, List.mem_singleton] at ha
    rcases ha with ha | rfl
    · exact q3 a ha
    · rw [w64 (by omega) (by omega)]
      exact (show -9223372036854775808 ≤ nx 0 V i + nx 0 X k ∧ nx 0 V i + nx 0 X k ≤ 9223372036854775807 from ⟨by omega, by omega⟩)
  · right
    rw [if_neg (by rw [decide_eq_true_eq]; omega)]
    exact ⟨_, rfl, by simp only; omega, by simp only; omega, q3⟩
theorem outer_run (h1 : Good V W) (h2 : Good X Y) (hF : 13 ≤ F) :
    ∃ b, iter (F3_l2 F (V, W) (X, Y)) F (0, [], []) = some b ∧ b.1.length ≤ 144 ∧ b.2.length ≤ 144 ∧ ∀ a ∈ b.1, inR .i64 a := by
  refine iter_inv (I := fun (s : Int × List Int × List Int) => ∃ k : Nat, s.1 = (k : Int) ∧ k ≤ V.length ∧ s.2.1.length ≤ 12 * k ∧ s.2.2.length ≤ 12 * k ∧ ∀ a ∈ s.2.1, inR .i64 a) (μ := fun s => V.length - s.1.toNat) (Q := fun (b : List Int × List Int) => b.1.length ≤ 144 ∧ b.2.length ≤ 144 ∧ ∀ a ∈ b.1, inR .i64 a) ?_ F _ ⟨0, rfl, by omega, by simp, by simp, by simp⟩ (by have := h1.hi; simp only [Int.toNat_zero]; omega)
  rintro ⟨s0, M1, M2⟩ ⟨k, rfl, hk, q1, q2, q3⟩
  have hn := h1.hi
  simp only at q1 q2 q3
  unfold F3_l2
  simp only
  by_cases hlt : k < V.length
  · left
    obtain ⟨b, e, e1, e2, e3⟩ := inner_run h1 h2 hF hlt M1 M2 (12 * k) (by omega) q1 q2 q3
    rw [if_pos (decide_eq_true (by omega)), e, Option.bind_some, wsuc (by omega)]
    exact ⟨_, rfl, ⟨k + 1, rfl, hlt, by simp only; omega, by simp only; omega, e3⟩, by simp only [Int.toNat_natCast]; omega⟩
  · right
    rw [if_neg (by rw [decide_eq_true_eq]; omega)]
    exact ⟨_, rfl, by simp only; omega, by simp only; omega, q3⟩
end both

theorem eqT (x : Int × Int) : (x.1 == x.1 && (x.2 == x.2 && true)) = true := by simp
theorem PoddsSay.holds (t0 : (List (Int)) × (List (Int))) (t1 : (List (Int)) × (List (Int))) (t2 : Int) (h0 : ((t0.1.length ≤ maxLen ∧ ∀ a ∈ t0.1, inR .i64 a) ∧ (t0.2.length ≤ maxLen ∧ ∀ a ∈ t0.2, inR .i64 a))) (h1 : ((t1.1.length ≤ maxLen ∧ ∀ a ∈ t1.1, inR .i64 a) ∧ (t1.2.length ≤ maxLen ∧ ∀ a ∈ t1.2, inR .i64 a))) (h2 : inR .i64 t2) : ∃ F, F3 F t0 t1 t2 = some true := by
  obtain ⟨V, W⟩ := t0
  obtain ⟨X, Y⟩ := t1
  obtain ⟨F, hF⟩ : ∃ F : Nat, F = 2000000000 := ⟨_, rfl⟩
  refine ⟨F, ?_⟩
  have c0 := check_eq F (V, W) (by omega)
  have d0 := err_eq F (V, W) (by omega) h0.1.2
  have c1 := check_eq F (X, Y) (by omega)
  have d1 := err_eq F (X, Y) (by omega) h1.1.2
  unfold F3
  simp only
  by_cases z0 : ochk (V, W) = 0
  · have g0 := ochk_good z0
    have eB : ∃ r, F15 F (V, W) (X, Y) = some r ∧ (if ochk (X, Y) ≠ 0 then r = (([], []), ochk (X, Y)) else ∃ b, iter (F3_l2 F (V, W) (X, Y)) F (0, [], []) = some b ∧ b.1.length ≤ 144 ∧ b.2.length ≤ 144 ∧ (∀ a ∈ b.1, inR .i64 a) ∧ r = if ochk b ≠ 0 then (([], []), 9) else (b, 0)) := by
      unfold F15
      simp only
      rw [c0, z0, Option.bind_some, if_neg (by decide), c1, Option.bind_some]
      by_cases z1 : ochk (X, Y) = 0
      · rw [z1, if_neg (by decide), outer_eq g0.hi]
        obtain ⟨b, e, e1, e2, e3⟩ := outer_run (F := F) g0 (ochk_good z1) (by omega)
        rw [e, Option.bind_some, check_eq F _ (by omega), Option.bind_some]
        by_cases z2 : ochk b = 0
        · rw [show ochk (b.1, b.2) = 0 from z2, if_neg (by decide)]
          exact ⟨_, rfl, by rw [if_neg (by simp)]; exact ⟨b, rfl, e1, e2, e3, by rw [if_neg (by simpa using z2)]⟩⟩
        · rw [if_pos (by simpa using z2)]
          exact ⟨_, rfl, by rw [if_neg (by simp)]; exact ⟨b, rfl, e1, e2, e3, by rw [if_pos (by simpa using z2)]⟩⟩
      · rw [if_pos (by simpa using z1)]
        exact ⟨_, rfl, by rw [if_pos (by simpa using z1)]⟩
    obtain ⟨r39, eB, hB⟩ := eB
    have n1 := g0.TNb
    have n2 := g0.TSb
    have n3 := g0.TFb t2
    rw [g0.Mean (by omega) z0, g0.Spread (by omega) z0, g0.Beyond t2 (by omega) z0, eB, d0, c0, z0]
    simp only [Option.bind_some]
    rw [if_neg (by decide), if_neg (by decide), g0.oddsSum (by omega), Option.bind_some, g0.farLoop t2 (by omega), Option.bind_some]
    simp only
    rw [if_neg (by decide), whole_low F _ _ (by omega) (by omega) (by omega) (by omega) (by omega)]
    simp only [Option.bind_some]
    rw [eqT, g0.SpreadOf (by omega)]
    simp only [Option.bind_some]
    rw [if_neg (by decide)]
    simp only [Option.bind_some]
    rw [eqT, whole_low F _ _ (by omega) (by omega) (by omega) (by omega) (by omega)]
    simp only [Option.bind_some]
    rw [if_neg (by decide)]
    simp only [Option.bind_some]
    rw [eqT, if_neg (by decide), d1]
    simp only [Option.bind_some]
    by_cases z1 : ochk (X, Y) = 0
    · rw [if_neg (by simpa using z1)] at hB
      obtain ⟨b, e, e1, e2, e3, rfl⟩ := hB
      rw [if_neg (by simpa using z1), e]
      simp only [Option.bind_some]
      rw [err_eq F _ (by omega) e3]
      simp only [Option.bind_some]
      by_cases z2 : ochk b = 0
      · have er : (if ochk b ≠ 0 then ((([], []), 9) : (List Int × List Int) × Int) else (b, 0)) = (b, 0) := if_neg (by simpa using z2)
        rw [er, if_neg (by simpa using z2)]
        simp only
        rw [if_pos (by decide), equal_eq F _ _ (by omega) (by omega)]
        simp only [Option.bind_some, decide_true, if_true]
        rw [equal_eq F _ _ (by omega) (by omega)]
        simp
      · have er : (if ochk b ≠ 0 then ((([], []), 9) : (List Int × List Int) × Int) else (b, 0)) = (([], []), 9) := if_pos (by simpa using z2)
        rw [er, if_pos (by simpa using z2)]
        rfl
    · rw [if_pos (by simpa using z1)] at hB
      subst hB
      rw [if_pos (by simpa using z1)]
      simp only [beq_self_eq_true, Bool.true_and]
      rfl
  · have e1 : F12 F (V, W) = some ((0, 0), ochk (V, W)) := by
      unfold F12; simp only; rw [c0, Option.bind_some, if_pos (by simpa using z0)]
    have e2 : F13 F (V, W) = some ((0, 0), ochk (V, W)) := by
      unfold F13; simp only; rw [c0, Option.bind_some, if_pos (by simpa using z0)]
    have e3 : F14 F (V, W) t2 = some ((0, 0), ochk (V, W)) := by
      unfold F14; simp only; rw [c0, Option.bind_some, if_pos (by simpa using z0)]
    have e4 : F15 F (V, W) (X, Y) = some (([], []), ochk (V, W)) := by
      unfold F15; simp only; rw [c0, Option.bind_some, if_pos (by simpa using z0)]
    rw [e1, e2, e3, e4, d0, c0]
    simp only [Option.bind_some]
    rw [if_neg (by simp), if_pos (by simpa using z0)]
    simp only [beq_self_eq_true, Bool.true_and]
    rfl
end Go.Proofs.Ytihmliblbhjlaaa

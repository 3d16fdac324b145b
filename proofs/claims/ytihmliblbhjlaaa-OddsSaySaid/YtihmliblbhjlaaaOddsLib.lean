/- Ratios in lowest terms: what the functional texts of package ratio and its reference answer. -/
import Derived.Test.YtihmliblbhjlaaaDef
import Derived.Test.YtihmliblbhjlaaaPureC
set_option linter.unusedVariables false
set_option linter.unusedSimpArgs false
namespace Go.Proofs.Ytihmliblbhjlaaa
open Go.Am

theorem maxI_abs (a : Int) (h : -9223372036854775807 ≤ a) (h2 : a ≤ 9223372036854775807) : maxI a (wrapA .i64 (0 - a)) = (a.natAbs : Int) := by
  rw [w64 (by omega) (by omega)]
  unfold maxI
  split <;> omega

theorem gcdLoop (F : Nat) : ∀ (b a G : Nat), b < G → iter (F166_l0 F) G ((a : Int), (b : Int)) = some ((Nat.gcd a b : Nat) : Int) := by
  intro b
  induction b using Nat.strongRecOn with
  | _ b ih =>
    intro a G hG
    obtain ⟨G, rfl⟩ : ∃ q, G = q + 1 := ⟨G - 1, by omega⟩
    by_cases h0 : b = 0
    · subst h0
      refine iter_stop ?_
      unfold F166_l0
      simp
    · have hs : F166_l0 F ((a : Int), (b : Int)) = some (.more ((b : Int), ((a % b : Nat) : Int))) := by
        unfold F166_l0
        simp only
        rw [if_pos (decide_eq_true (by omega))]
        unfold rem?
        rw [if_neg (by omega), tmod_nat]
        rfl
      rw [iter_more hs, ih (a % b) (Nat.mod_lt _ (by omega)) b G (by have := Nat.mod_lt a (by omega : 0 < b); omega)]
      rw [Nat.gcd_comm b (a % b), ← Nat.gcd_rec, Nat.gcd_comm b a]
theorem gcd_eq (F : Nat) (p q : Int) (h : -9223372036854775807 ≤ p) (h2 : p ≤ 9223372036854775807) (hq : 0 ≤ q) (hF : q.natAbs < F) : F166 F p q = some ((Nat.gcd p.natAbs q.natAbs : Nat) : Int) := by
  unfold F166
  rw [maxI_abs p h h2]
  have := gcdLoop F q.natAbs p.natAbs F hF
  rw [show ((q.natAbs : Nat) : Int) = q from by omega] at this
  rw [this]; rfl
theorem common_eq : ∀ (F : Nat) (p q : Int), -9223372036854775807 ≤ p → p ≤ 9223372036854775807 → -9223372036854775807 ≤ q → q ≤ 9223372036854775807 → q.natAbs < F → F95 F p q = some ((Nat.gcd p.natAbs q.natAbs : Nat) : Int)
  | 0, _, _, _, _, _, _, h => by omega
  | F + 1, p, q, h1, h2, h3, h4, h => by
    rw [F95]
    try dsimp only
    rw [maxI_abs p h1 h2, maxI_abs q h3 h4]
    by_cases h0 : q.natAbs = 0
    · rw [if_pos (by simp [h0])]
      simp [h0]
    · rw [if_neg (by simpa using h0)]
      unfold rem?
      rw [if_neg (by omega), tmod_nat]
      have hm := Nat.mod_lt p.natAbs (by omega : 0 < q.natAbs)
      simp only [Option.bind_some]
      rw [common_eq F _ _ (by omega) (by omega) (by omega) (by omega) (by rw [Int.natAbs_natCast]; omega)]
      simp only [Option.bind_some, Int.natAbs_natCast]
      rw [Nat.gcd_comm _ (_ % _), ← Nat.gcd_rec, Nat.gcd_comm]

/-- Lowest terms, of a q above 0. -/
def lowS (p q : Int) : (Int × Int) × Int :=
  let g : Int := (Nat.gcd p.natAbs q.natAbs : Nat)
  if q.tdiv g > 1000000000 ∨ p.tdiv g < -1000000000 ∨ p.tdiv g > 1000000000 then ((0, 0), 2) else ((p.tdiv g, q.tdiv g), 0)

theorem tdiv_abs (p : Int) (g : Nat) (hg : 0 < g) : -(p.natAbs : Int) ≤ p.tdiv g ∧ p.tdiv g ≤ p.natAbs := by
  have h := Int.natAbs_tdiv_le_natAbs p g
  omega

theorem low_eq (F : Nat) (p q : Int) (h : -9223372036854775807 ≤ p) (h2 : p ≤ 9223372036854775807) (hq : 0 < q) (hq2 : q ≤ 9223372036854775807) (hF : q.natAbs < F) : F149 F p q = some (lowS p q) := by
  unfold F149
  rw [gcd_eq F p q h h2 (by omega) hF]
  have hg : 0 < Nat.gcd p.natAbs q.natAbs := Nat.gcd_pos_of_pos_right _ (by omega)
  have hp := tdiv_abs p _ hg
  have hq' := tdiv_abs q _ hg
  simp only [Option.bind_some, quo?]
  rw [if_neg (by omega), if_neg (by omega)]
  simp only [Option.bind_some]
  rw [w64 (by omega) (by omega), w64 (by omega) (by omega)]
  unfold lowS
  simp only
  by_cases hc : q.tdiv ((Nat.gcd p.natAbs q.natAbs : Nat) : Int) > 1000000000 ∨ p.tdiv ((Nat.gcd p.natAbs q.natAbs : Nat) : Int) < -1000000000 ∨ p.tdiv ((Nat.gcd p.natAbs q.natAbs : Nat) : Int) > 1000000000
  · rw [if_pos hc, if_pos (by simp only [Bool.or_eq_true, decide_eq_true_eq]; omega)]
  · rw [if_neg hc, if_neg (by simp only [Bool.or_eq_true, decide_eq_true_eq]; omega)]

theorem ratioOf_eq (F : Nat) (p q : Int) (h : -9223372036854775807 ≤ p) (h2 : p ≤ 9223372036854775807) (hq : q ≠ 0) (hq1 : -9223372036854775807 ≤ q) (hq2 : q ≤ 9223372036854775807) (hF : q.natAbs < F) :
    F94 F p q = some (if q < 0 then lowS (-p) (-q) else lowS p q) := by
  unfold F94
  rw [common_eq F p q h h2 hq1 hq2 hF]
  have hg : 0 < Nat.gcd p.natAbs q.natAbs := Nat.gcd_pos_of_pos_right _ (by omega)
  have hgq : Nat.gcd p.natAbs q.natAbs ≤ q.natAbs := Nat.gcd_le_right _ (by omega)
  have hp := tdiv_abs p _ hg
  have hq' := tdiv_abs q _ hg
  simp only [Option.bind_some]
  by_cases hneg : q < 0
  · rw [if_pos (decide_eq_true hneg), w64 (by omega) (by omega), if_pos hneg]
    simp only [Option.bind_some, quo?]
    rw [if_neg (by omega), if_neg (by omega)]
    simp only [Option.bind_some]
    rw [Int.zero_sub, Int.tdiv_neg, Int.tdiv_neg, w64 (by omega) (by omega), w64 (by omega) (by omega)]
    unfold lowS maxI
    simp only [Int.natAbs_neg, Int.neg_tdiv]
    rw [w64 (by omega) (by omega)]
    generalize p.tdiv ((Nat.gcd p.natAbs q.natAbs : Nat) : Int) = a at hp ⊢
    generalize q.tdiv ((Nat.gcd p.natAbs q.natAbs : Nat) : Int) = b at hq' ⊢
    by_cases hc : -b > 1000000000 ∨ -a < -1000000000 ∨ -a > 1000000000
    · rw [if_pos hc, if_pos (by simp only [Bool.or_eq_true, decide_eq_true_eq]; split <;> omega)]
    · rw [if_neg hc, if_neg (by simp only [Bool.or_eq_true, decide_eq_true_eq]; split <;> omega)]
  · rw [if_neg (by rw [decide_eq_true_eq]; omega), if_neg hneg]
    simp only [Option.bind_some, quo?]
    rw [if_neg (by omega), if_neg (by omega)]
    simp only [Option.bind_some]
    rw [w64 (by omega) (by omega), w64 (by omega) (by omega)]
    unfold lowS maxI
    simp only
    rw [w64 (by omega) (by omega)]
    generalize p.tdiv ((Nat.gcd p.natAbs q.natAbs : Nat) : Int) = a at hp ⊢
    generalize q.tdiv ((Nat.gcd p.natAbs q.natAbs : Nat) : Int) = b at hq' ⊢
    by_cases hc : b > 1000000000 ∨ a < -1000000000 ∨ a > 1000000000
    · rw [if_pos hc, if_pos (by simp only [Bool.or_eq_true, decide_eq_true_eq]; split <;> omega)]
    · rw [if_neg hc, if_neg (by simp only [Bool.or_eq_true, decide_eq_true_eq]; split <;> omega)]

theorem low_fine (p q : Int) (hq : 0 < q) (hq2 : q ≤ 1000000000) (h1 : -1000000000 ≤ p) (h2 : p ≤ 1000000000) : (lowS p q).2 = 0 := by
  have hg : 0 < Nat.gcd p.natAbs q.natAbs := Nat.gcd_pos_of_pos_right _ (by omega)
  have hp := tdiv_abs p _ hg
  have hq' := tdiv_abs q _ hg
  unfold lowS
  simp only
  rw [if_neg (by omega)]

theorem make_eq (F : Nat) (p q : Int) (hF : 1000000001 ≤ F) : F87 F p q = some (if p < -1000000000 ∨ p > 1000000000 ∨ q < -1000000000 ∨ q > 1000000000 then ((0, 0), 1) else if q = 0 then ((0, 0), 5) else if q < 0 then lowS (-p) (-q) else lowS p q) := by
  unfold F87
  by_cases h : p < -1000000000 ∨ p > 1000000000 ∨ q < -1000000000 ∨ q > 1000000000
  · rw [if_pos h, if_pos (by simp only [Bool.or_eq_true, decide_eq_true_eq]; omega)]
  · rw [if_neg h, if_neg (by simp only [Bool.or_eq_true, decide_eq_true_eq]; omega)]
    by_cases h0 : q = 0
    · rw [if_pos h0, if_pos (by simpa using h0)]
    · rw [if_neg h0, if_neg (by simpa using h0)]
      by_cases hn : q < 0
      · rw [if_pos hn, if_pos (decide_eq_true hn), w64 (by omega) (by omega), w64 (by omega) (by omega), Int.zero_sub, Int.zero_sub, low_eq F (-p) (-q) (by omega) (by omega) (by omega) (by omega) (by omega)]
        rfl
      · rw [if_neg hn, if_neg (by rw [decide_eq_true_eq]; omega), low_eq F p q (by omega) (by omega) (by omega) (by omega) (by omega)]
        rfl
end Go.Proofs.Ytihmliblbhjlaaa

/- Ratios in lowest terms: what the functional texts of package ratio and its reference answer. -/
import Derived.Test.YtdkmepeolmdccaaDef
import Derived.Test.YtdkmepeolmdccaaPureC
set_option linter.unusedVariables false
set_option linter.unusedSimpArgs false
namespace Go.Proofs.Ytdkmepeolmdccaa
open Go.Am

theorem maxI_abs (a : Int) (h : -9223372036854775807 ≤ a) (h2 : a ≤ 9223372036854775807) : maxI a (wrapA .i64 (0 - a)) = (a.natAbs : Int) := by
  rw [w64 (by omega) (by omega)]
  unfold maxI
  split <;> omega

theorem gcdLoop (F : Nat) : ∀ (b a G : Nat), b < G → iter (F169_l0 F) G ((a : Int), (b : Int)) = some ((Nat.gcd a b : Nat) : Int) := by
  intro b
  induction b using Nat.strongRecOn with
  | _ b ih =>
    intro a G hG
    obtain ⟨G, rfl⟩ : ∃ q, G = q + 1 := ⟨G - 1, by omega⟩
    by_cases h0 : b = 0
    · subst h0
      refine iter_stop ?_
      unfold F169_l0
      simp
    · have hs : F169_l0 F ((a : Int), (b : Int)) = some (.more ((b : Int), ((a % b : Nat) : Int))) := by
        unfold F169_l0
        simp only
        rw [if_pos (decide_eq_true (by omega))]
        unfold rem?
        rw [if_neg (by omega), tmod_nat]
        rfl
      rw [iter_more hs, ih (a % b) (Nat.mod_lt _ (by omega)) b G (by have := Nat.mod_lt a (by omega : 0 < b); omega)]
      rw [Nat.gcd_comm b (a % b), ← Nat.gcd_rec, Nat.gcd_comm b a]
theorem gcd_eq (F : Nat) (p q : Int) (h : -9223372036854775807 ≤ p) (h2 : p ≤ 9223372036854775807) (hq : 0 ≤ q) (hF : q.natAbs < F) : F169 F p q = some ((Nat.gcd p.natAbs q.natAbs : Nat) : Int) := by
  unfold F169
  rw [maxI_abs p h h2]
  have := gcdLoop F q.natAbs p.natAbs F hF
  rw [show ((q.natAbs : Nat) : Int) = q from by omega] at this
  rw [this]; rfl
theorem common_eq : ∀ (F : Nat) (p q : Int), -9223372036854775807 ≤ p → p ≤ 9223372036854775807 → -9223372036854775807 ≤ q → q ≤ 9223372036854775807 → q.natAbs < F → F127 F p q = some ((Nat.gcd p.natAbs q.natAbs : Nat) : Int)
  | 0, _, _, _, _, _, _, h => by omega
  | F + 1, p, q, h1, h2, h3, h4, h => by
    rw [F127]
    try dsimp only
    rw [maxI_abs p h1 h2, maxI_abs q h3 h4]
    by_cases h0 : q.natAbs = 0
    · rw [if_pos (by simp [h0])]
      simp [h0]
    · rw [if_neg (by simpa using h0)]
      unfold rem?
      rw [if_neg (by omega), tmod_nat]
      have hm := Nat.mod_lt p.natAbs (by omega : 0 < q.natAbs)
      simp only [Option.bind_some]
      rw [common_eq F _ _ (by omega) (by omega) (by omega) (by omega) (by rw [Int.natAbs_natCast]; omega)]
      simp only [Option.bind_some, Int.natAbs_natCast]
      rw [Nat.gcd_comm _ (_ % _), ← Nat.gcd_rec, Nat.gcd_comm]

/-- Lowest terms, of a q above 0. -/
def lowS (p q : Int) : (Int × Int) × Int :=
  let g : Int := (Nat.gcd p.natAbs q.natAbs : Nat)
  if q.tdiv g > 1000000000 ∨ p.tdiv g < -1000000000 ∨ p.tdiv g > 1000000000 then ((0, 0), 2) else ((p.tdiv g, q.tdiv g), 0)

theorem tdiv_abs (p : Int) (g : Nat) (hg : 0 < g) : -(p.natAbs : Int) ≤ p.tdiv g ∧ p.tdiv g ≤ p.natAbs := by
  have h := Int.natAbs_tdiv_le_natAbs p g
  omega

theorem low_eq (F : Nat) (p q : Int) (h : -9223372036854775807 ≤ p) (h2 : p ≤ 9223372036854775807) (hq : 0 < q) (hq2 : q ≤ 9223372036854775807) (hF : q.natAbs < F) : F160 F p q = some (lowS p q) := by
  unfold F160
  rw [gcd_eq F p q h h2 (by omega) hF]
  have hg : 0 < Nat.gcd p.natAbs q.natAbs := Nat.gcd_pos_of_pos_right _ (by omega)
  have hp := tdiv_abs p _ hg
  have hq' := tdiv_abs q _ hg
  simp only [Option.bind_some, quo?]
  rw [if_neg (by omega), if_neg (by omega)]
  simp only [Option.bind_some]
  rw [w64 (by omega) (by omega), w64 (by omega) (by omega)]
  unfold lowS
  simp only
  by_cases hc : q.tdiv ((Nat.gcd p.natAbs q.natAbs : Nat) : Int) > 1000000000 ∨ p.tdiv ((Nat.gcd p.natAbs q.natAbs : Nat) : Int) < -1000000000 ∨ p.tdiv ((Nat.gcd p.natAbs q.natAbs : Nat) : Int) > 1000000000
  · rw [if_pos hc, if_pos (by simp only [Bool.or_eq_true, decide_eq_true_eq]; omega)]
  · rw [if_neg hc, if_neg (by simp only [Bool.or_eq_true, decide_eq_true_eq]; omega)]

theorem ratioOf_eq (F : Nat) (p q : Int) (h : -9223372036854775807 ≤ p) (h2 : p ≤ 9223372036854775807) (hq : q ≠ 0) (hq1 : -9223372036854775807 ≤ q) (hq2 : q ≤ 9223372036854775807) (hF : q.natAbs < F) :
    F114 F p q = some (if q < 0 then lowS (-p) (-q) else lowS p q) := by
  unfold F114
  rw [common_eq F p q h h2 hq1 hq2 hF]
  have hg : 0 < Nat.gcd p.natAbs q.natAbs := Nat.gcd_pos_of_pos_right _ (by omega)
  have hgq : Nat.gcd p.natAbs q.natAbs ≤ q.natAbs := Nat.gcd_le_right _ (by omega)
  have hp := tdiv_abs p _ hg
  have hq' := tdiv_abs q _ hg
  simp only [Option.bind_some]
  by_cases hneg : q < 0
  · rw [if_pos (decide_eq_true hneg), w64 (by omega) (by omega), if_pos hneg]
    simp only [Option.bind_some, quo?]
    rw [if_neg (by omega), if_neg (by omega)]
    simp only [Option.bind_some]
    rw [Int.zero_sub, Int.tdiv_neg, Int.tdiv_neg, w64 (by omega) (by omega), w64 (by omega) (by omega)]
    unfold lowS maxI
    simp only [Int.natAbs_neg, Int.neg_tdiv]
    rw [w64 (by omega) (by omega)]
    generalize p.tdiv ((Nat.gcd p.natAbs q.natAbs : Nat) : Int) = a at hp ⊢
    generalize q.tdiv ((Nat.gcd p.natAbs q.natAbs : Nat) : Int) = b at hq' ⊢
    by_cases hc : -b > 1000000000 ∨ -a < -1000000000 ∨ -a > 1000000000
    · rw [if_pos hc, if_pos (by simp only [Bool.or_eq_true, decide_eq_true_eq]; split <;> omega)]
    · rw [if_neg hc, if_neg (by simp only [Bool.or_eq_true, decide_eq_true_eq]; split <;> omega)]
  · rw [if_neg (by rw [decide_eq_true_eq]; omega), if_neg hneg]
    simp only [Option.bind_some, quo?]
    rw [if_neg (by omega), if_neg (by omega)]
    simp only [Option.bind_some]
    rw [w64 (by omega) (by omega), w64 (by omega) (by omega)]
    unfold lowS maxI
    simp only
    rw [w64 (by omega) (by omega)]
    generalize p.tdiv ((Nat.gcd p.natAbs q.natAbs : Nat) : Int) = a at hp ⊢
    generalize q.tdiv ((Nat.gcd p.natAbs q.natAbs : Nat) : Int) = b at hq' ⊢
    by_cases hc : b > 1000000000 ∨ a < -1000000000 ∨ a > 1000000000
    · rw [if_pos hc, if_pos (by simp only [Bool.or_eq_true, decide_eq_true_eq]; split <;> omega)]
    · rw [if_neg hc, if_neg (by simp only [Bool.or_eq_true, decide_eq_true_eq]; split <;> omega)]

theorem low_fine (p q : Int) (hq : 0 < q) (hq2 : q ≤ 1000000000) (h1 : -1000000000 ≤ p) (h2 : p ≤ 1000000000) : (lowS p q).2 = 0 := by
  have hg : 0 < Nat.gcd p.natAbs q.natAbs := Nat.gcd_pos_of_pos_right _ (by omega)
  have hp := tdiv_abs p _ hg
  have hq' := tdiv_abs q _ hg
  unfold lowS
  simp only
  rw [if_neg (by omega)]

def RG (x : Int × Int) : Prop := 1 ≤ x.2 ∧ x.2 ≤ 1000000000 ∧ -1000000000 ≤ x.1 ∧ x.1 ≤ 1000000000
instance (x : Int × Int) : Decidable (RG x) := inferInstanceAs (Decidable (_ ∧ _ ∧ _ ∧ _))
def rchk (x : Int × Int) : Int := if RG x then (if Nat.gcd x.1.natAbs x.2.natAbs = 1 then 0 else 3) else 1
theorem rchk_rg {x : Int × Int} (h : rchk x = 0) : RG x := by
  unfold rchk at h
  split at h
  · assumption
  · cases h
theorem rcheck_eq (F : Nat) (x : Int × Int) (hF : 1000000001 ≤ F) : F150 F x = some (rchk x) := by
  unfold F150 rchk
  by_cases h : RG x
  · have h' := h
    obtain ⟨h1, h2, h3, h4⟩ := h'
    rw [if_pos h, if_neg (by simp only [Bool.or_eq_true, decide_eq_true_eq]; omega), gcd_eq F x.1 x.2 (by omega) (by omega) (by omega) (by omega)]
    simp only [Option.bind_some]
    by_cases hg : Nat.gcd x.1.natAbs x.2.natAbs = 1
    · rw [if_pos hg, if_neg (by simp [hg])]
    · rw [if_neg hg, if_pos (by simp only [bne_iff_ne, ne_eq]; omega)]
  · rw [if_neg h, if_pos (by unfold RG at h; simp only [Bool.or_eq_true, decide_eq_true_eq]; omega)]
theorem ratioErr_eq (F : Nat) (x : Int × Int) (hF : 1000000001 ≤ F) : F98 F x = some (rchk x) := by
  unfold F98 rchk
  by_cases h : RG x
  · have h' := h
    obtain ⟨h1, h2, h3, h4⟩ := h'
    rw [if_pos h, if_neg (by simp only [Bool.or_eq_true, decide_eq_true_eq]; omega), common_eq F x.1 x.2 (by omega) (by omega) (by omega) (by omega) (by omega)]
    simp only [Option.bind_some]
    by_cases hg : Nat.gcd x.1.natAbs x.2.natAbs = 1
    · rw [if_pos hg, if_neg (by simp [hg])]
    · rw [if_neg hg, if_pos (by simp only [bne_iff_ne, ne_eq]; omega)]
  · rw [if_neg h, if_pos (by unfold RG at h; simp only [Bool.or_eq_true, decide_eq_true_eq]; omega)]
def bchk (x y : Int × Int) : Int := if rchk x = 0 then rchk y else rchk x
theorem both_eq (F : Nat) (x y : Int × Int) (hF : 1000000001 ≤ F) : F162 F x y = some (bchk x y) := by
  unfold F162 bchk
  rw [rcheck_eq F _ hF, rcheck_eq F _ hF]
  simp only [Option.bind_some]
  by_cases h : rchk x = 0
  · rw [if_pos h, if_neg (by simpa using h)]
  · rw [if_neg h, if_pos (by simpa using h)]

theorem mulR {a b : Int} (ha : -1000000000 ≤ a) (ha' : a ≤ 1000000000) (hb : -1000000000 ≤ b) (hb' : b ≤ 1000000000) : -1000000000000000000 ≤ a * b ∧ a * b ≤ 1000000000000000000 := by
  have h : (a * b).natAbs ≤ 1000000000 * 1000000000 := by
    rw [Int.natAbs_mul]; exact Nat.mul_le_mul (by omega) (by omega)
  omega
theorem mulP {a b : Int} (ha : 0 < a) (hb : 0 < b) : 0 < a * b := Int.mul_pos ha hb

theorem make_eq (F : Nat) (p q : Int) (hF : 1000000001 ≤ F) : F109 F p q = some (if p < -1000000000 ∨ p > 1000000000 ∨ q < -1000000000 ∨ q > 1000000000 then ((0, 0), 1) else if q = 0 then ((0, 0), 5) else if q < 0 then lowS (-p) (-q) else lowS p q) := by
  unfold F109
  by_cases h : p < -1000000000 ∨ p > 1000000000 ∨ q < -1000000000 ∨ q > 1000000000
  · rw [if_pos h, if_pos (by simp only [Bool.or_eq_true, decide_eq_true_eq]; omega)]
  · rw [if_neg h, if_neg (by simp only [Bool.or_eq_true, decide_eq_true_eq]; omega)]
    by_cases h0 : q = 0
    · rw [if_pos h0, if_pos (by simpa using h0)]
    · rw [if_neg h0, if_neg (by simpa using h0)]
      by_cases hn : q < 0
      · rw [if_pos hn, if_pos (decide_eq_true hn), w64 (by omega) (by omega), w64 (by omega) (by omega), Int.zero_sub, Int.zero_sub, low_eq F (-p) (-q) (by omega) (by omega) (by omega) (by omega) (by omega)]
        rfl
      · rw [if_neg hn, if_neg (by rw [decide_eq_true_eq]; omega), low_eq F p q (by omega) (by omega) (by omega) (by omega) (by omega)]
        rfl


theorem low_zero {p q : Int} (h : (lowS p q).2 ≠ 0) : lowS p q = ((0, 0), 2) := by
  unfold lowS at h ⊢
  simp only at h ⊢
  split
  · rfl
  · rename_i hc; rw [if_neg hc] at h; exact (h rfl).elim
theorem low_chk {p q : Int} (hq : 0 < q) (h : (lowS p q).2 = 0) : rchk (lowS p q).1 = 0 := by
  have hg : 0 < Nat.gcd p.natAbs q.natAbs := Nat.gcd_pos_of_pos_right _ (by omega)
  unfold lowS at h ⊢
  simp only at h ⊢
  split
  · rename_i hc; rw [if_pos hc] at h; cases h
  · rename_i hc
    have hge : Nat.gcd p.natAbs q.natAbs ≤ q.natAbs := Nat.gcd_le_right _ (by omega)
    have hq2 : q.tdiv ((Nat.gcd p.natAbs q.natAbs : Nat) : Int) = ((q.natAbs / Nat.gcd p.natAbs q.natAbs : Nat) : Int) := by
      rw [← tdiv_nat, show ((q.natAbs : Nat) : Int) = q from by omega]
    have hpos : 0 < q.natAbs / Nat.gcd p.natAbs q.natAbs := Nat.div_pos hge hg
    unfold rchk
    rw [if_pos (show RG _ from ⟨by simp only; rw [hq2]; omega, by simp only; omega, by simp only; omega, by simp only; omega⟩)]
    simp only [Int.natAbs_tdiv, Int.natAbs_natCast]
    exact if_pos (Nat.coprime_div_gcd_div_gcd hg)
theorem low_one {p : Int} (h1 : -1000000000 ≤ p) (h2 : p ≤ 1000000000) : lowS p 1 = ((p, 1), 0) := by
  unfold lowS
  simp only [show (1 : Int).natAbs = 1 from rfl, Nat.gcd_one_right, Int.natCast_one, Int.tdiv_one]
  rw [if_neg (by omega)]
theorem rchk_one {p : Int} (h1 : -1000000000 ≤ p) (h2 : p ≤ 1000000000) : rchk (p, 1) = 0 := by
  unfold rchk
  rw [if_pos (show RG _ from ⟨by simp, by simp, h1, h2⟩)]
  simp
/-- Two right ratios, multiplied. -/
theorem mul_both (F : Nat) (x y : Int × Int) (hF : 1000000000000000001 ≤ F) (hx : rchk x = 0) (hy : rchk y = 0) : F119 F x y = some (lowS (x.1 * y.1) (x.2 * y.2)) ∧ F46 F x y = some (lowS (x.1 * y.1) (x.2 * y.2)) := by
  obtain ⟨a, b⟩ := x
  obtain ⟨c, d⟩ := y
  obtain ⟨g1, g2, g3, g4⟩ := rchk_rg hx
  obtain ⟨k1, k2, k3, k4⟩ := rchk_rg hy
  simp only at g1 g2 g3 g4 k1 k2 k3 k4
  have m1 := mulR g3 g4 k3 k4
  have m2 := mulR (by omega : -1000000000 ≤ b) g2 (by omega : -1000000000 ≤ d) k2
  have p2 := mulP (by omega : 0 < b) (by omega : 0 < d)
  have eb : bchk (a, b) (c, d) = 0 := by unfold bchk; rw [if_pos hx, hy]
  constructor
  · unfold F119
    simp only
    rw [both_eq F _ _ (by omega), eb, Option.bind_some, if_neg (by simp), w64 (by omega) (by omega), w64 (by omega) (by omega), low_eq F _ _ (by omega) (by omega) p2 (by omega) (by omega)]
    rfl
  · unfold F46
    simp only
    rw [w64 (by omega) (by omega), w64 (by omega) (by omega), ratioOf_eq F _ _ (by omega) (by omega) (by omega) (by omega) (by omega) (by omega), if_neg (by omega)]
    rfl
theorem add_both (F : Nat) (x y : Int × Int) (hF : 1000000000000000001 ≤ F) (hx : rchk x = 0) (hy : rchk y = 0) : F120 F x y = some (lowS (x.1 * y.2 + x.2 * y.1) (x.2 * y.2)) ∧ F47 F x y = some (lowS (x.1 * y.2 + x.2 * y.1) (x.2 * y.2)) := by
  obtain ⟨a, b⟩ := x
  obtain ⟨c, d⟩ := y
  obtain ⟨g1, g2, g3, g4⟩ := rchk_rg hx
  obtain ⟨k1, k2, k3, k4⟩ := rchk_rg hy
  simp only at g1 g2 g3 g4 k1 k2 k3 k4
  have m1 := mulR g3 g4 (by omega : -1000000000 ≤ d) k2
  have m3 := mulR (by omega : -1000000000 ≤ b) g2 k3 k4
  have m2 := mulR (by omega : -1000000000 ≤ b) g2 (by omega : -1000000000 ≤ d) k2
  have p2 := mulP (by omega : 0 < b) (by omega : 0 < d)
  have ec : c * b = b * c := Int.mul_comm _ _
  have eb : bchk (a, b) (c, d) = 0 := by unfold bchk; rw [if_pos hx, hy]
  constructor
  · unfold F120
    simp only
    rw [both_eq F _ _ (by omega), eb, Option.bind_some, if_neg (by simp), ec, w64 (a := a * d) (by omega) (by omega), w64 (a := b * c) (by omega) (by omega), w64 (by omega) (by omega), w64 (by omega) (by omega), low_eq F _ _ (by omega) (by omega) p2 (by omega) (by omega)]
    rfl
  · unfold F47
    simp only
    rw [w64 (a := a * d) (by omega) (by omega), w64 (a := b * c) (by omega) (by omega), w64 (by omega) (by omega), w64 (by omega) (by omega), ratioOf_eq F _ _ (by omega) (by omega) (by omega) (by omega) (by omega) (by omega), if_neg (by omega)]
    rfl
end Go.Proofs.Ytdkmepeolmdccaa

/- What the functional texts of package ratio answer. -/
import Derived.Test.YtkfmedmanhcdeaaDef
import Derived.Test.YtkfmedmanhcdeaaPure
set_option linter.unusedVariables false
set_option linter.unusedSimpArgs false
namespace Go.Proofs.Ytkfmedmanhcdeaa
open Go.Am

theorem maxI_abs (a : Int) (h : -9223372036854775807 ≤ a) (h2 : a ≤ 9223372036854775807) : maxI a (wrapA .i64 (0 - a)) = (a.natAbs : Int) := by
  rw [w64 (by omega) (by omega)]
  unfold maxI
  split <;> omega

theorem gcdLoop (F : Nat) : ∀ (b a G : Nat), b < G → iter (F104_l0 F) G ((a : Int), (b : Int)) = some ((Nat.gcd a b : Nat) : Int) := by
  intro b
  induction b using Nat.strongRecOn with
  | _ b ih =>
    intro a G hG
    obtain ⟨G, rfl⟩ : ∃ q, G = q + 1 := ⟨G - 1, by omega⟩
    by_cases h0 : b = 0
    · subst h0
      refine iter_stop ?_
      unfold F104_l0
      simp
    · have hs : F104_l0 F ((a : Int), (b : Int)) = some (.more ((b : Int), ((a % b : Nat) : Int))) := by
        unfold F104_l0
        simp only
        rw [if_pos (decide_eq_true (by omega))]
        unfold rem?
        rw [if_neg (by omega), tmod_nat]
        rfl
      rw [iter_more hs, ih (a % b) (Nat.mod_lt _ (by omega)) b G (by have := Nat.mod_lt a (by omega : 0 < b); omega)]
      rw [Nat.gcd_comm b (a % b), ← Nat.gcd_rec, Nat.gcd_comm b a]
theorem gcd_eq (F : Nat) (p q : Int) (h : -9223372036854775807 ≤ p) (h2 : p ≤ 9223372036854775807) (hq : 0 ≤ q) (hF : q.natAbs < F) : F104 F p q = some ((Nat.gcd p.natAbs q.natAbs : Nat) : Int) := by
  unfold F104
  rw [maxI_abs p h h2]
  have := gcdLoop F q.natAbs p.natAbs F hF
  rw [show ((q.natAbs : Nat) : Int) = q from by omega] at this
  rw [this]; rfl
theorem common_eq : ∀ (F : Nat) (p q : Int), -9223372036854775807 ≤ p → p ≤ 9223372036854775807 → -9223372036854775807 ≤ q → q ≤ 9223372036854775807 → q.natAbs < F → F103 F p q = some ((Nat.gcd p.natAbs q.natAbs : Nat) : Int)
  | 0, _, _, _, _, _, _, h => by omega
  | F + 1, p, q, h1, h2, h3, h4, h => by
    rw [F103]
    try dsimp only
    rw [maxI_abs p h1 h2, maxI_abs q h3 h4]
    by_cases h0 : q.natAbs = 0
    · rw [if_pos (by simp [h0])]
      simp [h0]
    · rw [if_neg (by simpa using h0)]
      unfold rem?
      rw [if_neg (by omega), tmod_nat]
      have hm := Nat.mod_lt p.natAbs (by omega : 0 < q.natAbs)
      simp only [Option.bind_some]
      rw [common_eq F _ _ (by omega) (by omega) (by omega) (by omega) (by rw [Int.natAbs_natCast]; omega)]
      simp only [Option.bind_some, Int.natAbs_natCast]
      rw [Nat.gcd_comm _ (_ % _), ← Nat.gcd_rec, Nat.gcd_comm]

/-- Lowest terms, of a q above 0. -/
def lowS (p q : Int) : (Int × Int) × Int :=
  let g : Int := (Nat.gcd p.natAbs q.natAbs : Nat)
  if q.tdiv g > 1000000000 ∨ p.tdiv g < -1000000000 ∨ p.tdiv g > 1000000000 then ((0, 0), 2) else ((p.tdiv g, q.tdiv g), 0)

theorem tdiv_abs (p : Int) (g : Nat) (hg : 0 < g) : -(p.natAbs : Int) ≤ p.tdiv g ∧ p.tdiv g ≤ p.natAbs := by
  have h := Int.natAbs_tdiv_le_natAbs p g
  omega

theorem low_eq (F : Nat) (p q : Int) (h : -9223372036854775807 ≤ p) (h2 : p ≤ 9223372036854775807) (hq : 0 < q) (hq2 : q ≤ 9223372036854775807) (hF : q.natAbs < F) : F101 F p q = some (lowS p q) := by
  unfold F101
  rw [gcd_eq F p q h h2 (by omega) hF]
  have hg : 0 < Nat.gcd p.natAbs q.natAbs := Nat.gcd_pos_of_pos_right _ (by omega)
  have hp := tdiv_abs p _ hg
  have hq' := tdiv_abs q _ hg
  simp only [Option.bind_some, quo?]
  rw [if_neg (by omega), if_neg (by omega)]
  simp only [Option.bind_some]
  rw [w64 (by omega) (by omega), w64 (by omega) (by omega)]
  unfold lowS
  simp only
  by_cases hc : q.tdiv ((Nat.gcd p.natAbs q.natAbs : Nat) : Int) > 1000000000 ∨ p.tdiv ((Nat.gcd p.natAbs q.natAbs : Nat) : Int) < -1000000000 ∨ p.tdiv ((Nat.gcd p.natAbs q.natAbs : Nat) : Int) > 1000000000
  · rw [if_pos hc, if_pos (by simp only [Bool.or_eq_true, decide_eq_true_eq]; omega)]
  · rw [if_neg hc, if_neg (by simp only [Bool.or_eq_true, decide_eq_true_eq]; omega)]

theorem ratioOf_eq (F : Nat) (p q : Int) (h : -9223372036854775807 ≤ p) (h2 : p ≤ 9223372036854775807) (hq : q ≠ 0) (hq1 : -9223372036854775807 ≤ q) (hq2 : q ≤ 9223372036854775807) (hF : q.natAbs < F) :
    F50 F p q = some (if q < 0 then lowS (-p) (-q) else lowS p q) := by
  unfold F50
  rw [common_eq F p q h h2 hq1 hq2 hF]
  have hg : 0 < Nat.gcd p.natAbs q.natAbs := Nat.gcd_pos_of_pos_right _ (by omega)
  have hgq : Nat.gcd p.natAbs q.natAbs ≤ q.natAbs := Nat.gcd_le_right _ (by omega)
  have hp := tdiv_abs p _ hg
  have hq' := tdiv_abs q _ hg
  simp only [Option.bind_some]
  by_cases hneg : q < 0
  · rw [if_pos (decide_eq_true hneg), w64 (by omega) (by omega), if_pos hneg]
    simp only [Option.bind_some, quo?]
    rw [if_neg (by omega), if_neg (by omega)]
    simp only [Option.bind_some]
    rw [Int.zero_sub, Int.tdiv_neg, Int.tdiv_neg, w64 (by omega) (by omega), w64 (by omega) (by omega)]
    unfold lowS maxI
    simp only [Int.natAbs_neg, Int.neg_tdiv]
    rw [w64 (by omega) (by omega)]
    generalize p.tdiv ((Nat.gcd p.natAbs q.natAbs : Nat) : Int) = a at hp ⊢
    generalize q.tdiv ((Nat.gcd p.natAbs q.natAbs : Nat) : Int) = b at hq' ⊢
    by_cases hc : -b > 1000000000 ∨ -a < -1000000000 ∨ -a > 1000000000
    · rw [if_pos hc, if_pos (by simp only [Bool.or_eq_true, decide_eq_true_eq]; split <;> omega)]
    · rw [if_neg hc, if_neg (by simp only [Bool.or_eq_true, decide_eq_true_eq]; split <;> omega)]
  · rw [if_neg (by rw [decide_eq_true_eq]; omega), if_neg hneg]
    simp only [Option.bind_some, quo?]
    rw [if_neg (by omega), if_neg (by omega)]
    simp only [Option.bind_some]
    rw [w64 (by omega) (by omega), w64 (by omega) (by omega)]
    unfold lowS maxI
    simp only
    rw [w64 (by omega) (by omega)]
    generalize p.tdiv ((Nat.gcd p.natAbs q.natAbs : Nat) : Int) = a at hp ⊢
    generalize q.tdiv ((Nat.gcd p.natAbs q.natAbs : Nat) : Int) = b at hq' ⊢
    by_cases hc : b > 1000000000 ∨ a < -1000000000 ∨ a > 1000000000
    · rw [if_pos hc, if_pos (by simp only [Bool.or_eq_true, decide_eq_true_eq]; split <;> omega)]
    · rw [if_neg hc, if_neg (by simp only [Bool.or_eq_true, decide_eq_true_eq]; split <;> omega)]

theorem low_fine (p q : Int) (hq : 0 < q) (hq2 : q ≤ 1000000000) (h1 : -1000000000 ≤ p) (h2 : p ≤ 1000000000) : (lowS p q).2 = 0 := by
  have hg : 0 < Nat.gcd p.natAbs q.natAbs := Nat.gcd_pos_of_pos_right _ (by omega)
  have hp := tdiv_abs p _ hg
  have hq' := tdiv_abs q _ hg
  unfold lowS
  simp only
  rw [if_neg (by omega)]

def RG (x : Int × Int) : Prop := 1 ≤ x.2 ∧ x.2 ≤ 1000000000 ∧ -1000000000 ≤ x.1 ∧ x.1 ≤ 1000000000
instance (x : Int × Int) : Decidable (RG x) := inferInstanceAs (Decidable (_ ∧ _ ∧ _ ∧ _))
def rchk (x : Int × Int) : Int := if RG x then (if Nat.gcd x.1.natAbs x.2.natAbs = 1 then 0 else 3) else 1
theorem rchk_rg {x : Int × Int} (h : rchk x = 0) : RG x := by
  unfold rchk at h
  split at h
  · assumption
  · cases h
theorem rcheck_eq (F : Nat) (x : Int × Int) (hF : 1000000001 ≤ F) : F47 F x = some (rchk x) := by
  unfold F47 rchk
  by_cases h : RG x
  · have h' := h
    obtain ⟨h1, h2, h3, h4⟩ := h'
    rw [if_pos h, if_neg (by simp only [Bool.or_eq_true, decide_eq_true_eq]; omega), gcd_eq F x.1 x.2 (by omega) (by omega) (by omega) (by omega)]
    simp only [Option.bind_some]
    by_cases hg : Nat.gcd x.1.natAbs x.2.natAbs = 1
    · rw [if_pos hg, if_neg (by simp [hg])]
    · rw [if_neg hg, if_pos (by simp only [bne_iff_ne, ne_eq]; omega)]
  · rw [if_neg h, if_pos (by unfold RG at h; simp only [Bool.or_eq_true, decide_eq_true_eq]; omega)]
theorem ratioErr_eq (F : Nat) (x : Int × Int) (hF : 1000000001 ≤ F) : F46 F x = some (rchk x) := by
  unfold F46 rchk
  by_cases h : RG x
  · have h' := h
    obtain ⟨h1, h2, h3, h4⟩ := h'
    rw [if_pos h, if_neg (by simp only [Bool.or_eq_true, decide_eq_true_eq]; omega), common_eq F x.1 x.2 (by omega) (by omega) (by omega) (by omega) (by omega)]
    simp only [Option.bind_some]
    by_cases hg : Nat.gcd x.1.natAbs x.2.natAbs = 1
    · rw [if_pos hg, if_neg (by simp [hg])]
    · rw [if_neg hg, if_pos (by simp only [bne_iff_ne, ne_eq]; omega)]
  · rw [if_neg h, if_pos (by unfold RG at h; simp only [Bool.or_eq_true, decide_eq_true_eq]; omega)]
def bchk (x y : Int × Int) : Int := if rchk x = 0 then rchk y else rchk x
theorem both_eq (F : Nat) (x y : Int × Int) (hF : 1000000001 ≤ F) : F102 F x y = some (bchk x y) := by
  unfold F102 bchk
  rw [rcheck_eq F _ hF, rcheck_eq F _ hF]
  simp only [Option.bind_some]
  by_cases h : rchk x = 0
  · rw [if_pos h, if_neg (by simpa using h)]
  · rw [if_neg h, if_pos (by simpa using h)]

theorem mulR {a b : Int} (ha : -1000000000 ≤ a) (ha' : a ≤ 1000000000) (hb : -1000000000 ≤ b) (hb' : b ≤ 1000000000) : -1000000000000000000 ≤ a * b ∧ a * b ≤ 1000000000000000000 := by
  have h : (a * b).natAbs ≤ 1000000000 * 1000000000 := by
    rw [Int.natAbs_mul]; exact Nat.mul_le_mul (by omega) (by omega)
  omega
theorem mulP {a b : Int} (ha : 0 < a) (hb : 0 < b) : 0 < a * b := Int.mul_pos ha hb

theorem make_eq (F : Nat) (p q : Int) (hF : 1000000001 ≤ F) : F40 F p q = some (if p < -1000000000 ∨ p > 1000000000 ∨ q < -1000000000 ∨ q > 1000000000 then ((0, 0), 1) else if q = 0 then ((0, 0), 5) else if q < 0 then lowS (-p) (-q) else lowS p q) := by
  unfold F40
  by_cases h : p < -1000000000 ∨ p > 1000000000 ∨ q < -1000000000 ∨ q > 1000000000
  · rw [if_pos h, if_pos (by simp only [Bool.or_eq_true, decide_eq_true_eq]; omega)]
  · rw [if_neg h, if_neg (by simp only [Bool.or_eq_true, decide_eq_true_eq]; omega)]
    by_cases h0 : q = 0
    · rw [if_pos h0, if_pos (by simpa using h0)]
    · rw [if_neg h0, if_neg (by simpa using h0)]
      by_cases hn : q < 0
      · rw [if_pos hn, if_pos (decide_eq_true hn), w64 (by omega) (by omega), w64 (by omega) (by omega), Int.zero_sub, Int.zero_sub, low_eq F (-p) (-q) (by omega) (by omega) (by omega) (by omega) (by omega)]
        rfl
      · rw [if_neg hn, if_neg (by rw [decide_eq_true_eq]; omega), low_eq F p q (by omega) (by omega) (by omega) (by omega) (by omega)]
        rfl

theorem PratioSays.holds (t0 : Int) (t1 : Int) (t2 : (Int) × (Int)) (t3 : (Int) × (Int)) (h0 : inR .i64 t0) (h1 : inR .i64 t1) (h2 : (inR .i64 t2.1 ∧ inR .i64 t2.2)) (h3 : (inR .i64 t3.1 ∧ inR .i64 t3.2)) : ∃ F, F8 F t0 t1 t2 t3 = some true := by
  refine ⟨10000000000000000000, ?_⟩
  generalize hFd : 10000000000000000000 = F
  have hF : F = 10000000000000000000 := hFd.symm
  clear hFd
  have hF1 : 1000000001 ≤ F := by omega
  obtain ⟨x, y⟩ := t2
  obtain ⟨z, w⟩ := t3
  have e9 := make_eq F t0 t1 hF1
  have eb := both_eq F (x, y) (z, w) hF1
  have e78 := ratioErr_eq F (x, y) hF1
  have e82 := rcheck_eq F (x, y) hF1
  have e88 := ratioErr_eq F (z, w) hF1
  -- the middle: Make
  obtain ⟨r9, e9', hmid⟩ : ∃ r9, F40 F t0 t1 = some r9 ∧ (if ((decide ((maxI t0 t1) > 1000000000)) || (decide ((minI t0 t1) < (-1000000000)))) = true then
      (if ((r9.2 != 1) || (!(r9.1.1 == 0 && (r9.1.2 == 0 && true)))) = true then some (Sum.inr false) else some (Sum.inl ()))
      else if (t1 == 0) = true then (if ((r9.2 != 5) || (!(r9.1.1 == 0 && (r9.1.2 == 0 && true)))) = true then some (Sum.inr false) else some (Sum.inl ()))
      else (if (r9.2 != 0) = true then some true else (F45 F t0 t1).bind fun r60 => some (!(r9.1.1 == r60.1 && (r9.1.2 == r60.2 && true)))).bind fun y65 => if y65 = true then some (Sum.inr false) else some (Sum.inl ())) = some (Sum.inl () : Unit ⊕ Bool) := by
    refine ⟨_, e9, ?_⟩
    by_cases h : t0 < -1000000000 ∨ t0 > 1000000000 ∨ t1 < -1000000000 ∨ t1 > 1000000000
    · rw [if_pos h, if_pos (by simp only [Bool.or_eq_true, decide_eq_true_eq]; unfold maxI minI; split <;> split <;> omega)]
      rfl
    · rw [if_neg h, if_neg (by simp only [Bool.or_eq_true, decide_eq_true_eq]; unfold maxI minI; split <;> split <;> omega)]
      by_cases hz : t1 = 0
      · rw [if_pos hz, if_pos (by simpa using hz)]; rfl
      · rw [if_neg hz, if_neg (by simpa using hz)]
        unfold F45
        rw [ratioOf_eq F t0 t1 (by omega) (by omega) hz (by omega) (by omega) (by omega)]
        by_cases hn : t1 < 0
        · have := low_fine (-t0) (-t1) (by omega) (by omega) (by omega) (by omega)
          rw [if_pos hn]
          simp [this]
        · have := low_fine t0 t1 (by omega) (by omega) (by omega) (by omega)
          rw [if_neg hn]
          simp [this]
  unfold F8
  unfold F41 F42 F43 F44
  simp only
  rw [e9', eb]
  simp only [Option.bind_some]
  by_cases hb : bchk (x, y) (z, w) = 0
  · have hx : rchk (x, y) = 0 := by
      unfold bchk at hb
      split at hb
      · assumption
      · exact hb
    have hz : rchk (z, w) = 0 := by unfold bchk at hb; rwa [if_pos hx] at hb
    have gx := rchk_rg hx
    have gz := rchk_rg hz
    obtain ⟨gx1, gx2, gx3, gx4⟩ := gx
    obtain ⟨gz1, gz2, gz3, gz4⟩ := gz
    simp only at gx1 gx2 gx3 gx4 gz1 gz2 gz3 gz4
    have m1 := mulR gx3 gx4 (by omega : -1000000000 ≤ w) gz2
    have m2 := mulR gz3 gz4 (by omega : -1000000000 ≤ y) gx2
    have m3 := mulR (by omega : -1000000000 ≤ y) gx2 (by omega : -1000000000 ≤ w) gz2
    have m4 := mulR gx3 gx4 gz3 gz4
    have m5 := mulR (by omega : -1000000000 ≤ y) gx2 gz3 gz4
    have p3 := mulP (by omega : 0 < y) (by omega : 0 < w)
    have ec : z * y = y * z := Int.mul_comm _ _
    have w1 : wrapA .i64 (x * w) = x * w := w64 (by omega) (by omega)
    have w2 : wrapA .i64 (z * y) = y * z := by rw [ec]; exact w64 (by omega) (by omega)
    have w2' : wrapA .i64 (y * z) = y * z := w64 (by omega) (by omega)
    have w3 : wrapA .i64 (y * w) = y * w := w64 (by omega) (by omega)
    have w4 : wrapA .i64 (x * z) = x * z := w64 (by omega) (by omega)
    have w5 : wrapA .i64 (x * w + y * z) = x * w + y * z := w64 (by omega) (by omega)
    have eA := low_eq F (x * w + y * z) (y * w) (by omega) (by omega) p3 (by omega) (by omega)
    have eM := low_eq F (x * z) (y * w) (by omega) (by omega) p3 (by omega) (by omega)
    have rA := ratioOf_eq F (x * w + y * z) (y * w) (by omega) (by omega) (by omega) (by omega) (by omega) (by omega)
    have rM := ratioOf_eq F (x * z) (y * w) (by omega) (by omega) (by omega) (by omega) (by omega) (by omega)
    rw [if_neg (by omega)] at rA rM
    obtain ⟨rD, eD, hD⟩ : ∃ rD, (if (z == 0) = true then some (((0 : Int), (0 : Int)), (5 : Int)) else if decide (y * z < 0) = true then
        (F101 F (wrapA .i64 (0 - x * w)) (wrapA .i64 (0 - y * z))).bind fun r24 => some ((r24.1.1, r24.1.2), r24.2)
        else (F101 F (x * w) (y * z)).bind fun r30 => some ((r30.1.1, r30.1.2), r30.2)) = some rD ∧
        (if (z == 0) = true then some (rD.2 == 5 && (rD.1.1 == 0 && (rD.1.2 == 0 && true))) else
          (F50 F (x * w) (y * z)).bind fun r133 => some (rD.2 == r133.2 && (rD.1.1 == r133.1.1 && (rD.1.2 == r133.1.2 && true)))) = some true := by
      by_cases z0 : z = 0
      · subst z0; exact ⟨_, rfl, rfl⟩
      · have hyz : y * z ≠ 0 := Int.mul_ne_zero (by omega) z0
        have rD := ratioOf_eq F (x * w) (y * z) (by omega) (by omega) hyz (by omega) (by omega) (by omega)
        have hz0 : (z == 0) = false := by simpa using z0
        simp only [hz0, Bool.false_eq_true, if_false]
        by_cases hn : y * z < 0
        · have eD := low_eq F (-(x * w)) (-(y * z)) (by omega) (by omega) (by omega) (by omega) (by omega)
          rw [if_pos (decide_eq_true hn), Int.zero_sub, Int.zero_sub, w64 (by omega) (by omega), w64 (by omega) (by omega), eD]
          refine ⟨_, rfl, ?_⟩
          rw [rD, if_pos hn]
          simp
        · have eD := low_eq F (x * w) (y * z) (by omega) (by omega) (by omega) (by omega) (by omega)
          rw [if_neg (by rw [decide_eq_true_eq]; exact hn), eD]
          refine ⟨_, rfl, ?_⟩
          rw [rD, if_neg hn]
          simp
    rw [hb]
    simp only [bne_self_eq_false, Bool.false_eq_true, if_false, w1, w2, w2', w3, w4, w5, eA, eM, Option.bind_some]
    rw [eD]
    simp only [Option.bind_some]
    rw [hmid]
    simp only [Option.bind_some, e78, e82, e88, hx, hz, bne_self_eq_false, Bool.false_eq_true, if_false, beq_self_eq_true, if_true]
    unfold F48 F49
    simp only [w1, w2, w2', w3, w4, w5, rA, rM, Option.bind_some]
    rw [if_neg (by simp)]
    exact hD
  · have hb' : (if (rchk (x, y) == 0) = true then (F46 F (z, w)).bind fun r88 => some r88 else some (rchk (x, y))) = some (bchk (x, y) (z, w)) := by
      unfold bchk
      by_cases hx : rchk (x, y) = 0
      · rw [if_pos (by simpa using hx), if_pos hx, e88]; rfl
      · rw [if_neg (by simpa using hx), if_neg hx]
    rw [if_pos (by simpa using hb), if_pos (by simpa using hb), if_pos (by simpa using hb), if_pos (by simpa using hb)]
    simp only [Option.bind_some]
    rw [hmid]
    simp only [Option.bind_some, e78, e82, bne_self_eq_false, Bool.false_eq_true, if_false]
    rw [hb']
    simp only [Option.bind_some]
    rw [if_pos (by simpa using hb)]
    simp
end Go.Proofs.Ytkfmedmanhcdeaa

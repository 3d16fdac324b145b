/- What the functional texts of package event answer. -/
import Derived.Test.YtdkmepeolmdccaaRatioLib
set_option linter.unusedVariables false
set_option linter.unusedSimpArgs false
namespace Go.Proofs.Ytdkmepeolmdccaa
open Go.Am

/-! ### Cases -/
def wBad (x : Int) : Bool := decide (x < 1) || decide (x > 100)
def sBad (n : Nat) (s : Int) : Bool := decide ((2 ^ n : Nat) ≤ s)
def casesE (w l : List Int) : Int := if w.length = 0 ∨ 12 < w.length then 2 else if w.any wBad then 1 else if l.any (sBad w.length) then 3 else 0
theorem shl64e (n : Nat) (hn : n ≤ 16) : shl? .i64 1 (n : Int) = some ((2 ^ n : Nat) : Int) := by
  have hp : 2 ^ n ≤ 65536 := Nat.pow_le_pow_right (n := 2) (by omega) hn
  unfold shl?
  rw [if_neg (by omega), show ((n : Int).toNat) = n from rfl, Nat.min_eq_left (by show n ≤ 64; omega), Int.one_mul, show ((2 : Int) ^ n) = ((2 ^ n : Nat) : Int) by simp, w64 (Int.le_trans (by decide) (Int.natCast_nonneg _)) (Int.ofNat_le.2 (by omega : 2 ^ n ≤ 9223372036854775807))]
theorem shl16e (b : Nat) (hb : b < 16) : shl? .u16 1 (b : Int) = some ((2 ^ b : Nat) : Int) := by
  have hp : 2 ^ b ≤ 32768 := Nat.pow_le_pow_right (n := 2) (by omega) (by omega : b ≤ 15)
  unfold shl?
  rw [if_neg (by omega), show ((b : Int).toNat) = b from rfl, Nat.min_eq_left (by show b ≤ 16; omega), Int.one_mul, show ((2 : Int) ^ b) = ((2 ^ b : Nat) : Int) by simp, wu16 (Int.natCast_nonneg _) (Int.ofNat_le.2 (by omega : 2 ^ b ≤ 65535))]
theorem cases_both (F : Nat) (w l : List Int) (hl : ∀ x ∈ l, inR .u16 x) (hm : l.length ≤ maxLen) (hF : 20 ≤ F) (hF2 : l.length < F) : F19 F w l = some (casesE w l) ∧ F20 F w l = some (casesE w l) := by
  have hml : l.length ≤ 9223372036854775807 := hm
  unfold F19 F20 casesE
  by_cases h : w.length = 0 ∨ 12 < w.length
  · rw [if_pos h, if_pos (by rw [Bool.or_eq_true, decide_eq_true_eq, decide_eq_true_eq]; omega), if_pos (by rw [Bool.or_eq_true, beq_iff_eq, decide_eq_true_eq]; omega)]
    exact ⟨rfl, rfl⟩
  · have c1 : ¬ ((decide ((w.length : Int) < 1) || decide ((w.length : Int) > 12)) = true) := by rw [Bool.or_eq_true, decide_eq_true_eq, decide_eq_true_eq]; omega
    have c2 : ¬ (((w.length : Int) == 0 || decide ((w.length : Int) > 12)) = true) := by rw [Bool.or_eq_true, beq_iff_eq, decide_eq_true_eq]; omega
    rw [if_neg h, if_neg c1, if_neg c2]
    -- weights
    have l0 : iter (F19_l0 F w) F 0 = some (if w.any wBad then .inr 1 else .inl ()) := by
      refine any_loop w wBad 1 ?_ ?_ (by omega)
      · intro i hi
        unfold F19_l0
        rw [if_pos (decide_eq_true (by omega)), at?_in hi, Option.bind_some, wsuc (by omega)]
        exact ite_some _ _
      · unfold F19_l0
        rw [if_neg (by simp)]
    have cf1 : F96_111 F w = some (w.any wBad) := by
      have hs : ∀ (i : Nat) (h : i < w.length), F155_111_l0 F w (i : Int) = some (if wBad w[i] then .stop (.inr (i : Int)) else .more ((i + 1 : Nat) : Int)) := by
        intro i hi
        unfold F155_111_l0 F111
        rw [if_pos (decide_eq_true (by omega)), at?_in hi, Option.bind_some, Option.bind_some, wsuc (by omega)]
        exact ite_some _ _
      have he : F155_111_l0 F w (w.length : Int) = some (.stop (.inl ())) := by
        unfold F155_111_l0
        rw [if_neg (by simp)]
      unfold F96_111 F155_111
      rcases find_loop w wBad (fun i _ => (i : Int)) hs he (by omega : w.length < F) with ⟨q1, q2⟩ | ⟨i, h, q1, _, q2⟩
      · rw [q2, any_none q1]; rfl
      · rw [q2, any_of_first h q1]; simp
    -- sets
    have hp : 2 ^ w.length ≤ 4096 := Nat.pow_le_pow_right (n := 2) (by omega) (by omega : w.length ≤ 12)
    have l1 : iter (F19_l1 F w l) F 0 = some (if l.any (sBad w.length) then .inr 3 else .inl ()) := by
      refine any_loop l (sBad w.length) 3 ?_ ?_ hF2
      · intro i hi
        have hx := inR16 (hl l[i] (List.getElem_mem hi))
        obtain ⟨s, hs⟩ : ∃ s : Nat, l[i] = s := ⟨l[i].toNat, by omega⟩
        unfold F19_l1
        rw [if_pos (decide_eq_true (by omega)), at?_in hi, Option.bind_some, hs, shr_nat s w.length (by show w.length ≤ 16; omega), Option.bind_some, wsuc (by omega)]
        have hb : sBad w.length (s : Int) = ((((s / 2 ^ w.length : Nat) : Int)) != 0) := by
          unfold sBad
          by_cases q : 2 ^ w.length ≤ s
          · have := Nat.div_pos q (Nat.two_pow_pos w.length)
            rw [decide_eq_true (Int.ofNat_le.2 q)]
            symm; rw [bne_iff_ne]; exact Int.ne_of_gt (Int.ofNat_lt.2 this)
          · rw [Nat.div_eq_of_lt (by omega), decide_eq_false (by omega)]; rfl
        rw [hb]
        exact ite_some _ _
      · unfold F19_l1
        rw [if_neg (by simp)]
    have cf2 : F112_113 F l w = some (l.any (sBad w.length)) := by
      have hs : ∀ (i : Nat) (h : i < l.length), F161_113_l0 F l w (i : Int) = some (if sBad w.length l[i] then .stop (.inr (i : Int)) else .more ((i + 1 : Nat) : Int)) := by
        intro i hi
        have hx := inR16 (hl l[i] (List.getElem_mem hi))
        unfold F161_113_l0 F113
        rw [if_pos (decide_eq_true (by omega)), at?_in hi, Option.bind_some, shl64e w.length (by omega), Option.bind_some, Option.bind_some, w64 (by omega) (by omega), wsuc (by omega)]
        exact ite_some _ _
      have he : F161_113_l0 F l w (l.length : Int) = some (.stop (.inl ())) := by
        unfold F161_113_l0
        rw [if_neg (by simp)]
      unfold F112_113 F161_113
      rcases find_loop l (sBad w.length) (fun i _ => (i : Int)) hs he hF2 with ⟨q1, q2⟩ | ⟨i, h, q1, _, q2⟩
      · rw [q2, any_none q1]; rfl
      · rw [q2, any_of_first h q1]; simp
    rw [l0, cf1, Option.bind_some, Option.bind_some]
    cases w.any wBad with
    | true => exact ⟨rfl, rfl⟩
    | false =>
      simp only [Bool.false_eq_true, if_false]
      rw [l1, cf2, Option.bind_some, Option.bind_some]
      cases l.any (sBad w.length) <;> exact ⟨rfl, rfl⟩

structure GW (w : List Int) : Prop where
  l1 : 1 ≤ w.length
  l12 : w.length ≤ 12
  rng : ∀ i, i < w.length → 1 ≤ nx 0 w i ∧ nx 0 w i ≤ 100
theorem casesE_ok {w l : List Int} (h : casesE w l = 0) : GW w ∧ ∀ x ∈ l, x < (2 ^ w.length : Nat) := by
  unfold casesE at h
  split at h
  · cases h
  · split at h
    · cases h
    · split at h
      · cases h
      · rename_i h1 h2 h3
        refine ⟨⟨by omega, by omega, fun i hi => ?_⟩, fun x hx => ?_⟩
        · have : ¬ wBad (nx 0 w i) = true := fun hc => h2 (List.any_eq_true.2 ⟨_, nx_mem hi, hc⟩)
          simp only [wBad, Bool.or_eq_true, decide_eq_true_eq] at this
          omega
        · have : ¬ sBad w.length x = true := fun hc => h3 (List.any_eq_true.2 ⟨x, hx, hc⟩)
          simp only [sBad, decide_eq_true_eq] at this
          omega
theorem casesE_of {w l : List Int} (g : GW w) (h : ∀ x ∈ l, x < (2 ^ w.length : Nat)) : casesE w l = 0 := by
  have h1 := g.l1
  have h12 := g.l12
  unfold casesE
  rw [if_neg (by omega), if_neg, if_neg]
  · intro hc
    obtain ⟨x, hx, hx2⟩ := List.any_eq_true.1 hc
    have := h x hx
    simp only [sBad, decide_eq_true_eq] at hx2
    omega
  · intro hc
    obtain ⟨x, hx, hx2⟩ := List.any_eq_true.1 hc
    obtain ⟨i, hi, rfl⟩ := nx_of (d := 0) hx
    have := g.rng i hi
    simp only [wBad, Bool.or_eq_true, decide_eq_true_eq] at hx2
    omega

/-! ### Weights of sets -/
def bt (s i : Nat) : Nat := s / 2 ^ i % 2
theorem bt_bit (s i : Nat) : bt s i = (s.testBit i).toNat := (Nat.toNat_testBit s i).symm
theorem bt_le (s i : Nat) : bt s i ≤ 1 := by unfold bt; omega
def hw (w : List Int) (s : Nat) : Int := sm w.length fun i => nx 0 w i * (bt s i : Int)
theorem term_le {w : List Int} (g : GW w) {i : Nat} (hi : i < w.length) (s : Nat) : 0 ≤ nx 0 w i * (bt s i : Int) ∧ nx 0 w i * (bt s i : Int) ≤ 100 := by
  have h1 := g.rng i hi
  have h2 := bt_le s i
  rcases (show bt s i = 0 ∨ bt s i = 1 by omega) with e | e <;> rw [e] <;> simp <;> omega
theorem hw_le {w : List Int} (g : GW w) (s : Nat) : 0 ≤ hw w s ∧ hw w s ≤ 1200 := by
  have h12 := g.l12
  have := sm_bound (f := fun i => nx 0 w i * (bt s i : Int)) (k := w.length) (B := 100) fun i hi => term_le g hi s
  unfold hw; omega
theorem shr_bit (s i : Nat) (hs : s < 65536) (hi : i ≤ 16) : shr? .u16 (s : Int) (i : Int) = some ((s / 2 ^ i : Nat) : Int) ∧ bit .and .u16 ((s / 2 ^ i : Nat) : Int) 1 = (bt s i : Int) := by
  refine ⟨shr_nat s i (by show i ≤ 16; omega), ?_⟩
  have h2 : s / 2 ^ i < 65536 := Nat.lt_of_le_of_lt (Nat.div_le_self _ _) hs
  rw [show (1 : Int) = ((1 : Nat) : Int) from rfl, and_nat h2 (by omega), Nat.and_one_is_mod]; rfl
theorem weight_eq (F : Nat) (w : List Int) (s : Nat) (g : GW w) (hs : s < 65536) (hF : 20 ≤ F) : F110 F w s = some (hw w s) := by
  have h12 := g.l12
  unfold F110
  have := iter_count (step := F110_l0 F w s) (F := F) (fun k => (sm k (fun i => nx 0 w i * (bt s i : Int)), (k : Int))) (b := hw w s) w.length ?_ ?_ (by omega)
  · have this' : iter (F110_l0 F w s) F (0, 0) = some (hw w s) := this
    rw [this']; rfl
  · intro i hi
    have h1 := sm_bound (f := fun i => nx 0 w i * (bt s i : Int)) (k := i) (B := 100) fun j hj => term_le g (by omega) s
    have h2 := g.rng i hi
    obtain ⟨q1, q2⟩ := shr_bit s i hs (by omega)
    unfold F110_l0
    dsimp only
    rw [if_pos (decide_eq_true (by omega)), nx_get (d := 0) hi, Option.bind_some, q1, Option.bind_some, q2, wsuc (by omega), sm_succ]
    rcases (show bt s i = 0 ∨ bt s i = 1 by have := bt_le s i; omega) with e | e
    · rw [e, if_neg (by decide)]; simp
    · rw [e, if_pos (by decide), w64 (by omega) (by omega)]; simp
  · unfold F110_l0
    dsimp only
    rw [if_neg (by simp)]
    rfl
theorem heavy_eq (F : Nat) (w : List Int) (s : Nat) (g : GW w) (hs : s < 65536) (hF : 20 ≤ F) : F22 F w s = some (hw w s) := by
  have h12 := g.l12
  unfold F22
  have := iter_count (step := F22_l0 F w s) (F := F) (fun k => (sm k (fun i => nx 0 w i * (bt s i : Int)), (k : Int))) (b := hw w s) w.length ?_ ?_ (by omega)
  · have this' : iter (F22_l0 F w s) F (0, 0) = some (hw w s) := this
    rw [this']; rfl
  · intro i hi
    have h1 := sm_bound (f := fun i => nx 0 w i * (bt s i : Int)) (k := i) (B := 100) fun j hj => term_le g (by omega) s
    have h2 := term_le g hi s
    have h3 := bt_le s i
    obtain ⟨q1, q2⟩ := shr_bit s i hs (by omega)
    unfold F22_l0
    dsimp only
    rw [if_pos (decide_eq_true (by omega)), nx_get (d := 0) hi, Option.bind_some, q1, Option.bind_some, q2, wsuc (by omega), sm_succ, wnat (a := bt s i) (by omega), w64 (a := nx 0 w i * (bt s i : Int)) (by omega) (by omega), w64 (by omega) (by omega)]
  · unfold F22_l0
    dsimp only
    rw [if_neg (by simp)]
    rfl
theorem hw_full {w : List Int} : hw w (2 ^ w.length - 1) = sm w.length (nx 0 w) := by
  unfold hw
  exact sm_congr fun i hi => by rw [bt_bit, Nat.testBit_two_pow_sub_one, decide_eq_true hi]; simp
theorem hw_pos {w : List Int} (g : GW w) {s : Nat} (h0 : 0 < s) (hs : s < 2 ^ w.length) : 0 < hw w s := by
  have hle := hw_le g s
  rcases Int.lt_or_le 0 (hw w s) with h | h
  · exact h
  · exfalso
    have hz : ∀ i, i < w.length → bt s i = 0 := by
      intro i hi
      have h1 := sm_term (f := fun i => nx 0 w i * (bt s i : Int)) (k := w.length) (fun j hj => (term_le g hj s).1) hi
      have h2 := g.rng i hi
      rcases (show bt s i = 0 ∨ bt s i = 1 by have := bt_le s i; omega) with e | e
      · exact e
      · simp only [e] at h1
        unfold hw at h
        simp at h1; omega
    have : s = 0 := Nat.eq_of_testBit_eq fun i => by
      rw [Nat.zero_testBit]
      by_cases hi : i < w.length
      · have := hz i hi
        rw [bt_bit] at this
        cases hb : s.testBit i with
        | false => rfl
        | true => rw [hb] at this; cases this
      · exact Nat.testBit_lt_two_pow (Nat.lt_of_lt_of_le hs (Nat.pow_le_pow_right (by omega) (by omega)))
    omega
theorem T_le {w : List Int} (g : GW w) : 1 ≤ sm w.length (nx 0 w) ∧ sm w.length (nx 0 w) ≤ 1200 := by
  have h1 := g.l1
  have h12 := g.l12
  have hb := sm_bound (f := nx 0 w) (k := w.length) (B := 100) fun i hi => by have := g.rng i hi; omega
  have ht := sm_term (f := nx 0 w) (k := w.length) (c := 0) (fun i hi => by have := g.rng i hi; omega) (by omega)
  have := g.rng 0 (by omega)
  omega
theorem full_eq (F : Nat) (w : List Int) (g : GW w) (hF : 20 ≤ F) : (shl? .u16 1 (w.length : Int)).bind (fun x20 => F110 F w (wrapA .u16 (x20 - 1))) = some (sm w.length (nx 0 w)) := by
  have h12 := g.l12
  have hp : 2 ^ w.length ≤ 4096 := Nat.pow_le_pow_right (n := 2) (by omega) h12
  have hp0 := Nat.two_pow_pos w.length
  rw [shl16e w.length (by omega), Option.bind_some, show ((2 ^ w.length : Nat) : Int) - 1 = ((2 ^ w.length - 1 : Nat) : Int) from by omega, wu16 (Int.natCast_nonneg _) (Int.ofNat_le.2 (by omega : 2 ^ w.length - 1 ≤ 65535)), weight_eq F w _ g (by omega) hF, hw_full]

/-- A part of the whole. -/
theorem frac (F : Nat) (p q : Int) (hp : 0 ≤ p) (hp2 : p ≤ 1200) (hq : 1 ≤ q) (hq2 : q ≤ 1200) (hF : 1000000000000000001 ≤ F) : ∃ r : Int × Int, F109 F p q = some (r, 0) ∧ F21 F p q = some r := by
  have hf := low_fine p q (by omega) (by omega) (by omega) (by omega)
  refine ⟨(lowS p q).1, ?_, ?_⟩
  · rw [make_eq F _ _ (by omega), if_neg (by omega), if_neg (by omega), if_neg (by omega), ← hf]
  · unfold F21
    rw [ratioOf_eq F _ _ (by omega) (by omega) (by omega) (by omega) (by omega) (by omega), if_neg (by omega)]
    rfl
theorem chance_eq (F : Nat) (w : List Int) (a : Nat) (ha : a < 65536) (hF : 1000000000000000001 ≤ F) (hz : casesE w [(a : Int)] = 0) :
    ∃ r, F15 F w a = some (r, 0) ∧ F21 F (hw w a) (sm w.length (nx 0 w)) = some r := by
  obtain ⟨g, _⟩ := casesE_ok hz
  have hle := hw_le g a
  have hT := T_le g
  obtain ⟨r, q1, q2⟩ := frac F (hw w a) (sm w.length (nx 0 w)) hle.1 hle.2 hT.1 hT.2 hF
  refine ⟨r, ?_, q2⟩
  unfold F15
  rw [(cases_both F w [(a : Int)] (fun x hx => by simp at hx; subst hx; exact ⟨by show (0 : Int) ≤ a; omega, by show (a : Int) ≤ 65535; omega⟩) (by show 1 ≤ maxLen; decide) (by omega) (by simp; omega)).1, hz, Option.bind_some, if_neg (by decide), weight_eq F w a g ha (by omega), Option.bind_some]
  have hfe := full_eq F w g (by omega)
  have h12 := g.l12
  rw [shl16e w.length (by omega), Option.bind_some] at hfe ⊢
  rw [hfe, Option.bind_some, q1]
  rfl

/-! ### At least so many -/
def inN (c : Nat → Bool) : Nat → Nat
  | 0 => 0
  | i + 1 => inN c i + if c i then 2 ^ i else 0
theorem inN_lt (c : Nat → Bool) : ∀ i, inN c i < 2 ^ i
  | 0 => Nat.one_pos
  | i + 1 => by have := inN_lt c i; simp only [inN]; rw [Nat.pow_succ]; split <;> omega
theorem inN_bt (c : Nat → Bool) : ∀ k j, j < k → bt (inN c k) j = if c j then 1 else 0
  | 0, _, h => by omega
  | k + 1, j, h => by
    simp only [inN]
    by_cases e : j = k
    · subst e
      have hb : (inN c j).testBit j = false := Nat.testBit_lt_two_pow (inN_lt c j)
      cases hc : c j with
      | true => simp only [if_true]; rw [Nat.add_comm, bt_bit, Nat.testBit_two_pow_add_eq, hb]; rfl
      | false => simp only [Bool.false_eq_true, if_false, Nat.add_zero]; rw [bt_bit, hb]; rfl
    · have ih := inN_bt c k j (by omega)
      cases hc : c k with
      | true => simp only [if_true]; rw [Nat.add_comm, bt_bit, Nat.testBit_two_pow_add_gt (by omega), ← bt_bit, ih]
      | false => simp only [Bool.false_eq_true, if_false, Nat.add_zero]; exact ih
/-- How many sets have i. -/
def ct (l : List Int) (i : Nat) : Nat → Int := fun k => sm k fun j => (bt (nx 0 l j).toNat i : Int)
theorem ct_le (l : List Int) (i k : Nat) : 0 ≤ ct l i k ∧ ct l i k ≤ k := by
  have := sm_bound (f := fun j => (bt (nx 0 l j).toNat i : Int)) (k := k) (B := 1) fun j _ => by have := bt_le (nx 0 l j).toNat i; omega
  unfold ct; omega
theorem count_eqE (F : Nat) (l : List Int) (i : Nat) (x : Int) (hl : ∀ x ∈ l, inR .u16 x) (hi : i ≤ 16) (h12 : l.length ≤ 12) (hF : 20 ≤ F) :
    iter (F18_l0 F l (x, (i : Int))) F (0, 0) = some (ct l i l.length) ∧ iter (F3_l1 F l (x, (i : Int))) F (0, 0) = some (ct l i l.length) := by
  have key : ∀ step : Int × Int → Option (Stp (Int × Int) Int), (∀ s : Int × Int, step s = if (decide (s.2 < (l.length : Int))) then ((at? l s.2).bind fun x27 => (shr? .u16 x27 (i : Int)).bind fun x29 => some (.more (((wrapA .i64 (s.1 + (wrapA .i64 (bit .and .u16 x29 1)))), (wrapA .i64 (s.2 + 1)))))) else some (.stop s.1)) → iter step F (0, 0) = some (ct l i l.length) := by
    intro step hs
    refine iter_count (step := step) (fun k => (ct l i k, (k : Int))) l.length ?_ ?_ (by omega)
    · intro k hk
      have h1 := ct_le l i k
      have hx := inR16 (hl _ (nx_mem (d := 0) hk))
      obtain ⟨s, hsx⟩ : ∃ s : Nat, nx 0 l k = s := ⟨(nx 0 l k).toNat, by omega⟩
      have h3 := bt_le s i
      obtain ⟨q1, q2⟩ := shr_bit s i (by omega) hi
      rw [hs]
      dsimp only
      rw [if_pos (decide_eq_true (by omega)), nx_get (d := 0) hk, Option.bind_some, hsx, q1, Option.bind_some, q2, wnat (a := bt s i) (by omega), w64 (by omega) (by omega), wsuc (by omega)]
      have e : ct l i (k + 1) = ct l i k + (bt s i : Int) := by unfold ct; rw [sm_succ, hsx, Int.toNat_natCast]
      rw [e]
    · rw [hs]
      dsimp only
      rw [if_neg (by simp)]
  exact ⟨key _ fun s => rfl, key _ fun s => rfl⟩
theorem some_eq (F : Nat) (w l : List Int) (least : Int) (hl : ∀ x ∈ l, inR .u16 x) (h12l : l.length ≤ 12) (hF : 1000000000000000001 ≤ F) (hz : casesE w l = 0) :
    ∃ r n, F18 F w l least = some (r, 0) ∧ iter (F3_l2 F w l least) F (0, 0) = some n ∧ F21 F n (sm w.length (nx 0 w)) = some r := by
  obtain ⟨g, _⟩ := casesE_ok hz
  have h12 := g.l12
  let c : Nat → Bool := fun i => decide (ct l i l.length ≥ least)
  have l1 : iter (F18_l1 F w l least) F (0, 0) = some (inN c w.length : Int) := by
    refine iter_count (step := F18_l1 F w l least) (fun i => ((inN c i : Int), (i : Int))) w.length ?_ ?_ (by omega)
    · intro i hi
      have hlt := inN_lt c i
      have hp : 2 ^ i ≤ 4096 := Nat.pow_le_pow_right (n := 2) (by omega) (by omega : i ≤ 12)
      unfold F18_l1
      dsimp only
      rw [if_pos (decide_eq_true (by omega)), (count_eqE F l i _ hl (by omega) h12l (by omega)).1, Option.bind_some, shl16e i (by omega), Option.bind_some, wsuc (by omega)]
      have hor : inN c i ||| 2 ^ i = inN c i + 2 ^ i := by
        have := Nat.two_pow_add_eq_or_of_lt (b := inN c i) (i := i) hlt 1
        rw [Nat.mul_one] at this
        rw [Nat.or_comm, ← this, Nat.add_comm]
      by_cases hc : ct l i l.length ≥ least
      · rw [if_pos (decide_eq_true hc), or_nat (by omega) (by omega), hor]
        simp only [inN, show c i = true from decide_eq_true hc, if_true]
      · rw [if_neg (mt of_decide_eq_true hc)]
        simp only [inN, show c i = false from decide_eq_false hc, Bool.false_eq_true, if_false, Nat.add_zero]
    · unfold F18_l1
      dsimp only
      rw [if_neg (by simp)]
  have hltw := inN_lt c w.length
  have hpw : 2 ^ w.length ≤ 4096 := Nat.pow_le_pow_right (n := 2) (by omega) h12
  have l2 : iter (F3_l2 F w l least) F (0, 0) = some (hw w (inN c w.length)) := by
    refine iter_count (step := F3_l2 F w l least) (fun k => (sm k (fun i => nx 0 w i * (bt (inN c w.length) i : Int)), (k : Int))) w.length ?_ ?_ (by omega)
    · intro i hi
      have h1 := sm_bound (f := fun j => nx 0 w j * (bt (inN c w.length) j : Int)) (k := i) (B := 100) fun j hj => term_le g (by omega) _
      have h2 := g.rng i hi
      unfold F3_l2
      dsimp only
      rw [if_pos (decide_eq_true (by omega)), nx_get (d := 0) hi, Option.bind_some, (count_eqE F l i _ hl (by omega) h12l (by omega)).2, Option.bind_some, wsuc (by omega), sm_succ, inN_bt c w.length i hi]
      by_cases hc : ct l i l.length ≥ least
      · rw [if_pos (decide_eq_true hc), if_pos (show c i = true from decide_eq_true hc), w64 (by omega) (by omega)]; simp
      · rw [if_neg (mt of_decide_eq_true hc), if_neg (show ¬ c i = true from mt of_decide_eq_true hc)]; simp
    · unfold F3_l2
      dsimp only
      rw [if_neg (by simp)]
      rfl
  have hz2 : casesE w [((inN c w.length : Nat) : Int)] = 0 := casesE_of g fun x hx => by simp at hx; subst hx; omega
  obtain ⟨r, q1, q2⟩ := chance_eq F w (inN c w.length) (by omega) hF hz2
  refine ⟨r, _, ?_, l2, q2⟩
  unfold F18
  rw [(cases_both F w l hl (Nat.le_trans h12l (by decide)) (by omega) (by omega)).1, hz, Option.bind_some, if_neg (by decide), if_neg (by rw [decide_eq_true_eq]; omega), l1, Option.bind_some, q1]
  rfl

theorem sumAll (F : Nat) (w : List Int) (hm : w.length ≤ maxLen) (hF : w.length < F) : ∃ T, iter (F3_l0 F w) F (0, 0) = some T ∧ (GW w → T = sm w.length (nx 0 w)) := by
  have hml : w.length ≤ 9223372036854775807 := hm
  obtain ⟨T, e, hT⟩ := iter_inv (step := F3_l0 F w) (I := fun s => ∃ i : Nat, s.2 = (i : Int) ∧ i ≤ w.length ∧ (GW w → s.1 = sm i (nx 0 w))) (μ := fun s => w.length - s.2.toNat) (Q := fun T => GW w → T = sm w.length (nx 0 w)) (by
    rintro ⟨T, i_⟩ ⟨i, rfl, hi, hT⟩
    dsimp only at hT
    unfold F3_l0
    dsimp only
    by_cases hlt : i < w.length
    · left
      rw [if_pos (decide_eq_true (by omega)), nx_get (d := 0) hlt, Option.bind_some, wsuc (by omega)]
      refine ⟨_, rfl, ⟨i + 1, rfl, hlt, fun g => ?_⟩, by simp only; omega⟩
      have h12 := g.l12
      have h1 := sm_bound (f := nx 0 w) (k := i) (B := 100) fun j hj => by have := g.rng j (by omega); omega
      have h2 := g.rng i hlt
      dsimp only
      rw [hT g, sm_succ, w64 (by omega) (by omega)]
    · right
      rw [if_neg (by rw [decide_eq_true_eq]; omega)]
      have e : i = w.length := by omega
      subst e
      exact ⟨_, rfl, hT⟩) F (0, 0) ⟨0, rfl, by omega, fun _ => rfl⟩ (by simp only; omega)
  exact ⟨T, e, hT⟩

theorem PeventSays.holds (t0 : List (Int)) (t1 : Int) (t2 : Int) (t3 : List (Int)) (t4 : Int) (h0 : (t0.length ≤ maxLen ∧ ∀ a ∈ t0, inR .i64 a)) (h1 : inR .u16 t1) (h2 : inR .u16 t2) (h3 : (t3.length ≤ maxLen ∧ ∀ a ∈ t3, inR .u16 a)) (h4 : inR .i64 t4) : ∃ F, F3 F t0 t1 t2 t3 t4 = some true := by
  obtain ⟨F, hF1, hFw, hFl⟩ : ∃ F : Nat, 1000000000000000001 ≤ F ∧ t0.length < F ∧ t3.length < F := ⟨1000000000000000001 + t0.length + t3.length, by omega, by omega, by omega⟩
  refine ⟨F, ?_⟩
  obtain ⟨a, rfl⟩ : ∃ a : Nat, t1 = a := ⟨t1.toNat, by have := inR16 h1; omega⟩
  obtain ⟨b, rfl⟩ : ∃ b : Nat, t2 = b := ⟨t2.toNat, by have := inR16 h2; omega⟩
  have ha : a < 65536 := by have := inR16 h1; omega
  have hb : b < 65536 := by have := inR16 h2; omega
  have h20 : 20 ≤ F := by omega
  have hab : a &&& b < 65536 := Nat.lt_of_le_of_lt Nat.and_le_left ha
  have eand : bit .and .u16 (a : Int) (b : Int) = ((a &&& b : Nat) : Int) := and_nat ha hb
  obtain ⟨T, eT, hT⟩ := sumAll F t0 h0.1 hFw
  have c1 := cases_both F t0 [(a : Int)] (fun x hx => by simp at hx; subst hx; exact h1) (by show 1 ≤ maxLen; decide) h20 (by simp; omega)
  have c2 := cases_both F t0 [(a : Int), (b : Int)] (fun x hx => by simp at hx; rcases hx with rfl | rfl <;> assumption) (by show 2 ≤ maxLen; decide) h20 (by simp; omega)
  have c3 := cases_both F t0 t3 h3.2 h3.1 h20 hFl
  -- Chance
  obtain ⟨r1, e15, m1⟩ : ∃ r1, F15 F t0 a = some r1 ∧ (if ((r1.2 != casesE t0 [(a : Int)]) || ((casesE t0 [(a : Int)] != 0) && (!(r1.1.1 == 0 && (r1.1.2 == 0 && true))))) = true then some true else
      ((if (casesE t0 [(a : Int)] == 0) = true then ((F22 F t0 a).bind fun r66 => (F21 F r66 T).bind fun r70 => some (!(r1.1.1 == r70.1 && (r1.1.2 == r70.2 && true)))) else some false).bind fun y75 => some y75)) = some false := by
    by_cases hz : casesE t0 [(a : Int)] = 0
    · obtain ⟨g, _⟩ := casesE_ok hz
      obtain ⟨r, q1, q2⟩ := chance_eq F t0 a ha hF1 hz
      refine ⟨_, q1, ?_⟩
      rw [hz, if_neg (by simp), if_pos (by decide), heavy_eq F t0 a g ha h20, Option.bind_some, hT g, q2]
      simp
    · refine ⟨((0, 0), casesE t0 [(a : Int)]), ?_, ?_⟩
      · unfold F15; rw [c1.1, Option.bind_some, if_pos (by simpa using hz)]
      · rw [if_neg (by simp), if_neg (by simpa using hz)]; rfl
  -- Apart
  obtain ⟨r21, e17, m2⟩ : ∃ r21, F17 F t0 a b = some r21 ∧ (if (r21.2 != casesE t0 [(a : Int), (b : Int)]) = true then some true else
      ((if (casesE t0 [(a : Int), (b : Int)] == 0) = true then ((F22 F t0 (bit .and .u16 (a : Int) (b : Int))).bind fun r93 => (F22 F t0 a).bind fun r97 => (F22 F t0 b).bind fun r101 => some ((wrapA .i64 (r93 * T)) == (wrapA .i64 (r97 * r101)))) else some false).bind fun y106 => some (!(r21.1 == y106)))) = some false := by
    by_cases hz : casesE t0 [(a : Int), (b : Int)] = 0
    · obtain ⟨g, _⟩ := casesE_ok hz
      have hfe := full_eq F t0 g h20
      have h12 := g.l12
      rw [shl16e t0.length (by omega), Option.bind_some] at hfe
      refine ⟨((wrapA .i64 (hw t0 (a &&& b) * sm t0.length (nx 0 t0))) == (wrapA .i64 (hw t0 a * hw t0 b)), 0), ?_, ?_⟩
      · unfold F17
        rw [c2.1, hz, Option.bind_some, if_neg (by decide), eand, weight_eq F t0 _ g hab h20, Option.bind_some, shl16e t0.length (by omega), Option.bind_some, hfe, Option.bind_some, weight_eq F t0 a g ha h20, Option.bind_some, weight_eq F t0 b g hb h20]
        rfl
      · rw [hz, if_neg (by simp), if_pos (by decide), eand, heavy_eq F t0 _ g hab h20, Option.bind_some, heavy_eq F t0 a g ha h20, Option.bind_some, heavy_eq F t0 b g hb h20, Option.bind_some, hT g]
        simp
    · refine ⟨(false, casesE t0 [(a : Int), (b : Int)]), ?_, ?_⟩
      · unfold F17; rw [c2.1, Option.bind_some, if_pos (by simpa using hz)]
      · rw [if_neg (by simp), if_neg (by simpa using hz)]; rfl
  -- Given
  obtain ⟨r11, e16, m3⟩ : ∃ r11, F16 F t0 a b = some r11 ∧ (((if ((casesE t0 [(a : Int), (b : Int)] == 0) && ((b : Int) == 0)) = true then some 5 else some (casesE t0 [(a : Int), (b : Int)]) : Option Int)).bind fun b118 =>
      (if ((r11.2 != b118) || ((b118 != 0) && (!(r11.1.1 == 0 && (r11.1.2 == 0 && true))))) = true then some true else
      ((if (b118 == 0) = true then ((F22 F t0 (bit .and .u16 (a : Int) (b : Int))).bind fun r125 => (F22 F t0 b).bind fun r129 => (F21 F r125 r129).bind fun r133 => some (!(r11.1.1 == r133.1 && (r11.1.2 == r133.2 && true)))) else some false).bind fun y138 => some y138))) = some false := by
    by_cases hz : casesE t0 [(a : Int), (b : Int)] = 0
    · obtain ⟨g, hlt⟩ := casesE_ok hz
      by_cases hb0 : b = 0
      · subst hb0
        refine ⟨((0, 0), 5), ?_, ?_⟩
        · unfold F16; rw [c2.1, hz, Option.bind_some, if_neg (by decide), if_pos (by decide)]
        · rw [hz, if_pos (by decide)]; rfl
      · have hlb := hlt (b : Int) (by simp)
        have hpos := hw_pos g (show 0 < b by omega) (by omega)
        have l1 := hw_le g (a &&& b)
        have l2 := hw_le g b
        obtain ⟨r, q1, q2⟩ := frac F (hw t0 (a &&& b)) (hw t0 b) l1.1 l1.2 (by omega) l2.2 hF1
        refine ⟨(r, 0), ?_, ?_⟩
        · unfold F16
          rw [c2.1, hz, Option.bind_some, if_neg (by decide), if_neg (by simp <;> omega), eand, weight_eq F t0 _ g hab h20, Option.bind_some, weight_eq F t0 b g hb h20, Option.bind_some, q1]
          rfl
        · rw [hz, if_neg (by simp <;> omega), Option.bind_some, if_neg (by simp), if_pos (by decide), eand, heavy_eq F t0 _ g hab h20, Option.bind_some, heavy_eq F t0 b g hb h20, Option.bind_some, q2]
          simp
    · refine ⟨((0, 0), casesE t0 [(a : Int), (b : Int)]), ?_, ?_⟩
      · unfold F16; rw [c2.1, Option.bind_some, if_pos (by simpa using hz)]
      · rw [if_neg (by simp [hz]), Option.bind_some, if_neg (by simp), if_neg (by simpa using hz)]; rfl
  -- Some
  obtain ⟨r25, e18, m4⟩ : ∃ r25, F18 F t0 t3 t4 = some r25 ∧ (((if ((casesE t0 t3 == 0) && (decide ((t3.length : Int) > 12))) = true then some 2 else some (casesE t0 t3) : Option Int)).bind fun b154 =>
      if (b154 != 0) = true then some ((r25.2 == b154) && (r25.1.1 == 0 && (r25.1.2 == 0 && true))) else (iter (F3_l2 F t0 t3 t4) F (0, 0)).bind fun b184 =>
      (if (r25.2 == 0) = true then ((F21 F b184 T).bind fun r188 => some (r25.1.1 == r188.1 && (r25.1.2 == r188.2 && true))) else some false).bind fun y193 => some y193) = some true := by
    by_cases hz : casesE t0 t3 = 0
    · obtain ⟨g, _⟩ := casesE_ok hz
      by_cases hl : t3.length ≤ 12
      · obtain ⟨r, n, q1, q2, q3⟩ := some_eq F t0 t3 t4 h3.2 hl hF1 hz
        refine ⟨_, q1, ?_⟩
        rw [hz, if_neg (by simp <;> omega), Option.bind_some, if_neg (by decide), q2, Option.bind_some]
        simp [hT g, q3]
      · refine ⟨((0, 0), 2), ?_, ?_⟩
        · unfold F18; rw [c3.1, hz, Option.bind_some, if_neg (by decide), if_pos (decide_eq_true (by omega))]
        · rw [hz, if_pos (by simp <;> omega)]; rfl
    · refine ⟨((0, 0), casesE t0 t3), ?_, ?_⟩
      · unfold F18; rw [c3.1, Option.bind_some, if_pos (by simpa using hz)]
      · rw [if_neg (by simp [hz]), Option.bind_some, if_pos (by simpa using hz)]; simp
  unfold F3
  rw [e15, e16, e17, e18]
  simp only [Option.bind_some]
  rw [c3.1, c3.2]
  simp only [Option.bind_some]
  rw [if_neg (by simp), eT]
  simp only [Option.bind_some]
  rw [c1.2]
  simp only [Option.bind_some]
  rw [m1]
  simp only [Option.bind_some]
  rw [if_neg (by decide), c2.2]
  simp only [Option.bind_some]
  rw [m2]
  simp only [Option.bind_some]
  rw [if_neg (by decide)]
  revert m3
  generalize ((if ((casesE t0 [(a : Int), (b : Int)] == 0) && ((b : Int) == 0)) = true then some 5 else some (casesE t0 [(a : Int), (b : Int)]) : Option Int)) = o
  intro m3
  cases o with
  | none => cases m3
  | some b118 =>
    simp only [Option.bind_some] at m3 ⊢
    rw [m3]
    simp only [Option.bind_some]
    rw [if_neg (by decide)]
    exact m4
end Go.Proofs.Ytdkmepeolmdccaa

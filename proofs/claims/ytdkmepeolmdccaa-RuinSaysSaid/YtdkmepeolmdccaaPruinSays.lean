/- What the functional texts of package ruin answer. -/
import Derived.Test.YtdkmepeolmdccaaRatioLib
set_option linter.unusedVariables false
set_option linter.unusedSimpArgs false
namespace Go.Proofs.Ytdkmepeolmdccaa
open Go.Am

theorem powL {x k : Nat} (hx : x ≤ 20) (hk : k ≤ 12) : x ^ k ≤ 4096000000000000 := by
  have h1 : x ^ k ≤ 20 ^ k := Nat.pow_le_pow_left hx k
  have h2 : 20 ^ k ≤ 20 ^ 12 := Nat.pow_le_pow_right (by omega) hk
  exact Nat.le_trans h1 (Nat.le_trans h2 (by decide))
theorem powL11 {x k : Nat} (hx : x ≤ 20) (hk : k ≤ 11) : x ^ k ≤ 204800000000000 := by
  have h1 : x ^ k ≤ 20 ^ k := Nat.pow_le_pow_left hx k
  have h2 : 20 ^ k ≤ 20 ^ 11 := Nat.pow_le_pow_right (by omega) hk
  exact Nat.le_trans h1 (Nat.le_trans h2 (by decide))
theorem power_eq (F x k : Nat) (hx : x ≤ 20) (hk : k ≤ 11) (hF : 20 ≤ F) : F118 F x k = some ((x ^ k : Nat) : Int) := by
  unfold F118
  have := iter_count (step := F118_l0 F x k) (F := F) (fun i => (((x ^ i : Nat) : Int), (i : Int))) (b := ((x ^ k : Nat) : Int)) k ?_ ?_ (by omega)
  · rw [show ((1 : Int), (0 : Int)) = (((x ^ 0 : Nat) : Int), ((0 : Nat) : Int)) from rfl, this]; rfl
  · intro i hi
    have h := powL hx (show i + 1 ≤ 12 by omega)
    rw [Nat.pow_succ] at h
    unfold F118_l0
    simp only
    rw [if_pos (decide_eq_true (by omega)), wmul (by omega), wsuc (by omega)]
    rfl
  · unfold F118_l0
    simp only
    rw [if_neg (by simp)]

/-- One term. -/
def trm (n p q j : Nat) : Nat := q ^ j * p ^ (n - 1 - j)
theorem trm_le {n p q j : Nat} (hp : p ≤ 20) (hq : q ≤ 20) (hn : n ≤ 12) (hj : j < n) : trm n p q j ≤ 204800000000000 := by
  unfold trm
  have h1 : q ^ j ≤ 20 ^ j := Nat.pow_le_pow_left hq j
  have h2 : p ^ (n - 1 - j) ≤ 20 ^ (n - 1 - j) := Nat.pow_le_pow_left hp _
  have h3 : q ^ j * p ^ (n - 1 - j) ≤ 20 ^ j * 20 ^ (n - 1 - j) := Nat.mul_le_mul h1 h2
  rw [← Nat.pow_add, show j + (n - 1 - j) = n - 1 from by omega] at h3
  exact Nat.le_trans h3 (powL11 (Nat.le_refl _) (by omega))
theorem trm_pos {n p q j : Nat} (hp : 1 ≤ p) (hq : 1 ≤ q) : 1 ≤ trm n p q j := Nat.mul_pos (Nat.pow_pos hq) (Nat.pow_pos hp)
theorem trm_next {n p q j : Nat} (hp : 1 ≤ p) (hj : j + 1 < n) : trm n p q j / p * q = trm n p q (j + 1) := by
  unfold trm
  rw [show n - 1 - j = (n - 1 - (j + 1)) + 1 from by omega, Nat.pow_succ, ← Nat.mul_assoc, Nat.mul_div_cancel _ hp, Nat.pow_succ, Nat.mul_assoc, Nat.mul_comm _ q, ← Nat.mul_assoc]
/-- The first k terms. -/
def sN (n p q : Nat) : Nat → Nat
  | 0 => 0
  | k + 1 => sN n p q k + trm n p q k
theorem sN_le {n p q : Nat} (hp : p ≤ 20) (hq : q ≤ 20) (hn : n ≤ 12) : ∀ k, k ≤ n → sN n p q k ≤ 204800000000000 * k
  | 0, _ => by simp [sN]
  | k + 1, h => by
    have h1 := sN_le hp hq hn k (by omega)
    have h2 := trm_le hp hq hn (show k < n by omega)
    simp only [sN]; omega
theorem sN_mono {n p q : Nat} {j : Nat} : ∀ {k : Nat}, j ≤ k → sN n p q j ≤ sN n p q k
  | 0, h => by rw [show j = 0 from by omega]; exact Nat.le_refl _
  | k + 1, h => by
    by_cases e : j = k + 1
    · subst e; exact Nat.le_refl _
    · have := sN_mono (n := n) (p := p) (q := q) (j := j) (k := k) (by omega); simp only [sN]; omega

structure RU (a n p q : Nat) : Prop where
  n1 : 1 ≤ n
  n12 : n ≤ 12
  an : a ≤ n
  p1 : 1 ≤ p
  p20 : p ≤ 20
  q1 : 1 ≤ q
  q20 : q ≤ 20
theorem sums_eq (F a n p q : Nat) (h : RU a n p q) (hF : 20 ≤ F) : iter (F42_l0 F a n p q) F (0, 0, 0) = some (((sN n p q a : Nat) : Int), ((sN n p q n : Nat) : Int)) := by
  have h12 := h.n12
  refine iter_count (step := F42_l0 F a n p q) (fun k => (((sN n p q (min k a) : Nat) : Int), ((sN n p q k : Nat) : Int), (k : Int))) n ?_ ?_ (by omega)
  · intro k hk
    have b1 := sN_le h.p20 h.q20 h.n12 k (by omega)
    have b2 := trm_le h.p20 h.q20 h.n12 hk
    have b3 := sN_mono (n := n) (p := p) (q := q) (show min k a ≤ k from Nat.min_le_left _ _)
    unfold F42_l0
    simp only
    have e1 : wrapA .i64 (wrapA .i64 ((n : Int) - 1) - (k : Int)) = ((n - 1 - k : Nat) : Int) := by
      rw [wpred h.n1 (by omega), wsub (by omega) (by omega)]
    rw [if_pos (decide_eq_true (by omega)), power_eq F q k h.q20 (by omega) hF, Option.bind_some, e1, power_eq F p _ h.p20 (by omega) hF, Option.bind_some, wmul (by unfold trm at b2; omega)]
    have e2 : q ^ k * p ^ (n - 1 - k) = trm n p q k := rfl
    rw [e2, wadd (by omega), wadd (by omega), wsuc (by omega)]
    by_cases hka : k < a
    · rw [if_pos (decide_eq_true (by omega)), Nat.min_eq_left (by omega), Nat.min_eq_left (by omega)]; rfl
    · rw [if_neg (by rw [decide_eq_true_eq]; omega), Nat.min_eq_right (by omega), Nat.min_eq_right (by omega)]; rfl
  · unfold F42_l0
    simp only
    rw [if_neg (by simp), Nat.min_eq_right h.an]
/-- What Win's second loop says at its end. -/
def stopW (F : Nat) (b : Int × Int) (g : Nat) : Option (Int × (Int × Int)) := (F42_l1 F b ((g : Int), 0, (0, 0))).bind fun s => match s with
  | .stop v => some v
  | .more _ => none
theorem winGcd (F : Nat) (b : Int × Int) : ∀ (y x G : Nat), y < G → iter (F42_l1 F b) G ((x : Int), (y : Int), (0, 0)) = stopW F b (Nat.gcd x y) := by
  intro y
  induction y using Nat.strongRecOn with
  | ind y ih =>
    intro x G hG
    obtain ⟨G, rfl⟩ : ∃ g, G = g + 1 := ⟨G - 1, by omega⟩
    by_cases h : y = 0
    · subst h
      rw [Nat.gcd_zero_right]
      unfold stopW
      have : ∀ o : Option (Stp (Int × Int × (Int × Int)) (Int × (Int × Int))), (∀ s, o ≠ some (.more s)) → ∀ st : Int × Int × (Int × Int), F42_l1 F b st = o → iter (F42_l1 F b) (G + 1) st = o.bind fun s => match s with
          | .stop v => some v
          | .more _ => none := by
        intro o ho st hst
        simp only [iter, hst]
        cases o with
        | none => rfl
        | some s => cases s with
          | more s => exact (ho s rfl).elim
          | stop v => rfl
      refine this _ ?_ _ rfl
      intro s
      unfold F42_l1
      simp only
      rw [if_pos (by decide)]
      intro hc
      obtain ⟨x37, _, hc⟩ := bindS hc
      split at hc
      · cases hc
      · obtain ⟨_, _, hc⟩ := bindS hc
        obtain ⟨_, _, hc⟩ := bindS hc
        obtain ⟨_, _, hc⟩ := bindS hc
        cases hc
    · have st : F42_l1 F b ((x : Int), (y : Int), (0, 0)) = some (.more ((y : Int), ((x % y : Nat) : Int), (0, 0))) := by
        unfold F42_l1
        simp only
        rw [if_neg (by simp <;> omega)]
        unfold rem?
        rw [if_neg (by omega), tmod_nat]
        rfl
      have hlt := Nat.mod_lt x (show 0 < y by omega)
      rw [iter_more st, ih (x % y) hlt y G (by omega), Nat.gcd_comm y, ← Nat.gcd_rec, Nat.gcd_comm]
theorem low_nat (u v : Nat) (hv : 0 < v) (huv : u ≤ v) : lowS (u : Int) (v : Int) = if v / Nat.gcd u v > 1000000000 then ((0, 0), 2) else ((((u / Nat.gcd u v : Nat) : Int), ((v / Nat.gcd u v : Nat) : Int)), 0) := by
  have hg : 0 < Nat.gcd u v := Nat.gcd_pos_of_pos_right _ hv
  have hle : u / Nat.gcd u v ≤ v / Nat.gcd u v := Nat.div_le_div_right huv
  unfold lowS
  simp only [Int.natAbs_natCast]
  rw [tdiv_nat, tdiv_nat]
  have h0 := Int.natCast_nonneg (u / Nat.gcd u v)
  by_cases h : v / Nat.gcd u v > 1000000000
  · rw [if_pos h, if_pos (by omega)]
  · rw [if_neg h, if_neg (by omega)]
theorem stop_eq (F u v : Nat) (hv : 0 < v) (huv : u ≤ v) (hv2 : v ≤ 9000000000000000000) (hF : 1000000001 ≤ F) : ∃ r, stopW F ((u : Int), (v : Int)) (Nat.gcd u v) = some r ∧ (r.2, r.1) = lowS (u : Int) (v : Int) := by
  have hg : 0 < Nat.gcd u v := Nat.gcd_pos_of_pos_right _ hv
  have hle : u / Nat.gcd u v ≤ v / Nat.gcd u v := Nat.div_le_div_right huv
  have hl : v / Nat.gcd u v ≤ v := Nat.div_le_self _ _
  have hpos : 0 < v / Nat.gcd u v := Nat.div_pos (Nat.gcd_le_right _ hv) hg
  have q1 : ∀ z : Nat, z ≤ v → quo? .i64 (z : Int) ((Nat.gcd u v : Nat) : Int) = some ((z / Nat.gcd u v : Nat) : Int) := by
    intro z hz
    have := Nat.div_le_self z (Nat.gcd u v)
    unfold quo?
    rw [if_neg (by omega), tdiv_nat, wnat (by omega)]
  have h0 := Int.natCast_nonneg (u / Nat.gcd u v)
  unfold stopW F42_l1
  simp only
  rw [if_pos (by decide), q1 v (Nat.le_refl _), Option.bind_some, low_nat u v hv huv]
  by_cases h : v / Nat.gcd u v > 1000000000
  · rw [if_pos (decide_eq_true (by omega)), if_pos h]
    exact ⟨_, rfl, rfl⟩
  · rw [if_neg (by rw [decide_eq_true_eq]; omega), if_neg h, q1 u huv, Option.bind_some, Option.bind_some, make_eq F _ _ hF, if_neg (by omega), if_neg (by omega), if_neg (by omega), Option.bind_some]
    have hco : Nat.gcd (u / Nat.gcd u v) (v / Nat.gcd u v) = 1 := Nat.coprime_div_gcd_div_gcd hg
    rw [low_nat _ _ hpos hle, hco, Nat.div_one, Nat.div_one, if_neg h]
    exact ⟨_, rfl, rfl⟩
theorem chk_in (F a n p q : Nat) (h : RU a n p q) : F44 F a n p q = some 0 := by
  obtain ⟨h1, h2, h3, h4, h5, h6, h7⟩ := h
  unfold F44
  rw [if_neg (by simp only [Bool.or_eq_true, decide_eq_true_eq]; omega)]
/-- What is won. -/
def winS (a n p q : Nat) : (Int × Int) × Int := lowS ((sN n p q a : Nat) : Int) ((sN n p q n : Nat) : Int)
theorem sN_pos {a n p q : Nat} (h : RU a n p q) : 0 < sN n p q n := by
  obtain ⟨m, hm⟩ : ∃ m, n = m + 1 := ⟨n - 1, by have := h.n1; omega⟩
  have := trm_pos (n := n) (j := m) h.p1 h.q1
  rw [hm] at this ⊢
  simp only [sN]; omega
theorem win_eq (F a n p q : Nat) (h : RU a n p q) (hF : 1000000000000000001 ≤ F) : F42 F a n p q = some (winS a n p q) := by
  have hb := sN_le h.p20 h.q20 h.n12 n (Nat.le_refl _)
  have h12 := h.n12
  have hm := sN_mono (n := n) (p := p) (q := q) h.an
  obtain ⟨r, e1, e2⟩ := stop_eq F (sN n p q a) (sN n p q n) (sN_pos h) hm (by omega) (by omega)
  unfold F42
  rw [chk_in F a n p q h, Option.bind_some, if_neg (by decide), sums_eq F a n p q h (by omega), Option.bind_some, winGcd F _ _ _ F (by omega), e1, Option.bind_some]
  unfold winS
  rw [← e2]

/-! ### The document's own sums -/
def byS (n p q k : Nat) : Nat := if k < n then trm n p q k else trm n p q (n - 1) / p * q
theorem byS_next {a n p q k : Nat} (h : RU a n p q) (hk : k < n) : byS n p q k / p * q = byS n p q (k + 1) := by
  unfold byS
  rw [if_pos hk]
  by_cases e : k + 1 < n
  · rw [if_pos e, trm_next h.p1 e]
  · rw [if_neg e, show n - 1 = k from by omega]
theorem winOf_eq (F a n p q : Nat) (h : RU a n p q) (hF : 1000000000000000001 ≤ F) : F45 F a n p q = some (winS a n p q) := by
  have h12 := h.n12
  have hb := sN_le h.p20 h.q20 h.n12
  have hbn := hb n (Nat.le_refl _)
  have hba := hb a h.an
  unfold F45
  rw [wsuc (by omega), mk?_ok (by omega), Option.bind_some]
  have l0 : iter (F45_l0 F n p) F (1, 0) = some ((p ^ (n - 1) : Nat) : Int) := by
    refine iter_count (step := F45_l0 F n p) (fun i => (((p ^ i : Nat) : Int), (i : Int))) (n - 1) ?_ ?_ (by omega)
    · intro i hi
      have hp := powL h.p20 (show i + 1 ≤ 12 by omega)
      rw [Nat.pow_succ] at hp
      unfold F45_l0
      simp only
      rw [wpred h.n1 (by omega), if_pos (decide_eq_true (by omega)), wmul (by omega), wsuc (by omega)]
      rfl
    · unfold F45_l0
      simp only
      rw [wpred h.n1 (by omega), if_neg (by simp)]
  have l1 : iter (F45_l1 F n p q) F (((p ^ (n - 1) : Nat) : Int), 1, List.replicate (n + 1) 0) = some (tb (n + 1) fun i => ((sN n p q i : Nat) : Int)) := by
    have e0 : (((p ^ (n - 1) : Nat) : Int), (1 : Int), List.replicate (n + 1) (0 : Int)) = (((byS n p q (1 - 1) : Nat) : Int), ((1 : Nat) : Int), tb (n + 1) fun i => if i < 1 then ((sN n p q i : Nat) : Int) else 0) := by
      have : byS n p q (1 - 1) = p ^ (n - 1) := by
        unfold byS trm
        rw [if_pos (by have := h.n1; omega)]; simp
      rw [this, tb_rep]
      congr 2
      apply tb_congr
      intro i hi
      by_cases e : i = 0
      · subst e; rfl
      · rw [if_neg (by omega)]
    rw [e0]
    refine iter_run (step := F45_l1 F n p q) (fun k => (((byS n p q (k - 1) : Nat) : Int), (k : Int), tb (n + 1) fun i => if i < k then ((sN n p q i : Nat) : Int) else 0)) n 1 F ?_ ?_ (by omega)
    · intro k hk1 hk2
      have hkn : k - 1 < n := by omega
      have hby : byS n p q (k - 1) = trm n p q (k - 1) := by unfold byS; rw [if_pos hkn]
      have ht := trm_le h.p20 h.q20 h.n12 hkn
      have hs := hb (k - 1) (by omega)
      have hd := Nat.div_le_self (trm n p q (k - 1)) p
      have hm : trm n p q (k - 1) / p * q ≤ 204800000000000 * 20 := Nat.mul_le_mul (by omega) h.q20
      unfold F45_l1
      simp only
      rw [if_pos (decide_eq_true (by omega)), wpred (by omega) (by omega), tb_get (by omega), Option.bind_some, tb_ck (by omega), Option.bind_some, if_pos (by omega), hby]
      have hq : quo? .i64 ((trm n p q (k - 1) : Nat) : Int) (p : Int) = some ((trm n p q (k - 1) / p : Nat) : Int) := by
        have := h.p1
        unfold quo?
        rw [if_neg (by omega), tdiv_nat, wnat (by omega)]
      rw [hq, Option.bind_some, wmul (by omega), wsuc (by omega), wadd (by omega), Int.toNat_natCast, tb_set]
      have hn := byS_next h hkn
      rw [hby, show k - 1 + 1 = k + 1 - 1 from by omega] at hn
      rw [hn]
      congr 4
      apply tb_congr
      intro i hi
      by_cases e : i = k
      · subst e
        rw [if_pos rfl, if_pos (by omega)]
        obtain ⟨m, rfl⟩ : ∃ m, i = m + 1 := ⟨i - 1, by omega⟩
        rfl
      · rw [if_neg e]
        by_cases e2 : i < k
        · rw [if_pos e2, if_pos (by omega)]
        · rw [if_neg e2, if_neg (by omega)]
    · unfold F45_l1
      simp only
      rw [if_neg (by rw [decide_eq_true_eq]; omega)]
      congr 2
      apply tb_congr
      intro i hi
      rw [if_pos (by omega)]
  have hpos := sN_pos h
  have han := h.an
  rw [l0, Option.bind_some, l1, Option.bind_some, tb_get (by omega), Option.bind_some, tb_get (by omega), Option.bind_some, ratioOf_eq F _ _ (by omega) (by omega) (by omega) (by omega) (by omega) (by omega), if_neg (by omega), Option.bind_some]
  rfl

theorem eqA (x y : Int × Int) : (x.1 == y.1 && (x.2 == y.2 && true)) = decide (x = y) := by
  obtain ⟨a, b⟩ := x
  obtain ⟨c, d⟩ := y
  by_cases h1 : a = c <;> by_cases h2 : b = d <;> simp [h1, h2]

theorem PruinSays.holds (t0 : Int) (t1 : Int) (t2 : Int) (t3 : Int) (h0 : inR .i64 t0) (h1 : inR .i64 t1) (h2 : inR .i64 t2) (h3 : inR .i64 t3) : ∃ F, F6 F t0 t1 t2 t3 = some true := by
  refine ⟨10000000000000000000, ?_⟩
  generalize hFd : 10000000000000000000 = F
  have hF : F = 10000000000000000000 := hFd.symm
  clear hFd
  have hF1 : 1000000000000000001 ≤ F := by omega
  have hF2 : 1000000001 ≤ F := by omega
  clear hF
  have hcond : (((((decide (t1 < 1) || decide (t1 > 12)) || decide (t0 < 0)) || decide (t0 > t1)) || decide (minI t2 t3 < 1)) || decide (maxI t2 t3 > 20)) = decide (t1 < 1 ∨ t1 > 12 ∨ t0 < 0 ∨ t0 > t1 ∨ t2 < 1 ∨ t2 > 20 ∨ t3 < 1 ∨ t3 > 20) := by
    rw [Bool.eq_iff_iff]
    simp only [Bool.or_eq_true, decide_eq_true_eq]
    unfold minI maxI
    split <;> split <;> omega
  have hcond2 : (((((((decide (t1 < 1) || decide (t1 > 12)) || decide (t0 < 0)) || decide (t0 > t1)) || decide (t2 < 1)) || decide (t2 > 20)) || decide (t3 < 1)) || decide (t3 > 20)) = decide (t1 < 1 ∨ t1 > 12 ∨ t0 < 0 ∨ t0 > t1 ∨ t2 < 1 ∨ t2 > 20 ∨ t3 < 1 ∨ t3 > 20) := by
    rw [Bool.eq_iff_iff]
    simp only [Bool.or_eq_true, decide_eq_true_eq]
    omega
  by_cases hb : t1 < 1 ∨ t1 > 12 ∨ t0 < 0 ∨ t0 > t1 ∨ t2 < 1 ∨ t2 > 20 ∨ t3 < 1 ∨ t3 > 20
  · have e44 : F44 F t0 t1 t2 t3 = some 1 := by
      unfold F44; rw [hcond2, if_pos (decide_eq_true hb)]
    unfold F6 F42 F43
    rw [e44, hcond]
    simp [hb]
  · obtain ⟨a, rfl⟩ : ∃ m : Nat, t0 = m := ⟨t0.toNat, by omega⟩
    obtain ⟨n, rfl⟩ : ∃ m : Nat, t1 = m := ⟨t1.toNat, by omega⟩
    obtain ⟨p, rfl⟩ : ∃ m : Nat, t2 = m := ⟨t2.toNat, by omega⟩
    obtain ⟨q, rfl⟩ : ∃ m : Nat, t3 = m := ⟨t3.toNat, by omega⟩
    have h : RU a n p q := ⟨by omega, by omega, by omega, by omega, by omega, by omega, by omega⟩
    have ew := win_eq F a n p q h hF1
    have eo := winOf_eq F a n p q h hF1
    have e44 := chk_in F a n p q h
    have h12 := h.n12
    have han := h.an
    have hp1 := h.p1
    have hq1 := h.q1
    have hp20 := h.p20
    have hq20 := h.q20
    by_cases hpq : p = q
    · have hm : a * (n - a) ≤ 12 * 12 := Nat.mul_le_mul (by omega) (by omega)
      have e1 : wrapA .i64 ((a : Int) * wrapA .i64 ((n : Int) - (a : Int))) = ((a * (n - a) : Nat) : Int) := by rw [wsub han (by omega), wmul (by omega)]
      have e43 : F43 F a n p q = some ((((a * (n - a) : Nat) : Int), 1), 0) := by
        unfold F43
        rw [e44, Option.bind_some, if_neg (by decide), if_pos (by simp [hpq]), e1, make_eq F _ _ hF2, if_neg (by omega), if_neg (by decide), if_neg (by decide), low_one (by omega) (by omega)]
        rfl
      unfold F6
      rw [ew, e43, hcond, if_neg (mt of_decide_eq_true hb)]
      simp only [Option.bind_some]
      rw [e44, eo]
      simp only [Option.bind_some]
      rw [if_neg (by decide), if_neg (by decide), if_neg (by simp), if_pos (by simp [hpq]), e1]
      simp
    · have hneq : ¬ (((p : Int) == (q : Int)) = true) := by simp <;> omega
      have hwq := sN_pos h
      -- what the last factor is
      obtain ⟨by_, eby, eby2, hby⟩ : ∃ y : Int × Int, F109 F (wrapA .i64 ((p : Int) + (q : Int))) (wrapA .i64 ((p : Int) - (q : Int))) = some (y, 0) ∧ F21 F (wrapA .i64 ((p : Int) + (q : Int))) (wrapA .i64 ((p : Int) - (q : Int))) = some y ∧ rchk y = 0 := by
        have e1 : wrapA .i64 ((p : Int) + (q : Int)) = (p : Int) + (q : Int) := w64 (by omega) (by omega)
        have e2 : wrapA .i64 ((p : Int) - (q : Int)) = (p : Int) - (q : Int) := w64 (by omega) (by omega)
        rw [e1, e2, make_eq F _ _ hF2, if_neg (by omega), if_neg (by omega)]
        unfold F21
        rw [ratioOf_eq F _ _ (by omega) (by omega) (by omega) (by omega) (by omega) (by omega), Option.bind_some]
        by_cases hn : (p : Int) - (q : Int) < 0
        · have f := low_fine (-((p : Int) + (q : Int))) (-((p : Int) - (q : Int))) (by omega) (by omega) (by omega) (by omega)
          have c := low_chk (p := -((p : Int) + (q : Int))) (q := -((p : Int) - (q : Int))) (by omega) f
          rw [if_pos hn]
          refine ⟨_, ?_, rfl, c⟩
          rw [← f]
        · have f := low_fine ((p : Int) + (q : Int)) ((p : Int) - (q : Int)) (by omega) (by omega) (by omega) (by omega)
          have c := low_chk (p := (p : Int) + (q : Int)) (q := (p : Int) - (q : Int)) (by omega) f
          rw [if_neg hn]
          refine ⟨_, ?_, rfl, c⟩
          rw [← f]
      have ena : wrapA .i64 (0 - (a : Int)) = -(a : Int) := by rw [w64 (by omega) (by omega)]; omega
      have hn1 : rchk ((n : Int), 1) = 0 := rchk_one (by omega) (by omega)
      have ha1 : rchk (-(a : Int), 1) = 0 := rchk_one (by omega) (by omega)
      -- the winnings
      obtain ⟨w, hw⟩ : ∃ w, winS a n p q = w := ⟨_, rfl⟩
      have w1 : w.2 = 0 → rchk w.1 = 0 := fun hc => by rw [← hw] at hc ⊢; exact low_chk (by omega) hc
      have w2 : w.2 ≠ 0 → w = ((0, 0), 2) := fun hc => by rw [← hw] at hc ⊢; exact low_zero hc
      rw [hw] at ew eo
      -- times n
      obtain ⟨u, hu1, hu2, u1, u2, u3⟩ : ∃ u : (Int × Int) × Int, (w.2 = 0 → F119 F (w.1.1, w.1.2) ((n : Int), 1) = some u) ∧ ((if (w.2 == 0) = true then ((F46 F (w.1.1, w.1.2) ((n : Int), 1)).bind fun r62 => some (r62.2, (r62.1.1, r62.1.2))) else some (w.2, (w.1.1, w.1.2))) = some (u.2, (u.1.1, u.1.2))) ∧ (u.2 = 0 → rchk u.1 = 0) ∧ (u.2 ≠ 0 → u = ((0, 0), 2)) ∧ (w.2 ≠ 0 → u = w) := by
        by_cases hc : w.2 = 0
        · have k1 := w1 hc
          obtain ⟨m1, m2⟩ := mul_both F w.1 ((n : Int), 1) hF1 k1 hn1
          refine ⟨_, fun _ => m1, ?_, fun q1 => low_chk (by have := (rchk_rg k1).1; simp only; omega) q1, fun q1 => low_zero q1, fun q1 => (q1 hc).elim⟩
          rw [if_pos (by simpa using hc), show ((w.1.1, w.1.2) : Int × Int) = w.1 from rfl, m2]; rfl
        · exact ⟨w, fun q1 => (hc q1).elim, by rw [if_neg (by simpa using hc)], fun q1 => (hc q1).elim, w2, fun _ => rfl⟩
      -- less a
      obtain ⟨v, hv1, hv2, v1, v2, v3⟩ : ∃ v : (Int × Int) × Int, (u.2 = 0 → F120 F (u.1.1, u.1.2) (-(a : Int), 1) = some v) ∧ ((if (u.2 == 0) = true then ((F47 F (u.1.1, u.1.2) (-(a : Int), 1)).bind fun r62 => some (r62.2, (r62.1.1, r62.1.2))) else some (u.2, (u.1.1, u.1.2))) = some (v.2, (v.1.1, v.1.2))) ∧ (v.2 = 0 → rchk v.1 = 0) ∧ (v.2 ≠ 0 → v = ((0, 0), 2)) ∧ (u.2 ≠ 0 → v = u) := by
        by_cases hc : u.2 = 0
        · have k1 := u1 hc
          obtain ⟨m1, m2⟩ := add_both F u.1 (-(a : Int), 1) hF1 k1 ha1
          refine ⟨_, fun _ => m1, ?_, fun q1 => low_chk (by have := (rchk_rg k1).1; simp only; omega) q1, fun q1 => low_zero q1, fun q1 => (q1 hc).elim⟩
          rw [if_pos (by simpa using hc), show ((u.1.1, u.1.2) : Int × Int) = u.1 from rfl, m2]; rfl
        · exact ⟨u, fun q1 => (hc q1).elim, by rw [if_neg (by simpa using hc)], fun q1 => (hc q1).elim, u2, fun _ => rfl⟩
      -- times the last factor
      obtain ⟨z, hz1, hz2, z2, z3⟩ : ∃ z : (Int × Int) × Int, (v.2 = 0 → F119 F (v.1.1, v.1.2) (by_.1, by_.2) = some z) ∧ ((if (v.2 == 0) = true then ((F21 F (wrapA .i64 ((p : Int) + (q : Int))) (wrapA .i64 ((p : Int) - (q : Int)))).bind fun r86 => (F46 F (v.1.1, v.1.2) (r86.1, r86.2)).bind fun r62 => some (r62.2, (r62.1.1, r62.1.2))) else some (v.2, (v.1.1, v.1.2))) = some (z.2, (z.1.1, z.1.2))) ∧ (z.2 ≠ 0 → z = ((0, 0), 2)) ∧ (v.2 ≠ 0 → z = v) := by
        by_cases hc : v.2 = 0
        · have k1 := v1 hc
          obtain ⟨m1, m2⟩ := mul_both F v.1 by_ hF1 k1 hby
          refine ⟨_, fun _ => m1, ?_, fun q1 => low_zero q1, fun q1 => (q1 hc).elim⟩
          rw [if_pos (by simpa using hc), eby2, Option.bind_some, show ((v.1.1, v.1.2) : Int × Int) = v.1 from rfl, show ((by_.1, by_.2) : Int × Int) = by_ from rfl, m2]; rfl
        · exact ⟨v, fun q1 => (hc q1).elim, by rw [if_neg (by simpa using hc)], v2, fun _ => rfl⟩
      have e43 : F43 F a n p q = some z := by
        unfold F43
        rw [e44, Option.bind_some, if_neg (by decide), if_neg hneq, ew, Option.bind_some, ena]
        by_cases c1 : w.2 = 0
        · rw [if_neg (by simpa using c1)]
          dsimp only
          rw [hu1 c1, Option.bind_some]
          by_cases c2 : u.2 = 0
          · rw [if_neg (by simpa using c2), hv1 c2, Option.bind_some]
            by_cases c3 : v.2 = 0
            · rw [if_neg (by simpa using c3), eby, Option.bind_some, hz1 c3]; rfl
            · rw [if_pos (by simpa using c3), z3 c3, v2 c3]
          · rw [if_pos (by simpa using c2), z3 (by rw [v3 c2]; exact c2), v3 c2, u2 c2]
        · rw [if_pos (by simpa using c1)]
          have c2 : u.2 ≠ 0 := by rw [u3 c1]; exact c1
          rw [z3 (by rw [v3 c2]; exact c2), v3 c2, u3 c1, w2 c1]
      unfold F6
      rw [ew, e43, hcond, if_neg (mt of_decide_eq_true hb)]
      simp only [Option.bind_some]
      rw [e44, eo]
      simp only [Option.bind_some]
      rw [if_neg (by decide), if_neg (by decide), if_neg (by simp), if_neg hneq, ena]
      try dsimp only
      have hu2' := hu2
      have hv2' := hv2
      rw [hu2, Option.bind_some]
      try dsimp only
      rw [hv2, Option.bind_some]
      try dsimp only
      rw [hz2, Option.bind_some]
      by_cases c : z.2 = 0
      · simp [c]
      · rw [z2 c]; rfl
end Go.Proofs.Ytdkmepeolmdccaa

/- What the functional texts of package subset answer. -/
import Derived.Test.YtkfmedmanhcdeaaCombLib
set_option linter.unusedVariables false
set_option linter.unusedSimpArgs false
namespace Go.Proofs.Ytkfmedmanhcdeaa
open Go.Am

theorem choose_eq (F n k : Nat) (hn : n ≤ 16) (hF : 20 ≤ F) : F97 F n k = some (C n k : Int) := by
  unfold F97
  by_cases h : n < k
  · rw [if_pos (by simp; omega), C_gt n k h]; rfl
  · rw [if_neg (by simp; omega)]
    have := iter_count (step := F97_l0 F n k) (F := F) (fun i => ((C n i : Int), (i : Int))) (b := (C n k : Int)) k ?_ ?_ (by omega)
    · rw [show ((1 : Int), (0 : Int)) = ((C n 0 : Int), ((0 : Nat) : Int)) from by rw [C_zero]; rfl, this]; rfl
    · intro i hi
      unfold F97_l0
      simp only
      have c1 := C_le n i
      have p : 2 ^ n ≤ 65536 := Nat.pow_le_pow_right (n := 2) (by omega) hn
      have c2 : C n i * (n - i) ≤ 65536 * 16 := Nat.mul_le_mul (by omega) (by omega)
      have c3 := C_le n (i + 1)
      rw [if_pos (decide_eq_true (by omega)), show (n : Int) - (i : Int) = ((n - i : Nat) : Int) from by omega, w64 (a := ((n - i : Nat) : Int)) (by omega) (by omega), ← Int.natCast_mul, w64 (a := ((C n i * (n - i) : Nat) : Int)) (by omega) (by omega), w64 (a := (i : Int) + 1) (by omega) (by omega), show (i : Int) + 1 = ((i + 1 : Nat) : Int) from rfl]
      unfold quo?
      rw [if_neg (by omega), tdiv_nat, ← C_mul, Nat.mul_div_cancel _ (by omega), w64 (by omega) (by omega)]
      rfl
    · unfold F97_l0
      simp only
      rw [if_neg (by simp)]

/-! ### Ones -/
def ones (n : Nat) : Nat := if h : n = 0 then 0 else n % 2 + ones (n / 2)
theorem ones_zero : ones 0 = 0 := by rw [ones]; simp
theorem ones_rec (n : Nat) : ones n = n % 2 + ones (n / 2) := by
  by_cases h : n = 0
  · subst h; simp [ones_zero]
  · rw [ones, dif_neg h]
theorem ones_pow : ∀ (b t : Nat), t < 2 ^ b → ones (2 ^ b + t) = ones t + 1
  | 0, t, h => by
    have : t = 0 := by simpa using h
    subst this
    rw [ones_rec]; simp [ones_zero]
  | b + 1, t, h => by
    rw [Nat.pow_succ] at h
    rw [ones_rec, ones_rec t, Nat.pow_succ, show (2 ^ b * 2 + t) % 2 = t % 2 from by omega, show (2 ^ b * 2 + t) / 2 = 2 ^ b + t / 2 from by omega, ones_pow b (t / 2) (by omega)]
    omega
theorem ones_le : ∀ (b t : Nat), t < 2 ^ b → ones t ≤ b
  | 0, t, h => by
    have : t = 0 := by simpa using h
    subst this; simp [ones_zero]
  | b + 1, t, h => by
    rw [Nat.pow_succ] at h
    have := ones_le b (t / 2) (by omega)
    rw [ones_rec]; omega
theorem ones_clear : ∀ (n : Nat), 0 < n → ones (n &&& (n - 1)) + 1 = ones n := by
  intro n
  induction n using Nat.strongRecOn with
  | ind n ih =>
    intro h
    have h2 : (n &&& (n - 1)) % 2 = 0 := by
      have := @Nat.and_mod_two_eq_one n (n - 1)
      have h3 : ¬ (n &&& (n - 1)) % 2 = 1 := by rw [this]; omega
      omega
    have h4 : (n &&& (n - 1)) / 2 = n / 2 &&& (n - 1) / 2 := Nat.and_div_two
    rw [ones_rec (n &&& (n - 1)), h2, h4, ones_rec n]
    by_cases ho : n % 2 = 1
    · rw [show (n - 1) / 2 = n / 2 from by omega, Nat.and_self]; omega
    · rw [show (n - 1) / 2 = n / 2 - 1 from by omega, Nat.zero_add, ih (n / 2) (by omega) (by omega)]; omega
theorem ones_mod (s k : Nat) : ones (s % 2 ^ (k + 1)) = ones (s % 2 ^ k) + s / 2 ^ k % 2 := by
  rw [Nat.mod_pow_succ]
  rcases Nat.mod_two_eq_zero_or_one (s / 2 ^ k) with h | h
  · rw [h]; simp
  · rw [h, Nat.mul_one, Nat.add_comm, ones_pow _ _ (Nat.mod_lt _ (Nat.two_pow_pos k))]

theorem refOnes_eq (F s : Nat) (hs : s < 65536) (hF : 20 ≤ F) : F30 F s = some (ones s : Int) := by
  unfold F30
  have := iter_count (step := F30_l0 F s) (F := F) (fun k => ((ones (s % 2 ^ k) : Int), (k : Int))) (b := (ones s : Int)) 16 ?_ ?_ (by omega)
  · rw [show ((0 : Int), (0 : Int)) = ((ones (s % 2 ^ 0) : Int), ((0 : Nat) : Int)) from by simp [Nat.mod_one, ones_zero], this]; rfl
  · intro k hk
    unfold F30_l0
    simp only
    have h1 := ones_le k (s % 2 ^ k) (Nat.mod_lt _ (Nat.two_pow_pos k))
    have h2 : s / 2 ^ k < 65536 := Nat.lt_of_le_of_lt (Nat.div_le_self _ _) hs
    rw [if_pos (decide_eq_true (by omega)), shr_nat s k (by show k ≤ 16; omega)]
    simp only [Option.bind_some]
    rw [show (1 : Int) = ((1 : Nat) : Int) from rfl, and_nat h2 (by omega), Nat.and_one_is_mod, w64 (a := ((s / 2 ^ k % 2 : Nat) : Int)) (by omega) (by omega), ones_mod, w64 (by omega) (by omega), w64 (by omega) (by omega)]
    rfl
  · unfold F30_l0
    simp only
    rw [if_neg (by simp), Nat.mod_eq_of_lt (by simpa using hs)]
theorem sizeLoop (F : Nat) : ∀ (G s c : Nat), s < 65536 → ones s < G → c + ones s ≤ 100 → iter (F29_l0 F) G ((s : Int), (c : Int)) = some ((c + ones s : Nat) : Int)
  | 0, _, _, _, h, _ => by omega
  | G + 1, s, c, hs, hG, hc => by
    by_cases h : s = 0
    · subst h
      refine iter_stop ?_
      unfold F29_l0
      simp [ones_zero]
    · have hcl := ones_clear s (by omega)
      have st : F29_l0 F ((s : Int), (c : Int)) = some (.more (((s &&& (s - 1) : Nat) : Int), ((c + 1 : Nat) : Int))) := by
        unfold F29_l0
        simp only
        rw [if_pos (decide_eq_true (by omega)), show (s : Int) - 1 = ((s - 1 : Nat) : Int) from by omega, wu16 (by omega) (by omega), and_nat hs (by omega), w64 (by omega) (by omega)]
        rfl
      have hlt : s &&& (s - 1) < 65536 := Nat.lt_of_le_of_lt Nat.and_le_left hs
      rw [iter_more st, sizeLoop F G (s &&& (s - 1)) (c + 1) hlt (by omega) (by omega)]
      congr 2; omega
theorem size_eq (F s : Nat) (hs : s < 65536) (hF : 20 ≤ F) : F29 F s = some (ones s : Int) := by
  unfold F29
  have hl := ones_le 16 s (by simpa using hs)
  rw [show (0 : Int) = ((0 : Nat) : Int) from rfl, sizeLoop F F s 0 hs (by omega) (by omega)]
  simp

/-! ### How many below have so many ones -/
def cnt : Nat → Nat → Nat
  | 0, _ => 0
  | N + 1, k => cnt N k + if ones N = k then 1 else 0
theorem cnt_succ (N k : Nat) : cnt (N + 1) k = cnt N k + if ones N = k then 1 else 0 := rfl
theorem cnt_mono {a b : Nat} (k : Nat) (h : a ≤ b) : cnt a k ≤ cnt b k := by
  induction b with
  | zero => rw [show a = 0 from by omega]; exact Nat.le_refl _
  | succ b ih =>
    by_cases e : a = b + 1
    · subst e; exact Nat.le_refl _
    · rw [cnt_succ]; have := ih (by omega); omega
theorem cnt_lt {a b k : Nat} (h : a < b) (hk : ones a = k) : cnt a k + 1 ≤ cnt b k := by
  have := cnt_mono k (show a + 1 ≤ b from h)
  rw [cnt_succ, if_pos hk] at this; exact this
theorem lt_of_cnt {a b k : Nat} (h : cnt a k < cnt b k) : a < b := by
  rcases Nat.lt_or_ge a b with h1 | h1
  · exact h1
  · have := cnt_mono k h1; omega
theorem cnt_le : ∀ (N k : Nat), cnt N k ≤ N
  | 0, _ => Nat.le_refl _
  | N + 1, k => by have := cnt_le N k; rw [cnt_succ]; split <;> omega
theorem cnt_add0 (b : Nat) : ∀ t, t ≤ 2 ^ b → cnt (2 ^ b + t) 0 = cnt (2 ^ b) 0
  | 0, _ => rfl
  | t + 1, h => by
    rw [← Nat.add_assoc, cnt_succ, ones_pow b t (by omega), if_neg (by omega), cnt_add0 b t (by omega), Nat.add_zero]
theorem cnt_add (b k : Nat) : ∀ t, t ≤ 2 ^ b → cnt (2 ^ b + t) (k + 1) = cnt (2 ^ b) (k + 1) + cnt t k
  | 0, _ => rfl
  | t + 1, h => by
    rw [← Nat.add_assoc, cnt_succ, ones_pow b t (by omega), cnt_add b k t (by omega), cnt_succ]
    by_cases e : ones t = k
    · rw [if_pos (by omega), if_pos e]; omega
    · rw [if_neg (by omega), if_neg e]; omega
theorem cnt_pow : ∀ (b k : Nat), cnt (2 ^ b) k = C b k
  | 0, k => by
    rw [Nat.pow_zero, cnt_succ, ones_zero]
    cases k with
    | zero => rfl
    | succ k => simp [cnt, C]
  | b + 1, 0 => by rw [Nat.pow_succ, Nat.mul_two, cnt_add0 b _ (Nat.le_refl _), cnt_pow b 0, C_zero, C_zero]
  | b + 1, k + 1 => by rw [Nat.pow_succ, Nat.mul_two, cnt_add b k _ (Nat.le_refl _), cnt_pow b (k + 1), cnt_pow b k, C_succ]; omega
def rk (s : Nat) : Nat := cnt s (ones s)
theorem rk_le (s : Nat) : rk s ≤ s := cnt_le _ _
theorem rk_pow (b t : Nat) (h : t < 2 ^ b) : rk (2 ^ b + t) = C b (ones t + 1) + rk t := by
  unfold rk
  rw [ones_pow b t h, cnt_add b _ t (by omega), cnt_pow]

theorem refRank_eq (F s : Nat) (hs : s < 65536) (hF : 65600 ≤ F) : F32 F s = some (rk s : Int) := by
  unfold F32
  have := iter_count (step := F32_l0 F s) (F := F) (fun x => ((cnt x (ones s) : Int), (x : Int))) (b := (rk s : Int)) s ?_ ?_ (by omega)
  · rw [show ((0 : Int), (0 : Int)) = ((cnt 0 (ones s) : Int), ((0 : Nat) : Int)) from rfl, this]; rfl
  · intro x hx
    unfold F32_l0
    simp only
    have h1 := cnt_le x (ones s)
    rw [if_pos (decide_eq_true (by omega)), refOnes_eq F x (by omega) (by omega), refOnes_eq F s hs (by omega)]
    simp only [Option.bind_some]
    rw [cnt_succ]
    by_cases e : ones x = ones s
    · rw [if_pos (by simp [e]), if_pos e, w64 (by omega) (by omega), wu16 (by omega) (by omega)]; rfl
    · rw [if_neg (by simp; omega), if_neg e, wu16 (by omega) (by omega)]; rfl
  · unfold F32_l0
    simp only
    rw [if_neg (by simp)]; rfl
theorem of_eq (F s : Nat) (hs : s < 65536) (hF : 20 ≤ F) : F31 F s = some (rk s : Int) := by
  unfold F31
  have := iter_count (step := F31_l0 F s) (F := F) (fun b => ((rk (s % 2 ^ b) : Int), (ones (s % 2 ^ b) : Int), (b : Int))) (b := (rk s : Int)) 16 ?_ ?_ (by omega)
  · rw [show ((0 : Int), (0 : Int), (0 : Int)) = ((rk (s % 2 ^ 0) : Int), (ones (s % 2 ^ 0) : Int), ((0 : Nat) : Int)) from by simp [Nat.mod_one, ones_zero, rk, cnt], this]; rfl
  · intro b hb
    unfold F31_l0
    simp only
    have hm := Nat.mod_lt s (Nat.two_pow_pos b)
    have h1 := ones_le b (s % 2 ^ b) hm
    have h2 : s / 2 ^ b < 65536 := Nat.lt_of_le_of_lt (Nat.div_le_self _ _) hs
    have h3 := rk_le (s % 2 ^ b)
    have h4 := Nat.mod_le s (2 ^ b)
    have h5 := rk_le (s % 2 ^ (b + 1))
    have h6 := Nat.mod_le s (2 ^ (b + 1))
    rw [if_pos (decide_eq_true (by omega)), shr_nat s b (by show b ≤ 16; omega)]
    simp only [Option.bind_some]
    rw [show bit .and .u16 ((s / 2 ^ b : Nat) : Int) 1 = ((s / 2 ^ b % 2 : Nat) : Int) from by rw [show (1 : Int) = ((1 : Nat) : Int) from rfl, and_nat h2 (by omega), Nat.and_one_is_mod]]
    rcases Nat.mod_two_eq_zero_or_one (s / 2 ^ b) with h | h
    · have e : s % 2 ^ (b + 1) = s % 2 ^ b := by rw [Nat.mod_pow_succ, h]; simp
      rw [if_neg (by simp [h]), e, w64 (by omega) (by omega)]; rfl
    · have e : s % 2 ^ (b + 1) = 2 ^ b + s % 2 ^ b := by rw [Nat.mod_pow_succ, h]; omega
      rw [e] at h5
      rw [rk_pow b _ hm] at h5
      rw [if_pos (by simp [h]), w64 (a := (ones (s % 2 ^ b) : Int) + 1) (by omega) (by omega), show (ones (s % 2 ^ b) : Int) + 1 = ((ones (s % 2 ^ b) + 1 : Nat) : Int) from rfl, choose_eq F b _ (by omega) hF]
      simp only [Option.bind_some]
      rw [w64 (by omega) (by omega), w64 (by omega) (by omega), e, rk_pow b _ hm, ones_pow b _ hm]
      congr 3
      omega
  · unfold F31_l0
    simp only
    rw [if_neg (by simp), Nat.mod_eq_of_lt (by simpa using hs)]

/-! ### The set of a rank -/
theorem shl16 (b : Nat) (hb : b < 16) : shl? .u16 1 (b : Int) = some ((2 ^ b : Nat) : Int) := by
  have hp : 2 ^ b ≤ 32768 := Nat.pow_le_pow_right (n := 2) (by omega) (by omega : b ≤ 15)
  unfold shl?
  rw [if_neg (by omega), show ((b : Int).toNat) = b from rfl, Nat.min_eq_left (by show b ≤ 16; omega), Int.one_mul, show ((2 : Int) ^ b) = ((2 ^ b : Nat) : Int) by simp, wu16 (Int.natCast_nonneg _) (Int.ofNat_le.2 (by omega : 2 ^ b ≤ 65535))]
theorem atLoop (F : Nat) (hF : 20 ≤ F) : ∀ (B k r q G : Nat), B ≤ 16 → 2 ^ B * q + 2 ^ B ≤ 65536 → r < C B k → k ≤ 16 → B < G →
    ∃ t, t < 2 ^ B ∧ ones t = k ∧ cnt t k = r ∧ iter (F27_l0 F) G ((k : Int), (r : Int), ((2 ^ B * q : Nat) : Int), (B : Int) - 1) = some ((2 ^ B * q + t : Nat) : Int)
  | B, 0, r, q, G, hB, hq, hr, hk, hG => by
    rw [C_zero] at hr
    obtain ⟨G, rfl⟩ : ∃ g, G = g + 1 := ⟨G - 1, by omega⟩
    refine ⟨0, Nat.two_pow_pos B, ones_zero, by rw [show r = 0 from by omega]; rfl, iter_stop ?_⟩
    unfold F27_l0
    simp
  | 0, k + 1, r, q, G, hB, hq, hr, hk, hG => by simp [C] at hr
  | B + 1, k + 1, r, q, G, hB, hq, hr, hk, hG => by
    obtain ⟨G, rfl⟩ : ∃ g, G = g + 1 := ⟨G - 1, by omega⟩
    rw [C_succ] at hr
    rw [Nat.pow_succ] at hq
    have eq2 : 2 ^ (B + 1) * q = 2 ^ B * (2 * q) := by rw [Nat.pow_succ, Nat.mul_assoc]
    have eq3 : 2 ^ B * 2 * q = 2 ^ B * (2 * q) := by rw [Nat.mul_assoc]
    rw [eq3] at hq
    have c1 := C_le B (k + 1)
    have c2 := C_le B k
    have p : 2 ^ B ≤ 32768 := Nat.pow_le_pow_right (n := 2) (by omega) (by omega : B ≤ 15)
    have hch := choose_eq F B (k + 1) (by omega) hF
    by_cases h : C B (k + 1) ≤ r
    · have e3 : 2 ^ B * (2 * q + 1) = 2 ^ B * (2 * q) + 2 ^ B := by rw [Nat.mul_add, Nat.mul_one]
      obtain ⟨t, t1, t2, t3, t4⟩ := atLoop F hF B k (r - C B (k + 1)) (2 * q + 1) G (by omega) (by rw [e3]; omega) (by omega) (by omega) (by omega)
      refine ⟨2 ^ B + t, by rw [Nat.pow_succ]; omega, by rw [ones_pow B t t1, t2], by rw [cnt_add B k t (by omega), cnt_pow, t3]; omega, ?_⟩
      have st : F27_l0 F (((k + 1 : Nat) : Int), (r : Int), ((2 ^ (B + 1) * q : Nat) : Int), ((B + 1 : Nat) : Int) - 1) = some (.more ((k : Int), ((r - C B (k + 1) : Nat) : Int), ((2 ^ B * (2 * q + 1) : Nat) : Int), (B : Int) - 1)) := by
        unfold F27_l0
        simp only
        rw [if_pos (decide_eq_true (by omega)), show ((B + 1 : Nat) : Int) - 1 = (B : Int) from by omega, hch]
        simp only [Option.bind_some]
        rw [if_pos (decide_eq_true (by omega)), shl16 B (by omega)]
        simp only [Option.bind_some]
        have hor : 2 ^ (B + 1) * q ||| 2 ^ B = 2 ^ B * (2 * q + 1) := by
          rw [← Nat.two_pow_add_eq_or_of_lt (by rw [Nat.pow_succ]; have := Nat.two_pow_pos B; omega) q, eq2, e3]
        rw [or_nat (by rw [eq2]; omega) (by omega), hor, w64 (by omega) (by omega), w64 (by omega) (by omega), w64 (by omega) (by omega)]
        congr 3
        · omega
        · congr 1; omega
      rw [iter_more st, t4]
      congr 2
      rw [e3, eq2]; omega
    · obtain ⟨t, t1, t2, t3, t4⟩ := atLoop F hF B (k + 1) r (2 * q) G (by omega) (by omega) (by omega) (by omega) (by omega)
      refine ⟨t, by rw [Nat.pow_succ]; omega, t2, t3, ?_⟩
      have st : F27_l0 F (((k + 1 : Nat) : Int), (r : Int), ((2 ^ (B + 1) * q : Nat) : Int), ((B + 1 : Nat) : Int) - 1) = some (.more (((k + 1 : Nat) : Int), (r : Int), ((2 ^ B * (2 * q) : Nat) : Int), (B : Int) - 1)) := by
        unfold F27_l0
        simp only
        rw [if_pos (decide_eq_true (by omega)), show ((B + 1 : Nat) : Int) - 1 = (B : Int) from by omega, hch]
        simp only [Option.bind_some]
        rw [if_neg (by rw [decide_eq_true_eq]; omega), w64 (by omega) (by omega), eq2]
      rw [iter_more st, t4, eq2]
theorem at_bad (F : Nat) (k r : Int) (h : k < 0 ∨ k > 16 ∨ r < 0) : F27 F k r = some (0, 1) := by
  unfold F27
  rw [if_pos (by simpa [or_assoc] using h)]
  rfl
theorem at_big (F k r : Nat) (hF : 20 ≤ F) (hk : k ≤ 16) (h : C 16 k ≤ r) : F27 F k r = some (0, 1) := by
  unfold F27
  rw [if_neg (by simp; omega), show (16 : Int) = ((16 : Nat) : Int) from rfl, choose_eq F 16 k (by omega) hF]
  simp only [Option.bind_some]
  rw [if_pos (decide_eq_true (by omega))]
theorem at_in (F k r : Nat) (hF : 20 ≤ F) (hk : k ≤ 16) (h : r < C 16 k) : ∃ t, t < 65536 ∧ ones t = k ∧ cnt t k = r ∧ F27 F k r = some ((t : Int), 0) := by
  obtain ⟨t, t1, t2, t3, t4⟩ := atLoop F hF 16 k r 0 F (by omega) (by omega) h hk (by omega)
  refine ⟨t, t1, t2, t3, ?_⟩
  unfold F27
  rw [if_neg (by simp; omega), show (16 : Int) = ((16 : Nat) : Int) from rfl, choose_eq F 16 k (by omega) hF]
  simp only [Option.bind_some]
  rw [if_neg (by rw [decide_eq_true_eq]; omega)]
  have : iter (F27_l0 F) F ((k : Int), (r : Int), 0, 15) = some (t : Int) := by simpa using t4
  rw [this]; rfl

/-! ### The next set -/
theorem shl64 (n : Nat) (hn : n ≤ 16) : shl? .i64 1 (n : Int) = some ((2 ^ n : Nat) : Int) := by
  have hp : 2 ^ n ≤ 65536 := Nat.pow_le_pow_right (n := 2) (by omega) hn
  unfold shl?
  rw [if_neg (by omega), show ((n : Int).toNat) = n from rfl, Nat.min_eq_left (by show n ≤ 64; omega), Int.one_mul, show ((2 : Int) ^ n) = ((2 ^ n : Nat) : Int) by simp, w64 (Int.le_trans (by decide) (Int.natCast_nonneg _)) (Int.ofNat_le.2 (by omega : 2 ^ n ≤ 9223372036854775807))]
theorem refNext_step (F s n x : Nat) (hF : 20 ≤ F) (hs : s < 65536) (hn : n ≤ 16) (hx : x < 2 ^ n) : F34_l0 F s n (x : Int) = some (if ones x = ones s then .stop (.inr ((x : Int), true)) else .more ((x + 1 : Nat) : Int)) := by
  have hp : 2 ^ n ≤ 65536 := Nat.pow_le_pow_right (n := 2) (by omega) hn
  unfold F34_l0
  rw [shl64 n hn]
  simp only [Option.bind_some]
  rw [if_pos (decide_eq_true (by omega)), wu16 (by omega) (by omega), refOnes_eq F x (by omega) hF, refOnes_eq F s hs hF]
  simp only [Option.bind_some]
  by_cases e : ones x = ones s
  · rw [if_pos (by simp [e]), if_pos e]
  · rw [if_neg (by simp; omega), if_neg e, w64 (by omega) (by omega)]; rfl
theorem refNext_end (F s n : Nat) (hF : 20 ≤ F) (hn : n ≤ 16) (x : Nat) (hx : 2 ^ n ≤ x) : F34_l0 F s n (x : Int) = some (.stop (.inl ())) := by
  unfold F34_l0
  rw [shl64 n hn]
  simp only [Option.bind_some]
  rw [if_neg (by rw [decide_eq_true_eq]; omega)]
theorem refNext_none (F s n : Nat) (hF : 65600 ≤ F) (hn : n ≤ 16) (hs : s < 2 ^ n) (h : ∀ x, s < x → x < 2 ^ n → ones x ≠ ones s) : F34 F s n = some (0, false) := by
  have hp : 2 ^ n ≤ 65536 := Nat.pow_le_pow_right (n := 2) (by omega) hn
  unfold F34
  rw [w64 (a := (s : Int)) (by omega) (by omega), w64 (by omega) (by omega)]
  have := iter_run (step := F34_l0 F s n) (fun x => (x : Int)) (b := .inl ()) (2 ^ n - (s + 1)) (s + 1) F (fun x h1 h2 => by
    rw [refNext_step F s n x (by omega) (by omega) hn (by omega), if_neg (h x (by omega) (by omega))]) (refNext_end F s n (by omega) hn _ (by omega)) (by omega)
  rw [show (s : Int) + 1 = ((s + 1 : Nat) : Int) from rfl, this]
  rfl
theorem refNext_some (F s n t : Nat) (hF : 65600 ≤ F) (hn : n ≤ 16) (hs : s < t) (ht : t < 2 ^ n) (ho : ones t = ones s) (h : ∀ x, s < x → x < t → ones x ≠ ones s) : F34 F s n = some ((t : Int), true) := by
  have hp : 2 ^ n ≤ 65536 := Nat.pow_le_pow_right (n := 2) (by omega) hn
  unfold F34
  rw [w64 (a := (s : Int)) (by omega) (by omega), w64 (by omega) (by omega)]
  have := iter_run (step := F34_l0 F s n) (fun x => (x : Int)) (b := .inr ((t : Int), true)) (t - (s + 1)) (s + 1) F (fun x h1 h2 => by
    rw [refNext_step F s n x (by omega) (by omega) hn (by omega), if_neg (h x (by omega) (by omega))]) (by rw [show s + 1 + (t - (s + 1)) = t from by omega, refNext_step F s n t (by omega) (by omega) hn ht, if_pos ho]) (by omega)
  rw [show (s : Int) + 1 = ((s + 1 : Nat) : Int) from rfl, this]
  rfl
theorem next_bad (F s : Nat) (n : Int) (hs : s < 65536) (h : n < 0 ∨ n > 16 ∨ ∃ m : Nat, n = m ∧ 2 ^ m ≤ s) : F28 F s n = some (0, 1) := by
  unfold F28
  by_cases hn : n < 0 ∨ n > 16
  · rw [if_pos (by simpa using hn)]; rfl
  · rw [if_neg (by simpa using hn)]
    obtain ⟨m, rfl, hm⟩ : ∃ m : Nat, n = m ∧ 2 ^ m ≤ s := by
      rcases h with h | h | h
      · exact (hn (.inl h)).elim
      · exact (hn (.inr h)).elim
      · exact h
    rw [wu32 (by omega) (by omega), shr_nat s m (by show m ≤ 32; omega)]
    simp only [Option.bind_some]
    have : 0 < s / 2 ^ m := Nat.div_pos hm (Nat.two_pow_pos m)
    rw [if_pos (by rw [bne_iff_ne]; exact Int.ne_of_gt (Int.ofNat_lt.2 this))]
theorem next_eq (F s n : Nat) (hF : 20 ≤ F) (hn : n ≤ 16) (hs : s < 2 ^ n) : F28 F s n = if C n (ones s) ≤ rk s + 1 then some (0, 4) else (F27 F (ones s) ((rk s + 1 : Nat) : Int)).bind fun r21 => some (r21.1, r21.2) := by
  have hp : 2 ^ n ≤ 65536 := Nat.pow_le_pow_right (n := 2) (by omega) hn
  have hr := rk_le s
  have h6 : s < 65536 := by omega
  have e1 := size_eq F s h6 hF
  have e2 := of_eq F s h6 hF
  unfold F28
  rw [if_neg (by simp; omega), wu32 (by omega) (by omega), shr_nat s n (by show n ≤ 32; omega)]
  simp only [Option.bind_some]
  rw [Nat.div_eq_of_lt hs, if_neg (by decide), e1, e2]
  rw [Option.bind_some, Option.bind_some]
  clear e1 e2 hp hs
  generalize rk s = r at *
  generalize ones s = k at *
  rw [choose_eq F n _ hn hF, Option.bind_some]
  rw [w64 (by omega) (by omega), show (r : Int) + 1 = ((r + 1 : Nat) : Int) from rfl]
  by_cases h : C n k ≤ r + 1
  · rw [if_pos (decide_eq_true (Int.ofNat_le.2 h)), if_pos h]
  · rw [if_neg (by rw [decide_eq_true_eq]; omega), if_neg h]
theorem next_both (F s n : Nat) (hF : 65600 ≤ F) (hn : n ≤ 16) (hs : s < 2 ^ n) :
    (F28 F s n = some (0, 4) ∧ F34 F s n = some (0, false)) ∨ ∃ t : Int, F28 F s n = some (t, 0) ∧ F34 F s n = some (t, true) := by
  have hp : 2 ^ n ≤ 65536 := Nat.pow_le_pow_right (n := 2) (by omega) hn
  have hk := ones_le 16 s (by omega)
  have hr := rk_le s
  have e := next_eq F s n (by omega) hn hs
  rw [e]
  by_cases h : C n (ones s) ≤ rk s + 1
  · left
    rw [if_pos h]
    refine ⟨rfl, refNext_none F s n hF hn hs fun x h1 h2 ho => ?_⟩
    have q1 := cnt_lt h1 (k := ones s) rfl
    have q2 := cnt_lt h2 ho
    rw [cnt_pow] at q2
    unfold rk at h; omega
  · right
    rw [if_neg h]
    have hC : C n (ones s) ≤ C 16 (ones s) := by
      rw [← cnt_pow, ← cnt_pow]; exact cnt_mono _ (by omega)
    obtain ⟨t, t1, t2, t3, t4⟩ := at_in F (ones s) (rk s + 1) (by omega) hk (by omega)
    rw [t4]
    unfold rk at t3
    have hst : s < t := lt_of_cnt (k := ones s) (by omega)
    have htn : t < 2 ^ n := lt_of_cnt (k := ones s) (by rw [cnt_pow]; unfold rk at h; omega)
    refine ⟨t, rfl, refNext_some F s n t hF hn hst htn t2 fun x h1 h2 ho => ?_⟩
    have q1 := cnt_lt h1 (k := ones s) rfl
    have q2 := cnt_lt h2 ho
    omega

theorem PsubsetSays.holds (t0 : Int) (t1 : Int) (t2 : Int) (t3 : Int) (h0 : inR .i64 t0) (h1 : inR .i64 t1) (h2 : inR .u16 t2) (h3 : inR .i64 t3) : ∃ F, F6 F t0 t1 t2 t3 = some true := by
  refine ⟨70000, ?_⟩
  have ⟨s0, s1⟩ := inR16 h2
  obtain ⟨s, rfl⟩ : ∃ s : Nat, t2 = s := ⟨t2.toNat, by omega⟩
  have hs : s < 65536 := by omega
  -- Choose
  obtain ⟨r1, e1, hmid⟩ : ∃ r1, F26 70000 t0 t1 = some r1 ∧ (if ((((decide (t0 < 0)) || (decide (t0 > 16))) || (decide (t1 < 0))) || (decide (t1 > 16))) = true then
      (if ((r1.2 != 1) || (r1.1 != 0)) = true then some (Sum.inr false) else some (Sum.inl ()))
      else ((if (r1.2 != 0) = true then some true else ((F33 70000 t0 t1).bind fun r41 => some (r1.1 != r41))).bind fun y46 => if y46 = true then some (Sum.inr false) else some (Sum.inl ()))) = some (Sum.inl () : Unit ⊕ Bool) := by
    by_cases hn : ((t0 < 0 ∨ t0 > 16) ∨ t1 < 0) ∨ t1 > 16
    · refine ⟨(0, 1), ?_, ?_⟩
      · unfold F26; rw [if_pos (by simpa using hn)]
      · rw [if_pos (by simpa using hn)]; rfl
    · obtain ⟨n, rfl⟩ : ∃ m : Nat, t0 = m := ⟨t0.toNat, by omega⟩
      obtain ⟨k, rfl⟩ : ∃ m : Nat, t1 = m := ⟨t1.toNat, by omega⟩
      refine ⟨((C n k : Int), 0), ?_, ?_⟩
      · unfold F26; rw [if_neg (by simpa using hn), choose_eq _ n k (by omega) (by decide)]; rfl
      · rw [if_neg (by simpa using hn), refChoose_eq _ n k (by omega) (by decide)]; simp
  -- At
  obtain ⟨r5, e5, hmid2⟩ : ∃ r5, F27 70000 t1 t3 = some r5 ∧ ((if (((decide (t1 < 0)) || (decide (t1 > 16))) || (decide (t3 < 0))) = true then some true else
      ((F33 70000 16 t1).bind fun r61 => some (decide (t3 ≥ r61)))).bind fun y66 =>
      (show Option (Unit ⊕ Bool) from (if y66 = true then (if ((r5.2 != 1) || (r5.1 != 0)) = true then some (.inr false) else some (.inl ()))
      else (if (r5.2 != 0) = true then some true else ((F30 70000 r5.1).bind fun r73 => some (r73 != t1))).bind fun y78 =>
      (if y78 = true then some true else ((F32 70000 r5.1).bind fun r82 => some (r82 != t3))).bind fun y87 =>
      if y87 = true then some (.inr false) else some (.inl ())))) = some (Sum.inl () : Unit ⊕ Bool) := by
    by_cases hn : t1 < 0 ∨ t1 > 16 ∨ t3 < 0
    · refine ⟨(0, 1), at_bad _ _ _ hn, ?_⟩
      rw [if_pos (by simpa [or_assoc] using hn)]
      simp
    · obtain ⟨k, rfl⟩ : ∃ m : Nat, t1 = m := ⟨t1.toNat, by omega⟩
      obtain ⟨r, rfl⟩ : ∃ m : Nat, t3 = m := ⟨t3.toNat, by omega⟩
      have e16 : F33 70000 16 (k : Int) = some (C 16 k : Int) := refChoose_eq _ 16 k (by omega) (by decide)
      by_cases hr : C 16 k ≤ r
      · refine ⟨(0, 1), at_big _ k r (by decide) (by omega) hr, ?_⟩
        rw [if_neg (by simpa [or_assoc] using hn), e16]
        simp only [Option.bind_some]
        rw [if_pos (decide_eq_true (by omega))]; rfl
      · obtain ⟨t, q1, q2, q3, q4⟩ := at_in 70000 k r (by decide) (by omega) (by omega)
        refine ⟨_, q4, ?_⟩
        rw [if_neg (by simpa [or_assoc] using hn), e16]
        simp only [Option.bind_some]
        rw [if_neg (by rw [decide_eq_true_eq]; omega), refOnes_eq _ t q1 (by decide), refRank_eq _ t q1 (by decide)]
        subst q2
        simp [← q3, rk]
  -- Next
  obtain ⟨r9, e9, hfin⟩ : ∃ r9, F28 70000 (s : Int) t0 = some r9 ∧ ((if ((decide (t0 < 0)) || (decide (t0 > 16))) = true then some true else ((shl? .i64 1 t0).bind fun x101 => some (decide ((wrapA .i64 (s : Int)) ≥ x101)))).bind fun y104 =>
      if y104 = true then some ((r9.2 == 1) && (r9.1 == 0)) else (F34 70000 (s : Int) t0).bind fun r108 => if (!r108.2) = true then some ((r9.2 == 4) && (r9.1 == 0)) else some ((r9.2 == 0) && (r9.1 == r108.1))) = some true := by
    by_cases hn : t0 < 0 ∨ t0 > 16
    · refine ⟨(0, 1), next_bad _ s t0 hs (by rcases hn with h | h; exact .inl h; exact .inr (.inl h)), ?_⟩
      rw [if_pos (by simpa using hn)]; rfl
    · obtain ⟨n, rfl⟩ : ∃ m : Nat, t0 = m := ⟨t0.toNat, by omega⟩
      rw [if_neg (by simpa using hn), shl64 n (by omega)]
      simp only [Option.bind_some]
      rw [w64 (by omega) (by omega)]
      by_cases hb : 2 ^ n ≤ s
      · refine ⟨(0, 1), next_bad _ s n hs (.inr (.inr ⟨n, rfl, hb⟩)), ?_⟩
        rw [if_pos (decide_eq_true (by omega))]; rfl
      · rcases next_both 70000 s n (by decide) (by omega) (by omega) with ⟨q1, q2⟩ | ⟨t, q1, q2⟩
        · refine ⟨_, q1, ?_⟩
          rw [if_neg (by rw [decide_eq_true_eq]; omega), q2]; rfl
        · refine ⟨_, q1, ?_⟩
          rw [if_neg (by rw [decide_eq_true_eq]; omega), q2]; simp
  unfold F6
  rw [e1, e5, e9, size_eq _ s hs (by decide), refOnes_eq _ s hs (by decide), of_eq _ s hs (by decide), refRank_eq _ s hs (by decide)]
  simp only [Option.bind_some]
  rw [if_neg (by simp)]
  simp only [Option.bind_some]
  rw [if_neg (by simp), hmid]
  simp only [Option.bind_some]
  have h2' := hmid2
  revert h2' hfin
  generalize (if (((decide (t1 < 0)) || (decide (t1 > 16))) || (decide (t3 < 0))) = true then some true else ((F33 70000 16 t1).bind fun r61 => some (decide (t3 ≥ r61)))) = o
  intro hfin h2'
  cases o with
  | none => simp at h2'
  | some y =>
    simp only [Option.bind_some] at h2' ⊢
    rw [h2']
    exact hfin
end Go.Proofs.Ytkfmedmanhcdeaa

/- The law TopPool, in plain words. -/
import Derived.Test.YtdfalejlhkalhaaSortPerm
import Derived.Test.YtdfalejlhkalhaaIndexLib
import Derived.Test.YtdfalejlhkalhaaMono
set_option linter.unusedVariables false
set_option linter.unusedSimpArgs false
namespace Go.Proofs.Ytdfalejlhkalhaa
open Go.Am

def fac : Nat → Nat
  | 0 => 1
  | n + 1 => (n + 1) * fac n
theorem fac_pos : ∀ n, 0 < fac n
  | 0 => by decide
  | n + 1 => Nat.mul_pos (by omega) (fac_pos n)
theorem fac_succ (n : Nat) : fac (n + 1) = (n + 1) * fac n := rfl
theorem fac_le : ∀ n, n ≤ 7 → fac n ≤ 5040 := by
  intro n hn
  have h : (List.range 8).all (fun n => decide (fac n ≤ 5040)) = true := by decide
  simp only [List.all_eq_true, List.mem_range, decide_eq_true_eq] at h
  exact h n (by omega)
theorem fac_dvd {i : Nat} : ∀ {n : Nat}, i < n → ∃ X, fac n = fac i * ((i + 1) * X)
  | 0, h => by omega
  | n + 1, h => by
    by_cases e : i = n
    · subst e; exact ⟨1, by rw [fac_succ]; simp [Nat.mul_comm]⟩
    · obtain ⟨X, hX⟩ := fac_dvd (i := i) (n := n) (by omega)
      exact ⟨(n + 1) * X, by rw [fac_succ, hX]; ac_rfl⟩

/-! ### Digits -/
def dg (c i : Nat) : Nat := c / fac i % (i + 1)
theorem dg_low {c d n i : Nat} (hi : i < n) : dg (d * fac n + c) i = dg c i := by
  obtain ⟨X, hX⟩ := fac_dvd hi
  unfold dg
  rw [hX, show d * (fac i * ((i + 1) * X)) = fac i * ((i + 1) * (d * X)) from by ac_rfl, Nat.mul_add_div (fac_pos i), Nat.mul_add_mod]
theorem dg_top {c d n : Nat} (hc : c < fac n) (hd : d < n + 1) : dg (d * fac n + c) n = d := by
  unfold dg
  rw [Nat.mul_comm, Nat.mul_add_div (fac_pos n), Nat.div_eq_of_lt hc, Nat.add_zero, Nat.mod_eq_of_lt hd]
theorem dg_lt (c i : Nat) : dg c i < i + 1 := Nat.mod_lt _ (by omega)

/-! ### Who stands at j when those below i have come -/
def lc (c k j : Nat) : Nat → Nat
  | 0 => j
  | i + 1 => if k ≤ i ∧ dg c i = j then i else lc c k j i
theorem lc_small (c k j : Nat) : ∀ i, i ≤ k → lc c k j i = j
  | 0, _ => rfl
  | i + 1, h => by unfold lc; rw [if_neg (by omega)]; exact lc_small c k j i (by omega)
theorem lc_big (c k j i : Nat) (h : k ≤ i) : lc c k j (i + 1) = if dg c i = j then i else lc c k j i := by
  rw [lc]
  by_cases e : dg c i = j
  · rw [if_pos ⟨h, e⟩, if_pos e]
  · rw [if_neg (fun q => e q.2), if_neg e]
theorem lc_congr {c c' k j : Nat} : ∀ {n : Nat}, (∀ i, i < n → dg c i = dg c' i) → lc c k j n = lc c' k j n
  | 0, _ => rfl
  | n + 1, h => by
    unfold lc
    rw [h n (by omega), lc_congr (n := n) fun i hi => h i (by omega)]
theorem lc_cases (c k j : Nat) : ∀ n, lc c k j n = j ∨ (k ≤ lc c k j n ∧ lc c k j n < n ∧ dg c (lc c k j n) = j)
  | 0 => .inl rfl
  | n + 1 => by
    rw [lc]
    by_cases h : k ≤ n ∧ dg c n = j
    · rw [if_pos h]; exact .inr ⟨h.1, by omega, h.2⟩
    · rw [if_neg h]
      rcases lc_cases c k j n with h1 | ⟨h1, h2, h3⟩
      · exact .inl h1
      · exact .inr ⟨h1, by omega, h3⟩
theorem lc_inj {c k j j' n : Nat} (hj : j < k) (hj' : j' < k) (h : lc c k j n = lc c k j' n) : j = j' := by
  rcases lc_cases c k j n with h1 | ⟨h1, h2, h3⟩ <;> rcases lc_cases c k j' n with g1 | ⟨g1, g2, g3⟩
  · omega
  · omega
  · omega
  · rw [h] at h3; omega
def InP (c k e n : Nat) : Prop := ∃ j, j < min n k ∧ lc c k j n = e
instance (c k e n : Nat) : Decidable (InP c k e n) := by unfold InP; infer_instance

/-! ### Counting -/
def sn : Nat → (Nat → Nat) → Nat
  | 0, _ => 0
  | k + 1, f => sn k f + f k
theorem sn_congr {f g : Nat → Nat} : ∀ {k : Nat}, (∀ i, i < k → f i = g i) → sn k f = sn k g
  | 0, _ => rfl
  | k + 1, h => by show sn k f + f k = sn k g + g k; rw [sn_congr fun i hi => h i (by omega), h k (by omega)]
theorem sn_add (f g : Nat → Nat) : ∀ k, sn k (fun i => f i + g i) = sn k f + sn k g
  | 0 => rfl
  | k + 1 => by show sn k (fun i => f i + g i) + (f k + g k) = (sn k f + f k) + (sn k g + g k); rw [sn_add f g k]; omega
theorem sn_zero : ∀ k, sn k (fun _ => 0) = 0
  | 0 => rfl
  | k + 1 => by show sn k _ + 0 = 0; rw [sn_zero k]
theorem sn_const (a : Nat) : ∀ k, sn k (fun _ => a) = k * a
  | 0 => by simp [sn]
  | k + 1 => by show sn k _ + a = _; rw [sn_const a k, Nat.add_mul, Nat.one_mul]
theorem sn_mul (a : Nat) (f : Nat → Nat) : ∀ k, sn k (fun i => a * f i) = a * sn k f
  | 0 => by simp [sn]
  | k + 1 => by show sn k _ + a * f k = a * (sn k f + f k); rw [sn_mul a f k, Nat.mul_add]
theorem sn_swap (f : Nat → Nat → Nat) (b : Nat) : ∀ a, sn a (fun d => sn b (fun c => f d c)) = sn b (fun c => sn a (fun d => f d c))
  | 0 => by show 0 = sn b (fun _ => 0); rw [sn_zero]
  | a + 1 => by
    show sn a _ + sn b (fun c => f a c) = sn b (fun c => sn a (fun d => f d c) + f a c)
    rw [sn_add, sn_swap f b a]
theorem sn_split (f : Nat → Nat) (a : Nat) : ∀ b, sn (a + b) f = sn a f + sn b (fun c => f (a + c))
  | 0 => rfl
  | b + 1 => by show sn (a + b) f + f (a + b) = _; rw [sn_split f a b]; show _ = sn a f + (sn b _ + f (a + b)); omega
theorem sn_blocks (f : Nat → Nat) (b : Nat) : ∀ a, sn (a * b) f = sn a (fun d => sn b (fun c => f (d * b + c)))
  | 0 => by rw [Nat.zero_mul]; rfl
  | a + 1 => by rw [Nat.add_mul, Nat.one_mul, sn_split, sn_blocks f b a]; rfl
def bn (p : Prop) [Decidable p] : Nat := if p then 1 else 0
theorem sn_below (k : Nat) : ∀ n, sn n (fun d => bn (d < k)) = min n k
  | 0 => by simp [sn]
  | n + 1 => by
    show sn n _ + bn (n < k) = _
    rw [sn_below k n]; unfold bn; split <;> omega
theorem sn_one (q : Nat) : ∀ n, sn n (fun d => bn (d = q)) = bn (q < n)
  | 0 => by simp [sn, bn]
  | n + 1 => by
    show sn n _ + bn (n = q) = _
    rw [sn_one q n]; unfold bn; split <;> split <;> split <;> omega
theorem sn_but (n q : Nat) (h : q < n) : sn n (fun d => bn (d ≠ q)) + 1 = n := by
  have h1 := sn_add (fun d => bn (d ≠ q)) (fun d => bn (d = q)) n
  have h2 : sn n (fun d => bn (d ≠ q) + bn (d = q)) = sn n (fun _ => 1) := sn_congr fun i _ => by by_cases e : i = q <;> simp [bn, e]
  rw [h2, sn_const, sn_one] at h1
  unfold bn at h1 ⊢
  rw [if_pos h] at h1
  omega
/-- How often e is drawn. -/
def cn (n k e : Nat) : Nat := sn (fac n) fun c => bn (InP c k e n)
theorem inP_small {c k e n : Nat} (hn : n ≤ k) (he : e < n) : InP c k e n := ⟨e, by omega, lc_small c k e n hn⟩
theorem inP_new {c d k n : Nat} (hk : k ≤ n) (hc : c < fac n) (hd : d < n + 1) : InP (d * fac n + c) k n (n + 1) ↔ d < k := by
  unfold InP
  constructor
  · rintro ⟨j, h1, h2⟩
    rw [lc_big _ _ _ _ hk, dg_top hc hd] at h2
    by_cases e : d = j
    · omega
    · rw [if_neg e] at h2
      rcases lc_cases (d * fac n + c) k j n with h3 | ⟨_, h3, _⟩ <;> omega
  · intro h
    exact ⟨d, by omega, by rw [lc_big _ _ _ _ hk, dg_top hc hd, if_pos rfl]⟩
theorem inP_old {c d k e n : Nat} (hk : k ≤ n) (hc : c < fac n) (hd : d < n + 1) (he : e < n) : InP (d * fac n + c) k e (n + 1) ↔ ∃ j, j < min n k ∧ lc c k j n = e ∧ d ≠ j := by
  have hl : ∀ j, lc (d * fac n + c) k j n = lc c k j n := fun j => lc_congr fun i hi => dg_low hi
  unfold InP
  constructor
  · rintro ⟨j, h1, h2⟩
    rw [lc_big _ _ _ _ hk, dg_top hc hd, hl] at h2
    by_cases ed : d = j
    · rw [if_pos ed] at h2; omega
    · rw [if_neg ed] at h2
      exact ⟨j, by omega, h2, ed⟩
  · rintro ⟨j, h1, h2, h3⟩
    exact ⟨j, by omega, by rw [lc_big _ _ _ _ hk, dg_top hc hd, if_neg h3, hl]; exact h2⟩
theorem bn_congr {p q : Prop} [Decidable p] [Decidable q] (h : p ↔ q) : bn p = bn q := by unfold bn; simp [h]
theorem bn_true {p : Prop} [Decidable p] (h : p) : bn p = 1 := if_pos h
theorem bn_false {p : Prop} [Decidable p] (h : ¬ p) : bn p = 0 := if_neg h
theorem cn_eq (k e : Nat) (hk : 1 ≤ k) : ∀ n, e < n → cn n k e * n = fac n * min n k
  | 0, h => by omega
  | n + 1, h => by
    by_cases hn : n < k
    · unfold cn
      rw [sn_congr (g := fun _ => 1) fun c _ => bn_true (inP_small (by omega) h), sn_const, Nat.mul_one, Nat.min_eq_left (by omega)]
    · unfold cn
      rw [Nat.min_eq_right (by omega), fac_succ, sn_blocks, sn_swap]
      by_cases he : e = n
      · subst he
        have e1 : sn (fac e) (fun c => sn (e + 1) fun d => bn (InP (d * fac e + c) k e (e + 1))) = sn (fac e) fun _ => k := sn_congr fun c hc => by
          rw [sn_congr (g := fun d => bn (d < k)) fun d hd => bn_congr (inP_new (by omega) hc hd), sn_below]; omega
        rw [e1, sn_const, Nat.mul_comm (fac e) k, Nat.mul_assoc, Nat.mul_comm k]
        rw [Nat.mul_comm (fac e)]
      · have ih := cn_eq k e hk n (by omega)
        rw [Nat.min_eq_right (by omega)] at ih
        have e1 : sn (fac n) (fun c => sn (n + 1) fun d => bn (InP (d * fac n + c) k e (n + 1))) = sn (fac n) fun c => n * bn (InP c k e n) := sn_congr fun c hc => by
          by_cases hin : InP c k e n
          · obtain ⟨j, j1, j2⟩ := hin
            have hin : InP c k e n := ⟨j, j1, j2⟩
            rw [bn_true hin, Nat.mul_one]
            rw [sn_congr (g := fun d => bn (d ≠ j)) fun d hd => bn_congr ((inP_old (by omega) hc hd (by omega)).trans ⟨fun ⟨j', q1, q2, q3⟩ => by
              have := lc_inj (c := c) (n := n) (by omega : j' < k) (by omega : j < k) (by rw [q2, j2])
              omega, fun q => ⟨j, j1, j2, q⟩⟩)]
            have := sn_but (n + 1) j (by omega)
            omega
          · rw [bn_false hin, Nat.mul_zero]
            rw [sn_congr (g := fun _ => 0) fun d hd => bn_false fun q => by
              obtain ⟨j, q1, q2, _⟩ := (inP_old (by omega) hc hd (by omega)).1 q
              exact hin ⟨j, q1, q2⟩]
            exact sn_zero _
        rw [e1, sn_mul]
        have e2 : sn (fac n) (fun c => bn (InP c k e n)) = cn n k e := rfl
        rw [e2, Nat.mul_comm n, ih, Nat.mul_assoc, Nat.mul_comm k, ← Nat.mul_assoc, Nat.mul_comm (fac n)]

/-! ### The functions -/
theorem works_ok : F63 6000 = some true := by kernel_rfl
theorem fact_eq (F n : Nat) (hn : n ≤ 7) (hF : 20 ≤ F) : F109 F n = some (fac n : Int) := by
  unfold F109
  have := iter_count (step := F109_l0 F n) (F := F) (fun i => ((fac (i + 1) : Int), ((i + 2 : Nat) : Int))) (b := (fac n : Int)) (n - 1) ?_ ?_ (by omega)
  · rw [show ((1 : Int), (2 : Int)) = ((fac (0 + 1) : Int), ((0 + 2 : Nat) : Int)) from rfl, this, Option.bind_some]
  · intro i hi
    unfold F109_l0
    simp only
    have h1 : (i + 2) * fac (i + 1) ≤ 5040 := fac_le (i + 2) (by omega)
    rw [if_pos (decide_eq_true (by omega)), Int.mul_comm, wmul (by omega), wsuc (by omega)]
    rfl
  · unfold F109_l0
    simp only
    rw [if_neg (by rw [decide_eq_true_eq]; omega)]
    by_cases h : n = 0
    · subst h; rfl
    · rw [show n - 1 + 1 = n from by omega]
theorem count_eq (F n : Nat) (hn : n ≤ 7) (hF : 20 ≤ F) : F65 F n = some ((fac n : Int), 0) := by
  unfold F65
  rw [if_neg (by simp only [Bool.or_eq_true, decide_eq_true_eq]; omega), fact_eq F n hn hF, Option.bind_some]
theorem within_eq (F : Nat) (t : Int) (m : Nat) (hm : 0 < m) (hm2 : m ≤ 100) : ∃ x : Nat, x < m ∧ F61 F t m = some (x : Int) := by
  unfold F61 F105
  have h1 := Int.tmod_lt_of_pos t (show (0 : Int) < (m : Int) from by omega)
  have h2 := Int.lt_tmod_of_pos t (show (0 : Int) < (m : Int) from by omega)
  have hr : rem? t (m : Int) = some (t.tmod m) := by unfold rem?; rw [if_neg (by omega)]
  rw [hr, Option.bind_some]
  by_cases h : t.tmod m < 0
  · rw [if_pos (decide_eq_true h), Option.bind_some, w64 (by omega) (by omega)]
    exact ⟨(t.tmod m + m).toNat, by omega, by rw [Int.toNat_of_nonneg (by omega)]⟩
  · rw [if_neg (mt of_decide_eq_true h), Option.bind_some]
    exact ⟨(t.tmod m).toNat, by omega, by rw [Int.toNat_of_nonneg (by omega)]⟩
def dgs (N c : Nat) : List Int := tb N fun i => (dg c i : Int)
theorem digits_eq (F n c : Nat) (hn : n ≤ 6) (hc : c ≤ 5040) (hF : 40 ≤ F) : iter (F11_l0 F (n : Int)) F ((c : Int), [], 0) = some (dgs (n + 1) c) := by
  have := iter_count (step := F11_l0 F (n : Int)) (F := F) (fun i => (((c / fac i : Nat) : Int), dgs i c, (i : Int))) (b := dgs (n + 1) c) (n + 1) ?_ ?_ (by omega)
  · rw [← this]
    congr 2
    show (c : Int) = ((c / 1 : Nat) : Int)
    rw [Nat.div_one]
  · intro i hi
    unfold F11_l0
    simp only
    have hle : c / fac i ≤ 5040 := Nat.le_trans (Nat.div_le_self _ _) hc
    have e1 : wrapA .i64 (1 + (n : Int)) = ((n + 1 : Nat) : Int) := by rw [Int.add_comm, wsuc (by omega)]
    have e2 : rem? ((c / fac i : Nat) : Int) ((i + 1 : Nat) : Int) = some (dg c i : Int) := by
      unfold rem?; rw [if_neg (by omega), tmod_nat]; rfl
    have e3 : quo? .i64 ((c / fac i : Nat) : Int) ((i + 1 : Nat) : Int) = some ((c / fac (i + 1) : Nat) : Int) := by
      have h4 : c / fac i / (i + 1) = c / fac (i + 1) := by rw [Nat.div_div_eq_div_mul, fac_succ, Nat.mul_comm]
      have h5 : c / fac (i + 1) ≤ 5040 := Nat.le_trans (Nat.div_le_self _ _) hc
      unfold quo?
      rw [if_neg (by omega), tdiv_nat, h4, wnat (Nat.le_trans h5 (by decide))]
    rw [e1, if_pos (decide_eq_true (by omega)), wsuc (by omega), e2, Option.bind_some, app?_ok (by unfold dgs; rw [tb_len]; simp; omega), Option.bind_some, e3, Option.bind_some]
    unfold dgs
    rw [tb_succ]
  · unfold F11_l0
    simp only
    have e1 : wrapA .i64 (1 + (n : Int)) = ((n + 1 : Nat) : Int) := by rw [Int.add_comm, wsuc (by omega)]
    rw [e1, if_neg (by simp)]
def poolL (N c k : Nat) : List Int := tb (min N k) fun j => (lc c k j N : Int)
theorem run_eq (F k N c : Nat) (hF : 40 ≤ F) (hk : 1 ≤ k ∧ k ≤ 12) (hN : N ≤ 30) : F121 F k (dgs N c) = some (poolL N c k, 0) := by
  have hlen : (dgs N c).length = N := tb_len _ _
  have hat : ∀ i, i < N → at? (dgs N c) (i : Int) = some (dg c i : Int) := fun i hi => tb_get hi
  have hck : F139 F k (dgs N c) = some 0 := by
    unfold F139
    rw [if_neg (by simp only [Bool.or_eq_true, decide_eq_true_eq]; omega), if_neg (by rw [hlen, decide_eq_true_eq]; omega)]
    have := iter_count (step := F139_l0 F (dgs N c)) (F := F) (b := (.inl () : Unit ⊕ Int)) (fun i => (i : Int)) N (fun i hi => by
      unfold F139_l0
      have h1 := dg_lt c i
      rw [hlen, if_pos (decide_eq_true (by omega)), hat i hi, Option.bind_some, if_neg (by simp only [Bool.or_eq_true, decide_eq_true_eq]; omega), wsuc (by omega)]) (by unfold F139_l0; rw [hlen, if_neg (by simp)]) (by omega)
    rw [show (0 : Int) = ((0 : Nat) : Int) from rfl, this]; rfl
  unfold F121
  rw [hck, Option.bind_some, if_neg (by decide)]
  have := iter_count (step := F121_l0 F k (dgs N c)) (F := F) (fun i => (tb (min i k) fun j => (lc c k j i : Int), (i : Int))) (b := poolL N c k) N ?_ ?_ (by omega)
  · rw [show (([] : List Int), (0 : Int)) = (tb (min 0 k) fun j => (lc c k j 0 : Int), ((0 : Nat) : Int)) from by rw [Nat.zero_min]; rfl, this, Option.bind_some]
  · intro i hi
    have h1 := dg_lt c i
    unfold F121_l0
    simp only
    rw [hlen, if_pos (decide_eq_true (by omega)), hat i hi, Option.bind_some, wsuc (by omega)]
    by_cases hik : i < k
    · rw [if_pos (decide_eq_true (by omega)), app?_ok (by rw [tb_len]; simp; omega), Option.bind_some]
      congr 3
      rw [Nat.min_eq_left (by omega), Nat.min_eq_left (by omega), tb_succ, lc_small c k i (i + 1) (by omega)]
      congr 1
      exact tb_congr fun j hj => by rw [lc_small c k j i (by omega), lc_small c k j (i + 1) (by omega)]
    · rw [if_neg (by rw [decide_eq_true_eq]; omega)]
      have e1 : min i k = k := by omega
      have e2 : min (i + 1) k = k := by omega
      rw [e1, e2]
      by_cases hx : (dg c i : Int) < k
      · rw [if_pos (decide_eq_true hx), tb_ck (by omega), Option.bind_some, Int.toNat_natCast, tb_set]
        congr 3
        refine tb_congr fun j hj => ?_
        rw [lc_big c k j i (by omega)]
        by_cases e : j = dg c i
        · subst e; simp
        · rw [if_neg e, if_neg (fun q => e q.symm)]
      · rw [if_neg (mt of_decide_eq_true hx)]
        congr 3
        refine tb_congr fun j hj => ?_
        rw [lc_big c k j i (by omega), if_neg (by omega)]
  · unfold F121_l0
    simp only
    rw [hlen, if_neg (by simp)]
    rfl
theorem mem_pool (N c k e : Nat) : (e : Int) ∈ poolL N c k ↔ InP c k e N := by
  unfold poolL InP tb
  simp only [List.mem_map, List.mem_range]
  constructor
  · rintro ⟨j, h1, h2⟩; exact ⟨j, h1, by omega⟩
  · rintro ⟨j, h1, h2⟩; exact ⟨j, h1, by omega⟩
theorem PtopPool.holds (t0 : Int) (t1 : Int) (t2 : Int) (h0 : inR .i64 t0) (h1 : inR .i64 t1) (h2 : inR .i64 t2) : ∃ F, F11 F t0 t1 t2 = some true := by
  refine ⟨6000, ?_⟩
  have hF : 5041 + 900 ≤ 6000 := by decide
  have hw := works_ok
  generalize 6000 = F at hF hw
  unfold F11
  obtain ⟨n, hn, en⟩ := within_eq F t0 6 (by decide) (by decide)
  obtain ⟨k, hk, ek⟩ := within_eq F t1 6 (by decide) (by decide)
  have e1 : wrapA .i64 (1 + (n : Int)) = ((n + 1 : Nat) : Int) := by rw [Int.add_comm, wsuc (by omega)]
  have e2 : wrapA .i64 (1 + (k : Int)) = ((k + 1 : Nat) : Int) := by rw [Int.add_comm, wsuc (by omega)]
  obtain ⟨e, he, ee⟩ := within_eq F t2 (n + 1) (by omega) (by omega)
  rw [show (6 : Int) = ((6 : Nat) : Int) from rfl, en, Option.bind_some, ek, Option.bind_some, e1, ee, Option.bind_some, count_eq F (n + 1) (by omega) (by omega), Option.bind_some, hw, Option.bind_some, if_neg (by simp)]
  have hfac := fac_le (n + 1) (by omega)
  have hloop := iter_count (step := F11_l1 F (n : Int) (k : Int) (e : Int) ((fac (n + 1) : Int), 0)) (F := F) (fun c => (((sn c fun c => bn (InP c (k + 1) e (n + 1)) : Nat) : Int), (c : Int))) (b := (.inl ((cn (n + 1) (k + 1) e : Nat) : Int) : Int ⊕ Bool)) (fac (n + 1)) ?_ ?_ (by omega)
  · rw [show ((0 : Int), (0 : Int)) = (((sn 0 fun c => bn (InP c (k + 1) e (n + 1)) : Nat) : Int), ((0 : Nat) : Int)) from rfl, hloop, Option.bind_some]
    dsimp only
    have hc := cn_eq (k + 1) e (by omega) (n + 1) he
    have hm : minI ((k + 1 : Nat) : Int) ((n + 1 : Nat) : Int) = ((min (n + 1) (k + 1) : Nat) : Int) := by unfold minI; split <;> omega
    rw [e2, hm, ← Int.natCast_mul, ← Int.natCast_mul, hc]
    simp
  · intro c hc
    unfold F11_l1
    simp only
    rw [if_pos (decide_eq_true (by omega)), digits_eq F n c (by omega) (by omega) (by omega), Option.bind_some, e2]
    have hpl : (poolL (n + 1) c (k + 1)).length ≤ 7 := by unfold poolL; rw [tb_len]; omega
    obtain ⟨M, hM, hMp⟩ := sort_perm F (poolL (n + 1) c (k + 1)) (by omega) (by omega)
    have hch : F80 F ((k + 1 : Nat) : Int) (dgs (n + 1) c) = some (M, 0) := by
      unfold F80
      rw [run_eq F (k + 1) (n + 1) c (by omega) (by omega) (by omega), Option.bind_some, hM, Option.bind_some]
    have hMl := hMp.length_eq
    have hco : F81 F M (e : Int) = some (decide (InP c (k + 1) e (n + 1))) := by
      rw [contains_eq F M e (by omega) (by omega)]
      congr 1
      exact decide_eq_decide.2 (hMp.mem_iff.trans (mem_pool _ _ _ _))
    have hsn : sn c (fun c => bn (InP c (k + 1) e (n + 1))) ≤ 5040 := by
      have : ∀ q, sn q (fun c => bn (InP c (k + 1) e (n + 1))) ≤ q := by
        intro q
        induction q with
        | zero => exact Nat.le_refl _
        | succ q ih => show sn q _ + bn _ ≤ q + 1; unfold bn at ih ⊢; split <;> omega
      have := this c
      omega
    rw [hch, Option.bind_some, if_neg (by simp), hco, Option.bind_some, wsuc (by omega), wsuc (a := c) (by omega)]
    have hs : sn (c + 1) (fun c => bn (InP c (k + 1) e (n + 1))) = sn c (fun c => bn (InP c (k + 1) e (n + 1))) + bn (InP c (k + 1) e (n + 1)) := rfl
    rw [hs]
    by_cases hin : InP c (k + 1) e (n + 1)
    · rw [if_pos (decide_eq_true hin), bn_true hin]
    · rw [if_neg (mt of_decide_eq_true hin), bn_false hin]; rfl
  · unfold F11_l1
    simp only
    rw [if_neg (by simp)]
    rfl
end Go.Proofs.Ytdfalejlhkalhaa

/- What the functional texts of package nests answer. -/
import Derived.Test.YtkfmedmanhcdeaaCombLib
import Derived.Test.YtkfmedmanhcdeaaPnestsB
set_option linter.unusedVariables false
set_option linter.unusedSimpArgs false
namespace Go.Proofs.Ytkfmedmanhcdeaa
open Go.Am

/-! ### Ways from 0 to a height -/
def W : Nat → Nat → Nat
  | 0, 0 => 1
  | 0, _ + 1 => 0
  | m + 1, 0 => W m 1
  | m + 1, h + 1 => W m (h + 2) + W m h
theorem W_zero (m : Nat) : W (m + 1) 0 = W m 1 := rfl
theorem W_succ (m h : Nat) : W (m + 1) (h + 1) = W m (h + 2) + W m h := rfl
theorem W_gt : ∀ (m h : Nat), m < h → W m h = 0
  | 0, h + 1, _ => rfl
  | m + 1, h + 1, k => by rw [W_succ, W_gt m (h + 2) (by omega), W_gt m h (by omega)]
theorem W_le : ∀ (m h : Nat), W m h ≤ 2 ^ m
  | 0, 0 => Nat.le_refl _
  | 0, _ + 1 => Nat.zero_le _
  | m + 1, 0 => by have := W_le m 1; rw [W_zero, Nat.pow_succ]; omega
  | m + 1, h + 1 => by have := W_le m (h + 2); have := W_le m h; rw [W_succ, Nat.pow_succ]; omega
theorem W_30 {m : Nat} (h : Nat) (hm : m ≤ 31) : W m h ≤ 2147483648 :=
  Nat.le_trans (W_le m h) (Nat.pow_le_pow_right (n := 2) (by omega) hm)
theorem W_next (m h : Nat) : W (m + 1) h = W m (h + 1) + if h = 0 then 0 else W m (h - 1) := by
  cases h with
  | zero => rw [W_zero]; simp
  | succ h => rw [W_succ]; simp
theorem wgo_get : ∀ (l : List Nat) (h : Nat), (wgo l).getD h 0 = l.getD h 0 + l.getD (h + 2) 0
  | [], h => by simp [wgo]
  | x :: t, 0 => by simp [wgo]
  | x :: t, h + 1 => by
    have := wgo_get t h
    simp only [wgo, List.getD_cons_succ] at this ⊢
    exact this
theorem wrow_get : ∀ (m h : Nat), (wrow m).getD h 0 = W m h
  | 0, 0 => rfl
  | 0, _ + 1 => rfl
  | m + 1, 0 => by rw [W_zero, ← wrow_get m 1]; rfl
  | m + 1, h + 1 => by
    rw [W_succ, ← wrow_get m h, ← wrow_get m (h + 2)]
    simp only [wrow, List.getD_cons_succ]
    rw [wgo_get]; omega
theorem pgo_get : ∀ (l : List Nat) (k : Nat), (pgo l).getD k 0 = l.getD k 0 + l.getD (k + 1) 0
  | [], k => by simp [pgo]
  | x :: t, 0 => by simp [pgo]
  | x :: t, k + 1 => by
    have := pgo_get t k
    simp only [pgo, List.getD_cons_succ] at this ⊢
    exact this
theorem prow_get : ∀ (n k : Nat), (prow n).getD k 0 = C n k
  | 0, 0 => rfl
  | 0, _ + 1 => rfl
  | n + 1, 0 => by rw [C_zero]; rfl
  | n + 1, k + 1 => by
    rw [C_succ, ← prow_get n k, ← prow_get n (k + 1)]
    simp only [prow, List.getD_cons_succ]
    rw [pgo_get]

/-- What one round has given to place j, the first h places told. -/
def Aw (r h j : Nat) : Int := (if j + 1 < h then (W r (j + 1) : Int) else 0) + (if 1 ≤ j ∧ j - 1 < h then (W r (j - 1) : Int) else 0)
theorem Aw_le {r : Nat} (h j : Nat) (hr : r ≤ 31) : 0 ≤ Aw r h j ∧ Aw r h j ≤ 4294967296 := by
  have h1 := W_30 (j + 1) hr
  have h2 := W_30 (j - 1) hr
  unfold Aw
  split <;> split <;> omega
theorem waysIn_eq (F G s r i : Nat) (hs : s ≤ 30) (hr : r < s) (hG : s + 2 < G) : iter (F117_l0 F (tab (s + 2) (fun h => (W r h : Int)), (i : Int))) G (0, tab (s + 2) fun _ => 0) = some (tab (s + 2) fun h => (W (r + 1) h : Int)) := by
  have := iter_count (step := F117_l0 F (tab (s + 2) (fun h => (W r h : Int)), (i : Int))) (F := G) (fun h => ((h : Int), tab (s + 2) (Aw r h))) (b := tab (s + 2) fun h => (W (r + 1) h : Int)) (s + 2) ?_ ?_ hG
  · rw [← this]
    congr 2
    apply tab_congr; intro j hj
    unfold Aw; rw [if_neg (by omega), if_neg (by omega)]; rfl
  · intro h hh
    have b1 := W_30 h (show r ≤ 31 by omega)
    unfold F117_l0
    simp only
    rw [if_pos (decide_eq_true (by rw [tab_len]; omega)), tab_get hh, Option.bind_some]
    have e1 : (if decide ((h : Int) > 0) = true then ((at? (tab (s + 2) (Aw r h)) (wrapA .i64 ((h : Int) - 1))).bind fun x36 => (ck (tab (s + 2) (Aw r h)) (wrapA .i64 ((h : Int) - 1))).bind fun u38 => some ((tab (s + 2) (Aw r h)).set ((Int.toNat (wrapA .i64 ((h : Int) - 1)))) ((wrapA .i64 (x36 + (W r h : Int)))))) else some (tab (s + 2) (Aw r h))) = some (tab (s + 2) fun j => (if j + 1 < h + 1 then (W r (j + 1) : Int) else 0) + (if 1 ≤ j ∧ j - 1 < h then (W r (j - 1) : Int) else 0)) := by
      by_cases h0 : 0 < h
      · have b2 := Aw_le h (h - 1) (show r ≤ 31 by omega)
        rw [if_pos (decide_eq_true (by omega)), w64 (by omega) (by omega), show (h : Int) - 1 = ((h - 1 : Nat) : Int) from by omega, tab_get (by omega), Option.bind_some, ck_ok (by rw [tab_len]; omega), Option.bind_some, w64 (by omega) (by omega), Int.toNat_natCast, tab_set]
        congr 1
        apply tab_congr
        intro j hj
        by_cases e : j = h - 1
        · subst e
          rw [if_pos rfl, if_pos (by omega)]
          unfold Aw
          rw [if_neg (by omega), show h - 1 + 1 = h from by omega]; omega
        · rw [if_neg e]
          unfold Aw
          congr 1
          by_cases h2 : j + 1 < h
          · rw [if_pos h2, if_pos (by omega)]
          · rw [if_neg h2, if_neg (by omega)]
      · rw [if_neg (by simp <;> omega)]
        congr 1
        apply tab_congr
        intro j hj
        unfold Aw
        rw [if_neg (by omega), if_neg (by omega), if_neg (by omega)]
    rw [e1, Option.bind_some, w64 (a := (h : Int) + 1) (by omega) (by omega), show (h : Int) + 1 = ((h + 1 : Nat) : Int) from rfl, tab_len]
    by_cases h2 : h + 1 < s + 2
    · rw [if_pos (decide_eq_true (by omega)), tab_get h2, Option.bind_some, ck_ok (by rw [tab_len]; omega), Option.bind_some, if_neg (by omega), if_neg (by omega), Int.toNat_natCast, tab_set, w64 (by omega) (by omega)]
      congr 3
      apply tab_congr
      intro j hj
      unfold Aw
      by_cases e : j = h + 1
      · subst e
        rw [if_pos rfl, if_neg (by omega), if_pos (by omega)]; simp
      · rw [if_neg e]
        congr 1
        by_cases h3 : 1 ≤ j ∧ j - 1 < h
        · rw [if_pos h3, if_pos (by omega)]
        · rw [if_neg h3, if_neg (by omega)]
    · rw [if_neg (by rw [decide_eq_true_eq]; omega)]
      congr 3
      apply tab_congr
      intro j hj
      unfold Aw
      congr 1
      by_cases h3 : 1 ≤ j ∧ j - 1 < h
      · rw [if_pos h3, if_pos (by omega)]
      · rw [if_neg h3, if_neg (by omega)]
  · unfold F117_l0
    simp only
    rw [if_neg (by rw [decide_eq_true_eq, tab_len]; omega)]
    congr 2
    apply tab_congr
    intro j hj
    unfold Aw
    rw [W_next]
    by_cases h1 : j + 1 < s + 2
    · rw [if_pos h1]
      by_cases h2 : j = 0
      · subst h2; rw [if_neg (by omega), if_pos rfl]; simp
      · rw [if_pos (by omega), if_neg h2]; simp
    · rw [if_neg h1, W_gt r (j + 1) (by omega), if_pos (by omega), if_neg (by omega)]; simp
theorem ways_eq (F s h : Nat) (hs : s ≤ 30) (hF : 40 ≤ F) : F117 F h s = some (W s h : Int) := by
  unfold F117
  rw [w64 (by omega) (by omega), show (s : Int) + 2 = ((s + 2 : Nat) : Int) from rfl, mk?_ok (by omega), Option.bind_some]
  have hck : ck (List.replicate (s + 2) (0 : Int)) 0 = some () := by
    rw [show (0 : Int) = ((0 : Nat) : Int) from rfl]; exact ck_ok (by simp)
  rw [hck, Option.bind_some]
  have e0 : (List.replicate (s + 2) (0 : Int)).set (Int.toNat 0) 1 = tab (s + 2) fun h => (W 0 h : Int) := by
    rw [tab_rep, show Int.toNat 0 = 0 from rfl, tab_set]
    apply tab_congr; intro j hj
    cases j with
    | zero => rfl
    | succ j => rfl
  rw [e0]
  have := iter_count (step := F117_l1 F s) (F := F) (fun r => (tab (s + 2) (fun h => (W r h : Int)), (r : Int))) (b := tab (s + 2) fun h => (W s h : Int)) s ?_ ?_ (by omega)
  · rw [show (0 : Int) = ((0 : Nat) : Int) from rfl, this, Option.bind_some, tab_len]
    by_cases h1 : h < s + 2
    · rw [if_neg (by rw [decide_eq_true_eq]; omega), tab_get h1]; rfl
    · rw [if_pos (decide_eq_true (by omega)), W_gt s h (by omega)]
      try rfl
  · intro r hr
    unfold F117_l1
    simp only
    rw [if_pos (decide_eq_true (by omega)), w64 (by omega) (by omega), show (s : Int) + 2 = ((s + 2 : Nat) : Int) from rfl, mk?_ok (by omega), Option.bind_some, tab_rep, waysIn_eq F F s r r hs hr (by omega), Option.bind_some, w64 (by omega) (by omega)]
    rfl
  · unfold F117_l1
    simp only
    rw [if_neg (by simp)]
theorem reach_eq (F s h : Nat) (hs : s ≤ 30) (hF : 40 ≤ F) : F94 F h s = some (W s h : Int) := by
  unfold F94
  by_cases hgt : s < h
  · rw [if_pos (by simp <;> omega), W_gt s h hgt]; rfl
  · have hck := List.all_eq_true.1 ((List.all_eq_true.1 chkNB_ok) s (by simp <;> omega)) h (by simp <;> omega)
    simp only [Bool.and_eq_true, beq_iff_eq] at hck
    rw [wrow_get] at hck
    obtain ⟨e1, e2⟩ := hck
    have hw : wrapA .i64 ((s : Int) - (h : Int)) = ((s - h : Nat) : Int) := by rw [w64 (by omega) (by omega)]; omega
    have ht : Int.tmod ((s - h : Nat) : Int) 2 = (((s - h) % 2 : Nat) : Int) := tmod_nat _ 2
    have hd : Int.tdiv ((s - h : Nat) : Int) 2 = (((s - h) / 2 : Nat) : Int) := tdiv_nat _ 2
    rw [hw, ht, hd]
    by_cases hodd : (s - h) % 2 = 0
    · rw [if_neg (by simp <;> omega), w64 (a := (((s - h) / 2 : Nat) : Int)) (by omega) (by omega), refChoose_eq F s _ hs hF, Option.bind_some]
      unfold reachC at e1
      rw [if_neg (by omega), prow_get] at e1
      unfold geC at e2
      rw [prow_get, prow_get] at e2
      have b1 := C_le s ((s - h) / 2)
      have p : 2 ^ s ≤ 1073741824 := Nat.pow_le_pow_right (n := 2) (by omega) hs
      rw [w64 (a := (((s - h) / 2 : Nat) : Int) - 1) (by omega) (by omega)]
      by_cases h0 : (s - h) / 2 = 0
      · rw [refChoose_neg F _ _ (.inl (by omega)), Option.bind_some]
        rw [if_pos h0] at e1
        rw [w64 (by omega) (by omega), ← e1]; simp
      · rw [if_neg h0, prow_get] at e1
        simp only [Bool.or_eq_true, beq_iff_eq, decide_eq_true_eq] at e2
        rw [show (((s - h) / 2 : Nat) : Int) - 1 = (((s - h) / 2 - 1 : Nat) : Int) from by omega, refChoose_eq F s _ hs hF, Option.bind_some]
        have hge := e2.resolve_left h0
        rw [w64 (by omega) (by omega), ← e1]; congr 1; omega
    · rw [if_pos (by simp <;> omega)]
      unfold reachC at e1
      rw [if_pos (by omega)] at e1
      rw [← e1]; rfl

/-! ### Ballots -/
theorem bf_next {i k : Nat} (hi : i < 15) (hk : k < 16) : bf (i + 1) k = (if i + 1 ≤ k then 0 else (if i = 0 ∧ k = 0 then 1 else bf i k) + (if k = 0 then 0 else bf (i + 1) (k - 1))) := by
  have := List.all_eq_true.1 ((List.all_eq_true.1 chkNC_ok) i (by simpa using hi)) k (by simpa using hk)
  simpa [chkNC] using this
theorem bf_is {a b : Nat} (ha : a < 16) (hb : b < 16) : bf a b = (if a ≤ b then 0 else C (a + b) a * (a - b) / (a + b)) ∧ bf a b ≤ 1000000000 ∧ C (a + b) a ≤ 1000000000 := by
  have := List.all_eq_true.1 ((List.all_eq_true.1 chkND_ok) a (by simpa using ha)) b (by simpa using hb)
  simp only [chkND, Bool.and_eq_true, beq_iff_eq, decide_eq_true_eq, prow_get] at this
  exact ⟨this.1.1, this.1.2, this.2⟩
theorem bf_zero (k : Nat) : bf 0 k = 0 := by
  unfold bf brow
  rw [List.getD_eq_getElem?_getD, List.getElem?_replicate]
  split <;> rfl
theorem aheadIn_eq (F G b i : Nat) (hb : b < 16) (hi : i < 15) (hG : 20 ≤ G) : iter (F89_l0 F (((i + 1 : Nat) : Int), tab (b + 1) fun k => (bf i k : Int))) G (0, tab (b + 1) fun k => (bf i k : Int)) = some (tab (b + 1) fun k => (bf (i + 1) k : Int)) := by
  have := iter_count (step := F89_l0 F (((i + 1 : Nat) : Int), tab (b + 1) fun k => (bf i k : Int))) (F := G) (fun k => ((k : Int), tab (b + 1) fun j => if j < k then (bf (i + 1) j : Int) else (bf i j : Int))) (b := tab (b + 1) fun k => (bf (i + 1) k : Int)) (b + 1) ?_ ?_ (by omega)
  · exact this
  · intro k hk
    have hn := bf_next hi (show k < 16 by omega)
    have b1 := (bf_is (show i < 16 by omega) (show k < 16 by omega)).2.1
    have b2 := (bf_is (show i + 1 < 16 by omega) (show k - 1 < 16 by omega)).2.1
    unfold F89_l0
    simp only
    have hset : ∀ x : Int, x = (bf (i + 1) k : Int) → (tab (b + 1) fun j => if j < k then (bf (i + 1) j : Int) else (bf i j : Int)).set k x = tab (b + 1) fun j => if j < k + 1 then (bf (i + 1) j : Int) else (bf i j : Int) := by
      intro x hx
      rw [tab_set]
      apply tab_congr
      intro j hj
      by_cases e : j = k
      · subst e; rw [if_pos rfl, if_pos (by omega), hx]
      · rw [if_neg e]
        by_cases h : j < k
        · rw [if_pos h, if_pos (by omega)]
        · rw [if_neg h, if_neg (by omega)]
    rw [if_pos (decide_eq_true (by rw [tab_len]; omega)), tab_get hk, Option.bind_some, if_neg (show ¬ k < k by omega), w64 (a := (k : Int) + 1) (by omega) (by omega), ck_ok (by rw [tab_len]; omega), Int.toNat_natCast]
    simp only [Option.bind_some]
    have hmid : (if ((((i + 1 : Nat) : Int) == 1) && ((k : Int) == 0)) = true then some (1 : Int) else some (bf i k : Int)) = some (if i = 0 ∧ k = 0 then (1 : Int) else (bf i k : Int)) := by
      by_cases h : i = 0 ∧ k = 0
      · rw [if_pos (by simp <;> omega), if_pos h]
      · rw [if_neg (by simp <;> omega), if_neg h]
    rw [hmid, Option.bind_some]
    by_cases hge : i + 1 ≤ k
    · rw [if_pos hge] at hn
      rw [if_pos (decide_eq_true (by omega)), w64 (a := (k : Int) - 1) (by omega) (by omega), show (k : Int) - 1 = ((k - 1 : Nat) : Int) from by omega, tab_get (by omega), Option.bind_some, if_pos (decide_eq_true (by omega)), hset 0 (by rw [hn]; rfl)]
      rfl
    · rw [if_neg hge] at hn
      by_cases h0 : k = 0
      · subst h0
        rw [if_neg (by simp), if_neg (by rw [decide_eq_true_eq]; omega), hset _ (by rw [hn]; by_cases h : i = 0 <;> simp [h])]
        rfl
      · rw [if_neg h0] at hn
        rw [if_pos (decide_eq_true (by omega)), w64 (a := (k : Int) - 1) (by omega) (by omega), show (k : Int) - 1 = ((k - 1 : Nat) : Int) from by omega, tab_get (by omega), Option.bind_some, if_neg (by rw [decide_eq_true_eq]; omega), if_pos (show k - 1 < k by omega), if_neg (show ¬ (i = 0 ∧ k = 0) by omega)]
        rw [if_neg (show ¬ (i = 0 ∧ k = 0) by omega)] at hn
        rw [w64 (by omega) (by omega), hset _ (by rw [hn]; simp)]
        rfl
  · unfold F89_l0
    simp only
    rw [if_neg (by rw [decide_eq_true_eq, tab_len]; omega)]
    congr 2
    apply tab_congr
    intro j hj
    rw [if_pos hj]
theorem ahead_eq (F a b : Nat) (ha : a < 16) (hb : b < 16) (hF : 40 ≤ F) : F89 F a b = some ((bf a b : Int), 0) := by
  unfold F89
  rw [if_neg (by simp <;> omega), w64 (by omega) (by omega), show (b : Int) + 1 = ((b + 1 : Nat) : Int) from rfl, mk?_ok (by omega), Option.bind_some, tab_rep]
  have := iter_count (step := F89_l1 F a) (F := F) (fun i => (((i + 1 : Nat) : Int), tab (b + 1) fun k => (bf i k : Int))) (b := tab (b + 1) fun k => (bf a k : Int)) a ?_ ?_ (by omega)
  · rw [show tab (b + 1) (fun _ => (0 : Int)) = tab (b + 1) fun k => (bf 0 k : Int) from tab_congr fun k _ => by rw [bf_zero]; rfl, show ((1 : Int)) = ((0 + 1 : Nat) : Int) from rfl, this, Option.bind_some, tab_get (by omega)]
    rfl
  · intro i hi
    unfold F89_l1
    simp only
    rw [if_pos (decide_eq_true (by omega)), aheadIn_eq F F b i hb (by omega) (by omega), Option.bind_some, w64 (by omega) (by omega)]
    rfl
  · unfold F89_l1
    simp only
    rw [if_neg (by rw [decide_eq_true_eq]; omega)]
theorem refAhead_eq (F a b : Nat) (ha : a < 16) (hb : b < 16) (hF : 40 ≤ F) : F90 F a b = some (bf a b : Int) := by
  obtain ⟨h1, h2, h3⟩ := bf_is ha hb
  unfold F90
  by_cases h : a ≤ b
  · rw [if_pos (decide_eq_true (by omega)), h1, if_pos h]; rfl
  · rw [if_neg (by rw [decide_eq_true_eq]; omega), w64 (a := (a : Int) + (b : Int)) (by omega) (by omega), show (a : Int) + (b : Int) = ((a + b : Nat) : Int) from rfl, refChoose_eq F (a + b) a (by omega) hF, Option.bind_some, w64 (a := (a : Int) - (b : Int)) (by omega) (by omega), show (a : Int) - (b : Int) = ((a - b : Nat) : Int) from by omega, ← Int.natCast_mul]
    rw [if_neg h] at h1
    have h4 : C (a + b) a * (a - b) ≤ 1000000000 * 15 := Nat.mul_le_mul h3 (by omega)
    rw [w64 (by omega) (by omega)]
    unfold quo?
    rw [if_neg (by omega), tdiv_nat, ← h1, w64 (by omega) (by omega)]
    rfl

/-! ### Are they nests? -/
def errE : Nat → List UInt8 → Int
  | h, [] => if 0 < h then 6 else 0
  | h, c :: t => if c.toNat = 40 then errE (h + 1) t else if c.toNat = 41 then (if h = 0 then 3 else errE (h - 1) t) else 1
def rkL : Nat → List UInt8 → Nat
  | _, [] => 0
  | h, c :: t => if c.toNat = 40 then rkL (h + 1) t else W t.length (h + 1) + rkL (h - 1) t
def nestE (s : List UInt8) : Int := if 30 < s.length then 2 else errE 0 s
theorem checkLoop (F : Nat) (L : List Int) : ∀ (t : List UInt8) (i h G : Nat), L.drop i = (t.map fun b => (b.toNat : Int)) → h ≤ 1000 - t.length → i + t.length ≤ 1000 → t.length ≤ 100 → t.length < G → L.length = i + t.length →
    ∃ b : Int ⊕ Int, iter (F92_l0 F L) G ((h : Int), (i : Int)) = some b ∧ (match b with | .inl b24 => (if decide (b24 > 0) = true then some (6 : Int) else some 0) | .inr b24 => some b24) = some (errE h t)
  | [], i, h, G, _, hh, hi, ht, hG, hL => by
    obtain ⟨G, rfl⟩ : ∃ g, G = g + 1 := ⟨G - 1, by omega⟩
    refine ⟨.inl h, iter_stop ?_, ?_⟩
    · unfold F92_l0
      simp only
      rw [if_neg (by rw [decide_eq_true_eq]; simp at hL; omega)]
    · simp only [errE]
      by_cases e : 0 < h
      · rw [if_pos (decide_eq_true (by omega)), if_pos e]
      · rw [if_neg (by rw [decide_eq_true_eq]; omega), if_neg e]
  | c :: t, i, h, G, hd, hh, hi, ht, hG, hL => by
    obtain ⟨G, rfl⟩ : ∃ g, G = g + 1 := ⟨G - 1, by omega⟩
    simp only [List.length_cons] at hh hi ht hG hL
    have hx : at? L (i : Int) = some (c.toNat : Int) := by
      have : L[i]? = some (c.toNat : Int) := by
        have := congrArg (fun l => l[0]?) hd
        simpa using this
      unfold at?; rw [if_pos (by omega)]; simpa using this
    have hd' : L.drop (i + 1) = (t.map fun b => (b.toNat : Int)) := by
      rw [← List.drop_drop, hd]; rfl
    simp only [errE]
    by_cases h40 : c.toNat = 40
    · have st : F92_l0 F L ((h : Int), (i : Int)) = some (.more (((h + 1 : Nat) : Int), ((i + 1 : Nat) : Int))) := by
        unfold F92_l0
        simp only
        rw [if_pos (decide_eq_true (by omega)), hx, Option.bind_some, if_pos (by simp [h40]), w64 (by omega) (by omega), w64 (by omega) (by omega), if_neg (by rw [decide_eq_true_eq]; omega)]
        rfl
      obtain ⟨b, h1, h2⟩ := checkLoop F L t (i + 1) (h + 1) G hd' (by omega) (by omega) (by omega) (by omega) (by omega)
      rw [if_pos h40]
      exact ⟨b, by rw [iter_more st]; exact h1, h2⟩
    · rw [if_neg h40]
      by_cases h41 : c.toNat = 41
      · rw [if_pos h41]
        by_cases h0 : h = 0
        · rw [if_pos h0]
          refine ⟨.inr 3, iter_stop ?_, rfl⟩
          unfold F92_l0
          simp only
          rw [if_pos (decide_eq_true (by omega)), hx, Option.bind_some, if_neg (by simp <;> omega), if_pos (by simp [h41]), w64 (by omega) (by omega), if_pos (decide_eq_true (by omega))]
        · have st : F92_l0 F L ((h : Int), (i : Int)) = some (.more (((h - 1 : Nat) : Int), ((i + 1 : Nat) : Int))) := by
            unfold F92_l0
            simp only
            rw [if_pos (decide_eq_true (by omega)), hx, Option.bind_some, if_neg (by simp <;> omega), if_pos (by simp [h41]), w64 (by omega) (by omega), w64 (by omega) (by omega), if_neg (by rw [decide_eq_true_eq]; omega), show (h : Int) - 1 = ((h - 1 : Nat) : Int) from by omega]
            rfl
          obtain ⟨b, h1, h2⟩ := checkLoop F L t (i + 1) (h - 1) G hd' (by omega) (by omega) (by omega) (by omega) (by omega)
          rw [if_neg h0]
          exact ⟨b, by rw [iter_more st]; exact h1, h2⟩
      · rw [if_neg h41]
        refine ⟨.inr 1, iter_stop ?_, rfl⟩
        unfold F92_l0
        simp only
        rw [if_pos (decide_eq_true (by omega)), hx, Option.bind_some, if_neg (by simp <;> omega), if_neg (by simp <;> omega)]
theorem check_eqN (F : Nat) (s : List UInt8) (hF : 40 ≤ F) : F92 F s = some (nestE s) := by
  unfold F92 nestE
  by_cases h : 30 < s.length
  · rw [if_pos (decide_eq_true (by omega)), if_pos h]
  · rw [if_neg (by rw [decide_eq_true_eq]; omega), if_neg h]
    unfold bytes?
    rw [if_pos (by omega), Option.bind_some]
    obtain ⟨b, h1, h2⟩ := checkLoop F (s.map fun b => (b.toNat : Int)) s 0 0 F (by simp) (by omega) (by omega) (by omega) (by omega) (by simp)
    have h1' : iter (F92_l0 F (s.map fun b => (b.toNat : Int))) F (0, 0) = some b := h1
    rw [h1', Option.bind_some]; exact h2
theorem refCheckLoop (F : Nat) (s : List UInt8) : ∀ (t : List UInt8) (i h G : Nat), s.drop i = t → h ≤ 1000 - t.length → i + t.length ≤ 1000 → t.length ≤ 100 → t.length < G → s.length = i + t.length →
    ∃ b : Int ⊕ Int, iter (F91_l0 F s) G ((h : Int), (i : Int)) = some b ∧ (match b with | .inl b24 => (if decide (b24 > 0) = true then some (6 : Int) else some 0) | .inr b24 => some b24) = some (errE h t)
  | [], i, h, G, _, hh, hi, ht, hG, hL => by
    obtain ⟨G, rfl⟩ : ∃ g, G = g + 1 := ⟨G - 1, by omega⟩
    refine ⟨.inl h, iter_stop ?_, ?_⟩
    · unfold F91_l0
      simp only
      rw [if_neg (by rw [decide_eq_true_eq]; simp at hL; omega)]
    · simp only [errE]
      by_cases e : 0 < h
      · rw [if_pos (decide_eq_true (by omega)), if_pos e]
      · rw [if_neg (by rw [decide_eq_true_eq]; omega), if_neg e]
  | c :: t, i, h, G, hd, hh, hi, ht, hG, hL => by
    obtain ⟨G, rfl⟩ : ∃ g, G = g + 1 := ⟨G - 1, by omega⟩
    simp only [List.length_cons] at hh hi ht hG hL
    have hx : at? s (i : Int) = some c := by
      have : s[i]? = some c := by
        have := congrArg (fun l => l[0]?) hd
        simpa using this
      unfold at?; rw [if_pos (by omega)]; simpa using this
    have hd' : s.drop (i + 1) = t := by
      rw [← List.drop_drop, hd]; rfl
    simp only [errE]
    by_cases h40 : c.toNat = 40
    · have st : F91_l0 F s ((h : Int), (i : Int)) = some (.more (((h + 1 : Nat) : Int), ((i + 1 : Nat) : Int))) := by
        unfold F91_l0
        simp only
        rw [if_pos (decide_eq_true (by omega)), hx]
        simp only [Option.bind_some]
        rw [h40]
        rw [if_neg (by simp), Option.bind_some, if_neg (by simp)]
        rw [wu8 (by omega) (by omega), w64 (a := ((40 : Nat) : Int) - 40) (by omega) (by omega), w64 (a := (2 : Int) * (((40 : Nat) : Int) - 40)) (by omega) (by omega), w64 (a := (1 : Int) - 2 * (((40 : Nat) : Int) - 40)) (by omega) (by omega), w64 (a := (h : Int) + (1 - 2 * (((40 : Nat) : Int) - 40))) (by omega) (by omega), w64 (by omega) (by omega), if_neg (by rw [decide_eq_true_eq]; omega)]
        rfl
      obtain ⟨b, h1, h2⟩ := refCheckLoop F s t (i + 1) (h + 1) G hd' (by omega) (by omega) (by omega) (by omega) (by omega)
      rw [if_pos h40]
      exact ⟨b, by rw [iter_more st]; exact h1, h2⟩
    · rw [if_neg h40]
      by_cases h41 : c.toNat = 41
      · rw [if_pos h41]
        have hcom : F91_l0 F s ((h : Int), (i : Int)) = if h = 0 then some (.stop (.inr 3)) else some (.more (((h - 1 : Nat) : Int), ((i + 1 : Nat) : Int))) := by
          unfold F91_l0
          simp only
          rw [if_pos (decide_eq_true (by omega)), hx]
          simp only [Option.bind_some]
          rw [h41]
          rw [if_pos (by simp), Option.bind_some, if_neg (by simp)]
          rw [wu8 (by omega) (by omega), w64 (a := ((41 : Nat) : Int) - 40) (by omega) (by omega), w64 (a := (2 : Int) * (((41 : Nat) : Int) - 40)) (by omega) (by omega), w64 (a := (1 : Int) - 2 * (((41 : Nat) : Int) - 40)) (by omega) (by omega), w64 (a := (h : Int) + (1 - 2 * (((41 : Nat) : Int) - 40))) (by omega) (by omega), w64 (by omega) (by omega)]
          by_cases h0 : h = 0
          · rw [if_pos h0, if_pos (decide_eq_true (by omega))]
          · rw [if_neg h0, if_neg (by rw [decide_eq_true_eq]; omega), show (h : Int) + (1 - 2 * (((41 : Nat) : Int) - 40)) = ((h - 1 : Nat) : Int) from by omega]
            rfl
        by_cases h0 : h = 0
        · rw [if_pos h0] at hcom ⊢
          exact ⟨.inr 3, iter_stop hcom, rfl⟩
        · rw [if_neg h0] at hcom ⊢
          obtain ⟨b, h1, h2⟩ := refCheckLoop F s t (i + 1) (h - 1) G hd' (by omega) (by omega) (by omega) (by omega) (by omega)
          exact ⟨b, by rw [iter_more hcom]; exact h1, h2⟩
      · rw [if_neg h41]
        refine ⟨.inr 1, iter_stop ?_, rfl⟩
        unfold F91_l0
        simp only
        rw [if_pos (decide_eq_true (by omega)), hx]
        simp only [Option.bind_some]
        rw [if_pos (by simp <;> omega), Option.bind_some, if_pos (by simp <;> omega)]
theorem refCheck_eqN (F : Nat) (s : List UInt8) (hF : 40 ≤ F) : F91 F s = some (nestE s) := by
  unfold F91 nestE
  by_cases h : 30 < s.length
  · rw [if_pos (decide_eq_true (by omega)), if_pos h]
  · rw [if_neg (by rw [decide_eq_true_eq]; omega), if_neg h]
    obtain ⟨b, h1, h2⟩ := refCheckLoop F s s 0 0 F (by simp) (by omega) (by omega) (by omega) (by omega) (by simp)
    have h1' : iter (F91_l0 F s) F (0, 0) = some b := h1
    rw [h1', Option.bind_some]; exact h2

/-! ### The number of a nest -/
theorem rkL_lt : ∀ (t : List UInt8) (h : Nat), errE h t = 0 → rkL h t < W t.length h
  | [], h, he => by
    simp only [errE] at he
    split at he
    · cases he
    · rw [show h = 0 from by omega]; exact Nat.one_pos
  | c :: t, h, he => by
    simp only [errE] at he
    simp only [rkL, List.length_cons]
    rw [W_next]
    by_cases h40 : c.toNat = 40
    · rw [if_pos h40] at he ⊢
      have := rkL_lt t (h + 1) he; omega
    · rw [if_neg h40] at he ⊢
      by_cases h41 : c.toNat = 41
      · rw [if_pos h41] at he
        by_cases h0 : h = 0
        · rw [if_pos h0] at he; cases he
        · rw [if_neg h0] at he ⊢
          have := rkL_lt t (h - 1) he; omega
      · rw [if_neg h41] at he; cases he
theorem drop_at {s : List UInt8} {i : Nat} {c : UInt8} {t : List UInt8} (hd : s.drop i = c :: t) : at? s (i : Int) = some c ∧ s.drop (i + 1) = t := by
  constructor
  · have : s[i]? = some c := by
      have := congrArg (fun l => l[0]?) hd
      simpa using this
    unfold at?; rw [if_pos (by omega)]; simpa using this
  · rw [← List.drop_drop, hd]; rfl
theorem ofLoop (F : Nat) (hF : 40 ≤ F) (s : List UInt8) (hs : s.length ≤ 30) : ∀ (t : List UInt8) (i h a G : Nat), s.drop i = t → s.length = i + t.length → h ≤ i → a + W t.length h ≤ 4294967296 → errE h t = 0 → t.length < G →
    iter (F87_l0 F s) G ((a : Int), (h : Int), (i : Int)) = some ((a + rkL h t : Nat) : Int) ∧ iter (F93_l0 F s) G ((a : Int), (h : Int), (i : Int)) = some ((a + rkL h t : Nat) : Int)
  | [], i, h, a, G, hd, hL, hh, ha, he, hG => by
    obtain ⟨G, rfl⟩ : ∃ g, G = g + 1 := ⟨G - 1, by omega⟩
    simp at hL
    refine ⟨iter_stop ?_, iter_stop ?_⟩
    · unfold F87_l0
      simp only
      rw [if_neg (by rw [decide_eq_true_eq]; omega)]; rfl
    · unfold F93_l0
      simp only
      rw [if_neg (by rw [decide_eq_true_eq]; omega)]; rfl
  | c :: t, i, h, a, G, hd, hL, hh, ha, he, hG => by
    obtain ⟨G, rfl⟩ : ∃ g, G = g + 1 := ⟨G - 1, by omega⟩
    simp only [List.length_cons] at hL ha hG
    obtain ⟨hx, hd'⟩ := drop_at hd
    simp only [errE] at he
    simp only [rkL]
    rw [W_next] at ha
    by_cases h40 : c.toNat = 40
    · rw [if_pos h40] at he ⊢
      obtain ⟨q1, q2⟩ := ofLoop F hF s hs t (i + 1) (h + 1) a G hd' (by omega) (by omega) (by omega) he (by omega)
      refine ⟨?_, ?_⟩
      · have st : F87_l0 F s ((a : Int), (h : Int), (i : Int)) = some (.more ((a : Int), ((h + 1 : Nat) : Int), ((i + 1 : Nat) : Int))) := by
          unfold F87_l0
          simp only
          rw [if_pos (decide_eq_true (by omega)), hx, Option.bind_some, h40, if_neg (by simp), w64 (by omega) (by omega), w64 (by omega) (by omega)]
          rfl
        rw [iter_more st, q1]
      · have st : F93_l0 F s ((a : Int), (h : Int), (i : Int)) = some (.more ((a : Int), ((h + 1 : Nat) : Int), ((i + 1 : Nat) : Int))) := by
          unfold F93_l0
          simp only
          rw [if_pos (decide_eq_true (by omega)), hx, Option.bind_some, h40, if_pos (by simp), w64 (by omega) (by omega), w64 (by omega) (by omega)]
          rfl
        rw [iter_more st, q2]
    · rw [if_neg h40] at he ⊢
      by_cases h41 : c.toNat = 41
      · rw [if_pos h41] at he
        by_cases h0 : h = 0
        · rw [if_pos h0] at he; cases he
        · rw [if_neg h0] at he ha
          obtain ⟨q1, q2⟩ := ofLoop F hF s hs t (i + 1) (h - 1) (a + W t.length (h + 1)) G hd' (by omega) (by omega) (by omega) he (by omega)
          rw [Nat.add_assoc] at q1 q2
          have ha1 : a + W t.length (h + 1) ≤ 9223372036854775807 := by omega
          have htl : t.length ≤ 30 := by omega
          have hh1 : h ≤ 9223372036854775807 := by omega
          have hi1 : i < 9223372036854775807 := by omega
          have hil : (i : Int) < (s.length : Int) := by omega
          have e1 : wrapA .i64 (wrapA .i64 ((s.length : Int) - (i : Int)) - 1) = (t.length : Int) := by
            rw [w64 (a := (s.length : Int) - (i : Int)) (by omega) (by omega), w64 (by omega) (by omega)]; omega
          have e2 : wrapA .i64 ((h : Int) + 1) = ((h + 1 : Nat) : Int) := by rw [w64 (by omega) (by omega)]; rfl
          refine ⟨?_, ?_⟩
          · have st : F87_l0 F s ((a : Int), (h : Int), (i : Int)) = some (.more (((a + W t.length (h + 1) : Nat) : Int), ((h - 1 : Nat) : Int), ((i + 1 : Nat) : Int))) := by
              unfold F87_l0
              simp only
              rw [if_pos (decide_eq_true hil), hx, Option.bind_some, h41, if_pos (by simp), e1, e2, ways_eq F t.length (h + 1) htl hF, Option.bind_some, wadd ha1, wpred (Nat.pos_of_ne_zero h0) hh1, wsuc hi1]
            rw [iter_more st, q1]
          · have st : F93_l0 F s ((a : Int), (h : Int), (i : Int)) = some (.more (((a + W t.length (h + 1) : Nat) : Int), ((h - 1 : Nat) : Int), ((i + 1 : Nat) : Int))) := by
              unfold F93_l0
              simp only
              rw [if_pos (decide_eq_true hil), hx, Option.bind_some, h41, if_neg (by simp), e1, e2, reach_eq F t.length (h + 1) htl hF, Option.bind_some, wadd ha1, wpred (Nat.pos_of_ne_zero h0) hh1, wsuc hi1]
            rw [iter_more st, q2]
      · rw [if_neg h41] at he; cases he
theorem nestE_ok {s : List UInt8} (h : nestE s = 0) : s.length ≤ 30 ∧ errE 0 s = 0 := by
  unfold nestE at h
  split at h
  · cases h
  · exact ⟨by omega, h⟩
theorem of_both (F : Nat) (hF : 40 ≤ F) (s : List UInt8) (h : nestE s = 0) : F87 F s = some ((rkL 0 s : Int), 0) ∧ F93 F s = some (rkL 0 s : Int) := by
  obtain ⟨h1, h2⟩ := nestE_ok h
  have hw := W_30 0 (show s.length ≤ 31 by omega)
  obtain ⟨q1, q2⟩ := ofLoop F hF s h1 s 0 0 0 F rfl (by omega) (by omega) (by omega) h2 (by omega)
  rw [Nat.zero_add] at q1 q2
  have q1' : iter (F87_l0 F s) F (0, 0, 0) = some (rkL 0 s : Int) := q1
  have q2' : iter (F93_l0 F s) F (0, 0, 0) = some (rkL 0 s : Int) := q2
  unfold F87 F93
  rw [check_eqN F s hF, h, Option.bind_some, if_neg (by simp), q1', q2']
  exact ⟨rfl, rfl⟩

/-! ### The nest of a number -/
def gen : Nat → Nat → Nat → List UInt8
  | 0, _, _ => []
  | m + 1, h, k => if k < W m (h + 1) then 40 :: gen m (h + 1) k else 41 :: gen m (h - 1) (k - W m (h + 1))
theorem gen_ok : ∀ (m h k : Nat), k < W m h → errE h (gen m h k) = 0 ∧ rkL h (gen m h k) = k ∧ (gen m h k).length = m
  | 0, h, k, hk => by
    cases h with
    | zero =>
      have : W 0 0 = 1 := rfl
      simp only [gen, errE, rkL]
      exact ⟨rfl, by omega, rfl⟩
    | succ h => have : W 0 (h + 1) = 0 := rfl; omega
  | m + 1, h, k, hk => by
    rw [W_next] at hk
    simp only [gen]
    by_cases h1 : k < W m (h + 1)
    · rw [if_pos h1]
      obtain ⟨a, b, c⟩ := gen_ok m (h + 1) k h1
      have e : (40 : UInt8).toNat = 40 := rfl
      refine ⟨?_, ?_, by simp [c]⟩
      · simp only [errE]; rw [if_pos e]; exact a
      · simp only [rkL]; rw [if_pos e]; exact b
    · rw [if_neg h1]
      by_cases h0 : h = 0
      · rw [if_pos h0] at hk; omega
      · rw [if_neg h0] at hk
        obtain ⟨a, b, c⟩ := gen_ok m (h - 1) (k - W m (h + 1)) (by omega)
        have e : (41 : UInt8).toNat = 41 := rfl
        have e' : ¬ (41 : UInt8).toNat = 40 := by decide
        refine ⟨?_, ?_, by simp [c]⟩
        · simp only [errE]; rw [if_neg e', if_pos e, if_neg h0]; exact a
        · simp only [rkL]; rw [if_neg e', b, c]; omega
theorem atLoopN (F n : Nat) (hF : 40 ≤ F) (hn : n ≤ 15) : ∀ (m h k : Nat) (s : List UInt8) (G : Nat), s.length + m = 2 * n → h ≤ s.length → k < W m h → m < G →
    iter (F88_l0 F n) G ((k : Int), s, (h : Int)) = some (s ++ gen m h k)
  | 0, h, k, s, G, hl, hh, hk, hG => by
    obtain ⟨G, rfl⟩ : ∃ g, G = g + 1 := ⟨G - 1, by omega⟩
    refine iter_stop ?_
    unfold F88_l0
    simp only
    rw [w64 (by omega) (by omega), if_neg (by rw [decide_eq_true_eq]; omega)]
    simp [gen]
  | m + 1, h, k, s, G, hl, hh, hk, hG => by
    obtain ⟨G, rfl⟩ : ∃ g, G = g + 1 := ⟨G - 1, by omega⟩
    have hw1 := W_30 (h + 1) (show m ≤ 31 by omega)
    have hw2 := W_30 h (show m + 1 ≤ 31 by omega)
    have hst : F88_l0 F n ((k : Int), s, (h : Int)) = if k < W m (h + 1) then some (.more ((k : Int), s ++ [40], ((h + 1 : Nat) : Int))) else some (.more (((k - W m (h + 1) : Nat) : Int), s ++ [41], (h : Int) - 1)) := by
      unfold F88_l0
      simp only
      rw [w64 (a := (2 : Int) * (n : Int)) (by omega) (by omega), if_pos (decide_eq_true (by omega)), w64 (a := (h : Int) + 1) (by omega) (by omega), w64 (a := (2 : Int) * (n : Int) - (s.length : Int)) (by omega) (by omega), w64 (a := (2 : Int) * (n : Int) - (s.length : Int) - 1) (by omega) (by omega), show (2 : Int) * (n : Int) - (s.length : Int) - 1 = (m : Int) from by omega, show (h : Int) + 1 = ((h + 1 : Nat) : Int) from rfl, ways_eq F m (h + 1) (by omega) hF, Option.bind_some]
      have hcat : ∀ x : UInt8, cat? s [x] = some (s ++ [x]) := fun x => if_neg (by simp <;> omega)
      rw [hcat, hcat, Option.bind_some, Option.bind_some]
      by_cases h1 : k < W m (h + 1)
      · rw [if_pos (decide_eq_true (by omega)), if_pos h1]
      · rw [if_neg (by rw [decide_eq_true_eq]; omega), if_neg h1, wsub (by omega) (by omega), w64 (by omega) (by omega)]
    rw [W_next] at hk
    simp only [gen]
    by_cases h1 : k < W m (h + 1)
    · rw [if_pos h1] at hst ⊢
      rw [iter_more hst, atLoopN F n hF hn m (h + 1) k (s ++ [40]) G (by simp <;> omega) (by simp <;> omega) h1 (by omega), List.append_assoc]
      rfl
    · rw [if_neg h1] at hst ⊢
      by_cases h0 : h = 0
      · rw [if_pos h0] at hk; omega
      · rw [if_neg h0] at hk
        rw [show (h : Int) - 1 = ((h - 1 : Nat) : Int) from by omega] at hst
        rw [iter_more hst, atLoopN F n hF hn m (h - 1) (k - W m (h + 1)) (s ++ [41]) G (by simp <;> omega) (by simp <;> omega) (by omega) (by omega), List.append_assoc]
        rfl
theorem count_eqN (F n : Nat) (hF : 40 ≤ F) (hn : n ≤ 15) : F86 F n = some ((W (2 * n) 0 : Int), 0) := by
  unfold F86
  rw [if_neg (by simp <;> omega), w64 (by omega) (by omega), show (2 : Int) * (n : Int) = ((2 * n : Nat) : Int) from by omega]
  have := ways_eq F (2 * n) 0 (by omega) hF
  rw [show (0 : Int) = ((0 : Nat) : Int) from rfl, this]
  rfl

theorem PnestsSay.holds (t0 : List UInt8) (t1 : Int) (t2 : Int) (t3 : Int) (t4 : Int) (h0 : t0.length ≤ maxLen) (h1 : inR .i64 t1) (h2 : inR .i64 t2) (h3 : inR .i64 t3) (h4 : inR .i64 t4) : ∃ F, F14 F t0 t1 t2 t3 t4 = some true := by
  refine ⟨100, ?_⟩
  -- Ahead
  obtain ⟨r13, e13, hmid⟩ : ∃ r13, F89 100 t3 t4 = some r13 ∧ (if ((((decide (t3 < 0)) || (decide (t3 > 15))) || (decide (t4 < 0))) || (decide (t4 > 15))) = true then
      (if ((r13.2 != 1) || (r13.1 != 0)) = true then some (Sum.inr false) else some (Sum.inl ()))
      else ((if (r13.2 != 0) = true then some true else ((F90 100 t3 t4).bind fun r23 => some (r13.1 != r23))).bind fun y28 => if y28 = true then some (Sum.inr false) else some (Sum.inl ()))) = some (Sum.inl () : Unit ⊕ Bool) := by
    by_cases hn : ((t3 < 0 ∨ t3 > 15) ∨ t4 < 0) ∨ t4 > 15
    · refine ⟨(0, 1), ?_, ?_⟩
      · unfold F89; rw [if_pos (by simpa using hn)]
      · rw [if_pos (by simpa using hn)]; rfl
    · obtain ⟨a, rfl⟩ : ∃ m : Nat, t3 = m := ⟨t3.toNat, by omega⟩
      obtain ⟨b, rfl⟩ : ∃ m : Nat, t4 = m := ⟨t4.toNat, by omega⟩
      refine ⟨_, ahead_eq 100 a b (by omega) (by omega) (by decide), ?_⟩
      rw [if_neg (by simpa using hn), refAhead_eq 100 a b (by omega) (by omega) (by decide)]; simp
  -- Of
  have e41 := refCheck_eqN 100 t0 (by decide)
  have e45 := check_eqN 100 t0 (by decide)
  obtain ⟨r5, e5, hof⟩ : ∃ r5, F87 100 t0 = some r5 ∧ (if (((nestE t0 != nestE t0) || (r5.2 != nestE t0)) || ((nestE t0 != 0) && (r5.1 != 0))) = true then some true else
      ((if (nestE t0 == 0) = true then ((F93 100 t0).bind fun r52 => some (r5.1 != r52)) else some false).bind fun y57 => some y57)) = some false := by
    by_cases he : nestE t0 = 0
    · obtain ⟨q1, q2⟩ := of_both 100 (by decide) t0 he
      refine ⟨_, q1, ?_⟩
      rw [he, if_neg (by simp), if_pos (by simp), q2]; simp
    · refine ⟨(0, nestE t0), ?_, ?_⟩
      · unfold F87; rw [e45, Option.bind_some, if_pos (by simpa using he)]
      · rw [if_neg (by simp), if_neg (by simpa using he)]; rfl
  -- Count and At
  obtain ⟨r1, e1, r9, e9, hfin⟩ : ∃ r1, F86 100 t1 = some r1 ∧ ∃ r9, F88 100 t1 t2 = some r9 ∧
      (if ((decide (t1 < 0)) || (decide (t1 > 15))) = true then some (((((r1.2 == 1) && (r9.2 == r1.2)) && (r1.1 == 0)) && (r9.1 == []))) else
      ((if (r1.2 != 0) = true then some true else ((F94 100 0 ((wrapA .i64 (2 * t1)))).bind fun r72 => some (r1.1 != r72))).bind fun y77 =>
      if y77 = true then some false else if ((decide (t2 < 0)) || (decide (t2 ≥ r1.1))) = true then some (((r9.2 == 1) && (r9.1 == []))) else
      (if ((r9.2 == 0) && ((r9.1.length : Int) == (wrapA .i64 (2 * t1)))) = true then ((F91 100 r9.1).bind fun r86 => some (r86 == 0)) else some false).bind fun y91 =>
      (if y91 = true then ((F93 100 r9.1).bind fun r95 => some (r95 == t2)) else some false).bind fun y100 => some y100)) = some true := by
    by_cases hn : t1 < 0 ∨ t1 > 15
    · have hc : F86 100 t1 = some (0, 1) := by
        unfold F86; rw [if_pos (by simpa using hn)]
      refine ⟨(0, 1), hc, ([], 1), ?_, ?_⟩
      · unfold F88; rw [hc, Option.bind_some, if_pos (by simp)]
      · rw [if_pos (by simpa using hn)]; rfl
    · obtain ⟨n, rfl⟩ : ∃ m : Nat, t1 = m := ⟨t1.toNat, by omega⟩
      have hc := count_eqN 100 n (by decide) (by omega)
      have hw := W_30 0 (show 2 * n ≤ 31 by omega)
      have hre := reach_eq 100 (2 * n) 0 (by omega) (by decide)
      have e2 : wrapA .i64 (2 * (n : Int)) = ((2 * n : Nat) : Int) := by rw [w64 (by omega) (by omega)]; omega
      by_cases hk : t2 < 0 ∨ t2 ≥ (W (2 * n) 0 : Int)
      · refine ⟨_, hc, ([], 1), ?_, ?_⟩
        · unfold F88; rw [hc, Option.bind_some, if_pos (by simpa using hk)]
        · rw [if_neg (by simpa using hn), e2]
          rw [if_neg (by simp), show (0 : Int) = ((0 : Nat) : Int) from rfl, hre]
          simp only [Option.bind_some]
          rw [bne_self_eq_false, if_neg (by simp), if_pos (by simpa using hk)]; rfl
      · obtain ⟨k, rfl⟩ : ∃ m : Nat, t2 = m := ⟨t2.toNat, by omega⟩
        have hkl : k < W (2 * n) 0 := by omega
        obtain ⟨g1, g2, g3⟩ := gen_ok (2 * n) 0 k hkl
        have hat := atLoopN 100 n (by decide) (by omega) (2 * n) 0 k [] 100 (by simp) (by simp) hkl (by omega)
        rw [List.nil_append] at hat
        have hat' : iter (F88_l0 100 n) 100 ((k : Int), [], 0) = some (gen (2 * n) 0 k) := hat
        have hne : nestE (gen (2 * n) 0 k) = 0 := by unfold nestE; rw [g3, if_neg (by omega), g1]
        obtain ⟨_, q2⟩ := of_both 100 (by decide) _ hne
        refine ⟨_, hc, (gen (2 * n) 0 k, 0), ?_, ?_⟩
        · unfold F88
          rw [hc, Option.bind_some, if_neg (by simpa using hk), hat']; rfl
        · rw [if_neg (by simpa using hn), e2]
          rw [if_neg (by simp), show (0 : Int) = ((0 : Nat) : Int) from rfl, hre]
          simp only [Option.bind_some]
          rw [bne_self_eq_false, if_neg (by simp), if_neg (by simpa using hk), g3, if_pos (by simp), refCheck_eqN 100 _ (by decide), hne]
          simp only [Option.bind_some]
          rw [if_pos (by simp), q2, g2]; simp
  unfold F14
  rw [e1, e5, e9, e13]
  simp only [Option.bind_some]
  rw [hmid]
  simp only [Option.bind_some]
  rw [e41, e45]
  simp only [Option.bind_some]
  rw [hof]
  simp only [Option.bind_some]
  rw [if_neg (by simp)]
  exact hfin
end Go.Proofs.Ytkfmedmanhcdeaa

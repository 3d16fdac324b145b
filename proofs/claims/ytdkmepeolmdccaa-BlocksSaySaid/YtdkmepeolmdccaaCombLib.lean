/- Binomial numbers; castref.Choose: what it answers. -/
import Derived.Test.YtdkmepeolmdccaaDef
import Derived.Test.YtdkmepeolmdccaaPureB
set_option linter.unusedVariables false
set_option linter.unusedSimpArgs false
namespace Go.Proofs.Ytdkmepeolmdccaa
open Go.Am

def C : Nat → Nat → Nat
  | _, 0 => 1
  | 0, _ + 1 => 0
  | n + 1, k + 1 => C n k + C n (k + 1)
theorem C_zero (n : Nat) : C n 0 = 1 := by cases n <;> rfl
theorem C_succ (n k : Nat) : C (n + 1) (k + 1) = C n k + C n (k + 1) := rfl
theorem C_gt : ∀ (n k : Nat), n < k → C n k = 0
  | 0, k + 1, _ => rfl
  | n + 1, k + 1, h => by rw [C_succ, C_gt n k (by omega), C_gt n (k + 1) (by omega)]
theorem C_self : ∀ n, C n n = 1
  | 0 => rfl
  | n + 1 => by rw [C_succ, C_self n, C_gt n (n + 1) (by omega)]
theorem C_le : ∀ (n k : Nat), C n k ≤ 2 ^ n
  | n, 0 => by rw [C_zero]; exact Nat.one_le_two_pow
  | 0, k + 1 => by simp [C]
  | n + 1, k + 1 => by
    have h1 := C_le n k
    have h2 := C_le n (k + 1)
    rw [C_succ, Nat.pow_succ]; omega
theorem C_mul : ∀ (n i : Nat), C n (i + 1) * (i + 1) = C n i * (n - i)
  | 0, i => by simp [C]
  | n + 1, 0 => by
    have := C_mul n 0
    rw [C_succ, C_zero, C_zero]
    simp only [C_zero, Nat.zero_add, Nat.mul_one, Nat.sub_zero, Nat.one_mul] at this ⊢
    omega
  | n + 1, i + 1 => by
    have h1 := C_mul n (i + 1)
    have h2 := C_mul n i
    by_cases h : i < n
    · obtain ⟨d, rfl⟩ : ∃ d, n = i + 1 + d := ⟨n - (i + 1), by omega⟩
      rw [show i + 1 + d - (i + 1) = d from by omega] at h1
      rw [show i + 1 + d - i = d + 1 from by omega] at h2
      rw [C_succ, C_succ, show i + 1 + d + 1 - (i + 1) = d + 1 from by omega, Nat.add_mul, Nat.add_mul, h1, ← h2, Nat.mul_add, Nat.mul_add, Nat.mul_add]
      simp only [Nat.mul_add, Nat.mul_one, Nat.add_mul, Nat.one_mul]
      omega
    · rw [C_gt (n + 1) (i + 1 + 1) (by omega), show n + 1 - (i + 1) = 0 from by omega]; simp

/-- A list by its places. -/
def tab (n : Nat) (f : Nat → Int) : List Int := (List.range n).map f
theorem tab_len (n : Nat) (f : Nat → Int) : (tab n f).length = n := by simp [tab]
theorem tab_get {n : Nat} {f : Nat → Int} {i : Nat} (h : i < n) : at? (tab n f) (i : Int) = some (f i) := by
  rw [at?_in (by rw [tab_len]; exact h)]; simp [tab]
theorem tab_set {n : Nat} {f : Nat → Int} {i : Nat} {x : Int} : (tab n f).set i x = tab n fun j => if j = i then x else f j := by
  apply List.ext_getElem?
  intro j
  rw [List.getElem?_set]
  simp only [tab, List.length_map, List.length_range, List.getElem?_map]
  by_cases hj : j < n
  · rw [List.getElem?_range hj]
    by_cases e : i = j
    · subst e; simp [hj]
    · rw [if_neg e]; simp [show ¬ j = i from fun q => e q.symm]
  · rw [List.getElem?_eq_none (by simp; omega)]
    by_cases e : i = j
    · subst e; simp [hj]
    · rw [if_neg e]; simp
theorem tab_rep (n : Nat) (z : Int) : List.replicate n z = tab n fun _ => z := by
  apply List.ext_getElem?
  intro j
  by_cases hj : j < n
  · simp [tab, hj]
  · simp [tab, hj]
theorem tab_congr {n : Nat} {f g : Nat → Int} (h : ∀ i, i < n → f i = g i) : tab n f = tab n g := by
  unfold tab
  exact List.map_congr_left fun i hi => h i (by simpa using hi)

theorem refChoose_inner (F G r k : Nat) (hr : r ≤ 30) (hk : k ≤ 30) (hG : k < G) : iter (F104_l0 F) G ((k : Int), tab (k + 1) fun j => (C r j : Int)) = some (tab (k + 1) fun j => (C (r + 1) j : Int)) := by
  have := iter_count (step := F104_l0 F) (F := G) (fun i => (((k : Int) - (i : Int)), tab (k + 1) fun j => if j ≤ k - i then (C r j : Int) else (C (r + 1) j : Int))) (b := tab (k + 1) fun j => (C (r + 1) j : Int)) k ?_ ?_ hG
  · rw [← this]
    simp only [Int.natCast_zero, Int.sub_zero, Nat.sub_zero]
    congr 2
    exact tab_congr fun j hj => by rw [if_pos (by omega)]
  · intro i hi
    unfold F104_l0
    simp only
    have c1 := C_le r (k - i)
    have c2 := C_le r (k - i - 1)
    have p : 2 ^ r ≤ 1073741824 := Nat.pow_le_pow_right (n := 2) (by omega) hr
    rw [if_pos (decide_eq_true (by omega)), show (k : Int) - (i : Int) = ((k - i : Nat) : Int) from by omega, w64 (a := ((k - i : Nat) : Int) - 1) (by omega) (by omega), show ((k - i : Nat) : Int) - 1 = ((k - i - 1 : Nat) : Int) from by omega, tab_get (by omega), tab_get (by omega), ck_ok (by rw [tab_len]; omega)]
    simp only [Option.bind_some]
    rw [if_pos (by omega), if_pos (by omega), w64 (by omega) (by omega), Int.toNat_natCast, tab_set]
    congr 3
    · omega
    · apply tab_congr
      intro j hj
      by_cases e : j = k - i
      · obtain ⟨q, hq⟩ : ∃ q, k - i = q + 1 := ⟨k - i - 1, by omega⟩
        rw [if_pos e, if_neg (by omega), e, hq, C_succ, show q + 1 - 1 = q from by omega]
        omega
      · rw [if_neg e]
        by_cases h2 : j ≤ k - i
        · rw [if_pos h2, if_pos (by omega)]
        · rw [if_neg h2, if_neg (by omega)]
  · unfold F104_l0
    simp only
    rw [if_neg (by simp)]
    congr 2
    apply tab_congr
    intro j hj
    by_cases h0 : j = 0
    · subst h0; simp [C_zero]
    · rw [if_neg (by omega)]
theorem refChoose_eq (F n k : Nat) (hn : n ≤ 30) (hF : 40 ≤ F) : F104 F n k = some (C n k : Int) := by
  unfold F104
  by_cases h1 : n < k
  · rw [if_pos (by simp; omega), C_gt n k h1]; rfl
  · rw [if_neg (by simp; omega)]
    by_cases h2 : k = 0 ∨ k = n
    · rw [if_pos (by simp; omega)]
      rcases h2 with rfl | rfl
      · rw [C_zero]; rfl
      · rw [C_self]; rfl
    · rw [if_neg (by simp; omega), w64 (by omega) (by omega), show (k : Int) + 1 = ((k + 1 : Nat) : Int) from rfl, mk?_ok (by omega)]
      simp only [Option.bind_some]
      have hck : ck (List.replicate (k + 1) (0 : Int)) 0 = some () := by
        rw [show (0 : Int) = ((0 : Nat) : Int) from rfl]; exact ck_ok (by simp)
      rw [hck]
      simp only [Option.bind_some]
      have e0 : (List.replicate (k + 1) (0 : Int)).set (Int.toNat 0) 1 = tab (k + 1) fun j => (C 0 j : Int) := by
        rw [tab_rep, show Int.toNat 0 = 0 from rfl, tab_set]
        apply tab_congr
        intro j hj
        by_cases e : j = 0
        · subst e; rfl
        · obtain ⟨q, rfl⟩ : ∃ q, j = q + 1 := ⟨j - 1, by omega⟩
          rw [if_neg e]; rfl
      rw [e0]
      have := iter_count (step := F104_l1 F n k) (F := F) (fun r => ((r : Int), tab (k + 1) fun j => (C r j : Int))) (b := tab (k + 1) fun j => (C n j : Int)) n ?_ ?_ (by omega)
      · rw [show (0 : Int) = ((0 : Nat) : Int) from rfl, this]
        simp only [Option.bind_some]
        rw [tab_get (by omega)]; rfl
      · intro r hr
        unfold F104_l1
        simp only
        rw [if_pos (decide_eq_true (by omega)), refChoose_inner F F r k (by omega) (by omega) (by omega)]
        simp only [Option.bind_some]
        rw [w64 (by omega) (by omega)]; rfl
      · unfold F104_l1
        simp only
        rw [if_neg (by simp)]
/-- Beside the triangle. -/
theorem refChoose_neg (F : Nat) (n k : Int) (h : k < 0 ∨ k > n) : F104 F n k = some 0 := by
  unfold F104
  rw [if_pos (by simpa using h)]
end Go.Proofs.Ytdkmepeolmdccaa

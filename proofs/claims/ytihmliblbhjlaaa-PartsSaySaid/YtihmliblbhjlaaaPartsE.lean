/- Sums of unlike numbers: the answer; numbers without two that are the same are known by their odd parts. -/
import Derived.Test.YtihmliblbhjlaaaPartsD
set_option linter.unusedVariables false
set_option linter.unusedSimpArgs false
namespace Go.Proofs.Ytihmliblbhjlaaa
open Go.Am

/-! ### Known by the odd parts -/
def pw6 (d x : Nat) : Nat := (if x = d then 1 else 0) + 2 * (if x = 2 * d then 1 else 0) + 4 * (if x = 4 * d then 1 else 0) + 8 * (if x = 8 * d then 1 else 0) + 16 * (if x = 16 * d then 1 else 0) + 32 * (if x = 32 * d then 1 else 0)
def pwOk (x : Nat) : Bool := x == 0 || ((List.range 41).all fun d => d % 2 == 0 || decide ((if (od 6 x).1 = d then (od 6 x).2 else 0) = pw6 d x))
theorem pw_all : ((List.range 41).all pwOk) = true := by kernel_rfl
def ptOk (x : Nat) : Bool := x == 0 || decide ((od 6 x).2 = 1 ∨ (od 6 x).2 = 2 ∨ (od 6 x).2 = 4 ∨ (od 6 x).2 = 8 ∨ (od 6 x).2 = 16 ∨ (od 6 x).2 = 32)
theorem pt_all : ((List.range 41).all ptOk) = true := by kernel_rfl
def ppOk (x : Nat) : Bool := x % 2 == 0 || ((List.range 6).all fun j => decide (40 < x * 2 ^ j) || decide (od 6 (x * 2 ^ j) = (x, 2 ^ j)))
theorem pp_all : ((List.range 41).all ppOk) = true := by kernel_rfl
theorem od_pow {x j : Nat} (h : x % 2 = 1) (h1 : x * 2 ^ j ≤ 40) : od 6 (x * 2 ^ j) = (x, 2 ^ j) := by
  have hx : 1 ≤ x := by omega
  have hp : 0 < 2 ^ j := Nat.two_pow_pos j
  have h2 := Nat.mul_le_mul_right (2 ^ j) hx
  have h3 := Nat.mul_le_mul_left x hp
  have hj : j < 6 := by
    rcases Nat.lt_or_ge j 6 with q | q
    · exact q
    · have := Nat.pow_le_pow_right (n := 2) (by decide) q
      omega
  have := List.all_eq_true.1 pp_all x (by simp; omega)
  unfold ppOk at this
  simp only [Bool.or_eq_true, beq_iff_eq] at this
  rcases this with q | q
  · omega
  · have := List.all_eq_true.1 q j (by simp; omega)
    simp only [Bool.or_eq_true, decide_eq_true_eq] at this
    rcases this with q | q
    · omega
    · exact q
theorem S_pow {d : Nat} (h1 : d ≤ 40) (h2 : d % 2 = 1) : ∀ {L : List Int}, Pos L → S (d : Int) L = L.count (d : Int) + 2 * L.count ((2 * d : Nat) : Int) + 4 * L.count ((4 * d : Nat) : Int) + 8 * L.count ((8 * d : Nat) : Int) + 16 * L.count ((16 * d : Nat) : Int) + 32 * L.count ((32 * d : Nat) : Int)
  | [], _ => rfl
  | x :: L, h => by
    have ih := S_pow h1 h2 (L := L) fun y hy => h y (by simp [hy])
    have hx := h x (by simp)
    obtain ⟨n, rfl⟩ : ∃ n : Nat, x = (n : Int) := ⟨x.toNat, by omega⟩
    have := List.all_eq_true.1 pw_all n (by simp; omega)
    unfold pwOk at this
    simp only [Bool.or_eq_true, beq_iff_eq] at this
    have hw : (if (od 6 n).1 = d then (od 6 n).2 else 0) = pw6 d n := by
      rcases this with q | q
      · omega
      · have := List.all_eq_true.1 q d (by simp; omega)
        simp only [Bool.or_eq_true, beq_iff_eq, decide_eq_true_eq] at this
        rcases this with q | q
        · omega
        · exact q
    have hw2 : w (d : Int) (n : Int) = pw6 d n := by
      rw [← hw]; unfold w; rw [Int.toNat_natCast]
      by_cases e : (od 6 n).1 = d
      · rw [if_pos e, if_pos (by omega)]
      · rw [if_neg e, if_neg (by omega)]
    have hc : ∀ k : Nat, ((n : Int) == (k : Int)) = decide (n = k) := fun k => by rw [Bool.eq_iff_iff, beq_iff_eq, decide_eq_true_eq]; omega
    simp only [S, hw2, ih, List.count_cons, hc, decide_eq_true_eq]
    unfold pw6
    omega
theorem known {A B : List Int} (hA : Pos A) (hB : Pos B) (nA : A.Nodup) (nB : B.Nodup) (h : ∀ d, S d A = S d B) (v : Int) : A.count v = B.count v := by
  by_cases hv : 1 ≤ v ∧ v ≤ 40
  · obtain ⟨x, rfl⟩ : ∃ x : Nat, v = (x : Int) := ⟨v.toNat, by omega⟩
    obtain ⟨⟨a1, a2, a3, a4, _⟩, _⟩ := od_ok (x := x) (by omega) (by omega)
    have hd : (od 6 x).1 ≤ 40 := by
      have := Nat.mul_le_mul_left (od 6 x).1 a4
      omega
    have hs := h ((od 6 x).1 : Int)
    rw [S_pow hd a1 hA, S_pow hd a1 hB] at hs
    have cA := fun a => List.nodup_iff_count.1 nA a
    have cB := fun a => List.nodup_iff_count.1 nB a
    have hp := List.all_eq_true.1 pt_all x (by simp; omega)
    unfold ptOk at hp
    simp only [Bool.or_eq_true, beq_iff_eq, decide_eq_true_eq] at hp
    generalize (od 6 x).1 = d at *
    generalize (od 6 x).2 = p at *
    have := cA (d : Int); have := cA ((2 * d : Nat) : Int); have := cA ((4 * d : Nat) : Int); have := cA ((8 * d : Nat) : Int); have := cA ((16 * d : Nat) : Int); have := cA ((32 * d : Nat) : Int)
    have := cB (d : Int); have := cB ((2 * d : Nat) : Int); have := cB ((4 * d : Nat) : Int); have := cB ((8 * d : Nat) : Int); have := cB ((16 * d : Nat) : Int); have := cB ((32 * d : Nat) : Int)
    clear cA cB h
    rcases hp with hp | hp | hp | hp | hp | hp | hp
    · omega
    all_goals subst hp
    · rw [show x = d from by omega]; omega
    · rw [show x = 2 * d from by omega]; omega
    · rw [show x = 4 * d from by omega]; omega
    · rw [show x = 8 * d from by omega]; omega
    · rw [show x = 16 * d from by omega]; omega
    · rw [show x = 32 * d from by omega]; omega
  · rw [List.count_eq_zero.2 fun m => hv (hA v m), List.count_eq_zero.2 fun m => hv (hB v m)]
theorem S_odd {d : Int} : ∀ {L : List Int}, Pos L → (∀ x ∈ L, x.toNat % 2 = 1) → S d L = L.count d
  | [], _, _ => rfl
  | x :: L, h, ho => by
    have hx := h x (by simp)
    rw [List.count_cons, S, S_odd (L := L) (fun y hy => h y (by simp [hy])) fun y hy => ho y (by simp [hy]), w_odd hx.1 hx.2 (ho x (by simp))]
    simp only [beq_iff_eq]
    omega
end Go.Proofs.Ytihmliblbhjlaaa

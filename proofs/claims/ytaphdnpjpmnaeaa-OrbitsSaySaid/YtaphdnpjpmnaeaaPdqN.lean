/- Numbers in the sorts: how many bits a number has, and what 'and' leaves. -/
import Derived.Test.YtaphdnpjpmnaeaaDef
import Derived.Test.YtaphdnpjpmnaeaaPureC
set_option linter.unusedVariables false
set_option linter.unusedSimpArgs false
namespace Go.Proofs.Ytaphdnpjpmnaeaa.pdqN
open Go.Am

def lenTab : List UInt8 := [0, 1, 2, 2, 3, 3, 3, 3, 4, 4, 4, 4, 4, 4, 4, 4, 5, 5, 5, 5, 5, 5, 5, 5, 5, 5, 5, 5, 5, 5, 5, 5, 6, 6, 6, 6, 6, 6, 6, 6, 6, 6, 6, 6, 6, 6, 6, 6, 6, 6, 6, 6, 6, 6, 6, 6, 6, 6, 6, 6, 6, 6, 6, 6, 7, 7, 7, 7, 7, 7, 7, 7, 7, 7, 7, 7, 7, 7, 7, 7, 7, 7, 7, 7, 7, 7, 7, 7, 7, 7, 7, 7, 7, 7, 7, 7, 7, 7, 7, 7, 7, 7, 7, 7, 7, 7, 7, 7, 7, 7, 7, 7, 7, 7, 7, 7, 7, 7, 7, 7, 7, 7, 7, 7, 7, 7, 7, 7, 8, 8, 8, 8, 8, 8, 8, 8, 8, 8, 8, 8, 8, 8, 8, 8, 8, 8, 8, 8, 8, 8, 8, 8, 8, 8, 8, 8, 8, 8, 8, 8, 8, 8, 8, 8, 8, 8, 8, 8, 8, 8, 8, 8, 8, 8, 8, 8, 8, 8, 8, 8, 8, 8, 8, 8, 8, 8, 8, 8, 8, 8, 8, 8, 8, 8, 8, 8, 8, 8, 8, 8, 8, 8, 8, 8, 8, 8, 8, 8, 8, 8, 8, 8, 8, 8, 8, 8, 8, 8, 8, 8, 8, 8, 8, 8, 8, 8, 8, 8, 8, 8, 8, 8, 8, 8, 8, 8, 8, 8, 8, 8, 8, 8, 8, 8, 8, 8, 8, 8, 8, 8, 8, 8, 8, 8, 8, 8]
def tabOk (x : Nat) : Bool := match at? lenTab (x : Int) with
  | some v => decide (x = 0 ∧ v = 0 ∨ 2 ^ v.toNat ≤ 2 * x ∧ x < 2 ^ v.toNat)
  | none => false
theorem tab_all : ((List.range 256).all tabOk) = true := by kernel_rfl
/-- n has k bits. -/
def BL (n k : Nat) : Prop := 2 ^ k ≤ 2 * n ∧ n < 2 ^ k
theorem tab_ok {x : Nat} (h0 : 0 < x) (h : x < 256) : ∃ v : UInt8, at? lenTab (x : Int) = some v ∧ BL x v.toNat := by
  have := List.all_eq_true.1 tab_all x (by simpa using h)
  unfold tabOk at this
  revert this
  cases at? lenTab (x : Int) with
  | none => intro h; cases h
  | some v =>
    intro h
    simp only [decide_eq_true_eq] at h
    rcases h with ⟨h1, _⟩ | h
    · omega
    · exact ⟨v, rfl, h⟩
theorem BL.shift {n s v : Nat} (h : BL (n / 2 ^ s) v) : BL n (v + s) := by
  obtain ⟨h1, h2⟩ := h
  have hp : 0 < 2 ^ s := Nat.two_pow_pos s
  have e1 := Nat.div_mul_le_self n (2 ^ s)
  have e2 := Nat.lt_mul_of_div_lt h2 hp
  refine ⟨?_, ?_⟩
  · rw [Nat.pow_add]
    have := Nat.mul_le_mul_right (2 ^ s) h1
    rw [Nat.mul_assoc] at this
    omega
  · rw [Nat.pow_add, Nat.mul_comm]; rw [Nat.mul_comm] at e2; rw [Nat.mul_comm (2 ^ s)]; rw [Nat.mul_comm (2 ^ s)] at e2; exact e2
theorem BL.pos {n k : Nat} (h : BL n k) (hn : 0 < n) : 0 < k := by
  rcases Nat.eq_zero_or_pos k with e | e
  · subst e; have := h.2; simp at this; omega
  · exact e
theorem len64 (F n : Nat) (h0 : 0 < n) (hn : n ≤ 8796093022208) : ∃ k : Nat, F46 F (n : Int) = some (k : Int) ∧ BL n k ∧ k ≤ 400 := by
  unfold F46
  rw [show ([0, 1, 2, 2, 3, 3, 3, 3, 4, 4, 4, 4, 4, 4, 4, 4, 5, 5, 5, 5, 5, 5, 5, 5, 5, 5, 5, 5, 5, 5, 5, 5, 6, 6, 6, 6, 6, 6, 6, 6, 6, 6, 6, 6, 6, 6, 6, 6, 6, 6, 6, 6, 6, 6, 6, 6, 6, 6, 6, 6, 6, 6, 6, 6, 7, 7, 7, 7, 7, 7, 7, 7, 7, 7, 7, 7, 7, 7, 7, 7, 7, 7, 7, 7, 7, 7, 7, 7, 7, 7, 7, 7, 7, 7, 7, 7, 7, 7, 7, 7, 7, 7, 7, 7, 7, 7, 7, 7, 7, 7, 7, 7, 7, 7, 7, 7, 7, 7, 7, 7, 7, 7, 7, 7, 7, 7, 7, 7, 8, 8, 8, 8, 8, 8, 8, 8, 8, 8, 8, 8, 8, 8, 8, 8, 8, 8, 8, 8, 8, 8, 8, 8, 8, 8, 8, 8, 8, 8, 8, 8, 8, 8, 8, 8, 8, 8, 8, 8, 8, 8, 8, 8, 8, 8, 8, 8, 8, 8, 8, 8, 8, 8, 8, 8, 8, 8, 8, 8, 8, 8, 8, 8, 8, 8, 8, 8, 8, 8, 8, 8, 8, 8, 8, 8, 8, 8, 8, 8, 8, 8, 8, 8, 8, 8, 8, 8, 8, 8, 8, 8, 8, 8, 8, 8, 8, 8, 8, 8, 8, 8, 8, 8, 8, 8, 8, 8, 8, 8, 8, 8, 8, 8, 8, 8, 8, 8, 8, 8, 8, 8, 8, 8, 8, 8, 8, 8] : List UInt8) = lenTab from rfl]
  have s32 := shr_nat (k := .u64) n 32 (by decide)
  have step2 : ∀ (m c : Nat), 0 < m → m < 4294967296 → c ≤ 32 → ∃ k : Nat, ((show Option (Int × Int) from (if (decide ((m : Int) ≥ 65536)) then ((shr? .u64 (m : Int) 16).bind fun x10 => some ((x10, (wrapA .i64 ((c : Int) + 16))))) else some (((m : Int), (c : Int))))).bind fun b12 =>
      if (decide (b12.1 ≥ 256)) then ((shr? .u64 b12.1 8).bind fun x18 => (at? lenTab (wrapA .u8 x18)).bind fun x20 => some ((wrapA .i64 ((wrapA .i64 (b12.2 + 8)) + (wrapA .i64 (x20.toNat : Int))))))
      else (at? lenTab (wrapA .u8 b12.1)).bind fun x22 => some ((wrapA .i64 (b12.2 + (wrapA .i64 (x22.toNat : Int)))))) = some ((k + c : Nat) : Int) ∧ BL m k ∧ k ≤ 290 := by
    have step3 : ∀ (m c : Nat), 0 < m → m < 65536 → c ≤ 48 → ∃ k : Nat, (if (decide ((m : Int) ≥ 256)) then ((shr? .u64 (m : Int) 8).bind fun x18 => (at? lenTab (wrapA .u8 x18)).bind fun x20 => some ((wrapA .i64 ((wrapA .i64 ((c : Int) + 8)) + (wrapA .i64 (x20.toNat : Int))))))
        else (at? lenTab (wrapA .u8 (m : Int))).bind fun x22 => some ((wrapA .i64 ((c : Int) + (wrapA .i64 (x22.toNat : Int)))))) = some ((k + c : Nat) : Int) ∧ BL m k ∧ k ≤ 270 := by
      intro m c hm hm2 hc
      by_cases h : 256 ≤ m
      · have hd : m / 2 ^ 8 < 256 := by omega
        have hd0 : 0 < m / 2 ^ 8 := by omega
        obtain ⟨v, hv, hb⟩ := tab_ok hd0 hd
        have hvl : v.toNat < 256 := v.toNat_lt
        rw [if_pos (decide_eq_true (by omega)), show (8 : Int) = ((8 : Nat) : Int) from rfl, shr_nat (k := .u64) m 8 (by decide), Option.bind_some, wu8 (by omega) (by omega), hv, Option.bind_some]
        refine ⟨v.toNat + 8, ?_, hb.shift, by omega⟩
        rw [w64 (a := (c : Int) + ((8 : Nat) : Int)) (by omega) (by omega), w64 (a := (v.toNat : Int)) (by omega) (by omega), w64 (by omega) (by omega)]
        congr 1; omega
      · obtain ⟨v, hv, hb⟩ := tab_ok hm (by omega)
        have hvl : v.toNat < 256 := v.toNat_lt
        rw [if_neg (by rw [decide_eq_true_eq]; omega), wu8 (by omega) (by omega), hv, Option.bind_some]
        refine ⟨v.toNat, ?_, hb, by omega⟩
        rw [w64 (a := (v.toNat : Int)) (by omega) (by omega), w64 (by omega) (by omega)]
        congr 1; omega
    intro m c hm hm2 hc
    by_cases h : 65536 ≤ m
    · have hd : m / 2 ^ 16 < 65536 := by omega
      have hd0 : 0 < m / 2 ^ 16 := by omega
      obtain ⟨k, e, hb, hk⟩ := step3 (m / 2 ^ 16) (c + 16) hd0 hd (by omega)
      rw [if_pos (decide_eq_true (by omega)), show (16 : Int) = ((16 : Nat) : Int) from rfl, shr_nat (k := .u64) m 16 (by decide), Option.bind_some, w64 (a := (c : Int) + ((16 : Nat) : Int)) (by omega) (by omega)]
      simp only [Option.bind_some]
      rw [show (c : Int) + ((16 : Nat) : Int) = ((c + 16 : Nat) : Int) from by omega, e]
      exact ⟨k + 16, by congr 1; omega, hb.shift, by omega⟩
    · obtain ⟨k, e, hb, hk⟩ := step3 m c hm (by omega) (by omega)
      rw [if_neg (by rw [decide_eq_true_eq]; omega)]
      simp only [Option.bind_some]
      exact ⟨k, e, hb, by omega⟩
  by_cases h : 4294967296 ≤ n
  · obtain ⟨k, e, hb, hk⟩ := step2 (n / 2 ^ 32) 32 (by omega) (by omega) (by omega)
    rw [if_pos (decide_eq_true (by omega)), show (32 : Int) = ((32 : Nat) : Int) from rfl, s32, Option.bind_some]
    simp only [Option.bind_some] at e ⊢
    exact ⟨k + 32, e, hb.shift, by omega⟩
  · obtain ⟨k, e, hb, hk⟩ := step2 n 0 h0 (by omega) (by omega)
    rw [if_neg (by rw [decide_eq_true_eq]; omega)]
    simp only [Option.bind_some] at e ⊢
    exact ⟨k, e, hb, by omega⟩
theorem len_eq (F n : Nat) (hn : n ≤ 8796093022208) : ∃ k : Nat, F29 F (wrapA .u64 (n : Int)) = some (k : Int) ∧ (0 < n → BL n k) ∧ k ≤ 400 := by
  unfold F29
  rw [wu64 (by omega) (by omega), if_neg (by decide)]
  by_cases h : n = 0
  · subst h
    exact ⟨0, by kernel_rfl, fun h => by omega, by omega⟩
  · obtain ⟨k, e, hb, hk⟩ := len64 F n (by omega) hn
    rw [e]
    exact ⟨k, rfl, fun _ => hb, hk⟩
/-- The next power of two. -/
theorem npt_eq (F n : Nat) (h0 : 0 < n) (hn : n ≤ 8796093022208) : ∃ M : Nat, F52 F (n : Int) = some (M : Int) ∧ n < M ∧ M ≤ 2 * n := by
  unfold F52
  obtain ⟨k, e, hb, hk⟩ := len_eq F n hn
  have hb := hb h0
  obtain ⟨h1, h2⟩ := hb
  have hk41 : k ≤ 44 := by
    rcases Nat.lt_or_ge 44 k with q | q
    · exfalso
      have : 2 ^ 45 ≤ 2 ^ k := Nat.pow_le_pow_right (by omega) q
      have e42 : (2 : Nat) ^ 45 = 35184372088832 := by decide
      omega
    · exact q
  rw [e, Option.bind_some]
  unfold shl?
  rw [if_neg (by omega), Option.bind_some, Int.toNat_natCast, Nat.min_eq_left (by show k ≤ 64; omega)]
  refine ⟨2 ^ k, ?_, h2, h1⟩
  have e1 : (1 : Int) * 2 ^ k = ((2 ^ k : Nat) : Int) := by simp
  rw [e1, wu64 (by omega) (by omega)]
theorem and_le (x : Int) (y : Nat) (hy : y < 18446744073709551616) : ∃ r : Nat, bit .and .u64 x (y : Int) = (r : Int) ∧ r ≤ y := by
  unfold bit bits2
  simp only [Option.getD_some]
  have e : (BitVec.ofInt (IntKind.bits .u64) (y : Int)).toNat = y := by
    show (BitVec.ofInt 64 (y : Int)).toNat = y
    rw [show BitVec.ofInt 64 (y : Int) = BitVec.ofNat 64 y by simp, BitVec.toNat_ofNat, Nat.mod_eq_of_lt (by simpa using hy)]
  have h : (BitVec.ofInt (IntKind.bits .u64) x &&& BitVec.ofInt (IntKind.bits .u64) (y : Int)).toNat ≤ y := by
    rw [BitVec.toNat_and, e]; exact Nat.and_le_right
  refine ⟨_, wu64 (by omega) (by omega), h⟩
end Go.Proofs.Ytaphdnpjpmnaeaa.pdqN

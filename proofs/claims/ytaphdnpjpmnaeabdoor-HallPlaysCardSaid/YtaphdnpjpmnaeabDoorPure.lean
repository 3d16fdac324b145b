/- Plain laws of the functional texts' words. -/
import Derived.Test.YtaphdnpjpmnaeabDoorDenC
namespace Go.Am

/-! ### Loops -/
section
variable {σ β : Type} {step : σ → Option (Stp σ β)}
theorem iter_more {f : Nat} {s s' : σ} (h : step s = some (.more s')) : iter step (f + 1) s = iter step f s' := by simp only [iter, h]
theorem iter_stop {f : Nat} {s : σ} {b : β} (h : step s = some (.stop b)) : iter step (f + 1) s = some b := by simp only [iter, h]
/-- A loop whose state at each round's head is known, up to its end. -/
theorem iter_run (P : Nat → σ) {b : β} : ∀ (N i F : Nat), (∀ j, i ≤ j → j < i + N → step (P j) = some (.more (P (j + 1)))) → step (P (i + N)) = some (.stop b) → N < F → iter step F (P i) = some b
  | 0, i, F, _, he, hF => by
    obtain ⟨F, rfl⟩ : ∃ q, F = q + 1 := ⟨F - 1, by omega⟩
    exact iter_stop he
  | N + 1, i, F, hs, he, hF => by
    obtain ⟨F, rfl⟩ : ∃ q, F = q + 1 := ⟨F - 1, by omega⟩
    rw [iter_more (hs i (Nat.le_refl _) (by omega))]
    exact iter_run P N (i + 1) F (fun j h1 h2 => hs j (by omega) (by omega)) (by rw [show i + 1 + N = i + (N + 1) from by omega]; exact he) (by omega)
theorem iter_count (P : Nat → σ) {b : β} {F : Nat} (N : Nat) (hs : ∀ j, j < N → step (P j) = some (.more (P (j + 1)))) (he : step (P N) = some (.stop b)) (hF : N < F) : iter step F (P 0) = some b :=
  iter_run P N 0 F (fun j _ h => hs j (by omega)) (by rw [Nat.zero_add]; exact he) hF
/-- A loop that keeps I and comes to an answer that is Q. -/
theorem iter_inv (I : σ → Prop) (μ : σ → Nat) (Q : β → Prop) (h : ∀ s, I s → (∃ s', step s = some (.more s') ∧ I s' ∧ μ s' < μ s) ∨ ∃ b, step s = some (.stop b) ∧ Q b) : ∀ (F : Nat) (s : σ), I s → μ s < F → ∃ b, iter step F s = some b ∧ Q b
  | 0, _, _, hF => by omega
  | F + 1, s, hs, hF => by
    rcases h s hs with ⟨s', h1, h2, h3⟩ | ⟨b, h1, h2⟩
    · rw [iter_more h1]; exact iter_inv I μ Q h F s' h2 (by omega)
    · exact ⟨b, iter_stop h1, h2⟩
end

/-- Two loops that agree where they come. -/
theorem iter_congr {σ β : Type} {step step' : σ → Option (Stp σ β)} (I : σ → Prop) (h : ∀ s, I s → step s = step' s) (hp : ∀ s s', I s → step s = some (.more s') → I s') : ∀ (F : Nat) (s : σ), I s → iter step F s = iter step' F s
  | 0, _, _ => rfl
  | F + 1, s, hs => by
    simp only [Am.iter]
    rw [← h s hs]
    split
    · rfl
    · rename_i s' e; exact iter_congr I h hp F s' (hp s s' hs e)
    · rfl

/-! ### More fuel -/
structure Le {α : Type} (a b : Option α) : Prop where
  up : ∀ r, a = some r → b = some r
theorem Le.refl {α : Type} (a : Option α) : Le a a := ⟨fun _ h => h⟩
theorem Le.bind {α β : Type} {a b : Option α} {f g : α → Option β} (h : Le a b) (k : ∀ x, Le (f x) (g x)) : Le (a.bind f) (b.bind g) := ⟨by
  intro r hr
  obtain ⟨x, h1, h2⟩ := bindS hr
  rw [h.up x h1]; exact (k x).up r h2⟩
theorem Le.ite {α : Type} {c : Prop} [Decidable c] {a b a' b' : Option α} (h : Le a a') (k : Le b b') : Le (if c then a else b) (if c then a' else b') := by
  split
  · exact h
  · exact k
theorem iter_le {σ β : Type} {step step' : σ → Option (Stp σ β)} (k : ∀ s, Le (step s) (step' s)) : ∀ {F F' : Nat}, F ≤ F' → ∀ {s : σ} {r : β}, iter step F s = some r → iter step' F' s = some r
  | 0, _, _, _, _, h => by cases h
  | F + 1, 0, hF, _, _, _ => by omega
  | F + 1, F' + 1, hF, s, r, hr => by
    simp only [Am.iter] at hr ⊢
    split at hr
    · cases hr
    · rename_i s' hs; rw [(k s).up _ hs]; exact iter_le k (by omega) hr
    · rename_i b hs; rw [(k s).up _ hs]; exact hr
theorem Le.iter {σ β : Type} {step step' : σ → Option (Stp σ β)} (k : ∀ s, Le (step s) (step' s)) {F F' : Nat} (h : F ≤ F') {s : σ} : Le (iter step F s) (iter step' F' s) := ⟨fun _ hr => iter_le k h hr⟩

/-! ### Numbers -/
theorem w64 {a : Int} (h1 : -9223372036854775808 ≤ a) (h2 : a ≤ 9223372036854775807) : wrapA .i64 a = a := if_pos ⟨h1, h2⟩
theorem wu16 {a : Int} (h1 : 0 ≤ a) (h2 : a ≤ 65535) : wrapA .u16 a = a := if_pos ⟨h1, h2⟩
theorem wu8 {a : Int} (h1 : 0 ≤ a) (h2 : a ≤ 255) : wrapA .u8 a = a := if_pos ⟨h1, h2⟩
theorem wu32 {a : Int} (h1 : 0 ≤ a) (h2 : a ≤ 4294967295) : wrapA .u32 a = a := if_pos ⟨h1, h2⟩
theorem wu64 {a : Int} (h1 : 0 ≤ a) (h2 : a ≤ 18446744073709551615) : wrapA .u64 a = a := if_pos ⟨h1, h2⟩
theorem inR64 {a : Int} (h : inR .i64 a) : -9223372036854775808 ≤ a ∧ a ≤ 9223372036854775807 := h
theorem inR16 {a : Int} (h : inR .u16 a) : 0 ≤ a ∧ a ≤ 65535 := h
theorem inR8 {a : Int} (h : inR .u8 a) : 0 ≤ a ∧ a ≤ 255 := h
theorem tdiv_nat (a b : Nat) : Int.tdiv (a : Int) (b : Int) = ((a / b : Nat) : Int) := rfl
theorem tmod_nat (a b : Nat) : Int.tmod (a : Int) (b : Int) = ((a % b : Nat) : Int) := rfl
theorem fdiv_nat (a b : Nat) : Int.fdiv (a : Int) (b : Int) = ((a / b : Nat) : Int) := by
  rw [Int.fdiv_eq_ediv_of_nonneg _ (by omega)]; rfl

theorem shr_nat {k : IntKind} (a j : Nat) (h : j ≤ k.bits) : shr? k (a : Int) (j : Int) = some ((a / 2 ^ j : Nat) : Int) := by
  unfold shr?
  rw [if_neg (by omega), show ((j : Int).toNat) = j from rfl, Nat.min_eq_left h, show ((2 : Int) ^ j) = ((2 ^ j : Nat) : Int) by simp, fdiv_nat]

theorem bits_nat (a b : Nat) (ha : a < 65536) (hb : b < 65536) : bit .xor .u16 (a : Int) (b : Int) = ((a ^^^ b : Nat) : Int) ∧ bit .and .u16 (a : Int) (b : Int) = ((a &&& b : Nat) : Int) ∧ bit .or .u16 (a : Int) (b : Int) = ((a ||| b : Nat) : Int) := by
  have e : ∀ x : Nat, x < 65536 → (BitVec.ofInt (IntKind.bits .u16) (x : Int)).toNat = x := by
    intro x hx
    show (BitVec.ofInt 16 (x : Int)).toNat = x
    rw [show BitVec.ofInt 16 (x : Int) = BitVec.ofNat 16 x by simp, BitVec.toNat_ofNat, Nat.mod_eq_of_lt (by simpa using hx)]
  have h1 : a ^^^ b < 65536 := Nat.xor_lt_two_pow (n := 16) ha hb
  have h2 : a &&& b < 65536 := Nat.lt_of_le_of_lt Nat.and_le_left ha
  have h3 : a ||| b < 65536 := Nat.or_lt_two_pow (n := 16) ha hb
  refine ⟨?_, ?_, ?_⟩
  · simp only [bit, bits2, BitVec.toNat_xor, e a ha, e b hb, Option.getD_some]
    apply wu16 <;> omega
  · simp only [bit, bits2, BitVec.toNat_and, e a ha, e b hb, Option.getD_some]
    apply wu16 <;> omega
  · simp only [bit, bits2, BitVec.toNat_or, e a ha, e b hb, Option.getD_some]
    apply wu16 <;> omega
theorem xor_nat {a b : Nat} (ha : a < 65536) (hb : b < 65536) : bit .xor .u16 (a : Int) (b : Int) = ((a ^^^ b : Nat) : Int) := (bits_nat a b ha hb).1
theorem and_nat {a b : Nat} (ha : a < 65536) (hb : b < 65536) : bit .and .u16 (a : Int) (b : Int) = ((a &&& b : Nat) : Int) := (bits_nat a b ha hb).2.1
theorem or_nat {a b : Nat} (ha : a < 65536) (hb : b < 65536) : bit .or .u16 (a : Int) (b : Int) = ((a ||| b : Nat) : Int) := (bits_nat a b ha hb).2.2
theorem xor_lt16 {a b : Nat} (ha : a < 65536) (hb : b < 65536) : a ^^^ b < 65536 := Nat.xor_lt_two_pow (n := 16) ha hb
theorem or_lt16 {a b : Nat} (ha : a < 65536) (hb : b < 65536) : a ||| b < 65536 := Nat.or_lt_two_pow (n := 16) ha hb

/-- All below n * k, two digits. -/
def all2 (n k : Nat) (f : Nat → Bool) : Bool := (List.range n).all fun i => (List.range k).all fun j => f (k * i + j)
theorem all2_ok {n k : Nat} {f : Nat → Bool} (h : all2 n k f = true) (a : Nat) (ha : a < n * k) : f a = true := by
  simp only [all2, List.all_eq_true, List.mem_range] at h
  have hk : 0 < k := by rcases Nat.eq_zero_or_pos k with e | e; (subst e; simp at ha); exact e
  have := h (a / k) (Nat.div_lt_of_lt_mul (by rwa [Nat.mul_comm] at ha)) (a % k) (Nat.mod_lt _ hk)
  rwa [Nat.div_add_mod] at this

/-! ### Lists -/
theorem at?_in {α : Type} {L : List α} {i : Nat} (h : i < L.length) : at? L (i : Int) = some L[i] := by
  unfold at?; rw [if_pos (by omega)]; simp [h]
theorem app?_ok {α : Type} {L L' : List α} (h : L.length + L'.length ≤ 549755813888) : app? L L' = some (L ++ L') := if_pos h
theorem mk?_ok {α : Type} {n : Nat} {z : α} (h : n ≤ 1099511627776) : mk? (n : Int) z = some (List.replicate n z) := by
  unfold mk?; rw [if_pos (by omega)]; rfl
theorem ck_ok {α : Type} {L : List α} {i : Nat} (h : i < L.length) : ck L (i : Int) = some () := by
  unfold ck; rw [if_pos (by omega)]
end Go.Am

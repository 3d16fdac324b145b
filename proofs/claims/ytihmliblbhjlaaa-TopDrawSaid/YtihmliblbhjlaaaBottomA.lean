/- Marks of names, and how names stand. -/
import Derived.Test.YtihmliblbhjlaaaPdqF
set_option linter.unusedVariables false
set_option linter.unusedSimpArgs false
namespace Go.Proofs.Ytihmliblbhjlaaa.bot
open Go.Am Go.Proofs.Ytihmliblbhjlaaa.pdqS

/-! ### Numbers of 32 bits -/
theorem wrap_u32 (n : Nat) : IntKind.wrap .u32 (n : Int) = ((n % 4294967296 : Nat) : Int) := by
  simp [IntKind.wrap, IntKind.bits, IntKind.signed]
theorem wu32m (n : Nat) : wrapA .u32 (n : Int) = ((n % 4294967296 : Nat) : Int) := by
  by_cases h : n ≤ 4294967295
  · rw [wu32 (by omega) (by omega), Nat.mod_eq_of_lt (by omega)]
  · unfold wrapA
    simp only
    rw [if_neg (by omega), wrap_u32]
theorem xor_u (k : IntKind) (w : Nat) (hk : k = .u32 ∧ w = 32 ∨ k = .u64 ∧ w = 64) {a b : Nat} (ha : a < 2 ^ w) (hb : b < 2 ^ w) : bit .xor k (a : Int) (b : Int) = ((a ^^^ b : Nat) : Int) := by
  have h1 : a ^^^ b < 2 ^ w := Nat.xor_lt_two_pow ha hb
  rcases hk with ⟨rfl, rfl⟩ | ⟨rfl, rfl⟩
  · have e : ∀ x : Nat, x < 2 ^ 32 → (BitVec.ofInt (IntKind.bits .u32) (x : Int)).toNat = x := by
      intro x hx
      show (BitVec.ofInt 32 (x : Int)).toNat = x
      rw [show BitVec.ofInt 32 (x : Int) = BitVec.ofNat 32 x by simp, BitVec.toNat_ofNat, Nat.mod_eq_of_lt hx]
    simp only [bit, bits2, BitVec.toNat_xor, e a ha, e b hb, Option.getD_some]
    exact wu32 (by omega) (by omega)
  · have e : ∀ x : Nat, x < 2 ^ 64 → (BitVec.ofInt (IntKind.bits .u64) (x : Int)).toNat = x := by
      intro x hx
      show (BitVec.ofInt 64 (x : Int)).toNat = x
      rw [show BitVec.ofInt 64 (x : Int) = BitVec.ofNat 64 x by simp, BitVec.toNat_ofNat, Nat.mod_eq_of_lt hx]
    simp only [bit, bits2, BitVec.toNat_xor, e a ha, e b hb, Option.getD_some]
    exact wu64 (by omega) (by omega)
theorem xor32 {a b : Nat} (ha : a < 4294967296) (hb : b < 4294967296) : bit .xor .u32 (a : Int) (b : Int) = ((a ^^^ b : Nat) : Int) ∧ a ^^^ b < 4294967296 :=
  ⟨xor_u .u32 32 (.inl ⟨rfl, rfl⟩) ha hb, Nat.xor_lt_two_pow (n := 32) ha hb⟩
theorem xor64 {a b : Nat} (ha : a < 4294967296) (hb : b < 4294967296) : bit .xor .u64 (a : Int) (b : Int) = ((a ^^^ b : Nat) : Int) :=
  xor_u .u64 64 (.inr ⟨rfl, rfl⟩) (Nat.lt_of_lt_of_le ha (by decide)) (Nat.lt_of_lt_of_le hb (by decide))

theorem castmul (x m : Nat) : (x : Int) * (m : Int) = ((x * m : Nat) : Int) := (Int.natCast_mul x m).symm
theorem step32 (x c M : Nat) (hx : x < 4294967296) (hc : c < 256) : wrapA .u32 ((bit .xor .u32 (x : Int) (wrapA .u32 (c : Int))) * (M : Int)) = (((x ^^^ c) * M % 4294967296 : Nat) : Int) := by
  rw [wu32 (a := (c : Int)) (by omega) (by omega), (xor32 hx (by omega)).1, castmul, wu32m]
theorem mul64 (y M : Nat) (hx : y < 4294967296) (hM : M < 4294967296) : Int.tmod (wrapA .u64 ((y : Int) * (M : Int))) 4294967296 = ((y * M % 4294967296 : Nat) : Int) := by
  have h2 : y * M ≤ 4294967295 * 4294967295 := Nat.mul_le_mul (by omega) (by omega)
  rw [castmul]
  generalize y * M = z at h2 ⊢
  rw [wu64 (by omega) (by omega)]
  exact tmod_nat z 4294967296
theorem step64 (x c M : Nat) (hx : x < 4294967296) (hc : c < 256) (hM : M < 4294967296) : Int.tmod (wrapA .u64 ((bit .xor .u64 (x : Int) (wrapA .u64 (c : Int))) * (M : Int))) 4294967296 = (((x ^^^ c) * M % 4294967296 : Nat) : Int) := by
  have h := (xor32 hx (by omega : c < 4294967296)).2
  rw [wu64 (a := (c : Int)) (by omega) (by omega), xor64 hx (by omega), mul64 _ _ h hM]
def fin (M x : Nat) : Nat := ((x ^^^ x / 32768) * M % 4294967296) ^^^ ((x ^^^ x / 32768) * M % 4294967296) / 8192
theorem fin32 (x M : Nat) (hx : x < 4294967296) : ((shr? .u32 (x : Int) 15).bind fun a => (shr? .u32 (wrapA .u32 ((bit .xor .u32 (x : Int) a) * (M : Int))) 13).bind fun b => some (bit .xor .u32 (wrapA .u32 ((bit .xor .u32 (x : Int) a) * (M : Int))) b)) = some ((fin M x : Nat) : Int) := by
  have h1 : x / 32768 < 4294967296 := Nat.lt_of_le_of_lt (Nat.div_le_self _ _) hx
  rw [show (15 : Int) = ((15 : Nat) : Int) from rfl, shr_nat (k := .u32) x 15 (by decide), Option.bind_some, show (2 : Nat) ^ 15 = 32768 from rfl, (xor32 hx h1).1, castmul, wu32m]
  have h2 : (x ^^^ x / 32768) * M % 4294967296 < 4294967296 := Nat.mod_lt _ (by decide)
  unfold fin
  generalize (x ^^^ x / 32768) * M % 4294967296 = y at h2 ⊢
  rw [show (13 : Int) = ((13 : Nat) : Int) from rfl, shr_nat (k := .u32) y 13 (by decide), Option.bind_some, show (2 : Nat) ^ 13 = 8192 from rfl]
  rw [(xor32 h2 (Nat.lt_of_le_of_lt (Nat.div_le_self _ _) h2)).1]
theorem fin64 (x M : Nat) (hx : x < 4294967296) (hM : M < 4294967296) : wrapA .u32 (bit .xor .u64 (Int.tmod (wrapA .u64 ((bit .xor .u64 (x : Int) (wrapA .u64 (Int.tdiv (x : Int) 32768))) * (M : Int))) 4294967296) (wrapA .u64 (Int.tdiv (Int.tmod (wrapA .u64 ((bit .xor .u64 (x : Int) (wrapA .u64 (Int.tdiv (x : Int) 32768))) * (M : Int))) 4294967296) 8192))) = ((fin M x : Nat) : Int) := by
  have h1 : x / 32768 < 4294967296 := Nat.lt_of_le_of_lt (Nat.div_le_self _ _) hx
  have h3 := (xor32 hx h1).2
  rw [show Int.tdiv (x : Int) 32768 = ((x / 32768 : Nat) : Int) from tdiv_nat x 32768, wu64 (a := ((x / 32768 : Nat) : Int)) (by omega) (by omega), xor64 hx h1, mul64 _ _ h3 hM]
  have h2 : (x ^^^ x / 32768) * M % 4294967296 < 4294967296 := Nat.mod_lt _ (by decide)
  unfold fin
  generalize (x ^^^ x / 32768) * M % 4294967296 = y at h2 ⊢
  have h4 : y / 8192 < 4294967296 := Nat.lt_of_le_of_lt (Nat.div_le_self _ _) h2
  rw [show Int.tdiv (y : Int) 8192 = ((y / 8192 : Nat) : Int) from tdiv_nat y 8192, wu64 (a := ((y / 8192 : Nat) : Int)) (by omega) (by omega), xor64 h2 h4, wu32 (by have := (xor32 h2 h4).2; omega) (by have := (xor32 h2 h4).2; omega)]

/-! ### The mark -/
def mkM (M x : Nat) (c : UInt8) : Nat := (x ^^^ c.toNat) * M % 4294967296
def mkL (s : List UInt8) : Nat := s.foldl (mkM 16777619) 2166136261
/-- The mark of a name. -/
def MK (s : List UInt8) : Nat := fin 2246822519 (mkL s)
theorem mkM_def (M x : Nat) (c : UInt8) : mkM M x c = (x ^^^ c.toNat) * M % 4294967296 := rfl
theorem mkM_lt (M x : Nat) (c : UInt8) : mkM M x c < 4294967296 := Nat.mod_lt _ (by decide)
theorem mkL_nil : mkL [] = 2166136261 := rfl
theorem mkL_nilI : ((mkL [] : Nat) : Int) = 2166136261 := by rw [mkL_nil]; rfl
theorem foldl_snoc {α β : Type} (f : β → α → β) (a : β) (l : List α) (c : α) : (l ++ [c]).foldl f a = f (l.foldl f a) c := by simp
theorem take_snoc {α : Type} (s : List α) (i : Nat) (hi : i < s.length) : s.take (i + 1) = s.take i ++ [s[i]] := by
  rw [List.take_add_one, List.getElem?_eq_getElem hi]; rfl
theorem mkL_snoc (s : List UInt8) (i : Nat) (hi : i < s.length) : mkL (s.take (i + 1)) = mkM 16777619 (mkL (s.take i)) s[i] := by
  rw [take_snoc s i hi]; exact foldl_snoc (mkM 16777619) 2166136261 (s.take i) s[i]
theorem mkL_lt (s : List UInt8) : mkL s < 4294967296 :=
  foldl_inv (fun x => x < 4294967296) (mkM 16777619) s 2166136261 (by decide) (fun x c _ _ => mkM_lt _ x c)
theorem mark_eq (F : Nat) (s : List UInt8) (hl : s.length ≤ 9223372036854775807) (hF : s.length < F) : F61 F s = some (MK s : Int) := by
  unfold F61
  have hb : bytes? s = some (s.map fun b => (b.toNat : Int)) := if_pos hl
  rw [hb, Option.bind_some]
  have hloop : iter (F61_l0 F (s.map fun b => (b.toNat : Int))) F (2166136261, 0) = some ((mkL s : Nat) : Int) := by
    have := iter_count (step := F61_l0 F (s.map fun b => (b.toNat : Int))) (F := F) (b := ((mkL s : Nat) : Int)) (fun i => (((mkL (s.take i) : Nat) : Int), (i : Int))) s.length (fun i hi => ?_) ?_ hF
    · simp only [List.take_zero, mkL_nilI] at this; exact this
    · have hx := mkL_lt (s.take i)
      have hc : s[i].toNat < 256 := s[i].toNat_lt
      have e := mkL_snoc s i hi
      have e2 := step32 (mkL (s.take i)) s[i].toNat 16777619 hx hc
      rw [← mkM_def, ← e] at e2
      unfold F61_l0
      simp only [List.length_map]
      clear hx hc e
      rw [if_pos (decide_eq_true (by omega)), at?_in (by simpa using hi), Option.bind_some, List.getElem_map]
      rw [show (16777619 : Int) = ((16777619 : Nat) : Int) from rfl, e2, wsuc (by omega)]
    · unfold F61_l0
      simp only [List.length_map]
      rw [if_neg (by rw [decide_eq_true_eq]; omega), List.take_length]
  rw [hloop, Option.bind_some, show (2246822519 : Int) = ((2246822519 : Nat) : Int) from rfl]
  exact fin32 (mkL s) 2246822519 (mkL_lt s)
theorem markOf_eq (F : Nat) (s : List UInt8) (hl : s.length ≤ 9223372036854775807) (hF : s.length < F) : F62 F s = some (MK s : Int) := by
  unfold F62
  have hloop : iter (F62_l0 F s) F (2166136261, 0) = some ((mkL s : Nat) : Int) := by
    have := iter_count (step := F62_l0 F s) (F := F) (b := ((mkL s : Nat) : Int)) (fun i => (((mkL (s.take i) : Nat) : Int), (i : Int))) s.length (fun i hi => ?_) ?_ hF
    · simp only [List.take_zero, mkL_nilI] at this; exact this
    · have hx := mkL_lt (s.take i)
      have hc : s[i].toNat < 256 := s[i].toNat_lt
      have e := mkL_snoc s i hi
      have e2 := step64 (mkL (s.take i)) s[i].toNat 16777619 hx hc (by decide)
      rw [← mkM_def, ← e] at e2
      unfold F62_l0
      simp only
      clear hx hc e
      rw [if_pos (decide_eq_true (by omega)), at?_in hi, Option.bind_some]
      rw [show (16777619 : Int) = ((16777619 : Nat) : Int) from rfl, e2, wsuc (by omega)]
    · unfold F62_l0
      simp only
      rw [if_neg (by rw [decide_eq_true_eq]; omega), List.take_length]
  rw [hloop, Option.bind_some, show (2246822519 : Int) = ((2246822519 : Nat) : Int) from rfl, fin64 (mkL s) 2246822519 (mkL_lt s) (by decide)]
  rfl

/-! ### How names stand -/
theorem bl_irr : ∀ a, bytesLt a a = false
  | [] => rfl
  | x :: r => by simp [bytesLt, bl_irr r]
theorem bl_tr : ∀ {a b c : List UInt8}, bytesLt a b = true → bytesLt b c = true → bytesLt a c = true
  | _, [], _, h, _ => by cases ‹List UInt8› <;> simp [bytesLt] at h
  | _, _ :: _, [], _, h => by simp [bytesLt] at h
  | [], _ :: _, _ :: _, _, _ => rfl
  | x :: a, y :: b, z :: c, h, k => by
    simp only [bytesLt, Bool.or_eq_true, decide_eq_true_eq, Bool.and_eq_true, beq_iff_eq] at h k ⊢
    rcases h with h | ⟨rfl, h⟩
    · rcases k with k | ⟨rfl, k⟩
      · exact .inl (UInt8.lt_trans h k)
      · exact .inl h
    · rcases k with k | ⟨rfl, k⟩
      · exact .inl k
      · exact .inr ⟨rfl, bl_tr h k⟩
theorem bl_tri : ∀ (a b : List UInt8), bytesLt a b = true ∨ a = b ∨ bytesLt b a = true
  | [], [] => .inr (.inl rfl)
  | [], _ :: _ => .inl rfl
  | _ :: _, [] => .inr (.inr rfl)
  | x :: a, y :: b => by
    simp only [bytesLt, Bool.or_eq_true, decide_eq_true_eq, Bool.and_eq_true, beq_iff_eq]
    rcases Nat.lt_trichotomy x.toNat y.toNat with h | h | h
    · exact .inl (.inl h)
    · have e : x = y := UInt8.toNat.inj h
      subst e
      rcases bl_tri a b with k | rfl | k
      · exact .inl (.inr ⟨rfl, k⟩)
      · exact .inr (.inl rfl)
      · exact .inr (.inr (.inr ⟨rfl, k⟩))
    · exact .inr (.inr (.inl h))
/-- a stands ahead of b. -/
def lt0 (a b : E) : Bool := decide (MK a < MK b) || (MK a == MK b && bytesLt a b)
theorem lt0_iff {a b : E} : lt0 a b = true ↔ MK a < MK b ∨ MK a = MK b ∧ bytesLt a b = true := by simp [lt0]
theorem lt0_irr (a : E) : lt0 a a = false := by simp [lt0, bl_irr]
theorem lt0_tr {a b c : E} (h : lt0 a b = true) (k : lt0 b c = true) : lt0 a c = true := by
  rw [lt0_iff] at h k ⊢
  rcases h with h | ⟨h1, h2⟩
  · rcases k with k | ⟨k1, k2⟩
    · exact .inl (by omega)
    · exact .inl (by omega)
  · rcases k with k | ⟨k1, k2⟩
    · exact .inl (by omega)
    · exact .inr ⟨by omega, bl_tr h2 k2⟩
theorem lt0_tri (a b : E) : lt0 a b = true ∨ a = b ∨ lt0 b a = true := by
  simp only [lt0_iff]
  rcases Nat.lt_trichotomy (MK a) (MK b) with h | h | h
  · exact .inl (.inl h)
  · rcases bl_tri a b with k | k | k
    · exact .inl (.inr ⟨h, k⟩)
    · exact .inr (.inl k)
    · exact .inr (.inr (.inr ⟨h.symm, k⟩))
  · exact .inr (.inr (.inl h))
def cv (lt : E → E → Bool) (a b : E) : Int := if lt a b then -1 else if a == b then 0 else 1
/-- An order of names, as the two packages reckon it. -/
structure Ord (lt : E → E → Bool) : Prop where
  irr : ∀ a, lt a a = false
  tr : ∀ {a b c}, lt a b = true → lt b c = true → lt a c = true
  tri : ∀ a b, lt a b = true ∨ a = b ∨ lt b a = true
  ah : ∀ F a b, a.length ≤ 9223372036854775807 → b.length ≤ 9223372036854775807 → a.length < F → b.length < F → F132 F a b = some (cv lt a b)
  bf : ∀ F a b, a.length ≤ 9223372036854775807 → b.length ≤ 9223372036854775807 → a.length < F → b.length < F → F131 F a b = some (lt a b)
theorem ord_ex : ∃ lt, Ord lt := by
  refine ⟨lt0, lt0_irr, lt0_tr, lt0_tri, fun F a b ha hb hFa hFb => ?_, fun F a b ha hb hFa hFb => ?_⟩
  · unfold F132
    rw [mark_eq F a ha hFa, Option.bind_some, mark_eq F b hb hFb, Option.bind_some]
    have e : ((decide ((MK a : Int) < (MK b : Int))) || (((MK a : Int) == (MK b : Int)) && bytesLt a b)) = lt0 a b := by
      unfold lt0
      generalize MK a = x; generalize MK b = y
      have e1 : ((x : Int) == (y : Int)) = (x == y) := by
        rw [Bool.eq_iff_iff]; simp only [beq_iff_eq]; omega
      have e2 : decide ((x : Int) < (y : Int)) = decide (x < y) := by
        rw [Bool.eq_iff_iff]; simp only [decide_eq_true_eq]; omega
      rw [e1, e2]
    rw [e]
    unfold cv
    generalize lt0 a b = q
    cases q with
    | true => rfl
    | false =>
      simp only [Bool.false_eq_true, if_false]
      cases a == b <;> rfl
  · unfold F131
    rw [markOf_eq F a ha hFa, Option.bind_some, markOf_eq F b hb hFb, Option.bind_some]
    unfold lt0
    generalize MK a = x; generalize MK b = y
    have e1 : ((x : Int) == (y : Int)) = (x == y) := by
      rw [Bool.eq_iff_iff]; simp only [beq_iff_eq]; omega
    have e2 : decide ((x : Int) < (y : Int)) = decide (x < y) := by
      rw [Bool.eq_iff_iff]; simp only [decide_eq_true_eq]; omega
    rw [e1, e2]
theorem Ord.asy {lt : E → E → Bool} (hO : Ord lt) {a b : E} (h : lt a b = true) : lt b a = false := by
  rw [← Bool.not_eq_true]
  intro e
  have := hO.tr h e; rw [hO.irr] at this; cases this
theorem cv_neg {lt : E → E → Bool} {a b : E} : cv lt a b < 0 ↔ lt a b = true := by
  unfold cv
  by_cases h : lt a b = true
  · simp [h]
  · rw [if_neg h]; constructor
    · intro k; split at k <;> simp at k
    · intro k; exact absurd k h
/-- Names that are short. -/
def Sh (a : E) : Prop := a.length ≤ 12
theorem Ord.cmp {lt : E → E → Bool} (hO : Ord lt) : Cmp Sh (cv lt) 13 where
  ok F hF x y hx hy := hO.ah F x y (by unfold Sh at hx; omega) (by unfold Sh at hy; omega) (by unfold Sh at hx; omega) (by unfold Sh at hy; omega)
  irr x _ := by rw [cv_neg, hO.irr]; decide
  tr x y z _ _ _ h k := by
    rw [cv_neg] at h k ⊢
    intro q
    rcases hO.tri x y with e | e | e
    · exact k (hO.tr q e)
    · subst e; exact k q
    · exact h e
  asy x y _ _ h := by
    rw [cv_neg] at h ⊢
    rw [hO.asy h]; decide
end Go.Proofs.Ytihmliblbhjlaaa.bot

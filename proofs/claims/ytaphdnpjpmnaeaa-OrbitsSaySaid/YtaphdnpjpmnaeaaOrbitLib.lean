/- A permutation of the numbers below n: iterates and cycles. Plain mathematics. -/
import Derived.Test.YtaphdnpjpmnaeaaPermLib
import Derived.Test.YtaphdnpjpmnaeaaPureC
set_option linter.unusedVariables false
set_option linter.unusedSimpArgs false
namespace Go.Proofs.Ytaphdnpjpmnaeaa
open Go.Am

structure Pm (f : Nat → Nat) (n : Nat) : Prop where
  lt : ∀ i, i < n → f i < n
  inj : ∀ i j, i < n → j < n → f i = f j → i = j
def it (f : Nat → Nat) : Nat → Nat → Nat
  | 0, i => i
  | t + 1, i => f (it f t i)
section
variable {f : Nat → Nat} {n : Nat}
theorem it_add (a : Nat) : ∀ (b i : Nat), it f (b + a) i = it f b (it f a i)
  | 0, i => by rw [Nat.zero_add]; rfl
  | b + 1, i => by rw [show b + 1 + a = (b + a) + 1 from by omega]; show f _ = f _; rw [it_add a b i]
theorem it_one (t i : Nat) : it f (t + 1) i = it f t (f i) := by rw [it_add 1 t i]; rfl
theorem it_lt (h : Pm f n) {i : Nat} (hi : i < n) : ∀ t, it f t i < n
  | 0 => hi
  | t + 1 => h.lt _ (it_lt h hi t)
theorem it_inj (h : Pm f n) {i j : Nat} (hi : i < n) (hj : j < n) : ∀ t, it f t i = it f t j → i = j
  | 0, e => e
  | t + 1, e => it_inj h hi hj t (h.inj _ _ (it_lt h hi t) (it_lt h hj t) e)
/-- Every number comes back. -/
theorem it_back (h : Pm f n) {i : Nat} (hi : i < n) : ∃ t, 1 ≤ t ∧ t ≤ n ∧ it f t i = i := by
  apply Classical.byContradiction
  intro hno
  have hnd : ((List.range (n + 1)).map fun t => it f t i).Nodup := by
    rw [List.nodup_iff_pairwise_ne, List.pairwise_map]
    refine (List.Pairwise.and_mem.1 List.pairwise_lt_range).imp ?_
    rintro a b ⟨ha, hb, hab⟩ e
    simp only [List.mem_range] at ha hb
    rw [show b = (b - a) + a from by omega, it_add, ] at e
    have e2 : it f a i = it f a (it f (b - a) i) := by rw [← it_add, e, ← it_add]; congr 1; omega
    have := it_inj h hi (it_lt h hi _) a e2
    exact hno ⟨b - a, by omega, by omega, this.symm⟩
  have := nodup_len hnd (q := List.range n) (fun x hx => by
    obtain ⟨t, _, rfl⟩ := List.mem_map.1 hx
    simpa using it_lt h hi t)
  simp at this
  omega
/-- The length of i's cycle. -/
def cl (f : Nat → Nat) (n i : Nat) : Nat := (List.range n).findIdx (fun t => it f (t + 1) i == i) + 1
theorem cl_pos (i : Nat) : 1 ≤ cl f n i := by unfold cl; omega
theorem cl_back (h : Pm f n) {i : Nat} (hi : i < n) : it f (cl f n i) i = i ∧ cl f n i ≤ n := by
  obtain ⟨t, h1, h2, h3⟩ := it_back h hi
  have hlt : (List.range n).findIdx (fun t => it f (t + 1) i == i) < (List.range n).length := by
    apply List.findIdx_lt_length_of_exists
    exact ⟨t - 1, by simp; omega, by rw [show t - 1 + 1 = t from by omega]; simpa using h3⟩
  have := List.findIdx_getElem (p := fun t => it f (t + 1) i == i) (xs := List.range n) (w := hlt)
  rw [List.length_range] at hlt
  unfold cl
  refine ⟨by simpa using this, by omega⟩
theorem cl_least (h : Pm f n) {i : Nat} (hi : i < n) {t : Nat} (h1 : 1 ≤ t) (h2 : t < cl f n i) : it f t i ≠ i := by
  have hb := (cl_back h hi).2
  unfold cl at h2 hb
  have := List.not_of_lt_findIdx (p := fun t => it f (t + 1) i == i) (xs := List.range n) (i := t - 1) (by omega)
  simp only [List.getElem_range] at this
  rw [show t - 1 + 1 = t from by omega] at this
  simpa using this
theorem it_mul (h : Pm f n) {i : Nat} (hi : i < n) : ∀ q, it f (q * cl f n i) i = i
  | 0 => by rw [Nat.zero_mul]; rfl
  | q + 1 => by rw [Nat.add_mul, Nat.one_mul, it_add, (cl_back h hi).1, it_mul h hi q]
theorem it_mod (h : Pm f n) {i : Nat} (hi : i < n) (t : Nat) : it f t i = it f (t % cl f n i) i := by
  conv => lhs; rw [show t = t % cl f n i + t / cl f n i * cl f n i from by rw [Nat.mul_comm]; exact (Nat.mod_add_div _ _).symm]
  rw [it_add, it_mul h hi]
theorem it_dvd (h : Pm f n) {i : Nat} (hi : i < n) (t : Nat) : it f t i = i ↔ cl f n i ∣ t := by
  constructor
  · intro e
    rw [it_mod h hi] at e
    apply Nat.dvd_of_mod_eq_zero
    apply Classical.byContradiction
    intro hne
    exact cl_least h hi (t := t % cl f n i) (by omega) (Nat.mod_lt _ (by have := cl_pos (f := f) (n := n) i; omega)) e
  · rintro ⟨q, rfl⟩
    rw [Nat.mul_comm]; exact it_mul h hi q
/-- All of a cycle has its length. -/
theorem cl_it (h : Pm f n) {i : Nat} (hi : i < n) (t : Nat) : cl f n (it f t i) = cl f n i := by
  have key : ∀ m, it f m (it f t i) = it f t i ↔ it f m i = i := by
    intro m
    rw [← it_add, Nat.add_comm, it_add]
    constructor
    · intro e; exact it_inj h (it_lt h hi m) hi t e
    · intro e; rw [e]
  apply Nat.dvd_antisymm
  · exact (it_dvd h (it_lt h hi t) _).1 ((key _).2 (cl_back h hi).1)
  · exact (it_dvd h hi _).1 ((key _).1 (cl_back h (it_lt h hi t)).1)
/-- j is on i's cycle. -/
def On (f : Nat → Nat) (i j : Nat) : Prop := ∃ t, it f t i = j
theorem On.refl (i : Nat) : On f i i := ⟨0, rfl⟩
theorem On.trans {i j k : Nat} (h : On f i j) (g : On f j k) : On f i k := by
  obtain ⟨a, rfl⟩ := h
  obtain ⟨b, rfl⟩ := g
  exact ⟨b + a, it_add a b i⟩
theorem On.symm (h : Pm f n) {i j : Nat} (hi : i < n) (g : On f i j) : On f j i := by
  obtain ⟨a, rfl⟩ := g
  refine ⟨cl f n i - a % cl f n i, ?_⟩
  have h1 : a % cl f n i < cl f n i := Nat.mod_lt _ (by have := cl_pos (f := f) (n := n) i; omega)
  rw [it_mod h hi a, ← it_add, show cl f n i - a % cl f n i + a % cl f n i = cl f n i from by omega]
  exact (cl_back h hi).1
theorem On.lt (h : Pm f n) {i j : Nat} (hi : i < n) (g : On f i j) : j < n := by obtain ⟨a, rfl⟩ := g; exact it_lt h hi a
theorem On.below (h : Pm f n) {i j : Nat} (hi : i < n) (g : On f i j) : ∃ t, t < cl f n i ∧ it f t i = j := by
  obtain ⟨a, rfl⟩ := g
  exact ⟨a % cl f n i, Nat.mod_lt _ (by have := cl_pos (f := f) (n := n) i; omega), (it_mod h hi a).symm⟩
/-- Is i the least of its cycle? -/
def isMin (f : Nat → Nat) (n i : Nat) : Bool := (List.range n).all fun t => decide (i ≤ it f t i)
theorem isMin_iff (h : Pm f n) {i : Nat} (hi : i < n) : isMin f n i = true ↔ ∀ j, On f i j → i ≤ j := by
  unfold isMin
  simp only [List.all_eq_true, List.mem_range, decide_eq_true_eq]
  constructor
  · intro hm j hj
    obtain ⟨t, h1, rfl⟩ := On.below h hi hj
    have := (cl_back h hi).2
    exact hm t (by omega)
  · intro hm t _
    exact hm _ ⟨t, rfl⟩
/-- The lengths of the cycles whose least is below i. -/
def clens (f : Nat → Nat) (n : Nat) : Nat → List Nat
  | 0 => []
  | i + 1 => if isMin f n i then clens f n i ++ [cl f n i] else clens f n i
theorem clens_len (i : Nat) : (clens f n i).length ≤ i := by
  induction i with
  | zero => exact Nat.le_refl _
  | succ i ih =>
    unfold clens
    split
    · rw [List.length_append]; simp only [List.length_cons, List.length_nil]; omega
    · omega
theorem clens_mem {i x : Nat} (hx : x ∈ clens f n i) : ∃ k, k < i ∧ isMin f n k = true ∧ x = cl f n k := by
  induction i with
  | zero => simp [clens] at hx
  | succ i ih =>
    unfold clens at hx
    split at hx
    · rename_i hm
      rcases List.mem_append.1 hx with hx | hx
      · obtain ⟨k, h1, h2⟩ := ih hx; exact ⟨k, by omega, h2⟩
      · exact ⟨i, by omega, hm, by simpa using hx⟩
    · obtain ⟨k, h1, h2⟩ := ih hx; exact ⟨k, by omega, h2⟩
theorem mem_clens {i k : Nat} (hk : k < i) (hm : isMin f n k = true) : cl f n k ∈ clens f n i := by
  induction i with
  | zero => omega
  | succ i ih =>
    unfold clens
    by_cases e : k = i
    · subst e; rw [if_pos hm]; simp
    · have := ih (by omega)
      split
      · exact List.mem_append_left _ this
      · exact this
/-- Every cycle has a least number. -/
theorem has_min (h : Pm f n) {i : Nat} (hi : i < n) : ∃ k, k < n ∧ isMin f n k = true ∧ On f i k := by
  induction i using Nat.strongRecOn with
  | ind i ih =>
    by_cases hm : isMin f n i = true
    · exact ⟨i, hi, hm, On.refl i⟩
    · have : ∃ j, On f i j ∧ j < i := by
        apply Classical.byContradiction
        intro hno
        exact hm ((isMin_iff h hi).2 fun j hj => by
          rcases Nat.lt_or_ge j i with h1 | h1
          · exact absurd ⟨j, hj, h1⟩ hno
          · exact h1)
      obtain ⟨j, h1, h2⟩ := this
      obtain ⟨k, h3, h4, h5⟩ := ih j h2 (On.lt h hi h1)
      exact ⟨k, h3, h4, h1.trans h5⟩
/-- The m-th power is nothing: every cycle's length divides m. -/
theorem power_id (h : Pm f n) (m : Nat) : (∀ i, i < n → it f m i = i) ↔ ∀ x ∈ clens f n n, x ∣ m := by
  constructor
  · intro hm x hx
    obtain ⟨k, h1, h2, rfl⟩ := clens_mem hx
    exact (it_dvd h h1 m).1 (hm k h1)
  · intro hm i hi
    obtain ⟨k, h1, h2, t, rfl⟩ := has_min h hi
    rw [it_dvd h hi, ← cl_it h hi t]
    exact hm _ (mem_clens h1 h2)
/-- The least of the first numbers of a cycle. -/
def mnt (f : Nat → Nat) (i : Nat) : Nat → Nat
  | 0 => i
  | t + 1 => min (mnt f i t) (it f (t + 1) i)
theorem mnt_le (i : Nat) : ∀ t s, s ≤ t → mnt f i t ≤ it f s i
  | 0, s, h => by rw [show s = 0 from by omega]; exact Nat.le_refl _
  | t + 1, s, h => by
    unfold mnt
    by_cases e : s = t + 1
    · subst e; omega
    · have := mnt_le i t s (by omega); omega
theorem mnt_mem (i : Nat) : ∀ t, ∃ s, s ≤ t ∧ mnt f i t = it f s i
  | 0 => ⟨0, Nat.le_refl _, rfl⟩
  | t + 1 => by
    obtain ⟨s, h1, h2⟩ := mnt_mem i t
    unfold mnt
    by_cases e : mnt f i t ≤ it f (t + 1) i
    · exact ⟨s, by omega, by omega⟩
    · exact ⟨t + 1, Nat.le_refl _, by omega⟩
theorem mnt_isMin (h : Pm f n) {i : Nat} (hi : i < n) : mnt f i (cl f n i - 1) = i ↔ isMin f n i = true := by
  rw [isMin_iff h hi]
  constructor
  · intro e j hj
    obtain ⟨t, h1, rfl⟩ := On.below h hi hj
    have := mnt_le (f := f) i (cl f n i - 1) t (by omega)
    omega
  · intro hm
    obtain ⟨s, h1, h2⟩ := mnt_mem (f := f) i (cl f n i - 1)
    have h3 := hm _ ⟨s, rfl⟩
    have h4 := mnt_le (f := f) i (cl f n i - 1) 0 (by omega)
    show _ = i
    have h5 : it f 0 i = i := rfl
    omega
end
end Go.Proofs.Ytaphdnpjpmnaeaa

/- Lists by their places, and sums. -/
import Derived.Test.YtaphdnpjpmnaeabDoorPureB
namespace Go.Am

/-- A list by its places. -/
def tb {α : Type} (n : Nat) (f : Nat → α) : List α := (List.range n).map f
section
variable {α : Type} {n : Nat} {f g : Nat → α}
theorem tb_len (n : Nat) (f : Nat → α) : (tb n f).length = n := by simp [tb]
theorem tb_get {i : Nat} (h : i < n) : at? (tb n f) (i : Int) = some (f i) := by
  rw [at?_in (by rw [tb_len]; exact h)]; simp [tb]
theorem tb_get? (i : Nat) : (tb n f)[i]? = if i < n then some (f i) else none := by
  by_cases h : i < n
  · rw [if_pos h]; simp [tb, h]
  · rw [if_neg h]; simp [tb, h]
theorem tb_set {i : Nat} {x : α} : (tb n f).set i x = tb n fun j => if j = i then x else f j := by
  apply List.ext_getElem?
  intro j
  rw [List.getElem?_set, tb_get?, tb_get?, tb_len]
  by_cases hj : j < n
  · by_cases e : i = j
    · subst e; simp [hj]
    · rw [if_neg e, if_pos hj, if_pos hj, if_neg (fun q => e q.symm)]
  · by_cases e : i = j
    · subst e; simp [hj]
    · simp [e, hj]
theorem tb_rep (n : Nat) (z : α) : List.replicate n z = tb n fun _ => z := by
  apply List.ext_getElem?
  intro j
  rw [tb_get?, List.getElem?_replicate]
theorem tb_congr (h : ∀ i, i < n → f i = g i) : tb n f = tb n g := by
  unfold tb
  exact List.map_congr_left fun i hi => h i (by simpa using hi)
theorem tb_ck {i : Nat} (h : i < n) : ck (tb n f) (i : Int) = some () := ck_ok (by rw [tb_len]; exact h)
theorem tb_set? {i : Nat} {x : α} (h : i < n) : set? (tb n f) (i : Int) x = some (tb n fun j => if j = i then x else f j) := by
  rw [set?_in (by rw [tb_len]; exact h), tb_set]
theorem tb_mem {x : α} (h : x ∈ tb n f) : ∃ i, i < n ∧ f i = x := by
  simp only [tb, List.mem_map, List.mem_range] at h; exact h
theorem tb_succ (n : Nat) (f : Nat → α) : tb (n + 1) f = tb n f ++ [f n] := by
  simp [tb, List.range_succ]
end
/-- What stands at a place, or another thing. -/
def nx {α : Type} (d : α) (L : List α) (i : Nat) : α := (L[i]?).getD d
theorem nx_get {α : Type} {d : α} {L : List α} {i : Nat} (h : i < L.length) : at? L (i : Int) = some (nx d L i) := by
  rw [at?_in h]; simp [nx, h]
theorem nx_eq {α : Type} {d : α} {L : List α} {i : Nat} (h : i < L.length) : nx d L i = L[i] := by simp [nx, h]
theorem nx_mem {α : Type} {d : α} {L : List α} {i : Nat} (h : i < L.length) : nx d L i ∈ L := by
  rw [nx_eq h]; exact List.getElem_mem h
theorem nx_out {α : Type} {d : α} {L : List α} {i : Nat} (h : L.length ≤ i) : nx d L i = d := by simp [nx, h]
theorem nx_tb {α : Type} (d : α) (L : List α) : L = tb L.length (nx d L) := by
  apply List.ext_getElem?
  intro j
  rw [tb_get?]
  by_cases h : j < L.length
  · rw [if_pos h]; simp [nx, h]
  · rw [if_neg h]; simpa using h
theorem nx_of {α : Type} {d : α} {L : List α} {x : α} (h : x ∈ L) : ∃ i, i < L.length ∧ nx d L i = x := by
  obtain ⟨i, hi, rfl⟩ := List.getElem_of_mem h
  exact ⟨i, hi, nx_eq hi⟩
theorem tb_nx {α : Type} {d : α} {n : Nat} {f : Nat → α} {i : Nat} (h : i < n) : nx d (tb n f) i = f i := by
  unfold nx; rw [tb_get?, if_pos h]; rfl

theorem ite_some {α : Type} {c : Prop} [Decidable c] (a b : α) : (if c then some a else some b) = some (if c then a else b) := by split <;> rfl
/-- A loop whose states are known, up to the first place that is p, or the end. -/
theorem seekS {σ β : Type} {step : σ → Option (Stp σ β)} {F : Nat} (N : Nat) (P : Nat → σ) (p : Nat → Bool) (g : Nat → β) (b : β)
    (hs : ∀ i, i < N → (∀ j, j < i → p j = false) → step (P i) = some (if p i then .stop (g i) else .more (P (i + 1))))
    (he : (∀ j, j < N → p j = false) → step (P N) = some (.stop b)) (hF : N < F) :
    ((∀ i, i < N → p i = false) ∧ iter step F (P 0) = some b) ∨ ∃ i, i < N ∧ p i = true ∧ (∀ j, j < i → p j = false) ∧ iter step F (P 0) = some (g i) := by
  by_cases h : ∀ i, i < N → p i = false
  · left
    refine ⟨h, iter_count P N (fun i hi => ?_) (he h) hF⟩
    rw [hs i hi (fun j hj => h j (by omega)), if_neg (by rw [h i hi]; decide)]
  · right
    have hx : ∃ i, i < N ∧ p i = true ∧ ∀ j, j < i → p j = false := by
      have hf : (List.range N).findIdx p < N := by
        have h1 : (List.range N).findIdx p ≤ (List.range N).length := List.findIdx_le_length
        rw [List.length_range] at h1
        rcases Nat.lt_or_ge ((List.range N).findIdx p) N with h2 | h2
        · exact h2
        · exfalso
          apply h
          have e : (List.range N).findIdx p = (List.range N).length := by rw [List.length_range]; omega
          intro i hi
          exact (List.findIdx_eq_length.1 e) i (by simpa using hi)
      refine ⟨(List.range N).findIdx p, hf, ?_, fun j hj => ?_⟩
      · have := List.findIdx_getElem (p := p) (xs := List.range N) (w := by simpa using hf)
        simpa using this
      · have := List.not_of_lt_findIdx hj
        simpa using this
    obtain ⟨i, hi, h1, h2⟩ := hx
    refine ⟨i, hi, h1, h2, iter_count P i (fun j hj => ?_) ?_ (by omega)⟩
    · rw [hs j (by omega) (fun q hq => h2 q (by omega)), if_neg (by rw [h2 j hj]; decide)]
    · rw [hs i hi h2, if_pos h1]

/-- A sum. -/
def sm : Nat → (Nat → Int) → Int
  | 0, _ => 0
  | k + 1, f => sm k f + f k
theorem sm_succ (k : Nat) (f : Nat → Int) : sm (k + 1) f = sm k f + f k := rfl
theorem sm_congr {f g : Nat → Int} : ∀ {k : Nat}, (∀ i, i < k → f i = g i) → sm k f = sm k g
  | 0, _ => rfl
  | k + 1, h => by rw [sm_succ, sm_succ, sm_congr (fun i hi => h i (by omega)), h k (by omega)]
theorem sm_add (f g : Nat → Int) : ∀ k, sm k (fun i => f i + g i) = sm k f + sm k g
  | 0 => rfl
  | k + 1 => by rw [sm_succ, sm_succ, sm_succ, sm_add f g k]; omega
theorem sm_sub (f g : Nat → Int) : ∀ k, sm k (fun i => f i - g i) = sm k f - sm k g
  | 0 => rfl
  | k + 1 => by rw [sm_succ, sm_succ, sm_succ, sm_sub f g k]; omega
theorem sm_mul (c : Int) (f : Nat → Int) : ∀ k, sm k (fun i => c * f i) = c * sm k f
  | 0 => by simp [sm]
  | k + 1 => by rw [sm_succ, sm_succ, sm_mul c f k, Int.mul_add]
theorem sm_zero : ∀ k, sm k (fun _ => 0) = 0
  | 0 => rfl
  | k + 1 => by rw [sm_succ, sm_zero k]; rfl
theorem sm_nonneg {f : Nat → Int} : ∀ {k : Nat}, (∀ i, i < k → 0 ≤ f i) → 0 ≤ sm k f
  | 0, _ => Int.le_refl _
  | k + 1, h => by have := sm_nonneg (k := k) (fun i hi => h i (by omega)); have := h k (by omega); rw [sm_succ]; omega
theorem sm_le {f g : Nat → Int} : ∀ {k : Nat}, (∀ i, i < k → f i ≤ g i) → sm k f ≤ sm k g
  | 0, _ => Int.le_refl _
  | k + 1, h => by have := sm_le (k := k) (fun i hi => h i (by omega)); have := h k (by omega); rw [sm_succ, sm_succ]; omega
theorem sm_bound {f : Nat → Int} {B : Int} : ∀ {k : Nat}, (∀ i, i < k → 0 ≤ f i ∧ f i ≤ B) → 0 ≤ sm k f ∧ sm k f ≤ B * k
  | 0, _ => by simp [sm]
  | k + 1, h => by
    have h1 := sm_bound (k := k) (fun i hi => h i (by omega))
    have h2 := h k (by omega)
    rw [sm_succ, Int.natCast_add, Int.mul_add]
    simp only [Int.natCast_one, Int.mul_one]
    omega
theorem sm_mono {f : Nat → Int} {j : Nat} : ∀ {k : Nat}, (∀ i, i < k → 0 ≤ f i) → j ≤ k → sm j f ≤ sm k f
  | 0, _, h => by rw [show j = 0 from by omega]; exact Int.le_refl _
  | k + 1, h, hj => by
    by_cases e : j = k + 1
    · subst e; exact Int.le_refl _
    · have := sm_mono (k := k) (fun i hi => h i (by omega)) (by omega : j ≤ k); have := h k (by omega); rw [sm_succ]; omega
/-- One term turned. -/
theorem sm_set {f g : Nat → Int} {c : Nat} : ∀ {k : Nat}, c < k → (∀ i, i < k → i ≠ c → g i = f i) → sm k g = sm k f + (g c - f c)
  | 0, h, _ => by omega
  | k + 1, h, hg => by
    rw [sm_succ, sm_succ]
    by_cases e : c = k
    · subst e
      rw [sm_congr (f := g) (g := f) fun i hi => hg i (by omega) (by omega)]; omega
    · rw [sm_set (k := k) (by omega) fun i hi => hg i (by omega), hg k (by omega) (fun q => e q.symm)]; omega
theorem sm_term {f : Nat → Int} {k c : Nat} (h : ∀ i, i < k → 0 ≤ f i) (hc : c < k) : f c ≤ sm k f := by
  have h1 := sm_mono (j := c + 1) h (by omega)
  have h2 := sm_nonneg (f := f) (k := c) fun i hi => h i (by omega)
  rw [sm_succ] at h1; omega
/-- The sum of a list. -/
theorem sm_tb_succ (L : List Int) (i : Nat) : sm (i + 1) (nx 0 L) = sm i (nx 0 L) + nx 0 L i := rfl
end Go.Am

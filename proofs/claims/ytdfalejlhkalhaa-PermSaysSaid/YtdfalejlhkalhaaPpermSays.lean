/- Joined by merge.py from OrbitLib, PermA, RevLib, PermB, PermC, SignLib, PermLaw -/
import Derived.Test.YtdfalejlhkalhaaPermLib
import Derived.Test.YtdfalejlhkalhaaPureC
import Derived.Test.YtdfalejlhkalhaaSortedLib
import Derived.Test.YtdfalejlhkalhaaEqualLib
import Derived.Test.YtdfalejlhkalhaaDef
import Derived.Test.YtdfalejlhkalhaaMono
set_option linter.unusedVariables false
set_option linter.unusedSimpArgs false
namespace Go.Proofs.Ytdfalejlhkalhaa
open Go.Am
structure Pm (f : Nat → Nat) (n : Nat) : Prop where
  lt : ∀ i, i < n → f i < n
  inj : ∀ i j, i < n → j < n → f i = f j → i = j
def it (f : Nat → Nat) : Nat → Nat → Nat
  | 0, i => i
  | t + 1, i => f (it f t i)
section
variable {f : Nat → Nat} {n : Nat}
theorem it_add (a : Nat) : ∀ (b i : Nat), it f (b + a) i = it f b (it f a i)
  | 0, i => by rw [Nat.zero_add]; rfl
  | b + 1, i => by rw [show b + 1 + a = (b + a) + 1 from by omega]; show f _ = f _; rw [it_add a b i]
theorem it_one (t i : Nat) : it f (t + 1) i = it f t (f i) := by rw [it_add 1 t i]; rfl
theorem it_lt (h : Pm f n) {i : Nat} (hi : i < n) : ∀ t, it f t i < n
  | 0 => hi
  | t + 1 => h.lt _ (it_lt h hi t)
theorem it_inj (h : Pm f n) {i j : Nat} (hi : i < n) (hj : j < n) : ∀ t, it f t i = it f t j → i = j
  | 0, e => e
  | t + 1, e => it_inj h hi hj t (h.inj _ _ (it_lt h hi t) (it_lt h hj t) e)
/-- Every number comes back. -/
theorem it_back (h : Pm f n) {i : Nat} (hi : i < n) : ∃ t, 1 ≤ t ∧ t ≤ n ∧ it f t i = i := by
  apply Classical.byContradiction
  intro hno
  have hnd : ((List.range (n + 1)).map fun t => it f t i).Nodup := by
    rw [List.nodup_iff_pairwise_ne, List.pairwise_map]
    refine (List.Pairwise.and_mem.1 List.pairwise_lt_range).imp ?_
    rintro a b ⟨ha, hb, hab⟩ e
    simp only [List.mem_range] at ha hb
    rw [show b = (b - a) + a from by omega, it_add, ] at e
    have e2 : it f a i = it f a (it f (b - a) i) := by rw [← it_add, e, ← it_add]; congr 1; omega
    have := it_inj h hi (it_lt h hi _) a e2
    exact hno ⟨b - a, by omega, by omega, this.symm⟩
  have := nodup_len hnd (q := List.range n) (fun x hx => by
    obtain ⟨t, _, rfl⟩ := List.mem_map.1 hx
    simpa using it_lt h hi t)
  simp at this
  omega
/-- The length of i's cycle. -/
def cl (f : Nat → Nat) (n i : Nat) : Nat := (List.range n).findIdx (fun t => it f (t + 1) i == i) + 1
theorem cl_pos (i : Nat) : 1 ≤ cl f n i := by unfold cl; omega
theorem cl_back (h : Pm f n) {i : Nat} (hi : i < n) : it f (cl f n i) i = i ∧ cl f n i ≤ n := by
  obtain ⟨t, h1, h2, h3⟩ := it_back h hi
  have hlt : (List.range n).findIdx (fun t => it f (t + 1) i == i) < (List.range n).length := by
    apply List.findIdx_lt_length_of_exists
    exact ⟨t - 1, by simp; omega, by rw [show t - 1 + 1 = t from by omega]; simpa using h3⟩
  have := List.findIdx_getElem (p := fun t => it f (t + 1) i == i) (xs := List.range n) (w := hlt)
  rw [List.length_range] at hlt
  unfold cl
  refine ⟨by simpa using this, by omega⟩
theorem cl_least (h : Pm f n) {i : Nat} (hi : i < n) {t : Nat} (h1 : 1 ≤ t) (h2 : t < cl f n i) : it f t i ≠ i := by
  have hb := (cl_back h hi).2
  unfold cl at h2 hb
  have := List.not_of_lt_findIdx (p := fun t => it f (t + 1) i == i) (xs := List.range n) (i := t - 1) (by omega)
  simp only [List.getElem_range] at this
  rw [show t - 1 + 1 = t from by omega] at this
  simpa using this
theorem it_mul (h : Pm f n) {i : Nat} (hi : i < n) : ∀ q, it f (q * cl f n i) i = i
  | 0 => by rw [Nat.zero_mul]; rfl
  | q + 1 => by rw [Nat.add_mul, Nat.one_mul, it_add, (cl_back h hi).1, it_mul h hi q]
theorem it_mod (h : Pm f n) {i : Nat} (hi : i < n) (t : Nat) : it f t i = it f (t % cl f n i) i := by
  conv => lhs; rw [show t = t % cl f n i + t / cl f n i * cl f n i from by rw [Nat.mul_comm]; exact (Nat.mod_add_div _ _).symm]
  rw [it_add, it_mul h hi]
theorem it_dvd (h : Pm f n) {i : Nat} (hi : i < n) (t : Nat) : it f t i = i ↔ cl f n i ∣ t := by
  constructor
  · intro e
    rw [it_mod h hi] at e
    apply Nat.dvd_of_mod_eq_zero
    apply Classical.byContradiction
    intro hne
    exact cl_least h hi (t := t % cl f n i) (by omega) (Nat.mod_lt _ (by have := cl_pos (f := f) (n := n) i; omega)) e
  · rintro ⟨q, rfl⟩
    rw [Nat.mul_comm]; exact it_mul h hi q
/-- All of a cycle has its length. -/
theorem cl_it (h : Pm f n) {i : Nat} (hi : i < n) (t : Nat) : cl f n (it f t i) = cl f n i := by
  have key : ∀ m, it f m (it f t i) = it f t i ↔ it f m i = i := by
    intro m
    rw [← it_add, Nat.add_comm, it_add]
    constructor
    · intro e; exact it_inj h (it_lt h hi m) hi t e
    · intro e; rw [e]
  apply Nat.dvd_antisymm
  · exact (it_dvd h (it_lt h hi t) _).1 ((key _).2 (cl_back h hi).1)
  · exact (it_dvd h hi _).1 ((key _).1 (cl_back h (it_lt h hi t)).1)
/-- j is on i's cycle. -/
def On (f : Nat → Nat) (i j : Nat) : Prop := ∃ t, it f t i = j
theorem On.refl (i : Nat) : On f i i := ⟨0, rfl⟩
theorem On.trans {i j k : Nat} (h : On f i j) (g : On f j k) : On f i k := by
  obtain ⟨a, rfl⟩ := h
  obtain ⟨b, rfl⟩ := g
  exact ⟨b + a, it_add a b i⟩
theorem On.symm (h : Pm f n) {i j : Nat} (hi : i < n) (g : On f i j) : On f j i := by
  obtain ⟨a, rfl⟩ := g
  refine ⟨cl f n i - a % cl f n i, ?_⟩
  have h1 : a % cl f n i < cl f n i := Nat.mod_lt _ (by have := cl_pos (f := f) (n := n) i; omega)
  rw [it_mod h hi a, ← it_add, show cl f n i - a % cl f n i + a % cl f n i = cl f n i from by omega]
  exact (cl_back h hi).1
theorem On.lt (h : Pm f n) {i j : Nat} (hi : i < n) (g : On f i j) : j < n := by obtain ⟨a, rfl⟩ := g; exact it_lt h hi a
theorem On.below (h : Pm f n) {i j : Nat} (hi : i < n) (g : On f i j) : ∃ t, t < cl f n i ∧ it f t i = j := by
  obtain ⟨a, rfl⟩ := g
  exact ⟨a % cl f n i, Nat.mod_lt _ (by have := cl_pos (f := f) (n := n) i; omega), (it_mod h hi a).symm⟩
/-- Is i the least of its cycle? -/
def isMin (f : Nat → Nat) (n i : Nat) : Bool := (List.range n).all fun t => decide (i ≤ it f t i)
theorem isMin_iff (h : Pm f n) {i : Nat} (hi : i < n) : isMin f n i = true ↔ ∀ j, On f i j → i ≤ j := by
  unfold isMin
  simp only [List.all_eq_true, List.mem_range, decide_eq_true_eq]
  constructor
  · intro hm j hj
    obtain ⟨t, h1, rfl⟩ := On.below h hi hj
    have := (cl_back h hi).2
    exact hm t (by omega)
  · intro hm t _
    exact hm _ ⟨t, rfl⟩
/-- The lengths of the cycles whose least is below i. -/
def clens (f : Nat → Nat) (n : Nat) : Nat → List Nat
  | 0 => []
  | i + 1 => if isMin f n i then clens f n i ++ [cl f n i] else clens f n i
theorem clens_len (i : Nat) : (clens f n i).length ≤ i := by
  induction i with
  | zero => exact Nat.le_refl _
  | succ i ih =>
    unfold clens
    split
    · rw [List.length_append]; simp only [List.length_cons, List.length_nil]; omega
    · omega
theorem clens_mem {i x : Nat} (hx : x ∈ clens f n i) : ∃ k, k < i ∧ isMin f n k = true ∧ x = cl f n k := by
  induction i with
  | zero => simp [clens] at hx
  | succ i ih =>
    unfold clens at hx
    split at hx
    · rename_i hm
      rcases List.mem_append.1 hx with hx | hx
      · obtain ⟨k, h1, h2⟩ := ih hx; exact ⟨k, by omega, h2⟩
      · exact ⟨i, by omega, hm, by simpa using hx⟩
    · obtain ⟨k, h1, h2⟩ := ih hx; exact ⟨k, by omega, h2⟩
theorem mem_clens {i k : Nat} (hk : k < i) (hm : isMin f n k = true) : cl f n k ∈ clens f n i := by
  induction i with
  | zero => omega
  | succ i ih =>
    unfold clens
    by_cases e : k = i
    · subst e; rw [if_pos hm]; simp
    · have := ih (by omega)
      split
      · exact List.mem_append_left _ this
      · exact this
/-- Every cycle has a least number. -/
theorem has_min (h : Pm f n) {i : Nat} (hi : i < n) : ∃ k, k < n ∧ isMin f n k = true ∧ On f i k := by
  induction i using Nat.strongRecOn with
  | ind i ih =>
    by_cases hm : isMin f n i = true
    · exact ⟨i, hi, hm, On.refl i⟩
    · have : ∃ j, On f i j ∧ j < i := by
        apply Classical.byContradiction
        intro hno
        exact hm ((isMin_iff h hi).2 fun j hj => by
          rcases Nat.lt_or_ge j i with h1 | h1
          · exact absurd ⟨j, hj, h1⟩ hno
          · exact h1)
      obtain ⟨j, h1, h2⟩ := this
      obtain ⟨k, h3, h4, h5⟩ := ih j h2 (On.lt h hi h1)
      exact ⟨k, h3, h4, h1.trans h5⟩
/-- The m-th power is nothing: every cycle's length divides m. -/
theorem power_id (h : Pm f n) (m : Nat) : (∀ i, i < n → it f m i = i) ↔ ∀ x ∈ clens f n n, x ∣ m := by
  constructor
  · intro hm x hx
    obtain ⟨k, h1, h2, rfl⟩ := clens_mem hx
    exact (it_dvd h h1 m).1 (hm k h1)
  · intro hm i hi
    obtain ⟨k, h1, h2, t, rfl⟩ := has_min h hi
    rw [it_dvd h hi, ← cl_it h hi t]
    exact hm _ (mem_clens h1 h2)
/-- The least of the first numbers of a cycle. -/
def mnt (f : Nat → Nat) (i : Nat) : Nat → Nat
  | 0 => i
  | t + 1 => min (mnt f i t) (it f (t + 1) i)
theorem mnt_le (i : Nat) : ∀ t s, s ≤ t → mnt f i t ≤ it f s i
  | 0, s, h => by rw [show s = 0 from by omega]; exact Nat.le_refl _
  | t + 1, s, h => by
    unfold mnt
    by_cases e : s = t + 1
    · subst e; omega
    · have := mnt_le i t s (by omega); omega
theorem mnt_mem (i : Nat) : ∀ t, ∃ s, s ≤ t ∧ mnt f i t = it f s i
  | 0 => ⟨0, Nat.le_refl _, rfl⟩
  | t + 1 => by
    obtain ⟨s, h1, h2⟩ := mnt_mem i t
    unfold mnt
    by_cases e : mnt f i t ≤ it f (t + 1) i
    · exact ⟨s, by omega, by omega⟩
    · exact ⟨t + 1, Nat.le_refl _, by omega⟩
theorem mnt_isMin (h : Pm f n) {i : Nat} (hi : i < n) : mnt f i (cl f n i - 1) = i ↔ isMin f n i = true := by
  rw [isMin_iff h hi]
  constructor
  · intro e j hj
    obtain ⟨t, h1, rfl⟩ := On.below h hi hj
    have := mnt_le (f := f) i (cl f n i - 1) t (by omega)
    omega
  · intro hm
    obtain ⟨s, h1, h2⟩ := mnt_mem (f := f) i (cl f n i - 1)
    have h3 := hm _ ⟨s, rfl⟩
    have h4 := mnt_le (f := f) i (cl f n i - 1) 0 (by omega)
    show _ = i
    have h5 : it f 0 i = i := rfl
    omega
end

theorem sortDesc_eq (F : Nat) (L : List Int) (hF : 20 ≤ F) (hl : L.length ≤ 12) (hb : ∀ x ∈ L, 0 ≤ x ∧ x ≤ 1000) : ∃ M, F82_83 F L = some M ∧ M.Perm L ∧ M.Pairwise (fun a b => b ≤ a) := by
  have hins : ∃ M, F140_83 F L 0 (L.length : Int) = some M ∧ M.Perm L ∧ M.Pairwise (fun a b => b ≤ a) := by
    unfold F140_83
    obtain ⟨M, hM, hP, hS⟩ := ins_outer ord_gt (step := F140_83_l0 F 0) (step1 := F140_83_l1 F 0 (L.length : Int)) L.length F L rfl (by
      intro q D hD0 hq
      have hD := hD0.length_eq
      have hx := hb _ (hD0.mem_iff.1 (nx_mem (d := (0 : Int)) (show q + 1 < D.length by omega)))
      have hy := hb _ (hD0.mem_iff.1 (nx_mem (d := (0 : Int)) (show q < D.length by omega)))
      unfold F140_83_l0 F83
      simp only
      rw [if_pos (decide_eq_true (by omega)), nx_get (d := 0) (by omega), Option.bind_some, wpred (by omega) (by omega), show q + 1 - 1 = q from rfl, nx_get (d := 0) (by omega), Option.bind_some, Option.bind_some, Option.bind_some, w64 (a := nx 0 D q - nx 0 D (q + 1)) (by omega) (by omega)]
      by_cases hlt : nx 0 D q < nx 0 D (q + 1)
      · rw [if_pos (decide_eq_true (by omega)), if_pos (decide_eq_true hlt), Option.bind_some, Option.bind_some, ck_ok (by omega), Option.bind_some, ck_ok (by rw [List.length_set]; omega), Option.bind_some]
        rfl
      · rw [if_neg (by rw [decide_eq_true_eq]; omega), if_neg (mt of_decide_eq_true hlt)]) (by
      intro D hD
      unfold F140_83_l0
      simp only
      rw [if_neg (by simp), Option.bind_some, if_neg (by simp)]) (by
      intro i D M hi h
      unfold F140_83_l1
      simp only
      rw [if_pos (decide_eq_true (by omega)), h, Option.bind_some, wsuc (by omega)]) (by
      intro i D hi
      unfold F140_83_l1
      simp only
      rw [if_neg (by rw [decide_eq_true_eq]; omega)]) (by omega)
    rw [show wrapA .i64 (0 + 1) = (1 : Int) from rfl, hM]
    exact ⟨M, rfl, hP, hS.imp fun h => by simpa using h⟩
  unfold F82_83
  have hbl := bitsLen_ok
  simp only [List.all_eq_true, List.mem_range] at hbl
  obtain ⟨x, hx⟩ := Option.isSome_iff_exists.1 (hbl L.length (by omega))
  obtain ⟨M, hM, hM2⟩ := hins
  obtain ⟨G, rfl⟩ : ∃ q, F = q + 1 := ⟨F - 1, by omega⟩
  rw [bitsLen_F, hx, Option.bind_some]
  unfold F123_83
  rw [iter_stop (b := M)]
  · exact ⟨M, rfl, hM2⟩
  · unfold F123_83_l0
    simp only
    rw [if_pos (decide_eq_true (by rw [w64 (by omega) (by omega)]; omega)), hM, Option.bind_some]

theorem permE_good {p : List Int} (h : GoodP p) (hl : p.length ≤ 10) : permE p = 0 := by
  unfold permE; rw [if_neg (by omega), if_pos h]
theorem good_permE {p : List Int} (h : permE p = 0) : GoodP p ∧ p.length ≤ 10 := by
  unfold permE at h
  split at h
  · cases h
  · split at h
    · rename_i h1 h2; exact ⟨h2, by omega⟩
    · cases h
/-- A permutation as a function on numbers. -/
def pf (p : List Int) (i : Nat) : Nat := (nx 0 p i).toNat
theorem pf_spec {p : List Int} (h : GoodP p) {i : Nat} (hi : i < p.length) : nx 0 p i = (pf p i : Int) ∧ pf p i < p.length := by
  have := h.2 _ (nx_mem (d := (0 : Int)) hi)
  unfold pf
  omega
theorem pf_inj {p : List Int} (h : GoodP p) {i j : Nat} (hi : i < p.length) (hj : j < p.length) (e : pf p i = pf p j) : i = j := by
  have h1 := (pf_spec h hi).1
  have h2 := (pf_spec h hj).1
  have h3 : nx 0 p i = nx 0 p j := by rw [h1, h2, e]
  rw [nx_eq hi, nx_eq hj] at h3
  exact (List.getElem_inj h.1).1 h3
theorem pf_surj {p : List Int} (h : GoodP p) {v : Nat} (hv : v < p.length) : ∃ i, i < p.length ∧ pf p i = v := by
  obtain ⟨i, hi, e⟩ := nx_of (d := (0 : Int)) (mem_of_good h v hv)
  exact ⟨i, hi, by unfold pf; rw [e]; rfl⟩
theorem at_pf {p : List Int} (h : GoodP p) {i : Nat} (hi : i < p.length) : at? p (i : Int) = some (pf p i : Int) := by
  rw [nx_get (d := 0) hi, (pf_spec h hi).1]

/-! ### After -/
theorem after_eq (F : Nat) (p q : List Int) (hF : 20 ≤ F) (hp : GoodP p) (hl : p.length ≤ 10) (hq : ∀ x ∈ q, 0 ≤ x ∧ x < p.length) (hql : q.length ≤ 10) : F21 F p q = some (tb q.length fun i => (pf p (pf q i) : Int)) := by
  unfold F21
  have := iter_count (step := F21_l0 F p q) (F := F) (fun i => (tb i fun i => (pf p (pf q i) : Int), (i : Int))) (b := tb q.length fun i => (pf p (pf q i) : Int)) q.length ?_ ?_ (by omega)
  · rw [show (([] : List Int), (0 : Int)) = (tb 0 fun i => (pf p (pf q i) : Int), ((0 : Nat) : Int)) from rfl, this, Option.bind_some]
  · intro i hi
    unfold F21_l0
    simp only
    have h1 := hq _ (nx_mem (d := (0 : Int)) hi)
    have h2 : nx 0 q i = (pf q i : Int) := by unfold pf; omega
    rw [if_pos (decide_eq_true (by omega)), nx_get (d := 0) hi, Option.bind_some, h2, at_pf hp (by omega), Option.bind_some, app?_ok (by rw [tb_len]; simp; omega), Option.bind_some, wsuc (by omega), tb_succ]
  · unfold F21_l0
    simp only
    rw [if_neg (by simp)]
theorem times_eq (F : Nat) (p q : List Int) (hF : 40 ≤ F) (hp : permE p = 0) (hq : permE q = 0) (hl : p.length = q.length) : F12 F p q = some (tb q.length fun i => (pf p (pf q i) : Int), 0) := by
  obtain ⟨gp, lp⟩ := good_permE hp
  obtain ⟨gq, lq⟩ := good_permE hq
  unfold F12
  rw [check_eq F p (by omega), hp, Option.bind_some, if_neg (by decide), check_eq F q (by omega), hq, Option.bind_some, if_neg (by decide), if_neg (by simp; omega), mk?_ok (by omega), Option.bind_some, tb_rep]
  have := iter_count (step := F12_l0 F p q) (F := F) (fun i => ((i : Int), tb p.length fun k => if k < i then (pf p (pf q k) : Int) else 0)) (b := tb q.length fun i => (pf p (pf q i) : Int)) q.length ?_ ?_ (by omega)
  · rw [show ((0 : Int), tb p.length fun _ => (0 : Int)) = (((0 : Nat) : Int), tb p.length fun k => if k < 0 then (pf p (pf q k) : Int) else 0) from by simp, this, Option.bind_some]
  · intro i hi
    unfold F12_l0
    simp only
    have h1 := pf_spec gq hi
    rw [if_pos (decide_eq_true (by omega)), at_pf gq hi, Option.bind_some, at_pf gp (by omega), Option.bind_some, tb_ck (by omega), Option.bind_some, Int.toNat_natCast, tb_set, wsuc (by omega)]
    congr 3
    refine tb_congr fun k hk => ?_
    by_cases e : k = i
    · subst e; rw [if_pos rfl, if_pos (by omega)]
    · rw [if_neg e]
      by_cases e2 : k < i
      · rw [if_pos e2, if_pos (by omega)]
      · rw [if_neg e2, if_neg (by omega)]
  · unfold F12_l0
    simp only
    rw [if_neg (by simp), hl]
    congr 2
    exact tb_congr fun k hk => if_pos hk

/-! ### Inverse -/
theorem inverse_eq (F : Nat) (p : List Int) (hF : 40 ≤ F) (hp : permE p = 0) : ∃ v, F13 F p = some (v, 0) ∧ v.length = p.length ∧ GoodP v ∧ ∀ i, i < p.length → pf v (pf p i) = i := by
  obtain ⟨gp, lp⟩ := good_permE hp
  unfold F13
  rw [check_eq F p (by omega), hp, Option.bind_some, if_neg (by decide), mk?_ok (by omega), Option.bind_some, tb_rep]
  obtain ⟨v, hv, hl, hI⟩ := iter_inv (step := F13_l0 F p) (I := fun s => ∃ i : Nat, s.1 = i ∧ i ≤ p.length ∧ s.2.length = p.length ∧ ∀ j, j < i → nx 0 s.2 (pf p j) = (j : Int)) (μ := fun s => p.length - s.1.toNat) (Q := fun v => v.length = p.length ∧ ∀ j, j < p.length → nx 0 v (pf p j) = (j : Int)) (by
    rintro ⟨_, D⟩ ⟨i, rfl, hi, hD, hI⟩
    unfold F13_l0
    simp only at hD hI ⊢
    by_cases hlt : i < p.length
    · left
      have h1 := pf_spec gp hlt
      rw [if_pos (decide_eq_true (by omega)), at_pf gp hlt, Option.bind_some, ck_ok (by omega), Option.bind_some, Int.toNat_natCast, wsuc (by omega)]
      refine ⟨_, rfl, ⟨i + 1, rfl, by omega, by simp only [List.length_set]; exact hD, fun j hj => ?_⟩, by simp only; omega⟩
      simp only
      rw [nx_set (by omega)]
      by_cases e : j = i
      · subst e; rw [if_pos rfl]
      · rw [if_neg (fun q => e (pf_inj gp (by omega) hlt q))]
        exact hI j (by omega)
    · right
      rw [if_neg (by rw [decide_eq_true_eq]; omega)]
      exact ⟨_, rfl, hD, fun j hj => hI j (by omega)⟩) F (0, tb p.length fun _ => 0) ⟨0, rfl, by omega, tb_len _ _, fun j hj => by omega⟩ (by simp only; omega)
  rw [hv, Option.bind_some]
  have hval : ∀ x, x < p.length → ∃ j, j < p.length ∧ nx 0 v x = (j : Int) := by
    intro x hx
    obtain ⟨i, hi, e⟩ := pf_surj gp hx
    exact ⟨i, hi, by rw [← e]; exact hI i hi⟩
  refine ⟨v, rfl, hl, ?_, fun i hi => by show (nx 0 v (pf p i)).toNat = i; rw [hI i hi]; rfl⟩
  refine good_of_mem fun i hi => ?_
  rw [hl] at hi
  rw [← hI i hi]
  exact nx_mem (by rw [hl]; exact (pf_spec gp hi).2)

/-! ### Reverse -/
theorem rev_tb (L : List Int) : L.reverse = tb L.length fun q => nx 0 L (L.length - 1 - q) := by
  apply List.ext_getElem?
  intro q
  rw [tb_get?]
  by_cases h : q < L.length
  · rw [if_pos h, List.getElem?_reverse h, nx_eq (by omega), List.getElem?_eq_getElem (by omega)]
  · rw [if_neg h, List.getElem?_eq_none (by simp; omega)]
theorem reverse_eq (F : Nat) (L : List Int) (hF : L.length + 2 ≤ F) (hl : L.length ≤ 1000000) : F86 F L = some L.reverse := by
  unfold F86
  have := iter_count (step := F86_l0 F) (F := F) (fun k => ((k : Int), (L.length : Int) - 1 - (k : Int), tb L.length fun q => if q < k ∨ L.length ≤ q + k then nx 0 L (L.length - 1 - q) else nx 0 L q)) (b := L.reverse) (L.length / 2) ?_ ?_ (by omega)
  · rw [w64 (by omega) (by omega)]
    have e : ((0 : Int), (L.length : Int) - 1, L) = (((0 : Nat) : Int), (L.length : Int) - 1 - ((0 : Nat) : Int), tb L.length fun q => if q < 0 ∨ L.length ≤ q + 0 then nx 0 L (L.length - 1 - q) else nx 0 L q) := by
      congr 2
      · simp
      · conv => lhs; rw [nx_tb 0 L]
        exact tb_congr fun q hq => by rw [if_neg (by omega)]
    rw [e, this, Option.bind_some]
  · intro k hk
    unfold F86_l0
    simp only
    have e : (L.length : Int) - 1 - (k : Int) = ((L.length - 1 - k : Nat) : Int) := by omega
    rw [if_pos (decide_eq_true (by omega)), e, tb_get (by omega), Option.bind_some, tb_get (by omega), Option.bind_some, tb_ck (by omega), Option.bind_some, Int.toNat_natCast, tb_set, tb_ck (by omega), Option.bind_some, Int.toNat_natCast, tb_set, wsuc (by omega), w64 (by omega) (by omega)]
    congr 4
    · omega
    · refine tb_congr fun q hq => ?_
      by_cases e1 : q = L.length - 1 - k
      · subst e1
        rw [if_pos rfl, if_neg (by omega), if_pos (by omega)]
        congr 1; omega
      · rw [if_neg e1]
        by_cases e2 : q = k
        · subst e2
          rw [if_pos rfl, if_neg (by omega), if_pos (by omega)]
        · rw [if_neg e2]
          by_cases e3 : q < k ∨ L.length ≤ q + k
          · rw [if_pos e3, if_pos (by omega)]
          · rw [if_neg e3, if_neg (by omega)]
  · unfold F86_l0
    simp only
    rw [if_neg (by rw [decide_eq_true_eq]; omega), rev_tb]
    congr 2
    refine tb_congr fun q hq => ?_
    by_cases e3 : q < L.length / 2 ∨ L.length ≤ q + L.length / 2
    · rw [if_pos e3]
    · rw [if_neg e3]; congr 1; omega

theorem pf_pm {p : List Int} (h : GoodP p) : Pm (pf p) p.length := ⟨fun i hi => (pf_spec h hi).2, fun i j hi hj e => pf_inj h hi hj e⟩
def toI (L : List Nat) : List Int := L.map fun (x : Nat) => (x : Int)
theorem toI_app (L M : List Nat) : toI (L ++ M) = toI L ++ toI M := by simp [toI]
theorem toI_len (L : List Nat) : (toI L).length = L.length := by simp [toI]

/-- castref.CyclesOf, ahead of the sort. -/
theorem refCyc_eq (F : Nat) (p : List Int) (hF : 40 ≤ F) (hg : GoodP p) (hl : p.length ≤ 10) : iter (F23_l1 F p) F ([], 0) = some (toI (clens (pf p) p.length p.length)) := by
  have hpm := pf_pm hg
  have := iter_count (step := F23_l1 F p) (F := F) (fun i => (toI (clens (pf p) p.length i), (i : Int))) (b := toI (clens (pf p) p.length p.length)) p.length ?_ ?_ (by omega)
  · exact this
  · intro i hi
    unfold F23_l1
    simp only
    have hcb := cl_back hpm hi
    have hcp := cl_pos (f := pf p) (n := p.length) i
    have hcl := clens_len (f := pf p) (n := p.length) i
    have hin : iter (F23_l0 F p (toI (clens (pf p) p.length i), (i : Int))) F (1, (i : Int), (pf p i : Int)) = some ((cl (pf p) p.length i : Int), (mnt (pf p) i (cl (pf p) p.length i - 1) : Int)) := by
      have h2 := iter_count (step := F23_l0 F p (toI (clens (pf p) p.length i), (i : Int))) (F := F) (fun t => (((t + 1 : Nat) : Int), (mnt (pf p) i t : Int), (it (pf p) (t + 1) i : Int))) (b := ((cl (pf p) p.length i : Int), (mnt (pf p) i (cl (pf p) p.length i - 1) : Int))) (cl (pf p) p.length i - 1) ?_ ?_ (by omega)
      · exact h2
      · intro t ht
        have hne := cl_least hpm hi (t := t + 1) (by omega) (by omega)
        have hlt := it_lt hpm hi (t + 1)
        unfold F23_l0
        simp only
        have e1 : minI (mnt (pf p) i t : Int) (it (pf p) (t + 1) i : Int) = (mnt (pf p) i (t + 1) : Int) := by
          have e2 : mnt (pf p) i (t + 1) = min (mnt (pf p) i t) (it (pf p) (t + 1) i) := rfl
          rw [e2]
          unfold minI
          split <;> omega
        rw [if_pos (by simp; omega), at_pf hg hlt, Option.bind_some, wsuc (by omega), e1]
        rfl
      · unfold F23_l0
        simp only
        rw [show cl (pf p) p.length i - 1 + 1 = cl (pf p) p.length i from by omega, hcb.1, if_neg (by simp)]
    rw [if_pos (decide_eq_true (by omega)), at_pf hg hi, Option.bind_some, hin, Option.bind_some, wsuc (by omega)]
    by_cases hm : isMin (pf p) p.length i = true
    · rw [if_pos (by simp [(mnt_isMin hpm hi).2 hm]), app?_ok (by rw [toI_len]; simp; omega), Option.bind_some]
      have : clens (pf p) p.length (i + 1) = clens (pf p) p.length i ++ [cl (pf p) p.length i] := by rw [clens, if_pos hm]
      rw [this, toI_app]; rfl
    · have hne : ¬ mnt (pf p) i (cl (pf p) p.length i - 1) = i := fun e => hm ((mnt_isMin hpm hi).1 e)
      have : clens (pf p) p.length (i + 1) = clens (pf p) p.length i := by rw [clens, if_neg hm]
      rw [if_neg (by simp; omega), this]
  · unfold F23_l1
    simp only
    rw [if_neg (by simp)]

open Classical in
/-- What is seen: the cycles of those below i, and the first t of i's. -/
noncomputable def seenL (f : Nat → Nat) (i t : Nat) : List Bool := tb 10 fun k => decide ((∃ j, j < i ∧ On f j k) ∨ ∃ s, s < t ∧ it f s i = k)
open Classical in
theorem cyc_eq (F : Nat) (p : List Int) (hF : 40 ≤ F) (hg : GoodP p) (hl : p.length ≤ 10) : iter (F14_l1 F p) F ([], 0, List.replicate 10 false) = some (toI (clens (pf p) p.length p.length)) := by
  have hpm := pf_pm hg
  have := iter_count (step := F14_l1 F p) (F := F) (fun i => (toI (clens (pf p) p.length i), (i : Int), seenL (pf p) i 0)) (b := toI (clens (pf p) p.length p.length)) p.length ?_ ?_ (by omega)
  · rw [← this]
    have e : List.replicate 10 false = seenL (pf p) 0 0 := by
      rw [tb_rep]
      refine tb_congr fun k hk => (decide_eq_false ?_).symm
      intro h
      rcases h with ⟨j, h1, h2⟩ | ⟨s, h1, h2⟩
      · exact absurd h1 (Nat.not_lt_zero _)
      · exact absurd h1 (Nat.not_lt_zero _)
    rw [e]
    rfl
  · intro i hi
    unfold F14_l1
    simp only
    have hcb := cl_back hpm hi
    have hcp := cl_pos (f := pf p) (n := p.length) i
    have hcl := clens_len (f := pf p) (n := p.length) i
    rw [if_pos (decide_eq_true (by omega)), wsuc (by omega)]
    by_cases hm : isMin (pf p) p.length i = true
    · have hmin := (isMin_iff hpm hi).1 hm
      have hin : iter (F14_l0 F p) F (0, (i : Int), seenL (pf p) i 0) = some ((cl (pf p) p.length i : Int), seenL (pf p) i (cl (pf p) p.length i)) := by
        have h2 := iter_count (step := F14_l0 F p) (F := F) (fun t => ((t : Int), (it (pf p) t i : Int), seenL (pf p) i t)) (b := ((cl (pf p) p.length i : Int), seenL (pf p) i (cl (pf p) p.length i))) (cl (pf p) p.length i) ?_ ?_ (by omega)
        · exact h2
        · intro t ht
          have hlt := it_lt hpm hi t
          unfold F14_l0
          simp only
          have hun : ¬ ((∃ j, j < i ∧ On (pf p) j (it (pf p) t i)) ∨ ∃ s, s < t ∧ it (pf p) s i = it (pf p) t i) := by
            rintro (⟨j, h1, h2⟩ | ⟨s, h1, h2⟩)
            · have h3 : On (pf p) i j := (show On (pf p) i (it (pf p) t i) from ⟨t, rfl⟩).trans (On.symm hpm (by omega) h2)
              have := hmin j h3
              omega
            · have h3 : it (pf p) s i = it (pf p) s (it (pf p) (t - s) i) := by
                rw [← it_add, show s + (t - s) = t from by omega]; exact h2
              have h4 := it_inj hpm hi (it_lt hpm hi _) s h3
              exact cl_least hpm hi (t := t - s) (by omega) (by omega) h4.symm
          have hat : at? (seenL (pf p) i t) (it (pf p) t i : Int) = some false := by
            unfold seenL
            rw [tb_get (by omega)]
            congr 1
            simpa using hun
          rw [hat, Option.bind_some, if_pos (by decide), show ck (seenL (pf p) i t) (it (pf p) t i : Int) = some () from tb_ck (by omega), Option.bind_some, at_pf hg hlt, Option.bind_some, Int.toNat_natCast, wsuc (by omega)]
          congr 4
          unfold seenL
          rw [tb_set]
          refine tb_congr fun k hk => ?_
          by_cases e : k = it (pf p) t i
          · rw [if_pos e]
            symm
            rw [decide_eq_true_eq]
            exact .inr ⟨t, by omega, e.symm⟩
          · rw [if_neg e]
            apply decide_eq_decide.2
            constructor
            · rintro (h | ⟨s, h1, h2⟩)
              · exact .inl h
              · exact .inr ⟨s, by omega, h2⟩
            · rintro (h | ⟨s, h1, h2⟩)
              · exact .inl h
              · refine .inr ⟨s, ?_, h2⟩
                rcases Nat.lt_or_ge s t with h3 | h3
                · exact h3
                · exfalso; apply e; rw [← h2, show s = t from by omega]
        · unfold F14_l0
          simp only
          have hat : at? (seenL (pf p) i (cl (pf p) p.length i)) (it (pf p) (cl (pf p) p.length i) i : Int) = some true := by
            rw [hcb.1]
            unfold seenL
            rw [tb_get (by omega)]
            congr 1
            rw [decide_eq_true_eq]
            exact .inr ⟨0, by omega, rfl⟩
          rw [hat, Option.bind_some, if_neg (by decide)]
      have hs : seenL (pf p) i (cl (pf p) p.length i) = seenL (pf p) (i + 1) 0 := by
        unfold seenL
        refine tb_congr fun k hk => decide_eq_decide.2 ?_
        constructor
        · rintro (⟨j, h1, h2⟩ | ⟨s, h1, h2⟩)
          · exact .inl ⟨j, by omega, h2⟩
          · exact .inl ⟨i, by omega, s, h2⟩
        · rintro (⟨j, h1, h2⟩ | ⟨s, h1, h2⟩)
          · by_cases e : j = i
            · subst e
              obtain ⟨t, h3, h4⟩ := On.below hpm hi h2
              exact .inr ⟨t, h3, h4⟩
            · exact .inl ⟨j, by omega, h2⟩
          · omega
      rw [hin, Option.bind_some, if_pos (decide_eq_true (by simp only; omega)), app?_ok (by rw [toI_len]; simp; omega), Option.bind_some]
      have : clens (pf p) p.length (i + 1) = clens (pf p) p.length i ++ [cl (pf p) p.length i] := by rw [clens, if_pos hm]
      rw [this, toI_app, hs]; rfl
    · have hex : ∃ j, j < i ∧ On (pf p) j i := by
        apply Classical.byContradiction
        intro hno
        apply hm
        rw [isMin_iff hpm hi]
        intro j hj
        rcases Nat.lt_or_ge j i with h1 | h1
        · exact absurd ⟨j, h1, On.symm hpm hi hj⟩ hno
        · exact h1
      have hin : iter (F14_l0 F p) F (0, (i : Int), seenL (pf p) i 0) = some (0, seenL (pf p) i 0) := by
        obtain ⟨G, rfl⟩ : ∃ q, F = q + 1 := ⟨F - 1, by omega⟩
        refine iter_stop ?_
        unfold F14_l0
        simp only
        have hat : at? (seenL (pf p) i 0) (i : Int) = some true := by
          unfold seenL
          rw [tb_get (by omega)]
          congr 1
          rw [decide_eq_true_eq]
          exact .inl hex
        rw [hat, Option.bind_some, if_neg (by decide)]
      have hs : seenL (pf p) i 0 = seenL (pf p) (i + 1) 0 := by
        unfold seenL
        refine tb_congr fun k hk => decide_eq_decide.2 ?_
        constructor
        · rintro (⟨j, h1, h2⟩ | ⟨s, h1, h2⟩)
          · exact .inl ⟨j, by omega, h2⟩
          · omega
        · rintro (⟨j, h1, h2⟩ | ⟨s, h1, h2⟩)
          · by_cases e : j = i
            · subst e
              obtain ⟨q, h3, h4⟩ := hex
              exact .inl ⟨q, h3, h4.trans h2⟩
            · exact .inl ⟨j, by omega, h2⟩
          · omega
      have : clens (pf p) p.length (i + 1) = clens (pf p) p.length i := by rw [clens, if_neg hm]
      rw [hin, Option.bind_some, if_neg (by simp), this, ← hs]
  · unfold F14_l1
    simp only
    rw [if_neg (by simp)]

theorem clens_small {p : List Int} (hg : GoodP p) (hl : p.length ≤ 10) : ∀ x ∈ toI (clens (pf p) p.length p.length), 1 ≤ x ∧ x ≤ 10 := by
  intro x hx
  obtain ⟨y, hy, rfl⟩ := List.mem_map.1 hx
  obtain ⟨k, h1, _, rfl⟩ := clens_mem hy
  have h2 := cl_pos (f := pf p) (n := p.length) k
  have h3 := (cl_back (pf_pm hg) h1).2
  omega
theorem cycles_eq (F : Nat) (p : List Int) (hF : 40 ≤ F) (hp : permE p = 0) : ∃ M, F14 F p = some (M, 0) ∧ F23 F p = some M ∧ M.Perm (toI (clens (pf p) p.length p.length)) := by
  obtain ⟨hg, hl⟩ := good_permE hp
  have hcl := clens_len (f := pf p) (n := p.length) p.length
  have hlen : (toI (clens (pf p) p.length p.length)).length ≤ 10 := by rw [toI_len]; omega
  have hsm := clens_small hg hl
  obtain ⟨M1, h1, h2, h3⟩ := sortDesc_eq F (toI (clens (pf p) p.length p.length)) (by omega) (by omega) (fun x hx => by have := hsm x hx; omega)
  obtain ⟨M2, g1, g2, g3⟩ := sort_sorted F (toI (clens (pf p) p.length p.length)) (by omega) (by omega)
  have hM2 := g2.length_eq
  have e : M1 = M2.reverse := by
    have h4 : M1.reverse = M2 := sorted_eq ((List.reverse_perm M1).trans (h2.trans g2.symm)) (by rw [List.pairwise_reverse]; exact h3) g3
    rw [← h4, List.reverse_reverse]
  refine ⟨M1, ?_, ?_, h2⟩
  · unfold F14
    rw [check_eq F p (by omega), hp, Option.bind_some, if_neg (by decide), cyc_eq F p hF hg hl, Option.bind_some, h1, Option.bind_some]
  · unfold F23
    rw [refCyc_eq F p hF hg hl, Option.bind_some, g1, Option.bind_some, reverse_eq F M2 (by omega) (by omega), Option.bind_some, e]

/-! ### Order -/
theorem gcd_eq (F a b : Nat) (hF : b < F) : iter (F16_l0 F) F ((a : Int), (b : Int)) = some ((Nat.gcd a b : Nat) : Int) := by
  obtain ⟨r, hr, hQ⟩ := iter_inv (step := F16_l0 F) (I := fun s => ∃ x y : Nat, s = ((x : Int), (y : Int)) ∧ Nat.gcd x y = Nat.gcd a b) (μ := fun s => s.2.toNat) (Q := fun r => r = ((Nat.gcd a b : Nat) : Int)) (by
    rintro _ ⟨x, y, rfl, h⟩
    unfold F16_l0
    simp only
    by_cases hy : 0 < y
    · left
      have hrem : rem? (x : Int) (y : Int) = some ((x % y : Nat) : Int) := by unfold rem?; rw [if_neg (by omega), tmod_nat]
      rw [if_pos (decide_eq_true (by omega)), hrem, Option.bind_some]
      refine ⟨_, rfl, ⟨y, x % y, rfl, by rw [← h, Nat.gcd_comm y, ← Nat.gcd_rec, Nat.gcd_comm]⟩, ?_⟩
      have := Nat.mod_lt x hy
      simp only [Int.toNat_natCast]; omega
    · right
      rw [if_neg (by rw [decide_eq_true_eq]; omega)]
      refine ⟨_, rfl, ?_⟩
      rw [show y = 0 from by omega, Nat.gcd_zero_right] at h
      rw [h]) F ((a : Int), (b : Int)) ⟨a, b, rfl, rfl⟩ (by simpa using hF)
  rw [hr, hQ]
theorem lcm_step {acc x : Nat} (m : Nat) : acc / Nat.gcd acc x * x ∣ m ↔ acc ∣ m ∧ x ∣ m := by
  have e : acc / Nat.gcd acc x * x = Nat.lcm acc x := by
    rw [Nat.div_mul_right_comm (Nat.gcd_dvd_left acc x)]; rfl
  rw [e, Nat.lcm_dvd_iff]
theorem order_eq (F : Nat) (p M : List Int) (hF : 40 ≤ F) (hc : F14 F p = some (M, 0)) (hM : M.length ≤ 10) (hs : ∀ x ∈ M, 1 ≤ x ∧ x ≤ 10) : ∃ R : Nat, F16 F p = some ((R : Int), 0) ∧ 1 ≤ R ∧ R ≤ 10000000000 ∧ ∀ m, R ∣ m ↔ ∀ x ∈ M, x.toNat ∣ m := by
  unfold F16
  rw [hc, Option.bind_some, if_neg (by simp)]
  obtain ⟨r, hr, R, rfl, h1, h2, h3⟩ := iter_inv (step := F16_l1 F (M, 0)) (I := fun s => ∃ i acc : Nat, s = ((acc : Int), (i : Int)) ∧ i ≤ M.length ∧ 1 ≤ acc ∧ acc ≤ 10 ^ i ∧ ∀ m, acc ∣ m ↔ ∀ x ∈ M.take i, x.toNat ∣ m) (μ := fun s => M.length - s.2.toNat) (Q := fun r => ∃ R : Nat, r = (R : Int) ∧ 1 ≤ R ∧ R ≤ 10000000000 ∧ ∀ m, R ∣ m ↔ ∀ x ∈ M, x.toNat ∣ m) (by
    rintro _ ⟨i, acc, rfl, hi, ha, hb, hd⟩
    unfold F16_l1
    simp only
    have hp10 : 10 ^ i ≤ 10 ^ 10 := Nat.pow_le_pow_right (by omega) (by omega)
    have hp : (10 : Nat) ^ 10 = 10000000000 := rfl
    by_cases hlt : i < M.length
    · left
      have hx := hs _ (nx_mem (d := (0 : Int)) hlt)
      obtain ⟨x, hxe⟩ : ∃ x : Nat, nx 0 M i = x := ⟨(nx 0 M i).toNat, by omega⟩
      have hx1 : 1 ≤ x ∧ x ≤ 10 := by omega
      have hg := Nat.gcd_pos_of_pos_right acc (show 0 < x by omega)
      have hle : acc / Nat.gcd acc x ≤ acc := Nat.div_le_self _ _
      have hle2 : acc / Nat.gcd acc x * x ≤ acc * 10 := Nat.mul_le_mul hle hx1.2
      have hpos : 0 < acc / Nat.gcd acc x := Nat.div_pos (Nat.le_of_dvd (by omega) (Nat.gcd_dvd_left acc x)) hg
      have hpos2 : 0 < acc / Nat.gcd acc x * x := Nat.mul_pos hpos (by omega)
      have hquo : quo? .i64 (acc : Int) ((Nat.gcd acc x : Nat) : Int) = some ((acc / Nat.gcd acc x : Nat) : Int) := by
        unfold quo?
        rw [if_neg (by omega), tdiv_nat, wnat (Nat.le_trans hle (by omega))]
      rw [if_pos (decide_eq_true (by omega)), nx_get (d := 0) hlt, Option.bind_some, hxe, gcd_eq F acc x (by omega), Option.bind_some, hquo, Option.bind_some, wmul (Nat.le_trans hle2 (by omega)), wsuc (by omega)]
      refine ⟨_, rfl, ⟨i + 1, _, rfl, by omega, hpos2, ?_, fun m => ?_⟩, by simp only [Int.toNat_natCast]; omega⟩
      · rw [Nat.pow_succ]; exact Nat.le_trans hle2 (Nat.mul_le_mul_right _ hb)
      · rw [lcm_step, hd m, List.take_add_one, List.getElem?_eq_getElem hlt, ← nx_eq (d := 0) hlt, hxe]
        constructor
        · rintro ⟨q1, q2⟩ y hy
          rcases List.mem_append.1 hy with hy | hy
          · exact q1 y hy
          · simp only [Option.toList_some, List.mem_singleton] at hy
            subst hy; exact q2
        · intro q
          exact ⟨fun y hy => q y (List.mem_append_left _ hy), by simpa using q (x : Int) (by simp)⟩
    · right
      rw [if_neg (by rw [decide_eq_true_eq]; omega)]
      refine ⟨_, rfl, acc, rfl, ha, by omega, fun m => ?_⟩
      rw [hd m, List.take_of_length_le (by omega)]) F (1, 0) ⟨0, 1, rfl, by omega, by omega, by decide, fun m => by simp⟩ (by simp only; omega)
  rw [hr, Option.bind_some]
  exact ⟨R, rfl, h1, h2, h3⟩
theorem isSorted_eq (F n : Nat) (g : Nat → Nat) (hF : n + 2 ≤ F) (hn : n ≤ 1000) : ∃ b, F20 F (tb n fun i => (g i : Int)) = some b ∧ (b = true ↔ ∀ i, i + 1 < n → g i ≤ g (i + 1)) := by
  unfold F20
  obtain ⟨b, hb, hQ⟩ := iter_inv (step := F20_l0 F (tb n fun i => (g i : Int))) (I := fun s => -1 ≤ s ∧ s < n ∧ ∀ i : Nat, s ≤ i → i + 1 < n → g i ≤ g (i + 1)) (μ := fun s => s.toNat) (Q := fun b => (b = .inl () ∧ ∀ i, i + 1 < n → g i ≤ g (i + 1)) ∨ (b = .inr false ∧ ¬ ∀ i, i + 1 < n → g i ≤ g (i + 1))) (by
    rintro s ⟨h1, h2, h3⟩
    unfold F20_l0
    by_cases h0 : s > 0
    · obtain ⟨q, rfl⟩ : ∃ q : Nat, s = ((q + 1 : Nat) : Int) := ⟨s.toNat - 1, by omega⟩
      rw [if_pos (decide_eq_true h0), tb_get (by omega), Option.bind_some, wpred (by omega) (by omega), show q + 1 - 1 = q from rfl, tb_get (by omega), Option.bind_some, less_eq, Option.bind_some]
      by_cases hlt : g (q + 1) < g q
      · right
        rw [if_pos (decide_eq_true (by omega))]
        exact ⟨_, rfl, .inr ⟨rfl, fun h => by have := h q (by omega); omega⟩⟩
      · left
        rw [if_neg (by rw [decide_eq_true_eq]; omega)]
        refine ⟨_, rfl, ⟨by omega, by omega, fun i h4 h5 => ?_⟩, by omega⟩
        by_cases e : i = q
        · subst e; omega
        · exact h3 i (by omega) h5
    · right
      rw [if_neg (mt of_decide_eq_true h0)]
      exact ⟨_, rfl, .inl ⟨rfl, fun i h4 => h3 i (by omega) h4⟩⟩) F (wrapA .i64 (((tb n fun i => (g i : Int)).length : Int) - 1)) (by rw [tb_len, w64 (by omega) (by omega)]; exact ⟨by omega, by omega, fun i h4 h5 => by omega⟩) (by rw [tb_len, w64 (by omega) (by omega)]; omega)
  rw [hb, Option.bind_some]
  rcases hQ with ⟨rfl, h⟩ | ⟨rfl, h⟩
  · exact ⟨true, rfl, fun _ => h, fun _ => rfl⟩
  · exact ⟨false, rfl, ⟨fun q => (by cases q), fun q => absurd q h⟩⟩
/-- In order and a permutation: nothing moves. -/
theorem mono_id {g : Nat → Nat} {n : Nat} (h : Pm g n) : (∀ i, i + 1 < n → g i ≤ g (i + 1)) ↔ ∀ i, i < n → g i = i := by
  constructor
  · intro hm
    have hs : ∀ i, i + 1 < n → g i < g (i + 1) := fun i hi => by
      have h1 := hm i hi
      have h2 : g i ≠ g (i + 1) := fun e => by have := h.inj _ _ (by omega) hi e; omega
      omega
    have hlo : ∀ i, i < n → i ≤ g i := by
      intro i
      induction i with
      | zero => intro _; exact Nat.zero_le _
      | succ i ih => intro hi; have := ih (by omega); have := hs i hi; omega
    have hhi : ∀ k i, i + k + 1 = n → g i ≤ i := by
      intro k
      induction k with
      | zero => intro i hi; have := h.lt i (by omega); omega
      | succ k ih => intro i hi; have := ih (i + 1) (by omega); have := hs i (by omega); omega
    intro i hi
    have := hlo i hi
    have := hhi (n - i - 1) i (by omega)
    omega
  · intro hid i hi
    rw [hid i (by omega), hid (i + 1) hi]; omega
theorem it_pm {f : Nat → Nat} {n : Nat} (h : Pm f n) (t : Nat) : Pm (it f t) n := ⟨fun i hi => it_lt h hi t, fun i j hi hj e => it_inj h hi hj t e⟩
theorem refOrder_eq (F : Nat) (p : List Int) (R : Nat) (hg : GoodP p) (hl : p.length ≤ 10) (h1 : 1 ≤ R) (h2 : R ≤ 10000000000) (hF : 10000000040 ≤ F) (hR : ∀ m, R ∣ m ↔ ∀ i, i < p.length → it (pf p) m i = i) : F24 F p = some (R : Int) := by
  have hpm := pf_pm hg
  have hcl : F34 F p = some p := by unfold F34; rw [if_pos (by omega)]
  have hp0 : p = tb p.length fun i => (it (pf p) 1 i : Int) := by
    conv => lhs; rw [nx_tb 0 p]
    exact tb_congr fun i hi => (pf_spec hg hi).1
  unfold F24
  rw [hcl, Option.bind_some]
  have := iter_count (step := F24_l0 F p) (F := F) (fun t => (((t + 1 : Nat) : Int), tb p.length fun i => (it (pf p) (t + 1) i : Int))) (b := (R : Int)) (R - 1) ?_ ?_ (by omega)
  · rw [show ((1 : Int), p) = (((0 + 1 : Nat) : Int), tb p.length fun i => (it (pf p) (0 + 1) i : Int)) from by rw [← hp0]; rfl, this, Option.bind_some]
  · intro t ht
    unfold F24_l0
    simp only
    have hns : ¬ ∀ i, i + 1 < p.length → it (pf p) (t + 1) i ≤ it (pf p) (t + 1) (i + 1) := by
      rw [mono_id (it_pm hpm (t + 1)), ← hR]
      intro hd
      have := Nat.le_of_dvd (by omega) hd
      omega
    obtain ⟨b, hb, hbi⟩ := isSorted_eq F p.length (it (pf p) (t + 1)) (by omega) (by omega)
    have hbf : b = false := by
      cases b with
      | false => rfl
      | true => exact absurd (hbi.1 rfl) hns
    subst hbf
    rw [hb, Option.bind_some, if_pos (by decide), after_eq F p _ (by omega) hg hl (fun x hx => by
      obtain ⟨i, hi, rfl⟩ := tb_mem hx
      have := it_lt hpm hi (t + 1)
      omega) (by rw [tb_len]; exact hl), Option.bind_some, tb_len, wsuc (by omega)]
    congr 3
    refine tb_congr fun i hi => ?_
    have : pf (tb p.length fun i => (it (pf p) (t + 1) i : Int)) i = it (pf p) (t + 1) i := by unfold pf; rw [tb_nx hi]; rfl
    rw [this]; rfl
  · unfold F24_l0
    simp only
    have hs : ∀ i, i + 1 < p.length → it (pf p) (R - 1 + 1) i ≤ it (pf p) (R - 1 + 1) (i + 1) := by
      rw [mono_id (it_pm hpm (R - 1 + 1)), ← hR, show R - 1 + 1 = R from by omega]
      exact Nat.dvd_refl R
    obtain ⟨b, hb, hbi⟩ := isSorted_eq F p.length (it (pf p) (R - 1 + 1)) (by omega) (by omega)
    have hbt : b = true := hbi.2 hs
    subst hbt
    rw [hb, Option.bind_some, if_neg (by decide), show R - 1 + 1 = R from by omega]

def sn : Nat → (Nat → Nat) → Nat
  | 0, _ => 0
  | k + 1, f => sn k f + f k
theorem sn_congr {f g : Nat → Nat} : ∀ {k : Nat}, (∀ i, i < k → f i = g i) → sn k f = sn k g
  | 0, _ => rfl
  | k + 1, h => by show sn k f + f k = sn k g + g k; rw [sn_congr fun i hi => h i (by omega), h k (by omega)]
theorem sn_add (f g : Nat → Nat) : ∀ k, sn k (fun i => f i + g i) = sn k f + sn k g
  | 0 => rfl
  | k + 1 => by show sn k (fun i => f i + g i) + (f k + g k) = (sn k f + f k) + (sn k g + g k); rw [sn_add f g k]; omega
theorem sn_zero : ∀ k, sn k (fun _ => 0) = 0
  | 0 => rfl
  | k + 1 => by show sn k _ + 0 = 0; rw [sn_zero k]
/-- One term alone. -/
theorem sn_single (q a : Nat) : ∀ n, q < n → sn n (fun i => if i = q then a else 0) = a
  | 0, h => by omega
  | n + 1, h => by
    show sn n (fun i => if i = q then a else 0) + (if n = q then a else 0) = a
    by_cases e : n = q
    · rw [if_pos e, sn_congr (g := fun _ => 0) fun i hi => if_neg (by omega), sn_zero]; omega
    · rw [if_neg e, sn_single q a n (by omega)]; omega
/-- The first terms alone. -/
theorem sn_first (q : Nat) (f : Nat → Nat) : ∀ n, q ≤ n → sn n (fun i => if i < q then f i else 0) = sn q f
  | 0, h => by rw [show q = 0 from by omega]; rfl
  | n + 1, h => by
    show sn n (fun i => if i < q then f i else 0) + (if n < q then f n else 0) = sn q f
    by_cases e : n < q
    · have : q = n + 1 := by omega
      subst this
      rw [if_pos e, sn_congr (g := f) fun i hi => if_pos (by omega)]; rfl
    · rw [if_neg e, sn_first q f n (by omega)]; rfl
def bn (p : Prop) [Decidable p] : Nat := if p then 1 else 0
/-- The inversions ahead of j. -/
def invAt (f : Nat → Nat) (j : Nat) : Nat := sn j fun i => bn (f j < f i)
def inv (f : Nat → Nat) (n : Nat) : Nat := sn n (invAt f)

/-- f without its greatest value. -/
def cut (f : Nat → Nat) (m k i : Nat) : Nat := if i = k then f m else f i
section
variable {f : Nat → Nat} {m k : Nat}
theorem cut_ne {i : Nat} (h : i ≠ k) : cut f m k i = f i := if_neg h
theorem cut_eq : cut f m k k = f m := if_pos rfl
theorem cut_pm (h : Pm f (m + 1)) (hk : k < m + 1) (hf : f k = m) : Pm (cut f m k) m := by
  have hlt : ∀ i, i < m + 1 → i ≠ k → f i < m := fun i hi hne => by
    have h1 := h.lt i hi
    have h2 : f i ≠ m := fun e => hne (h.inj i k hi hk (e.trans hf.symm))
    omega
  refine ⟨fun i hi => ?_, fun i j hi hj e => ?_⟩
  · by_cases e : i = k
    · subst e; rw [cut_eq]; exact hlt m (by omega) (by omega)
    · rw [cut_ne e]; exact hlt i (by omega) e
  · by_cases e1 : i = k <;> by_cases e2 : j = k
    · omega
    · subst e1; rw [cut_eq, cut_ne e2] at e; have := h.inj _ _ (by omega) (by omega) e; omega
    · subst e2; rw [cut_eq, cut_ne e1] at e; have := h.inj _ _ (by omega) (by omega) e; omega
    · rw [cut_ne e1, cut_ne e2] at e; exact h.inj _ _ (by omega) (by omega) e

/-! ### Inversions -/
theorem inv_fix (h : Pm f (m + 1)) (hf : f m = m) : inv f (m + 1) = inv (cut f m m) m := by
  have e1 : invAt f m = 0 := by
    unfold invAt
    rw [sn_congr (g := fun _ => 0) fun i hi => by
      have := h.lt i (by omega)
      unfold bn; rw [if_neg (by omega)], sn_zero]
  show sn m (invAt f) + invAt f m = _
  rw [e1, Nat.add_zero]
  refine sn_congr fun j hj => ?_
  unfold invAt
  refine sn_congr fun i hi => ?_
  rw [cut_ne (by omega), cut_ne (by omega)]
theorem sn_turn {F G : Nat → Nat} {q : Nat} : ∀ {n : Nat}, q < n → (∀ i, i < n → i ≠ q → F i = G i) → sn n F + G q = sn n G + F q
  | 0, h, _ => by omega
  | n + 1, h, hFG => by
    show sn n F + F n + G q = sn n G + G n + F q
    by_cases e : q = n
    · subst e
      rw [sn_congr (f := F) (g := G) fun i hi => hFG i (by omega) (by omega)]; omega
    · have := sn_turn (F := F) (G := G) (q := q) (n := n) (by omega) fun i hi => hFG i (by omega)
      have := hFG n (by omega) (fun e2 => e e2.symm)
      omega
theorem inv_move (h : Pm f (m + 1)) (hk : k < m) (hf : f k = m) : ∃ C D, inv f (m + 1) + 2 * C = inv (cut f m k) m + 2 * D + 1 := by
  have hlt : ∀ i, i < m + 1 → i ≠ k → f i < m := fun i hi hne => by
    have h1 := h.lt i hi
    have h2 : f i ≠ m := fun e => hne (h.inj i k hi (by omega) (e.trans hf.symm))
    omega
  have hv : ∀ i, i < m → f i ≠ f m := fun i hi e => by have := h.inj i m (by omega) (by omega) e; omega
  have hvm : f m < m := hlt m (by omega) (by omega)
  let a := invAt (cut f m k) k
  have ha : a = sn k fun i => bn (f m < f i) := by
    show sn k _ = _
    refine sn_congr fun i hi => ?_
    rw [cut_eq, cut_ne (by omega)]
  -- what turns, place by place
  have hpl : ∀ j, j < m → invAt f j + ((if j = k then a else 0) + (if k < j then bn (f j < f m) else 0)) = invAt (cut f m k) j + (if k < j then 1 else 0) := by
    intro j hj
    by_cases e1 : j < k
    · rw [if_neg (by omega), if_neg (by omega), if_neg (by omega)]
      have : invAt f j = invAt (cut f m k) j := by
        unfold invAt
        refine sn_congr fun i hi => ?_
        rw [cut_ne (by omega), cut_ne (by omega)]
      omega
    · by_cases e2 : j = k
      · subst e2
        rw [if_pos rfl, if_neg (by omega), if_neg (by omega)]
        have : invAt f j = 0 := by
          unfold invAt
          rw [sn_congr (g := fun _ => 0) fun i hi => by
            have := hlt i (by omega) (by omega)
            unfold bn; rw [if_neg (by omega)], sn_zero]
        show _ + (a + 0) = a + 0
        omega
      · rw [if_neg e2, if_pos (by omega), if_pos (by omega)]
        have hjm := hlt j (by omega) e2
        have := sn_turn (F := fun i => bn (f j < f i)) (G := fun i => bn (cut f m k j < cut f m k i)) (q := k) (n := j) (by omega) (fun i hi hne => by
          rw [cut_ne e2, cut_ne hne])
        rw [cut_ne e2, cut_eq, hf] at this
        have e3 : bn (f j < m) = 1 := if_pos hjm
        rw [e3] at this
        show invAt f j + (0 + bn (f j < f m)) = invAt (cut f m k) j + 1
        unfold invAt
        rw [show cut f m k j = f j from cut_ne e2]
        omega
  have hsum : sn m (invAt f) + (a + sn m fun j => if k < j then bn (f j < f m) else 0) = sn m (invAt (cut f m k)) + sn m fun j => if k < j then 1 else 0 := by
    have h1 := sn_congr hpl
    rw [sn_add, sn_add, sn_add, sn_single k a m hk] at h1
    exact h1
  -- the last place
  have hlast : invAt f m + (sn m fun j => if k < j then bn (f j < f m) else 0) = a + 1 + sn m fun j => if k < j then 1 else 0 := by
    have h1 : ∀ i, i < m → bn (f m < f i) + (if k < i then bn (f i < f m) else 0) = ((if i < k then bn (f m < f i) else 0) + (if i = k then 1 else 0)) + (if k < i then 1 else 0) := by
      intro i hi
      have := hv i hi
      by_cases e1 : i < k
      · rw [if_neg (by omega), if_pos e1, if_neg (by omega), if_neg (by omega)]
      · by_cases e2 : i = k
        · subst e2
          rw [if_neg (by omega), if_neg (by omega), if_pos rfl, if_neg (by omega), hf]
          unfold bn; rw [if_pos hvm]
        · rw [if_pos (by omega), if_neg e1, if_neg e2, if_pos (by omega)]
          unfold bn
          by_cases e3 : f m < f i
          · rw [if_pos e3, if_neg (by omega)]
          · rw [if_neg e3, if_pos (by omega)]
    have h2 := sn_congr h1
    rw [sn_add, sn_add, sn_add, sn_first k _ m (by omega), sn_single k 1 m hk, ← ha] at h2
    exact h2
  refine ⟨sn m fun j => if k < j then bn (f j < f m) else 0, sn m fun j => if k < j then 1 else 0, ?_⟩
  show sn m (invAt f) + invAt f m + 2 * _ = sn m (invAt (cut f m k)) + 2 * _ + 1
  omega

/-! ### Cycles -/
theorem on_cut (hk : k < m + 1) (hf : f k = m) {i j : Nat} (h : On (cut f m k) i j) : On f i j := by
  obtain ⟨t, rfl⟩ := h
  induction t with
  | zero => exact On.refl i
  | succ t ih =>
    refine ih.trans ?_
    show On f _ (cut f m k (it (cut f m k) t i))
    by_cases e : it (cut f m k) t i = k
    · rw [e, cut_eq]; exact ⟨2, by show f (f k) = f m; rw [hf]⟩
    · rw [cut_ne e]; exact ⟨1, rfl⟩
theorem cut_on (h : Pm f (m + 1)) (hk : k < m + 1) (hf : f k = m) {i : Nat} (hi : i < m) : ∀ t, (it f t i = m ∧ k < m ∧ On (cut f m k) i k) ∨ (it f t i < m ∧ On (cut f m k) i (it f t i))
  | 0 => .inr ⟨hi, On.refl i⟩
  | t + 1 => by
    show (f (it f t i) = m ∧ _) ∨ (f (it f t i) < m ∧ On _ i (f (it f t i)))
    rcases cut_on h hk hf hi t with ⟨h1, h2, h3⟩ | ⟨h1, h2⟩
    · right
      rw [h1]
      have hne : f m ≠ m := fun e => by have := h.inj m k (by omega) hk (e.trans hf.symm); omega
      have := h.lt m (by omega)
      refine ⟨by omega, h3.trans ⟨1, ?_⟩⟩
      show cut f m k k = f m
      exact cut_eq
    · by_cases e : it f t i = k
      · left
        rw [e] at h1 h2 ⊢
        exact ⟨hf, h1, h2⟩
      · right
        have h3 := h.lt _ (by omega : it f t i < m + 1)
        have h4 : f (it f t i) ≠ m := fun q => e (h.inj _ _ (by omega) hk (q.trans hf.symm))
        refine ⟨by omega, h2.trans ⟨1, ?_⟩⟩
        show cut f m k _ = _
        exact cut_ne e
theorem cut_min (h : Pm f (m + 1)) (hk : k < m + 1) (hf : f k = m) {i : Nat} (hi : i < m) : isMin f (m + 1) i = isMin (cut f m k) m i := by
  have hc := cut_pm h hk hf
  rw [Bool.eq_iff_iff, isMin_iff h (by omega), isMin_iff hc hi]
  constructor
  · intro hm j hj; exact hm j (on_cut hk hf hj)
  · rintro hm j ⟨t, rfl⟩
    rcases cut_on h hk hf hi t with ⟨h1, _, _⟩ | ⟨_, h2⟩
    · omega
    · exact hm _ h2
theorem clens_cut (h : Pm f (m + 1)) (hk : k < m + 1) (hf : f k = m) : ∀ i, i ≤ m → (clens f (m + 1) i).length = (clens (cut f m k) m i).length
  | 0, _ => rfl
  | i + 1, hi => by
    have ih := clens_cut h hk hf i (by omega)
    unfold clens
    rw [cut_min h hk hf (by omega)]
    split
    · simp [ih]
    · exact ih
end
/-- The two signs are one. -/
theorem sign_eq : ∀ (n : Nat) (f : Nat → Nat), Pm f n → (n + (clens f n n).length + inv f n) % 2 = 0
  | 0, f, _ => rfl
  | m + 1, f, h => by
    obtain ⟨k, hk, hf⟩ : ∃ k, k < m + 1 ∧ f k = m := by
      apply Classical.byContradiction
      intro hno
      have hnd : ((List.range (m + 1)).map f).Nodup := by
        rw [List.nodup_iff_pairwise_ne, List.pairwise_map]
        refine (List.Pairwise.and_mem.1 List.pairwise_lt_range).imp ?_
        rintro a b ⟨ha, hb, hab⟩ e
        simp only [List.mem_range] at ha hb
        have := h.inj a b ha hb e
        omega
      have := nodup_len hnd (q := List.range m) (fun x hx => by
        obtain ⟨t, ht, rfl⟩ := List.mem_map.1 hx
        simp only [List.mem_range] at ht ⊢
        have := h.lt t ht
        have h2 : f t ≠ m := fun e => hno ⟨t, ht, e⟩
        omega)
      simp at this
      omega
    have ih := sign_eq m (cut f m k) (cut_pm h hk hf)
    have hcc := clens_cut h hk hf m (Nat.le_refl _)
    by_cases e : k = m
    · subst e
      have hm : isMin f (k + 1) k = true := by
        rw [isMin_iff h (by omega)]
        rintro j ⟨t, rfl⟩
        have : ∀ t, it f t k = k := by
          intro t
          induction t with
          | zero => rfl
          | succ t ih => show f (it f t k) = k; rw [ih, hf]
        rw [this t]; omega
      have h1 : (clens f (k + 1) (k + 1)).length = (clens f (k + 1) k).length + 1 := by
        rw [clens, if_pos hm]; simp
      have h2 := inv_fix h hf
      omega
    · have hm : isMin f (m + 1) m ≠ true := by
        rw [Ne, isMin_iff h (by omega)]
        intro q
        have := q (f m) ⟨1, rfl⟩
        have h3 := h.lt m (by omega)
        have h4 : f m ≠ m := fun e2 => e (h.inj m k (by omega) hk (e2.trans hf.symm)).symm
        omega
      have h1 : (clens f (m + 1) (m + 1)).length = (clens f (m + 1) m).length := by
        rw [clens, if_neg hm]
      obtain ⟨C, D, h2⟩ := inv_move h (by omega) hf
      omega

theorem sn_bound {f : Nat → Nat} {B : Nat} : ∀ {n : Nat}, (∀ i, i < n → f i ≤ B) → sn n f ≤ n * B
  | 0, _ => by simp [sn]
  | n + 1, h => by
    show sn n f + f n ≤ (n + 1) * B
    have h1 := sn_bound (n := n) fun i hi => h i (by omega)
    have h2 := h n (by omega)
    rw [Nat.add_mul, Nat.one_mul]; omega
theorem bn_le (p : Prop) [Decidable p] : bn p ≤ 1 := by unfold bn; split <;> omega
theorem crossed_eq (F : Nat) (p : List Int) (hF : 40 ≤ F) (hg : GoodP p) (hl : p.length ≤ 10) : F19 F p = some ((inv (pf p) p.length : Nat) : Int) := by
  have hb1 : ∀ (f : Nat → Nat) (i : Nat), i ≤ 10 → ∀ j, sn i (fun i => bn (f j < f i)) ≤ 10 := fun f i hi j => by
    have := sn_bound (f := fun i => bn (f j < f i)) (B := 1) (n := i) fun q _ => bn_le _
    omega
  have hb2 : ∀ j, j ≤ 10 → sn j (invAt (pf p)) ≤ 100 := fun j hj => by
    have := sn_bound (f := invAt (pf p)) (B := 10) (n := j) fun q hq => hb1 _ q (by omega) q
    omega
  unfold F19
  have := iter_count (step := F19_l1 F p) (F := F) (fun j => (((sn j (invAt (pf p)) : Nat) : Int), (j : Int))) (b := ((inv (pf p) p.length : Nat) : Int)) p.length ?_ ?_ (by omega)
  · rw [show ((0 : Int), (0 : Int)) = (((sn 0 (invAt (pf p)) : Nat) : Int), ((0 : Nat) : Int)) from rfl, this, Option.bind_some]
  · intro j hj
    unfold F19_l1
    simp only
    have hj2 := hb2 j (by omega)
    have hin : iter (F19_l0 F p (((sn j (invAt (pf p)) : Nat) : Int), (j : Int))) F (((sn j (invAt (pf p)) : Nat) : Int), 0) = some ((sn (j + 1) (invAt (pf p)) : Nat) : Int) := by
      have h2 := iter_count (step := F19_l0 F p (((sn j (invAt (pf p)) : Nat) : Int), (j : Int))) (F := F) (fun i => (((sn j (invAt (pf p)) + sn i (fun i => bn (pf p j < pf p i)) : Nat) : Int), (i : Int))) (b := ((sn (j + 1) (invAt (pf p)) : Nat) : Int)) j ?_ ?_ (by omega)
      · exact h2
      · intro i hi
        have hi2 := hb1 (pf p) i (by omega) j
        unfold F19_l0
        simp only
        rw [if_pos (decide_eq_true (by omega)), at_pf hg (by omega), Option.bind_some, at_pf hg hj, Option.bind_some]
        have hs : sn (i + 1) (fun i => bn (pf p j < pf p i)) = sn i (fun i => bn (pf p j < pf p i)) + bn (pf p j < pf p i) := rfl
        by_cases hlt : pf p j < pf p i
        · have e : bn (pf p j < pf p i) = 1 := if_pos hlt
          rw [if_pos (decide_eq_true (by omega)), hs, e, wsuc (a := i) (by omega), wsuc (by omega)]
          rfl
        · have e : bn (pf p j < pf p i) = 0 := if_neg hlt
          rw [if_neg (by rw [decide_eq_true_eq]; omega), hs, e, wsuc (a := i) (by omega)]
          rfl
      · unfold F19_l0
        simp only
        rw [if_neg (by simp)]
        rfl
    rw [if_pos (decide_eq_true (by omega)), hin, Option.bind_some, wsuc (by omega)]
  · unfold F19_l1
    simp only
    rw [if_neg (by simp)]
    rfl
theorem sgn_eq (n c x : Nat) (hc : c ≤ n) (h : (n + c + x) % 2 = 0) : (Int.tmod ((n - c : Nat) : Int) 2 == 1) = (Int.tmod (x : Int) 2 == 1) := by
  rw [show (2 : Int) = ((2 : Nat) : Int) from rfl, tmod_nat, tmod_nat, show (n - c) % 2 = x % 2 from by omega]
theorem PpermSays.holds (t0 : List (Int)) (t1 : List (Int)) (h0 : (t0.length ≤ maxLen ∧ ∀ a ∈ t0, inR .i64 a)) (h1 : (t1.length ≤ maxLen ∧ ∀ a ∈ t1, inR .i64 a)) : ∃ F, F3 F t0 t1 = some true := by
  refine ⟨20000000000, ?_⟩
  have hF : 10000000100 ≤ 20000000000 := by decide
  generalize 20000000000 = F at hF
  unfold F3
  have hck := check_eq F t0 (by omega)
  have hck1 := check_eq F t1 (by omega)
  have hpe := permErr_eq F t0 (by omega)
  have hpe1 := permErr_eq F t1 (by omega)
  by_cases hz : permE t0 = 0
  · obtain ⟨hg, hl⟩ := good_permE hz
    have hpm := pf_pm hg
    obtain ⟨v, i1, i2, i3, i4⟩ := inverse_eq F t0 (by omega) hz
    obtain ⟨M, c1, c2, c3⟩ := cycles_eq F t0 (by omega) hz
    have hcl := clens_len (f := pf t0) (n := t0.length) t0.length
    have hMl : M.length = (clens (pf t0) t0.length t0.length).length := by rw [c3.length_eq, toI_len]
    have hMs : ∀ x ∈ M, 1 ≤ x ∧ x ≤ 10 := fun x hx => clens_small hg hl x (c3.mem_iff.1 hx)
    obtain ⟨R, o1, o2, o3, o4⟩ := order_eq F t0 M (by omega) c1 (by omega) hMs
    have hR : ∀ m, R ∣ m ↔ ∀ i, i < t0.length → it (pf t0) m i = i := by
      intro m
      rw [o4 m, power_id hpm m]
      constructor
      · intro q x hx
        have := q (x : Int) (c3.mem_iff.2 (List.mem_map.2 ⟨x, hx, rfl⟩))
        simpa using this
      · intro q x hx
        obtain ⟨y, hy, rfl⟩ := List.mem_map.1 (c3.mem_iff.1 hx)
        simpa using q y hy
    have ho := refOrder_eq F t0 R hg hl o2 o3 (by omega) hR
    have hx := crossed_eq F t0 (by omega) hg hl
    have hsg := sign_eq t0.length (pf t0) hpm
    have hs : F15 F t0 = some (if (Int.tmod ((inv (pf t0) t0.length : Nat) : Int) 2 == 1) = true then (-1, 0) else (1, 0)) := by
      unfold F15
      rw [c1, Option.bind_some, if_neg (by simp)]
      dsimp only
      rw [wsub (by omega) (by omega), hMl, sgn_eq _ _ (inv (pf t0) t0.length) hcl (by omega)]
      exact ite_some _ _
    have haf : F21 F v t0 = some (tb t0.length fun i => (i : Int)) := by
      rw [after_eq F v t0 (by omega) i3 (by omega) (fun x hx => by rw [i2]; exact hg.2 x hx) hl]
      congr 1
      exact tb_congr fun i hi => by rw [i4 i hi]
    obtain ⟨b, hb, hbi⟩ := isSorted_eq F t0.length (fun i => i) (by omega) (by omega)
    have hbt : b = true := hbi.2 fun i _ => by omega
    subst hbt
    have hpv := permErr_eq F v (by omega)
    rw [permE_good i3 (by omega)] at hpv
    -- Times
    obtain ⟨r1, t1e, ht⟩ : ∃ r1, F12 F t0 t1 = some r1 ∧ (((permE t1 ≠ 0) ∧ r1 = ([], permE t1)) ∨ (permE t1 = 0 ∧ t0.length ≠ t1.length ∧ r1 = ([], 1)) ∨ (permE t1 = 0 ∧ t0.length = t1.length ∧ r1 = (tb t1.length fun i => (pf t0 (pf t1 i) : Int), 0))) := by
      by_cases h2 : permE t1 = 0
      · by_cases h3 : t0.length = t1.length
        · exact ⟨_, times_eq F t0 t1 (by omega) hz h2 h3, .inr (.inr ⟨h2, h3, rfl⟩)⟩
        · refine ⟨([], 1), ?_, .inr (.inl ⟨h2, h3, rfl⟩)⟩
          unfold F12
          rw [hck, hz, Option.bind_some, if_neg (by decide), hck1, h2, Option.bind_some, if_neg (by decide), if_pos (by simp; omega)]
      · refine ⟨([], permE t1), ?_, .inl ⟨h2, rfl⟩⟩
        unfold F12
        rw [hck, hz, Option.bind_some, if_neg (by decide), hck1, Option.bind_some, if_pos (by simpa using h2)]
    rw [t1e, Option.bind_some, i1, Option.bind_some, c1, Option.bind_some, hs, Option.bind_some, o1, Option.bind_some, hpe, Option.bind_some, hck, Option.bind_some, if_neg (by simp), if_neg (by simpa using hz), hx, Option.bind_some]
    have hb49 : ((if ((Int.tmod ((inv (pf t0) t0.length : Nat) : Int) 2) == 1) then (some ((-1))) else some 1) : Option Int) = some (if (Int.tmod ((inv (pf t0) t0.length : Nat) : Int) 2 == 1) = true then (-1) else 1) := ite_some _ _
    rw [hb49, Option.bind_some, if_neg (by simp), hpv, Option.bind_some, Option.bind_some, if_neg (by simp [i2]), haf, Option.bind_some, hb, Option.bind_some, Option.bind_some, if_neg (by simp), c2, Option.bind_some, alike_eq F M M (by omega) (by omega), Option.bind_some, Option.bind_some, if_neg (by split <;> simp), ho, Option.bind_some, Option.bind_some, if_neg (by simp), hpe1, Option.bind_some]
    rcases ht with ⟨q1, rfl⟩ | ⟨q1, q2, rfl⟩ | ⟨q1, q2, rfl⟩
    · have e : (permE t1 == 0) = false := by simpa using q1
      rw [e, if_neg (by simp), Option.bind_some, if_pos (by simpa using q1)]
      simp
    · rw [q1, if_pos (by simp; omega), Option.bind_some, if_pos (by decide)]
      rfl
    · rw [q1, if_neg (by simp; omega), Option.bind_some, if_neg (by decide), if_pos (by simp)]
      obtain ⟨hg1, hl1⟩ := good_permE q1
      rw [after_eq F t0 t1 (by omega) hg hl (fun x hx => by rw [q2]; exact hg1.2 x hx) hl1, Option.bind_some, alike_eq F _ _ (by rw [tb_len]; omega) (by rw [tb_len]; omega), Option.bind_some, Option.bind_some]
      simp
  · have hne : (permE t0 != 0) = true := by simpa using hz
    have et : F12 F t0 t1 = some ([], permE t0) := by unfold F12; rw [hck, Option.bind_some, if_pos hne]
    have ei : F13 F t0 = some ([], permE t0) := by unfold F13; rw [hck, Option.bind_some, if_pos hne]
    have ec : F14 F t0 = some ([], permE t0) := by unfold F14; rw [hck, Option.bind_some, if_pos hne]
    have es : F15 F t0 = some (0, permE t0) := by unfold F15; rw [ec, Option.bind_some, if_pos hne]
    have eo : F16 F t0 = some (0, permE t0) := by unfold F16; rw [ec, Option.bind_some, if_pos hne]
    rw [et, Option.bind_some, ei, Option.bind_some, ec, Option.bind_some, es, Option.bind_some, eo, Option.bind_some, hpe, Option.bind_some, hck, Option.bind_some, if_neg (by simp), if_pos hne]
    simp only [beq_self_eq_true, Bool.true_and, List.length_nil, Bool.and_true]
    rfl
end Go.Proofs.Ytdfalejlhkalhaa

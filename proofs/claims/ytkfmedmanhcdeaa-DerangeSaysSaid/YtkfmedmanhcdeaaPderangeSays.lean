/- What the functional texts of package derange answer. -/
import Derived.Test.YtkfmedmanhcdeaaPermLib
import Derived.Test.YtkfmedmanhcdeaaMono
import Derived.KernelRfl
set_option linter.unusedVariables false
set_option linter.unusedSimpArgs false
namespace Go.Proofs.Ytkfmedmanhcdeaa
open Go.Am

/-- Counting fixed places. -/
def ownC (p : List Int) : Nat → Nat
  | 0 => 0
  | i + 1 => ownC p i + (if p[i]? = some (i : Int) then 1 else 0)
theorem ownC_le (p : List Int) : ∀ i, ownC p i ≤ i
  | 0 => Nat.le_refl _
  | i + 1 => by have := ownC_le p i; simp only [ownC]; split <;> omega

theorem lawLoop_eq (F : Nat) (p : List Int) (hF : p.length < F) (hl : p.length ≤ 9223372036854775807) : iter (F7_l0 F p) F (0, 0) = some ((ownC p p.length : Nat) : Int) := by
  refine iter_count (step := F7_l0 F p) (fun i => (((ownC p i : Nat) : Int), (i : Int))) p.length ?_ ?_ hF
  · intro i hi
    unfold F7_l0
    simp only
    have := ownC_le p i
    rw [if_pos (decide_eq_true (by omega)), at?_in hi]
    simp only [Option.bind_some, ownC, List.getElem?_eq_getElem hi, Option.some.injEq]
    by_cases e : p[i] = (i : Int)
    · rw [if_pos (by simpa using e), if_pos e, w64 (by omega) (by omega), w64 (by omega) (by omega)]; rfl
    · rw [if_neg (by simpa using e), if_neg e, w64 (by omega) (by omega)]; rfl
  · unfold F7_l0
    simp only
    rw [if_neg (by rw [decide_eq_true_eq]; omega)]
theorem own_eq (F : Nat) (p : List Int) (hF : 12 ≤ F) : ∃ r, F37 F p = some r ∧ r.2 = permE p ∧ (permE p ≠ 0 → r.1 = 0) ∧ (permE p = 0 → r.1 = ((ownC p p.length : Nat) : Int)) := by
  unfold F37
  rw [check_eq F p hF]
  simp only [Option.bind_some]
  by_cases h : permE p = 0
  · rw [h, if_neg (by simp)]
    have hl : p.length ≤ 10 := by
      unfold permE at h
      split at h
      · cases h
      · omega
    have := iter_count (step := F37_l0 F p) (F := F) (fun i => (((ownC p i : Nat) : Int), (i : Int))) (b := ((ownC p p.length : Nat) : Int)) p.length ?_ ?_ (by omega)
    · rw [show ((0 : Int), (0 : Int)) = ((((ownC p 0 : Nat) : Int)), ((0 : Nat) : Int)) from rfl, this]
      exact ⟨_, rfl, rfl, fun h => (h rfl).elim, fun _ => rfl⟩
    · intro i hi
      unfold F37_l0
      simp only
      have := ownC_le p i
      rw [if_pos (decide_eq_true (by omega)), at?_in hi]
      simp only [Option.bind_some, ownC, List.getElem?_eq_getElem hi, Option.some.injEq]
      by_cases e : p[i] = (i : Int)
      · rw [if_pos (by simpa using e.symm), if_pos e, w64 (by omega) (by omega), w64 (by omega) (by omega)]; rfl
      · rw [if_neg (by simpa using fun h => e h.symm), if_neg e, w64 (by omega) (by omega)]; rfl
    · unfold F37_l0
      simp only
      rw [if_neg (by rw [decide_eq_true_eq]; omega)]
  · rw [if_pos (by simpa using h)]
    exact ⟨_, rfl, rfl, fun _ => rfl, fun e => (h e).elim⟩

def chkD (n : Nat) : Bool := match F35 300 n, F39 300 n with
  | some r, some x => r.2 == 0 && r.1 == x
  | _, _ => false
theorem chkD_ok : (List.range 16).all chkD = true := by kernel_rfl
def chkF (n k : Nat) : Bool := match F36 300 n k with
  | some r => r.2 == 0 && (if n < k then r.1 == 0 else match F33 300 n k, F35 300 ((n - k : Nat) : Int) with
    | some c, some d => r.1 == wrapA .i64 (c * d.1)
    | _, _ => false)
  | none => false
theorem chkF_ok : ((List.range 16).all fun n => (List.range 16).all fun k => chkF n k) = true := by kernel_rfl

theorem count_in (n : Nat) (hn : n < 16) : ∃ x, F35 300 n = some (x, 0) ∧ F39 300 n = some x := by
  have h := (List.all_eq_true.1 chkD_ok) n (by simpa using hn)
  unfold chkD at h
  split at h
  · rename_i r x h1 h2
    simp only [Bool.and_eq_true, beq_iff_eq] at h
    obtain ⟨a, b⟩ := r
    simp only at h
    rw [h.1, h.2] at h1
    exact ⟨x, h1, h2⟩
  · cases h
theorem fixed_in (n k : Nat) (hn : n < 16) (hk : k < 16) : (n < k ∧ F36 300 n k = some (0, 0)) ∨ (k ≤ n ∧ ∃ c x, F33 300 n k = some c ∧ F39 300 ((n - k : Nat) : Int) = some x ∧ F36 300 n k = some (wrapA .i64 (c * x), 0)) := by
  have h := (List.all_eq_true.1 ((List.all_eq_true.1 chkF_ok) n (by simpa using hn))) k (by simpa using hk)
  unfold chkF at h
  split at h
  · rename_i r h1
    obtain ⟨a, b⟩ := r
    simp only [Bool.and_eq_true, beq_iff_eq] at h
    obtain ⟨rfl, h⟩ := h
    by_cases hlt : n < k
    · rw [if_pos hlt, beq_iff_eq] at h
      exact .inl ⟨hlt, by rw [h1, h]⟩
    · rw [if_neg hlt] at h
      split at h
      · rename_i c d h2 h3
        obtain ⟨x, h4, h5⟩ := count_in (n - k) (by omega)
        rw [h4] at h3
        cases h3
        rw [beq_iff_eq] at h
        exact .inr ⟨by omega, c, x, h2, h5, by rw [h1, h]⟩
      · cases h
  · cases h

theorem PderangeSays.holds (t0 : Int) (t1 : Int) (t2 : List (Int)) (h0 : inR .i64 t0) (h1 : inR .i64 t1) (h2 : (t2.length ≤ maxLen ∧ ∀ a ∈ t2, inR .i64 a)) : ∃ F, F7 F t0 t1 t2 = some true := by
  have h0 := inR64 h0
  have h1 := inR64 h1
  have hlen : t2.length ≤ 9223372036854775807 := h2.1
  refine ⟨t2.length + 300, ?_⟩
  generalize hFd : t2.length + 300 = F
  have hF : 300 ≤ F := by omega
  obtain ⟨r9, e9, q1, q2, q3⟩ := own_eq F t2 (by omega)
  have e13 := permErr_eq F t2 (by omega)
  have e26 := lawLoop_eq F t2 (by omega) hlen
  unfold F7
  have hr9 : (((r9.2 != permE t2) || ((permE t2 != 0) && (r9.1 != 0))) || ((permE t2 == 0) && (r9.1 != ((ownC t2 t2.length : Nat) : Int)))) = false := by
    by_cases h : permE t2 = 0
    · simp [q1, h, q3 h]
    · simp [q1, h, q2 h]
  by_cases hn : t0 < 0 ∨ t0 > 15
  · have e1 : F35 F t0 = some (0, 1) := by unfold F35; rw [if_pos (by simpa using hn)]
    have e5 : F36 F t0 t1 = some (0, 1) := by unfold F36; rw [if_pos (by simp; omega)]
    rw [e1, e5, e9, e13, e26]
    simp only [Option.bind_some]
    rw [if_neg (by rw [hr9]; decide), if_pos (by simpa using hn)]
    rfl
  · obtain ⟨n, rfl⟩ : ∃ n : Nat, t0 = n := ⟨t0.toNat, by omega⟩
    obtain ⟨x, c1, c2⟩ := count_in n (by omega)
    have e1 := (F35_le hF _).up _ c1
    have e40 := (F39_le hF _).up _ c2
    by_cases hk : t1 < 0 ∨ t1 > 15
    · have e5 : F36 F n t1 = some (0, 1) := by unfold F36; rw [if_pos (by simp; omega)]
      rw [e1, e5, e9, e13, e26, e40]
      simp only [Option.bind_some]
      rw [if_neg (by rw [hr9]; decide), if_neg (by simp; omega)]
      simp only [bne_self_eq_false, Bool.false_eq_true, if_false, Option.bind_some]
      rw [if_pos (by simpa using hk)]
      rfl
    · obtain ⟨k, rfl⟩ : ∃ k : Nat, t1 = k := ⟨t1.toNat, by omega⟩
      rcases fixed_in n k (by omega) (by omega) with ⟨hlt, c3⟩ | ⟨hle, c, y, c3, c4, c5⟩
      · have e5 := (F36_le hF _ _).up _ c3
        rw [e1, e5, e9, e13, e26, e40]
        simp only [Option.bind_some]
        rw [if_neg (by rw [hr9]; decide), if_neg (by simp; omega)]
        simp only [bne_self_eq_false, Bool.false_eq_true, if_false, Option.bind_some]
        rw [if_neg (by simp; omega), if_pos (decide_eq_true (by omega))]
        rfl
      · have e5 := (F36_le hF _ _).up _ c5
        have e55 := (F33_le hF _ _).up _ c3
        have e59 := (F39_le hF _).up _ c4
        rw [e1, e5, e9, e13, e26, e40]
        simp only [Option.bind_some]
        rw [if_neg (by rw [hr9]; decide), if_neg (by simp; omega)]
        simp only [bne_self_eq_false, Bool.false_eq_true, if_false, Option.bind_some]
        rw [if_neg (by simp; omega), if_neg (by rw [decide_eq_true_eq]; omega), e55, w64 (by omega) (by omega), show (n : Int) - (k : Int) = ((n - k : Nat) : Int) from by omega, e59]
        simp
end Go.Proofs.Ytkfmedmanhcdeaa

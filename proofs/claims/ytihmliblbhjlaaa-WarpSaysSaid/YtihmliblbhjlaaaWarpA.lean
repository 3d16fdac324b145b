/- What the parts of package warp and of its reference answer. -/
import Derived.Test.YtihmliblbhjlaaaDef
import Derived.Test.YtihmliblbhjlaaaPureC
set_option linter.unusedVariables false
set_option linter.unusedSimpArgs false
namespace Go.Proofs.Ytihmliblbhjlaaa
open Go.Am

abbrev WT := (Int × Int × Bool × Bool) × Int
def wd : WT := ((0, 0, false, false), 0)
def wth (y : WT) : Bool := y.1.2.2.1
def wkey (y : WT) : Int := if y.1.2.2.2 = true then wrapA .i64 (y.2 - y.1.2.1) else y.2
def wthere (y : WT) (b : Bool) : WT := ((y.1.1, y.1.2.1, b, y.1.2.2.2), y.2)
def wahead (y : WT) (b : Bool) : WT := ((y.1.1, y.1.2.1, y.1.2.2.1, b), y.2)
def others (A : List WT) : List Int := (A.filter wth).map (·.2)
def minL : List Int → Int
  | [] => 0
  | x :: xs => xs.foldl minI x
theorem minL_snoc {L : List Int} (h : L ≠ []) (a : Int) : minL (L ++ [a]) = minI (minL L) a := by
  cases L with
  | nil => exact (h rfl).elim
  | cons x xs => simp [minL, List.foldl_append]
theorem take_nx {α : Type} {d : α} {A : List α} {k : Nat} (hk : k < A.length) : A.take (k + 1) = A.take k ++ [nx d A k] := by
  rw [List.take_add_one, List.getElem?_eq_getElem hk, nx_eq hk]; rfl
theorem others_succ {A : List WT} {k : Nat} (hk : k < A.length) : others (A.take (k + 1)) = others (A.take k) ++ (if wth (nx wd A k) = true then [(nx wd A k).2] else []) := by
  rw [take_nx (d := wd) hk]
  unfold others
  rw [List.filter_append, List.map_append]
  congr 1
  by_cases h : wth (nx wd A k) = true
  · rw [if_pos h]; simp [List.filter, h]
  · rw [if_neg h]; simp [List.filter, h]

/-- The least of those that are there. -/
theorem least_loop (F : Nat) (A : List WT) (hn : A.length ≤ 8) (hF : 300 ≤ F) : iter (F96_l0 F A) F (0, false, 0) = some (minL (others A), !(others A).isEmpty) := by
  have := iter_count (step := F96_l0 F A) (F := F) (P := fun k => (minL (others (A.take k)), !(others (A.take k)).isEmpty, (k : Int))) (b := (minL (others A), !(others A).isEmpty)) A.length (fun k hk => by
    unfold F96_l0
    simp only
    rw [if_pos (decide_eq_true (by omega)), nx_get (d := wd) hk, Option.bind_some, wsuc (by omega), others_succ hk]
    have e : (nx wd A k).1.2.2.1 = wth (nx wd A k) := rfl
    rw [e]
    generalize nx wd A k = y
    generalize others (A.take k) = L
    cases hy : wth y
    · simp
    · simp only [Bool.true_and, if_true]
      cases L with
      | nil => simp [minL]
      | cons x xs =>
        rw [minL_snoc (by simp)]
        simp only [List.isEmpty_cons, Bool.not_false, Bool.not_true, Bool.false_or]
        unfold minI
        by_cases q : y.2 < minL (x :: xs)
        · rw [if_pos (decide_eq_true q), if_pos q]; simp
        · rw [if_neg (by rw [decide_eq_true_eq]; exact q), if_neg q]; simp) (by
    unfold F96_l0
    simp only
    rw [if_neg (by rw [decide_eq_true_eq]; omega), List.take_length]) (by omega)
  exact this
theorem others_loop (F : Nat) (A : List WT) (z : Int) (hn : A.length ≤ 8) (hF : 300 ≤ F) : iter (F25_l0 F (z, A.map (·.1), A.map (·.2))) F ([], 0) = some (others A) := by
  have := iter_count (step := F25_l0 F (z, A.map (·.1), A.map (·.2))) (F := F) (P := fun k => (others (A.take k), (k : Int))) (b := others A) A.length (fun k hk => by
    unfold F25_l0
    have hl : (others (A.take k)).length ≤ 8 := by
      unfold others
      rw [List.length_map]
      exact Nat.le_trans (List.length_filter_le _ _) (by rw [List.length_take]; omega)
    have g1 : at? (A.map (·.1)) (k : Int) = some (nx wd A k).1 := by
      rw [at?_in (by simpa using hk), nx_eq hk]; simp
    have g2 : at? (A.map (·.2)) (k : Int) = some (nx wd A k).2 := by
      rw [at?_in (by simpa using hk), nx_eq hk]; simp
    simp only
    rw [if_pos (decide_eq_true (by simp; omega)), g1, g2, Option.bind_some, Option.bind_some, wsuc (by omega), others_succ hk]
    have e : (nx wd A k).1.2.2.1 = wth (nx wd A k) := rfl
    rw [e]
    by_cases hy : wth (nx wd A k) = true
    · rw [if_pos hy, if_pos hy, app?_ok (by simp; omega), Option.bind_some]
    · rw [if_neg hy, if_neg hy, List.append_nil]) (by
    unfold F25_l0
    simp only
    rw [if_neg (by rw [decide_eq_true_eq]; simp), List.take_length]) (by omega)
  exact this
theorem min_loop (F : Nat) (L : List Int) (h : L ≠ []) (hn : L.length ≤ 8) (hF : 300 ≤ F) : F99 F L = some (minL L) := by
  unfold F99
  have hp : 0 < L.length := List.length_pos_iff.2 h
  rw [if_neg (by rw [decide_eq_true_eq]; omega), Option.bind_some, show (0 : Int) = ((0 : Nat) : Int) from rfl, nx_get (d := 0) hp, Option.bind_some]
  have := iter_count (step := F99_l0 F L) (F := F) (P := fun k => (minL (L.take (k + 1)), ((k + 1 : Nat) : Int))) (b := minL L) (L.length - 1) (fun k hk => by
    unfold F99_l0
    simp only
    rw [if_pos (decide_eq_true (by omega)), nx_get (d := 0) (by omega : k + 1 < L.length), Option.bind_some, wsuc (by omega), take_nx (d := (0 : Int)) (by omega : k + 1 < L.length), minL_snoc (by
      intro h
      have := congrArg List.length h
      rw [List.length_take, List.length_nil] at this
      omega)]) (by
    unfold F99_l0
    simp only
    rw [if_neg (by rw [decide_eq_true_eq]; omega), List.take_of_length_le (by omega)]) (by omega)
  rw [show minL (L.take (0 + 1)) = nx 0 L 0 from by
    cases L with
    | nil => exact (h rfl).elim
    | cons x xs => rfl] at this
  rw [show (1 : Int) = ((0 + 1 : Nat) : Int) from rfl, this]
  rfl

/-! ### A turn -/
def turnA (A : List WT) (x : Int × Int × Int) : List WT :=
  let i := x.2.1.toNat
  let y := nx wd A i
  if x.2.2 = 1 then A.set i (wthere y false)
  else if x.2.2 = 2 then (if wth y = true then A else A.set i (wthere (if others A = [] then y else (y.1, maxI y.2 (minL (others A)))) true))
  else if x.2.2 = 3 then A.set i (wahead y true)
  else if x.2.2 = 4 then A.set i (wahead y false)
  else A
theorem turnA_len (A : List WT) (x : Int × Int × Int) : (turnA A x).length = A.length := by
  unfold turnA
  simp only
  split
  · simp
  · split
    · split <;> simp
    · split
      · simp
      · split <;> simp
theorem set_nx {α : Type} {d : α} {A : List α} {i : Nat} (h : i < A.length) : A.set i (nx d A i) = A := by
  rw [nx_eq h]; exact List.set_getElem_self h
theorem turn_eq (F : Nat) (A : List WT) (x : Int × Int × Int) (hn : A.length ≤ 8) (hF : 300 ≤ F) (h1 : 0 ≤ x.2.1) (h2 : x.2.1 < A.length) : F96 F A x = some (turnA A x) := by
  obtain ⟨a, w, k⟩ := x
  simp only at h1 h2
  obtain ⟨i, rfl⟩ := Int.eq_ofNat_of_zero_le h1
  have hi : i < A.length := by omega
  unfold F96 turnA
  simp only [Int.toNat_natCast]
  rw [ck_ok hi, Option.bind_some]
  by_cases k1 : k = 1
  · rw [if_pos (by simpa using k1), if_pos k1, nx_get (d := wd) hi]; rfl
  rw [if_neg (by simpa using k1), if_neg k1]
  by_cases k2 : k = 2
  · rw [if_pos (by simpa using k2), if_pos k2, nx_get (d := wd) hi, Option.bind_some, least_loop F A hn hF]
    have e : (nx wd A i).1.2.2.1 = wth (nx wd A i) := rfl
    rw [e]
    by_cases hy : wth (nx wd A i) = true
    · rw [if_pos hy, if_pos hy]
    · rw [if_neg hy, if_neg hy]
      simp only [Option.bind_some]
      by_cases ho : others A = []
      · rw [if_neg (by simp [ho]), if_pos ho]; rfl
      · rw [if_pos (by simp [ho]), if_neg ho, ck_ok (by simpa using hi), Option.bind_some, at?_in (by simpa using hi)]
        simp only [Option.bind_some, List.getElem_set_self, List.set_set]
        rfl
  rw [if_neg (by simpa using k2), if_neg k2]
  by_cases k3 : k = 3
  · rw [if_pos (by simpa using k3), if_pos k3, nx_get (d := wd) hi]; rfl
  rw [if_neg (by simpa using k3), if_neg k3]
  by_cases k4 : k = 4
  · rw [if_pos (by simpa using k4), if_pos k4, nx_get (d := wd) hi]; rfl
  rw [if_neg (by simpa using k4), if_neg k4]

/-! ### Who is next -/
def Best (A : List WT) (lo hi : Nat) (r : Int) : Prop :=
  (r = -1 ∧ ∀ j, lo ≤ j → j < hi → wth (nx wd A j) = false) ∨ ∃ i : Nat, r = (i : Int) ∧ lo ≤ i ∧ i < hi ∧ wth (nx wd A i) = true ∧ ∀ j, lo ≤ j → j < hi → wth (nx wd A j) = true → wkey (nx wd A i) ≤ wkey (nx wd A j) ∧ (j < i → wkey (nx wd A i) < wkey (nx wd A j))
theorem Best.uniq {A : List WT} {lo hi : Nat} {r r' : Int} (h : Best A lo hi r) (h' : Best A lo hi r') : r = r' := by
  rcases h with ⟨rfl, h⟩ | ⟨i, rfl, a1, a2, a3, a4⟩
  · rcases h' with ⟨rfl, h'⟩ | ⟨i', rfl, b1, b2, b3, b4⟩
    · rfl
    · rw [h i' b1 b2] at b3; cases b3
  · rcases h' with ⟨rfl, h'⟩ | ⟨i', rfl, b1, b2, b3, b4⟩
    · rw [h' i a1 a2] at a3; cases a3
    · have q1 := a4 i' b1 b2 b3
      have q2 := b4 i a1 a2 a3
      rcases Nat.lt_trichotomy i i' with q | q | q
      · have := q2.2 q; omega
      · rw [q]
      · have := q1.2 q; omega
def fb (A : List WT) : Nat → Int × Int
  | 0 => (-1, 0)
  | k + 1 => if wth (nx wd A k) = true then (if (fb A k).1 < 0 ∨ wkey (nx wd A k) < (fb A k).2 then ((k : Int), wkey (nx wd A k)) else fb A k) else fb A k
def bestA (A : List WT) : Int := (fb A A.length).1
theorem fb_best (A : List WT) : ∀ k, Best A 0 k (fb A k).1 ∧ (0 ≤ (fb A k).1 → (fb A k).2 = wkey (nx wd A (fb A k).1.toNat))
  | 0 => ⟨.inl ⟨rfl, fun j _ h => by omega⟩, fun h => by simp [fb] at h⟩
  | k + 1 => by
    obtain ⟨h1, h2⟩ := fb_best A k
    unfold fb
    by_cases hy : wth (nx wd A k) = true
    · rw [if_pos hy]
      by_cases hc : (fb A k).1 < 0 ∨ wkey (nx wd A k) < (fb A k).2
      · rw [if_pos hc]
        refine ⟨.inr ⟨k, rfl, by omega, by omega, hy, fun j _ hj hjy => ?_⟩, fun _ => by simp⟩
        rcases h1 with ⟨e, h⟩ | ⟨i, e, a1, a2, a3, a4⟩
        · by_cases q : j < k
          · rw [h j (by omega) q] at hjy; cases hjy
          · rw [show j = k from by omega]; exact ⟨Int.le_refl _, fun q => by omega⟩
        · rw [e] at h2 hc
          have h2 := h2 (by omega)
          rw [Int.toNat_natCast] at h2
          by_cases q : j < k
          · have := a4 j (by omega) q hjy
            omega
          · rw [show j = k from by omega]; exact ⟨Int.le_refl _, fun q => by omega⟩
      · rw [if_neg hc]
        refine ⟨?_, h2⟩
        rcases h1 with ⟨e, h⟩ | ⟨i, e, a1, a2, a3, a4⟩
        · omega
        · have h2 := h2 (by omega)
          rw [e, Int.toNat_natCast] at h2
          refine .inr ⟨i, e, a1, by omega, a3, fun j hj0 hj hjy => ?_⟩
          by_cases q : j < k
          · exact a4 j hj0 q hjy
          · rw [show j = k from by omega]; omega
    · rw [if_neg hy]
      refine ⟨?_, h2⟩
      rcases h1 with ⟨e, h⟩ | ⟨i, e, a1, a2, a3, a4⟩
      · refine .inl ⟨e, fun j hj0 hj => ?_⟩
        by_cases q : j < k
        · exact h j hj0 q
        · rw [show j = k from by omega]; simpa using hy
      · refine .inr ⟨i, e, a1, by omega, a3, fun j hj0 hj hjy => ?_⟩
        by_cases q : j < k
        · exact a4 j hj0 q hjy
        · rw [show j = k from by omega] at hjy; exact (hy hjy).elim
theorem next_eq (F : Nat) (A : List WT) (hn : A.length ≤ 8) (hF : 300 ≤ F) : F97 F A = some (bestA A) := by
  unfold F97
  have := iter_count (step := F97_l0 F A) (F := F) (P := fun k => ((fb A k).1, (fb A k).2, (k : Int))) (b := bestA A) A.length (fun k hk => by
    unfold F97_l0
    simp only
    rw [if_pos (decide_eq_true (by omega)), nx_get (d := wd) hk, Option.bind_some, wsuc (by omega), fb]
    have e : (nx wd A k).1.2.2.1 = wth (nx wd A k) := rfl
    rw [e]
    by_cases hy : wth (nx wd A k) = true
    · rw [if_neg (by simp [hy]), if_pos hy]
      have ek : ((if (nx wd A k).1.2.2.2 = true then some (wrapA .i64 ((nx wd A k).2 - (nx wd A k).1.2.1)) else some (nx wd A k).2 : Option Int)) = some (wkey (nx wd A k)) := by
        unfold wkey; split <;> rfl
      rw [ek]
      simp only [Option.bind_some]
      by_cases hc : (fb A k).1 < 0 ∨ wkey (nx wd A k) < (fb A k).2
      · rw [if_pos hc, if_pos (by simpa using hc)]
      · rw [if_neg hc, if_neg (by simpa using hc)]
    · rw [if_pos (by simp [hy]), if_neg hy]) (by
    unfold F97_l0
    simp only
    rw [if_neg (by rw [decide_eq_true_eq]; omega)]; rfl) (by omega)
  rw [show ((-1, 0, 0) : Int × Int × Int) = (fun k : Nat => ((fb A k).1, (fb A k).2, (k : Int))) 0 from rfl, this]
  rfl
theorem at_fst {A : List WT} {k : Nat} (hk : k < A.length) : at? (A.map (·.1)) (k : Int) = some (nx wd A k).1 := by
  rw [at?_in (by simpa using hk), nx_eq hk]; simp
theorem at_snd {A : List WT} {k : Nat} (hk : k < A.length) : at? (A.map (·.2)) (k : Int) = some (nx wd A k).2 := by
  rw [at?_in (by simpa using hk), nx_eq hk]; simp
theorem by_eq (F : Nat) (A : List WT) {k : Nat} (hk : k < A.length) : F100 F (k : Int) (A.map (·.1)) (A.map (·.2)) = some (wkey (nx wd A k)) := by
  unfold F100 wkey
  rw [at_fst hk, at_snd hk]
  simp only [Option.bind_some]
  split <;> rfl
theorem best_loop (F : Nat) (A : List WT) (hn : A.length ≤ 8) (hF : 300 ≤ F) : iter (F25_l2 F (A.map (·.1), A.map (·.2))) F (-1, (A.length : Int) - 1) = some (bestA A) := by
  obtain ⟨b, e, hb⟩ := iter_inv (step := F25_l2 F (A.map (·.1), A.map (·.2))) (I := fun s : Int × Int => ∃ m : Nat, m ≤ A.length ∧ s.2 = (m : Int) - 1 ∧ Best A m A.length s.1) (μ := fun s => (s.2 + 1).toNat) (Q := fun b => Best A 0 A.length b) (by
    rintro ⟨r, j⟩ ⟨m, hm, rfl, hB⟩
    simp only at hB
    unfold F25_l2
    simp only
    by_cases h0 : m = 0
    · right
      subst h0
      rw [if_neg (by rw [decide_eq_true_eq]; omega)]
      exact ⟨_, rfl, hB⟩
    · left
      obtain ⟨k, rfl⟩ : ∃ k, m = k + 1 := ⟨m - 1, by omega⟩
      have hk : k < A.length := by omega
      rw [show ((k + 1 : Nat) : Int) - 1 = (k : Int) from by omega, if_pos (decide_eq_true (by omega)), at_fst hk, Option.bind_some, w64 (a := (k : Int) - 1) (by omega) (by omega)]
      have e : (nx wd A k).1.2.2.1 = wth (nx wd A k) := rfl
      rw [e]
      by_cases hy : wth (nx wd A k) = true
      · rw [if_pos hy]
        rcases hB with ⟨rfl, h⟩ | ⟨i, rfl, a1, a2, a3, a4⟩
        · rw [if_pos (decide_eq_true (by omega))]
          simp only [Option.bind_some, if_true]
          refine ⟨_, rfl, ⟨k, by omega, by simp, .inr ⟨k, rfl, by omega, hk, hy, fun j hj0 hj hjy => ?_⟩⟩, by simp only; omega⟩
          by_cases q : j = k
          · rw [q]; exact ⟨Int.le_refl _, fun q => by omega⟩
          · rw [h j (by omega) hj] at hjy; cases hjy
        · rw [if_neg (by rw [decide_eq_true_eq]; omega), by_eq F A hk, by_eq F A a2]
          simp only [Option.bind_some]
          by_cases hc : wkey (nx wd A k) ≤ wkey (nx wd A i)
          · rw [if_pos (decide_eq_true hc)]
            refine ⟨_, rfl, ⟨k, by omega, by simp, .inr ⟨k, rfl, by omega, hk, hy, fun j hj0 hj hjy => ?_⟩⟩, by simp only; omega⟩
            by_cases q : j = k
            · rw [q]; exact ⟨Int.le_refl _, fun q => by omega⟩
            · have := a4 j (by omega) hj hjy
              exact ⟨by omega, fun q => by omega⟩
          · rw [if_neg (by rw [decide_eq_true_eq]; exact hc)]
            refine ⟨_, rfl, ⟨k, by omega, by simp, .inr ⟨i, rfl, by omega, a2, a3, fun j hj0 hj hjy => ?_⟩⟩, by simp only; omega⟩
            by_cases q : j = k
            · rw [q]; exact ⟨by omega, fun _ => by omega⟩
            · exact a4 j (by omega) hj hjy
      · rw [if_neg hy]
        simp only [Option.bind_some]
        rw [if_neg (by decide)]
        refine ⟨_, rfl, ⟨k, by omega, by simp, ?_⟩, by simp only; omega⟩
        rcases hB with ⟨rfl, h⟩ | ⟨i, rfl, a1, a2, a3, a4⟩
        · refine .inl ⟨rfl, fun j hj0 hj => ?_⟩
          by_cases q : j = k
          · rw [q]; simpa using hy
          · exact h j (by omega) hj
        · refine .inr ⟨i, rfl, by omega, a2, a3, fun j hj0 hj hjy => ?_⟩
          by_cases q : j = k
          · rw [q] at hjy; exact (hy hjy).elim
          · exact a4 j (by omega) hj hjy) F (-1, (A.length : Int) - 1) ⟨A.length, Nat.le_refl _, rfl, .inl ⟨rfl, fun j h1 h2 => by omega⟩⟩ (by simp only; omega)
  rw [e, hb.uniq (fb_best A A.length).1]; rfl
end Go.Proofs.Ytihmliblbhjlaaa

/- The rank of a permutation: plain mathematics, and castref.RankOf. -/
import Derived.Test.YtdkmepeolmdccaaPermLib
import Derived.Test.YtdkmepeolmdccaaPureC
set_option linter.unusedVariables false
set_option linter.unusedSimpArgs false
namespace Go.Proofs.Ytdkmepeolmdccaa
open Go.Am

def fac : Nat → Nat
  | 0 => 1
  | n + 1 => (n + 1) * fac n
theorem fac_pos : ∀ n, 0 < fac n
  | 0 => by decide
  | n + 1 => Nat.mul_pos (by omega) (fac_pos n)
theorem fac_le : ∀ n, n ≤ 10 → fac n ≤ 3628800 := by
  intro n hn
  have h : (List.range 11).all (fun n => decide (fac n ≤ 3628800)) = true := by decide
  simp only [List.all_eq_true, List.mem_range, decide_eq_true_eq] at h
  exact h n (by omega)
/-- How many of L are below x. -/
def cnt (x : Int) (L : List Int) : Nat := L.countP (fun y => decide (y < x))
theorem cnt_le (x : Int) (L : List Int) : cnt x L ≤ L.length := List.countP_le_length
theorem cnt_perm {x : Int} {L M : List Int} (h : L.Perm M) : cnt x L = cnt x M := h.countP_eq _
theorem cnt_app (x : Int) (L M : List Int) : cnt x (L ++ M) = cnt x L + cnt x M := List.countP_append
theorem cnt_all {x : Int} {L : List Int} (h : ∀ y ∈ L, y < x) : cnt x L = L.length := List.countP_eq_length.2 fun y hy => by simpa using h y hy
theorem cnt_none {x : Int} {L : List Int} (h : ∀ y ∈ L, x ≤ y) : cnt x L = 0 := List.countP_eq_zero.2 fun y hy => by simpa using h y hy
theorem cnt_cons (x y : Int) (L : List Int) : cnt x (y :: L) = cnt x L + if y < x then 1 else 0 := by
  unfold cnt; rw [List.countP_cons]; simp
def rk : List Int → Nat
  | [] => 0
  | x :: L => cnt x L * fac L.length + rk L
theorem rk_lt : ∀ L : List Int, rk L < fac L.length
  | [] => by decide
  | x :: L => by
    have h1 := rk_lt L
    have h2 : cnt x L * fac L.length ≤ L.length * fac L.length := Nat.mul_le_mul_right _ (cnt_le x L)
    show cnt x L * fac L.length + rk L < (L.length + 1) * fac L.length
    rw [Nat.add_mul, Nat.one_mul]; omega
theorem rk_app {S S' : List Int} (h : S.Perm S') : ∀ A : List Int, rk (A ++ S') + rk S = rk (A ++ S) + rk S'
  | [] => by simp only [List.nil_append]; omega
  | a :: A => by
    have ih := rk_app h A
    show cnt a (A ++ S') * fac (A ++ S').length + rk (A ++ S') + rk S = cnt a (A ++ S) * fac (A ++ S).length + rk (A ++ S) + rk S'
    have e1 : (A ++ S').length = (A ++ S).length := by simp [h.length_eq]
    rw [e1, cnt_app, cnt_app, cnt_perm h]; omega
theorem rk_inc : ∀ {L : List Int}, L.Pairwise (· < ·) → rk L = 0
  | [], _ => rfl
  | x :: L, h => by
    rw [List.pairwise_cons] at h
    show cnt x L * fac L.length + rk L = 0
    rw [rk_inc h.2, cnt_none (fun y hy => Int.le_of_lt (h.1 y hy))]; simp
theorem rk_dec : ∀ {L : List Int}, L.Pairwise (fun a b => b < a) → rk L + 1 = fac L.length
  | [], _ => rfl
  | x :: L, h => by
    rw [List.pairwise_cons] at h
    show cnt x L * fac L.length + rk L + 1 = (L.length + 1) * fac L.length
    rw [cnt_all h.1, Nat.add_assoc, rk_dec h.2, Nat.add_mul, Nat.one_mul]
/-- The step to the next. -/
theorem rk_step {A E G : List Int} {x y : Int} (hD : (E ++ y :: G).Pairwise (fun a b => b < a)) (hE : ∀ e ∈ E, x < e) (hy : x < y) (hG : ∀ g ∈ G, g < x) :
    rk (A ++ y :: (E ++ x :: G).reverse) = rk (A ++ x :: (E ++ y :: G)) + 1 := by
  have hp : (y :: (E ++ x :: G).reverse).Perm (x :: (E ++ y :: G)) := by
    have h1 : (y :: (E ++ x :: G).reverse).Perm (y :: (E ++ x :: G)) := (List.reverse_perm _).cons _
    have h2 : (y :: (E ++ x :: G)).Perm (y :: x :: (E ++ G)) := List.perm_middle.cons _
    have h3 : (x :: (E ++ y :: G)).Perm (x :: y :: (E ++ G)) := List.perm_middle.cons _
    exact h1.trans (h2.trans ((List.Perm.swap x y _).trans h3.symm))
  have h := rk_app hp A
  rw [List.pairwise_append, List.pairwise_cons] at hD
  obtain ⟨d1, ⟨d2, d3⟩, d4⟩ := hD
  have e1 : rk (x :: (E ++ y :: G)) = G.length * fac (E ++ y :: G).length + rk (E ++ y :: G) := by
    show cnt x (E ++ y :: G) * fac _ + rk _ = _
    rw [cnt_app, cnt_none (fun e he => Int.le_of_lt (hE e he)), cnt_cons, cnt_all hG, if_neg (by omega)]; simp
  have e2 : rk (y :: (E ++ x :: G).reverse) = (G.length + 1) * fac (E ++ y :: G).length := by
    show cnt y (E ++ x :: G).reverse * fac (E ++ x :: G).reverse.length + rk (E ++ x :: G).reverse = _
    have hr : rk (E ++ x :: G).reverse = 0 := by
      apply rk_inc
      rw [List.pairwise_reverse, List.pairwise_append, List.pairwise_cons]
      refine ⟨d1, ⟨hG, d3⟩, fun a ha b hb => ?_⟩
      rcases List.mem_cons.1 hb with rfl | hb
      · exact hE a ha
      · exact d4 a ha b (by simp [hb])
    rw [hr, cnt_perm (List.reverse_perm _), cnt_app, cnt_none (fun e he => Int.le_of_lt (d4 e he y (by simp))), cnt_cons, cnt_all d2, if_pos hy, show (E ++ x :: G).reverse.length = (E ++ y :: G).length from by simp [Nat.add_comm, Nat.add_left_comm], Nat.zero_add, Nat.add_zero]
  have e3 := rk_dec (L := E ++ y :: G) (by rw [List.pairwise_append, List.pairwise_cons]; exact ⟨d1, ⟨d2, d3⟩, d4⟩)
  rw [Nat.add_mul, Nat.one_mul] at e2
  omega

/-! ### Factorials -/
theorem refFac_eq : ∀ (n F : Nat), n ≤ 10 → n + 2 ≤ F → F65 F n = some (fac n : Int) := by
  intro n
  induction n with
  | zero => intro F _ hF; obtain ⟨G, rfl⟩ : ∃ q, F = q + 1 := ⟨F - 1, by omega⟩; rfl
  | succ n ih =>
    intro F hn hF
    obtain ⟨G, rfl⟩ : ∃ q, F = q + 1 := ⟨F - 1, by omega⟩
    rw [F65]
    try simp only []
    by_cases h : n = 0
    · subst h; rfl
    · rw [if_neg (by rw [decide_eq_true_eq]; omega), wpred (by omega) (by omega), show n + 1 - 1 = n from rfl, ih G (by omega) (by omega), Option.bind_some]
      have := fac_le (n + 1) hn
      have h2 : (n + 1) * fac n ≤ 3628800 := this
      rw [wmul (by omega)]; rfl

/-! ### castref.RankOf -/
theorem good_perm {p : List Int} (h : GoodP p) : p.Perm (rangeI p.length) := perm_of_mem p.length p rfl (mem_of_good h)
theorem cnt_range (n : Nat) (x : Nat) (h : x ≤ n) : cnt (x : Int) (rangeI n) = x := by
  induction n with
  | zero => rw [show x = 0 from by omega]; rfl
  | succ n ih =>
    have e : rangeI (n + 1) = rangeI n ++ [(n : Int)] := by unfold rangeI; rw [List.range_succ, List.map_append]; rfl
    rw [e, cnt_app]
    by_cases hx : x ≤ n
    · rw [ih hx, cnt_cons, if_neg (by omega)]; rfl
    · have : x = n + 1 := by omega
      subst this
      rw [cnt_all (fun y hy => by have := mem_rangeI.1 hy; omega), cnt_cons, if_pos (by omega)]
      simp [rangeI, cnt]
theorem good_head {x : Int} {L : List Int} (h : GoodP (x :: L)) : (cnt x L : Int) = x := by
  have h1 := cnt_perm (x := x) (good_perm h)
  have hx := h.2 x (by simp)
  rw [cnt_cons, if_neg (by omega)] at h1
  obtain ⟨k, rfl⟩ : ∃ k : Nat, x = k := ⟨x.toNat, by omega⟩
  rw [cnt_range _ k (by omega)] at h1
  omega
def low (x y : Int) : Int := if y > x then y - 1 else y
theorem rk_map {f : Int → Int} : ∀ {L : List Int}, (∀ a ∈ L, ∀ b ∈ L, f a < f b ↔ a < b) → rk (L.map f) = rk L
  | [], _ => rfl
  | x :: L, h => by
    show cnt (f x) (L.map f) * fac (L.map f).length + rk (L.map f) = cnt x L * fac L.length + rk L
    rw [rk_map (fun a ha b hb => h a (by simp [ha]) b (by simp [hb])), List.length_map]
    congr 2
    unfold cnt
    rw [List.countP_map]
    apply List.countP_congr
    intro y hy
    simp only [Function.comp, decide_eq_true_eq]
    exact h y (by simp [hy]) x (by simp)
theorem good_tail {x : Int} {L : List Int} (h : GoodP (x :: L)) : GoodP (L.map (low x)) ∧ rk (L.map (low x)) = rk L := by
  obtain ⟨hn, hb⟩ := h
  rw [List.nodup_cons] at hn
  have hne : ∀ y ∈ L, y ≠ x := fun y hy e => hn.1 (e ▸ hy)
  have hmono : ∀ a ∈ L, ∀ b ∈ L, low x a < low x b ↔ a < b := by
    intro a ha b hb'
    have := hne a ha
    have := hne b hb'
    unfold low
    split <;> split <;> omega
  refine ⟨⟨?_, ?_⟩, rk_map hmono⟩
  · rw [List.nodup_iff_pairwise_ne, List.pairwise_map]
    have := List.nodup_iff_pairwise_ne.1 hn.2
    refine (List.Pairwise.and_mem.1 this).imp ?_
    rintro a b ⟨ha, hb', hab⟩ e
    have h1 := hmono a ha b hb'
    have h2 := hmono b hb' a ha
    rw [e] at h1 h2
    omega
  · intro y hy
    obtain ⟨z, hz, rfl⟩ := List.mem_map.1 hy
    have h1 := hb z (by simp [hz])
    have h2 := hb x (by simp)
    have h3 := hne z hz
    simp only [List.length_cons, List.length_map] at h1 h2 ⊢
    unfold low
    split <;> omega
theorem rankOf_eq : ∀ (n F : Nat) (p : List Int), p.length = n → n ≤ 10 → n + 15 ≤ F → GoodP p → F67 F p = some (rk p : Int) := by
  intro n
  induction n with
  | zero =>
    intro F p hp _ hF hg
    rw [List.eq_nil_of_length_eq_zero hp]
    obtain ⟨G, rfl⟩ : ∃ q, F = q + 1 := ⟨F - 1, by omega⟩
    rfl
  | succ n ih =>
    intro F p hp hn hF hg
    obtain ⟨G, rfl⟩ : ∃ q, F = q + 1 := ⟨F - 1, by omega⟩
    cases p with
    | nil => simp at hp
    | cons x L =>
      have hl : L.length = n := by simpa using hp
      rw [F67]
      try simp only []
      rw [if_neg (by simp; omega), show sub? (x :: L) 1 ((x :: L).length : Int) = some L from by
        rw [show (1 : Int) = ((1 : Nat) : Int) from rfl, sub?_from (by simp)]; rfl, Option.bind_some]
      obtain ⟨t1, t2⟩ := good_tail hg
      have hx := hg.2 x (by simp)
      have hat : at? (x :: L) 0 = some x := rfl
      have := iter_count (step := F67_l0 G (x :: L) L) (F := G) (fun i => ((L.take i).map (low x), (i : Int))) (b := L.map (low x)) n ?_ ?_ (by omega)
      · rw [show (([] : List Int), (0 : Int)) = ((L.take 0).map (low x), ((0 : Nat) : Int)) from rfl, this, Option.bind_some, hat, Option.bind_some]
        have hlm : (L.map (low x)).length = n := by simp [hl]
        rw [hlm, refFac_eq n G (by omega) (by omega), Option.bind_some, ih G _ hlm (by omega) (by omega) t1, Option.bind_some, t2]
        have h1 := good_head hg
        have h2 := rk_lt (x :: L)
        have h3 := fac_le (n + 1) hn
        have h4 : rk (x :: L) = cnt x L * fac n + rk L := by show cnt x L * fac L.length + rk L = _; rw [hl]
        have h5 : fac (x :: L).length = fac (n + 1) := by rw [hp]
        rw [show x * (fac n : Int) = ((cnt x L * fac n : Nat) : Int) from by rw [Int.natCast_mul, h1], wnat (by omega), wadd (by omega), ← h4]
      · intro i hi
        unfold F67_l0
        simp only
        rw [if_pos (decide_eq_true (by omega)), nx_get (d := 0) (by omega), Option.bind_some, hat, Option.bind_some, wsuc (by omega)]
        have hz := hg.2 (nx 0 L i) (by simp [nx_mem (d := (0 : Int)) (show i < L.length by omega)])
        simp only [List.length_cons] at hz
        have ht : (L.take (i + 1)).map (low x) = (L.take i).map (low x) ++ [low x (nx 0 L i)] := by
          rw [List.take_add_one, List.getElem?_eq_getElem (by omega), nx_eq (by omega), List.map_append]; rfl
        by_cases hgt : nx 0 L i > x
        · rw [if_pos (decide_eq_true hgt), app?_ok (by simp; omega), Option.bind_some, w64 (by omega) (by omega), ht]
          unfold low; rw [if_pos hgt]
        · rw [if_neg (mt of_decide_eq_true hgt), app?_ok (by simp; omega), Option.bind_some, ht]
          unfold low; rw [if_neg hgt]
      · unfold F67_l0
        simp only
        rw [if_neg (by rw [decide_eq_true_eq]; omega), List.take_of_length_le (by omega)]
end Go.Proofs.Ytdkmepeolmdccaa

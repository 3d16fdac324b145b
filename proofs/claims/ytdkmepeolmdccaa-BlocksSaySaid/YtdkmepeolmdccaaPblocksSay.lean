/- The law of package blocks, in plain words. -/
import Derived.Test.YtdkmepeolmdccaaPblocksB
import Derived.Test.YtdkmepeolmdccaaIndexLib
import Derived.Test.YtdkmepeolmdccaaCombLib
import Derived.Test.YtdkmepeolmdccaaEqualLib
import Derived.Test.YtdkmepeolmdccaaMono
set_option linter.unusedVariables false
set_option linter.unusedSimpArgs false
namespace Go.Proofs.Ytdkmepeolmdccaa
open Go.Am

/-! ### Numbers -/
theorem chkC_ok (n k : Nat) (hn : n < 11) (hk : k < 11) : ∃ x, F33 60 n k = some (x, 0) ∧ F38 60 n k = some x := by
  have h : chkC n k = true := by
    have ha := chkC_a
    have hb := chkC_b
    have hc := chkC_c
    have hd := chkC_d
    have he := chkC_e
    have hf := chkC_f
    simp only [List.all_eq_true, List.mem_range] at ha hb hc hd he hf
    rcases Nat.lt_or_ge n 6 with h | h
    · exact ha n h k hk
    · obtain rfl | rfl | rfl | rfl | rfl : n = 6 ∨ n = 7 ∨ n = 8 ∨ n = 9 ∨ n = 10 := by omega
      · exact hb k hk
      · exact hc k hk
      · exact hd k hk
      · exact he k hk
      · exact hf k hk
  unfold chkC at h
  split at h
  · rename_i r x e1 e2
    simp only [Bool.and_eq_true, beq_iff_eq] at h
    obtain ⟨r1, r2⟩ := r
    simp only at h
    exact ⟨x, by rw [e1, h.1, h.2], e2⟩
  · cases h
theorem chkA_ok (n : Nat) (hn : n < 11) : F34 60 n = some ((bell n : Int), 0) := by
  have h : chkA n = true := by
    have ha := chkA_a
    have hb := chkA_b
    simp only [List.all_eq_true, List.mem_range] at ha hb
    rcases Nat.lt_or_ge n 8 with h | h
    · exact ha n h
    · obtain ⟨q, rfl⟩ : ∃ q, n = q + 8 := ⟨n - 8, by omega⟩
      exact hb q (by omega)
  unfold chkA at h
  split at h
  · rename_i r e1
    simp only [Bool.and_eq_true, beq_iff_eq] at h
    obtain ⟨r1, r2⟩ := r
    simp only at h
    rw [e1, h.1, h.2]
  · cases h

def bs (m : Nat) : Nat → Nat
  | 0 => 0
  | k + 1 => bs m k + C m k * bell k
theorem bs_ok : ((List.range 10).all fun m => (bs m (m + 1) == bell (m + 1)) && (List.range (m + 2)).all fun k => decide (bs m k ≤ 1000000) && decide (C m k * bell k ≤ 1000000)) = true := by decide +kernel
theorem heaps_eq : ∀ (n F : Nat), n ≤ 10 → 41 + n ≤ F → F37 F n = some (bell n : Int) := by
  intro n
  induction n using Nat.strongRecOn with
  | ind n ih =>
    intro F hn hF
    obtain ⟨G, rfl⟩ : ∃ q, F = q + 1 := ⟨F - 1, by omega⟩
    rw [F37]
    try simp only []
    by_cases h0 : n = 0
    · subst h0; rfl
    obtain ⟨m, rfl⟩ : ∃ q, n = q + 1 := ⟨n - 1, by omega⟩
    rw [if_neg (by simp; omega)]
    have hb := bs_ok
    simp only [List.all_eq_true, List.mem_range, Bool.and_eq_true, decide_eq_true_eq, beq_iff_eq] at hb
    obtain ⟨hb1, hb2⟩ := hb m (by omega)
    have := iter_count (step := F37_l0 G ((m + 1 : Nat) : Int) (F37 G)) (F := G) (fun i => ((bs m i : Int), (i : Int))) (b := (bs m (m + 1) : Int)) (m + 1) ?_ ?_ (by omega)
    · rw [show ((0 : Int), (0 : Int)) = ((bs m 0 : Int), ((0 : Nat) : Int)) from rfl, this, Option.bind_some, hb1]
    · intro i hi
      unfold F37_l0
      simp only
      have h1 := hb2 i (by omega)
      have h2 := hb2 (i + 1) (by omega)
      rw [if_pos (decide_eq_true (by omega)), wpred (by omega) (by omega), show m + 1 - 1 = m from by omega, refChoose_eq G m i (by omega) (by omega), Option.bind_some, ih i (by omega) G (by omega) (by omega), Option.bind_some, wmul (by omega), wadd (by omega), wsuc (by omega)]
      rfl
    · unfold F37_l0
      simp only
      rw [if_neg (by simp)]
theorem count_out (F : Nat) (n k : Int) (h : n < 0 ∨ n > 10 ∨ k < 0 ∨ k > 10) : F33 F n k = some (0, 1) := by
  unfold F33
  rw [if_pos (by simp only [Bool.or_eq_true, decide_eq_true_eq]; omega)]
theorem all_out (F : Nat) (n : Int) (h : n < 0 ∨ n > 10) : F34 (F + 1) n = some (0, 1) := by
  unfold F34
  rw [iter_stop (b := .inr (0, 1))]
  · rfl
  · unfold F34_l0
    simp only
    rw [if_pos (by decide), count_out (F + 1) n 0 (by omega), Option.bind_some, if_pos (by decide)]

/-! ### Check -/
def isBad (t : List Int) (i : Nat) : Bool := decide (nx 0 t i < 0) || (decide (nx 0 t i > 0) && !decide (nx 0 t i - 1 ∈ t.take i))
def hiOf (t : List Int) : Nat → Int
  | 0 => -1
  | i + 1 => maxI (hiOf t i) (nx 0 t i)
theorem maxI_eq (a b : Int) : maxI a b = max a b := by unfold maxI; split <;> omega
theorem take_succ' {t : List Int} {i : Nat} (h : i < t.length) : t.take (i + 1) = t.take i ++ [nx 0 t i] := by
  rw [List.take_add_one, List.getElem?_eq_getElem h, nx_eq h]; rfl
theorem hi_mem {t : List Int} : ∀ (i : Nat), i ≤ t.length → (∀ j, j < i → isBad t j = false) → -1 ≤ hiOf t i ∧ hiOf t i < i ∧ ∀ v, v ∈ t.take i ↔ 0 ≤ v ∧ v ≤ hiOf t i
  | 0, _, _ => by
    refine ⟨by simp [hiOf], by simp [hiOf], fun v => ?_⟩
    simp only [hiOf, List.take_zero, List.not_mem_nil, false_iff]
    omega
  | i + 1, hi, hg => by
    obtain ⟨h1, h2, h3⟩ := hi_mem i (by omega) (fun j hj => hg j (by omega))
    have hb := hg i (by omega)
    unfold isBad at hb
    simp only [Bool.or_eq_false_iff, decide_eq_false_iff_not, Bool.and_eq_false_iff, Bool.not_eq_false', decide_eq_true_eq] at hb
    obtain ⟨hb1, hb2⟩ := hb
    have hx : nx 0 t i ≤ hiOf t i + 1 := by
      rcases hb2 with h | h
      · omega
      · have := (h3 _).1 h; omega
    unfold hiOf
    rw [maxI_eq]
    refine ⟨by omega, by omega, fun v => ?_⟩
    rw [take_succ' (by omega), List.mem_append, h3 v]
    simp only [List.mem_singleton]
    omega
theorem heapsErr_eq (F : Nat) (t : List Int) (hr : ∀ x ∈ t, inR .i64 x) (hF : 20 ≤ F) (ht : t.length ≤ 10) : ((∀ i, i < t.length → isBad t i = false) ∧ F39 F t = some 0) ∨ (∃ i, i < t.length ∧ isBad t i = true ∧ (∀ j, j < i → isBad t j = false) ∧ F39 F t = some 3) := by
  unfold F39
  rw [if_neg (by rw [decide_eq_true_eq]; omega)]
  rcases seek_loop (step := F39_l0 F t) (F := F) t.length (isBad t) (fun _ => 3) (fun i hi => by
    unfold F39_l0
    rw [if_pos (decide_eq_true (by omega)), nx_get (d := 0) hi, Option.bind_some, sub?_to (by omega), Option.bind_some]
    unfold isBad
    by_cases h1 : nx 0 t i < 0
    · simp only [h1, decide_true, Bool.true_or, if_true, Option.bind_some]
    · by_cases h2 : nx 0 t i > 0
      · have hw : F117 F (t.take i) (wrapA .i64 (nx 0 t i - 1)) = some (decide (wrapA .i64 (nx 0 t i - 1) ∈ t.take i)) := contains_eq F _ _ (by rw [List.length_take]; omega) (by rw [List.length_take]; omega)
        simp only [h1, h2, decide_false, decide_true, Bool.false_or, Bool.true_and, if_true, hw, Option.bind_some, Bool.false_eq_true, if_false]
        have hx := inR64 (hr _ (nx_mem (d := 0) hi))
        rw [w64 (by omega) (by omega), wsuc (by omega)]
        exact ite_some _ _
      · simp only [h1, h2, decide_false, Bool.false_or, Bool.false_and, Bool.false_eq_true, if_false, Option.bind_some]
        rw [wsuc (by omega)]) (by unfold F39_l0; rw [if_neg (by simp)]) (by omega) with ⟨h1, h2⟩ | ⟨i, h1, h2, h3, h4⟩
  · left
    exact ⟨h1, by rw [h2]; rfl⟩
  · right
    exact ⟨i, h1, h2, h3, by rw [h4]; rfl⟩
theorem check_eq (F : Nat) (t : List Int) (hF : 20 ≤ F) (ht : t.length ≤ 10) : ((∀ i, i < t.length → isBad t i = false) ∧ F40 F t = some 0) ∨ (∃ i, i < t.length ∧ isBad t i = true ∧ (∀ j, j < i → isBad t j = false) ∧ F40 F t = some 3) := by
  unfold F40
  rw [if_neg (by rw [decide_eq_true_eq]; omega)]
  rcases seekS (step := F40_l0 F t) (F := F) t.length (fun i => (hiOf t i, (i : Int))) (isBad t) (fun _ => .inr 3) (.inl ()) (fun i hi hg => by
    unfold F40_l0
    simp only
    obtain ⟨h1, h2, h3⟩ := hi_mem i (by omega) hg
    rw [if_pos (decide_eq_true (by omega)), nx_get (d := 0) hi, Option.bind_some, w64 (by omega) (by omega), wsuc (by omega)]
    have : (decide (nx 0 t i < 0) || decide (nx 0 t i > hiOf t i + 1)) = isBad t i := by
      unfold isBad
      by_cases a : nx 0 t i < 0
      · simp [a]
      · by_cases b : nx 0 t i > 0
        · simp only [a, b, decide_false, Bool.false_or, decide_true, Bool.true_and]
          have := h3 (nx 0 t i - 1)
          by_cases c : nx 0 t i - 1 ∈ t.take i
          · have := this.1 c
            simp only [c, decide_true, Bool.not_true, decide_eq_false_iff_not]; omega
          · have : ¬ (0 ≤ nx 0 t i - 1 ∧ nx 0 t i - 1 ≤ hiOf t i) := fun h => c (this.2 h)
            simp only [c, decide_false, Bool.not_false, decide_eq_true_eq]; omega
        · simp only [a, b, decide_false, Bool.false_or, Bool.false_and, decide_eq_false_iff_not]; omega
    rw [this]
    exact ite_some _ _) (fun hg => by unfold F40_l0; simp only; rw [if_neg (by simp)]) (by omega) with ⟨h1, h2⟩ | ⟨i, h1, h2, h3, h4⟩
  · left
    refine ⟨h1, ?_⟩
    rw [show ((-1 : Int), (0 : Int)) = (hiOf t 0, ((0 : Nat) : Int)) from rfl, h2]; rfl
  · right
    refine ⟨i, h1, h2, h3, ?_⟩
    rw [show ((-1 : Int), (0 : Int)) = (hiOf t 0, ((0 : Nat) : Int)) from rfl, h4]; rfl

/-! ### Next -/
theorem max_eq (F : Nat) (L : List Int) (h0 : 0 < L.length) (hF : L.length < F) (hl : L.length ≤ 1000) : ∃ m, F95 F L = some m ∧ m ∈ L ∧ ∀ v ∈ L, v ≤ m := by
  unfold F95
  rw [if_neg (by rw [decide_eq_true_eq]; omega), Option.bind_some, show at? L 0 = at? L ((0 : Nat) : Int) from rfl, nx_get (d := 0) h0, Option.bind_some]
  obtain ⟨b, hb, hQ⟩ := iter_inv (step := F95_l0 F L) (I := fun s => ∃ i : Nat, s.2 = i ∧ i ≤ L.length ∧ s.1 ∈ L ∧ ∀ j, j < i → nx 0 L j ≤ s.1) (μ := fun s => L.length - s.2.toNat) (Q := fun b => b ∈ L ∧ ∀ v ∈ L, v ≤ b) (by
    rintro ⟨m, s⟩ ⟨i, rfl, hi, hm, hn⟩
    unfold F95_l0
    simp only at hm hn ⊢
    by_cases hlt : i < L.length
    · left
      rw [if_pos (decide_eq_true (by omega)), nx_get (d := 0) hlt, Option.bind_some, wsuc (by omega), maxI_eq]
      refine ⟨_, rfl, ⟨i + 1, rfl, by omega, ?_, ?_⟩, by simp only; omega⟩
      · show max m (nx 0 L i) ∈ L
        have h1 : nx 0 L i ∈ L := nx_mem hlt
        rcases Int.le_total m (nx 0 L i) with h | h
        · rw [Int.max_eq_right h]; exact h1
        · rw [Int.max_eq_left h]; exact hm
      · intro j hj
        show nx 0 L j ≤ max m (nx 0 L i)
        by_cases e : j = i
        · subst e; omega
        · have := hn j (by omega); omega
    · right
      rw [if_neg (by rw [decide_eq_true_eq]; omega)]
      refine ⟨_, rfl, hm, fun v hv => ?_⟩
      obtain ⟨j, hj, rfl⟩ := nx_of (d := (0 : Int)) hv
      exact hn j (by omega)) F (nx 0 L 0, 1) ⟨1, rfl, by omega, nx_mem h0, fun j hj => by rw [show j = 0 from by omega]; exact Int.le_refl _⟩ (by simp only; omega)
  rw [hb, Option.bind_some]
  exact ⟨b, rfl, hQ⟩
theorem next_par (F : Nat) (t : List Int) (hr : ∀ x ∈ t, inR .i64 x) (hF : 60 ≤ F) (ht : t.length ≤ 10) (hg : ∀ i, i < t.length → isBad t i = false) :
    ∃ b c, iter (F35_l0 F t) F (wrapA .i64 ((t.length : Int) - 1)) = some b ∧ iter (F41_l0 F t) F (wrapA .i64 ((t.length : Int) - 1)) = some c ∧ ((b = .inl () ∧ c = .inl ()) ∨ ∃ L : List Int, L.length ≤ 10 ∧ b = .inr (L, 0) ∧ c = .inr (L, true)) := by
  rw [w64 (by omega) (by omega)]
  refine iter_par (step := F35_l0 F t) (step' := F41_l0 F t) (I := fun s => -1 ≤ s ∧ s < t.length) (μ := fun s => s.toNat) (R := fun b c => (b = .inl () ∧ c = .inl ()) ∨ ∃ L : List Int, L.length ≤ 10 ∧ b = .inr (L, 0) ∧ c = .inr (L, true)) ?_ F _ ⟨by omega, by omega⟩ (by omega)
  rintro s ⟨hs1, hs2⟩
  unfold F35_l0 F41_l0
  by_cases h0 : s > 0
  · obtain ⟨i, rfl⟩ : ∃ i : Nat, s = i := ⟨s.toNat, by omega⟩
    have hi : i < t.length := by omega
    obtain ⟨g1, g2, g3⟩ := hi_mem i (by omega) (fun j hj => hg j (by omega))
    have hx := hg i hi
    obtain ⟨m, hm1, hm2, hm3⟩ := max_eq F (t.take i) (by rw [List.length_take]; omega) (by rw [List.length_take]; omega) (by rw [List.length_take]; omega)
    have hw : F117 F (t.take i) (nx 0 t i) = some (decide (nx 0 t i ∈ t.take i)) := contains_eq F _ _ (by rw [List.length_take]; omega) (by rw [List.length_take]; omega)
    have hiff : decide (nx 0 t i ≤ m) = decide (nx 0 t i ∈ t.take i) := by
      apply decide_eq_decide.2
      constructor
      · intro h
        refine (g3 _).2 ⟨?_, ?_⟩
        · unfold isBad at hx
          simp only [Bool.or_eq_false_iff, decide_eq_false_iff_not] at hx
          omega
        · have := (g3 m).1 hm2; omega
      · intro h; exact hm3 _ h
    rw [if_pos (decide_eq_true h0), if_pos (decide_eq_true (by omega)), nx_get (d := 0) hi]
    have hsub : sub? t 0 (i : Int) = some (t.take i) := sub?_to (by omega)
    simp only [Option.bind_some, hsub, hm1, hw, hiff]
    by_cases hc : nx 0 t i ∈ t.take i
    · right
      have hck : ck (cpy (List.replicate t.length (0 : Int)) (t.take i)) (i : Int) = some () := ck_ok (by unfold cpy; simp; omega)
      have hcl : F30 F (t.take i) = some (t.take i) := by unfold F30; rw [if_pos (by rw [List.length_take]; omega)]
      have ha : app? (t.take i) [wrapA .i64 (nx 0 t i + 1)] = some (t.take i ++ [wrapA .i64 (nx 0 t i + 1)]) := app?_ok (by simp; omega)
      have hz : appZ? (t.take i ++ [wrapA .i64 (nx 0 t i + 1)]) (((t.length - i - 1 : Nat)) : Int) (0 : Int) = some (t.take i ++ [wrapA .i64 (nx 0 t i + 1)] ++ List.replicate (t.length - i - 1) 0) := by
        unfold appZ?; rw [if_pos ⟨by omega, by simp; omega⟩]; rfl
      have e1 : wrapA .i64 (wrapA .i64 ((t.length : Int) - (i : Int)) - 1) = ((t.length - i - 1 : Nat) : Int) := by
        rw [wsub (by omega) (by omega), wpred (by omega) (by omega)]
      have hmk : mk? (t.length : Int) (0 : Int) = some (List.replicate t.length 0) := mk?_ok (by omega)
      rw [if_pos (decide_eq_true hc), if_pos (decide_eq_true hc)]
      simp only [Option.bind_some, hmk, hck, hcl, ha, e1, hz]
      refine ⟨_, _, rfl, rfl, .inr ⟨_, ?_, rfl, ?_⟩⟩
      · unfold cpy; simp; omega
      · congr 2
        unfold cpy
        rw [List.length_replicate, List.length_take, Nat.min_eq_left (by omega), List.take_take, Nat.min_eq_right (by omega), List.drop_replicate, Int.toNat_natCast, List.set_append_right _ _ (by rw [List.length_take]; omega), List.length_take, Nat.min_eq_left (by omega), Nat.sub_self, show t.length - i = (t.length - i - 1) + 1 from by omega, List.replicate_succ]
        simp
    · left
      rw [if_neg (mt of_decide_eq_true hc), if_neg (mt of_decide_eq_true hc)]
      refine ⟨_, rfl, rfl, ?_, ?_⟩
      · rw [w64 (by omega) (by omega)]; omega
      · rw [w64 (by omega) (by omega)]; omega
  · right
    rw [if_neg (mt of_decide_eq_true h0), if_neg (by rw [decide_eq_true_eq]; omega)]
    exact ⟨_, _, rfl, rfl, .inl ⟨rfl, rfl⟩⟩

/-! ### Of -/
structure OfI (t : List Int) (i : Nat) (seen out : List Int) : Prop where
  len : out.length = i
  nd : seen.Nodup
  sl : seen.length ≤ i
  a : ∀ j, j < i → ∃ k : Nat, k < seen.length ∧ nx 0 out j = k ∧ nx 0 seen k = nx 0 t j
  b : ∀ k, k < seen.length → ((k : Nat) : Int) ∈ out
  c : ∀ j, j < i → nx 0 out j > 0 → nx 0 out j - 1 ∈ out.take j
theorem nx_app_l {L M : List Int} {i : Nat} (h : i < L.length) : nx 0 (L ++ M) i = nx 0 L i := by
  unfold nx; rw [List.getElem?_append_left h]
theorem nx_app_r (L : List Int) (x : Int) : nx 0 (L ++ [x]) L.length = x := by
  unfold nx; simp
theorem OfI.step {t seen out seen' : List Int} {i k : Nat} (h : OfI t i seen out) (hnd : seen'.Nodup) (hs : seen' = seen ∨ (seen' = seen ++ [nx 0 t i] ∧ k = seen.length)) (hk : k < seen'.length) (hx : nx 0 seen' k = nx 0 t i) : OfI t (i + 1) seen' (out ++ [(k : Int)]) := by
  have hkeep : ∀ q, q < seen.length → q < seen'.length ∧ nx 0 seen' q = nx 0 seen q := by
    intro q hq
    rcases hs with rfl | ⟨rfl, _⟩
    · exact ⟨hq, rfl⟩
    · exact ⟨by simp; omega, nx_app_l hq⟩
  have hl := h.len
  have hkl : k ≤ seen.length := by
    rcases hs with rfl | ⟨rfl, e⟩
    · omega
    · omega
  refine ⟨by simp [h.len], hnd, ?_, ?_, ?_, ?_⟩
  · have := h.sl
    rcases hs with rfl | ⟨rfl, _⟩
    · omega
    · simp; omega
  · intro j hj
    by_cases e : j = i
    · subst e
      exact ⟨k, hk, by rw [← hl, nx_app_r], hx⟩
    · obtain ⟨q, h1, h2, h3⟩ := h.a j (by omega)
      obtain ⟨h4, h5⟩ := hkeep q h1
      exact ⟨q, h4, by rw [nx_app_l (by omega)]; exact h2, by rw [h5]; exact h3⟩
  · intro q hq
    by_cases e : q < seen.length
    · exact List.mem_append_left _ (h.b q e)
    · rcases hs with rfl | ⟨rfl, e2⟩
      · exact absurd hq e
      · have : q = k := by simp at hq; omega
        subst this; simp
  · intro j hj hp
    by_cases e : j = i
    · have hjo : j = out.length := by omega
      subst hjo
      rw [nx_app_r] at hp ⊢
      rw [List.take_append_of_le_length (Nat.le_refl _), List.take_length]
      have := h.b (k - 1) (by omega)
      rwa [show (k : Int) - 1 = ((k - 1 : Nat) : Int) from by omega]
    · rw [nx_app_l (by omega)] at hp ⊢
      rw [List.take_append_of_le_length (by omega)]
      exact h.c j (by omega) hp
theorem of_eq (F : Nat) (t : List Int) (hF : 60 ≤ F) (ht : t.length ≤ 10) : ∃ seen out, F36 F t = some (out, 0) ∧ OfI t t.length seen out := by
  unfold F36
  rw [if_neg (by rw [decide_eq_true_eq]; omega)]
  obtain ⟨b, hb, seen, hQ⟩ := iter_inv (step := F36_l0 F t) (I := fun s => ∃ i : Nat, s.2.2 = i ∧ i ≤ t.length ∧ OfI t i s.1 s.2.1) (μ := fun s => t.length - s.2.2.toNat) (Q := fun b => ∃ seen, OfI t t.length seen b) (by
    rintro ⟨seen, out, s⟩ ⟨i, rfl, hi, hI⟩
    unfold F36_l0
    simp only at hI ⊢
    have hl := hI.len
    have hsl := hI.sl
    by_cases hlt : i < t.length
    · left
      obtain ⟨r, h1, h2⟩ := index_eq F seen (nx 0 t i) (by omega) (by omega)
      rw [if_pos (decide_eq_true (by omega)), nx_get (d := 0) hlt, Option.bind_some, h1, Option.bind_some, wsuc (by omega)]
      rcases h2 with ⟨h3, h4, h5, h6⟩ | ⟨h3, rfl⟩
      · obtain ⟨k, rfl⟩ : ∃ k : Nat, r = k := ⟨r.toNat, by omega⟩
        rw [if_neg (by rw [decide_eq_true_eq]; omega), app?_ok (by simp; omega), Option.bind_some]
        refine ⟨_, rfl, ⟨i + 1, rfl, by omega, hI.step hI.nd (.inl rfl) (by simp only; omega) ?_⟩, by simp only; omega⟩
        rw [nx_get (d := 0) (by omega)] at h6
        exact Option.some.inj h6
      · rw [if_pos (by decide), app?_ok (by simp; omega), Option.bind_some, app?_ok (by simp; omega), Option.bind_some]
        refine ⟨_, rfl, ⟨i + 1, rfl, by omega, hI.step ?_ (.inr ⟨rfl, rfl⟩) (by simp) (nx_app_r _ _)⟩, by simp only; omega⟩
        rw [List.nodup_append]
        refine ⟨hI.nd, by simp, ?_⟩
        intro a ha b hb
        simp only [List.mem_singleton] at hb
        subst hb
        exact fun e => h3 (e ▸ ha)
    · right
      rw [if_neg (by rw [decide_eq_true_eq]; omega)]
      exact ⟨_, rfl, seen, by rwa [show t.length = i from by omega]⟩) F ([], [], 0) ⟨0, rfl, by omega, ⟨rfl, by simp, by simp, fun j hj => by omega, fun k hk => by simp at hk, fun j hj => by omega⟩⟩ (by simp only; omega)
  exact ⟨seen, b, by rw [hb]; rfl, hQ⟩
theorem nodup_nx {L : List Int} (h : L.Nodup) {a b : Nat} (ha : a < L.length) (hb : b < L.length) : nx 0 L a = nx 0 L b ↔ a = b := by
  rw [nx_eq ha, nx_eq hb]
  constructor
  · intro e; exact (List.getElem_inj h).1 e
  · rintro rfl; rfl
theorem pairs_eq (F : Nat) (t seen out : List Int) (hF : 60 ≤ F) (ht : t.length ≤ 10) (h : OfI t t.length seen out) : iter (F5_l1 F t (out, 0)) F 0 = some (.inl ()) := by
  refine iter_count (step := F5_l1 F t (out, 0)) (F := F) (fun i => (i : Int)) t.length ?_ ?_ (by omega)
  · intro a ha
    have hin : iter (F5_l0 F t (out, 0) a) F 0 = some (.inl ()) := by
      refine iter_count (step := F5_l0 F t (out, 0) a) (F := F) (fun i => (i : Int)) a ?_ ?_ (by omega)
      · intro b hb
        unfold F5_l0
        have hl := h.len
        rw [if_pos (decide_eq_true (by omega)), nx_get (d := 0) ha, Option.bind_some, nx_get (d := 0) (by omega : b < t.length), Option.bind_some, nx_get (d := 0) (by simp only; omega), Option.bind_some, nx_get (d := 0) (by simp only; omega), Option.bind_some, if_neg, wsuc (by omega)]
        obtain ⟨k, k1, k2, k3⟩ := h.a a ha
        obtain ⟨q, q1, q2, q3⟩ := h.a b (by omega)
        simp only
        rw [k2, q2, ← k3, ← q3]
        have := nodup_nx h.nd k1 q1
        by_cases e : k = q
        · subst e; simp
        · have e2 : ¬ nx 0 seen k = nx 0 seen q := fun x => e (this.1 x)
          have e3 : ¬ (k : Int) = (q : Int) := by omega
          rw [beq_false_of_ne e2, beq_false_of_ne e3]; decide
      · unfold F5_l0; rw [if_neg (by simp)]
    unfold F5_l1
    rw [if_pos (decide_eq_true (by omega)), hin, Option.bind_some, wsuc (by omega)]
  · unfold F5_l1; rw [if_neg (by simp)]

theorem PblocksSay.holds (t0 : List (Int)) (t1 : Int) (t2 : Int) (t3 : List (Int)) (h0 : (t0.length ≤ maxLen ∧ ∀ a ∈ t0, inR .i64 a)) (h1 : inR .i64 t1) (h2 : inR .i64 t2) (h3 : (t3.length ≤ maxLen ∧ ∀ a ∈ t3, inR .i64 a)) : ∃ F, F5 F t0 t1 t2 t3 = some true := by
  refine ⟨60, ?_⟩
  unfold F5
  -- the numbers
  obtain ⟨r1, r5, e1, e5, hP1⟩ : ∃ r1 r5, F33 60 t1 t2 = some r1 ∧ F34 60 t1 = some r5 ∧ ((if ((decide (t1 < 0)) || (decide (t1 > 10))) then
      (if ((((r1.2 != 1) || (r5.2 != r1.2)) || (r1.1 != 0)) || (r5.1 != 0)) then (some ((.inr false))) else some ((.inl ())))
      else
      (if (r5.2 != 0) then some true else ((F37 60 t1).bind fun r27 => some (r5.1 != r27))).bind fun y32 =>
      if y32 then (some ((.inr false)))
      else
      if ((decide (t2 < 0)) || (decide (t2 > 10))) then
      (if ((r1.2 != 1) || (r1.1 != 0)) then (some ((.inr false))) else some ((.inl ())))
      else
      (if (r1.2 != 0) then some true else ((F38 60 t1 t2).bind fun r41 => some (r1.1 != r41))).bind fun y46 =>
      if y46 then (some ((.inr false))) else some ((.inl ()))) : Option (Unit ⊕ Bool)) = some (.inl ()) := by
    by_cases ho : t1 < 0 ∨ t1 > 10
    · refine ⟨_, _, count_out 60 t1 t2 (by omega), all_out 59 t1 ho, ?_⟩
      rw [if_pos (by simpa using ho), if_neg (by decide)]
    · obtain ⟨n, rfl⟩ : ∃ n : Nat, t1 = n := ⟨t1.toNat, by omega⟩
      have hn : n ≤ 10 := by omega
      by_cases ho2 : t2 < 0 ∨ t2 > 10
      · refine ⟨_, _, count_out 60 n t2 (by omega), chkA_ok n (by omega), ?_⟩
        have hh := heaps_eq n 60 hn (by omega)
        rw [if_neg (by simpa using ho), if_neg (by simp), hh, Option.bind_some, Option.bind_some, if_neg (by simp), if_pos (by simpa using ho2), if_neg (by decide)]
      · obtain ⟨k, rfl⟩ : ∃ k : Nat, t2 = k := ⟨t2.toNat, by omega⟩
        obtain ⟨x, c1, c2⟩ := chkC_ok n k (by omega) (by omega)
        refine ⟨_, _, c1, chkA_ok n (by omega), ?_⟩
        have hh := heaps_eq n 60 hn (by omega)
        rw [if_neg (by simpa using ho), if_neg (by simp), hh, Option.bind_some, Option.bind_some, if_neg (by simp), if_neg (by simpa using ho2), if_neg (by simp), c2, Option.bind_some, Option.bind_some, if_neg (by simp)]
  -- Of
  obtain ⟨r15, e15, hP2⟩ : ∃ r15, F36 60 t3 = some r15 ∧ (((t3.length : Int) > 10 ∧ r15 = ([], 2)) ∨ (¬ (t3.length : Int) > 10 ∧ r15.2 = 0 ∧ r15.1.length = t3.length ∧ F39 60 r15.1 = some 0 ∧ iter (F5_l1 60 t3 r15) 60 0 = some (.inl ()))) := by
    by_cases hl : (t3.length : Int) > 10
    · refine ⟨([], 2), ?_, ?_⟩
      · unfold F36
        rw [if_pos (decide_eq_true hl)]
      · exact .inl ⟨hl, rfl⟩
    · obtain ⟨seen, out, c1, c2⟩ := of_eq 60 t3 (by omega) (by omega)
      refine ⟨_, c1, ?_⟩
      have hl2 := c2.len
      have hsl := c2.sl
      have hne : ∀ i, i < out.length → isBad out i = false := by
        intro i hi
        obtain ⟨k, k1, k2, k3⟩ := c2.a i (by omega)
        have := c2.c i (by omega)
        unfold isBad
        by_cases hp : nx 0 out i > 0
        · simp only [this hp, decide_true, Bool.not_true, Bool.and_false, Bool.or_false, decide_eq_false_iff_not]; omega
        · simp only [hp, decide_false, Bool.false_and, Bool.or_false, decide_eq_false_iff_not]; omega
      have hre : ∀ x ∈ out, inR .i64 x := by
        intro x hx
        obtain ⟨i, hi, rfl⟩ := nx_of (d := (0 : Int)) hx
        obtain ⟨k, k1, k2, k3⟩ := c2.a i (by omega)
        rw [k2]
        show (-9223372036854775808 : Int) ≤ (k : Int) ∧ (k : Int) ≤ 9223372036854775807
        omega
      have hE : F39 60 out = some 0 := by
        rcases heapsErr_eq 60 out hre (by omega) (by omega) with ⟨_, h⟩ | ⟨i, i1, i2, _, _⟩
        · exact h
        · rw [hne i i1] at i2; cases i2
      exact .inr ⟨hl, rfl, hl2, hE, pairs_eq 60 t3 seen out (by omega) (by omega) c2⟩
  -- Check and Next
  obtain ⟨r9, E, e9, e120, e124, hP3⟩ : ∃ r9 E, F35 60 t0 = some r9 ∧ F39 60 t0 = some E ∧ F40 60 t0 = some E ∧ (if (E != 0) then
      (some (((r9.2 == E) && ((r9.1.length : Int) == 0))))
      else
      (F41 60 t0).bind fun r131 =>
      if (!r131.2) then
      (some (((r9.2 == 4) && ((r9.1.length : Int) == 0))))
      else
      (if (r9.2 == 0) then
      ((F32 60 r9.1 r131.1).bind fun r139 =>
      some r139)
       else some false).bind fun y144 =>
      some y144) = some true := by
    by_cases hl : (t0.length : Int) > 10
    · have hc : F40 60 t0 = some 2 := by unfold F40; rw [if_pos (decide_eq_true hl)]
      refine ⟨([], 2), 2, ?_, ?_, hc, rfl⟩
      · unfold F35
        rw [hc, Option.bind_some, if_pos (by decide)]
      · unfold F39; rw [if_pos (decide_eq_true hl)]
    · rcases check_eq 60 t0 (by omega) (by omega) with ⟨g1, hc⟩ | ⟨i, i1, i2, i3, hc⟩
      · have hE : F39 60 t0 = some 0 := by
          rcases heapsErr_eq 60 t0 h0.2 (by omega) (by omega) with ⟨_, h⟩ | ⟨i, i1, i2, _, _⟩
          · exact h
          · rw [g1 i i1] at i2; cases i2
        obtain ⟨b, c, hb, hc2, hR⟩ := next_par 60 t0 h0.2 (by omega) (by omega) g1
        rcases hR with ⟨rfl, rfl⟩ | ⟨L, hL, rfl, rfl⟩
        · refine ⟨([], 4), 0, ?_, hE, hc, ?_⟩
          · unfold F35
            rw [hc, Option.bind_some, if_neg (by decide), hb, Option.bind_some]
          · unfold F41
            rw [hc2, Option.bind_some]
            rfl
        · refine ⟨(L, 0), 0, ?_, hE, hc, ?_⟩
          · unfold F35
            rw [hc, Option.bind_some, if_neg (by decide), hb, Option.bind_some]
          · unfold F41
            rw [hc2, Option.bind_some]
            simp only [bne_self_eq_false, Bool.false_eq_true, if_false, Option.bind_some, Bool.not_true, beq_self_eq_true, if_true]
            rw [alike_eq 60 L L (by omega) (by omega), Option.bind_some, Option.bind_some]
            simp
      · have hE : F39 60 t0 = some 3 := by
          rcases heapsErr_eq 60 t0 h0.2 (by omega) (by omega) with ⟨h, _⟩ | ⟨_, _, _, _, h⟩
          · rw [h i i1] at i2; cases i2
          · exact h
        refine ⟨([], 3), 3, ?_, hE, hc, rfl⟩
        unfold F35
        rw [hc, Option.bind_some, if_pos (by decide)]
  rw [e1, Option.bind_some, e5, Option.bind_some, e9, Option.bind_some, e15, Option.bind_some, hP1, Option.bind_some]
  dsimp only
  rcases hP2 with ⟨hl, rfl⟩ | ⟨hl, g1, g2, g3, g4⟩
  · rw [if_pos (decide_eq_true hl), if_neg (by simp), Option.bind_some]
    dsimp only
    rw [e120, Option.bind_some, e124, Option.bind_some, if_neg (by simp)]
    exact hP3
  · rw [if_neg (mt of_decide_eq_true hl), if_neg (by rw [g1, g2]; simp), g3, Option.bind_some, Option.bind_some, if_neg (by decide), g4, Option.bind_some]
    dsimp only
    rw [Option.bind_some]
    dsimp only
    rw [e120, Option.bind_some, e124, Option.bind_some, if_neg (by simp)]
    exact hP3
end Go.Proofs.Ytdkmepeolmdccaa

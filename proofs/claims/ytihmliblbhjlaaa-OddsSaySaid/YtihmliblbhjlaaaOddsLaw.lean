/- What the functional texts of package odds answer. -/
import Derived.Test.YtihmliblbhjlaaaDef
import Derived.Test.YtihmliblbhjlaaaPureC
import Derived.Test.YtihmliblbhjlaaaOddsLib
import Derived.Test.YtihmliblbhjlaaaEqualLib
set_option linter.unusedVariables false
set_option linter.unusedSimpArgs false
namespace Go.Proofs.Ytihmliblbhjlaaa
open Go.Am

def badAt (V W : List Int) (i : Nat) : Bool := decide (nx 0 V i < -20) || (decide (nx 0 V i > 20) || (decide (nx 0 W i < 1) || decide (nx 0 W i > 100)))
def ochk (o : List Int × List Int) : Int := if o.1.length < 1 ∨ o.1.length > 12 then 2 else if o.2.length ≠ o.1.length then 3 else if (List.range o.1.length).any (badAt o.1 o.2) then 1 else 0

theorem any_range_none {n : Nat} {p : Nat → Bool} (h : ∀ i, i < n → p i = false) : (List.range n).any p = false := any_none fun x hx => h x (by simpa using hx)
theorem any_range_some {n i : Nat} {p : Nat → Bool} (hi : i < n) (h : p i = true) : (List.range n).any p = true := List.any_eq_true.2 ⟨i, by simpa using hi, h⟩

theorem maxbad (x : Int) (hx : inR .i64 x) : (decide (maxI x (wrapA .i64 (0 - x)) > 20) || decide (x < -20)) = (decide (x < -20) || decide (x > 20)) := by
  obtain ⟨h1, h2⟩ := inR64 hx
  by_cases h : x = -9223372036854775808
  · subst h; decide
  · rw [w64 (by omega) (by omega)]
    unfold maxI
    rw [Bool.eq_iff_iff]
    simp only [Bool.or_eq_true, decide_eq_true_eq]
    split <;> omega

theorem check_eq (F : Nat) (o : List Int × List Int) (hF : 13 ≤ F) : F17 F o = some (ochk o) := by
  obtain ⟨V, W⟩ := o
  unfold F17 ochk
  by_cases h1 : V.length < 1 ∨ V.length > 12
  · rw [if_pos h1, if_pos (by simp only [Bool.or_eq_true, decide_eq_true_eq]; omega)]
  · rw [if_neg h1, if_neg (by simp only [Bool.or_eq_true, decide_eq_true_eq]; omega)]
    by_cases h2 : W.length ≠ V.length
    · rw [if_pos h2, if_pos (by simp only [bne_iff_ne, ne_eq]; omega)]
    · rw [if_neg h2, if_neg (by simp only [bne_iff_ne, ne_eq]; omega)]
      have hl : W.length = V.length := by simpa using h2
      have hn : V.length ≤ 12 := by omega
      rcases seek_loop (step := F17_l0 F (V, W)) (F := F) V.length (badAt V W) (fun _ => 1) (fun i hi => by
        unfold F17_l0
        simp only
        rw [if_pos (decide_eq_true (by omega)), nx_get (d := 0) hi, nx_get (d := 0) (by omega : i < W.length), wsuc (by omega)]
        simp only [Option.bind_some]
        unfold badAt
        generalize decide (nx 0 V i < -20) = p1
        generalize decide (nx 0 V i > 20) = p2
        generalize decide (nx 0 W i < 1) = p3
        generalize decide (nx 0 W i > 100) = p4
        cases p1 <;> cases p2 <;> cases p3 <;> cases p4 <;> rfl) (by
        unfold F17_l0
        simp only
        rw [if_neg (by rw [decide_eq_true_eq]; omega)]) (by omega) with ⟨g1, g2⟩ | ⟨i, hi, g1, _, g2⟩
      · rw [g2, any_range_none g1]; rfl
      · rw [g2, any_range_some hi g1]; rfl
theorem err_eq (F : Nat) (o : List Int × List Int) (hF : 13 ≤ F) (hr : ∀ a ∈ o.1, inR .i64 a) : F16 F o = some (ochk o) := by
  obtain ⟨V, W⟩ := o
  unfold F16 ochk
  by_cases h1 : V.length < 1 ∨ V.length > 12
  · rw [if_pos h1, if_pos (by simp only [Bool.or_eq_true, decide_eq_true_eq, beq_iff_eq]; omega)]
  · rw [if_neg h1, if_neg (by simp only [Bool.or_eq_true, decide_eq_true_eq, beq_iff_eq]; omega)]
    by_cases h2 : W.length ≠ V.length
    · rw [if_pos h2, if_pos (by simp only [bne_iff_ne, ne_eq]; omega)]
    · rw [if_neg h2, if_neg (by simp only [bne_iff_ne, ne_eq]; omega)]
      have hl : W.length = V.length := by simpa using h2
      have hn : V.length ≤ 12 := by omega
      rcases seek_loop (step := F16_l0 F (V, W)) (F := F) V.length (badAt V W) (fun _ => 1) (fun i hi => by
        unfold F16_l0
        simp only
        rw [if_pos (decide_eq_true (by omega)), nx_get (d := 0) hi, nx_get (d := 0) (by omega : i < W.length), wsuc (by omega)]
        simp only [Option.bind_some]
        have hm := maxbad (nx 0 V i) (hr _ (nx_mem hi))
        unfold badAt
        generalize decide (maxI (nx 0 V i) (wrapA .i64 (0 - nx 0 V i)) > 20) = p0 at hm ⊢
        generalize decide (nx 0 V i < -20) = p1 at hm ⊢
        generalize decide (nx 0 V i > 20) = p2 at hm ⊢
        generalize decide (nx 0 W i < 1) = p3
        generalize decide (nx 0 W i > 100) = p4
        cases p0 <;> cases p1 <;> cases p2 <;> first | (cases hm; done) | (cases p3 <;> cases p4 <;> rfl)) (by
        unfold F16_l0
        simp only
        rw [if_neg (by rw [decide_eq_true_eq]; omega)]) (by omega) with ⟨g1, g2⟩ | ⟨i, hi, g1, _, g2⟩
      · rw [g2, any_range_none g1]; rfl
      · rw [g2, any_range_some hi g1]; rfl

/-- Right odds. -/
structure Good (V W : List Int) : Prop where
  lo : 1 ≤ V.length
  hi : V.length ≤ 12
  len : W.length = V.length
  v : ∀ i, i < V.length → -20 ≤ nx 0 V i ∧ nx 0 V i ≤ 20
  w : ∀ i, i < V.length → 1 ≤ nx 0 W i ∧ nx 0 W i ≤ 100
theorem ochk_good {V W : List Int} (h : ochk (V, W) = 0) : Good V W := by
  unfold ochk at h
  by_cases h1 : V.length < 1 ∨ V.length > 12
  · rw [if_pos h1] at h; cases h
  · rw [if_neg h1] at h
    by_cases h2 : W.length ≠ V.length
    · rw [if_pos h2] at h; cases h
    · rw [if_neg h2] at h
      have hb : ∀ i, i < V.length → badAt V W i = false := fun i hi => by
        cases hq : badAt V W i
        · rfl
        · rw [any_range_some hi hq] at h; cases h
      have hb' : ∀ i, i < V.length → (-20 ≤ nx 0 V i ∧ nx 0 V i ≤ 20) ∧ (1 ≤ nx 0 W i ∧ nx 0 W i ≤ 100) := fun i hi => by
        have := hb i hi
        unfold badAt at this
        simp only [Bool.or_eq_false_iff, decide_eq_false_iff_not] at this
        omega
      exact ⟨by omega, by omega, by simpa using h2, fun i hi => (hb' i hi).1, fun i hi => (hb' i hi).2⟩

theorem smB {f : Nat → Int} {B : Nat} : ∀ {k : Nat}, (∀ i, i < k → (f i).natAbs ≤ B) → (sm k f).natAbs ≤ B * k
  | 0, _ => by simp [sm]
  | k + 1, h => by
    have h1 := smB (k := k) (fun i hi => h i (by omega))
    have h2 := h k (by omega)
    rw [sm_succ, Nat.mul_add]
    omega
theorem mulAbs {a b : Int} {A B : Nat} (ha : a.natAbs ≤ A) (hb : b.natAbs ≤ B) : (a * b).natAbs ≤ A * B := by
  rw [Int.natAbs_mul]; exact Nat.mul_le_mul ha hb

/-- A loop that sums. -/
theorem sum_gen {β : Type} {step : Int × Int → Option (Stp (Int × Int) β)} {F n : Nat} (g : Nat → Int) (out : Int → β) (hn : n ≤ 12) (hF : 13 ≤ F) (hb : ∀ i, i < n → (g i).natAbs ≤ 1000000000000)
    (hs : ∀ (i : Nat) (s : Int), i < n → step (s, (i : Int)) = some (.more (wrapA .i64 (s + g i), ((i + 1 : Nat) : Int))))
    (he : ∀ s : Int, step (s, (n : Int)) = some (.stop (out s))) : iter step F (0, 0) = some (out (sm n g)) := by
  have := iter_count (step := step) (F := F) (P := fun i => (sm i g, (i : Int))) n (fun i hi => by
    have h1 := smB (f := g) (B := 1000000000000) (k := i) (fun j hj => hb j (by omega))
    have h2 := hb i hi
    rw [hs i _ hi, w64 (by omega) (by omega)]; rfl) (he _) (by omega)
  exact this

section good
variable {V W : List Int} {F : Nat}
def wv (V W : List Int) (i : Nat) : Int := nx 0 W i * nx 0 V i
def wvv (V W : List Int) (i : Nat) : Int := nx 0 W i * (nx 0 V i * nx 0 V i)
def TN (V W : List Int) : Int := sm V.length (nx 0 W)
def TS (V W : List Int) : Int := sm V.length (wv V W)
def TQ (V W : List Int) : Int := sm V.length (wvv V W)
theorem Good.wvB (h : Good V W) {i : Nat} (hi : i < V.length) : (wv V W i).natAbs ≤ 2000 := by
  have := h.v i hi; have := h.w i hi
  exact mulAbs (A := 100) (B := 20) (by omega) (by omega)
theorem Good.vvB (h : Good V W) {i : Nat} (hi : i < V.length) : (nx 0 V i * nx 0 V i).natAbs ≤ 400 := by
  have := h.v i hi
  exact mulAbs (A := 20) (B := 20) (by omega) (by omega)
theorem Good.wvvB (h : Good V W) {i : Nat} (hi : i < V.length) : (wvv V W i).natAbs ≤ 40000 := by
  have := h.w i hi
  exact mulAbs (A := 100) (B := 400) (by omega) (h.vvB hi)
theorem Good.TNb (h : Good V W) : 1 ≤ TN V W ∧ TN V W ≤ 1200 := by
  have h1 := sm_bound (f := nx 0 W) (B := 100) (k := V.length) (fun i hi => by have := h.w i hi; omega)
  have h2 := sm_term (f := nx 0 W) (k := V.length) (c := 0) (fun i hi => by have := h.w i hi; omega) (by have := h.lo; omega)
  have h3 := h.w 0 (by have := h.lo; omega)
  have := h.hi
  unfold TN
  omega
theorem Good.TSb (h : Good V W) : (TS V W).natAbs ≤ 24000 := by
  have := smB (f := wv V W) (B := 2000) (k := V.length) (fun i hi => h.wvB hi)
  have := h.hi
  unfold TS; omega
theorem Good.TQb (h : Good V W) : 0 ≤ TQ V W ∧ TQ V W ≤ 480000 := by
  have h0 : ∀ i, i < V.length → 0 ≤ wvv V W i := fun i hi => Int.mul_nonneg (by have := h.w i hi; omega) (by
    have : 0 ≤ nx 0 V i * nx 0 V i := by
      rcases Int.le_total 0 (nx 0 V i) with q | q
      · exact Int.mul_nonneg q q
      · exact Int.mul_nonneg_of_nonpos_of_nonpos q q
    exact this)
  have := sm_bound (f := wvv V W) (B := 40000) (k := V.length) (fun i hi => ⟨h0 i hi, by have := h.wvvB hi; omega⟩)
  have := h.hi
  unfold TQ; omega
/-! What each sum of the program is. -/
theorem Good.one (h : Good V W) (hF : 13 ≤ F) : F88_90 F (V, W) = some (TN V W) := by
  unfold F88_90
  rw [sum_gen (n := V.length) (nx 0 W) id h.hi hF (fun i hi => by have := h.w i hi; omega) (fun i s hi => by
    unfold F88_90_l0
    have hw := h.w i hi
    have hv := h.v i hi
    have hb := h.wvB hi
    have hc := h.vvB hi
    have hd := h.wvvB hi
    have hn := h.hi
    simp only
    rw [if_pos (decide_eq_true (by omega)), nx_get (d := 0) hi, nx_get (d := 0) (by have := h.len; omega : i < W.length)]
    simp only [Option.bind_some, F90]
    rw [Int.mul_one, w64 (a := nx 0 W i) (by omega) (by omega), wsuc (by omega)]) (fun s => by
    unfold F88_90_l0
    simp only
    rw [if_neg (by rw [decide_eq_true_eq]; omega)]; rfl)]
  rfl
theorem Good.mean (h : Good V W) (hF : 13 ≤ F) : F88_89 F (V, W) = some (TS V W) := by
  unfold F88_89
  rw [sum_gen (n := V.length) (wv V W) id h.hi hF (fun i hi => by have := h.wvB hi; omega) (fun i s hi => by
    unfold F88_89_l0
    have hw := h.w i hi
    have hv := h.v i hi
    have hb := h.wvB hi
    have hc := h.vvB hi
    have hd := h.wvvB hi
    have hn := h.hi
    simp only
    rw [if_pos (decide_eq_true (by omega)), nx_get (d := 0) hi, nx_get (d := 0) (by have := h.len; omega : i < W.length)]
    simp only [Option.bind_some, F89]
    rw [show nx 0 W i * nx 0 V i = wv V W i from rfl, w64 (a := wv V W i) (by omega) (by omega), wsuc (by omega)]) (fun s => by
    unfold F88_89_l0
    simp only
    rw [if_neg (by rw [decide_eq_true_eq]; omega)]; rfl)]
  rfl
theorem Good.spr1 (h : Good V W) (hF : 13 ≤ F) : F88_91 F (V, W) = some (TS V W) := by
  unfold F88_91
  rw [sum_gen (n := V.length) (wv V W) id h.hi hF (fun i hi => by have := h.wvB hi; omega) (fun i s hi => by
    unfold F88_91_l0
    have hw := h.w i hi
    have hv := h.v i hi
    have hb := h.wvB hi
    have hc := h.vvB hi
    have hd := h.wvvB hi
    have hn := h.hi
    simp only
    rw [if_pos (decide_eq_true (by omega)), nx_get (d := 0) hi, nx_get (d := 0) (by have := h.len; omega : i < W.length)]
    simp only [Option.bind_some, F91]
    rw [show nx 0 W i * nx 0 V i = wv V W i from rfl, w64 (a := wv V W i) (by omega) (by omega), wsuc (by omega)]) (fun s => by
    unfold F88_91_l0
    simp only
    rw [if_neg (by rw [decide_eq_true_eq]; omega)]; rfl)]
  rfl
theorem Good.spr2 (h : Good V W) (hF : 13 ≤ F) : F88_92 F (V, W) = some (TQ V W) := by
  unfold F88_92
  rw [sum_gen (n := V.length) (wvv V W) id h.hi hF (fun i hi => by have := h.wvvB hi; omega) (fun i s hi => by
    unfold F88_92_l0
    have hw := h.w i hi
    have hv := h.v i hi
    have hb := h.wvB hi
    have hc := h.vvB hi
    have hd := h.wvvB hi
    have hn := h.hi
    simp only
    rw [if_pos (decide_eq_true (by omega)), nx_get (d := 0) hi, nx_get (d := 0) (by have := h.len; omega : i < W.length)]
    simp only [Option.bind_some, F92]
    rw [w64 (a := nx 0 V i * nx 0 V i) (by omega) (by omega), show nx 0 W i * (nx 0 V i * nx 0 V i) = wvv V W i from rfl, w64 (a := wvv V W i) (by omega) (by omega), wsuc (by omega)]) (fun s => by
    unfold F88_92_l0
    simp only
    rw [if_neg (by rw [decide_eq_true_eq]; omega)]; rfl)]
  rfl
def farAt (V W : List Int) (c : Int) (i : Nat) : Int := if nx 0 V i ≥ c then nx 0 W i else 0
def TF (V W : List Int) (c : Int) : Int := sm V.length (farAt V W c)
theorem Good.farB (h : Good V W) (c : Int) {i : Nat} (hi : i < V.length) : 0 ≤ farAt V W c i ∧ farAt V W c i ≤ 100 := by
  have := h.w i hi
  unfold farAt; split <;> omega
theorem Good.TFb (h : Good V W) (c : Int) : 0 ≤ TF V W c ∧ TF V W c ≤ 1200 := by
  have := sm_bound (f := farAt V W c) (B := 100) (k := V.length) (fun i hi => h.farB c hi)
  have := h.hi
  unfold TF; omega
theorem Good.far (h : Good V W) (c : Int) (hF : 13 ≤ F) : F88_93 F (V, W) c = some (TF V W c) := by
  unfold F88_93
  rw [sum_gen (n := V.length) (farAt V W c) id h.hi hF (fun i hi => by have := h.farB c hi; omega) (fun i s hi => by
    unfold F88_93_l0
    have hw := h.w i hi
    have hv := h.v i hi
    have hb := h.wvB hi
    have hc := h.vvB hi
    have hd := h.wvvB hi
    have hn := h.hi
    simp only
    rw [if_pos (decide_eq_true (by omega)), nx_get (d := 0) hi, nx_get (d := 0) (by have := h.len; omega : i < W.length)]
    simp only [Option.bind_some, F93]
    have hf := h.farB c hi
    have e : ((if decide (nx 0 V i ≥ c) = true then some 1 else some 0 : Option Int).bind fun r15 => some (Stp.more ((wrapA .i64 (s + wrapA .i64 (nx 0 W i * r15)), wrapA .i64 ((i : Int) + 1)) : Int × Int)) : Option (Stp (Int × Int) Int)) = some (.more (wrapA .i64 (s + farAt V W c i), ((i + 1 : Nat) : Int))) := by
      unfold farAt
      rw [wsuc (by omega)]
      by_cases q : nx 0 V i ≥ c
      · rw [if_pos (decide_eq_true q), if_pos q, Option.bind_some, Int.mul_one, w64 (a := nx 0 W i) (by omega) (by omega)]
      · rw [if_neg (by rw [decide_eq_true_eq]; exact q), if_neg q, Option.bind_some, Int.mul_zero]; rfl
    exact e) (fun s => by
    unfold F88_93_l0
    simp only
    rw [if_neg (by rw [decide_eq_true_eq]; omega)]; rfl)]
  rfl
theorem Good.oddsSum (h : Good V W) (hF : 13 ≤ F) : F18 F (V, W) = some (TN V W, TS V W) := by
  unfold F18
  have hn := h.hi
  have := iter_count (step := F18_l0 F (V, W)) (F := F) (P := fun i => (sm i (nx 0 W), sm i (wv V W), (i : Int))) (b := (TN V W, TS V W)) V.length (fun i hi => by
    have hw := h.w i hi
    have hb := h.wvB hi
    have h1 := smB (f := wv V W) (B := 2000) (k := i) (fun j hj => h.wvB (by omega))
    have h2 := smB (f := nx 0 W) (B := 100) (k := i) (fun j hj => by have := h.w j (by omega); omega)
    unfold F18_l0
    simp only
    rw [if_pos (decide_eq_true (by have := h.len; omega)), nx_get (d := 0) hi, nx_get (d := 0) (by have := h.len; omega : i < W.length)]
    simp only [Option.bind_some]
    rw [show nx 0 W i * nx 0 V i = wv V W i from rfl, w64 (a := wv V W i) (by omega) (by omega), w64 (by omega) (by omega), w64 (by omega) (by omega), wsuc (by omega)]
    rfl) (by
    unfold F18_l0
    simp only
    rw [if_neg (by rw [decide_eq_true_eq]; have := h.len; omega)]; rfl) (by omega)
  rw [show ((0, 0, 0) : Int × Int × Int) = ((fun i : Nat => (sm i (nx 0 W), sm i (wv V W), (i : Int))) 0) from rfl, this]
  rfl

theorem whole_low (F : Nat) (p q : Int) (hq : 0 < q) (hq2 : q ≤ 1000000000) (h1 : -1000000000 ≤ p) (h2 : p ≤ 1000000000) (hF : 1000000001 ≤ F) : F19 F p q = some (lowS p q).1 := by
  unfold F19
  rw [ratioOf_eq F p q (by omega) (by omega) (by omega) (by omega) (by omega) (by omega), if_neg (by omega)]
  rfl
theorem make_low (F : Nat) (p q : Int) (hq : 0 < q) (hq2 : q ≤ 1000000000) (h1 : -1000000000 ≤ p) (h2 : p ≤ 1000000000) (hF : 1000000001 ≤ F) : F87 F p q = some ((lowS p q).1, 0) := by
  rw [make_eq F p q hF, if_neg (by omega), if_neg (by omega), if_neg (by omega)]
  have := low_fine p q hq hq2 h1 h2
  rw [← this]
theorem Good.Mean (h : Good V W) (hF : 2000000000 ≤ F) (hz : ochk (V, W) = 0) : F12 F (V, W) = some ((lowS (TS V W) (TN V W)).1, 0) := by
  unfold F12
  have h1 := h.TNb
  have h2 := h.TSb
  simp only
  rw [check_eq F _ (by omega), hz, Option.bind_some, if_neg (by decide), h.mean (by omega), Option.bind_some, h.one (by omega), Option.bind_some, make_low F _ _ (by omega) (by omega) (by omega) (by omega) (by omega)]
  rfl
theorem Good.Beyond (h : Good V W) (c : Int) (hF : 2000000000 ≤ F) (hz : ochk (V, W) = 0) : F14 F (V, W) c = some ((lowS (TF V W c) (TN V W)).1, 0) := by
  unfold F14
  have h1 := h.TNb
  have h2 := h.TFb c
  simp only
  rw [check_eq F _ (by omega), hz, Option.bind_some, if_neg (by decide), h.far c (by omega), Option.bind_some, h.one (by omega), Option.bind_some, make_low F _ _ (by omega) (by omega) (by omega) (by omega) (by omega)]
  rfl

/-! ### The spread -/
def TD (V W : List Int) (i : Nat) : Int := nx 0 W i * (TN V W * nx 0 V i - TS V W) * (TN V W * nx 0 V i - TS V W)
def TP (V W : List Int) : Int := TN V W * TQ V W - TS V W * TS V W
theorem TD_sum (V W : List Int) : ∀ k, sm k (TD V W) = TN V W * TN V W * sm k (wvv V W) - (2 * TN V W * TS V W) * sm k (wv V W) + TS V W * TS V W * sm k (nx 0 W)
  | 0 => by simp [sm]
  | k + 1 => by
    rw [sm_succ, sm_succ, sm_succ, sm_succ, TD_sum V W k]
    unfold TD wvv wv
    grind
theorem TD_all (V W : List Int) : sm V.length (TD V W) = TN V W * TP V W := by
  rw [TD_sum]
  unfold TP
  rw [show sm V.length (wvv V W) = TQ V W from rfl, show sm V.length (wv V W) = TS V W from rfl, show sm V.length (nx 0 W) = TN V W from rfl]
  grind
theorem Good.TDb (h : Good V W) {i : Nat} (hi : i < V.length) : 0 ≤ TD V W i ∧ (TD V W i).natAbs ≤ 230400000000 := by
  have hw := h.w i hi
  have hv := h.v i hi
  have h1 := h.TNb
  have h2 := h.TSb
  have h3 : (TN V W * nx 0 V i).natAbs ≤ 24000 := mulAbs (A := 1200) (B := 20) (by omega) (by omega)
  have h4 : (TN V W * nx 0 V i - TS V W).natAbs ≤ 48000 := by omega
  unfold TD
  generalize TN V W * nx 0 V i - TS V W = d at h4 ⊢
  have h5 : (nx 0 W i * d).natAbs ≤ 4800000 := mulAbs (A := 100) (B := 48000) (by omega) h4
  refine ⟨?_, mulAbs (A := 4800000) (B := 48000) h5 h4⟩
  rw [Int.mul_assoc]
  refine Int.mul_nonneg (by omega) ?_
  rcases Int.le_total 0 d with q | q
  · exact Int.mul_nonneg q q
  · exact Int.mul_nonneg_of_nonpos_of_nonpos q q
theorem Good.TPb (h : Good V W) : 0 ≤ TP V W ∧ TP V W ≤ 576000000 ∧ TN V W * TQ V W ≤ 576000000 ∧ 0 ≤ TN V W * TQ V W ∧ (TS V W * TS V W).natAbs ≤ 576000000 := by
  have h1 := h.TNb
  have h2 := h.TSb
  have h3 := h.TQb
  have h0 : 0 ≤ TN V W * TP V W := by rw [← TD_all]; exact sm_nonneg fun i hi => (h.TDb hi).1
  have h4 : (TN V W * TQ V W).natAbs ≤ 1200 * 480000 := mulAbs (by omega) (by omega)
  have h5 : (TS V W * TS V W).natAbs ≤ 24000 * 24000 := mulAbs h2 h2
  have h6 : 0 ≤ TN V W * TQ V W := Int.mul_nonneg (by omega) (by omega)
  have h7 : 0 ≤ TS V W * TS V W := by
    rcases Int.le_total 0 (TS V W) with q | q
    · exact Int.mul_nonneg q q
    · exact Int.mul_nonneg_of_nonpos_of_nonpos q q
  have h8 : 0 ≤ TP V W := by
    by_cases q : TP V W < 0
    · exfalso
      have := Int.mul_neg_of_pos_of_neg (a := TN V W) (b := TP V W) (by omega) q
      omega
    · omega
  refine ⟨h8, ?_, by omega, h6, by omega⟩
  unfold TP; omega
theorem sprLoop (F : Nat) (r16 r20 r24 : Int) (z : Int × Int) : ∀ (b a G : Nat), b < G → iter (F13_l0 F r16 r20 r24) G ((a : Int), (b : Int), z) = iter (F13_l0 F r16 r20 r24) 1 (((Nat.gcd a b : Nat) : Int), 0, z) := by
  intro b
  induction b using Nat.strongRecOn with
  | _ b ih =>
    intro a G hG
    obtain ⟨G, rfl⟩ : ∃ q, G = q + 1 := ⟨G - 1, by omega⟩
    by_cases h0 : b = 0
    · subst h0
      have e : ∀ H (y : Int), iter (F13_l0 F r16 r20 r24) (H + 1) (y, 0, z) = iter (F13_l0 F r16 r20 r24) 1 (y, 0, z) := by
        intro H y
        simp only [iter]
        unfold F13_l0
        simp only [beq_self_eq_true, if_true]
        cases quo? .i64 (wrapA .i64 (wrapA .i64 (r16 * r24) - wrapA .i64 (r20 * r20))) y with
        | none => rfl
        | some x =>
          simp only [Option.bind_some]
          cases quo? .i64 (wrapA .i64 (r16 * r16)) y with
          | none => rfl
          | some x2 =>
            simp only [Option.bind_some]
            cases F87 F x x2 with
            | none => rfl
            | some q => rfl
      rw [Nat.gcd_zero_right]
      exact e G _
    · have hs : F13_l0 F r16 r20 r24 ((a : Int), (b : Int), z) = some (.more ((b : Int), ((a % b : Nat) : Int), z)) := by
        unfold F13_l0
        simp only
        rw [if_neg (by simp; omega)]
        unfold rem?
        rw [if_neg (by omega), tmod_nat]
        rfl
      rw [iter_more hs, ih (a % b) (Nat.mod_lt _ (by omega)) b G (by have := Nat.mod_lt a (by omega : 0 < b); omega)]
      rw [Nat.gcd_comm b (a % b), ← Nat.gcd_rec, Nat.gcd_comm b a]
def spr (p q : Nat) : Int × Int := (((p / Nat.gcd p q : Nat) : Int), ((q / Nat.gcd p q : Nat) : Int))
theorem low_gcd {p q : Nat} (hq : 0 < q) (hp : p ≤ 1000000000) (hq2 : q ≤ 1000000000) : lowS ((p / Nat.gcd p q : Nat) : Int) ((q / Nat.gcd p q : Nat) : Int) = (spr p q, 0) := by
  have hg : 0 < Nat.gcd p q := Nat.gcd_pos_of_pos_right _ hq
  have h1 := Nat.div_le_self p (Nat.gcd p q)
  have h2 := Nat.div_le_self q (Nat.gcd p q)
  have h3 : Nat.gcd (p / Nat.gcd p q) (q / Nat.gcd p q) = 1 := Nat.coprime_div_gcd_div_gcd hg
  unfold lowS spr
  simp only [Int.natAbs_natCast, h3, Int.natCast_one, Int.tdiv_one]
  generalize p / Nat.gcd p q = a at h1 ⊢
  generalize q / Nat.gcd p q = b at h2 ⊢
  rw [if_neg (by omega)]
theorem Good.Spread (h : Good V W) (hF : 2000000000 ≤ F) (hz : ochk (V, W) = 0) : F13 F (V, W) = some (spr (TP V W).toNat (TN V W * TN V W).toNat, 0) := by
  have h1 := h.TNb
  have h2 := h.TPb
  have hq : 0 < TN V W * TN V W := Int.mul_pos (by omega) (by omega)
  have hq2 : (TN V W * TN V W).natAbs ≤ 1200 * 1200 := mulAbs (by omega) (by omega)
  unfold F13
  simp only
  rw [check_eq F _ (by omega), hz, Option.bind_some, if_neg (by decide), h.one (by omega), Option.bind_some, h.spr1 (by omega), Option.bind_some, h.spr2 (by omega), Option.bind_some]
  rw [w64 (a := TN V W * TQ V W) (by omega) (by omega), w64 (a := TS V W * TS V W) (by omega) (by omega), w64 (a := TN V W * TN V W) (by omega) (by omega)]
  rw [show TN V W * TQ V W - TS V W * TS V W = TP V W from rfl, w64 (a := TP V W) (by omega) (by omega)]
  have hg : 0 < Nat.gcd (TP V W).toNat (TN V W * TN V W).toNat := Nat.gcd_pos_of_pos_right _ (by omega)
  have hl := sprLoop F (TN V W) (TS V W) (TQ V W) (0, 0) (TN V W * TN V W).toNat (TP V W).toNat F (by omega)
  rw [show (((TP V W).toNat : Nat) : Int) = TP V W from by omega, show (((TN V W * TN V W).toNat : Nat) : Int) = TN V W * TN V W from by omega] at hl
  rw [hl]
  have hs : F13_l0 F (TN V W) (TS V W) (TQ V W) (((Nat.gcd (TP V W).toNat (TN V W * TN V W).toNat : Nat) : Int), 0, (0, 0)) = some (.stop (0, spr (TP V W).toNat (TN V W * TN V W).toNat)) := by
    unfold F13_l0
    simp only
    rw [if_pos (by decide), w64 (a := TN V W * TQ V W) (by omega) (by omega), w64 (a := TS V W * TS V W) (by omega) (by omega), w64 (a := TN V W * TN V W) (by omega) (by omega)]
    rw [show TN V W * TQ V W - TS V W * TS V W = TP V W from rfl, w64 (a := TP V W) (by omega) (by omega)]
    generalize hP : (TP V W).toNat = P at *
    generalize hQ : (TN V W * TN V W).toNat = Q at *
    rw [show TP V W = (P : Int) from by omega, show TN V W * TN V W = (Q : Int) from by omega]
    have g1 := Nat.div_le_self P (Nat.gcd P Q)
    have g2 := Nat.div_le_self Q (Nat.gcd P Q)
    have g3 : 0 < Q / Nat.gcd P Q := Nat.div_pos (Nat.gcd_le_right _ (by omega)) hg
    unfold quo?
    rw [if_neg (by omega), if_neg (by omega), tdiv_nat, tdiv_nat, wnat (by omega), wnat (by omega)]
    simp only [Option.bind_some]
    have hm : F87 F ((P / Nat.gcd P Q : Nat) : Int) ((Q / Nat.gcd P Q : Nat) : Int) = some ((lowS ((P / Nat.gcd P Q : Nat) : Int) ((Q / Nat.gcd P Q : Nat) : Int)).1, 0) := by
      generalize P / Nat.gcd P Q = a at g1 ⊢
      generalize Q / Nat.gcd P Q = b at g2 g3 ⊢
      exact make_low F _ _ (by omega) (by omega) (by omega) (by omega) (by omega)
    rw [hm, low_gcd (by omega) (by omega) (by omega)]
    rfl
  simp only [iter, hs]
  rfl
theorem Good.SpreadOf (h : Good V W) (hF : 2000000000 ≤ F) : F20 F (V, W) = some (spr (TP V W).toNat (TN V W * TN V W).toNat) := by
  have h1 := h.TNb
  have h2 := h.TPb
  have h3 := h.TSb
  have hn := h.hi
  have hq : 0 < TN V W * TN V W := Int.mul_pos (by omega) (by omega)
  have hq2 : (TN V W * TN V W).natAbs ≤ 1200 * 1200 := mulAbs (by omega) (by omega)
  have hc : (TN V W * TN V W * TN V W).natAbs ≤ 1440000 * 1200 := mulAbs (by omega) (by omega)
  have hc0 : 0 < TN V W * TN V W * TN V W := Int.mul_pos hq (by omega)
  have ha : (TN V W * TP V W).natAbs ≤ 1200 * 576000000 := mulAbs (by omega) (by omega)
  have ha0 : 0 ≤ TN V W * TP V W := Int.mul_nonneg (by omega) (by omega)
  unfold F20
  simp only
  rw [h.oddsSum (by omega), Option.bind_some]
  rw [sum_gen (step := F20_l0 F (V, W) (TN V W, TS V W)) (n := V.length) (TD V W) id hn (by omega) (fun i hi => by have := h.TDb hi; omega) (fun i s hi => by
    have hw := h.w i hi
    have hv := h.v i hi
    have g3 : (TN V W * nx 0 V i).natAbs ≤ 1200 * 20 := mulAbs (by omega) (by omega)
    have g4 : (TN V W * nx 0 V i - TS V W).natAbs ≤ 48000 := by omega
    have g5 : (nx 0 W i * (TN V W * nx 0 V i - TS V W)).natAbs ≤ 100 * 48000 := mulAbs (by omega) g4
    have g6 := (h.TDb hi).2
    unfold F20_l0
    simp only
    rw [if_pos (decide_eq_true (by have := h.len; omega)), nx_get (d := 0) hi, nx_get (d := 0) (by have := h.len; omega : i < W.length)]
    simp only [Option.bind_some]
    rw [w64 (a := TN V W * nx 0 V i) (by omega) (by omega), w64 (a := TN V W * nx 0 V i - TS V W) (by omega) (by omega), w64 (a := nx 0 W i * (TN V W * nx 0 V i - TS V W)) (by omega) (by omega)]
    rw [show nx 0 W i * (TN V W * nx 0 V i - TS V W) * (TN V W * nx 0 V i - TS V W) = TD V W i from rfl, w64 (a := TD V W i) (by omega) (by omega), wsuc (by omega)]) (fun s => by
    unfold F20_l0
    simp only
    rw [if_neg (by rw [decide_eq_true_eq]; have := h.len; omega)]; rfl), id, Option.bind_some, TD_all]
  rw [w64 (a := TN V W * TN V W) (by omega) (by omega), w64 (a := TN V W * TN V W * TN V W) (by omega) (by omega)]
  rw [common_eq F _ _ (by omega) (by omega) (by omega) (by omega) (by omega), Option.bind_some]
  generalize hP : (TP V W).toNat = P
  generalize hM : (TN V W).toNat = M
  have eP : TP V W = (P : Int) := by omega
  have eM : TN V W = (M : Int) := by omega
  have eQ : (TN V W * TN V W).toNat = M * M := by rw [eM, ← Int.natCast_mul, Int.toNat_natCast]
  rw [eQ]
  have hMp : 0 < M := by omega
  rw [eP, eM] at ha
  rw [eM] at hc hq2
  rw [eP, eM]
  simp only [← Int.natCast_mul, Int.natAbs_natCast] at ha hc hq2 ⊢
  have eg : Nat.gcd (M * P) (M * M * M) = M * Nat.gcd P (M * M) := by rw [Nat.mul_assoc, Nat.gcd_mul_left]
  have hg : 0 < Nat.gcd P (M * M) := Nat.gcd_pos_of_pos_right _ (Nat.mul_pos hMp hMp)
  have hgm : 0 < M * Nat.gcd P (M * M) := Nat.mul_pos hMp hg
  rw [eg]
  have d1 : M * P / (M * Nat.gcd P (M * M)) = P / Nat.gcd P (M * M) := Nat.mul_div_mul_left _ _ hMp
  have d2 : M * M * M / (M * Nat.gcd P (M * M)) = M * M / Nat.gcd P (M * M) := by rw [Nat.mul_assoc, Nat.mul_div_mul_left _ _ hMp]
  have l1 := Nat.div_le_self P (Nat.gcd P (M * M))
  have l2 := Nat.div_le_self (M * M) (Nat.gcd P (M * M))
  unfold quo?
  rw [if_neg (by omega), if_neg (by omega), tdiv_nat, tdiv_nat, d1, d2, wnat (by omega), wnat (by omega)]
  rfl
end good
end Go.Proofs.Ytihmliblbhjlaaa

/- Alias tables: what Build makes. -/
import Derived.Test.YtihmliblbhjlaaaDef
import Derived.Test.YtihmliblbhjlaaaPureC
set_option linter.unusedVariables false
set_option linter.unusedSimpArgs false
namespace Go.Proofs.Ytihmliblbhjlaaa
open Go.Am

/-! ### Weights -/
structure GoodW (w : List Int) (S : Int) : Prop where
  l1 : 1 ≤ w.length
  l12 : w.length ≤ 12
  rng : ∀ i, i < w.length → 0 ≤ nx 0 w i ∧ nx 0 w i ≤ 100
  sum : sm w.length (nx 0 w) = S
  ne : S ≠ 0
theorem GoodW.S {w : List Int} {S : Int} (g : GoodW w S) : 1 ≤ S ∧ S ≤ 1200 := by
  have h := sm_bound g.rng
  have := g.l12
  have := g.ne
  rw [g.sum] at h
  omega
theorem weights_one (F : Nat) (w : List Int) (hF : 20 ≤ F) : (∃ e : Int, e ≠ 0 ∧ F146 F w = some e) ∨ ∃ S, F146 F w = some 0 ∧ GoodW w S := by
  unfold F146
  by_cases hl : w.length < 1 ∨ w.length > 12
  · left
    rw [if_pos (by rw [Bool.or_eq_true, decide_eq_true_eq, decide_eq_true_eq]; omega)]
    exact ⟨2, by decide, rfl⟩
  · rw [if_neg (by rw [Bool.or_eq_true, decide_eq_true_eq, decide_eq_true_eq]; omega)]
    obtain ⟨b, h1, hR⟩ := iter_inv (step := F146_l0 F w) (I := fun s : Int × Int => ∃ i : Nat, s = (sm i (nx 0 w), (i : Int)) ∧ i ≤ w.length ∧ ∀ k, k < i → 0 ≤ nx 0 w k ∧ nx 0 w k ≤ 100) (μ := fun s : Int × Int => w.length - s.2.toNat)
      (Q := fun b => b = .inr 1 ∨ (b = .inl (sm w.length (nx 0 w)) ∧ ∀ k, k < w.length → 0 ≤ nx 0 w k ∧ nx 0 w k ≤ 100)) (by
        rintro _ ⟨i, rfl, hi, hr⟩
        have hb := sm_bound hr
        unfold F146_l0
        simp only
        by_cases hlt : i < w.length
        · have hlt' : decide ((i : Int) < (w.length : Int)) = true := decide_eq_true (by omega)
          simp only [if_pos hlt']
          rw [nx_get (d := 0) hlt]
          simp only [Option.bind_some]
          by_cases hx : nx 0 w i < 0 ∨ nx 0 w i > 100
          · right
            have hx' : (decide (nx 0 w i < 0) || decide (nx 0 w i > 100)) = true := by simpa using hx
            simp only [if_pos hx']
            exact ⟨_, rfl, .inl rfl⟩
          · left
            have hx' : ¬ (decide (nx 0 w i < 0) || decide (nx 0 w i > 100)) = true := by simpa using hx
            simp only [if_neg hx']
            rw [w64 (a := sm i (nx 0 w) + nx 0 w i) (by omega) (by omega), w64 (by omega) (by omega)]
            refine ⟨_, rfl, ⟨i + 1, rfl, hlt, fun k hk => ?_⟩, by simp only; omega⟩
            by_cases e : k = i
            · subst e; omega
            · exact hr k (by omega)
        · right
          have e : i = w.length := by omega
          subst e
          have hlt' : ¬ decide ((w.length : Int) < (w.length : Int)) = true := by simp
          simp only [if_neg hlt']
          exact ⟨_, rfl, .inr ⟨rfl, hr⟩⟩) F (0, 0) ⟨0, rfl, by omega, by omega⟩ (by simp only; omega)
    rw [h1]
    rcases hR with rfl | ⟨rfl, hr⟩
    · exact .inl ⟨1, by decide, rfl⟩
    · simp only [Option.bind_some]
      by_cases h0 : sm w.length (nx 0 w) = 0
      · left
        rw [if_pos (by simpa using h0)]
        exact ⟨5, by decide, rfl⟩
      · right
        rw [if_neg (by simpa using h0)]
        exact ⟨_, rfl, by omega, by omega, hr, rfl, h0⟩

/-! ### Tables -/
abbrev cl (l : List (Int × Int)) (i : Nat) : Int × Int := nx (0, 0) l i
def colBad (S : Int) (n : Nat) (l : List (Int × Int)) (j : Nat) : Bool := (((decide ((cl l j).1 < 0)) || (decide ((cl l j).1 > S))) || (decide ((cl l j).2 < 0))) || (decide ((cl l j).2 ≥ (n : Int)))
theorem colBad_no {S : Int} {n : Nat} {l : List (Int × Int)} {j : Nat} (h : colBad S n l j = false) : 0 ≤ (cl l j).1 ∧ (cl l j).1 ≤ S ∧ 0 ≤ (cl l j).2 ∧ (cl l j).2 < n := by
  simp only [colBad, Bool.or_eq_false_iff, decide_eq_false_iff_not] at h
  omega
/-- What others give to place i. -/
def gv (S : Int) (l : List (Int × Int)) (k i : Nat) : Int := sm k fun j => if (cl l j).2 = i then S - (cl l j).1 else 0
theorem gv_le {S : Int} {n : Nat} {l : List (Int × Int)} {k : Nat} (hk : k ≤ 12) (hS : 1 ≤ S ∧ S ≤ 1200) (h : ∀ j, j < k → colBad S n l j = false) (i : Nat) : 0 ≤ gv S l k i ∧ gv S l k i ≤ 14400 := by
  have := sm_bound (f := fun j => if (cl l j).2 = (i : Int) then S - (cl l j).1 else 0) (B := 1200) (k := k) (fun j hj => by
    have := colBad_no (h j hj)
    split <;> omega)
  unfold gv; omega
def tblBad (w : List Int) (S : Int) (l : List (Int × Int)) (i : Nat) : Bool := (cl l i).1 + gv S l l.length i != nx 0 w i * (w.length : Int)
/-- The answer about a table. -/
def tblR (w : List Int) (S : Int) (l : List (Int × Int)) : Bool × Bool :=
  if (List.range w.length).any (colBad S w.length l) then (false, false) else if (List.range w.length).any (tblBad w S l) then (false, true) else (true, true)
theorem any_no {n : Nat} {p : Nat → Bool} (h : ∀ i, i < n → p i = false) : (List.range n).any p = false := any_none fun x hx => h x (by simpa using hx)
theorem any_yes {n i : Nat} {p : Nat → Bool} (hi : i < n) (h : p i = true) : (List.range n).any p = true := List.any_eq_true.2 ⟨i, by simpa using hi, h⟩

theorem sumW (F : Nat) (w : List Int) (S : Int) (g : GoodW w S) (hF : 20 ≤ F) (step : Int × Int → Option (Stp (Int × Int) Int))
    (hs : ∀ s : Int × Int, step s = if (decide (s.2 < (w.length : Int))) then ((at? w s.2).bind fun x12 => some (.more (((wrapA .i64 (s.1 + x12)), (wrapA .i64 (s.2 + 1)))))) else some (.stop s.1)) : iter step F (0, 0) = some S := by
  have h12 := g.l12
  refine iter_count (step := step) (fun i => (sm i (nx 0 w), (i : Int))) w.length ?_ ?_ (by omega)
  · intro i hi
    have hb := sm_bound (f := nx 0 w) (k := i) (B := 100) fun j hj => g.rng j (by omega)
    have hr := g.rng i hi
    rw [hs]
    simp only
    rw [if_pos (decide_eq_true (by omega)), nx_get (d := 0) hi, Option.bind_some, w64 (by omega) (by omega), w64 (by omega) (by omega)]
    rfl
  · rw [hs]
    simp only
    rw [if_neg (by simp), g.sum]

/-! ### Build -/
def selS (lf dn : Nat → Int) : Nat → Int
  | 0 => -1
  | i + 1 => if dn i = 0 ∧ (selS lf dn i < 0 ∨ lf i < lf (selS lf dn i).toNat) then (i : Int) else selS lf dn i
def selG (lf dn : Nat → Int) : Nat → Int
  | 0 => -1
  | i + 1 => if dn i = 0 ∧ (selG lf dn i < 0 ∨ lf i ≥ lf (selG lf dn i).toNat) then (i : Int) else selG lf dn i
theorem selS_ok (lf dn : Nat → Int) : ∀ N, (selS lf dn N = -1 ∧ ∀ i, i < N → dn i ≠ 0) ∨ ∃ c : Nat, selS lf dn N = c ∧ c < N ∧ dn c = 0 ∧ ∀ j, j < N → dn j = 0 → lf c ≤ lf j ∧ (j < c → lf c < lf j)
  | 0 => .inl ⟨rfl, by omega⟩
  | N + 1 => by
    simp only [selS]
    rcases selS_ok lf dn N with ⟨h1, h2⟩ | ⟨c, h1, h2, h3, h4⟩
    · by_cases hd : dn N = 0
      · rw [if_pos ⟨hd, .inl (by omega)⟩]
        refine .inr ⟨N, rfl, by omega, hd, fun j hj hj2 => ?_⟩
        by_cases e : j = N
        · subst e; exact ⟨Int.le_refl _, by omega⟩
        · exact (h2 j (by omega) hj2).elim
      · rw [if_neg (fun h => hd h.1)]
        refine .inl ⟨h1, fun j hj => ?_⟩
        by_cases e : j = N
        · subst e; exact hd
        · exact h2 j (by omega)
    · rw [h1, Int.toNat_natCast]
      by_cases hx : dn N = 0 ∧ lf N < lf c
      · rw [if_pos ⟨hx.1, .inr hx.2⟩]
        refine .inr ⟨N, rfl, by omega, hx.1, fun j hj hj2 => ?_⟩
        by_cases e : j = N
        · subst e; exact ⟨Int.le_refl _, by omega⟩
        · have := h4 j (by omega) hj2; omega
      · rw [if_neg (by intro h; rcases h.2 with h' | h'; (· omega); exact hx ⟨h.1, h'⟩)]
        refine .inr ⟨c, rfl, by omega, h3, fun j hj hj2 => ?_⟩
        by_cases e : j = N
        · subst e; refine ⟨?_, by omega⟩
          have : ¬ lf j < lf c := fun h => hx ⟨hj2, h⟩
          omega
        · exact h4 j (by omega) hj2
theorem selG_ok (lf dn : Nat → Int) : ∀ N, (selG lf dn N = -1 ∧ ∀ i, i < N → dn i ≠ 0) ∨ ∃ c : Nat, selG lf dn N = c ∧ c < N ∧ dn c = 0 ∧ ∀ j, j < N → dn j = 0 → lf j ≤ lf c ∧ (c < j → lf j < lf c)
  | 0 => .inl ⟨rfl, by omega⟩
  | N + 1 => by
    simp only [selG]
    rcases selG_ok lf dn N with ⟨h1, h2⟩ | ⟨c, h1, h2, h3, h4⟩
    · by_cases hd : dn N = 0
      · rw [if_pos ⟨hd, .inl (by omega)⟩]
        refine .inr ⟨N, rfl, by omega, hd, fun j hj hj2 => ?_⟩
        by_cases e : j = N
        · subst e; exact ⟨Int.le_refl _, by omega⟩
        · exact (h2 j (by omega) hj2).elim
      · rw [if_neg (fun h => hd h.1)]
        refine .inl ⟨h1, fun j hj => ?_⟩
        by_cases e : j = N
        · subst e; exact hd
        · exact h2 j (by omega)
    · rw [h1, Int.toNat_natCast]
      by_cases hx : dn N = 0 ∧ lf N ≥ lf c
      · rw [if_pos ⟨hx.1, .inr hx.2⟩]
        refine .inr ⟨N, rfl, by omega, hx.1, fun j hj hj2 => ?_⟩
        by_cases e : j = N
        · subst e; exact ⟨Int.le_refl _, by omega⟩
        · have := h4 j (by omega) hj2; omega
      · rw [if_neg (by intro h; rcases h.2 with h' | h'; (· omega); exact hx ⟨h.1, h'⟩)]
        refine .inr ⟨c, rfl, by omega, h3, fun j hj hj2 => ?_⟩
        by_cases e : j = N
        · subst e
          have : ¬ lf j ≥ lf c := fun h => hx ⟨hj2, h⟩
          omega
        · exact h4 j (by omega) hj2

theorem sel_eq (F n : Nat) (lf dn : Nat → Int) (ou : List (Int × Int)) (r : Int) (hn : n ≤ 12) (hF : 20 ≤ F) :
    iter (F83_l2 F (r, tb n lf, ou, tb n dn)) F (-1, -1, 0) = some (selS lf dn n, selG lf dn n) := by
  refine iter_count (step := F83_l2 F (r, tb n lf, ou, tb n dn)) (fun i => (selS lf dn i, selG lf dn i, (i : Int))) n ?_ ?_ (by omega)
  · intro i hi
    have hs : (if (dn i == 0) = true then ((if decide (selS lf dn i < 0) = true then some true else ((at? (tb n lf) (selS lf dn i)).bind fun x68 => some (decide (lf i < x68)))).bind fun y71 => some y71) else some false) = some (decide (dn i = 0 ∧ (selS lf dn i < 0 ∨ lf i < lf (selS lf dn i).toNat))) := by
      by_cases hd : dn i = 0
      · rw [if_pos (by simpa using hd)]
        rcases selS_ok lf dn i with ⟨h1, _⟩ | ⟨c, h1, h2, _⟩
        · rw [h1]; simp [hd]
        · rw [h1, if_neg (by rw [decide_eq_true_eq]; omega), tb_get (by omega)]
          simp [hd]; omega
      · rw [if_neg (by simpa using hd)]; simp [hd]
    have hg : (if (dn i == 0) = true then ((if decide (selG lf dn i < 0) = true then some true else ((at? (tb n lf) (selG lf dn i)).bind fun x84 => some (decide (lf i ≥ x84)))).bind fun y87 => some y87) else some false) = some (decide (dn i = 0 ∧ (selG lf dn i < 0 ∨ lf i ≥ lf (selG lf dn i).toNat))) := by
      by_cases hd : dn i = 0
      · rw [if_pos (by simpa using hd)]
        rcases selG_ok lf dn i with ⟨h1, _⟩ | ⟨c, h1, h2, _⟩
        · rw [h1]; simp [hd]
        · rw [h1, if_neg (by rw [decide_eq_true_eq]; omega), tb_get (by omega)]
          simp [hd]; omega
      · rw [if_neg (by simpa using hd)]; simp [hd]
    unfold F83_l2
    simp only
    rw [if_pos (decide_eq_true (by rw [tb_len]; omega)), tb_get hi, Option.bind_some, tb_get hi, Option.bind_some, hs, Option.bind_some, ite_some, Option.bind_some, Option.bind_some, hg, Option.bind_some, wsuc (by omega), ite_some]
    simp only [selS, selG]
    by_cases h1 : dn i = 0 ∧ (selS lf dn i < 0 ∨ lf i < lf (selS lf dn i).toNat) <;> by_cases h2 : dn i = 0 ∧ (selG lf dn i < 0 ∨ lf i ≥ lf (selG lf dn i).toNat)
    · rw [if_pos (decide_eq_true h1), if_pos (decide_eq_true h2), if_pos h1, if_pos h2]
    · rw [if_pos (decide_eq_true h1), if_neg (mt of_decide_eq_true h2), if_pos h1, if_neg h2]
    · rw [if_neg (mt of_decide_eq_true h1), if_pos (decide_eq_true h2), if_neg h1, if_pos h2]
    · rw [if_neg (mt of_decide_eq_true h1), if_neg (mt of_decide_eq_true h2), if_neg h1, if_neg h2]
  · unfold F83_l2
    simp only
    rw [if_neg (by rw [tb_len]; simp)]

/-- What is given to place i by those that are done. -/
def gd (S : Int) (n : Nat) (ou : Nat → Int × Int) (dn : Nat → Int) (i : Nat) : Int := sm n fun j => if dn j ≠ 0 ∧ (ou j).2 = i then S - (ou j).1 else 0
structure BInv (w : List Int) (S : Int) (r : Nat) (lf : Nat → Int) (ou : Nat → Int × Int) (dn : Nat → Int) : Prop where
  cnt : sm w.length (fun i => if dn i = 0 then 1 else 0) = (w.length : Int) - r
  tot : sm w.length (fun i => if dn i = 0 then lf i else 0) = ((w.length : Int) - r) * S
  nonneg : ∀ i, i < w.length → dn i = 0 → 0 ≤ lf i ∧ lf i ≤ 1200
  cols : ∀ i, i < w.length → dn i ≠ 0 → 0 ≤ (ou i).1 ∧ (ou i).1 ≤ S ∧ 0 ≤ (ou i).2 ∧ (ou i).2 < w.length
  eqU : ∀ i, i < w.length → dn i = 0 → lf i + gd S w.length ou dn i = nx 0 w i * w.length
  eqD : ∀ i, i < w.length → dn i ≠ 0 → (ou i).1 + gd S w.length ou dn i = nx 0 w i * w.length
theorem binv_next {w : List Int} {S : Int} (hS : 1 ≤ S ∧ S ≤ 1200) {r : Nat} {lf : Nat → Int} {ou : Nat → Int × Int} {dn : Nat → Int} (h : BInv w S r lf ou dn) (hr : r < w.length) :
    ∃ s g : Nat, selS lf dn w.length = s ∧ selG lf dn w.length = g ∧ s < w.length ∧ g < w.length ∧ 0 ≤ lf s ∧ lf s ≤ S ∧ S ≤ lf g ∧ lf g ≤ 1200 ∧
      BInv w S (r + 1) (fun j => if j = g then (if s = g then 0 else lf g - (S - lf s)) else lf j) (fun j => if j = s then (lf s, (g : Int)) else ou j) (fun j => if j = s then 1 else dn j) := by
  have hcnt := h.cnt
  have htot := h.tot
  rcases selS_ok lf dn w.length with ⟨_, h2⟩ | ⟨s, hs1, hs2, hs3, hs4⟩
  · exfalso
    rw [sm_congr (g := fun _ => 0) (fun i hi => by rw [if_neg (h2 i hi)]), sm_zero] at hcnt
    omega
  rcases selG_ok lf dn w.length with ⟨_, h2⟩ | ⟨g, hg1, hg2, hg3, hg4⟩
  · exact (h2 s hs2 hs3).elim
  have hls := h.nonneg s hs2 hs3
  have hlg := h.nonneg g hg2 hg3
  -- on the average each has S
  have havs : lf s ≤ S := by
    have h1 : sm w.length (fun i => lf s * (if dn i = 0 then 1 else 0)) ≤ sm w.length (fun i => if dn i = 0 then lf i else 0) := sm_le fun i hi => by
      by_cases e : dn i = 0
      · rw [if_pos e, if_pos e]; have := (hs4 i hi e).1; omega
      · rw [if_neg e, if_neg e]; omega
    rw [sm_mul, hcnt, htot, Int.mul_comm] at h1
    exact Int.le_of_mul_le_mul_left h1 (by omega)
  have havg : S ≤ lf g := by
    have h1 : sm w.length (fun i => if dn i = 0 then lf i else 0) ≤ sm w.length (fun i => lf g * (if dn i = 0 then 1 else 0)) := sm_le fun i hi => by
      by_cases e : dn i = 0
      · rw [if_pos e, if_pos e]; have := (hg4 i hi e).1; omega
      · rw [if_neg e, if_neg e]; omega
    rw [sm_mul, hcnt, htot, Int.mul_comm (lf g)] at h1
    exact Int.le_of_mul_le_mul_left h1 (by omega)
  refine ⟨s, g, hs1, hg1, hs2, hg2, hls.1, havs, havg, hlg.2, ?_⟩
  -- one alone
  have alone : s = g → ∀ j, j < w.length → dn j = 0 → j = s := by
    intro e j hj hj2
    subst e
    have q1 := hs4 j hj hj2
    have q2 := hg4 j hj hj2
    by_cases e1 : j < s
    · have := q1.2 e1; omega
    · by_cases e2 : s < j
      · have := q2.2 e2; omega
      · omega
  have hone : s = g → (w.length : Int) - r = 1 ∧ lf s = S := by
    intro e
    have h1 := sm_set (f := fun _ => 0) (g := fun i => if dn i = 0 then 1 else 0) (k := w.length) hs2 (fun i hi hne => by rw [if_neg (fun q => hne (alone e i hi q))])
    rw [hcnt, sm_zero, if_pos hs3] at h1
    subst e
    omega
  have hgd : ∀ i, gd S w.length (fun j => if j = s then (lf s, (g : Int)) else ou j) (fun j => if j = s then 1 else dn j) i = gd S w.length ou dn i + (if g = i then S - lf s else 0) := by
    intro i
    unfold gd
    rw [sm_set (f := fun j => if dn j ≠ 0 ∧ (ou j).2 = i then S - (ou j).1 else 0) hs2 (fun j hj hne => by simp only [if_neg hne])]
    simp only [if_true]
    rw [if_neg (show ¬ (dn s ≠ 0 ∧ (ou s).2 = (i : Int)) from fun q => q.1 hs3)]
    by_cases e : g = i
    · rw [if_pos e, if_pos ⟨by decide, by omega⟩]; omega
    · rw [if_neg e, if_neg (by omega)]; omega
  refine ⟨?_, ?_, ?_, ?_, ?_, ?_⟩
  · rw [sm_set (f := fun i => if dn i = 0 then 1 else 0) hs2 (fun j hj hne => by simp only [if_neg hne]), hcnt, if_pos hs3]
    simp only [if_true]
    rw [if_neg (by decide)]; omega
  · by_cases e : s = g
    · obtain ⟨q1, q2⟩ := hone e
      subst e
      rw [sm_congr (g := fun _ => 0) (fun i hi => by
        by_cases e2 : i = s
        · rw [if_pos e2, if_neg (by decide)]
        · rw [if_neg e2, if_neg (fun q => e2 (alone rfl i hi q))]), sm_zero, show (w.length : Int) - ((r + 1 : Nat) : Int) = 0 from by omega, Int.zero_mul]
    · have e2 : sm w.length (fun i => if (if i = s then (1 : Int) else dn i) = 0 then (if i = g then (if s = g then 0 else lf g - (S - lf s)) else lf i) else 0) = sm w.length (fun i => if dn i = 0 then lf i else 0) - lf s - (S - lf s) := by
        have a1 := sm_set (f := fun i => if dn i = 0 then lf i else 0) (g := fun i => if i = s then 0 else if dn i = 0 then lf i else 0) (k := w.length) hs2 (fun i hi hne => by rw [if_neg hne])
        have a2 := sm_set (f := fun i => if i = s then 0 else if dn i = 0 then lf i else 0) (g := fun i => if (if i = s then (1 : Int) else dn i) = 0 then (if i = g then (if s = g then 0 else lf g - (S - lf s)) else lf i) else 0) (k := w.length) hg2 (fun i hi hne => by
          by_cases e3 : i = s
          · rw [if_pos e3, if_pos e3, if_neg (by decide)]
          · rw [if_neg e3, if_neg e3, if_neg hne])
        simp only [if_true] at a1 a2
        rw [if_neg (show ¬ g = s from fun q => e q.symm), if_neg (show ¬ g = s from fun q => e q.symm), if_pos hg3, if_neg e, if_pos hg3] at a2
        rw [if_pos hs3] at a1
        simp only [if_neg e]
        rw [a2, a1]; omega
      rw [e2, htot, show (w.length : Int) - ((r + 1 : Nat) : Int) = (w.length : Int) - r - 1 from by omega, Int.sub_mul ((w.length : Int) - r) 1 S, Int.one_mul]
      omega
  · intro i hi hd
    by_cases e1 : i = s
    · rw [if_pos e1] at hd; omega
    · rw [if_neg e1] at hd
      by_cases e2 : i = g
      · rw [if_pos e2, if_neg (by omega)]; omega
      · rw [if_neg e2]; exact h.nonneg i hi hd
  · intro i hi hd
    by_cases e1 : i = s
    · rw [if_pos e1]; simp only; omega
    · rw [if_neg e1] at hd ⊢; exact h.cols i hi hd
  · intro i hi hd
    by_cases e1 : i = s
    · rw [if_pos e1] at hd; omega
    · rw [if_neg e1] at hd
      rw [hgd]
      have := h.eqU i hi hd
      by_cases e2 : i = g
      · subst e2
        rw [if_pos rfl, if_neg (show ¬ s = i by omega), if_pos rfl]; omega
      · rw [if_neg e2, if_neg (fun q => e2 q.symm)]; omega
  · intro i hi hd
    rw [hgd]
    by_cases e1 : i = s
    · subst e1
      rw [if_pos rfl]
      have := h.eqU i hi hs3
      by_cases e2 : g = i
      · obtain ⟨q1, q2⟩ := hone e2.symm
        rw [if_pos e2]; simp only; omega
      · rw [if_neg e2]; simp only; omega
    · rw [if_neg e1] at hd ⊢
      have := h.eqD i hi hd
      rw [if_neg (show ¬ g = i from fun q => by subst q; exact hd hg3)]; omega

theorem build_eq (F : Nat) (w : List Int) (S : Int) (g : GoodW w S) (hc : F146 F w = some 0) (hF : 20 ≤ F) : ∃ b, F83 F w = some (b, 0) ∧ b.length = w.length ∧ tblR w S b = (true, true) := by
  have hS := g.S
  have h12 := g.l12
  have h1' := g.l1
  -- the first columns
  have hl1 : iter (F83_l1 F w) F (0, List.replicate w.length 0) = some (tb w.length fun i => nx 0 w i * w.length) := by
    have := iter_count (step := F83_l1 F w) (F := F) (fun k => ((k : Int), tb w.length fun i => if i < k then nx 0 w i * (w.length : Int) else 0)) (b := tb w.length fun i => nx 0 w i * w.length) w.length ?_ ?_ (by omega)
    · rw [tb_rep]
      rw [show (fun _ : Nat => (0 : Int)) = fun i : Nat => if i < 0 then nx 0 w i * (w.length : Int) else 0 from by funext i; rw [if_neg (by omega)]]
      exact this
    · intro k hk
      have hr := g.rng k hk
      have hm : 0 ≤ nx 0 w k * (w.length : Int) ∧ nx 0 w k * (w.length : Int) ≤ 100 * 12 := ⟨Int.mul_nonneg hr.1 (by omega), Int.mul_le_mul hr.2 (by omega) (by omega) (by omega)⟩
      unfold F83_l1
      simp only
      rw [if_pos (decide_eq_true (by omega)), nx_get (d := 0) hk, Option.bind_some, tb_ck hk, Option.bind_some, Int.toNat_natCast, tb_set, wsuc (by omega), w64 (by omega) (by omega)]
      congr 3
      apply tb_congr
      intro i hi
      by_cases e : i = k
      · rw [if_pos e, if_pos (by omega), e]
      · rw [if_neg e]
        by_cases e2 : i < k
        · rw [if_pos e2, if_pos (by omega)]
        · rw [if_neg e2, if_neg (by omega)]
    · unfold F83_l1
      simp only
      rw [if_neg (by simp)]
      congr 2
      apply tb_congr
      intro i hi
      rw [if_pos hi]
  -- the rounds
  obtain ⟨b, hb, hQ⟩ := iter_inv (step := F83_l3 F w S) (I := fun s => ∃ (r : Nat) (lf : Nat → Int) (ou : Nat → Int × Int) (dn : Nat → Int), s = ((r : Int), tb w.length lf, tb w.length ou, tb w.length dn) ∧ r ≤ w.length ∧ BInv w S r lf ou dn) (μ := fun s => w.length - s.1.toNat)
    (Q := fun b => ∃ (lf : Nat → Int) (ou : Nat → Int × Int) (dn : Nat → Int), b = tb w.length ou ∧ BInv w S w.length lf ou dn) (by
      rintro _ ⟨r, lf, ou, dn, rfl, hr, hI⟩
      unfold F83_l3
      simp only
      by_cases hlt : r < w.length
      · left
        obtain ⟨s, g', h1, h2, h3, h4, h5, h6, h7, h8, h9⟩ := binv_next hS hI hlt
        rw [if_pos (decide_eq_true (by omega)), sel_eq F w.length lf dn _ _ h12 hF, Option.bind_some, h1, h2]
        simp only
        rw [tb_get h3, Option.bind_some, tb_ck h3, Option.bind_some, tb_get h4, Option.bind_some, Option.bind_some, tb_ck h4, Option.bind_some, Int.toNat_natCast, Int.toNat_natCast, w64 (a := S - lf s) (by omega) (by omega), w64 (a := lf g' - (S - lf s)) (by omega) (by omega), wsuc (by omega), tb_set, tb_set, tb_set]
        refine ⟨_, ?_, ⟨r + 1, _, _, _, rfl, hlt, h9⟩, ?_⟩
        · by_cases e : s = g'
          · subst e
            rw [if_pos (by simp), tb_ck h3, Option.bind_some, tb_ck h3, Option.bind_some, tb_set]
            congr 4
            apply tb_congr
            intro i hi
            by_cases e2 : i = s
            · rw [if_pos e2, if_pos e2, if_pos rfl]
            · rw [if_neg e2, if_neg e2, if_neg e2]
          · rw [if_neg (by simp <;> omega), tb_ck h3, Option.bind_some]
            simp only [if_neg e, tb_set]
        · simp only; omega
      · right
        rw [if_neg (by rw [decide_eq_true_eq]; omega)]
        have e : r = w.length := by omega
        subst e
        exact ⟨_, rfl, lf, ou, dn, rfl, hI⟩) F (0, tb w.length (fun i => nx 0 w i * w.length), tb w.length (fun _ => (0, 0)), tb w.length (fun _ => 0)) ⟨0, _, _, _, rfl, by omega, by
        have hz : ∀ i, gd S w.length (fun _ => (0, 0)) (fun _ => 0) i = 0 := by
          intro i; unfold gd
          rw [sm_congr (g := fun _ => 0) (fun j hj => by rw [if_neg (by simp)]), sm_zero]
        refine ⟨?_, ?_, ?_, ?_, ?_, ?_⟩
        · have : ∀ k, sm k (fun _ => if (0 : Int) = 0 then 1 else 0) = (k : Int) := by
            intro k
            induction k with
            | zero => rfl
            | succ k ih => rw [sm_succ, ih]; rfl
          rw [this]; omega
        · rw [sm_congr (g := fun i => (w.length : Int) * nx 0 w i) (fun i hi => by rw [if_pos rfl, Int.mul_comm]), sm_mul, g.sum]; simp
        · intro i hi _
          have hr := g.rng i hi
          have hm : 0 ≤ nx 0 w i * (w.length : Int) ∧ nx 0 w i * (w.length : Int) ≤ 100 * 12 := ⟨Int.mul_nonneg hr.1 (by omega), Int.mul_le_mul hr.2 (by omega) (by omega) (by omega)⟩
          omega
        · intro i hi h; exact (h rfl).elim
        · intro i hi _; rw [hz]; omega
        · intro i hi h; exact (h rfl).elim⟩ (by simp only; omega)
  obtain ⟨lf, ou, dn, rfl, hI⟩ := hQ
  refine ⟨tb w.length ou, ?_, tb_len _ _, ?_⟩
  · unfold F83
    rw [hc, Option.bind_some, if_neg (by simp), sumW F w S g hF (F83_l0 F w) (fun s => rfl), Option.bind_some, mk?_ok (by omega), Option.bind_some, hl1, Option.bind_some, mk?_ok (by omega), Option.bind_some, Option.bind_some, tb_rep, tb_rep, hb]
    rfl
  · -- all are done
    have hcnt := hI.cnt
    rw [Int.sub_self] at hcnt
    have hdn : ∀ i, i < w.length → dn i ≠ 0 := by
      intro i hi h
      have := sm_term (f := fun i => if dn i = 0 then 1 else 0) (k := w.length) (fun j _ => by split <;> omega) hi
      simp only [if_pos h] at this
      omega
    have hcl : ∀ i, i < w.length → cl (tb w.length ou) i = ou i := fun i hi => tb_nx hi
    unfold tblR
    rw [any_no (fun i hi => by
      have := hI.cols i hi (hdn i hi)
      unfold colBad
      rw [hcl i hi]
      simp only [Bool.or_eq_false_iff, decide_eq_false_iff_not]
      omega), if_neg (by decide), any_no (fun i hi => by
      have := hI.eqD i hi (hdn i hi)
      unfold tblBad gv
      rw [hcl i hi, tb_len, ← this]
      have e : sm w.length (fun j => if (cl (tb w.length ou) j).2 = (i : Int) then S - (cl (tb w.length ou) j).1 else 0) = gd S w.length ou dn i := by
        unfold gd
        exact sm_congr fun j hj => by
          rw [hcl j hj]
          by_cases q : (ou j).2 = (i : Int)
          · rw [if_pos q, if_pos ⟨hdn j hj, q⟩]
          · rw [if_neg q, if_neg (fun h => q h.2)]
      rw [e]; simp), if_neg (by decide)]

end Go.Proofs.Ytihmliblbhjlaaa

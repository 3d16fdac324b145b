/- What the functional texts of package urn answer. -/
import Derived.Test.YtdkmepeolmdccaaRatioLib
import Derived.Test.YtdkmepeolmdccaaEqualLib
set_option linter.unusedVariables false
set_option linter.unusedSimpArgs false
namespace Go.Proofs.Ytdkmepeolmdccaa
open Go.Am

/-- Two loops side by side, each with its own state. -/
theorem iter_par2 {σ τ β γ : Type} {step : σ → Option (Stp σ β)} {step' : τ → Option (Stp τ γ)} (I : σ → τ → Prop) (μ : σ → Nat) (R : β → γ → Prop)
    (h : ∀ s t, I s t → (∃ s' t', step s = some (.more s') ∧ step' t = some (.more t') ∧ I s' t' ∧ μ s' < μ s) ∨ ∃ b c, step s = some (.stop b) ∧ step' t = some (.stop c) ∧ R b c) :
    ∀ (F : Nat) (s : σ) (t : τ), I s t → μ s < F → ∃ b c, iter step F s = some b ∧ iter step' F t = some c ∧ R b c
  | 0, _, _, _, hF => by omega
  | F + 1, s, t, hs, hF => by
    rcases h s t hs with ⟨s', t', h1, h1', h2, h3⟩ | ⟨b, c, h1, h2, h3⟩
    · rw [iter_more h1, iter_more h1']; exact iter_par2 I μ R h F s' t' h2 (by omega)
    · exact ⟨b, c, iter_stop h1, iter_stop h2, h3⟩

/-! ### Urns -/
structure GU (l : List Int) (more : Int) : Prop where
  l1 : 1 ≤ l.length
  l5 : l.length ≤ 5
  rng : ∀ i, i < l.length → 0 ≤ nx 0 l i ∧ nx 0 l i ≤ 12
  pos : 0 < sm l.length (nx 0 l)
  m0 : 0 ≤ more
  m12 : more ≤ 12
theorem max_eq (F : Nat) (l : List Int) (h1 : 1 ≤ l.length) (h5 : l.length ≤ 5) (hr : ∀ i, i < l.length → 0 ≤ nx 0 l i ∧ nx 0 l i ≤ 12) (hF : 20 ≤ F) : ∃ m, F95 F l = some m ∧ (m = 0 ↔ sm l.length (nx 0 l) = 0) := by
  obtain ⟨m, e1, hm⟩ := iter_inv (step := F95_l0 F l) (I := fun s => ∃ i : Nat, s.2 = (i : Int) ∧ 1 ≤ i ∧ i ≤ l.length ∧ (∀ j, j < i → nx 0 l j ≤ s.1) ∧ ∃ j, j < i ∧ nx 0 l j = s.1) (μ := fun s => l.length - s.2.toNat)
    (Q := fun m => (∀ j, j < l.length → nx 0 l j ≤ m) ∧ ∃ j, j < l.length ∧ nx 0 l j = m) (by
      rintro ⟨m, i_⟩ ⟨i, rfl, hi1, hi, h2, j, hj, h3⟩
      simp only at h2 h3
      unfold F95_l0
      simp only
      by_cases hlt : i < l.length
      · left
        rw [if_pos (decide_eq_true (by omega)), nx_get (d := 0) hlt, Option.bind_some, wsuc (by omega)]
        refine ⟨_, rfl, ⟨i + 1, rfl, by omega, hlt, fun k hk => ?_, ?_⟩, by simp only; omega⟩
        · simp only [maxI]
          by_cases e : k = i
          · subst e; split <;> omega
          · have := h2 k (by omega); split <;> omega
        · simp only [maxI]
          split
          · exact ⟨i, by omega, rfl⟩
          · exact ⟨j, by omega, h3⟩
      · right
        rw [if_neg (by rw [decide_eq_true_eq]; omega)]
        have e : i = l.length := by omega
        subst e
        exact ⟨_, rfl, h2, j, hj, h3⟩) F (nx 0 l 0, 1) ⟨1, rfl, by omega, h1, fun j hj => by rw [show j = 0 from by omega]; exact Int.le_refl _, 0, by omega, rfl⟩ (by simp only; omega)
  refine ⟨m, ?_, ?_⟩
  · unfold F95
    rw [if_neg (by rw [decide_eq_true_eq]; omega), Option.bind_some, show (0 : Int) = ((0 : Nat) : Int) from rfl, nx_get (d := 0) (by omega), Option.bind_some]
    have e1' : iter (F95_l0 F l) F (nx 0 l 0, 1) = some m := e1
    rw [e1']; rfl
  · obtain ⟨h2, j, hj, h3⟩ := hm
    constructor
    · intro e
      rw [sm_congr (g := fun _ => 0) (fun i hi => by have := h2 i hi; have := hr i hi; omega), sm_zero]
    · intro e
      have := sm_term (f := nx 0 l) (fun i hi => (hr i hi).1) hj
      have := hr j hj
      omega
theorem urnErr_both (F : Nat) (l : List Int) (more : Int) (hF : 20 ≤ F) : ∃ e : Int, F71 F l more = some e ∧ F70 F l more = some e ∧ (e = 0 → GU l more) := by
  unfold F71 F70
  by_cases hl : (l.length : Int) < 1 ∨ (l.length : Int) > 5
  · rw [if_pos (by rw [Bool.or_eq_true, decide_eq_true_eq, decide_eq_true_eq]; exact hl), if_pos (by rw [Bool.or_eq_true, beq_iff_eq, decide_eq_true_eq]; omega)]
    exact ⟨2, rfl, rfl, fun h => by cases h⟩
  · have c2 : ¬ ((((l.length : Int) == 0) || decide ((l.length : Int) > 5)) = true) := by rw [Bool.or_eq_true, beq_iff_eq, decide_eq_true_eq]; omega
    rw [if_neg (show ¬ ((decide ((l.length : Int) < 1) || decide ((l.length : Int) > 5)) = true) by rw [Bool.or_eq_true, decide_eq_true_eq, decide_eq_true_eq]; exact hl), if_neg c2]
    have h1 : 1 ≤ l.length := by omega
    have h5 : l.length ≤ 5 := by omega
    -- ContainsFunc
    have hs : ∀ (i : Nat) (h : i < l.length), F155_137_l0 F l (i : Int) = some (if (decide (l[i] < 0) || decide (l[i] > 12)) then .stop (.inr (i : Int)) else .more ((i + 1 : Nat) : Int)) := by
      intro i hi
      unfold F155_137_l0 F137
      rw [if_pos (decide_eq_true (by omega)), at?_in hi, w64 (by omega) (by omega)]
      simp only [Option.bind_some]
      exact ite_some _ _
    have he : F155_137_l0 F l (l.length : Int) = some (.stop (.inl ())) := by
      unfold F155_137_l0
      rw [if_neg (by simp)]
    have hcf : F96_137 F l = some (l.any fun x => decide (x < 0) || decide (x > 12)) := by
      unfold F96_137 F155_137
      rcases find_loop l (fun x => decide (x < 0) || decide (x > 12)) (fun i _ => (i : Int)) hs he (by omega : l.length < F) with ⟨q1, q2⟩ | ⟨i, h, q1, _, q2⟩
      · rw [q2, any_none q1]; rfl
      · rw [q2, any_of_first h q1]; simp
    rw [hcf, Option.bind_some]
    -- Check's loop
    rcases seekS (step := F71_l0 F l) (F := F) l.length (fun i => (sm i (nx 0 l), (i : Int))) (fun i => decide (nx 0 l i < 0) || decide (nx 0 l i > 12)) (fun _ => .inr 1) (.inl (sm l.length (nx 0 l))) (by
      intro i hi hlo
      have hr : ∀ j, j < i → 0 ≤ nx 0 l j ∧ nx 0 l j ≤ 12 := fun j hj => by
        have := hlo j hj
        simp only [Bool.or_eq_false_iff, decide_eq_false_iff_not] at this
        omega
      have hb := sm_bound hr
      unfold F71_l0
      simp only
      rw [if_pos (decide_eq_true (by omega)), nx_get (d := 0) hi, Option.bind_some]
      by_cases hx : (decide (nx 0 l i < 0) || decide (nx 0 l i > 12)) = true
      · rw [if_pos hx, if_pos hx]
      · rw [if_neg hx, if_neg hx]
        simp only [Bool.or_eq_true, decide_eq_true_eq] at hx
        rw [w64 (by omega) (by omega), wsuc (by omega)]; rfl) (by
      intro _
      unfold F71_l0
      simp only
      rw [if_neg (by simp)]) (by omega) with ⟨q1, q2⟩ | ⟨i, hi, q1, _, q2⟩
    · have hr : ∀ j, j < l.length → 0 ≤ nx 0 l j ∧ nx 0 l j ≤ 12 := fun j hj => by
        have := q1 j hj
        simp only [Bool.or_eq_false_iff, decide_eq_false_iff_not] at this
        omega
      have hany : (l.any fun x => decide (x < 0) || decide (x > 12)) = false := any_none fun x hx => by
        obtain ⟨i, hi, rfl⟩ := nx_of (d := 0) hx
        exact q1 i hi
      obtain ⟨m, em, hm⟩ := max_eq F l h1 h5 hr hF
      have q2' : iter (F71_l0 F l) F (0, 0) = some (.inl (sm l.length (nx 0 l))) := q2
      rw [q2', hany, Option.bind_some, if_neg (show ¬ (false = true) by decide), em, Option.bind_some]
      dsimp only
      have hnn := sm_nonneg (f := nx 0 l) (k := l.length) fun j hj => (hr j hj).1
      by_cases h0 : sm l.length (nx 0 l) = 0
      · rw [if_pos (by simpa using h0), if_pos (by simpa using hm.2 h0)]
        exact ⟨5, rfl, rfl, fun h => by cases h⟩
      · have c3 : ¬ ((sm l.length (nx 0 l) == 0) = true) := by simpa using h0
        have c4 : ¬ ((m == 0) = true) := by simpa using fun q => h0 (hm.1 q)
        rw [if_neg c3, if_neg c4]
        by_cases hmo : more < 0 ∨ more > 12
        · have hmo' : (decide (more < 0) || decide (more > 12)) = true := by simpa using hmo
          simp only [if_pos hmo']
          exact ⟨1, rfl, rfl, fun h => by cases h⟩
        · have hmo' : ¬ (decide (more < 0) || decide (more > 12)) = true := by simpa using hmo
          simp only [if_neg hmo']
          exact ⟨0, rfl, rfl, fun _ => ⟨h1, h5, hr, by omega, by omega, by omega⟩⟩
    · have hany : (l.any fun x => decide (x < 0) || decide (x > 12)) = true := List.any_eq_true.2 ⟨_, nx_mem (d := 0) hi, q1⟩
      have q2' : iter (F71_l0 F l) F (0, 0) = some (.inr 1) := q2
      rw [q2', hany, Option.bind_some, if_pos rfl]
      exact ⟨1, rfl, rfl, fun h => by cases h⟩

/-- How often k was drawn, of the first i draws. -/
def had (dr : List Int) (k : Int) : Nat → Nat
  | 0 => 0
  | i + 1 => had dr k i + if nx 0 dr i = k then 1 else 0
theorem had_le (dr : List Int) (k : Int) : ∀ i, had dr k i ≤ i
  | 0 => Nat.le_refl _
  | i + 1 => by have := had_le dr k i; simp only [had]; split <;> omega
/-- What there is, after i draws. -/
def hv (l : List Int) (more : Int) (dr : List Int) (i k : Nat) : Int := nx 0 l k + (had dr k i : Int) * more
theorem hv_le {l : List Int} {more : Int} {dr : List Int} (g : GU l more) {i k : Nat} (hi : i ≤ 12) (hk : k < l.length) : 0 ≤ hv l more dr i k ∧ hv l more dr i k ≤ 156 := by
  have h1 := g.rng k hk
  have h2 := had_le dr k i
  have h3 : 0 ≤ (had dr k i : Int) * more := Int.mul_nonneg (by omega) g.m0
  have h4 : (had dr k i : Int) * more ≤ 12 * 12 := Int.mul_le_mul (by omega) g.m12 g.m0 (by omega)
  unfold hv; omega
theorem hv_next (l : List Int) (more : Int) (dr : List Int) (i k : Nat) : hv l more dr (i + 1) k = if nx 0 dr i = (k : Int) then hv l more dr i k + more else hv l more dr i k := by
  unfold hv
  simp only [had]
  by_cases e : nx 0 dr i = (k : Int)
  · rw [if_pos e, if_pos e, Int.natCast_add, Int.add_mul]; simp only [Int.natCast_one, Int.one_mul]; omega
  · rw [if_neg e, if_neg e]; simp
theorem hv_sum {l : List Int} {more : Int} {dr : List Int} : ∀ i, (∀ j, j < i → 0 ≤ nx 0 dr j ∧ nx 0 dr j < l.length) → sm l.length (hv l more dr i) = sm l.length (nx 0 l) + i * more
  | 0, _ => by
    rw [sm_congr (g := nx 0 l) fun k hk => by unfold hv; simp [had]]; simp
  | i + 1, h => by
    have ih := hv_sum (l := l) (more := more) i fun j hj => h j (by omega)
    obtain ⟨q1, q2⟩ := h i (by omega)
    obtain ⟨k, hk⟩ : ∃ k : Nat, nx 0 dr i = k := ⟨(nx 0 dr i).toNat, by omega⟩
    rw [sm_set (f := hv l more dr i) (c := k) (by omega) fun j _ hne => by rw [hv_next, if_neg (by omega)], ih, hv_next, if_pos hk, Int.natCast_add, Int.add_mul]
    simp only [Int.natCast_one, Int.one_mul]; omega

theorem chance_both (F : Nat) (l : List Int) (more : Int) (dr : List Int) (g : GU l more) (hd : dr.length ≤ 12) (hF : 1000000000000000001 ≤ F) :
    ∃ b c, iter (F68_l1 F more dr) F (0, (0, 0), l, (1, 1)) = some b ∧ iter (F72_l2 F l more dr (sm l.length (nx 0 l))) F (0, (0, 0), (1, 1)) = some c ∧ b = c ∧ ∀ e r, b = .inr (e, r) → r = (0, 0) := by
  have h5 := g.l5
  have hm0 := g.m0
  have hm12 := g.m12
  have hSb := sm_bound g.rng
  have hSp := g.pos
  refine iter_par2 (step := F68_l1 F more dr) (step' := F72_l2 F l more dr (sm l.length (nx 0 l)))
    (I := fun s t => ∃ (i : Nat) (o : Int × Int), s = ((i : Int), (0, 0), tb l.length (hv l more dr i), o) ∧ t = ((i : Int), (0, 0), o) ∧ i ≤ dr.length ∧ rchk o = 0 ∧ ∀ j, j < i → 0 ≤ nx 0 dr j ∧ nx 0 dr j < l.length)
    (μ := fun s => dr.length - s.1.toNat) _ ?_ F _ _ ⟨0, (1, 1), ?_, rfl, by omega, by decide, by omega⟩ (by simp only; omega)
  · rintro _ _ ⟨i, o, rfl, rfl, hi, ho, hdr⟩
    unfold F68_l1 F72_l2
    dsimp only
    by_cases hlt : i < dr.length
    · have hlt' : decide ((i : Int) < (dr.length : Int)) = true := decide_eq_true (by omega)
      rw [if_pos hlt', if_pos hlt', nx_get (d := 0) hlt, Option.bind_some, Option.bind_some, tb_len]
      by_cases hb : nx 0 dr i < 0 ∨ nx 0 dr i ≥ (l.length : Int)
      · right
        have hb' : (decide (nx 0 dr i < 0) || decide (nx 0 dr i ≥ (l.length : Int))) = true := by rw [Bool.or_eq_true, decide_eq_true_eq, decide_eq_true_eq]; exact hb
        rw [if_pos hb', if_pos hb']
        exact ⟨_, _, rfl, rfl, rfl, fun e r h => by cases h; rfl⟩
      · have hb' : ¬ (decide (nx 0 dr i < 0) || decide (nx 0 dr i ≥ (l.length : Int))) = true := by rw [Bool.or_eq_true, decide_eq_true_eq, decide_eq_true_eq]; exact hb
        rw [if_neg hb', if_neg hb']
        obtain ⟨k, hk⟩ : ∃ k : Nat, nx 0 dr i = k := ⟨(nx 0 dr i).toNat, by omega⟩
        have hkl : k < l.length := by omega
        have hvk := hv_le (dr := dr) g (show i ≤ 12 by omega) hkl
        have hsum := hv_sum (l := l) (more := more) i hdr
        have him : 0 ≤ (i : Int) * more ∧ (i : Int) * more ≤ 12 * 12 := ⟨Int.mul_nonneg (by omega) hm0, Int.mul_le_mul (by omega) hm12 hm0 (by omega)⟩
        have l0 : iter (F68_l0 F ((i : Int), (0, 0), tb l.length (hv l more dr i), o)) F (0, 0) = some (sm l.length (nx 0 l) + i * more) := by
          rw [← hsum]
          refine iter_count (step := F68_l0 F ((i : Int), (0, 0), tb l.length (hv l more dr i), o)) (fun j => (sm j (hv l more dr i), (j : Int))) l.length ?_ ?_ (by omega)
          · intro j hj
            have q1 := sm_bound (f := hv l more dr i) (k := j) (B := 156) fun q hq => hv_le (dr := dr) g (show i ≤ 12 by omega) (by omega)
            have q2 := hv_le (dr := dr) g (show i ≤ 12 by omega) hj
            unfold F68_l0
            dsimp only
            rw [if_pos (decide_eq_true (by rw [tb_len]; omega)), tb_get hj, Option.bind_some, w64 (by omega) (by omega), wsuc (by omega)]
            rfl
          · unfold F68_l0
            dsimp only
            rw [if_neg (by rw [tb_len]; simp)]
        have l1 : iter (F72_l1 F (k : Int) (dr.take i)) F (0, 0) = some (had dr k i : Int) := by
          have hlen : (dr.take i).length = i := by rw [List.length_take]; omega
          refine iter_count (step := F72_l1 F (k : Int) (dr.take i)) (fun j => ((had dr k j : Int), (j : Int))) i ?_ ?_ (by omega)
          · intro j hj
            have q := had_le dr k j
            have hx : nx 0 (dr.take i) j = nx 0 dr j := by unfold nx; rw [List.getElem?_take_of_lt hj]
            unfold F72_l1
            dsimp only
            rw [if_pos (decide_eq_true (by rw [hlen]; omega)), nx_get (d := 0) (by omega), Option.bind_some, hx]
            by_cases e : nx 0 dr j = (k : Int)
            · rw [if_pos (by simpa using e), wsuc (by omega), wsuc (by omega)]
              simp only [had, if_pos e]
            · rw [if_neg (by simpa using e), wsuc (by omega)]
              simp only [had, if_neg e, Nat.add_zero]
          · unfold F72_l1
            dsimp only
            rw [if_neg (by rw [hlen]; simp)]
        have hmk : (had dr k i : Int) * more = hv l more dr i k - nx 0 l k := by unfold hv; omega
        have hrk := g.rng k hkl
        have eA : wrapA .i64 (nx 0 l k + wrapA .i64 ((had dr k i : Int) * more)) = hv l more dr i k := by
          rw [w64 (a := (had dr k i : Int) * more) (by omega) (by omega), w64 (by omega) (by omega)]; omega
        have eB : wrapA .i64 (sm l.length (nx 0 l) + wrapA .i64 ((i : Int) * more)) = sm l.length (nx 0 l) + i * more := by
          rw [w64 (a := (i : Int) * more) (by omega) (by omega), w64 (by omega) (by omega)]
        have hf := low_fine (hv l more dr i k) (sm l.length (nx 0 l) + i * more) (by omega) (by omega) (by omega) (by omega)
        have hc := low_chk (by omega) hf
        have eM : F109 F (hv l more dr i k) (sm l.length (nx 0 l) + i * more) = some (lowS (hv l more dr i k) (sm l.length (nx 0 l) + i * more)) := by
          rw [make_eq F _ _ (by omega), if_neg (by omega), if_neg (by omega), if_neg (by omega)]
        have eW : F21 F (hv l more dr i k) (sm l.length (nx 0 l) + i * more) = some (lowS (hv l more dr i k) (sm l.length (nx 0 l) + i * more)).1 := by
          unfold F21
          rw [ratioOf_eq F _ _ (by omega) (by omega) (by omega) (by omega) (by omega) (by omega), if_neg (by omega)]
          rfl
        rw [l0, Option.bind_some, hk, tb_get hkl, Option.bind_some, eM, Option.bind_some, sub?_to (by omega), Option.bind_some, l1, Option.bind_some, nx_get (d := 0) hkl, Option.bind_some, eA, eB, eW, Option.bind_some]
        generalize hq : (lowS (hv l more dr i k) (sm l.length (nx 0 l) + i * more)).1 = q at hc ⊢
        obtain ⟨m1, m2⟩ := mul_both F o q hF ho hc
        have m1' : F119 F (o.1, o.2) (q.1, q.2) = some (lowS (o.1 * q.1) (o.2 * q.2)) := m1
        have m2' : F46 F (o.1, o.2) (q.1, q.2) = some (lowS (o.1 * q.1) (o.2 * q.2)) := m2
        rw [m1', m2', Option.bind_some, Option.bind_some]
        have hop := mulP (show 0 < o.2 by have := (rchk_rg ho).1; omega) (show 0 < q.2 by have := (rchk_rg hc).1; omega)
        have lz := @low_zero (o.1 * q.1) (o.2 * q.2)
        have lc := @low_chk (o.1 * q.1) (o.2 * q.2) hop
        generalize lowS (o.1 * q.1) (o.2 * q.2) = u at lz lc ⊢
        by_cases hu : u.2 = 0
        · left
          have hu' : ¬ (u.2 != 0) = true := by simpa using hu
          simp only [Option.bind_some, if_neg hu']
          rw [tb_ck hkl, Option.bind_some, wsuc (by omega), w64 (by omega) (by omega), Int.toNat_natCast, tb_set]
          refine ⟨_, _, rfl, rfl, ⟨i + 1, (u.1.1, u.1.2), ?_, rfl, hlt, lc hu, fun j hj => ?_⟩, by simp only; omega⟩
          · congr 3
            apply tb_congr
            intro j hj
            rw [hv_next, hk]
            by_cases e : j = k
            · subst e; rw [if_pos rfl, if_pos rfl]
            · rw [if_neg e, if_neg (by omega)]
          · by_cases e : j = i
            · subst e; omega
            · exact hdr j (by omega)
        · right
          have hu' : (u.2 != 0) = true := by simpa using hu
          simp only [Option.bind_some, if_pos hu']
          exact ⟨_, _, rfl, rfl, rfl, fun e r h => by cases h; rfl⟩
    · right
      have hlt' : ¬ decide ((i : Int) < (dr.length : Int)) = true := by rw [decide_eq_true_eq]; omega
      rw [if_neg hlt', if_neg hlt']
      exact ⟨_, _, rfl, rfl, rfl, fun e r h => by cases h⟩
  · congr 3
    rw [nx_tb 0 l, tb_len]
    apply tb_congr
    intro j hj
    rw [← nx_tb 0 l]
    unfold hv; simp [had]

theorem after_both (F : Nat) (l : List Int) (more : Int) (dr : List Int) (g : GU l more) (hd : dr.length ≤ 12) (hF : 100 ≤ F) (r11 : List Int × Int) :
    ∃ b c, iter (F69_l0 F more dr) F (0, l) = some b ∧ iter (F10_l0 F more dr r11) F (0, l) = some c ∧
      ((∃ L, b = .inl L ∧ c = .inl L ∧ L.length ≤ 5) ∨ ∃ e : Int, e ≠ 0 ∧ b = .inr ([], e) ∧ c = .inr ((r11.2 == e) && ((r11.1.length : Int) == 0))) := by
  have h5 := g.l5
  have hm0 := g.m0
  have hm12 := g.m12
  refine iter_par (step := F69_l0 F more dr) (step' := F10_l0 F more dr r11) (I := fun s : Int × List Int => ∃ i : Nat, s.1 = (i : Int) ∧ i ≤ dr.length ∧ s.2.length = l.length ∧ ∀ x ∈ s.2, 0 ≤ x ∧ x ≤ 12 + 12 * (i : Int)) (μ := fun s : Int × List Int => dr.length - s.1.toNat) _ ?_ F _ ⟨0, rfl, by omega, rfl, fun x hx => ?_⟩ (by simp only; omega)
  · rintro ⟨i_, a⟩ ⟨i, rfl, hi, ha, hx⟩
    simp only at ha hx
    unfold F69_l0 F10_l0
    dsimp only
    by_cases hlt : i < dr.length
    · have hlt' : decide ((i : Int) < (dr.length : Int)) = true := decide_eq_true (by omega)
      simp only [if_pos hlt']
      rw [nx_get (d := 0) hlt]
      simp only [Option.bind_some]
      by_cases hb : nx 0 dr i < 0 ∨ nx 0 dr i ≥ (a.length : Int)
      · right
        have hb' : (decide (nx 0 dr i < 0) || decide (nx 0 dr i ≥ (a.length : Int))) = true := by rw [Bool.or_eq_true, decide_eq_true_eq, decide_eq_true_eq]; exact hb
        simp only [if_pos hb']
        exact ⟨_, _, rfl, rfl, .inr ⟨1, by decide, rfl, rfl⟩⟩
      · have hb' : ¬ (decide (nx 0 dr i < 0) || decide (nx 0 dr i ≥ (a.length : Int))) = true := by rw [Bool.or_eq_true, decide_eq_true_eq, decide_eq_true_eq]; exact hb
        simp only [if_neg hb']
        obtain ⟨k, hk⟩ : ∃ k : Nat, nx 0 dr i = k := ⟨(nx 0 dr i).toNat, by omega⟩
        have hka : k < a.length := by omega
        have hxk := hx _ (nx_mem (d := 0) hka)
        rw [hk, nx_get (d := 0) hka, ck_ok hka]
        simp only [Option.bind_some]
        by_cases h0 : nx 0 a k = 0
        · right
          have h0' : (nx 0 a k == 0) = true := by simpa using h0
          simp only [if_pos h0']
          exact ⟨_, _, rfl, rfl, .inr ⟨4, by decide, rfl, rfl⟩⟩
        · left
          have h0' : ¬ (nx 0 a k == 0) = true := by simpa using h0
          simp only [if_neg h0']
          rw [wsuc (by omega), w64 (by omega) (by omega)]
          refine ⟨_, rfl, rfl, ⟨i + 1, rfl, hlt, by simp [ha], fun y hy => ?_⟩, by simp only; omega⟩
          rcases List.mem_or_eq_of_mem_set hy with hy | hy
          · have := hx y hy; omega
          · omega
    · right
      have hlt' : ¬ decide ((i : Int) < (dr.length : Int)) = true := by rw [decide_eq_true_eq]; omega
      simp only [if_neg hlt']
      exact ⟨_, _, rfl, rfl, .inl ⟨a, rfl, rfl, by omega⟩⟩
  · obtain ⟨j, hj, rfl⟩ := nx_of (d := 0) (L := l) hx
    have := g.rng j hj
    show 0 ≤ nx 0 l j ∧ nx 0 l j ≤ 12 + 12 * (((0 : Nat)) : Int)
    omega

theorem PurnSays.holds (t0 : List (Int)) (t1 : Int) (t2 : List (Int)) (h0 : (t0.length ≤ maxLen ∧ ∀ a ∈ t0, inR .i64 a)) (h1 : inR .i64 t1) (h2 : (t2.length ≤ maxLen ∧ ∀ a ∈ t2, inR .i64 a)) : ∃ F, F10 F t0 t1 t2 = some true := by
  refine ⟨10000000000000000000, ?_⟩
  generalize hFd : 10000000000000000000 = F
  have hF : F = 10000000000000000000 := hFd.symm
  clear hFd
  have hF1 : 1000000000000000001 ≤ F := by omega
  have hF2 : 100 ≤ F := by omega
  clear hF
  obtain ⟨e, e71, e70, hg⟩ := urnErr_both F t0 t1 (by omega)
  by_cases he : e = 0
  · subst he
    have g := hg rfl
    have h5 := g.l5
    by_cases hd : t2.length ≤ 12
    · obtain ⟨b, c, q1, q2, rfl, q3⟩ := chance_both F t0 t1 t2 g hd hF1
      have hl0 : iter (F72_l0 F t0) F (0, 0) = some (sm t0.length (nx 0 t0)) := by
        refine iter_count (step := F72_l0 F t0) (fun i => (sm i (nx 0 t0), (i : Int))) t0.length ?_ ?_ (by omega)
        · intro i hi
          have b1 := sm_bound (f := nx 0 t0) (k := i) (B := 12) fun j hj => g.rng j (by omega)
          have b2 := g.rng i hi
          unfold F72_l0
          dsimp only
          rw [if_pos (decide_eq_true (by omega)), nx_get (d := 0) hi, Option.bind_some, w64 (by omega) (by omega), wsuc (by omega)]
          rfl
        · unfold F72_l0
          dsimp only
          rw [if_neg (by simp)]
      let ans : ((Int × Int) × (Int × Int)) ⊕ (Int × (Int × Int)) → (Int × Int) × Int := Sum.elim (fun x => (x.2, 0)) (fun x => (x.2, x.1))
      have hnil : app? ([] : List Int) t0 = some t0 := by rw [app?_ok (by simp <;> omega), List.nil_append]
      have e68 : F68 F t0 t1 t2 = some (ans b) := by
        unfold F68
        rw [e71, Option.bind_some, if_neg (by decide), if_neg (by rw [decide_eq_true_eq]; omega), hnil, Option.bind_some, q1, Option.bind_some]
        cases b <;> rfl
      have e72 : F72 F t0 t1 t2 = some (ans b) := by
        unfold F72
        rw [hl0, Option.bind_some, q2, Option.bind_some]
        cases b <;> rfl
      obtain ⟨r11, e69, hfin⟩ : ∃ r11, F69 F t0 t1 t2 = some r11 ∧ (iter (F10_l0 F t1 t2 r11) F (0, t0)).bind (fun b81 => match b81 with
          | .inl b83 => ((if (r11.2 == 0) = true then ((F31 F r11.1 b83).bind fun r86 => some r86) else some false).bind fun y91 => some y91)
          | .inr b83 => some b83) = some true := by
        have hrn : ∀ b, iter (F69_l0 F t1 t2) F (0, t0) = some b → F69 F t0 t1 t2 = some (Sum.elim (fun x => (x, 0)) (fun x => (x.1, x.2)) b) := by
          intro b hb
          unfold F69
          rw [e71, Option.bind_some, if_neg (by decide), if_neg (by rw [decide_eq_true_eq]; omega), hnil, Option.bind_some, hb, Option.bind_some]
          cases b <;> rfl
        obtain ⟨b0, _, hb0, _⟩ := after_both F t0 t1 t2 g hd hF2 ([], 0)
        refine ⟨_, hrn b0 hb0, ?_⟩
        obtain ⟨b1, c1, k1, k2, k3⟩ := after_both F t0 t1 t2 g hd hF2 (Sum.elim (fun x => (x, 0)) (fun x => (x.1, x.2)) b0)
        rw [k2, Option.bind_some]
        rw [hb0] at k1
        obtain rfl := someI k1
        rcases k3 with ⟨L, rfl, rfl, hL⟩ | ⟨e, he, rfl, rfl⟩
        · have ha := equal_eq F L L (by omega) (by omega)
          show ((if ((0 : Int) == 0) = true then ((F31 F L L).bind fun r86 => some r86) else some false).bind fun y91 => some y91) = some true
          rw [if_pos (by decide), ha]
          simp
        · simp
      have e30 : F30 F t0 = some t0 := by unfold F30; rw [if_pos (by omega)]
      unfold F10
      rw [e68, e69]
      simp only [Option.bind_some]
      rw [e70, e71]
      simp only [Option.bind_some]
      rw [if_neg (by decide), if_neg (by simp <;> omega)]
      simp only [Option.bind_some]
      rw [if_neg (by decide), e72]
      simp only [Option.bind_some]
      rw [if_neg ?_, e30]
      · simp only [Option.bind_some]
        exact hfin
      · cases b with
        | inl b => simp [ans]
        | inr b =>
          obtain ⟨e, r⟩ := b
          have := q3 e r rfl
          subst this
          simp [ans]
    · unfold F10 F68 F69
      rw [e71]
      simp only [Option.bind_some]
      rw [if_neg (by decide), if_pos (decide_eq_true (by omega)), if_neg (by decide), if_pos (decide_eq_true (by omega)), e70]
      simp only [Option.bind_some]
      rw [if_neg (by decide), if_pos (by simp <;> omega)]
      simp
  · unfold F10 F68 F69
    rw [e71]
    simp only [Option.bind_some]
    have he' : (e != 0) = true := by simpa using he
    simp only [if_pos he', Option.bind_some]
    rw [e70]
    simp only [Option.bind_some]
    rw [if_neg (by simp), if_neg (by simp [he])]
    simp only [Option.bind_some]
    rw [if_pos he']
    simp
end Go.Proofs.Ytdkmepeolmdccaa

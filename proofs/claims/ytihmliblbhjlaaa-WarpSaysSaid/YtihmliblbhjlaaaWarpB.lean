/- The two checks of package warp, and the simulations. -/
import Derived.Test.YtihmliblbhjlaaaWarpA
import Derived.Test.YtihmliblbhjlaaaEqualLib
set_option linter.unusedVariables false
set_option linter.unusedSimpArgs false
namespace Go.Proofs.Ytihmliblbhjlaaa
open Go.Am

abbrev WX := Int × Int × Int
abbrev WH := Int × Int × Bool × Bool
def hd0 : WH := (0, 0, false, false)
def xd0 : WX := (0, 0, 0)
def hbad (h : WH) : Bool := ((decide (h.1 < 1) || decide (h.1 > 10)) || decide (h.2.1 < 0)) || decide (h.2.1 > 100000)
def xbad (n : Nat) (x : WX) : Bool := ((((decide (x.1 < 0) || decide (x.1 > 200)) || decide (x.2.1 < 0)) || decide (x.2.1 ≥ (n : Int))) || decide (x.2.2 < 1)) || decide (x.2.2 > 4)
def xback (T : List WX) (i : Nat) : Bool := decide (0 < i) && decide ((nx xd0 T i).1 < (nx xd0 T (i - 1)).1)
def xcode (n : Nat) (T : List WX) (i : Nat) : Int := if xbad n (nx xd0 T i) = true then 1 else 3
/-- Right turns. -/
structure WOk (l : List WH) (T : List WX) : Prop where
  ln : l.length ≤ 8
  tn : T.length ≤ 30
  hh : ∀ i, i < l.length → hbad (nx hd0 l i) = false
  xx : ∀ i, i < T.length → xbad l.length (nx xd0 T i) = false
  ss : ∀ i, i < T.length → xback T i = false

theorem check_both (F : Nat) (l : List WH) (T : List WX) (hF : 300 ≤ F) : ∃ e, F24 F l T = some e ∧ F23 F l T = some e ∧ (e = 0 → WOk l T) := by
  unfold F24 F23
  by_cases h1 : l.length > 8 ∨ T.length > 30
  · rw [if_pos (by simp only [Bool.or_eq_true, decide_eq_true_eq]; omega), if_pos (by simp only [Bool.or_eq_true, decide_eq_true_eq]; omega)]
    exact ⟨2, rfl, rfl, fun h => by cases h⟩
  · rw [if_neg (by simp only [Bool.or_eq_true, decide_eq_true_eq]; omega), if_neg (by simp only [Bool.or_eq_true, decide_eq_true_eq]; omega)]
    have e0 : F23_l0 F l = F24_l0 F l := rfl
    rw [e0]
    rcases seek_loop (step := F24_l0 F l) (F := F) l.length (fun i => hbad (nx hd0 l i)) (fun _ => 1) (fun i hi => by
        unfold F24_l0
        simp only
        rw [if_pos (decide_eq_true (by omega)), nx_get (d := hd0) hi, Option.bind_some, wsuc (by omega)]
        unfold hbad
        exact ite_some _ _) (by
        unfold F24_l0
        simp only
        rw [if_neg (by rw [decide_eq_true_eq]; omega)]) (by omega) with ⟨g1, g2⟩ | ⟨i, hi, g1, _, g2⟩
    · rw [g2]
      simp only [Option.bind_some]
      have p1 := seek_loop (step := F24_l1 F l T) (F := F) T.length (fun i => xbad l.length (nx xd0 T i) || xback T i) (xcode l.length T) (fun i hi => by
        unfold F24_l1
        simp only
        rw [if_pos (decide_eq_true (by omega)), nx_get (d := xd0) hi, Option.bind_some, wsuc (by omega)]
        have eb : (((((decide ((nx xd0 T i).1 < 0) || decide ((nx xd0 T i).1 > 200)) || decide ((nx xd0 T i).2.1 < 0)) || decide ((nx xd0 T i).2.1 ≥ (l.length : Int))) || decide ((nx xd0 T i).2.2 < 1)) || decide ((nx xd0 T i).2.2 > 4)) = xbad l.length (nx xd0 T i) := rfl
        rw [eb]
        unfold xcode
        by_cases hb : xbad l.length (nx xd0 T i) = true
        · rw [if_pos hb, if_pos (by simp [hb]), if_pos hb]
        · rw [if_neg hb]
          unfold xback
          by_cases hz : 0 < i
          · rw [if_pos (decide_eq_true (by omega)), wpred hz (by omega), nx_get (d := xd0) (by omega : i - 1 < T.length)]
            simp only [Option.bind_some]
            by_cases hc : (nx xd0 T i).1 < (nx xd0 T (i - 1)).1
            · rw [if_pos (decide_eq_true hc), if_pos (by simp [hz, hc]), if_neg hb]
            · rw [if_neg (by rw [decide_eq_true_eq]; exact hc), if_neg (by simp [hb, hc])]
          · rw [if_neg (by rw [decide_eq_true_eq]; omega), Option.bind_some, if_neg (by decide), if_neg (by simp [hb]; omega)]) (by
        unfold F24_l1
        simp only
        rw [if_neg (by rw [decide_eq_true_eq]; omega)]) (by omega)
      have p2 := seekS (step := F23_l1 F l T) (F := F) T.length (fun i => ((if i = 0 then 0 else (nx xd0 T (i - 1)).1), (i : Int))) (fun i => xbad l.length (nx xd0 T i) || xback T i) (fun i => (.inr (xcode l.length T i) : Unit ⊕ Int)) (.inl ()) (fun i hi hp => by
        unfold F23_l1
        simp only
        rw [if_pos (decide_eq_true (by omega)), nx_get (d := xd0) hi, Option.bind_some, wsuc (by omega)]
        have eb : (((((decide ((nx xd0 T i).1 < 0) || decide ((nx xd0 T i).1 > 200)) || decide ((nx xd0 T i).2.1 < 0)) || decide ((nx xd0 T i).2.1 ≥ (l.length : Int))) || decide ((nx xd0 T i).2.2 < 1)) || decide ((nx xd0 T i).2.2 > 4)) = xbad l.length (nx xd0 T i) := rfl
        rw [eb]
        unfold xcode
        by_cases hb : xbad l.length (nx xd0 T i) = true
        · rw [if_pos hb, if_pos (by simp [hb]), if_pos hb]
        · rw [if_neg hb]
          unfold xback
          by_cases hz : i = 0
          · subst hz
            have : 0 ≤ (nx xd0 T 0).1 := by
              have hb := eq_false_of_ne_true hb
              unfold xbad at hb
              simp only [Bool.or_eq_false_iff, decide_eq_false_iff_not] at hb
              omega
            rw [if_pos rfl, if_neg (by rw [decide_eq_true_eq]; omega), if_neg (by simp [hb])]
            rfl
          · rw [if_neg hz]
            by_cases hc : (nx xd0 T i).1 < (nx xd0 T (i - 1)).1
            · rw [if_pos (decide_eq_true hc), if_pos (by simp [hc]; omega), if_neg hb]
            · rw [if_neg (by rw [decide_eq_true_eq]; exact hc), if_neg (by simp [hb, hc]), if_neg (by omega)]
              rfl) (fun _ => by
        unfold F23_l1
        simp only
        rw [if_neg (by rw [decide_eq_true_eq]; omega)]) (by omega)
      rw [show ((if (0 : Nat) = 0 then (0 : Int) else (nx xd0 T (0 - 1)).1), ((0 : Nat) : Int)) = (0, 0) from rfl] at p2
      rcases p1 with ⟨a1, a2⟩ | ⟨i, hi, a1, a3, a2⟩
      · rcases p2 with ⟨b1, b2⟩ | ⟨j, hj, b1, b3, b2⟩
        · rw [a2, b2]
          refine ⟨0, rfl, rfl, fun _ => ⟨by omega, by omega, g1, fun i hi => ?_, fun i hi => ?_⟩⟩
          · have := a1 i hi; simp only [Bool.or_eq_false_iff] at this; exact this.1
          · have := a1 i hi; simp only [Bool.or_eq_false_iff] at this; exact this.2
        · rw [a1 j hj] at b1; cases b1
      · rcases p2 with ⟨b1, b2⟩ | ⟨j, hj, b1, b3, b2⟩
        · rw [b1 i hi] at a1; cases a1
        · have e : i = j := by
            rcases Nat.lt_trichotomy i j with q | q | q
            · rw [b3 i q] at a1; cases a1
            · exact q
            · rw [a3 j q] at b1; cases b1
          subst e
          rw [a2, b2]
          refine ⟨xcode l.length T i, rfl, rfl, fun h => ?_⟩
          unfold xcode at h
          split at h <;> cases h
    · rw [g2]
      exact ⟨1, rfl, rfl, fun h => by cases h⟩

/-! ### The turns of a time -/
def atT (t : Int) (x : WX) : Bool := x.1 == t
theorem sorted_of {l : List WH} {T : List WX} (h : WOk l T) : T.Pairwise (fun a b => a.1 ≤ b.1) := by
  rw [List.pairwise_iff_getElem]
  have step : ∀ i, i + 1 < T.length → (nx xd0 T i).1 ≤ (nx xd0 T (i + 1)).1 := fun i hi => by
    have := h.ss (i + 1) hi
    unfold xback at this
    simp only [Nat.add_sub_cancel, Bool.and_eq_false_iff, decide_eq_false_iff_not] at this
    omega
  have key : ∀ d i, i + d < T.length → (nx xd0 T i).1 ≤ (nx xd0 T (i + d)).1 := by
    intro d
    induction d with
    | zero => intro i _; exact Int.le_refl _
    | succ d ih => intro i hi; exact Int.le_trans (ih i (by omega)) (by rw [show i + (d + 1) = (i + d) + 1 from rfl]; exact step (i + d) hi)
  intro i j hi hj hij
  have := key (j - i) i (by omega)
  rw [show i + (j - i) = j from by omega, nx_eq hi, nx_eq hj] at this
  exact this
theorem filter_take {t : Int} : ∀ {R : List WX}, R.Pairwise (fun a b => a.1 ≤ b.1) → (∀ x ∈ R, t ≤ x.1) → R.filter (atT t) = R.takeWhile (atT t) ∧ ∀ x ∈ R.dropWhile (atT t), t + 1 ≤ x.1
  | [], _, _ => ⟨rfl, fun x h => by simp at h⟩
  | x :: R, h, h2 => by
    rw [List.pairwise_cons] at h
    by_cases e : atT t x = true
    · obtain ⟨i1, i2⟩ := filter_take h.2 (fun y hy => h2 y (List.mem_cons_of_mem _ hy))
      rw [List.filter_cons_of_pos e, List.takeWhile_cons_of_pos e, List.dropWhile_cons_of_pos e, i1]
      exact ⟨rfl, i2⟩
    · have hx : t + 1 ≤ x.1 := by
        have := h2 x (List.mem_cons_self)
        unfold atT at e
        simp only [beq_iff_eq] at e
        omega
      have hall : ∀ y ∈ x :: R, t + 1 ≤ y.1 := fun y hy => by
        rcases List.mem_cons.1 hy with rfl | hy
        · exact hx
        · have := h.1 y hy; omega
      rw [List.takeWhile_cons_of_neg e, List.dropWhile_cons_of_neg e]
      refine ⟨?_, hall⟩
      rw [List.filter_eq_nil_iff]
      intro y hy
      have := hall y hy
      unfold atT
      simp only [beq_iff_eq]
      omega
def apply (A : List WT) (L : List WX) : List WT := L.foldl turnA A
theorem apply_len (L : List WX) : ∀ A : List WT, (apply A L).length = A.length := by
  induction L with
  | nil => intro A; rfl
  | cons x L ih => intro A; unfold apply at ih ⊢; rw [List.foldl_cons, ih, turnA_len]
theorem apply_cons (A : List WT) (x : WX) (L : List WX) : apply A (x :: L) = apply (turnA A x) L := rfl
theorem apply_snoc (A : List WT) (x : WX) (L : List WX) : apply A (L ++ [x]) = turnA (apply A L) x := by unfold apply; rw [List.foldl_append]; rfl

/-- The program's turns at a time. -/
theorem pop_loop (F : Nat) (hF : 300 ≤ F) (s : List WX × List Int × Int × List WT) : ∀ (R : List WX) (A : List WT) (G : Nat), R.length < G → R.length ≤ 30 → A.length ≤ 8 → (∀ x ∈ R, 0 ≤ x.2.1 ∧ x.2.1 < (A.length : Int)) →
    iter (F22_l1 F s) G (R, A) = some (R.dropWhile (atT s.2.2.1), apply A (R.takeWhile (atT s.2.2.1)))
  | [], A, G, hG, _, _, _ => by
    obtain ⟨G, rfl⟩ : ∃ q, G = q + 1 := ⟨G - 1, by simp at hG; omega⟩
    refine iter_stop ?_
    unfold F22_l1
    simp [apply]
  | x :: R, A, G, hG, hl, hn, hx => by
    obtain ⟨G, rfl⟩ : ∃ q, G = q + 1 := ⟨G - 1, by simp at hG; omega⟩
    have hx0 := hx x List.mem_cons_self
    by_cases e : atT s.2.2.1 x = true
    · have hs : F22_l1 F s (x :: R, A) = some (.more (R, turnA A x)) := by
        unfold F22_l1
        simp only [List.length_cons] at hl ⊢
        rw [if_pos (decide_eq_true (by omega)), show at? (x :: R) 0 = some x from rfl]
        simp only [Option.bind_some]
        rw [if_pos (show (x.1 == s.2.2.1) = true from e), show (x.1, x.2.1, x.2.2) = x from rfl, turn_eq F A x hn hF hx0.1 hx0.2]
        simp only [Option.bind_some]
        have : sub? (x :: R) 1 ((R.length + 1 : Nat) : Int) = some R := by
          unfold sub?
          rw [if_pos (by simp only [List.length_cons]; omega)]
          simp
        rw [this]
        rfl
      rw [iter_more hs, pop_loop F hF s R (turnA A x) G (by simp at hG; omega) (by simp at hl; omega) (by rw [turnA_len]; exact hn) (fun y hy => by rw [turnA_len]; exact hx y (List.mem_cons_of_mem _ hy))]
      rw [List.takeWhile_cons_of_pos e, List.dropWhile_cons_of_pos e, apply_cons]
    · refine iter_stop ?_
      unfold F22_l1
      simp only [List.length_cons] at hl ⊢
      rw [if_pos (decide_eq_true (by omega)), show at? (x :: R) 0 = some x from rfl]
      simp only [Option.bind_some]
      rw [if_neg (show ¬ (x.1 == s.2.2.1) = true from e), List.takeWhile_cons_of_neg e, List.dropWhile_cons_of_neg e]
      rfl

theorem map_set_fst (A : List WT) (i : Nat) (y : WT) : (A.set i y).map (·.1) = (A.map (·.1)).set i y.1 := List.map_set ..
theorem map_set_snd (A : List WT) (i : Nat) (y : WT) : (A.set i y).map (·.2) = (A.map (·.2)).set i y.2 := List.map_set ..
theorem snd_same {A : List WT} {i : Nat} (hi : i < A.length) : (A.map (·.2)).set i (nx wd A i).2 = A.map (·.2) := by
  rw [nx_eq hi]
  apply List.ext_getElem?
  intro j
  rw [List.getElem?_set]
  by_cases e : i = j
  · subst e; rw [if_pos rfl, if_pos (by simpa using hi)]; simp [hi]
  · rw [if_neg e]
theorem fst_same {A : List WT} {i : Nat} (hi : i < A.length) : (A.map (·.1)).set i (nx wd A i).1 = A.map (·.1) := by
  rw [nx_eq hi]
  apply List.ext_getElem?
  intro j
  rw [List.getElem?_set]
  by_cases e : i = j
  · subst e; rw [if_pos rfl, if_pos (by simpa using hi)]; simp [hi]
  · rw [if_neg e]
/-- The reference's turn. -/
theorem ref_step (F : Nat) (hF : 300 ≤ F) (T : List WX) (s : List Int × Int × List WH × List Int) (A : List WT) (k : Nat) (hk : k < T.length) (hT : T.length ≤ 30) (hn : A.length ≤ 8) (hx : 0 ≤ (nx xd0 T k).2.1 ∧ (nx xd0 T k).2.1 < (A.length : Int)) :
    F25_l1 F T s ((k : Int), A.map (·.1), A.map (·.2)) = some (.more (((k + 1 : Nat) : Int), (if atT s.2.1 (nx xd0 T k) = true then turnA A (nx xd0 T k) else A).map (·.1), (if atT s.2.1 (nx xd0 T k) = true then turnA A (nx xd0 T k) else A).map (·.2))) := by
  unfold F25_l1
  simp only
  rw [if_pos (decide_eq_true (by omega)), nx_get (d := xd0) hk, wsuc (by omega)]
  generalize nx xd0 T k = x at hx ⊢
  obtain ⟨a, w, q⟩ := x
  simp only at hx
  obtain ⟨i, rfl⟩ := Int.eq_ofNat_of_zero_le hx.1
  have hi : i < A.length := by omega
  simp only [Option.bind_some]
  unfold atT
  simp only
  by_cases e : a = s.2.1
  · have eT : (if (a == s.2.1) = true then turnA A (a, (i : Int), q) else A) = turnA A (a, (i : Int), q) := if_pos (by simp [e])
    rw [eT, if_neg (by simp [e])]
    have hck : ck (A.map (·.1)) (i : Int) = some () := ck_ok (by simpa using hi)
    have hck2 : ck (A.map (·.2)) (i : Int) = some () := ck_ok (by simpa using hi)
    rw [hck]
    simp only [Option.bind_some]
    unfold turnA
    simp only [Int.toNat_natCast]
    by_cases k1 : q = 1
    · rw [if_pos (by simpa using k1), if_pos k1, at_fst hi, Option.bind_some, map_set_fst, map_set_snd]
      rw [show (wthere (nx wd A i) false).2 = (nx wd A i).2 from rfl, snd_same hi]; rfl
    rw [if_neg (by simpa using k1), if_neg k1]
    by_cases k2 : q = 2
    · rw [if_pos (by simpa using k2), if_pos k2, others_loop F A _ hn hF]
      simp only [Option.bind_some]
      rw [at_fst hi]
      simp only [Option.bind_some]
      have ey : (nx wd A i).1.2.2.1 = wth (nx wd A i) := rfl
      rw [ey]
      by_cases hy : wth (nx wd A i) = true
      · rw [if_neg (by simp [hy]), if_pos hy]
        have : ((nx wd A i).1.1, (nx wd A i).1.2.1, true, (nx wd A i).1.2.2.2) = (nx wd A i).1 := by
          rw [← hy]; rfl
        rw [this, fst_same hi]
      · rw [if_neg hy]
        have hy' : wth (nx wd A i) = false := by simpa using hy
        by_cases ho : others A = []
        · rw [if_neg (by simp [ho]), if_pos ho, map_set_fst, map_set_snd]
          rw [show (wthere (nx wd A i) true).2 = (nx wd A i).2 from rfl, snd_same hi]; rfl
        · have hl : (others A).length ≤ 8 := by
            unfold others
            rw [List.length_map]
            exact Nat.le_trans (List.length_filter_le _ _) hn
          have hp : 0 < (others A).length := List.length_pos_iff.2 ho
          rw [if_pos (by simp only [hy', Bool.not_false, Bool.true_and, decide_eq_true_eq]; omega), if_neg ho, at_snd hi, min_loop F _ ho hl hF, hck2]
          simp only [Option.bind_some]
          rw [map_set_fst, map_set_snd]; rfl
    rw [if_neg (by simpa using k2), if_neg k2]
    by_cases k3 : q = 3
    · rw [if_pos (by simpa using k3), if_pos k3, at_fst hi, Option.bind_some, map_set_fst, map_set_snd]
      rw [show (wahead (nx wd A i) true).2 = (nx wd A i).2 from rfl, snd_same hi]; rfl
    rw [if_neg (by simpa using k3), if_neg k3]
    by_cases k4 : q = 4
    · rw [if_pos (by simpa using k4), if_pos k4, at_fst hi, Option.bind_some, map_set_fst, map_set_snd]
      rw [show (wahead (nx wd A i) false).2 = (nx wd A i).2 from rfl, snd_same hi]; rfl
    rw [if_neg (by simpa using k4), if_neg k4]
  · have eT : (if (a == s.2.1) = true then turnA A (a, (i : Int), q) else A) = A := if_neg (by simpa using e)
    rw [eT, if_pos (by simpa using e)]
theorem ref_loop (F : Nat) (hF : 300 ≤ F) (T : List WX) (s : List Int × Int × List WH × List Int) (A : List WT) (hT : T.length ≤ 30) (hn : A.length ≤ 8) (hx : ∀ i, i < T.length → 0 ≤ (nx xd0 T i).2.1 ∧ (nx xd0 T i).2.1 < (A.length : Int)) :
    iter (F25_l1 F T s) F (0, A.map (·.1), A.map (·.2)) = some ((apply A (T.filter (atT s.2.1))).map (·.1), (apply A (T.filter (atT s.2.1))).map (·.2)) := by
  have := iter_count (step := F25_l1 F T s) (F := F) (P := fun k => ((k : Int), (apply A ((T.take k).filter (atT s.2.1))).map (·.1), (apply A ((T.take k).filter (atT s.2.1))).map (·.2))) (b := ((apply A (T.filter (atT s.2.1))).map (·.1), (apply A (T.filter (atT s.2.1))).map (·.2))) T.length (fun k hk => by
    rw [ref_step F hF T s (apply A ((T.take k).filter (atT s.2.1))) k hk hT (by rw [apply_len]; exact hn) (by rw [apply_len]; exact hx k hk), take_nx (d := xd0) hk, List.filter_append]
    by_cases e : atT s.2.1 (nx xd0 T k) = true
    · rw [if_pos e, List.filter_cons_of_pos e, List.filter_nil, apply_snoc]
    · rw [if_neg e, List.filter_cons_of_neg e, List.filter_nil, List.append_nil]) (by
    unfold F25_l1
    simp only
    rw [if_neg (by rw [decide_eq_true_eq]; omega), List.take_length]) (by omega)
  exact this
end Go.Proofs.Ytihmliblbhjlaaa

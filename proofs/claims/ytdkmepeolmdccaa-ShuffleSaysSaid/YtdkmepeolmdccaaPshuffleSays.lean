/- What the functional texts of package shuffle answer. -/
import Derived.Test.YtdkmepeolmdccaaTapeLib
import Derived.Test.YtdkmepeolmdccaaPermLib
set_option linter.unusedVariables false
set_option linter.unusedSimpArgs false
namespace Go.Proofs.Ytdkmepeolmdccaa
open Go.Am

/-! ### Lots -/
structure LotsOk (l : List Int) : Prop where
  len : l.length ≤ 10
  rng : ∀ i, i < l.length → 0 ≤ nx 0 l i ∧ nx 0 l i ≤ i
theorem lots_eq (F : Nat) (l : List Int) (hF : 20 ≤ F) : ∃ e : Int, F76 F l = some e ∧ F77 F l = some e ∧ (e = 0 ↔ LotsOk l) := by
  have h1 : F77 F l = F76 F l := rfl
  rw [h1]
  unfold F76
  by_cases hl : (l.length : Int) > 10
  · rw [if_pos (decide_eq_true hl)]
    exact ⟨2, rfl, rfl, ⟨fun h => (by cases h), fun h => (by have := h.len; omega)⟩⟩
  · rw [if_neg (mt of_decide_eq_true hl)]
    rcases seek_loop (step := F76_l0 F l) (F := F) l.length (fun i => decide (nx 0 l i < 0) || decide (nx 0 l i > (i : Int))) (fun _ => (1 : Int)) (by
      intro i hi
      unfold F76_l0
      rw [if_pos (decide_eq_true (by omega)), nx_get (d := 0) hi, Option.bind_some, wsuc (by omega)]
      exact ite_some _ _) (by
      unfold F76_l0
      rw [if_neg (by simp)]) (by omega) with ⟨q1, q2⟩ | ⟨i, hi, q1, _, q2⟩
    · rw [q2]
      refine ⟨0, rfl, rfl, fun _ => ⟨by omega, fun i hi => ?_⟩, fun _ => rfl⟩
      have := q1 i hi
      simp only [Bool.or_eq_false_iff, decide_eq_false_iff_not] at this
      omega
    · rw [q2]
      refine ⟨1, rfl, rfl, fun h => (by cases h), fun h => ?_⟩
      have := h.rng i hi
      simp only [Bool.or_eq_true, decide_eq_true_eq] at q1
      omega

/-! ### Dealing -/
def D (c : Nat → Int) : Nat → Nat → Int
  | 0, _ => 0
  | i + 1, j => if j = (c i).toNat then (i : Int) else if j = i then D c i (c i).toNat else D c i j
theorem D_out {c : Nat → Int} : ∀ i, (∀ q, q < i → 0 ≤ c q ∧ c q ≤ q) → ∀ j, i ≤ j → D c i j = 0
  | 0, _, _, _ => rfl
  | i + 1, h, j, hj => by
    have := h i (by omega)
    simp only [D]
    rw [if_neg (by omega), if_neg (by omega)]
    exact D_out i (fun q hq => h q (by omega)) j (by omega)
theorem D_congr {c c' : Nat → Int} : ∀ i, (∀ q, q < i → c q = c' q) → ∀ j, D c i j = D c' i j
  | 0, _, _ => rfl
  | i + 1, h, j => by
    simp only [D]
    rw [h i (by omega), D_congr i (fun q hq => h q (by omega)), D_congr i (fun q hq => h q (by omega))]
theorem deal_eq (F : Nat) (l : List Int) (h : LotsOk l) (hF : 20 ≤ F) : F73 F l = some (tb l.length (D (nx 0 l) l.length), 0) := by
  have hl := h.len
  obtain ⟨e, _, e2, e3⟩ := lots_eq F l hF
  rw [e3.2 h] at e2
  unfold F73
  rw [e2, Option.bind_some, if_neg (by decide), mk?_ok (by omega), Option.bind_some]
  have := iter_count (step := F73_l0 F l) (F := F) (fun i => ((i : Int), tb l.length (D (nx 0 l) i))) (b := tb l.length (D (nx 0 l) l.length)) l.length ?_ ?_ (by omega)
  · rw [tb_rep]
    have this' : iter (F73_l0 F l) F (0, tb l.length fun _ => 0) = some (tb l.length (D (nx 0 l) l.length)) := this
    rw [this']; rfl
  · intro i hi
    have hx := h.rng i hi
    obtain ⟨k, hk⟩ : ∃ k : Nat, nx 0 l i = k := ⟨(nx 0 l i).toNat, by omega⟩
    unfold F73_l0
    dsimp only
    rw [if_pos (decide_eq_true (by omega)), nx_get (d := 0) hi, Option.bind_some, hk, tb_get (by omega), Option.bind_some, tb_ck hi, Option.bind_some, Int.toNat_natCast, tb_set, tb_ck (by omega), Option.bind_some, Int.toNat_natCast, tb_set, wsuc (by omega)]
    congr 3
    apply tb_congr
    intro j hj
    simp only [D]
    rw [hk, Int.toNat_natCast]
  · unfold F73_l0
    dsimp only
    rw [if_neg (by simp)]
theorem dealt_eq (F : Nat) (l : List Int) (h : LotsOk l) (hF : 20 ≤ F) : F78 F l = some (tb l.length (D (nx 0 l) l.length)) := by
  have hl := h.len
  unfold F78
  have := iter_count (step := F78_l0 F l) (F := F) (fun i => (tb i (D (nx 0 l) i), (i : Int))) (b := tb l.length (D (nx 0 l) l.length)) l.length ?_ ?_ (by omega)
  · have this' : iter (F78_l0 F l) F ([], 0) = some (tb l.length (D (nx 0 l) l.length)) := this
    rw [this']; rfl
  · intro i hi
    have hx := h.rng i hi
    obtain ⟨k, hk⟩ : ∃ k : Nat, nx 0 l i = k := ⟨(nx 0 l i).toNat, by omega⟩
    have happ : tb i (D (nx 0 l) i) ++ [(i : Int)] = tb (i + 1) fun j => if j = i then (i : Int) else D (nx 0 l) i j := by
      rw [tb_succ]
      congr 1
      · apply tb_congr; intro j hj; rw [if_neg (by omega)]
      · simp
    unfold F78_l0
    dsimp only
    rw [if_pos (decide_eq_true (by omega)), nx_get (d := 0) hi, Option.bind_some, app?_ok (by simp [tb_len]; omega), Option.bind_some, happ, hk, tb_get (by omega), Option.bind_some, tb_get (by omega), Option.bind_some, tb_ck (by omega), Option.bind_some, Int.toNat_natCast, tb_set, tb_ck (by omega), Option.bind_some, Int.toNat_natCast, tb_set, wsuc (by omega), if_pos rfl]
    congr 3
    apply tb_congr
    intro j hj
    simp only [D]
    rw [hk, Int.toNat_natCast]
    by_cases e1 : j = k
    · rw [if_pos e1, if_pos e1]
    · rw [if_neg e1, if_neg e1]
      by_cases e2 : j = i
      · rw [if_pos e2, if_pos e2, if_neg (by omega)]
      · rw [if_neg e2, if_neg e2, if_neg e2]
  · unfold F78_l0
    dsimp only
    rw [if_neg (by simp)]

/-! ### From an order to its lots -/
structure PF (m : Nat) (q : Nat → Int) : Prop where
  rng : ∀ j, j < m → 0 ≤ q j ∧ q j < m
  inj : ∀ a b, a < m → b < m → q a = q b → a = b
theorem tb_nodup {m : Nat} {q : Nat → Int} (h : ∀ a b, a < m → b < m → q a = q b → a = b) : (tb m q).Nodup := by
  unfold tb
  rw [List.nodup_iff_pairwise_ne, List.pairwise_map]
  refine List.Pairwise.imp_of_mem ?_ (List.nodup_iff_pairwise_ne.1 (List.nodup_range (n := m)))
  intro a b ha hb hne e
  exact hne (h a b (by simpa using ha) (by simpa using hb) e)
theorem PF.good {m : Nat} {q : Nat → Int} (h : PF m q) : GoodP (tb m q) := by
  refine ⟨tb_nodup h.inj, fun x hx => ?_⟩
  obtain ⟨j, hj, rfl⟩ := tb_mem hx
  rw [tb_len]; exact h.rng j hj
theorem PF.surj {m : Nat} {q : Nat → Int} (h : PF m q) (i : Nat) (hi : i < m) : ∃ k, k < m ∧ q k = i :=
  tb_mem (mem_of_good h.good i (by rw [tb_len]; exact hi))
theorem PF.of {p : List Int} (h : GoodP p) : PF p.length (nx 0 p) := by
  refine ⟨fun j hj => h.2 _ (nx_mem hj), fun a b ha hb e => ?_⟩
  rw [nx_eq ha, nx_eq hb] at e
  have := List.pairwise_iff_getElem.1 (List.nodup_iff_pairwise_ne.1 h.1)
  rcases Nat.lt_trichotomy a b with hlt | hlt | hlt
  · exact (this a b ha hb hlt e).elim
  · exact hlt
  · exact (this b a hb ha hlt e.symm).elim
theorem lotsLoop (F n : Nat) (hn : n ≤ 10) (hF : 20 ≤ F) : ∀ (m : Nat) (q out : Nat → Int) (G : Nat), m ≤ n → PF m q → m < G →
    ∃ c : Nat → Int, iter (F74_l1 F) G ((m : Int) - 1, tb n q, tb n out) = some (tb n fun j => if j < m then c j else out j) ∧ (∀ j, j < m → 0 ≤ c j ∧ c j ≤ j) ∧ ∀ j, j < m → D c m j = q j
  | 0, q, out, G, hm, hP, hG => by
    obtain ⟨G, rfl⟩ : ∃ g, G = g + 1 := ⟨G - 1, by omega⟩
    refine ⟨fun _ => 0, iter_stop ?_, by omega, by omega⟩
    unfold F74_l1
    dsimp only
    rw [if_neg (by rw [decide_eq_true_eq]; omega)]
    congr 2
  | m + 1, q, out, G, hm, hP, hG => by
    obtain ⟨G, rfl⟩ : ∃ g, G = g + 1 := ⟨G - 1, by omega⟩
    obtain ⟨k, hk, hqk⟩ := hP.surj m (by omega)
    have hsub : (tb n q).take (m + 1) = tb (m + 1) q := by
      apply List.ext_getElem?
      intro j
      by_cases hj : j < m + 1
      · rw [List.getElem?_take_of_lt hj, tb_get?, tb_get?, if_pos (by omega), if_pos hj]
      · rw [List.getElem?_eq_none (by simp [tb_len]; omega), List.getElem?_eq_none (by rw [tb_len]; omega)]
    have hin : iter (F74_l0 F ((m : Int), tb n q, tb n out) (tb (m + 1) q)) F (0, tb n out) = some (tb n fun j => if j = m then (k : Int) else out j) := by
      have := iter_count (step := F74_l0 F ((m : Int), tb n q, tb n out) (tb (m + 1) q)) (F := F) (fun a => ((a : Int), tb n fun j => if j = m ∧ k < a then (k : Int) else out j)) (b := tb n fun j => if j = m then (k : Int) else out j) (m + 1) ?_ ?_ (by omega)
      · rw [← this]
        congr 2
        apply tb_congr; intro j hj; rw [if_neg (by omega)]
      · intro a ha
        unfold F74_l0
        dsimp only
        rw [if_pos (decide_eq_true (by rw [tb_len]; omega)), tb_get ha, Option.bind_some, wsuc (by omega)]
        by_cases e : q a = (m : Int)
        · have eak : a = k := hP.inj a k ha hk (by rw [e, hqk])
          subst eak
          rw [if_pos (by simpa using e), tb_ck (by omega), Option.bind_some, Int.toNat_natCast, tb_set]
          congr 3
          apply tb_congr
          intro j hj
          by_cases e2 : j = m
          · rw [if_pos e2, if_pos ⟨e2, by omega⟩]
          · rw [if_neg e2, if_neg (fun h => e2 h.1), if_neg (fun h => e2 h.1)]
        · rw [if_neg (by simpa using e)]
          have hne : a ≠ k := fun h => e (by rw [h, hqk])
          congr 3
          apply tb_congr
          intro j hj
          by_cases e2 : j = m ∧ k < a
          · rw [if_pos e2, if_pos ⟨e2.1, by omega⟩]
          · rw [if_neg e2, if_neg (fun h => e2 ⟨h.1, by omega⟩)]
      · unfold F74_l0
        dsimp only
        rw [if_neg (by rw [tb_len]; simp)]
        congr 2
        apply tb_congr
        intro j hj
        by_cases e2 : j = m
        · rw [if_pos e2, if_pos ⟨e2, hk⟩]
        · rw [if_neg e2, if_neg (fun h => e2 h.1)]
    have hq' : PF m (fun j => if j = k then q m else q j) := by
      refine ⟨fun j hj => ?_, fun a b ha hb e => ?_⟩
      · by_cases e : j = k
        · rw [if_pos e]
          have h1 := hP.rng m (by omega)
          have h2 : q m ≠ (m : Int) := fun h => by have := hP.inj m k (by omega) hk (by rw [h, hqk]); omega
          omega
        · rw [if_neg e]
          have h1 := hP.rng j (by omega)
          have h2 : q j ≠ (m : Int) := fun h => e (hP.inj j k (by omega) hk (by rw [h, hqk]))
          omega
      · by_cases ea : a = k <;> by_cases eb : b = k
        · omega
        · rw [if_pos ea, if_neg eb] at e; have := hP.inj m b (by omega) (by omega) e; omega
        · rw [if_neg ea, if_pos eb] at e; have := hP.inj a m (by omega) (by omega) e; omega
        · rw [if_neg ea, if_neg eb] at e; exact hP.inj a b (by omega) (by omega) e
    obtain ⟨c', c1, c2, c3⟩ := lotsLoop F n hn hF m (fun j => if j = k then q m else q j) (fun j => if j = m then (k : Int) else out j) G (by omega) hq' (by omega)
    have st : F74_l1 F (((m + 1 : Nat) : Int) - 1, tb n q, tb n out) = some (.more ((m : Int) - 1, tb n (fun j => if j = k then q m else q j), tb n fun j => if j = m then (k : Int) else out j)) := by
      unfold F74_l1
      dsimp only
      rw [show ((m + 1 : Nat) : Int) - 1 = (m : Int) from by omega, if_pos (decide_eq_true (by omega)), wsuc (by omega), sub?_to (by rw [tb_len]; omega), Option.bind_some, hsub, hin, Option.bind_some, tb_get (by omega), Option.bind_some, if_pos rfl, tb_get (by omega), Option.bind_some, tb_ck (by omega), Option.bind_some, Int.toNat_natCast, tb_set, w64 (by omega) (by omega)]
    refine ⟨fun j => if j = m then (k : Int) else c' j, ?_, fun j hj => ?_, fun j hj => ?_⟩
    · rw [iter_more st, c1]
      congr 1
      apply tb_congr
      intro j hj
      dsimp only
      by_cases e1 : j < m
      · rw [if_pos e1, if_pos (by omega), if_neg (by omega)]
      · rw [if_neg e1]
        by_cases e2 : j = m
        · rw [if_pos e2, if_pos (by omega), if_pos e2]
        · rw [if_neg e2, if_neg (by omega)]
    · dsimp only
      by_cases e : j = m
      · rw [if_pos e]; omega
      · rw [if_neg e]; exact c2 j (by omega)
    · have hD : ∀ j, D (fun j => if j = m then (k : Int) else c' j) m j = D c' m j := D_congr m fun q hq => by rw [if_neg (by omega)]
      simp only [D]
      rw [hD, hD]
      simp only [if_true, Int.toNat_natCast]
      by_cases e1 : j = k
      · rw [if_pos e1, e1, hqk]
      · rw [if_neg e1]
        by_cases e2 : j = m
        · have hkm : k < m := by omega
          rw [if_pos e2, c3 k hkm, if_pos rfl, e2]
        · rw [if_neg e2, c3 j (by omega), if_neg e1]
theorem lotsOf_eq (F : Nat) (p : List Int) (h : permE p = 0) (hF : 20 ≤ F) : ∃ L, F74 F p = some (L, 0) ∧ LotsOk L ∧ L.length = p.length ∧ tb L.length (D (nx 0 L) L.length) = p := by
  have hl : p.length ≤ 10 := by
    unfold permE at h
    split at h
    · cases h
    · omega
  have hg : GoodP p := by
    unfold permE at h
    rw [if_neg (by omega)] at h
    split at h
    · assumption
    · cases h
  obtain ⟨c, c1, c2, c3⟩ := lotsLoop F p.length hl hF p.length (nx 0 p) (fun _ => 0) F (Nat.le_refl _) (PF.of hg) (by omega)
  have hLn : ∀ i, i < p.length → nx 0 (tb p.length fun j => if j < p.length then c j else 0) i = c i := fun i hi => by rw [tb_nx hi, if_pos hi]
  refine ⟨tb p.length fun j => if j < p.length then c j else 0, ?_, ⟨by rw [tb_len]; exact hl, fun i hi => ?_⟩, tb_len _ _, ?_⟩
  · unfold F74
    have hcpy : cpy (List.replicate p.length (0 : Int)) p = p := by unfold cpy; simp
    rw [check_eq F p (by omega), h, Option.bind_some, if_neg (by decide), mk?_ok (by omega), Option.bind_some, Option.bind_some, hcpy, w64 (by omega) (by omega), tb_rep]
    rw [← nx_tb 0 p] at c1
    rw [c1]; rfl
  · rw [tb_len] at hi
    rw [hLn i hi]; exact c2 i hi
  · rw [tb_len]
    conv => rhs; rw [nx_tb 0 p]
    apply tb_congr
    intro j hj
    rw [D_congr p.length hLn, c3 j hj]

/-! ### The law -/
theorem most_eq (F n : Nat) (hn : n ≤ 10) (hF : 20 ≤ F) : iter (F75_l0 F n) F ([], 0) = some (tb n fun i => (i : Int) + 1) ∧ iter (F11_l0 F n) F [] = some (tb n fun i => (i : Int) + 1) := by
  constructor
  · refine iter_count (step := F75_l0 F n) (fun i => (tb i fun i => (i : Int) + 1, (i : Int))) n ?_ ?_ (by omega)
    · intro i hi
      unfold F75_l0
      dsimp only
      rw [if_pos (decide_eq_true (by omega)), w64 (by omega) (by omega), app?_ok (by simp [tb_len]; omega), Option.bind_some, tb_succ]
      rfl
    · unfold F75_l0
      dsimp only
      rw [if_neg (by simp)]
  · refine iter_count (step := F11_l0 F n) (fun i => tb i fun i => (i : Int) + 1) n ?_ ?_ (by omega)
    · intro i hi
      unfold F11_l0
      rw [tb_len, if_pos (decide_eq_true (by omega)), w64 (by omega) (by omega), app?_ok (by simp [tb_len]; omega), Option.bind_some, tb_succ]
    · unfold F11_l0
      rw [tb_len, if_neg (by simp)]

theorem PshuffleSays.holds (t0 : List (Int)) (t1 : List (Int)) (t2 : List (Int)) (t3 : Int) (h0 : (t0.length ≤ maxLen ∧ ∀ a ∈ t0, inR .i64 a)) (h1 : (t1.length ≤ maxLen ∧ ∀ a ∈ t1, inR .i64 a)) (h2 : (t2.length ≤ maxLen ∧ ∀ a ∈ t2, inR .u8 a)) (h3 : inR .i64 t3) : ∃ F, F11 F t0 t1 t2 t3 = some true := by
  refine ⟨400, ?_⟩
  -- Deal
  obtain ⟨e, e76, e77, he⟩ := lots_eq 400 t0 (by decide)
  obtain ⟨r1, e73, hm1⟩ : ∃ r1, F73 400 t0 = some r1 ∧ (if (((e != e) || (r1.2 != e)) || ((e != 0) && (decide ((r1.1.length : Int) > 0)))) = true then some true else
      ((if (e == 0) = true then ((F78 400 t0).bind fun r30 => (F32 400 r1.1 r30).bind fun r36 => some (!r36)) else some false).bind fun y41 => some y41)) = some false := by
    by_cases hz : e = 0
    · have hL := he.1 hz
      have hlen := hL.len
      refine ⟨_, deal_eq 400 t0 hL (by decide), ?_⟩
      rw [hz, if_neg (by simp), if_pos (by decide), dealt_eq 400 t0 hL (by decide), Option.bind_some, alike_eq 400 _ _ (by rw [tb_len]; omega) (by rw [tb_len]; omega)]
      simp
    · refine ⟨([], e), ?_, ?_⟩
      · unfold F73; rw [e77, Option.bind_some, if_pos (by simpa using hz)]
      · rw [if_neg (by simp), if_neg (by simpa using hz)]; rfl
  -- Lots
  have e66 := permErr_eq 400 t1 (by decide)
  obtain ⟨r7, e74, hm2⟩ : ∃ r7, F74 400 t1 = some r7 ∧ (if ((r7.2 != permE t1) || ((permE t1 != 0) && (decide ((r7.1.length : Int) > 0)))) = true then some true else
      ((if (permE t1 == 0) = true then ((F76 400 r7.1).bind fun r57 => (if (r57 != 0) = true then some true else ((F78 400 r7.1).bind fun r61 => (F32 400 r61 t1).bind fun r67 => some (!r67))).bind fun y72 => some y72) else some false).bind fun y77 => some y77)) = some false := by
    by_cases hz : permE t1 = 0
    · obtain ⟨L, l1, l2, l3, l4⟩ := lotsOf_eq 400 t1 hz (by decide)
      have hlen := l2.len
      refine ⟨_, l1, ?_⟩
      obtain ⟨e', q1, _, q3⟩ := lots_eq 400 L (by decide)
      rw [q3.2 l2] at q1
      have hl1 : t1.length < 400 := by omega
      rw [hz, if_neg (by simp), if_pos (by decide), q1, Option.bind_some, if_neg (by decide), dealt_eq 400 L l2 (by decide), Option.bind_some, l4, alike_eq 400 _ _ hl1 (by omega)]
      simp
    · refine ⟨([], permE t1), ?_, ?_⟩
      · unfold F74; rw [check_eq 400 t1 (by decide), Option.bind_some, if_pos (by simpa using hz)]
      · rw [if_neg (by simp), if_neg (by simpa using hz)]; rfl
  -- Cast
  have e79 := refTape_eq 400 t2 (by decide)
  have e138 := tapeCheck_eq 400 t2 (by decide)
  obtain ⟨r13, e75, hfin⟩ : ∃ r13, F75 400 t2 t3 = some r13 ∧ ((show Option (Int) from (if ((tapeE t2 == 0) && ((decide (t3 < 0)) || (decide (t3 > 10)))) = true then some 1 else some (tapeE t2))).bind fun b94 =>
      if (b94 != 0) = true then some ((((r13.2.2 == b94) && ((r13.1.length : Int) == 0)) && (r13.2.1 == 0))) else
      (iter (F11_l0 400 t3) 400 []).bind fun b122 => (F80 400 t2 b122).bind fun r127 =>
      (if ((r13.2.2 == r127.2.2) && (r13.2.1 == r127.2.1)) = true then ((if ((r127.2.2 != 0) && ((r13.1.length : Int) == 0)) = true then some true else
      ((if (r127.2.2 == 0) = true then ((F78 400 r127.1).bind fun r135 => (F32 400 r13.1 r135).bind fun r141 => some r141) else some false).bind fun y146 => some y146)).bind fun y151 => some y151) else some false).bind fun y156 => some y156) = some true := by
    by_cases hz : tapeE t2 = 0
    · by_cases hn : t3 < 0 ∨ t3 > 10
      · refine ⟨([], 0, 1), ?_, ?_⟩
        · unfold F75; rw [e138, hz, Option.bind_some, if_neg (by decide), if_pos (by simpa using hn)]
        · rw [hz, if_pos (by simpa using hn)]; rfl
      · obtain ⟨n, rfl⟩ : ∃ n : Nat, t3 = n := ⟨t3.toNat, by omega⟩
        obtain ⟨m1, m2⟩ := most_eq 400 n (by omega) (by decide)
        obtain ⟨r, q1, q2, q3, q4, q5⟩ := row_both 400 (by decide) t2 h2.2 hz (tb n fun i => (i : Int) + 1) (by rw [tb_len]; omega)
        by_cases hr : r.2.2 = 0
        · obtain ⟨k1, k2⟩ := q4 hr
          rw [tb_len] at k1 k2
          have hL : LotsOk r.1 := ⟨by omega, fun i hi => by
            have := k2 i (by omega)
            rw [tb_nx (by omega)] at this
            omega⟩
          have hlen := hL.len
          refine ⟨(tb r.1.length (D (nx 0 r.1) r.1.length), r.2.1, 0), ?_, ?_⟩
          · unfold F75
            rw [e138, hz, Option.bind_some, if_neg (by decide), if_neg (by simpa using hn), m1, Option.bind_some, q1, Option.bind_some, if_neg (by simpa using hr), deal_eq 400 r.1 hL (by decide)]
            rfl
          · rw [hz, if_neg (by simpa using hn), Option.bind_some, if_neg (by decide), m2, Option.bind_some, q2, Option.bind_some, hr, if_pos (by simp), if_neg (by simp), if_pos (by decide), dealt_eq 400 r.1 hL (by decide), Option.bind_some, alike_eq 400 _ _ (by rw [tb_len]; omega) (by rw [tb_len]; omega)]
            simp
        · refine ⟨([], 0, r.2.2), ?_, ?_⟩
          · unfold F75
            rw [e138, hz, Option.bind_some, if_neg (by decide), if_neg (by simpa using hn), m1, Option.bind_some, q1, Option.bind_some, if_pos (by simpa using hr)]
          · rw [hz, if_neg (by simpa using hn), Option.bind_some, if_neg (by decide), m2, Option.bind_some, q2, Option.bind_some, if_pos (by simp [q5 hr]), if_pos (by simp [hr])]
            rfl
    · refine ⟨([], 0, tapeE t2), ?_, ?_⟩
      · unfold F75; rw [e138, Option.bind_some, if_pos (by simpa using hz)]
      · rw [if_neg (by simp [hz]), Option.bind_some, if_pos (by simpa using hz)]
        simp
  unfold F11
  rw [e73, e74, e75]
  simp only [Option.bind_some]
  rw [e76, e77]
  simp only [Option.bind_some]
  rw [hm1]
  simp only [Option.bind_some]
  rw [if_neg (by decide), e66]
  simp only [Option.bind_some]
  rw [hm2]
  simp only [Option.bind_some]
  rw [if_neg (by decide), e79]
  simp only [Option.bind_some]
  exact hfin
end Go.Proofs.Ytdkmepeolmdccaa

/- What chain.trees answers: a sum over all ways to choose, of those that lead to the root. -/
import Derived.Test.YtdfalejlhkalhaaPureC
import Derived.Test.YtdfalejlhkalhaaMono
set_option linter.unusedVariables false
set_option linter.unusedSimpArgs false
namespace Go.Proofs.Ytdfalejlhkalhaa
open Go.Am

theorem nx_setC {α : Type} {d : α} {a : List α} {i j : Nat} {x : α} (h : i < a.length) : nx d (a.set i x) j = if j = i then x else nx d a j := by
  unfold nx; rw [List.getElem?_set]
  by_cases e : i = j
  · subst e; simp [h]
  · rw [if_neg e, if_neg (fun q => e q.symm)]

/-- One step to the root. -/
def stp (to : List Int) (root x : Int) : Int := if x != root then nx 0 to x.toNat else x
def wlk (to : List Int) (root : Int) : Nat → Int → Int
  | 0, x => x
  | j + 1, x => stp to root (wlk to root j x)
/-- All come to the root. -/
def leads (n : Nat) (to : List Int) (root : Int) : Bool := (List.range n).all fun k => wlk to root n (k : Int) == root
/-- The sum over all ways to go on. -/
def TR (n root : Nat) (a : Nat → Nat → Int) : Nat → Nat → List Int → Int
  | 0, _, to => if leads n to root then 1 else 0
  | d + 1, i, to => if i = root then TR n root a d (i + 1) (to ++ [0]) else sm n fun k => if k = i then 0 else a i k * TR n root a d (i + 1) (to ++ [(k : Int)])
def ent (m : List (List Int)) (i k : Nat) : Int := nx 0 (nx [] m i) k
/-- A right chain. -/
structure Rgt (m : List (List Int)) : Prop where
  lo : 1 ≤ m.length
  hi : m.length ≤ 5
  sq : ∀ i, i < m.length → (nx [] m i).length = m.length
  en : ∀ i k, i < m.length → k < m.length → 0 ≤ ent m i k ∧ ent m i k ≤ 20

theorem TR_nonneg {n root : Nat} {a : Nat → Nat → Int} (ha : ∀ i k, i < n → k < n → 0 ≤ a i k) : ∀ (d i : Nat) (to : List Int), i + d ≤ n → 0 ≤ TR n root a d i to
  | 0, i, to, _ => by unfold TR; split <;> decide
  | d + 1, i, to, h => by
    unfold TR
    split
    · exact TR_nonneg ha d (i + 1) _ (by omega)
    · refine sm_nonneg fun k hk => ?_
      split
      · exact Int.le_refl _
      · exact Int.mul_nonneg (ha i k (by omega) hk) (TR_nonneg ha d (i + 1) _ (by omega))

theorem wlk_in {n : Nat} {to : List Int} {root : Int} (hr : 0 ≤ root ∧ root < n) (ht : ∀ j, j < n → 0 ≤ nx 0 to j ∧ nx 0 to j < n) : ∀ (j : Nat) (x : Int), 0 ≤ x → x < n → 0 ≤ wlk to root j x ∧ wlk to root j x < n
  | 0, x, h1, h2 => ⟨h1, h2⟩
  | j + 1, x, h1, h2 => by
    have h := wlk_in hr ht j x h1 h2
    unfold wlk stp
    split
    · exact ht _ (by omega)
    · exact h

theorem walk_loop (F : Nat) (n : Nat) (root : Int) (to : List Int) (hF : 20 ≤ F) (hn : n ≤ 5) (hl : to.length = n) (hr : 0 ≤ root ∧ root < n) (ht : ∀ j, j < n → 0 ≤ nx 0 to j ∧ nx 0 to j < n) (x : Int) (hx : 0 ≤ x ∧ x < n) :
    iter (F133_l0 F n root to) F (x, 0) = some (wlk to root n x) := by
  refine iter_count (step := F133_l0 F n root to) (F := F) (fun j => (wlk to root j x, (j : Int))) n (fun j hj => ?_) ?_ (by omega)
  · unfold F133_l0
    have h := wlk_in hr ht j x hx.1 hx.2
    simp only
    rw [if_pos (decide_eq_true (by omega)), wsuc (by omega)]
    by_cases e : (wlk to root j x != root) = true
    · obtain ⟨q, hq⟩ : ∃ q : Nat, wlk to root j x = q := ⟨(wlk to root j x).toNat, by omega⟩
      rw [if_pos e]
      show ((at? to (wlk to root j x)).bind _) = _
      rw [hq, nx_get (d := 0) (by omega), Option.bind_some]
      show _ = some (Stp.more (stp to root (wlk to root j x), _))
      unfold stp
      rw [if_pos e, hq]; rfl
    · rw [if_neg e]
      show _ = some (Stp.more (stp to root (wlk to root j x), _))
      unfold stp
      rw [if_neg e]
  · unfold F133_l0
    simp only
    rw [if_neg (by simp)]

theorem leads_loop (F : Nat) (n : Nat) (root : Int) (to : List Int) (hF : 20 ≤ F) (hn : n ≤ 5) (hl : to.length = n) (hr : 0 ≤ root ∧ root < n) (ht : ∀ j, j < n → 0 ≤ nx 0 to j ∧ nx 0 to j < n) :
    iter (F133_l1 F n root to) F 0 = some (if leads n to root then .inl () else .inr ()) := by
  have hs : ∀ i, i < n → F133_l1 F n root to (i : Int) = some (if (wlk to root n (i : Int) != root) then .stop (.inr ()) else .more ((i + 1 : Nat) : Int)) := by
    intro i hi
    unfold F133_l1
    rw [if_pos (decide_eq_true (by omega)), walk_loop F n root to hF hn hl hr ht i ⟨by omega, by omega⟩, Option.bind_some, wsuc (by omega)]
    exact ite_some _ _
  rcases seek_loop (step := F133_l1 F n root to) (F := F) n (fun i => wlk to root n (i : Int) != root) (fun _ => ()) hs (by unfold F133_l1; rw [if_neg (by simp)]) (by omega) with ⟨g1, g2⟩ | ⟨i, g1, g2, g3, g4⟩
  · rw [g2, if_pos]
    unfold leads
    simp only [List.all_eq_true, List.mem_range, beq_iff_eq]
    intro k hk
    simpa using g1 k hk
  · rw [g4, if_neg]
    unfold leads
    simp only [List.all_eq_true, List.mem_range, beq_iff_eq]
    intro h
    rw [h i g1] at g2; simp at g2

theorem choose_eq (m : List (List Int)) (hm : Rgt m) (root : Nat) (hr : root < m.length) : ∀ (d i : Nat) (pre : List Int) (w c3 : Int) (to : List Int) (F : Nat), i + d = m.length → pre.length = i → to.length = m.length → to.take i = pre → nx 0 to root = 0 →
    (∀ j, j < m.length → 0 ≤ nx 0 to j ∧ nx 0 to j < m.length) → 0 ≤ w → w ≤ 20 ^ i → 0 ≤ c3 → c3 + w * TR m.length root (ent m) d i pre ≤ 1000000000000 → d + 30 ≤ F →
    ∃ to', F133 F i w m.length root to c3 m = some (to', c3 + w * TR m.length root (ent m) d i pre) ∧ to'.length = m.length ∧ to'.take i = pre ∧ nx 0 to' root = 0 ∧ ∀ j, j < m.length → 0 ≤ nx 0 to' j ∧ nx 0 to' j < m.length := by
  have hnn := hm.hi
  have ha : ∀ i k, i < m.length → k < m.length → 0 ≤ ent m i k := fun i k h1 h2 => (hm.en i k h1 h2).1
  intro d
  induction d with
  | zero =>
    intro i pre w c3 to F hid hpl hl htk hr0 hto hw0 hw hc hb hF
    obtain ⟨F, rfl⟩ : ∃ q, F = q + 1 := ⟨F - 1, by omega⟩
    have hi : i = m.length := by omega
    subst hi
    have htp : to = pre := by rw [← htk, ← hl, List.take_length]
    subst htp
    unfold F133
    refine ⟨to, ?_, hl, by rw [← hl, List.take_length], hr0, hto⟩
    by_cases h0 : w = 0
    · subst h0; rw [if_pos (by decide)]; simp
    · rw [if_neg (by simpa using h0), if_pos (by simp), leads_loop F m.length root to (by omega) hnn hl ⟨by omega, by omega⟩ hto]
      have hT0 : TR m.length root (ent m) 0 m.length to = if leads m.length to root then 1 else 0 := rfl
      rw [hT0] at hb ⊢
      by_cases hq : leads m.length to root = true
      · rw [if_pos hq, Option.bind_some, if_pos hq]
        rw [if_pos hq] at hb
        simp only
        rw [w64 (by omega) (by omega)]; simp
      · rw [if_neg hq, Option.bind_some, if_neg hq]; simp
  | succ d ih =>
    intro i pre w c3 to F hid hpl hl htk hr0 hto hw0 hw hc hb hF
    obtain ⟨F, rfl⟩ : ∃ q, F = q + 1 := ⟨F - 1, by omega⟩
    have hi : i < m.length := by omega
    unfold F133
    by_cases h0 : w = 0
    · subst h0; rw [if_pos (by decide)]
      exact ⟨to, by simp, hl, htk, hr0, hto⟩
    rw [if_neg (by simpa using h0), if_neg (by simp; omega)]
    have hpow : (20 : Int) ^ i ≤ 160000 := by
      have : ∀ i, i < 5 → (20 : Int) ^ i ≤ 160000 := by decide
      exact this i (by omega)
    by_cases hir : i = root
    · subst hir
      rw [if_pos (by simp)]
      have hT : TR m.length i (ent m) (d + 1) i pre = TR m.length i (ent m) d (i + 1) (pre ++ [0]) := by rw [TR, if_pos rfl]
      rw [hT] at hb ⊢
      obtain ⟨to', e1, e2, e3, e4, e5⟩ := ih (i + 1) (pre ++ [0]) w c3 to F (by omega) (by simp; omega) hl (by rw [List.take_add_one, htk, List.getElem?_eq_getElem (by omega)]; rw [nx_eq (by omega)] at hr0; rw [hr0]; rfl) hr0 hto hw0 (by rw [Int.pow_succ]; omega) hc hb (by omega)
      rw [wsuc (by omega), e1]
      refine ⟨to', rfl, e2, ?_, e4, e5⟩
      have := congrArg (List.take i) e3
      rwa [List.take_take, Nat.min_eq_left (Nat.le_succ i), List.take_append_of_le_length (Nat.le_of_eq hpl.symm), List.take_of_length_le (Nat.le_of_eq hpl)] at this
    · rw [if_neg (by simp; omega)]
      have hT : TR m.length root (ent m) (d + 1) i pre = sm m.length fun k => if k = i then 0 else ent m i k * TR m.length root (ent m) d (i + 1) (pre ++ [(k : Int)]) := by rw [TR, if_neg hir]
      rw [hT] at hb ⊢
      generalize hf : (fun k : Nat => if k = i then (0 : Int) else ent m i k * TR m.length root (ent m) d (i + 1) (pre ++ [(k : Int)])) = f at hb ⊢
      have hfn : ∀ k, k < m.length → 0 ≤ f k := fun k hk => by
        rw [← hf]
        simp only
        split
        · exact Int.le_refl _
        · exact Int.mul_nonneg (ha i k hi hk) (TR_nonneg ha d (i + 1) _ (by omega))
      have hpart : ∀ k, k ≤ m.length → 0 ≤ w * sm k f ∧ w * sm k f ≤ w * sm m.length f := fun k hk =>
        ⟨Int.mul_nonneg hw0 (sm_nonneg fun q hq => hfn q (by omega)), Int.mul_le_mul_of_nonneg_left (sm_mono hfn hk) hw0⟩
      obtain ⟨r, r1, to', rfl, r2, r3, r4, r5⟩ := iter_inv (step := F133_l2 F i w m.length root m (F133 F)) (I := fun s => ∃ (k : Nat) (to' : List Int), s = ((k : Int), to', c3 + w * sm k f) ∧ k ≤ m.length ∧ to'.length = m.length ∧ to'.take i = pre ∧ nx 0 to' root = 0 ∧ ∀ j, j < m.length → 0 ≤ nx 0 to' j ∧ nx 0 to' j < m.length)
        (μ := fun s => m.length - s.1.toNat) (Q := fun r => ∃ to' : List Int, r = (to', c3 + w * sm m.length f) ∧ to'.length = m.length ∧ to'.take i = pre ∧ nx 0 to' root = 0 ∧ ∀ j, j < m.length → 0 ≤ nx 0 to' j ∧ nx 0 to' j < m.length) (by
        rintro s ⟨k, to', rfl, hk, g1, g2, g3, g4⟩
        unfold F133_l2
        simp only
        by_cases hkm : k < m.length
        · left
          rw [if_pos (decide_eq_true (by omega))]
          by_cases hki : k = i
          · subst hki
            rw [if_neg (by simp), wsuc (by omega)]
            refine ⟨_, rfl, ⟨k + 1, to', ?_, by omega, g1, g2, g3, g4⟩, by simp only [Int.toNat_natCast]; omega⟩
            rw [sm_succ, show f k = 0 from by rw [← hf]; simp]
            simp
          · rw [if_pos (by simp; omega), ck_ok (by omega), Option.bind_some, nx_get (d := []) hi, Option.bind_some, nx_get (d := 0) (by rw [hm.sq i hi]; exact hkm), Option.bind_some]
            have he := hm.en i k hi hkm
            have hfk : f k = ent m i k * TR m.length root (ent m) d (i + 1) (pre ++ [(k : Int)]) := by rw [← hf]; simp only; rw [if_neg hki]
            have hwe : w * ent m i k ≤ 20 ^ (i + 1) := by
              rw [Int.pow_succ]
              exact Int.mul_le_mul hw he.2 he.1 (Int.le_trans hw0 hw)
            have hwe0 : 0 ≤ w * ent m i k := Int.mul_nonneg hw0 he.1
            have hp2 : (20 : Int) ^ (i + 1) ≤ 3200000 := by rw [Int.pow_succ]; omega
            have hb1 := hpart k (by omega)
            have hb2 := hpart (k + 1) (by omega)
            rw [sm_succ, Int.mul_add, hfk, ← Int.mul_assoc] at hb2
            rw [show nx 0 (nx [] m i) k = ent m i k from rfl, wsuc (by omega), w64 (a := w * ent m i k) (by omega) (by omega), Int.toNat_natCast]
            obtain ⟨to2, e1, e2, e3, e4, e5⟩ := ih (i + 1) (pre ++ [(k : Int)]) (w * ent m i k) (c3 + w * sm k f) (to'.set i (k : Int)) F (by omega) (by simp; omega) (by rw [List.length_set]; exact g1)
              (by rw [List.take_add_one, List.take_set_of_le (by omega), g2, List.getElem?_set, if_pos rfl, if_pos (by omega)]; rfl)
              (by rw [nx_setC (by omega), if_neg (by omega)]; exact g3)
              (fun j hj => by
                rw [nx_setC (by omega)]
                by_cases e : j = i
                · rw [if_pos e]; omega
                · rw [if_neg e]; exact g4 j hj) hwe0 hwe (by omega) (by omega) (by omega)
            rw [e1, Option.bind_some, wsuc (by omega)]
            refine ⟨_, rfl, ⟨k + 1, to2, ?_, by omega, e2, ?_, e4, e5⟩, by simp only [Int.toNat_natCast]; omega⟩
            · rw [sm_succ, Int.mul_add, hfk, ← Int.mul_assoc, Int.add_assoc]
            · have := congrArg (List.take i) e3
              rwa [List.take_take, Nat.min_eq_left (Nat.le_succ i), List.take_append_of_le_length (Nat.le_of_eq hpl.symm), List.take_of_length_le (Nat.le_of_eq hpl)] at this
        · right
          rw [if_neg (by rw [decide_eq_true_eq]; omega)]
          have : k = m.length := by omega
          subst this
          exact ⟨_, rfl, to', rfl, g1, g2, g3, g4⟩) F (0, to, c3) ⟨0, to, by simp [sm], by omega, hl, htk, hr0, hto⟩ (by simp only; omega)
      rw [r1, Option.bind_some]
      exact ⟨to', rfl, r2, r3, r4, r5⟩

theorem TR_le {n root : Nat} {a : Nat → Nat → Int} (hn : n ≤ 5) (ha : ∀ i k, i < n → k < n → 0 ≤ a i k ∧ a i k ≤ 20) : ∀ (d i : Nat) (to : List Int), i + d ≤ n → TR n root a d i to ≤ 100 ^ d
  | 0, i, to, _ => by unfold TR; split <;> decide
  | d + 1, i, to, h => by
    have hp : (0 : Int) ≤ 100 ^ d := Int.pow_nonneg (by decide)
    unfold TR
    split
    · have := TR_le (root := root) hn ha d (i + 1) (to ++ [0]) (by omega)
      rw [Int.pow_succ]; omega
    · have := (sm_bound (f := fun k => if k = i then (0 : Int) else a i k * TR n root a d (i + 1) (to ++ [(k : Int)])) (B := 20 * 100 ^ d) (k := n) (fun k hk => by
        have h1 := ha i k (by omega) hk
        have h2 := TR_nonneg (root := root) (fun i k h1 h2 => (ha i k h1 h2).1) d (i + 1) (to ++ [(k : Int)]) (by omega)
        have h3 := TR_le (root := root) hn ha d (i + 1) (to ++ [(k : Int)]) (by omega)
        split
        · exact ⟨Int.le_refl _, by omega⟩
        · exact ⟨Int.mul_nonneg h1.1 h2, Int.mul_le_mul h1.2 h3 h2 (by decide)⟩)).2
      rw [Int.pow_succ]
      have h5 : (20 * 100 ^ d : Int) * (n : Int) ≤ 20 * 100 ^ d * 5 := Int.mul_le_mul_of_nonneg_left (by omega) (by omega)
      omega

theorem trees_eq (m : List (List Int)) (hm : Rgt m) (root : Nat) (hr : root < m.length) (F : Nat) (hF : 40 ≤ F) : F107 F m root = some (TR m.length root (ent m) m.length 0 []) := by
  unfold F107
  have hnn := hm.hi
  have hz : ∀ (n k : Nat), nx 0 (List.replicate n (0 : Int)) k = 0 := fun n k => by
    unfold nx; rw [List.getElem?_replicate]; split <;> rfl
  have hle := TR_le (root := root) (a := ent m) hnn (fun i k h1 h2 => hm.en i k h1 h2) m.length 0 [] (by omega)
  have hp : (100 : Int) ^ m.length ≤ 10000000000 := by
    have : ∀ i, i < 6 → (100 : Int) ^ i ≤ 10000000000 := by decide
    exact this m.length (by omega)
  rw [mk?_ok (by omega), Option.bind_some]
  obtain ⟨to', e1, _⟩ := choose_eq m hm root hr m.length 0 [] 1 0 (List.replicate m.length 0) F (by omega) rfl (by simp) rfl (hz _ _) (fun j hj => by rw [hz]; omega) (by decide) (by decide) (by decide) (by omega) (by omega)
  have e1 : F133 F 0 1 m.length root (List.replicate m.length 0) 0 m = _ := e1
  rw [e1, Option.bind_some]
  simp

/-! ### Check -/
theorem check_loop (F : Nat) (m : List (List Int)) (hF : 40 ≤ F) (h1 : 1 ≤ m.length) (h2 : m.length ≤ 5) : ∃ e, iter (F106_l1 F m) F 0 = some e ∧ (e = .inl () → Rgt m) ∧ (∀ x, e = .inr x → x = 3 ∨ x = 1) := by
  obtain ⟨r, r1, r2⟩ := iter_inv (step := F106_l1 F m) (I := fun s => ∃ i : Nat, s = (i : Int) ∧ i ≤ m.length ∧ ∀ j, j < i → (nx [] m j).length = m.length ∧ ∀ k, k < m.length → 0 ≤ ent m j k ∧ ent m j k ≤ 20)
    (μ := fun s => m.length - s.toNat) (Q := fun e => (e = .inl () → Rgt m) ∧ ∀ x, e = .inr x → x = 3 ∨ x = 1) (by
    rintro s ⟨i, rfl, hi, hv⟩
    unfold F106_l1
    by_cases hlt : i < m.length
    · rw [if_pos (decide_eq_true (by omega)), nx_get (d := []) hlt, Option.bind_some]
      by_cases hl : (nx [] m i).length = m.length
      · rw [if_neg (by simp [hl])]
        rcases seek_loop (step := F106_l0 F (nx [] m i)) (F := F) m.length (fun k => decide (ent m i k < 0) || decide (ent m i k > 20)) (fun _ => (1 : Int)) (fun k hk => by
          unfold F106_l0
          rw [if_pos (decide_eq_true (by omega)), nx_get (d := 0) (by omega), Option.bind_some, wsuc (by omega)]
          exact ite_some _ _) (by unfold F106_l0; rw [if_neg (by simp [hl])]) (by omega) with ⟨g1, g2⟩ | ⟨k, g1, g2, g3, g4⟩
        · left
          rw [g2, Option.bind_some, wsuc (by omega)]
          refine ⟨_, rfl, ⟨i + 1, rfl, by omega, fun j hj => ?_⟩, by simp only [Int.toNat_natCast]; omega⟩
          by_cases e : j = i
          · subst e
            refine ⟨hl, fun k hk => ?_⟩
            have := g1 k hk
            simp only [Bool.or_eq_false_iff, decide_eq_false_iff_not] at this
            omega
          · exact hv j (by omega)
        · right
          rw [g4, Option.bind_some]
          exact ⟨_, rfl, ⟨(fun h => by cases h), fun x h => by cases h; exact .inr rfl⟩⟩
      · right
        rw [if_pos (by simp; omega)]
        exact ⟨_, rfl, ⟨(fun h => by cases h), fun x h => by cases h; exact .inl rfl⟩⟩
    · right
      rw [if_neg (by rw [decide_eq_true_eq]; omega)]
      have : i = m.length := by omega
      subst this
      exact ⟨_, rfl, ⟨fun _ => ⟨h1, h2, fun i hi => (hv i hi).1, fun i k hi hk => (hv i hi).2 k hk⟩, fun x h => by cases h⟩⟩) F 0 ⟨0, rfl, by omega, fun j hj => by omega⟩ (by simp; omega)
  exact ⟨r, r1, r2⟩
theorem check_ok (F : Nat) (m : List (List Int)) (hF : 40 ≤ F) : ∃ e, F106 F m = some e ∧ (e = 0 → Rgt m) := by
  unfold F106
  by_cases h : m.length < 1 ∨ m.length > 5
  · rw [if_pos (by simp only [Bool.or_eq_true, decide_eq_true_eq]; omega)]
    exact ⟨2, rfl, fun h => by cases h⟩
  · rw [if_neg (by simp only [Bool.or_eq_true, decide_eq_true_eq]; omega)]
    obtain ⟨e, e1, e2, e3⟩ := check_loop F m hF (by omega) (by omega)
    rw [e1, Option.bind_some]
    cases e with
    | inl u => exact ⟨0, rfl, fun _ => e2 rfl⟩
    | inr x => exact ⟨x, rfl, fun h => by have := e3 x rfl; omega⟩
theorem check_right (F : Nat) (m : List (List Int)) (hF : 40 ≤ F) (hm : Rgt m) : F106 F m = some 0 := by
  unfold F106
  have h1 := hm.lo
  have h2 := hm.hi
  rw [if_neg (by simp only [Bool.or_eq_true, decide_eq_true_eq]; omega)]
  have := iter_count (step := F106_l1 F m) (F := F) (fun i => (i : Int)) (b := Sum.inl ()) m.length (fun i hi => ?_) ?_ (by omega)
  · rw [show (0 : Int) = ((0 : Nat) : Int) from rfl, this]; rfl
  · unfold F106_l1
    have hl := hm.sq i hi
    rw [if_pos (decide_eq_true (by omega)), nx_get (d := []) hi, Option.bind_some, if_neg (by simp [hl])]
    have := iter_count (step := F106_l0 F (nx [] m i)) (F := F) (fun k => (k : Int)) (b := Sum.inl ()) m.length (fun k hk => ?_) ?_ (by omega)
    · rw [show (0 : Int) = ((0 : Nat) : Int) from rfl, this, Option.bind_some, wsuc (by omega)]
    · unfold F106_l0
      have he := hm.en i k hi hk
      rw [if_pos (decide_eq_true (by omega)), nx_get (d := 0) (by omega), Option.bind_some, if_neg (by simp only [Bool.or_eq_true, decide_eq_true_eq]; unfold ent at he; omega), wsuc (by omega)]
    · unfold F106_l0
      rw [if_neg (by simp [hl])]
  · unfold F106_l1
    rw [if_neg (by simp)]

/-- What Rest answers. -/
def restOf (m : List (List Int)) : List Int := tb m.length fun r => TR m.length r (ent m) m.length 0 []
theorem rest_eq (F : Nat) (m : List (List Int)) (hF : 40 ≤ F) (hm : Rgt m) : F62 F m = some (if (List.range m.length).any (fun r => decide (TR m.length r (ent m) m.length 0 [] > 0)) then (restOf m, 0) else ([], 4)) := by
  unfold F62
  have h2 := hm.hi
  rw [check_right F m hF hm, Option.bind_some, if_neg (by decide), mk?_ok (by omega), Option.bind_some]
  have := iter_count (step := F62_l0 F m) (F := F) (fun i => ((List.range i).any (fun r => decide (TR m.length r (ent m) m.length 0 [] > 0)), (i : Int), tb m.length fun r => if r < i then TR m.length r (ent m) m.length 0 [] else 0)) (b := ((List.range m.length).any (fun r => decide (TR m.length r (ent m) m.length 0 [] > 0)), restOf m)) m.length (fun i hi => ?_) ?_ (by omega)
  · have e : List.replicate m.length (0 : Int) = tb m.length fun r => if r < 0 then TR m.length r (ent m) m.length 0 [] else 0 := by
      rw [tb_rep]; exact tb_congr fun i _ => by rw [if_neg (by omega)]
    rw [e]
    have this : iter (F62_l0 F m) F (false, 0, tb m.length fun r => if r < 0 then TR m.length r (ent m) m.length 0 [] else 0) = _ := this
    rw [this, Option.bind_some]
    simp only
    by_cases hq : (List.range m.length).any (fun r => decide (TR m.length r (ent m) m.length 0 [] > 0)) = true
    · rw [hq]; rfl
    · rw [Bool.not_eq_true] at hq; rw [hq]; rfl
  · unfold F62_l0
    simp only
    have hset : (tb m.length fun r => if r < i then TR m.length r (ent m) m.length 0 [] else 0).set i (TR m.length i (ent m) m.length 0 []) = tb m.length fun r => if r < i + 1 then TR m.length r (ent m) m.length 0 [] else 0 := by
      rw [tb_set]
      refine tb_congr fun j hj => ?_
      by_cases e : j = i
      · subst e; rw [if_pos rfl, if_pos (by omega)]
      · rw [if_neg e]
        by_cases e2 : j < i
        · rw [if_pos e2, if_pos (by omega)]
        · rw [if_neg e2, if_neg (by omega)]
    rw [if_pos (decide_eq_true (by omega)), trees_eq m hm i hi F hF, Option.bind_some, tb_ck hi, Option.bind_some, Int.toNat_natCast, hset, tb_get hi, wsuc (by omega)]
    simp only [Nat.lt_add_one, if_true, Option.bind_some]
    have hr : (List.range (i + 1)).any (fun r => decide (TR m.length r (ent m) m.length 0 [] > 0)) = ((List.range i).any (fun r => decide (TR m.length r (ent m) m.length 0 [] > 0)) || decide (TR m.length i (ent m) m.length 0 [] > 0)) := by
      rw [List.range_succ, List.any_append]; simp
    rw [hr]
    cases (List.range i).any (fun r => decide (TR m.length r (ent m) m.length 0 [] > 0)) <;> rfl
  · unfold F62_l0
    simp only
    rw [if_neg (by simp)]
    unfold restOf
    congr 3
    exact tb_congr fun r hr => by rw [if_pos hr]
end Go.Proofs.Ytdfalejlhkalhaa

/- Joined by merge.py from ChainLib, EvenLib, DetLib, EqualLib, RatioLib, ChainLaw -/
import Derived.Test.YtdkmepeolmdccaaPureC
import Derived.Test.YtdkmepeolmdccaaMono
import Derived.Test.YtdkmepeolmdccaaDef
import Derived.Test.YtdkmepeolmdccaaPure
set_option linter.unusedVariables false
set_option linter.unusedSimpArgs false
namespace Go.Proofs.Ytdkmepeolmdccaa
open Go.Am
theorem nx_setC {α : Type} {d : α} {a : List α} {i j : Nat} {x : α} (h : i < a.length) : nx d (a.set i x) j = if j = i then x else nx d a j := by
  unfold nx; rw [List.getElem?_set]
  by_cases e : i = j
  · subst e; simp [h]
  · rw [if_neg e, if_neg (fun q => e q.symm)]

/-- One step to the root. -/
def stp (to : List Int) (root x : Int) : Int := if x != root then nx 0 to x.toNat else x
def wlk (to : List Int) (root : Int) : Nat → Int → Int
  | 0, x => x
  | j + 1, x => stp to root (wlk to root j x)
/-- All come to the root. -/
def leads (n : Nat) (to : List Int) (root : Int) : Bool := (List.range n).all fun k => wlk to root n (k : Int) == root
/-- The sum over all ways to go on. -/
def TR (n root : Nat) (a : Nat → Nat → Int) : Nat → Nat → List Int → Int
  | 0, _, to => if leads n to root then 1 else 0
  | d + 1, i, to => if i = root then TR n root a d (i + 1) (to ++ [0]) else sm n fun k => if k = i then 0 else a i k * TR n root a d (i + 1) (to ++ [(k : Int)])
def ent (m : List (List Int)) (i k : Nat) : Int := nx 0 (nx [] m i) k
/-- A right chain. -/
structure Rgt (m : List (List Int)) : Prop where
  lo : 1 ≤ m.length
  hi : m.length ≤ 5
  sq : ∀ i, i < m.length → (nx [] m i).length = m.length
  en : ∀ i k, i < m.length → k < m.length → 0 ≤ ent m i k ∧ ent m i k ≤ 20

theorem TR_nonneg {n root : Nat} {a : Nat → Nat → Int} (ha : ∀ i k, i < n → k < n → 0 ≤ a i k) : ∀ (d i : Nat) (to : List Int), i + d ≤ n → 0 ≤ TR n root a d i to
  | 0, i, to, _ => by unfold TR; split <;> decide
  | d + 1, i, to, h => by
    unfold TR
    split
    · exact TR_nonneg ha d (i + 1) _ (by omega)
    · refine sm_nonneg fun k hk => ?_
      split
      · exact Int.le_refl _
      · exact Int.mul_nonneg (ha i k (by omega) hk) (TR_nonneg ha d (i + 1) _ (by omega))

theorem wlk_in {n : Nat} {to : List Int} {root : Int} (hr : 0 ≤ root ∧ root < n) (ht : ∀ j, j < n → 0 ≤ nx 0 to j ∧ nx 0 to j < n) : ∀ (j : Nat) (x : Int), 0 ≤ x → x < n → 0 ≤ wlk to root j x ∧ wlk to root j x < n
  | 0, x, h1, h2 => ⟨h1, h2⟩
  | j + 1, x, h1, h2 => by
    have h := wlk_in hr ht j x h1 h2
    unfold wlk stp
    split
    · exact ht _ (by omega)
    · exact h

theorem walk_loop (F : Nat) (n : Nat) (root : Int) (to : List Int) (hF : 20 ≤ F) (hn : n ≤ 5) (hl : to.length = n) (hr : 0 ≤ root ∧ root < n) (ht : ∀ j, j < n → 0 ≤ nx 0 to j ∧ nx 0 to j < n) (x : Int) (hx : 0 ≤ x ∧ x < n) :
    iter (F170_l0 F n root to) F (x, 0) = some (wlk to root n x) := by
  refine iter_count (step := F170_l0 F n root to) (F := F) (fun j => (wlk to root j x, (j : Int))) n (fun j hj => ?_) ?_ (by omega)
  · unfold F170_l0
    have h := wlk_in hr ht j x hx.1 hx.2
    simp only
    rw [if_pos (decide_eq_true (by omega)), wsuc (by omega)]
    by_cases e : (wlk to root j x != root) = true
    · obtain ⟨q, hq⟩ : ∃ q : Nat, wlk to root j x = q := ⟨(wlk to root j x).toNat, by omega⟩
      rw [if_pos e]
      show ((at? to (wlk to root j x)).bind _) = _
      rw [hq, nx_get (d := 0) (by omega), Option.bind_some]
      show _ = some (Stp.more (stp to root (wlk to root j x), _))
      unfold stp
      rw [if_pos e, hq]; rfl
    · rw [if_neg e]
      show _ = some (Stp.more (stp to root (wlk to root j x), _))
      unfold stp
      rw [if_neg e]
  · unfold F170_l0
    simp only
    rw [if_neg (by simp)]

theorem leads_loop (F : Nat) (n : Nat) (root : Int) (to : List Int) (hF : 20 ≤ F) (hn : n ≤ 5) (hl : to.length = n) (hr : 0 ≤ root ∧ root < n) (ht : ∀ j, j < n → 0 ≤ nx 0 to j ∧ nx 0 to j < n) :
    iter (F170_l1 F n root to) F 0 = some (if leads n to root then .inl () else .inr ()) := by
  have hs : ∀ i, i < n → F170_l1 F n root to (i : Int) = some (if (wlk to root n (i : Int) != root) then .stop (.inr ()) else .more ((i + 1 : Nat) : Int)) := by
    intro i hi
    unfold F170_l1
    rw [if_pos (decide_eq_true (by omega)), walk_loop F n root to hF hn hl hr ht i ⟨by omega, by omega⟩, Option.bind_some, wsuc (by omega)]
    exact ite_some _ _
  rcases seek_loop (step := F170_l1 F n root to) (F := F) n (fun i => wlk to root n (i : Int) != root) (fun _ => ()) hs (by unfold F170_l1; rw [if_neg (by simp)]) (by omega) with ⟨g1, g2⟩ | ⟨i, g1, g2, g3, g4⟩
  · rw [g2, if_pos]
    unfold leads
    simp only [List.all_eq_true, List.mem_range, beq_iff_eq]
    intro k hk
    simpa using g1 k hk
  · rw [g4, if_neg]
    unfold leads
    simp only [List.all_eq_true, List.mem_range, beq_iff_eq]
    intro h
    rw [h i g1] at g2; simp at g2

theorem choose_eq (m : List (List Int)) (hm : Rgt m) (root : Nat) (hr : root < m.length) : ∀ (d i : Nat) (pre : List Int) (w c3 : Int) (to : List Int) (F : Nat), i + d = m.length → pre.length = i → to.length = m.length → to.take i = pre → nx 0 to root = 0 →
    (∀ j, j < m.length → 0 ≤ nx 0 to j ∧ nx 0 to j < m.length) → 0 ≤ w → w ≤ 20 ^ i → 0 ≤ c3 → c3 + w * TR m.length root (ent m) d i pre ≤ 1000000000000 → d + 30 ≤ F →
    ∃ to', F170 F i w m.length root to c3 m = some (to', c3 + w * TR m.length root (ent m) d i pre) ∧ to'.length = m.length ∧ to'.take i = pre ∧ nx 0 to' root = 0 ∧ ∀ j, j < m.length → 0 ≤ nx 0 to' j ∧ nx 0 to' j < m.length := by
  have hnn := hm.hi
  have ha : ∀ i k, i < m.length → k < m.length → 0 ≤ ent m i k := fun i k h1 h2 => (hm.en i k h1 h2).1
  intro d
  induction d with
  | zero =>
    intro i pre w c3 to F hid hpl hl htk hr0 hto hw0 hw hc hb hF
    obtain ⟨F, rfl⟩ : ∃ q, F = q + 1 := ⟨F - 1, by omega⟩
    have hi : i = m.length := by omega
    subst hi
    have htp : to = pre := by rw [← htk, ← hl, List.take_length]
    subst htp
    unfold F170
    refine ⟨to, ?_, hl, by rw [← hl, List.take_length], hr0, hto⟩
    by_cases h0 : w = 0
    · subst h0; rw [if_pos (by decide)]; simp
    · rw [if_neg (by simpa using h0), if_pos (by simp), leads_loop F m.length root to (by omega) hnn hl ⟨by omega, by omega⟩ hto]
      have hT0 : TR m.length root (ent m) 0 m.length to = if leads m.length to root then 1 else 0 := rfl
      rw [hT0] at hb ⊢
      by_cases hq : leads m.length to root = true
      · rw [if_pos hq, Option.bind_some, if_pos hq]
        rw [if_pos hq] at hb
        simp only
        rw [w64 (by omega) (by omega)]; simp
      · rw [if_neg hq, Option.bind_some, if_neg hq]; simp
  | succ d ih =>
    intro i pre w c3 to F hid hpl hl htk hr0 hto hw0 hw hc hb hF
    obtain ⟨F, rfl⟩ : ∃ q, F = q + 1 := ⟨F - 1, by omega⟩
    have hi : i < m.length := by omega
    unfold F170
    by_cases h0 : w = 0
    · subst h0; rw [if_pos (by decide)]
      exact ⟨to, by simp, hl, htk, hr0, hto⟩
    rw [if_neg (by simpa using h0), if_neg (by simp; omega)]
    have hpow : (20 : Int) ^ i ≤ 160000 := by
      have : ∀ i, i < 5 → (20 : Int) ^ i ≤ 160000 := by decide
      exact this i (by omega)
    by_cases hir : i = root
    · subst hir
      rw [if_pos (by simp)]
      have hT : TR m.length i (ent m) (d + 1) i pre = TR m.length i (ent m) d (i + 1) (pre ++ [0]) := by rw [TR, if_pos rfl]
      rw [hT] at hb ⊢
      obtain ⟨to', e1, e2, e3, e4, e5⟩ := ih (i + 1) (pre ++ [0]) w c3 to F (by omega) (by simp; omega) hl (by rw [List.take_add_one, htk, List.getElem?_eq_getElem (by omega)]; rw [nx_eq (by omega)] at hr0; rw [hr0]; rfl) hr0 hto hw0 (by rw [Int.pow_succ]; omega) hc hb (by omega)
      rw [wsuc (by omega), e1]
      refine ⟨to', rfl, e2, ?_, e4, e5⟩
      have := congrArg (List.take i) e3
      rwa [List.take_take, Nat.min_eq_left (Nat.le_succ i), List.take_append_of_le_length (Nat.le_of_eq hpl.symm), List.take_of_length_le (Nat.le_of_eq hpl)] at this
    · rw [if_neg (by simp; omega)]
      have hT : TR m.length root (ent m) (d + 1) i pre = sm m.length fun k => if k = i then 0 else ent m i k * TR m.length root (ent m) d (i + 1) (pre ++ [(k : Int)]) := by rw [TR, if_neg hir]
      rw [hT] at hb ⊢
      generalize hf : (fun k : Nat => if k = i then (0 : Int) else ent m i k * TR m.length root (ent m) d (i + 1) (pre ++ [(k : Int)])) = f at hb ⊢
      have hfn : ∀ k, k < m.length → 0 ≤ f k := fun k hk => by
        rw [← hf]
        simp only
        split
        · exact Int.le_refl _
        · exact Int.mul_nonneg (ha i k hi hk) (TR_nonneg ha d (i + 1) _ (by omega))
      have hpart : ∀ k, k ≤ m.length → 0 ≤ w * sm k f ∧ w * sm k f ≤ w * sm m.length f := fun k hk =>
        ⟨Int.mul_nonneg hw0 (sm_nonneg fun q hq => hfn q (by omega)), Int.mul_le_mul_of_nonneg_left (sm_mono hfn hk) hw0⟩
      obtain ⟨r, r1, to', rfl, r2, r3, r4, r5⟩ := iter_inv (step := F170_l2 F i w m.length root m (F170 F)) (I := fun s => ∃ (k : Nat) (to' : List Int), s = ((k : Int), to', c3 + w * sm k f) ∧ k ≤ m.length ∧ to'.length = m.length ∧ to'.take i = pre ∧ nx 0 to' root = 0 ∧ ∀ j, j < m.length → 0 ≤ nx 0 to' j ∧ nx 0 to' j < m.length)
        (μ := fun s => m.length - s.1.toNat) (Q := fun r => ∃ to' : List Int, r = (to', c3 + w * sm m.length f) ∧ to'.length = m.length ∧ to'.take i = pre ∧ nx 0 to' root = 0 ∧ ∀ j, j < m.length → 0 ≤ nx 0 to' j ∧ nx 0 to' j < m.length) (by
        rintro s ⟨k, to', rfl, hk, g1, g2, g3, g4⟩
        unfold F170_l2
        simp only
        by_cases hkm : k < m.length
        · left
          rw [if_pos (decide_eq_true (by omega))]
          by_cases hki : k = i
          · subst hki
            rw [if_neg (by simp), wsuc (by omega)]
            refine ⟨_, rfl, ⟨k + 1, to', ?_, by omega, g1, g2, g3, g4⟩, by simp only [Int.toNat_natCast]; omega⟩
            rw [sm_succ, show f k = 0 from by rw [← hf]; simp]
            simp
          · rw [if_pos (by simp; omega), ck_ok (by omega), Option.bind_some, nx_get (d := []) hi, Option.bind_some, nx_get (d := 0) (by rw [hm.sq i hi]; exact hkm), Option.bind_some]
            have he := hm.en i k hi hkm
            have hfk : f k = ent m i k * TR m.length root (ent m) d (i + 1) (pre ++ [(k : Int)]) := by rw [← hf]; simp only; rw [if_neg hki]
            have hwe : w * ent m i k ≤ 20 ^ (i + 1) := by
              rw [Int.pow_succ]
              exact Int.mul_le_mul hw he.2 he.1 (Int.le_trans hw0 hw)
            have hwe0 : 0 ≤ w * ent m i k := Int.mul_nonneg hw0 he.1
            have hp2 : (20 : Int) ^ (i + 1) ≤ 3200000 := by rw [Int.pow_succ]; omega
            have hb1 := hpart k (by omega)
            have hb2 := hpart (k + 1) (by omega)
            rw [sm_succ, Int.mul_add, hfk, ← Int.mul_assoc] at hb2
            rw [show nx 0 (nx [] m i) k = ent m i k from rfl, wsuc (by omega), w64 (a := w * ent m i k) (by omega) (by omega), Int.toNat_natCast]
            obtain ⟨to2, e1, e2, e3, e4, e5⟩ := ih (i + 1) (pre ++ [(k : Int)]) (w * ent m i k) (c3 + w * sm k f) (to'.set i (k : Int)) F (by omega) (by simp; omega) (by rw [List.length_set]; exact g1)
              (by rw [List.take_add_one, List.take_set_of_le (by omega), g2, List.getElem?_set, if_pos rfl, if_pos (by omega)]; rfl)
              (by rw [nx_setC (by omega), if_neg (by omega)]; exact g3)
              (fun j hj => by
                rw [nx_setC (by omega)]
                by_cases e : j = i
                · rw [if_pos e]; omega
                · rw [if_neg e]; exact g4 j hj) hwe0 hwe (by omega) (by omega) (by omega)
            rw [e1, Option.bind_some, wsuc (by omega)]
            refine ⟨_, rfl, ⟨k + 1, to2, ?_, by omega, e2, ?_, e4, e5⟩, by simp only [Int.toNat_natCast]; omega⟩
            · rw [sm_succ, Int.mul_add, hfk, ← Int.mul_assoc, Int.add_assoc]
            · have := congrArg (List.take i) e3
              rwa [List.take_take, Nat.min_eq_left (Nat.le_succ i), List.take_append_of_le_length (Nat.le_of_eq hpl.symm), List.take_of_length_le (Nat.le_of_eq hpl)] at this
        · right
          rw [if_neg (by rw [decide_eq_true_eq]; omega)]
          have : k = m.length := by omega
          subst this
          exact ⟨_, rfl, to', rfl, g1, g2, g3, g4⟩) F (0, to, c3) ⟨0, to, by simp [sm], by omega, hl, htk, hr0, hto⟩ (by simp only; omega)
      rw [r1, Option.bind_some]
      exact ⟨to', rfl, r2, r3, r4, r5⟩

theorem TR_le {n root : Nat} {a : Nat → Nat → Int} (hn : n ≤ 5) (ha : ∀ i k, i < n → k < n → 0 ≤ a i k ∧ a i k ≤ 20) : ∀ (d i : Nat) (to : List Int), i + d ≤ n → TR n root a d i to ≤ 100 ^ d
  | 0, i, to, _ => by unfold TR; split <;> decide
  | d + 1, i, to, h => by
    have hp : (0 : Int) ≤ 100 ^ d := Int.pow_nonneg (by decide)
    unfold TR
    split
    · have := TR_le (root := root) hn ha d (i + 1) (to ++ [0]) (by omega)
      rw [Int.pow_succ]; omega
    · have := (sm_bound (f := fun k => if k = i then (0 : Int) else a i k * TR n root a d (i + 1) (to ++ [(k : Int)])) (B := 20 * 100 ^ d) (k := n) (fun k hk => by
        have h1 := ha i k (by omega) hk
        have h2 := TR_nonneg (root := root) (fun i k h1 h2 => (ha i k h1 h2).1) d (i + 1) (to ++ [(k : Int)]) (by omega)
        have h3 := TR_le (root := root) hn ha d (i + 1) (to ++ [(k : Int)]) (by omega)
        split
        · exact ⟨Int.le_refl _, by omega⟩
        · exact ⟨Int.mul_nonneg h1.1 h2, Int.mul_le_mul h1.2 h3 h2 (by decide)⟩)).2
      rw [Int.pow_succ]
      have h5 : (20 * 100 ^ d : Int) * (n : Int) ≤ 20 * 100 ^ d * 5 := Int.mul_le_mul_of_nonneg_left (by omega) (by omega)
      omega

theorem trees_eq (m : List (List Int)) (hm : Rgt m) (root : Nat) (hr : root < m.length) (F : Nat) (hF : 40 ≤ F) : F152 F m root = some (TR m.length root (ent m) m.length 0 []) := by
  unfold F152
  have hnn := hm.hi
  have hz : ∀ (n k : Nat), nx 0 (List.replicate n (0 : Int)) k = 0 := fun n k => by
    unfold nx; rw [List.getElem?_replicate]; split <;> rfl
  have hle := TR_le (root := root) (a := ent m) hnn (fun i k h1 h2 => hm.en i k h1 h2) m.length 0 [] (by omega)
  have hp : (100 : Int) ^ m.length ≤ 10000000000 := by
    have : ∀ i, i < 6 → (100 : Int) ^ i ≤ 10000000000 := by decide
    exact this m.length (by omega)
  rw [mk?_ok (by omega), Option.bind_some]
  obtain ⟨to', e1, _⟩ := choose_eq m hm root hr m.length 0 [] 1 0 (List.replicate m.length 0) F (by omega) rfl (by simp) rfl (hz _ _) (fun j hj => by rw [hz]; omega) (by decide) (by decide) (by decide) (by omega) (by omega)
  have e1 : F170 F 0 1 m.length root (List.replicate m.length 0) 0 m = _ := e1
  rw [e1, Option.bind_some]
  simp

/-! ### Check -/
theorem check_loop (F : Nat) (m : List (List Int)) (hF : 40 ≤ F) (h1 : 1 ≤ m.length) (h2 : m.length ≤ 5) : ∃ e, iter (F93_l1 F m) F 0 = some e ∧ (e = .inl () → Rgt m) ∧ (∀ x, e = .inr x → x = 3 ∨ x = 1) := by
  obtain ⟨r, r1, r2⟩ := iter_inv (step := F93_l1 F m) (I := fun s => ∃ i : Nat, s = (i : Int) ∧ i ≤ m.length ∧ ∀ j, j < i → (nx [] m j).length = m.length ∧ ∀ k, k < m.length → 0 ≤ ent m j k ∧ ent m j k ≤ 20)
    (μ := fun s => m.length - s.toNat) (Q := fun e => (e = .inl () → Rgt m) ∧ ∀ x, e = .inr x → x = 3 ∨ x = 1) (by
    rintro s ⟨i, rfl, hi, hv⟩
    unfold F93_l1
    by_cases hlt : i < m.length
    · rw [if_pos (decide_eq_true (by omega)), nx_get (d := []) hlt, Option.bind_some]
      by_cases hl : (nx [] m i).length = m.length
      · rw [if_neg (by simp [hl])]
        rcases seek_loop (step := F93_l0 F (nx [] m i)) (F := F) m.length (fun k => decide (ent m i k < 0) || decide (ent m i k > 20)) (fun _ => (1 : Int)) (fun k hk => by
          unfold F93_l0
          rw [if_pos (decide_eq_true (by omega)), nx_get (d := 0) (by omega), Option.bind_some, wsuc (by omega)]
          exact ite_some _ _) (by unfold F93_l0; rw [if_neg (by simp [hl])]) (by omega) with ⟨g1, g2⟩ | ⟨k, g1, g2, g3, g4⟩
        · left
          rw [g2, Option.bind_some, wsuc (by omega)]
          refine ⟨_, rfl, ⟨i + 1, rfl, by omega, fun j hj => ?_⟩, by simp only [Int.toNat_natCast]; omega⟩
          by_cases e : j = i
          · subst e
            refine ⟨hl, fun k hk => ?_⟩
            have := g1 k hk
            simp only [Bool.or_eq_false_iff, decide_eq_false_iff_not] at this
            omega
          · exact hv j (by omega)
        · right
          rw [g4, Option.bind_some]
          exact ⟨_, rfl, ⟨(fun h => by cases h), fun x h => by cases h; exact .inr rfl⟩⟩
      · right
        rw [if_pos (by simp; omega)]
        exact ⟨_, rfl, ⟨(fun h => by cases h), fun x h => by cases h; exact .inl rfl⟩⟩
    · right
      rw [if_neg (by rw [decide_eq_true_eq]; omega)]
      have : i = m.length := by omega
      subst this
      exact ⟨_, rfl, ⟨fun _ => ⟨h1, h2, fun i hi => (hv i hi).1, fun i k hi hk => (hv i hi).2 k hk⟩, fun x h => by cases h⟩⟩) F 0 ⟨0, rfl, by omega, fun j hj => by omega⟩ (by simp; omega)
  exact ⟨r, r1, r2⟩
theorem check_ok (F : Nat) (m : List (List Int)) (hF : 40 ≤ F) : ∃ e, F93 F m = some e ∧ (e = 0 → Rgt m) := by
  unfold F93
  by_cases h : m.length < 1 ∨ m.length > 5
  · rw [if_pos (by simp only [Bool.or_eq_true, decide_eq_true_eq]; omega)]
    exact ⟨2, rfl, fun h => by cases h⟩
  · rw [if_neg (by simp only [Bool.or_eq_true, decide_eq_true_eq]; omega)]
    obtain ⟨e, e1, e2, e3⟩ := check_loop F m hF (by omega) (by omega)
    rw [e1, Option.bind_some]
    cases e with
    | inl u => exact ⟨0, rfl, fun _ => e2 rfl⟩
    | inr x => exact ⟨x, rfl, fun h => by have := e3 x rfl; omega⟩
theorem check_right (F : Nat) (m : List (List Int)) (hF : 40 ≤ F) (hm : Rgt m) : F93 F m = some 0 := by
  unfold F93
  have h1 := hm.lo
  have h2 := hm.hi
  rw [if_neg (by simp only [Bool.or_eq_true, decide_eq_true_eq]; omega)]
  have := iter_count (step := F93_l1 F m) (F := F) (fun i => (i : Int)) (b := Sum.inl ()) m.length (fun i hi => ?_) ?_ (by omega)
  · rw [show (0 : Int) = ((0 : Nat) : Int) from rfl, this]; rfl
  · unfold F93_l1
    have hl := hm.sq i hi
    rw [if_pos (decide_eq_true (by omega)), nx_get (d := []) hi, Option.bind_some, if_neg (by simp [hl])]
    have := iter_count (step := F93_l0 F (nx [] m i)) (F := F) (fun k => (k : Int)) (b := Sum.inl ()) m.length (fun k hk => ?_) ?_ (by omega)
    · rw [show (0 : Int) = ((0 : Nat) : Int) from rfl, this, Option.bind_some, wsuc (by omega)]
    · unfold F93_l0
      have he := hm.en i k hi hk
      rw [if_pos (decide_eq_true (by omega)), nx_get (d := 0) (by omega), Option.bind_some, if_neg (by simp only [Bool.or_eq_true, decide_eq_true_eq]; unfold ent at he; omega), wsuc (by omega)]
    · unfold F93_l0
      rw [if_neg (by simp [hl])]
  · unfold F93_l1
    rw [if_neg (by simp)]

/-- What Rest answers. -/
def restOf (m : List (List Int)) : List Int := tb m.length fun r => TR m.length r (ent m) m.length 0 []
theorem rest_eq (F : Nat) (m : List (List Int)) (hF : 40 ≤ F) (hm : Rgt m) : F90 F m = some (if (List.range m.length).any (fun r => decide (TR m.length r (ent m) m.length 0 [] > 0)) then (restOf m, 0) else ([], 4)) := by
  unfold F90
  have h2 := hm.hi
  rw [check_right F m hF hm, Option.bind_some, if_neg (by decide), mk?_ok (by omega), Option.bind_some]
  have := iter_count (step := F90_l0 F m) (F := F) (fun i => ((List.range i).any (fun r => decide (TR m.length r (ent m) m.length 0 [] > 0)), (i : Int), tb m.length fun r => if r < i then TR m.length r (ent m) m.length 0 [] else 0)) (b := ((List.range m.length).any (fun r => decide (TR m.length r (ent m) m.length 0 [] > 0)), restOf m)) m.length (fun i hi => ?_) ?_ (by omega)
  · have e : List.replicate m.length (0 : Int) = tb m.length fun r => if r < 0 then TR m.length r (ent m) m.length 0 [] else 0 := by
      rw [tb_rep]; exact tb_congr fun i _ => by rw [if_neg (by omega)]
    rw [e]
    have this : iter (F90_l0 F m) F (false, 0, tb m.length fun r => if r < 0 then TR m.length r (ent m) m.length 0 [] else 0) = _ := this
    rw [this, Option.bind_some]
    simp only
    by_cases hq : (List.range m.length).any (fun r => decide (TR m.length r (ent m) m.length 0 [] > 0)) = true
    · rw [hq]; rfl
    · rw [Bool.not_eq_true] at hq; rw [hq]; rfl
  · unfold F90_l0
    simp only
    have hset : (tb m.length fun r => if r < i then TR m.length r (ent m) m.length 0 [] else 0).set i (TR m.length i (ent m) m.length 0 []) = tb m.length fun r => if r < i + 1 then TR m.length r (ent m) m.length 0 [] else 0 := by
      rw [tb_set]
      refine tb_congr fun j hj => ?_
      by_cases e : j = i
      · subst e; rw [if_pos rfl, if_pos (by omega)]
      · rw [if_neg e]
        by_cases e2 : j < i
        · rw [if_pos e2, if_pos (by omega)]
        · rw [if_neg e2, if_neg (by omega)]
    rw [if_pos (decide_eq_true (by omega)), trees_eq m hm i hi F hF, Option.bind_some, tb_ck hi, Option.bind_some, Int.toNat_natCast, hset, tb_get hi, wsuc (by omega)]
    simp only [Nat.lt_add_one, if_true, Option.bind_some]
    have hr : (List.range (i + 1)).any (fun r => decide (TR m.length r (ent m) m.length 0 [] > 0)) = ((List.range i).any (fun r => decide (TR m.length r (ent m) m.length 0 [] > 0)) || decide (TR m.length i (ent m) m.length 0 [] > 0)) := by
      rw [List.range_succ, List.any_append]; simp
    rw [hr]
    cases (List.range i).any (fun r => decide (TR m.length r (ent m) m.length 0 [] > 0)) <;> rfl
  · unfold F90_l0
    simp only
    rw [if_neg (by simp)]
    unfold restOf
    congr 3
    exact tb_congr fun r hr => by rw [if_pos hr]

def EvenP (m : List (List Int)) (l : List Int) : Prop := ∀ i k, i < m.length → k < m.length → nx 0 l i * ent m i k = nx 0 l k * ent m k i
theorem prod_bd {x y : Int} (h1 : 0 ≤ x) (h2 : x ≤ 1000000000) (h3 : 0 ≤ y) (h4 : y ≤ 20) : 0 ≤ x * y ∧ x * y ≤ 20000000000 := ⟨Int.mul_nonneg h1 h3, Int.mul_le_mul h2 h4 h3 (by decide)⟩
theorem even_eq (F : Nat) (m : List (List Int)) (l : List Int) (hF : 40 ≤ F) (hm : Rgt m) (hl : l.length = m.length) (hb : ∀ i, i < m.length → 0 ≤ nx 0 l i ∧ nx 0 l i ≤ 1000000000) :
    ∃ b, F91 F m l = some (b, 0) ∧ (b = true ↔ EvenP m l) := by
  unfold F91
  have hn := hm.hi
  rw [check_right F m hF hm, Option.bind_some, if_neg (by decide), if_neg (by simp [hl])]
  have h0 := iter_count (step := F91_l0 F l) (F := F) (fun i => (i : Int)) (b := Sum.inl ()) m.length (fun i hi => by
    unfold F91_l0
    have := hb i hi
    rw [if_pos (decide_eq_true (by omega)), nx_get (d := 0) (by omega), Option.bind_some, if_neg (by simp only [Bool.or_eq_true, decide_eq_true_eq]; omega), wsuc (by omega)]) (by unfold F91_l0; rw [if_neg (by simp [hl])]) (by omega)
  rw [show (0 : Int) = ((0 : Nat) : Int) from rfl, h0, Option.bind_some]
  simp only
  -- row by row
  have hrow : ∀ i, i < m.length → iter (F91_l1 F m l i (nx [] m i)) F 0 = some (if (List.range m.length).any (fun k => decide (nx 0 l i * ent m i k ≠ nx 0 l k * ent m k i)) then .inr (false, 0) else .inl ()) := by
    intro i hi
    have hs := hm.sq i hi
    rcases seek_loop (step := F91_l1 F m l i (nx [] m i)) (F := F) m.length (fun k => decide (nx 0 l i * ent m i k ≠ nx 0 l k * ent m k i)) (fun _ => (false, (0 : Int))) (fun k hk => by
      unfold F91_l1
      have e1 := hm.en i k hi hk
      have e2 := hm.en k i hk hi
      have e3 := hb i hi
      have e4 := hb k hk
      have p1 := prod_bd e3.1 e3.2 e1.1 e1.2
      have p2 := prod_bd e4.1 e4.2 e2.1 e2.2
      rw [if_pos (decide_eq_true (by omega)), nx_get (d := 0) (by omega), Option.bind_some, nx_get (d := 0) (by omega), Option.bind_some, nx_get (d := 0) (by omega), Option.bind_some, nx_get (d := []) hk, Option.bind_some, nx_get (d := 0) (by rw [hm.sq k hk]; exact hi), Option.bind_some, wsuc (by omega)]
      rw [show nx 0 (nx [] m i) k = ent m i k from rfl, show nx 0 (nx [] m k) i = ent m k i from rfl, w64 (by omega) (by omega), w64 (by omega) (by omega)]
      by_cases e : nx 0 l i * ent m i k = nx 0 l k * ent m k i
      · rw [if_neg (by simp [e]), if_neg (by simp [e])]
      · rw [if_pos (by simpa using e), if_pos (by simpa using e)]) (by unfold F91_l1; rw [if_neg (by simp [hs])]) (by omega) with ⟨g1, g2⟩ | ⟨k, g1, g2, g3, g4⟩
    · rw [g2, if_neg]
      simp only [List.any_eq_true, List.mem_range]
      rintro ⟨k, hk, hx⟩
      rw [g1 k hk] at hx; cases hx
    · rw [g4, if_pos]
      simp only [List.any_eq_true, List.mem_range]
      exact ⟨k, g1, g2⟩
  rcases seek_loop (step := F91_l2 F m l) (F := F) m.length (fun i => (List.range m.length).any (fun k => decide (nx 0 l i * ent m i k ≠ nx 0 l k * ent m k i))) (fun _ => (false, (0 : Int))) (fun i hi => by
    unfold F91_l2
    rw [if_pos (decide_eq_true (by omega)), nx_get (d := []) hi, Option.bind_some, hrow i hi, Option.bind_some, wsuc (by omega)]
    by_cases hq : (List.range m.length).any (fun k => decide (nx 0 l i * ent m i k ≠ nx 0 l k * ent m k i)) = true
    · rw [if_pos hq, if_pos hq]
    · rw [if_neg hq, if_neg hq]) (by unfold F91_l2; rw [if_neg (by simp)]) (by omega) with ⟨g1, g2⟩ | ⟨i, g1, g2, g3, g4⟩
  · have g2 : iter (F91_l2 F m l) F ((0 : Nat) : Int) = _ := g2
    rw [g2, Option.bind_some]
    refine ⟨true, rfl, fun _ i k hi hk => ?_, fun _ => rfl⟩
    have := g1 i hi
    rw [List.any_eq_false] at this
    have := this k (by simpa using hk)
    simpa using this
  · have g4 : iter (F91_l2 F m l) F ((0 : Nat) : Int) = _ := g4
    rw [g4, Option.bind_some]
    refine ⟨false, rfl, (fun h => by cases h), fun h => ?_⟩
    rw [List.any_eq_true] at g2
    obtain ⟨k, hk, hx⟩ := g2
    have := h i k g1 (by simpa using hk)
    simp [this] at hx

def sgn (k : Nat) : Int := if k % 2 = 1 then -1 else 1
def sk (k c : Nat) : Nat := if c < k then c else c + 1
/-- The determinant of the first s rows and columns. -/
def dtf : Nat → (Nat → Nat → Int) → Int
  | 0, _ => 1
  | s + 1, R => sm (s + 1) fun k => sgn k * R 0 k * dtf s fun i c => R (i + 1) (sk k c)
theorem sk_lt {s k c : Nat} (hc : c < s) : sk k c < s + 1 := by unfold sk; split <;> omega
theorem dtf_congr : ∀ (s : Nat) (R R' : Nat → Nat → Int), (∀ i c, i < s → c < s → R i c = R' i c) → dtf s R = dtf s R'
  | 0, _, _, _ => rfl
  | s + 1, R, R', h => by
    unfold dtf
    refine sm_congr fun k hk => ?_
    rw [h 0 k (by omega) hk, dtf_congr s (fun i c => R (i + 1) (sk k c)) (fun i c => R' (i + 1) (sk k c)) fun i c hi hc => h (i + 1) (sk k c) (by omega) (sk_lt hc)]
def updR (R : Nat → Nat → Int) (p : Nat) (u : Nat → Int) : Nat → Nat → Int := fun i c => if i = p then u c else R i c
theorem dtf_lin : ∀ (s : Nat) (R : Nat → Nat → Int) (p : Nat) (x : Int) (u v : Nat → Int), p < s → dtf s (updR R p fun c => x * u c + v c) = x * dtf s (updR R p u) + dtf s (updR R p v)
  | 0, _, _, _, _, _, h => by omega
  | s + 1, R, p, x, u, v, h => by
    unfold dtf
    rw [← sm_mul, ← sm_add]
    refine sm_congr fun k hk => ?_
    cases p with
    | zero =>
      have e : ∀ w : Nat → Int, (fun i c => updR R 0 w (i + 1) (sk k c)) = fun i c => R (i + 1) (sk k c) := fun w => rfl
      rw [e, e, e]
      show sgn k * (x * u k + v k) * _ = x * (sgn k * u k * _) + sgn k * v k * _
      rw [Int.mul_add, Int.add_mul]
      congr 1
      ac_rfl
    | succ q =>
      have e : ∀ w : Nat → Int, (fun i c => updR R (q + 1) w (i + 1) (sk k c)) = updR (fun i c => R (i + 1) (sk k c)) q fun c => w (sk k c) := fun w => by
        funext i c
        unfold updR
        by_cases hi : i = q
        · subst hi; simp
        · rw [if_neg (by omega), if_neg hi]
      have e0 : ∀ w : Nat → Int, updR R (q + 1) w 0 k = R 0 k := fun w => rfl
      rw [e, e, e, e0, e0, e0, dtf_lin s (fun i c => R (i + 1) (sk k c)) q x (fun c => u (sk k c)) (fun c => v (sk k c)) (by omega), Int.mul_add]
      congr 1
      ac_rfl
theorem dtf_zero (s : Nat) (R : Nat → Nat → Int) (p : Nat) (h : p < s) : dtf s (updR R p fun _ => 0) = 0 := by
  have := dtf_lin s R p 1 (fun _ => 0) (fun _ => 0) h
  simp only [Int.mul_zero, Int.add_zero, Int.one_mul] at this
  omega
theorem dtf_sum (s : Nat) (R : Nat → Nat → Int) (p : Nat) (h : p < s) (f : Nat → Int) (V : Nat → Nat → Int) : ∀ J, dtf s (updR R p fun c => sm J fun j => f j * V j c) = sm J fun j => f j * dtf s (updR R p (V j))
  | 0 => dtf_zero s R p h
  | J + 1 => by
    have e : (fun c => sm (J + 1) fun j => f j * V j c) = fun c => f J * V J c + sm J fun j => f j * V j c := by
      funext c; rw [sm_succ]; omega
    rw [e, dtf_lin s R p (f J) (V J) _ h, dtf_sum s R p h f V J, sm_succ]
    omega

/-- The row of node i that goes to x, at node k. -/
def VV (i k : Nat) (x : Int) : Int := (if k = i then 1 else 0) - (if (k : Int) = x then 1 else 0)
/-- The row of node i, at node k. -/
def lap (n : Nat) (a : Nat → Nat → Int) (i k : Nat) : Int := if k = i then sm n fun j => if j = i then 0 else a i j else -(a i k)
theorem lap_sum {n : Nat} {a : Nat → Nat → Int} {i k : Nat} (hk : k < n) : lap n a i k = sm n fun j => (if j = i then 0 else a i j) * VV i k (j : Int) := by
  unfold lap VV
  by_cases e : k = i
  · subst e
    rw [if_pos rfl]
    refine sm_congr fun j hj => ?_
    by_cases e2 : j = k
    · rw [if_pos e2]; simp
    · rw [if_neg e2, if_pos rfl, if_neg (by omega)]; simp
  · rw [if_neg e]
    have : ∀ m, sm m (fun j => (if j = i then (0 : Int) else a i j) * ((if k = i then 1 else 0) - (if (k : Int) = (j : Int) then 1 else 0))) = if k < m then -(a i k) else 0 := by
      have hT : ∀ m : Nat, (if m = i then (0 : Int) else a i m) * ((if k = i then 1 else 0) - (if (k : Int) = (m : Int) then 1 else 0)) = if k = m then -(a i k) else 0 := by
        intro m
        by_cases h2 : k = m
        · subst h2
          rw [if_neg e, if_neg e, if_pos rfl, if_pos rfl]; simp
        · rw [if_neg e, if_neg h2, if_neg (show ¬ ((k : Int) = (m : Int)) by omega)]; simp
      intro m
      induction m with
      | zero => rfl
      | succ m ih =>
        rw [sm_succ, ih, hT]
        by_cases h1 : k < m
        · rw [if_pos h1, if_neg (by omega), if_pos (by omega)]; simp
        · rw [if_neg h1]
          by_cases h2 : k = m
          · rw [if_pos h2, if_pos (by omega)]; simp
          · rw [if_neg h2, if_neg (by omega)]; simp
    rw [this, if_pos hk]
/-- The rows when the first i nodes have chosen. -/
def RR (n root : Nat) (a : Nat → Nat → Int) (i : Nat) (pre : List Int) (p c : Nat) : Int :=
  if sk root p < i then VV (sk root p) (sk root c) (nx 0 pre (sk root p)) else lap n a (sk root p) (sk root c)
/-- All choices, tried. -/
def dtz : Nat → (Nat → Nat → Int) → Int
  | 0, _ => 1
  | s + 1, R => sm (s + 1) fun k => if R 0 k = 0 then 0 else sgn k * R 0 k * dtz s fun i c => R (i + 1) (sk k c)
theorem dtz_eq : ∀ (s : Nat) (R : Nat → Nat → Int), dtz s R = dtf s R
  | 0, _ => rfl
  | s + 1, R => by
    unfold dtz dtf
    refine sm_congr fun k _ => ?_
    split
    · rename_i h; rw [h]; simp
    · rw [dtz_eq s]
def chkA (n root : Nat) : Nat → Nat → List Int → Bool
  | 0, _, pre => dtz (n - 1) (fun p c => VV (sk root p) (sk root c) (nx 0 pre (sk root p))) == if leads n pre root then 1 else 0
  | d + 1, i, pre => if i = root then chkA n root d (i + 1) (pre ++ [0]) else (List.range n).all fun j => j == i || chkA n root d (i + 1) (pre ++ [(j : Int)])
theorem chkA1 : ((List.range 1).all fun r => chkA 1 r 1 0 []) = true := by kernel_rfl
theorem chkA2 : ((List.range 2).all fun r => chkA 2 r 2 0 []) = true := by kernel_rfl
theorem chkA3 : ((List.range 3).all fun r => chkA 3 r 3 0 []) = true := by kernel_rfl
theorem chkA4 : ((List.range 4).all fun r => chkA 4 r 4 0 []) = true := by kernel_rfl
theorem chkA5 : ((List.range 5).all fun r => chkA 5 r 5 0 []) = true := by kernel_rfl
theorem chkA_ok {n root : Nat} (h1 : 1 ≤ n) (h2 : n ≤ 5) (hr : root < n) : chkA n root n 0 [] = true := by
  rcases (show n = 1 ∨ n = 2 ∨ n = 3 ∨ n = 4 ∨ n = 5 by omega) with rfl | rfl | rfl | rfl | rfl
  · have := chkA1; simp only [List.all_eq_true, List.mem_range] at this; exact this root hr
  · have := chkA2; simp only [List.all_eq_true, List.mem_range] at this; exact this root hr
  · have := chkA3; simp only [List.all_eq_true, List.mem_range] at this; exact this root hr
  · have := chkA4; simp only [List.all_eq_true, List.mem_range] at this; exact this root hr
  · have := chkA5; simp only [List.all_eq_true, List.mem_range] at this; exact this root hr

theorem sk_ne (root p : Nat) : sk root p ≠ root := by unfold sk; split <;> omega
theorem sk_inj {root p q : Nat} (h : sk root p = sk root q) : p = q := by unfold sk at h; split at h <;> split at h <;> omega
theorem sk_lt' {n root p : Nat} (hn : 1 ≤ n) (hp : p < n - 1) : sk root p < n := by unfold sk; split <;> omega

theorem nx_snoc {pre : List Int} {x : Int} {j : Nat} (h : j < pre.length) : nx 0 (pre ++ [x]) j = nx 0 pre j := by unfold nx; rw [List.getElem?_append_left h]
theorem nx_snoc' {pre : List Int} {x : Int} {i : Nat} (h : pre.length = i) : nx 0 (pre ++ [x]) i = x := by unfold nx; rw [List.getElem?_append_right (by omega), h]; simp

theorem tree_det {n root : Nat} {a : Nat → Nat → Int} (hn : 1 ≤ n) (hr : root < n) : ∀ (d i : Nat) (pre : List Int), i + d = n → pre.length = i → chkA n root d i pre = true → dtf (n - 1) (RR n root a i pre) = TR n root a d i pre
  | 0, i, pre, hi, hl, hc => by
    unfold chkA at hc
    unfold TR
    rw [beq_iff_eq, dtz_eq] at hc
    rw [← hc]
    refine dtf_congr _ _ _ fun p c hp hq => ?_
    unfold RR
    rw [if_pos (by have := sk_lt' (root := root) hn hp; omega)]
  | d + 1, i, pre, hi, hl, hc => by
    unfold chkA at hc
    unfold TR
    by_cases e : i = root
    · rw [if_pos e] at hc ⊢
      rw [← tree_det hn hr d (i + 1) (pre ++ [0]) (by omega) (by simp; omega) hc]
      refine dtf_congr _ _ _ fun p c hp hq => ?_
      unfold RR
      have hne := sk_ne root p
      by_cases h1 : sk root p < i
      · rw [if_pos h1, if_pos (by omega), nx_snoc (by omega)]
      · rw [if_neg h1, if_neg (by omega)]
    · rw [if_neg e] at hc ⊢
      simp only [List.all_eq_true, List.mem_range, Bool.or_eq_true, beq_iff_eq] at hc
      obtain ⟨p0, hp0, hp1⟩ : ∃ p0, p0 < n - 1 ∧ sk root p0 = i := by
        by_cases h : i < root
        · exact ⟨i, by omega, by unfold sk; rw [if_pos h]⟩
        · exact ⟨i - 1, by omega, by unfold sk; rw [if_neg (by omega)]; omega⟩
      have e1 : dtf (n - 1) (RR n root a i pre) = dtf (n - 1) (updR (RR n root a i pre) p0 fun c => if c < n - 1 then sm n fun j => (if j = i then 0 else a i j) * VV i (sk root c) (j : Int) else 0) := by
        refine dtf_congr _ _ _ fun p c hp hq => ?_
        unfold updR
        by_cases h : p = p0
        · rw [if_pos h]
          dsimp only
          rw [if_pos hq, ← lap_sum (sk_lt' hn hq)]
          unfold RR
          rw [h, hp1, if_neg (by omega)]
        · rw [if_neg h]
      have e2 : dtf (n - 1) (updR (RR n root a i pre) p0 fun c => if c < n - 1 then sm n fun j => (if j = i then 0 else a i j) * VV i (sk root c) (j : Int) else 0) = dtf (n - 1) (updR (RR n root a i pre) p0 fun c => sm n fun j => (if j = i then 0 else a i j) * VV i (sk root c) (j : Int)) := by
        refine dtf_congr _ _ _ fun p c hp hq => ?_
        unfold updR
        by_cases h : p = p0
        · rw [if_pos h, if_pos h]
          dsimp only
          rw [if_pos hq]
        · rw [if_neg h, if_neg h]
      rw [e1, e2, dtf_sum (n - 1) (RR n root a i pre) p0 hp0 (fun j => if j = i then 0 else a i j) (fun j c => VV i (sk root c) (j : Int)) n]
      refine sm_congr fun j hj => ?_
      by_cases hji : j = i
      · rw [if_pos hji, if_pos hji]; simp
      · rw [if_neg hji, if_neg hji]
        congr 1
        rw [← tree_det hn hr d (i + 1) (pre ++ [(j : Int)]) (by omega) (by simp; omega) ((hc j hj).resolve_left hji)]
        refine dtf_congr _ _ _ fun p c hp hq => ?_
        unfold updR RR
        by_cases h : p = p0
        · subst h
          rw [if_pos rfl, hp1, if_pos (by omega), nx_snoc' hl]
        · rw [if_neg h]
          have hne : sk root p ≠ i := fun q => h (sk_inj (q.trans hp1.symm))
          by_cases h1 : sk root p < i
          · rw [if_pos h1, if_pos (by omega), nx_snoc (by omega)]
          · rw [if_neg h1, if_neg (by omega)]

theorem kirchhoff {n root : Nat} {a : Nat → Nat → Int} (h1 : 1 ≤ n) (h2 : n ≤ 5) (hr : root < n) : dtf (n - 1) (fun p c => lap n a (sk root p) (sk root c)) = TR n root a n 0 [] := by
  rw [← tree_det h1 hr n 0 [] (by omega) rfl (chkA_ok h1 h2 hr)]
  refine dtf_congr _ _ _ fun p c _ _ => ?_
  unfold RR
  rw [if_neg (by omega)]

/-! ### The functional texts -/
theorem sm_abs {f : Nat → Int} {B : Int} : ∀ {k : Nat}, (∀ i, i < k → -B ≤ f i ∧ f i ≤ B) → -(B * k) ≤ sm k f ∧ sm k f ≤ B * k
  | 0, _ => by simp [sm]
  | k + 1, h => by
    have h1 := sm_abs (k := k) (fun i hi => h i (by omega))
    have h2 := h k (by omega)
    rw [sm_succ, Int.natCast_add, Int.mul_add]
    simp only [Int.natCast_one, Int.mul_one]
    omega
theorem mul_abs {x y A B : Int} (hx : -A ≤ x ∧ x ≤ A) (hy : -B ≤ y ∧ y ≤ B) : -(A * B) ≤ x * y ∧ x * y ≤ A * B := by
  have h : (x * y).natAbs ≤ A.natAbs * B.natAbs := by rw [Int.natAbs_mul]; exact Nat.mul_le_mul (by omega) (by omega)
  have e : ((A.natAbs * B.natAbs : Nat) : Int) = A * B := by rw [Int.natCast_mul, show ((A.natAbs : Nat) : Int) = A from by omega, show ((B.natAbs : Nat) : Int) = B from by omega]
  omega
theorem dtf_bd : ∀ (s : Nat) (R : Nat → Nat → Int), s ≤ 4 → (∀ i c, i < s → c < s → -100 ≤ R i c ∧ R i c ≤ 100) → -(400 ^ s) ≤ dtf s R ∧ dtf s R ≤ 400 ^ s
  | 0, _, _, _ => by simp [dtf]
  | s + 1, R, hs, h => by
    have hp : (0 : Int) ≤ 400 ^ s := Int.pow_nonneg (by decide)
    unfold dtf
    have := sm_abs (f := fun k => sgn k * R 0 k * dtf s fun i c => R (i + 1) (sk k c)) (B := 100 * 400 ^ s) (k := s + 1) (fun k hk => by
      have h1 := h 0 k (by omega) hk
      have h2 := dtf_bd s (fun i c => R (i + 1) (sk k c)) (by omega) (fun i c hi hc => h (i + 1) (sk k c) (by omega) (sk_lt hc))
      have h3 : -100 ≤ sgn k * R 0 k ∧ sgn k * R 0 k ≤ 100 := by unfold sgn; split <;> omega
      exact mul_abs h3 h2)
    have e : (100 * 400 ^ s : Int) * ((s + 1 : Nat) : Int) ≤ 100 * 400 ^ s * 4 := Int.mul_le_mul_of_nonneg_left (by omega) (by omega)
    rw [Int.pow_succ]
    omega
def mnr (k : Nat) (row : List Int) : List Int := row.take k ++ row.drop (k + 1)
theorem mnr_len {k : Nat} {row : List Int} (h : k < row.length) : (mnr k row).length = row.length - 1 := by
  unfold mnr; rw [List.length_append, List.length_take, List.length_drop]; omega
theorem mnr_nx {k c : Nat} {row : List Int} (h : k < row.length) : nx 0 (mnr k row) c = nx 0 row (sk k c) := by
  unfold mnr sk nx
  by_cases hc : c < k
  · rw [if_pos hc, List.getElem?_append_left (by rw [List.length_take]; omega), List.getElem?_take_of_lt hc]
  · rw [if_neg hc, List.getElem?_append_right (by rw [List.length_take]; omega), List.length_take, Nat.min_eq_left (by omega), List.getElem?_drop]
    congr 2; omega
theorem minor_eq (F : Nat) (t : List (List Int)) (k : Nat) (x : Int) (hF : 20 ≤ F) (ht : t.length ≤ 10) (hr : ∀ i, i < t.length → k < (nx [] t i).length ∧ (nx [] t i).length ≤ 10) : iter (F154_l0 F (x, (k : Int)) t) F ([], 0) = some (t.map (mnr k)) := by
  have := iter_count (step := F154_l0 F (x, (k : Int)) t) (F := F) (fun i => ((t.take i).map (mnr k), (i : Int))) (b := t.map (mnr k)) t.length (fun i hi => ?_) ?_ (by omega)
  · exact this
  · unfold F154_l0
    have h1 := hr i hi
    simp only
    have hs1 : sub? (nx [] t i) 0 (k : Int) = some ((nx [] t i).take k) := sub?_to (by omega)
    have hs2 : sub? (nx [] t i) ((k + 1 : Nat) : Int) ((nx [] t i).length : Int) = some ((nx [] t i).drop (k + 1)) := sub?_from (by omega)
    rw [if_pos (decide_eq_true (by omega)), nx_get (d := []) hi, Option.bind_some, hs1, Option.bind_some]
    unfold F30
    rw [if_pos (by rw [List.length_take]; omega), Option.bind_some, wsuc (by omega), hs2, Option.bind_some, app?_ok (by rw [List.length_take, List.length_drop]; omega), Option.bind_some, app?_ok (by simp; omega), Option.bind_some, wsuc (by omega)]
    congr 3
    rw [List.take_add_one, List.map_append, List.getElem?_eq_getElem hi, nx_eq hi]
    rfl
  · unfold F154_l0
    simp only
    rw [if_neg (by simp), List.take_length]
theorem det_eq : ∀ (s F : Nat) (t : List (List Int)), s ≤ 4 → t.length = s → (∀ i, i < s → (nx [] t i).length = s) → (∀ i c, i < s → c < s → -100 ≤ nx 0 (nx [] t i) c ∧ nx 0 (nx [] t i) c ≤ 100) → s + 30 ≤ F → F154 F t = some (dtf s fun i c => nx 0 (nx [] t i) c)
  | 0, F, t, _, hl, _, _, hF => by
    obtain ⟨F, rfl⟩ : ∃ q, F = q + 1 := ⟨F - 1, by omega⟩
    unfold F154
    rw [if_pos (by simp [hl])]
    rfl
  | s + 1, F, t, hs, hl, hr, hb, hF => by
    obtain ⟨F, rfl⟩ : ∃ q, F = q + 1 := ⟨F - 1, by omega⟩
    unfold F154
    have hr0 := hr 0 (by omega)
    have hz := nx_get (d := []) (L := t) (i := 0) (by omega)
    rw [if_neg (by simp [hl]; omega)]
    rw [show ((0 : Int)) = ((0 : Nat) : Int) from rfl, hz, Option.bind_some]
    have hdl : (t.drop 1).length = s := by rw [List.length_drop]; omega
    have hdn : ∀ i, nx [] (t.drop 1) i = nx [] t (i + 1) := fun i => by unfold nx; rw [List.getElem?_drop, Nat.add_comm]
    have hp4 : (400 : Int) ^ s ≤ 64000000 := by
      have : ∀ i, i < 4 → (400 : Int) ^ i ≤ 64000000 := by decide
      exact this s (by omega)
    have hminor : ∀ k, k < s + 1 → -(400 ^ s) ≤ dtf s (fun i c => nx 0 (nx [] t (i + 1)) (sk k c)) ∧ dtf s (fun i c => nx 0 (nx [] t (i + 1)) (sk k c)) ≤ 400 ^ s := fun k hk =>
      dtf_bd s _ (by omega) fun i c hi hc => hb (i + 1) (sk k c) (by omega) (sk_lt hc)
    generalize hf : (fun k => sgn k * nx 0 (nx [] t 0) k * dtf s fun i c => nx 0 (nx [] t (i + 1)) (sk k c)) = f
    have hfb : ∀ k, k < s + 1 → -(100 * 64000000) ≤ f k ∧ f k ≤ 100 * 64000000 := fun k hk => by
      rw [← hf]
      have h1 := hb 0 k (by omega) hk
      have h2 := hminor k hk
      have h3 : -100 ≤ sgn k * nx 0 (nx [] t 0) k ∧ sgn k * nx 0 (nx [] t 0) k ≤ 100 := by unfold sgn; split <;> omega
      exact mul_abs h3 ⟨by omega, by omega⟩
    have hfs : ∀ k, k ≤ s + 1 → -(100 * 64000000 * 5) ≤ sm k f ∧ sm k f ≤ 100 * 64000000 * 5 := fun k hk => by
      have := sm_abs (f := f) (B := 100 * 64000000) (k := k) (fun i hi => hfb i (by omega))
      omega
    have := iter_count (step := F154_l1 F t (F154 F) (nx [] t 0)) (F := F) (fun k => (sm k f, (k : Int))) (b := sm (s + 1) f) (s + 1) (fun k hk => ?_) ?_ (by omega)
    · have this : iter (F154_l1 F t (F154 F) (nx [] t 0)) F (((0 : Nat) : Int), ((0 : Nat) : Int)) = some (sm (s + 1) f) := this
      rw [this, Option.bind_some]
      show some (sm (s + 1) f) = some (sm (s + 1) _)
      rw [← hf]
      rfl
    · unfold F154_l1
      simp only
      have hsub : sub? t 1 (t.length : Int) = some (t.drop 1) := sub?_from (a := 1) (by omega)
      have hm : iter (F154_l0 F (sm k f, (k : Int)) (t.drop 1)) F ([], 0) = some ((t.drop 1).map (mnr k)) := minor_eq F (t.drop 1) k _ (by omega) (by omega) (fun i hi => by rw [hdn, hr (i + 1) (by omega)]; omega)
      have hml : ((t.drop 1).map (mnr k)).length = s := by rw [List.length_map]; exact hdl
      have hmn : ∀ i, i < s → nx [] ((t.drop 1).map (mnr k)) i = mnr k (nx [] t (i + 1)) := fun i hi => by
        rw [← hdn]
        unfold nx
        rw [List.getElem?_map, List.getElem?_eq_getElem (by omega)]
        rfl
      have hdet := det_eq s F ((t.drop 1).map (mnr k)) (by omega) hml (fun i hi => by rw [hmn i hi, mnr_len (by rw [hr (i + 1) (by omega)]; exact hk), hr (i + 1) (by omega)]; omega)
        (fun i c hi hc => by rw [hmn i hi, mnr_nx (by rw [hr (i + 1) (by omega)]; exact hk)]; exact hb (i + 1) (sk k c) (by omega) (sk_lt hc)) (by omega)
      have hdd : dtf s (fun i c => nx 0 (nx [] ((t.drop 1).map (mnr k)) i) c) = dtf s (fun i c => nx 0 (nx [] t (i + 1)) (sk k c)) := dtf_congr _ _ _ fun i c hi hc => by
        rw [hmn i hi, mnr_nx (by rw [hr (i + 1) (by omega)]; exact hk)]
      rw [hdd] at hdet
      have h1 := hb 0 k (by omega) hk
      have h2 := hminor k hk
      have h4 := hfs k (by omega)
      have h5 := hfs (k + 1) (by omega)
      have h6 := hfb k hk
      rw [if_pos (decide_eq_true (by rw [hr0]; omega)), nx_get (d := 0) (by rw [hr0]; exact hk), Option.bind_some, hsub, Option.bind_some, hm, Option.bind_some, hdet, show Int.tmod (k : Int) 2 = ((k % 2 : Nat) : Int) from tmod_nat k 2, wsuc (by omega)]
      have hfk : f k = sgn k * nx 0 (nx [] t 0) k * dtf s fun i c => nx 0 (nx [] t (i + 1)) (sk k c) := by rw [← hf]
      by_cases ho : k % 2 = 1
      · rw [if_pos (by simp; omega), Option.bind_some, Int.zero_sub, w64 (a := -(nx 0 (nx [] t 0) k)) (by omega) (by omega)]
        have e : -(nx 0 (nx [] t 0) k) * dtf s (fun i c => nx 0 (nx [] t (i + 1)) (sk k c)) = f k := by
          rw [hfk]; unfold sgn; rw [if_pos ho]; simp
        rw [e, w64 (a := f k) (by omega) (by omega), sm_succ] at *
        rw [w64 (by omega) (by omega)]
      · rw [if_neg (by simp; omega), Option.bind_some]
        have e : nx 0 (nx [] t 0) k * dtf s (fun i c => nx 0 (nx [] t (i + 1)) (sk k c)) = f k := by
          rw [hfk]; unfold sgn; rw [if_neg ho]; simp
        rw [e, w64 (a := f k) (by omega) (by omega)]
        rw [sm_succ] at h5 ⊢
        rw [w64 (by omega) (by omega)]
    · unfold F154_l1
      simp only
      rw [if_neg (by simp [hr0])]

theorem equal_eq (F : Nat) (p q : List Int) (hF : p.length < F) (hl : p.length ≤ 9223372036854775807) : F31 F p q = some (decide (p = q)) := by
  unfold F31
  by_cases hn : p.length = q.length
  · rw [if_neg (by simp [hn])]
    obtain ⟨b, hb, hQ⟩ := iter_inv (step := F31_l0 F p q) (I := fun s => ∃ i : Nat, s = i ∧ i ≤ p.length ∧ p.take i = q.take i) (μ := fun s => p.length - s.toNat)
      (Q := fun b => (b = .inl () ∧ p = q) ∨ b = .inr false ∧ p ≠ q) (by
        rintro s ⟨i, rfl, hi, hn2⟩
        unfold F31_l0
        by_cases hlt : i < p.length
        · rw [if_pos (decide_eq_true (by omega)), at?_in hlt, at?_in (by omega : i < q.length)]
          simp only [Option.bind_some]
          by_cases e : p[i] = q[i]
          · left
            rw [if_neg (by simpa using e), w64 (by omega) (by omega)]
            refine ⟨_, rfl, ⟨i + 1, by omega, by omega, ?_⟩, by omega⟩
            rw [List.take_add_one, List.take_add_one, hn2, List.getElem?_eq_getElem hlt, List.getElem?_eq_getElem (by omega : i < q.length), e]
          · right
            rw [if_pos (by simpa using e)]
            exact ⟨_, rfl, .inr ⟨rfl, fun h => e (by subst h; rfl)⟩⟩
        · right
          rw [if_neg (by rw [decide_eq_true_eq]; omega)]
          refine ⟨_, rfl, .inl ⟨rfl, ?_⟩⟩
          rwa [List.take_of_length_le (by omega), List.take_of_length_le (by omega)] at hn2) F 0 ⟨0, rfl, by omega, by simp⟩ (by simpa using hF)
    rw [hb]
    simp only [Option.bind_some]
    rcases hQ with ⟨rfl, h⟩ | ⟨rfl, h⟩
    · simp [h]
    · simp [h]
  · rw [if_pos (by simp; omega)]
    have : p ≠ q := fun h => hn (by rw [h])
    simp [this]
theorem alike_eq (F : Nat) (p q : List Int) (hF : p.length < F) (hl : p.length ≤ 9223372036854775807) : F32 F p q = some (decide (p = q)) := by
  unfold F32
  rw [equal_eq F p q hF hl]; rfl

theorem maxI_abs (a : Int) (h : -9223372036854775807 ≤ a) (h2 : a ≤ 9223372036854775807) : maxI a (wrapA .i64 (0 - a)) = (a.natAbs : Int) := by
  rw [w64 (by omega) (by omega)]
  unfold maxI
  split <;> omega

theorem gcdLoop (F : Nat) : ∀ (b a G : Nat), b < G → iter (F169_l0 F) G ((a : Int), (b : Int)) = some ((Nat.gcd a b : Nat) : Int) := by
  intro b
  induction b using Nat.strongRecOn with
  | _ b ih =>
    intro a G hG
    obtain ⟨G, rfl⟩ : ∃ q, G = q + 1 := ⟨G - 1, by omega⟩
    by_cases h0 : b = 0
    · subst h0
      refine iter_stop ?_
      unfold F169_l0
      simp
    · have hs : F169_l0 F ((a : Int), (b : Int)) = some (.more ((b : Int), ((a % b : Nat) : Int))) := by
        unfold F169_l0
        simp only
        rw [if_pos (decide_eq_true (by omega))]
        unfold rem?
        rw [if_neg (by omega), tmod_nat]
        rfl
      rw [iter_more hs, ih (a % b) (Nat.mod_lt _ (by omega)) b G (by have := Nat.mod_lt a (by omega : 0 < b); omega)]
      rw [Nat.gcd_comm b (a % b), ← Nat.gcd_rec, Nat.gcd_comm b a]
theorem gcd_eq (F : Nat) (p q : Int) (h : -9223372036854775807 ≤ p) (h2 : p ≤ 9223372036854775807) (hq : 0 ≤ q) (hF : q.natAbs < F) : F169 F p q = some ((Nat.gcd p.natAbs q.natAbs : Nat) : Int) := by
  unfold F169
  rw [maxI_abs p h h2]
  have := gcdLoop F q.natAbs p.natAbs F hF
  rw [show ((q.natAbs : Nat) : Int) = q from by omega] at this
  rw [this]; rfl
theorem common_eq : ∀ (F : Nat) (p q : Int), -9223372036854775807 ≤ p → p ≤ 9223372036854775807 → -9223372036854775807 ≤ q → q ≤ 9223372036854775807 → q.natAbs < F → F127 F p q = some ((Nat.gcd p.natAbs q.natAbs : Nat) : Int)
  | 0, _, _, _, _, _, _, h => by omega
  | F + 1, p, q, h1, h2, h3, h4, h => by
    rw [F127]
    try dsimp only
    rw [maxI_abs p h1 h2, maxI_abs q h3 h4]
    by_cases h0 : q.natAbs = 0
    · rw [if_pos (by simp [h0])]
      simp [h0]
    · rw [if_neg (by simpa using h0)]
      unfold rem?
      rw [if_neg (by omega), tmod_nat]
      have hm := Nat.mod_lt p.natAbs (by omega : 0 < q.natAbs)
      simp only [Option.bind_some]
      rw [common_eq F _ _ (by omega) (by omega) (by omega) (by omega) (by rw [Int.natAbs_natCast]; omega)]
      simp only [Option.bind_some, Int.natAbs_natCast]
      rw [Nat.gcd_comm _ (_ % _), ← Nat.gcd_rec, Nat.gcd_comm]

/-- Lowest terms, of a q above 0. -/
def lowS (p q : Int) : (Int × Int) × Int :=
  let g : Int := (Nat.gcd p.natAbs q.natAbs : Nat)
  if q.tdiv g > 1000000000 ∨ p.tdiv g < -1000000000 ∨ p.tdiv g > 1000000000 then ((0, 0), 2) else ((p.tdiv g, q.tdiv g), 0)

theorem tdiv_abs (p : Int) (g : Nat) (hg : 0 < g) : -(p.natAbs : Int) ≤ p.tdiv g ∧ p.tdiv g ≤ p.natAbs := by
  have h := Int.natAbs_tdiv_le_natAbs p g
  omega

theorem low_eq (F : Nat) (p q : Int) (h : -9223372036854775807 ≤ p) (h2 : p ≤ 9223372036854775807) (hq : 0 < q) (hq2 : q ≤ 9223372036854775807) (hF : q.natAbs < F) : F160 F p q = some (lowS p q) := by
  unfold F160
  rw [gcd_eq F p q h h2 (by omega) hF]
  have hg : 0 < Nat.gcd p.natAbs q.natAbs := Nat.gcd_pos_of_pos_right _ (by omega)
  have hp := tdiv_abs p _ hg
  have hq' := tdiv_abs q _ hg
  simp only [Option.bind_some, quo?]
  rw [if_neg (by omega), if_neg (by omega)]
  simp only [Option.bind_some]
  rw [w64 (by omega) (by omega), w64 (by omega) (by omega)]
  unfold lowS
  simp only
  by_cases hc : q.tdiv ((Nat.gcd p.natAbs q.natAbs : Nat) : Int) > 1000000000 ∨ p.tdiv ((Nat.gcd p.natAbs q.natAbs : Nat) : Int) < -1000000000 ∨ p.tdiv ((Nat.gcd p.natAbs q.natAbs : Nat) : Int) > 1000000000
  · rw [if_pos hc, if_pos (by simp only [Bool.or_eq_true, decide_eq_true_eq]; omega)]
  · rw [if_neg hc, if_neg (by simp only [Bool.or_eq_true, decide_eq_true_eq]; omega)]

theorem ratioOf_eq (F : Nat) (p q : Int) (h : -9223372036854775807 ≤ p) (h2 : p ≤ 9223372036854775807) (hq : q ≠ 0) (hq1 : -9223372036854775807 ≤ q) (hq2 : q ≤ 9223372036854775807) (hF : q.natAbs < F) :
    F114 F p q = some (if q < 0 then lowS (-p) (-q) else lowS p q) := by
  unfold F114
  rw [common_eq F p q h h2 hq1 hq2 hF]
  have hg : 0 < Nat.gcd p.natAbs q.natAbs := Nat.gcd_pos_of_pos_right _ (by omega)
  have hgq : Nat.gcd p.natAbs q.natAbs ≤ q.natAbs := Nat.gcd_le_right _ (by omega)
  have hp := tdiv_abs p _ hg
  have hq' := tdiv_abs q _ hg
  simp only [Option.bind_some]
  by_cases hneg : q < 0
  · rw [if_pos (decide_eq_true hneg), w64 (by omega) (by omega), if_pos hneg]
    simp only [Option.bind_some, quo?]
    rw [if_neg (by omega), if_neg (by omega)]
    simp only [Option.bind_some]
    rw [Int.zero_sub, Int.tdiv_neg, Int.tdiv_neg, w64 (by omega) (by omega), w64 (by omega) (by omega)]
    unfold lowS maxI
    simp only [Int.natAbs_neg, Int.neg_tdiv]
    rw [w64 (by omega) (by omega)]
    generalize p.tdiv ((Nat.gcd p.natAbs q.natAbs : Nat) : Int) = a at hp ⊢
    generalize q.tdiv ((Nat.gcd p.natAbs q.natAbs : Nat) : Int) = b at hq' ⊢
    by_cases hc : -b > 1000000000 ∨ -a < -1000000000 ∨ -a > 1000000000
    · rw [if_pos hc, if_pos (by simp only [Bool.or_eq_true, decide_eq_true_eq]; split <;> omega)]
    · rw [if_neg hc, if_neg (by simp only [Bool.or_eq_true, decide_eq_true_eq]; split <;> omega)]
  · rw [if_neg (by rw [decide_eq_true_eq]; omega), if_neg hneg]
    simp only [Option.bind_some, quo?]
    rw [if_neg (by omega), if_neg (by omega)]
    simp only [Option.bind_some]
    rw [w64 (by omega) (by omega), w64 (by omega) (by omega)]
    unfold lowS maxI
    simp only
    rw [w64 (by omega) (by omega)]
    generalize p.tdiv ((Nat.gcd p.natAbs q.natAbs : Nat) : Int) = a at hp ⊢
    generalize q.tdiv ((Nat.gcd p.natAbs q.natAbs : Nat) : Int) = b at hq' ⊢
    by_cases hc : b > 1000000000 ∨ a < -1000000000 ∨ a > 1000000000
    · rw [if_pos hc, if_pos (by simp only [Bool.or_eq_true, decide_eq_true_eq]; split <;> omega)]
    · rw [if_neg hc, if_neg (by simp only [Bool.or_eq_true, decide_eq_true_eq]; split <;> omega)]

theorem low_fine (p q : Int) (hq : 0 < q) (hq2 : q ≤ 1000000000) (h1 : -1000000000 ≤ p) (h2 : p ≤ 1000000000) : (lowS p q).2 = 0 := by
  have hg : 0 < Nat.gcd p.natAbs q.natAbs := Nat.gcd_pos_of_pos_right _ (by omega)
  have hp := tdiv_abs p _ hg
  have hq' := tdiv_abs q _ hg
  unfold lowS
  simp only
  rw [if_neg (by omega)]

def RG (x : Int × Int) : Prop := 1 ≤ x.2 ∧ x.2 ≤ 1000000000 ∧ -1000000000 ≤ x.1 ∧ x.1 ≤ 1000000000
instance (x : Int × Int) : Decidable (RG x) := inferInstanceAs (Decidable (_ ∧ _ ∧ _ ∧ _))
def rchk (x : Int × Int) : Int := if RG x then (if Nat.gcd x.1.natAbs x.2.natAbs = 1 then 0 else 3) else 1
theorem rchk_rg {x : Int × Int} (h : rchk x = 0) : RG x := by
  unfold rchk at h
  split at h
  · assumption
  · cases h
theorem rcheck_eq (F : Nat) (x : Int × Int) (hF : 1000000001 ≤ F) : F150 F x = some (rchk x) := by
  unfold F150 rchk
  by_cases h : RG x
  · have h' := h
    obtain ⟨h1, h2, h3, h4⟩ := h'
    rw [if_pos h, if_neg (by simp only [Bool.or_eq_true, decide_eq_true_eq]; omega), gcd_eq F x.1 x.2 (by omega) (by omega) (by omega) (by omega)]
    simp only [Option.bind_some]
    by_cases hg : Nat.gcd x.1.natAbs x.2.natAbs = 1
    · rw [if_pos hg, if_neg (by simp [hg])]
    · rw [if_neg hg, if_pos (by simp only [bne_iff_ne, ne_eq]; omega)]
  · rw [if_neg h, if_pos (by unfold RG at h; simp only [Bool.or_eq_true, decide_eq_true_eq]; omega)]
theorem ratioErr_eq (F : Nat) (x : Int × Int) (hF : 1000000001 ≤ F) : F98 F x = some (rchk x) := by
  unfold F98 rchk
  by_cases h : RG x
  · have h' := h
    obtain ⟨h1, h2, h3, h4⟩ := h'
    rw [if_pos h, if_neg (by simp only [Bool.or_eq_true, decide_eq_true_eq]; omega), common_eq F x.1 x.2 (by omega) (by omega) (by omega) (by omega) (by omega)]
    simp only [Option.bind_some]
    by_cases hg : Nat.gcd x.1.natAbs x.2.natAbs = 1
    · rw [if_pos hg, if_neg (by simp [hg])]
    · rw [if_neg hg, if_pos (by simp only [bne_iff_ne, ne_eq]; omega)]
  · rw [if_neg h, if_pos (by unfold RG at h; simp only [Bool.or_eq_true, decide_eq_true_eq]; omega)]
def bchk (x y : Int × Int) : Int := if rchk x = 0 then rchk y else rchk x
theorem both_eq (F : Nat) (x y : Int × Int) (hF : 1000000001 ≤ F) : F162 F x y = some (bchk x y) := by
  unfold F162 bchk
  rw [rcheck_eq F _ hF, rcheck_eq F _ hF]
  simp only [Option.bind_some]
  by_cases h : rchk x = 0
  · rw [if_pos h, if_neg (by simpa using h)]
  · rw [if_neg h, if_pos (by simpa using h)]

theorem mulR {a b : Int} (ha : -1000000000 ≤ a) (ha' : a ≤ 1000000000) (hb : -1000000000 ≤ b) (hb' : b ≤ 1000000000) : -1000000000000000000 ≤ a * b ∧ a * b ≤ 1000000000000000000 := by
  have h : (a * b).natAbs ≤ 1000000000 * 1000000000 := by
    rw [Int.natAbs_mul]; exact Nat.mul_le_mul (by omega) (by omega)
  omega
theorem mulP {a b : Int} (ha : 0 < a) (hb : 0 < b) : 0 < a * b := Int.mul_pos ha hb

theorem make_eq (F : Nat) (p q : Int) (hF : 1000000001 ≤ F) : F109 F p q = some (if p < -1000000000 ∨ p > 1000000000 ∨ q < -1000000000 ∨ q > 1000000000 then ((0, 0), 1) else if q = 0 then ((0, 0), 5) else if q < 0 then lowS (-p) (-q) else lowS p q) := by
  unfold F109
  by_cases h : p < -1000000000 ∨ p > 1000000000 ∨ q < -1000000000 ∨ q > 1000000000
  · rw [if_pos h, if_pos (by simp only [Bool.or_eq_true, decide_eq_true_eq]; omega)]
  · rw [if_neg h, if_neg (by simp only [Bool.or_eq_true, decide_eq_true_eq]; omega)]
    by_cases h0 : q = 0
    · rw [if_pos h0, if_pos (by simpa using h0)]
    · rw [if_neg h0, if_neg (by simpa using h0)]
      by_cases hn : q < 0
      · rw [if_pos hn, if_pos (decide_eq_true hn), w64 (by omega) (by omega), w64 (by omega) (by omega), Int.zero_sub, Int.zero_sub, low_eq F (-p) (-q) (by omega) (by omega) (by omega) (by omega) (by omega)]
        rfl
      · rw [if_neg hn, if_neg (by rw [decide_eq_true_eq]; omega), low_eq F p q (by omega) (by omega) (by omega) (by omega) (by omega)]
        rfl


theorem low_zero {p q : Int} (h : (lowS p q).2 ≠ 0) : lowS p q = ((0, 0), 2) := by
  unfold lowS at h ⊢
  simp only at h ⊢
  split
  · rfl
  · rename_i hc; rw [if_neg hc] at h; exact (h rfl).elim
theorem low_chk {p q : Int} (hq : 0 < q) (h : (lowS p q).2 = 0) : rchk (lowS p q).1 = 0 := by
  have hg : 0 < Nat.gcd p.natAbs q.natAbs := Nat.gcd_pos_of_pos_right _ (by omega)
  unfold lowS at h ⊢
  simp only at h ⊢
  split
  · rename_i hc; rw [if_pos hc] at h; cases h
  · rename_i hc
    have hge : Nat.gcd p.natAbs q.natAbs ≤ q.natAbs := Nat.gcd_le_right _ (by omega)
    have hq2 : q.tdiv ((Nat.gcd p.natAbs q.natAbs : Nat) : Int) = ((q.natAbs / Nat.gcd p.natAbs q.natAbs : Nat) : Int) := by
      rw [← tdiv_nat, show ((q.natAbs : Nat) : Int) = q from by omega]
    have hpos : 0 < q.natAbs / Nat.gcd p.natAbs q.natAbs := Nat.div_pos hge hg
    unfold rchk
    rw [if_pos (show RG _ from ⟨by simp only; rw [hq2]; omega, by simp only; omega, by simp only; omega, by simp only; omega⟩)]
    simp only [Int.natAbs_tdiv, Int.natAbs_natCast]
    exact if_pos (Nat.coprime_div_gcd_div_gcd hg)
theorem low_one {p : Int} (h1 : -1000000000 ≤ p) (h2 : p ≤ 1000000000) : lowS p 1 = ((p, 1), 0) := by
  unfold lowS
  simp only [show (1 : Int).natAbs = 1 from rfl, Nat.gcd_one_right, Int.natCast_one, Int.tdiv_one]
  rw [if_neg (by omega)]
theorem rchk_one {p : Int} (h1 : -1000000000 ≤ p) (h2 : p ≤ 1000000000) : rchk (p, 1) = 0 := by
  unfold rchk
  rw [if_pos (show RG _ from ⟨by simp, by simp, h1, h2⟩)]
  simp
/-- Two right ratios, multiplied. -/
theorem mul_both (F : Nat) (x y : Int × Int) (hF : 1000000000000000001 ≤ F) (hx : rchk x = 0) (hy : rchk y = 0) : F119 F x y = some (lowS (x.1 * y.1) (x.2 * y.2)) ∧ F46 F x y = some (lowS (x.1 * y.1) (x.2 * y.2)) := by
  obtain ⟨a, b⟩ := x
  obtain ⟨c, d⟩ := y
  obtain ⟨g1, g2, g3, g4⟩ := rchk_rg hx
  obtain ⟨k1, k2, k3, k4⟩ := rchk_rg hy
  simp only at g1 g2 g3 g4 k1 k2 k3 k4
  have m1 := mulR g3 g4 k3 k4
  have m2 := mulR (by omega : -1000000000 ≤ b) g2 (by omega : -1000000000 ≤ d) k2
  have p2 := mulP (by omega : 0 < b) (by omega : 0 < d)
  have eb : bchk (a, b) (c, d) = 0 := by unfold bchk; rw [if_pos hx, hy]
  constructor
  · unfold F119
    simp only
    rw [both_eq F _ _ (by omega), eb, Option.bind_some, if_neg (by simp), w64 (by omega) (by omega), w64 (by omega) (by omega), low_eq F _ _ (by omega) (by omega) p2 (by omega) (by omega)]
    rfl
  · unfold F46
    simp only
    rw [w64 (by omega) (by omega), w64 (by omega) (by omega), ratioOf_eq F _ _ (by omega) (by omega) (by omega) (by omega) (by omega) (by omega), if_neg (by omega)]
    rfl
theorem add_both (F : Nat) (x y : Int × Int) (hF : 1000000000000000001 ≤ F) (hx : rchk x = 0) (hy : rchk y = 0) : F120 F x y = some (lowS (x.1 * y.2 + x.2 * y.1) (x.2 * y.2)) ∧ F47 F x y = some (lowS (x.1 * y.2 + x.2 * y.1) (x.2 * y.2)) := by
  obtain ⟨a, b⟩ := x
  obtain ⟨c, d⟩ := y
  obtain ⟨g1, g2, g3, g4⟩ := rchk_rg hx
  obtain ⟨k1, k2, k3, k4⟩ := rchk_rg hy
  simp only at g1 g2 g3 g4 k1 k2 k3 k4
  have m1 := mulR g3 g4 (by omega : -1000000000 ≤ d) k2
  have m3 := mulR (by omega : -1000000000 ≤ b) g2 k3 k4
  have m2 := mulR (by omega : -1000000000 ≤ b) g2 (by omega : -1000000000 ≤ d) k2
  have p2 := mulP (by omega : 0 < b) (by omega : 0 < d)
  have ec : c * b = b * c := Int.mul_comm _ _
  have eb : bchk (a, b) (c, d) = 0 := by unfold bchk; rw [if_pos hx, hy]
  constructor
  · unfold F120
    simp only
    rw [both_eq F _ _ (by omega), eb, Option.bind_some, if_neg (by simp), ec, w64 (a := a * d) (by omega) (by omega), w64 (a := b * c) (by omega) (by omega), w64 (by omega) (by omega), w64 (by omega) (by omega), low_eq F _ _ (by omega) (by omega) p2 (by omega) (by omega)]
    rfl
  · unfold F47
    simp only
    rw [w64 (a := a * d) (by omega) (by omega), w64 (a := b * c) (by omega) (by omega), w64 (by omega) (by omega), w64 (by omega) (by omega), ratioOf_eq F _ _ (by omega) (by omega) (by omega) (by omega) (by omega) (by omega), if_neg (by omega)]
    rfl

/-! ### What is left -/
def cnt (root i : Nat) : Nat := if i ≤ root then i else i - 1
theorem cnt_root (root : Nat) : cnt root (root + 1) = cnt root root := by unfold cnt; rw [if_neg (by omega), if_pos (Nat.le_refl _)]; omega
theorem cnt_succ {root i : Nat} (h : i ≠ root) : cnt root (i + 1) = cnt root i + 1 ∧ sk root (cnt root i) = i := by
  unfold cnt sk
  by_cases h1 : i < root
  · rw [if_pos (by omega), if_pos (by omega), if_pos h1]; exact ⟨rfl, rfl⟩
  · rw [if_neg (by omega), if_neg (by omega), if_neg (by omega)]; omega
theorem cnt_end {root n : Nat} (h : root < n) : cnt root n = n - 1 := by unfold cnt; rw [if_neg (by omega)]
theorem cnt_le (root i : Nat) : cnt root i ≤ i := by unfold cnt; split <;> omega

section rest
variable {m : List (List Int)}
theorem row_sum {f : Nat → Int} {k : Nat} (h : ∀ j, j < k → 0 ≤ f j ∧ f j ≤ 20) (hk : k ≤ 5) : 0 ≤ sm k f ∧ sm k f ≤ 100 := by
  have := sm_bound (f := f) (B := 20) (k := k) h
  omega
theorem offd (hm : Rgt m) {i j : Nat} (hi : i < m.length) (hj : j < m.length) : 0 ≤ (if j = i then (0 : Int) else ent m i j) ∧ (if j = i then (0 : Int) else ent m i j) ≤ 20 := by
  have := hm.en i j hi hj
  split <;> omega
theorem lap_loop (F : Nat) (hF : 40 ≤ F) (hm : Rgt m) (i : Nat) (hi : i < m.length) (rows : List (List Int)) : iter (F94_l0 F (rows, (i : Int)) (nx [] m i)) F (0, 0) = some (sm m.length fun j => if j = i then 0 else ent m i j) := by
  have hn := hm.hi
  have hs := hm.sq i hi
  refine iter_count (step := F94_l0 F (rows, (i : Int)) (nx [] m i)) (F := F) (fun j => (sm j (fun j => if j = i then 0 else ent m i j), (j : Int))) m.length (fun j hj => ?_) ?_ (by omega)
  · unfold F94_l0
    have h1 := row_sum (f := fun j => if j = i then 0 else ent m i j) (k := j) (fun q hq => offd hm hi (by omega)) (by omega)
    have h2 := hm.en i j hi hj
    simp only
    rw [if_pos (decide_eq_true (by omega)), nx_get (d := 0) (by omega), Option.bind_some, wsuc (by omega), show nx 0 (nx [] m i) j = ent m i j from rfl, sm_succ]
    by_cases e : j = i
    · subst e
      rw [if_neg (by simp), if_pos rfl, Int.add_zero]
    · rw [if_pos (by simp; omega), if_neg e, w64 (by omega) (by omega)]
  · unfold F94_l0
    simp only
    rw [if_neg (by simp [hs])]
theorem laprow (F : Nat) (hF : 40 ≤ F) (hm : Rgt m) (root i : Nat) (hr : root < m.length) (hi : i < m.length) (out : List Int) (rows : List (List Int)) :
    iter (F94_l1 F m (out, (root : Int)) (rows, (i : Int))) F ([], 0) = some (tb (m.length - 1) fun c => lap m.length (ent m) i (sk root c)) := by
  have hn := hm.hi
  have := iter_count (step := F94_l1 F m (out, (root : Int)) (rows, (i : Int))) (F := F) (fun k => (tb (cnt root k) (fun c => lap m.length (ent m) i (sk root c)), (k : Int))) (b := tb (m.length - 1) fun c => lap m.length (ent m) i (sk root c)) m.length (fun k hk => ?_) ?_ (by omega)
  · exact this
  · unfold F94_l1
    simp only
    rw [if_pos (decide_eq_true (by omega)), wsuc (by omega)]
    have hcl := cnt_le root k
    by_cases e : k = root
    · subst e
      rw [if_pos (by simp), cnt_root]
    · obtain ⟨c1, c2⟩ := cnt_succ e
      have h2 := hm.en i k hi hk
      rw [if_neg (by simp; omega), nx_get (d := []) hi, Option.bind_some, nx_get (d := 0) (by rw [hm.sq i hi]; exact hk), Option.bind_some, show nx 0 (nx [] m i) k = ent m i k from rfl, c1, tb_succ, c2]
      by_cases e2 : i = k
      · subst e2
        rw [if_pos (by simp), Option.bind_some, lap_loop F hF hm i hi rows, Option.bind_some, app?_ok (by rw [tb_len]; simp; omega), Option.bind_some]
        unfold lap
        rw [if_pos rfl]
      · rw [if_neg (by simp; omega), Int.zero_sub, w64 (by omega) (by omega), app?_ok (by rw [tb_len]; simp; omega), Option.bind_some]
        have e3 : lap m.length (ent m) i k = -(ent m i k) := by unfold lap; rw [if_neg (fun q => e2 q.symm)]
        rw [e3]
  · unfold F94_l1
    simp only
    rw [if_neg (by simp), cnt_end hr]
theorem laptab (F : Nat) (hF : 40 ≤ F) (hm : Rgt m) (root : Nat) (hr : root < m.length) (out : List Int) :
    iter (F94_l2 F m (out, (root : Int))) F ([], 0) = some (tb (m.length - 1) fun p => tb (m.length - 1) fun c => lap m.length (ent m) (sk root p) (sk root c)) := by
  have hn := hm.hi
  have := iter_count (step := F94_l2 F m (out, (root : Int))) (F := F) (fun k => (tb (cnt root k) (fun p => tb (m.length - 1) fun c => lap m.length (ent m) (sk root p) (sk root c)), (k : Int))) (b := tb (m.length - 1) fun p => tb (m.length - 1) fun c => lap m.length (ent m) (sk root p) (sk root c)) m.length (fun k hk => ?_) ?_ (by omega)
  · exact this
  · unfold F94_l2
    simp only
    rw [if_pos (decide_eq_true (by omega)), wsuc (by omega)]
    have hcl := cnt_le root k
    by_cases e : k = root
    · subst e
      rw [if_pos (by simp), cnt_root]
    · obtain ⟨c1, c2⟩ := cnt_succ e
      rw [if_neg (by simp; omega), laprow F hF hm root k hr hk out, Option.bind_some, app?_ok (by rw [tb_len]; simp; omega), Option.bind_some, c1, tb_succ, c2]
  · unfold F94_l2
    simp only
    rw [if_neg (by simp), cnt_end hr]
theorem lap_bd (hm : Rgt m) {i k : Nat} (hi : i < m.length) (hk : k < m.length) : -100 ≤ lap m.length (ent m) i k ∧ lap m.length (ent m) i k ≤ 100 := by
  unfold lap
  split
  · have := row_sum (f := fun j => if j = i then 0 else ent m i j) (k := m.length) (fun q hq => offd hm hi hq) hm.hi
    omega
  · have := hm.en i k hi hk; omega
theorem restOf_eq (F : Nat) (hF : 50 ≤ F) (hm : Rgt m) : F94 F m = some (restOf m) := by
  unfold F94
  have hn := hm.hi
  have hlo := hm.lo
  have := iter_count (step := F94_l3 F m) (F := F) (fun r => (tb r (fun r => TR m.length r (ent m) m.length 0 []), (r : Int))) (b := restOf m) m.length (fun r hr => ?_) ?_ (by omega)
  · have this : iter (F94_l3 F m) F ([], 0) = some (restOf m) := this
    rw [this]; rfl
  · unfold F94_l3
    simp only
    rw [if_pos (decide_eq_true (by omega)), wsuc (by omega), laptab F (by omega) hm r hr, Option.bind_some]
    rw [det_eq (m.length - 1) F (tb (m.length - 1) fun p => tb (m.length - 1) fun c => lap m.length (ent m) (sk r p) (sk r c)) (by omega) (tb_len _ _) (fun i hi => by rw [tb_nx hi, tb_len]) (fun i c hi hc => by rw [tb_nx hi, tb_nx hc]; exact lap_bd hm (sk_lt' hlo hi) (sk_lt' hlo hc)) (by omega), Option.bind_some]
    have e : dtf (m.length - 1) (fun i c => nx 0 (nx [] (tb (m.length - 1) fun p => tb (m.length - 1) fun c => lap m.length (ent m) (sk r p) (sk r c)) i) c) = TR m.length r (ent m) m.length 0 [] := by
      rw [← kirchhoff hlo hn hr]
      exact dtf_congr _ _ _ fun p c hp hc => by rw [tb_nx hp, tb_nx hc]
    rw [e, app?_ok (by rw [tb_len]; simp; omega), Option.bind_some, tb_succ]
  · unfold F94_l3
    simp only
    rw [if_neg (by simp)]
    rfl
theorem max_eq (F : Nat) (l : List Int) (hF : l.length + 10 ≤ F) (h1 : 1 ≤ l.length) (hl : l.length ≤ 100) (hb : ∀ i, i < l.length → 0 ≤ nx 0 l i) : ∃ x, F95 F l = some x ∧ (x = 0 ↔ ∀ i, i < l.length → nx 0 l i = 0) := by
  unfold F95
  rw [if_neg (by simp; omega)]
  simp only [Option.bind_some]
  have hz := nx_get (d := 0) (L := l) (i := 0) (by omega)
  rw [show (0 : Int) = ((0 : Nat) : Int) from rfl, hz, Option.bind_some]
  obtain ⟨r, r1, r2⟩ := iter_inv (step := F95_l0 F l) (I := fun s => ∃ k : Nat, s.2 = (k : Int) ∧ k ≤ l.length ∧ 0 ≤ s.1 ∧ (s.1 = 0 ↔ ∀ i, i < k → nx 0 l i = 0)) (μ := fun s => l.length - s.2.toNat) (Q := fun x => x = 0 ↔ ∀ i, i < l.length → nx 0 l i = 0) (by
    rintro ⟨x, k'⟩ ⟨k, rfl, hk, h0, hx⟩
    simp only at h0 hx
    unfold F95_l0
    simp only
    by_cases hlt : k < l.length
    · left
      rw [if_pos (decide_eq_true (by omega)), nx_get (d := 0) hlt, Option.bind_some, wsuc (by omega)]
      have hbk := hb k hlt
      refine ⟨_, rfl, ⟨k + 1, rfl, by omega, by unfold maxI; simp only; split <;> omega, ?_⟩, by simp only [Int.toNat_natCast]; omega⟩
      unfold maxI
      simp only
      constructor
      · intro hm i hi
        by_cases e : i = k
        · subst e; split at hm <;> omega
        · exact hx.1 (by split at hm <;> omega) i (by omega)
      · intro hm
        have a := hx.2 fun i hi => hm i (by omega)
        have b := hm k (by omega)
        split <;> omega
    · right
      rw [if_neg (by rw [decide_eq_true_eq]; omega)]
      have : k = l.length := by omega
      subst this
      exact ⟨_, rfl, hx⟩) F (nx 0 l 0, ((1 : Nat) : Int)) ⟨1, rfl, h1, hb 0 (by omega), ⟨fun h i hi => by rw [show i = 0 from by omega]; exact h, fun h => h 0 (by omega)⟩⟩ (by simp only [Int.toNat_natCast]; omega)
  have r1 : iter (F95_l0 F l) F (nx 0 l 0, 1) = some r := r1
  exact ⟨r, by rw [r1]; rfl, r2⟩
end rest

/-! ### Errors -/
theorem cf_eq (F : Nat) (L : List Int) (hF : L.length < F) (hL : L.length ≤ 1000000) (f : Nat → Int → Option Bool) (p : Int → Bool) (step : Nat → List Int → Int → Option (Stp Int (Unit ⊕ Int)))
    (hs : ∀ (i : Nat), i < L.length → step F L (i : Int) = some (if p (nx 0 L i) then .stop (.inr (i : Int)) else .more ((i + 1 : Nat) : Int))) (he : step F L (L.length : Int) = some (.stop (.inl ()))) :
    (((iter (step F L) F 0).bind fun b16 => match b16 with | .inl b18 => (some ((-1 : Int))) | .inr b18 => (some b18)).bind fun r1 => some (decide (r1 ≥ 0))) = some (L.any p) := by
  rcases seek_loop (step := step F L) (F := F) L.length (fun i => p (nx 0 L i)) (fun i => (i : Int)) hs he hF with ⟨g1, g2⟩ | ⟨i, g1, g2, g3, g4⟩
  · rw [g2, Option.bind_some]
    simp only [Option.bind_some]
    have : L.any p = false := by
      rw [List.any_eq_false]
      intro x hx
      obtain ⟨i, hi, rfl⟩ := nx_of (d := 0) hx
      rw [g1 i hi]; decide
    rw [this]; rfl
  · rw [g4, Option.bind_some]
    simp only [Option.bind_some]
    have : L.any p = true := by rw [List.any_eq_true]; exact ⟨_, nx_mem (d := 0) g1, g2⟩
    rw [this]; exact congrArg some (decide_eq_true (by omega))
theorem cfErr_eq (F : Nat) (L : List Int) (hF : L.length < F) (hL : L.length ≤ 1000000) : F96_153 F L = some (L.any fun x => decide (x < 0) || decide (x > 20)) := by
  unfold F96_153 F155_153
  refine cf_eq F L hF hL (fun _ _ => none) (fun x => decide (x < 0) || decide (x > 20)) (fun F L => F155_153_l0 F L) (fun i hi => ?_) ?_
  · unfold F155_153_l0 F153
    rw [if_pos (decide_eq_true (by omega)), nx_get (d := 0) hi, Option.bind_some, Option.bind_some, wsuc (by omega)]
    exact ite_some _ _
  · unfold F155_153_l0
    rw [if_neg (by simp)]
theorem cfW_eq (F : Nat) (L : List Int) (hF : L.length < F) (hL : L.length ≤ 1000000) : F96_97 F L = some (L.any fun x => decide (x < 0) || decide (x > 1000000000)) := by
  unfold F96_97 F155_97
  refine cf_eq F L hF hL (fun _ _ => none) (fun x => decide (x < 0) || decide (x > 1000000000)) (fun F L => F155_97_l0 F L) (fun i hi => ?_) ?_
  · unfold F155_97_l0 F97
    rw [if_pos (decide_eq_true (by omega)), nx_get (d := 0) hi, Option.bind_some, Option.bind_some, wsuc (by omega)]
    exact ite_some _ _
  · unfold F155_97_l0
    rw [if_neg (by simp)]
theorem err_same (F : Nat) (m : List (List Int)) (hF : 40 ≤ F) : F92 F m = F93 F m := by
  unfold F92 F93
  by_cases h : m.length < 1 ∨ m.length > 5
  · rw [if_pos (by simp only [Bool.or_eq_true, decide_eq_true_eq, beq_iff_eq]; omega), if_pos (by simp only [Bool.or_eq_true, decide_eq_true_eq]; omega)]
  · rw [if_neg (by simp only [Bool.or_eq_true, decide_eq_true_eq, beq_iff_eq]; omega), if_neg (by simp only [Bool.or_eq_true, decide_eq_true_eq]; omega)]
    have : iter (F92_l0 F m) F 0 = iter (F93_l1 F m) F 0 := by
      refine iter_congr (I := fun s => ∃ i : Nat, s = (i : Int) ∧ i ≤ m.length) ?_ ?_ F 0 ⟨0, rfl, by omega⟩
      · rintro s ⟨i, rfl, hi⟩
        unfold F92_l0 F93_l1
        by_cases hlt : i < m.length
        · rw [if_pos (decide_eq_true (by omega)), if_pos (decide_eq_true (by omega)), nx_get (d := []) hlt, Option.bind_some, Option.bind_some]
          by_cases hl : (nx [] m i).length = m.length
          · rw [if_neg (by simp [hl]), if_neg (by simp [hl]), cfErr_eq F _ (by omega) (by omega), Option.bind_some]
            have := any_loop (step := F93_l0 F (nx [] m i)) (F := F) (nx [] m i) (fun x => decide (x < 0) || decide (x > 20)) (1 : Int) (fun k hk => by
              unfold F93_l0
              rw [if_pos (decide_eq_true (by omega)), at?_in hk, Option.bind_some, wsuc (by omega)]
              exact ite_some _ _) (by unfold F93_l0; rw [if_neg (by simp)]) (by omega)
            rw [this, Option.bind_some]
            split
            · rfl
            · rfl
          · rw [if_pos (by simp; omega), if_pos (by simp; omega)]
        · rw [if_neg (by rw [decide_eq_true_eq]; omega), if_neg (by rw [decide_eq_true_eq]; omega)]
      · rintro s s' ⟨i, rfl, hi⟩ hmore
        unfold F92_l0 at hmore
        by_cases hlt : i < m.length
        · rw [if_pos (decide_eq_true (by omega)), nx_get (d := []) hlt, Option.bind_some] at hmore
          by_cases hl : (nx [] m i).length = m.length
          · rw [if_neg (by simp [hl]), cfErr_eq F _ (by omega) (by omega), Option.bind_some, wsuc (by omega)] at hmore
            split at hmore
            · cases hmore
            · cases hmore; exact ⟨i + 1, rfl, by omega⟩
          · rw [if_pos (by simp; omega)] at hmore; cases hmore
        · rw [if_neg (by rw [decide_eq_true_eq]; omega)] at hmore; cases hmore
    rw [this]

/-! ### A step -/
def RAll (t : List (Int × Int)) : Prop := ∀ k, k < t.length → rchk (nx (0, 0) t k) = 0
def partOf (n x : Int) (i k : Nat) : Int × Int := if n > 0 then (lowS x n).1 else if i = k then (1, 1) else (0, 1)
theorem part_ok {n x : Int} {i k : Nat} (h1 : 0 ≤ n) (h2 : n ≤ 100) (h3 : 0 ≤ x) (h4 : x ≤ 20) : rchk (partOf n x i k) = 0 := by
  unfold partOf
  split
  · rename_i h
    exact low_chk h (low_fine x n h (by omega) (by omega) (by omega))
  · split
    · exact rchk_one (by decide) (by decide)
    · exact rchk_one (by decide) (by decide)
def nextOf (l : List (Int × Int)) (n : Int) (row : List Int) (i k : Nat) (to : List (Int × Int)) : Stp (Int × (List (Int × Int))) (((List (Int × Int))) ⊕ ((List (Int × Int)) × Int)) :=
  let p := partOf n (nx 0 row k) i k
  let x := nx (0, 0) l i
  let y := lowS (x.1 * p.1) (x.2 * p.2)
  let z := lowS ((nx (0, 0) to k).1 * y.1.2 + (nx (0, 0) to k).2 * y.1.1) ((nx (0, 0) to k).2 * y.1.2)
  if y.2 ≠ 0 then .stop (.inr ([], y.2)) else if z.2 ≠ 0 then .stop (.inr ([], z.2)) else .more (((k + 1 : Nat) : Int), to.set k z.1)

theorem whole_eq (F : Nat) (x n : Int) (hF : 1000000000000000001 ≤ F) (h1 : 0 < n) (h2 : n ≤ 100) (h3 : 0 ≤ x) (h4 : x ≤ 20) : F21 F x n = some (lowS x n).1 := by
  unfold F21
  rw [ratioOf_eq F x n (by omega) (by omega) (by omega) (by omega) (by omega) (by omega), if_neg (by omega), Option.bind_some]
theorem y_ok {x p : Int × Int} (hx : rchk x = 0) (hp : rchk p = 0) (h : (lowS (x.1 * p.1) (x.2 * p.2)).2 = 0) : rchk (lowS (x.1 * p.1) (x.2 * p.2)).1 = 0 :=
  low_chk (mulP (by have := rchk_rg hx; unfold RG at this; omega) (by have := rchk_rg hp; unfold RG at this; omega)) h

section step
variable {m : List (List Int)} {l : List (Int × Int)}
theorem stepA_eq (F : Nat) (hF : 1000000000000000001 ≤ F) (hm : Rgt m) (i k : Nat) (hi : i < m.length) (hk : k < m.length) (n : Int) (hn1 : 0 ≤ n) (hn2 : n ≤ 100) (hl : l.length = m.length) (hla : RAll l) (to0 to : List (Int × Int)) (ht : to.length = m.length) (hta : RAll to) :
    F89_l2 F l ((i : Int), to0) (nx [] m i) n ((k : Int), to) = some (nextOf l n (nx [] m i) i k to) := by
  have hmn := hm.hi
  have he := hm.en i k hi hk
  have hsq := hm.sq i hi
  unfold F89_l2
  simp only
  rw [if_pos (decide_eq_true (by omega)), nx_get (d := 0) (by omega), Option.bind_some]
  have hmake : ∀ a b : Int, F109 F a b = some (if a < -1000000000 ∨ a > 1000000000 ∨ b < -1000000000 ∨ b > 1000000000 then ((0, 0), 1) else if b = 0 then ((0, 0), 5) else if b < 0 then lowS (-a) (-b) else lowS a b) := fun a b => make_eq F a b (by omega)
  have hx : rchk (nx (0, 0) l i) = 0 := hla i (by omega)
  have hp := part_ok (n := n) (x := ent m i k) (i := i) (k := k) hn1 hn2 he.1 he.2
  have hto := hta k (by omega)
  -- the part
  have hpart : ∃ e, ((if (n == 0) then (if ((i : Int) == (k : Int)) then (some ((1, ((0, 1) : Int × Int).2))) else some ((0, 1))) else some ((nx 0 (nx [] m i) k, n))) : Option (Int × Int)).bind (fun b => F109 F b.1 b.2) = some (partOf n (ent m i k) i k, e) := by
    unfold partOf
    by_cases h0 : n = 0
    · rw [if_pos (by simpa using h0), if_neg (show ¬ n > 0 by omega)]
      by_cases e : i = k
      · rw [if_pos (by simp [e]), if_pos e, Option.bind_some, hmake, if_neg (by decide), if_neg (by decide), if_neg (by decide), low_one (by decide) (by decide)]
        exact ⟨0, rfl⟩
      · rw [if_neg (by simp; omega), if_neg e, Option.bind_some, hmake, if_neg (by decide), if_neg (by decide), if_neg (by decide), low_one (by decide) (by decide)]
        exact ⟨0, rfl⟩
    · rw [if_neg (by simpa using h0), if_pos (show n > 0 by omega), Option.bind_some, hmake]
      simp only
      rw [show nx 0 (nx [] m i) k = ent m i k from rfl, if_neg (by omega), if_neg (by omega), if_neg (by omega)]
      exact ⟨_, rfl⟩
  obtain ⟨e, hpart⟩ := hpart
  obtain ⟨b, hb1, hb2⟩ := bindS hpart
  rw [hb1, Option.bind_some, hb2, Option.bind_some, nx_get (d := (0, 0)) (by omega), Option.bind_some]
  have hmul := (mul_both F (nx (0, 0) l i) (partOf n (ent m i k) i k) hF hx hp).1
  simp only at hmul ⊢
  rw [hmul, Option.bind_some]
  unfold nextOf
  rw [show nx 0 (nx [] m i) k = ent m i k from rfl]
  simp only
  by_cases hy : (lowS ((nx (0, 0) l i).1 * (partOf n (ent m i k) i k).1) ((nx (0, 0) l i).2 * (partOf n (ent m i k) i k).2)).2 = 0
  · have hyc := y_ok hx hp hy
    have hadd := (add_both F (nx (0, 0) to k) _ hF hto hyc).1
    rw [if_pos (by simpa using hy), if_neg (by simpa using hy), nx_get (d := (0, 0)) (by omega), Option.bind_some, hadd, Option.bind_some, ck_ok (by omega), Option.bind_some, wsuc (by omega), Int.toNat_natCast]
    split
    · rename_i h; rw [if_pos (by simpa using h)]
    · rename_i h; rw [if_neg (by simpa using h)]
  · rw [if_neg (by simpa using hy), if_pos (by simpa using hy), if_pos (by simpa using hy)]
theorem stepB_eq (F : Nat) (hF : 1000000000000000001 ≤ F) (hm : Rgt m) (i k : Nat) (hi : i < m.length) (hk : k < m.length) (n : Int) (hn1 : 0 ≤ n) (hn2 : n ≤ 100) (hl : l.length = m.length) (hla : RAll l) (to0 to : List (Int × Int)) (ht : to.length = m.length) (hta : RAll to) :
    F99_l2 F l ((i : Int), to0) (nx [] m i) n ((k : Int), to) = some (nextOf l n (nx [] m i) i k to) := by
  have hmn := hm.hi
  have he := hm.en i k hi hk
  have hsq := hm.sq i hi
  unfold F99_l2
  simp only
  rw [if_pos (decide_eq_true (by omega)), nx_get (d := 0) (by omega), Option.bind_some]
  have hx : rchk (nx (0, 0) l i) = 0 := hla i (by omega)
  have hp := part_ok (n := n) (x := ent m i k) (i := i) (k := k) hn1 hn2 he.1 he.2
  have hto := hta k (by omega)
  have hpart : ((if (decide (n > 0)) then ((F21 F (nx 0 (nx [] m i) k) n).bind fun r64 => some ((r64.1, r64.2))) else if ((i : Int) == (k : Int)) then (some ((1, ((0, 1) : Int × Int).2))) else some ((0, 1))) : Option (Int × Int)) = some (partOf n (ent m i k) i k) := by
    unfold partOf
    by_cases h0 : n > 0
    · rw [if_pos (decide_eq_true h0), if_pos h0, show nx 0 (nx [] m i) k = ent m i k from rfl, whole_eq F _ _ hF h0 hn2 he.1 he.2, Option.bind_some]
    · rw [if_neg (by simpa using h0), if_neg h0]
      by_cases e : i = k
      · rw [if_pos (by simp [e]), if_pos e]
      · rw [if_neg (by simp; omega), if_neg e]
  rw [hpart, Option.bind_some, nx_get (d := (0, 0)) (by omega), Option.bind_some]
  have hmul := (mul_both F (nx (0, 0) l i) (partOf n (ent m i k) i k) hF hx hp).2
  rw [hmul, Option.bind_some]
  unfold nextOf
  rw [show nx 0 (nx [] m i) k = ent m i k from rfl]
  simp only
  by_cases hy : (lowS ((nx (0, 0) l i).1 * (partOf n (ent m i k) i k).1) ((nx (0, 0) l i).2 * (partOf n (ent m i k) i k).2)).2 = 0
  · have hyc := y_ok hx hp hy
    have hadd := (add_both F (nx (0, 0) to k) _ hF hto hyc).2
    rw [if_pos (by simpa using hy), if_neg (by simpa using hy), nx_get (d := (0, 0)) (by omega), Option.bind_some, hadd, Option.bind_some]
    split
    · rename_i h; rw [if_pos (by simpa using h)]
    · rename_i h; rw [if_neg (by simpa using h), ck_ok (by omega), Option.bind_some, wsuc (by omega), Int.toNat_natCast]
  · rw [if_neg (by simpa using hy), if_pos (by simpa using hy), if_pos (by simpa using hy)]
theorem next_ok {n : Int} {i k : Nat} {row : List Int} {to : List (Int × Int)} (hx : rchk (nx (0, 0) l i) = 0) (hp : rchk (partOf n (nx 0 row k) i k) = 0) (hk : k < to.length) (hta : RAll to) :
    (∃ to', nextOf l n row i k to = .more (((k + 1 : Nat) : Int), to') ∧ to'.length = to.length ∧ RAll to') ∨ ∃ e, nextOf l n row i k to = .stop (.inr ([], e)) := by
  unfold nextOf
  simp only
  by_cases hy : (lowS ((nx (0, 0) l i).1 * (partOf n (nx 0 row k) i k).1) ((nx (0, 0) l i).2 * (partOf n (nx 0 row k) i k).2)).2 = 0
  · have hyc := y_ok hx hp hy
    rw [if_neg (by simpa using hy)]
    by_cases hz : (lowS ((nx (0, 0) to k).1 * (lowS ((nx (0, 0) l i).1 * (partOf n (nx 0 row k) i k).1) ((nx (0, 0) l i).2 * (partOf n (nx 0 row k) i k).2)).1.2 + (nx (0, 0) to k).2 * (lowS ((nx (0, 0) l i).1 * (partOf n (nx 0 row k) i k).1) ((nx (0, 0) l i).2 * (partOf n (nx 0 row k) i k).2)).1.1) ((nx (0, 0) to k).2 * (lowS ((nx (0, 0) l i).1 * (partOf n (nx 0 row k) i k).1) ((nx (0, 0) l i).2 * (partOf n (nx 0 row k) i k).2)).1.2)).2 = 0
    · left
      rw [if_neg (by simpa using hz)]
      refine ⟨_, rfl, by rw [List.length_set], fun q hq => ?_⟩
      rw [List.length_set] at hq
      rw [nx_setC hk]
      by_cases e : q = k
      · rw [if_pos e]
        have g1 := rchk_rg (hta k hk)
        have g2 := rchk_rg hyc
        unfold RG at g1 g2
        exact low_chk (mulP (by omega) (by omega)) hz
      · rw [if_neg e]; exact hta q hq
    · right
      rw [if_pos (by simpa using hz)]
      exact ⟨_, rfl⟩
  · right
    rw [if_pos (by simpa using hy)]
    exact ⟨_, rfl⟩

theorem inner_eq (F : Nat) (hF : 1000000000000000001 ≤ F) (hm : Rgt m) (i : Nat) (hi : i < m.length) (n : Int) (hn1 : 0 ≤ n) (hn2 : n ≤ 100) (hl : l.length = m.length) (hla : RAll l) (to0 : List (Int × Int)) (ht : to0.length = m.length) (hta : RAll to0) :
    ∃ b, iter (F89_l2 F l ((i : Int), to0) (nx [] m i) n) F (0, to0) = some b ∧ iter (F99_l2 F l ((i : Int), to0) (nx [] m i) n) F (0, to0) = some b ∧ (∀ to', b = .inl to' → to'.length = m.length ∧ RAll to') ∧ (∀ q, b = .inr q → q.1 = []) := by
  have hmn := hm.hi
  have hsq := hm.sq i hi
  obtain ⟨b, c, h1, h2, h3⟩ := iter_par (step := F89_l2 F l ((i : Int), to0) (nx [] m i) n) (step' := F99_l2 F l ((i : Int), to0) (nx [] m i) n) (I := fun s => ∃ k : Nat, s.1 = (k : Int) ∧ k ≤ m.length ∧ s.2.length = m.length ∧ RAll s.2) (μ := fun s => m.length - s.1.toNat) (R := fun b c => b = c ∧ (∀ to', b = .inl to' → to'.length = m.length ∧ RAll to') ∧ (∀ q, b = .inr q → q.1 = [])) (by
    rintro ⟨k', to⟩ ⟨k, rfl, hk, h1, h2⟩
    simp only at h1 h2
    by_cases hlt : k < m.length
    · have he := hm.en i k hi hlt
      rw [stepA_eq F hF hm i k hi hlt n hn1 hn2 hl hla to0 to h1 h2, stepB_eq F hF hm i k hi hlt n hn1 hn2 hl hla to0 to h1 h2]
      rcases next_ok (l := l) (n := n) (i := i) (k := k) (row := nx [] m i) (to := to) (hla i (by omega)) (part_ok hn1 hn2 he.1 he.2) (by omega) h2 with ⟨to', g1, g2, g3⟩ | ⟨e, g1⟩
      · left
        rw [g1]
        exact ⟨_, rfl, rfl, ⟨k + 1, rfl, by omega, by simp only; omega, g3⟩, by simp only [Int.toNat_natCast]; omega⟩
      · right
        rw [g1]
        exact ⟨_, _, rfl, rfl, rfl, (fun to' h => by cases h), fun q h => by cases h; rfl⟩
    · right
      unfold F89_l2 F99_l2
      simp only
      rw [if_neg (by rw [decide_eq_true_eq]; omega), if_neg (by rw [decide_eq_true_eq]; omega)]
      exact ⟨_, _, rfl, rfl, rfl, (fun to' h => by cases h; exact ⟨h1, h2⟩), fun q h => by cases h⟩) F (0, to0) ⟨0, rfl, by omega, ht, hta⟩ (by simp only; omega)
  obtain ⟨rfl, h4⟩ := h3
  exact ⟨b, h1, h2, h4⟩

theorem out_eq (F : Nat) (hF : 40 ≤ F) (hm : Rgt m) (i : Nat) (hi : i < m.length) : F151 F (nx [] m i) = some (sm m.length (ent m i)) ∧ iter (F99_l1 F (nx [] m i)) F (0, 0) = some (sm m.length (ent m i)) := by
  have hmn := hm.hi
  have hsq := hm.sq i hi
  have hb : ∀ k, k ≤ m.length → 0 ≤ sm k (ent m i) ∧ sm k (ent m i) ≤ 100 := fun k hk => row_sum (fun j hj => hm.en i j hi (by omega)) (by omega)
  constructor
  · unfold F151
    have := iter_count (step := F151_l0 F (nx [] m i)) (F := F) (fun k => (sm k (ent m i), (k : Int))) (b := sm m.length (ent m i)) m.length (fun k hk => ?_) ?_ (by omega)
    · have this : iter (F151_l0 F (nx [] m i)) F (0, 0) = _ := this
      rw [this]; rfl
    · unfold F151_l0
      have h1 := hb k (by omega)
      have h2 := hb (k + 1) (by omega)
      rw [sm_succ] at h2
      simp only
      rw [if_pos (decide_eq_true (by omega)), nx_get (d := 0) (by omega), Option.bind_some, wsuc (by omega), show nx 0 (nx [] m i) k = ent m i k from rfl, w64 (by omega) (by omega), sm_succ]
    · unfold F151_l0
      simp only
      rw [if_neg (by simp [hsq])]
  · refine iter_count (step := F99_l1 F (nx [] m i)) (F := F) (fun k => (sm k (ent m i), (k : Int))) (b := sm m.length (ent m i)) m.length (fun k hk => ?_) ?_ (by omega)
    · unfold F99_l1
      have h1 := hb k (by omega)
      have h2 := hb (k + 1) (by omega)
      rw [sm_succ] at h2
      simp only
      rw [if_pos (decide_eq_true (by omega)), nx_get (d := 0) (by omega), Option.bind_some, wsuc (by omega), show nx 0 (nx [] m i) k = ent m i k from rfl, w64 (by omega) (by omega), sm_succ]
    · unfold F99_l1
      simp only
      rw [if_neg (by simp [hsq])]

theorem outer_eq (F : Nat) (hF : 1000000000000000001 ≤ F) (hm : Rgt m) (hl : l.length = m.length) (hla : RAll l) (to0 : List (Int × Int)) (ht : to0.length = m.length) (hta : RAll to0) :
    ∃ b, iter (F89_l3 F m l) F (0, to0) = some b ∧ iter (F99_l3 F m l) F (0, to0) = some b ∧ (∀ to', b = .inl to' → to'.length = m.length) ∧ (∀ q, b = .inr q → q.1 = []) := by
  have hmn := hm.hi
  obtain ⟨b, c, h1, h2, h3⟩ := iter_par (step := F89_l3 F m l) (step' := F99_l3 F m l) (I := fun s => ∃ k : Nat, s.1 = (k : Int) ∧ k ≤ m.length ∧ s.2.length = m.length ∧ RAll s.2) (μ := fun s => m.length - s.1.toNat) (R := fun b c => b = c ∧ (∀ to', b = .inl to' → to'.length = m.length) ∧ (∀ q, b = .inr q → q.1 = [])) (by
    rintro ⟨k', to⟩ ⟨k, rfl, hk, h1, h2⟩
    simp only at h1 h2
    unfold F89_l3 F99_l3
    simp only
    by_cases hlt : k < m.length
    · obtain ⟨o1, o2⟩ := out_eq F (by omega) hm k hlt
      have hb := row_sum (f := ent m k) (k := m.length) (fun j hj => hm.en k j hlt hj) hmn
      obtain ⟨b, g1, g2, g3, g6⟩ := inner_eq F hF hm k hlt (sm m.length (ent m k)) hb.1 hb.2 hl hla to h1 h2
      rw [if_pos (decide_eq_true (by omega)), if_pos (decide_eq_true (by omega)), nx_get (d := []) hlt, Option.bind_some, Option.bind_some, o1, Option.bind_some, o2, Option.bind_some, g1, g2, Option.bind_some]
      cases b with
      | inl to' =>
        left
        simp only [Option.bind_some]
        rw [wsuc (by omega)]
        obtain ⟨g4, g5⟩ := g3 to' rfl
        exact ⟨_, rfl, rfl, ⟨k + 1, rfl, by omega, g4, g5⟩, by simp only [Int.toNat_natCast]; omega⟩
      | inr q => right; exact ⟨_, _, rfl, rfl, rfl, (fun to' h => by cases h), fun q' h => by cases h; exact g6 q rfl⟩
    · right
      rw [if_neg (by rw [decide_eq_true_eq]; omega), if_neg (by rw [decide_eq_true_eq]; omega)]
      exact ⟨_, _, rfl, rfl, rfl, (fun to' h => by cases h; exact h1), fun q h => by cases h⟩) F (0, to0) ⟨0, rfl, by omega, ht, hta⟩ (by simp only; omega)
  obtain ⟨rfl, h4, h5⟩ := h3
  exact ⟨b, h1, h2, h4, h5⟩
def ones (n : Nat) : List (Int × Int) := tb n fun _ => (0, 1)
theorem ones_ok (n : Nat) : (ones n).length = n ∧ RAll (ones n) := by
  refine ⟨tb_len _ _, fun k hk => ?_⟩
  unfold ones at hk ⊢
  rw [tb_len] at hk
  rw [tb_nx hk]; exact rchk_one (by decide) (by decide)
theorem init_eq (F n : Nat) (hF : 40 ≤ F) (hn : n ≤ 5) : iter (F89_l1 F (List.replicate n (0, 0))) F (0, List.replicate n (0, 0)) = some (ones n) ∧ iter (F99_l0 F (List.replicate n (0, 0))) F (0, List.replicate n (0, 0)) = some (ones n) := by
  have e0 : List.replicate n ((0, 0) : Int × Int) = tb n fun i => if i < 0 then ((0, 1) : Int × Int) else (0, 0) := by
    rw [tb_rep]; exact tb_congr fun i _ => by rw [if_neg (by omega)]
  have hset : ∀ k, (tb n fun i => if i < k then ((0, 1) : Int × Int) else (0, 0)).set k (0, 1) = tb n fun i => if i < k + 1 then ((0, 1) : Int × Int) else (0, 0) := fun k => by
    rw [tb_set]
    refine tb_congr fun j _ => ?_
    by_cases e : j = k
    · rw [if_pos e, if_pos (by omega)]
    · rw [if_neg e]
      by_cases e2 : j < k
      · rw [if_pos e2, if_pos (by omega)]
      · rw [if_neg e2, if_neg (by omega)]
  have hend : (tb n fun i => if i < n then ((0, 1) : Int × Int) else (0, 0)) = ones n := tb_congr fun i hi => by rw [if_pos hi]
  constructor
  · have := iter_count (step := F89_l1 F (List.replicate n (0, 0))) (F := F) (fun k => ((k : Int), tb n fun i => if i < k then ((0, 1) : Int × Int) else (0, 0))) (b := ones n) n (fun k hk => ?_) ?_ (by omega)
    · rw [← e0] at this; exact this
    · unfold F89_l1
      simp only [List.length_replicate]
      rw [if_pos (decide_eq_true (by omega)), tb_get hk, Option.bind_some, if_neg (by omega), Int.toNat_natCast, wsuc (by omega), hset]
    · unfold F89_l1
      simp only [List.length_replicate]
      rw [if_neg (by simp), hend]
  · have := iter_count (step := F99_l0 F (List.replicate n (0, 0))) (F := F) (fun k => ((k : Int), tb n fun i => if i < k then ((0, 1) : Int × Int) else (0, 0))) (b := ones n) n (fun k hk => ?_) ?_ (by omega)
    · rw [← e0] at this; exact this
    · unfold F99_l0
      simp only [List.length_replicate]
      rw [if_pos (decide_eq_true (by omega)), tb_ck hk, Option.bind_some, Int.toNat_natCast, wsuc (by omega), hset]
    · unfold F99_l0
      simp only [List.length_replicate]
      rw [if_neg (by simp), hend]

/-- The first that is no right ratio. -/
theorem step_eq (F : Nat) (hF : 1000000000000000001 ≤ F) (hm : Rgt m) (hl : l.length = m.length) :
    (∃ i : Nat, i < l.length ∧ rchk (nx (0, 0) l i) ≠ 0 ∧ (∀ j, j < i → rchk (nx (0, 0) l j) = 0) ∧ F89 F m l = some ([], rchk (nx (0, 0) l i))) ∨
    (RAll l ∧ ∃ r, F89 F m l = some r ∧ F99 F m l = some r ∧ r.1.length ≤ 5) := by
  have hmn := hm.hi
  unfold F89 F99
  rw [check_right F m (by omega) hm, Option.bind_some, if_neg (by decide), if_neg (by simp [hl])]
  rcases seek_loop (step := F89_l0 F l) (F := F) l.length (fun i => decide (rchk (nx (0, 0) l i) ≠ 0)) (fun i => (([] : List (Int × Int)), rchk (nx (0, 0) l i))) (fun i hi => by
    unfold F89_l0
    have hc := rcheck_eq F (nx (0, 0) l i) (by omega)
    simp only at hc ⊢
    rw [if_pos (decide_eq_true (by omega)), nx_get (d := (0, 0)) hi, Option.bind_some, hc, Option.bind_some, wsuc (by omega)]
    by_cases e : rchk (nx (0, 0) l i) = 0
    · rw [if_neg (by simpa using e), if_neg (by simpa using e)]
    · rw [if_pos (by simpa using e), if_pos (by simpa using e)]) (by unfold F89_l0; rw [if_neg (by simp)]) (by omega) with ⟨g1, g2⟩ | ⟨i, g1, g2, g3, g4⟩
  · right
    have hla : RAll l := fun k hk => by simpa using g1 k hk
    refine ⟨hla, ?_⟩
    rw [g2, Option.bind_some]
    simp only
    rw [mk?_ok (by omega), Option.bind_some, Option.bind_some]
    obtain ⟨i1, i2⟩ := init_eq F m.length (by omega) hmn
    rw [i1, i2, Option.bind_some, Option.bind_some]
    obtain ⟨o1, o2⟩ := ones_ok m.length
    obtain ⟨b, b1, b2, b3, b4⟩ := outer_eq F hF hm hl hla (ones m.length) o1 o2
    rw [b1, b2, Option.bind_some]
    cases b with
    | inl x => exact ⟨_, rfl, rfl, by have := b3 x rfl; simp only; omega⟩
    | inr x => exact ⟨_, rfl, rfl, by have := b4 x rfl; simp only; rw [this]; simp⟩
  · left
    refine ⟨i, g1, by simpa using g2, fun j hj => by simpa using g3 j hj, ?_⟩
    rw [g4, Option.bind_some]
end step

theorem equalR (F : Nat) (p : List (Int × Int)) (hF : p.length < F) (hl : p.length ≤ 9223372036854775807) : F100 F p p = some true := by
  unfold F100 F156
  rw [if_neg (by simp)]
  have := iter_count (step := F156_l0 F p p) (F := F) (fun i => (i : Int)) (b := Sum.inl ()) p.length (fun i hi => ?_) ?_ (by omega)
  · rw [show (0 : Int) = ((0 : Nat) : Int) from rfl, this]; rfl
  · unfold F156_l0
    rw [if_pos (decide_eq_true (by omega)), nx_get (d := (0, 0)) hi, Option.bind_some, Option.bind_some, if_neg (by simp), wsuc (by omega)]
  · unfold F156_l0
    rw [if_neg (by simp)]

/-! ### Pairs -/
def eqs (m : List (List Int)) (w : List Int) (i k : Nat) : Bool := nx 0 w i * ent m i k == nx 0 w k * ent m k i
theorem pairs_ne (F : Nat) (m : List (List Int)) (w : List Int) (e : Int) (he : e ≠ 0) (hF : 40 ≤ F) (hm : m.length ≤ 5) : iter (F13_l1 F m w e) F (false, 0) = some false := by
  refine iter_count (step := F13_l1 F m w e) (F := F) (fun i => (false, (i : Int))) m.length (fun i hi => ?_) ?_ (by omega)
  · unfold F13_l1
    have := iter_count (step := F13_l0 F m w e (false, (i : Int))) (F := F) (fun k => (false, (k : Int))) (b := false) i (fun k hk => ?_) ?_ (by omega)
    · have this : iter (F13_l0 F m w e (false, (i : Int))) F (false, 0) = some false := this
      simp only
      rw [if_pos (decide_eq_true (by omega)), this, Option.bind_some, wsuc (by omega)]
    · unfold F13_l0
      simp only
      rw [if_pos (decide_eq_true (by omega)), if_neg (by simpa using he), Option.bind_some, if_neg (by decide), wsuc (by omega)]
    · unfold F13_l0
      simp only
      rw [if_neg (by simp)]
  · unfold F13_l1
    simp only
    rw [if_neg (by simp)]
theorem pairs_eq (F : Nat) (m : List (List Int)) (w : List Int) (hF : 40 ≤ F) (hm : Rgt m) (hl : w.length = m.length) (hb : ∀ i, i < m.length → 0 ≤ nx 0 w i ∧ nx 0 w i ≤ 1000000000) :
    iter (F13_l1 F m w 0) F (true, 0) = some ((List.range m.length).all fun i => (List.range i).all fun k => eqs m w i k) := by
  have hmn := hm.hi
  refine iter_count (step := F13_l1 F m w 0) (F := F) (fun i => ((List.range i).all (fun i => (List.range i).all fun k => eqs m w i k), (i : Int))) m.length (fun i hi => ?_) ?_ (by omega)
  · unfold F13_l1
    simp only
    have hsplit : (List.range (i + 1)).all (fun i => (List.range i).all fun k => eqs m w i k) = ((List.range i).all (fun i => (List.range i).all fun k => eqs m w i k) && (List.range i).all fun k => eqs m w i k) := by
      rw [List.range_succ, List.all_append]; simp
    rw [hsplit]
    generalize (List.range i).all (fun i => (List.range i).all fun k => eqs m w i k) = ok0
    have := iter_count (step := F13_l0 F m w 0 (ok0, (i : Int))) (F := F) (fun k => (ok0 && (List.range k).all (fun k => eqs m w i k), (k : Int))) (b := ok0 && (List.range i).all (fun k => eqs m w i k)) i (fun k hk => ?_) ?_ (by omega)
    · have this : iter (F13_l0 F m w 0 (ok0, (i : Int))) F (ok0 && true, 0) = _ := this
      rw [Bool.and_true] at this
      rw [if_pos (decide_eq_true (by omega)), this, Option.bind_some, wsuc (by omega)]
    · unfold F13_l0
      have e1 := hm.en i k hi (by omega)
      have e2 := hm.en k i (by omega) hi
      have p1 := prod_bd (hb i hi).1 (hb i hi).2 e1.1 e1.2
      have p2 := prod_bd (hb k (by omega)).1 (hb k (by omega)).2 e2.1 e2.2
      simp only
      rw [if_pos (decide_eq_true (by omega)), if_pos (by decide), nx_get (d := 0) (by omega), Option.bind_some, nx_get (d := []) hi, Option.bind_some, nx_get (d := 0) (by rw [hm.sq i hi]; omega), Option.bind_some, nx_get (d := 0) (by omega), Option.bind_some, nx_get (d := []) (by omega), Option.bind_some, nx_get (d := 0) (by rw [hm.sq k (by omega)]; omega), Option.bind_some, Option.bind_some, wsuc (by omega)]
      rw [show nx 0 (nx [] m i) k = ent m i k from rfl, show nx 0 (nx [] m k) i = ent m k i from rfl, w64 (a := nx 0 w i * ent m i k) (by omega) (by omega), w64 (a := nx 0 w k * ent m k i) (by omega) (by omega), List.range_succ, List.all_append]
      by_cases e : nx 0 w i * ent m i k = nx 0 w k * ent m k i
      · rw [if_neg (by simp [e])]
        have : eqs m w i k = true := by unfold eqs; simp [e]
        simp [this]
      · rw [if_pos (by simpa using e)]
        have : eqs m w i k = false := by unfold eqs; simp [e]
        simp [this]
    · unfold F13_l0
      simp only
      rw [if_neg (by simp)]
  · unfold F13_l1
    simp only
    rw [if_neg (by simp)]
theorem even_iff {m : List (List Int)} {w : List Int} : ((List.range m.length).all fun i => (List.range i).all fun k => eqs m w i k) = true ↔ EvenP m w := by
  simp only [List.all_eq_true, List.mem_range, eqs, beq_iff_eq]
  constructor
  · intro h i k hi hk
    rcases Nat.lt_trichotomy i k with h1 | h1 | h1
    · exact (h k hk i h1).symm
    · subst h1; rfl
    · exact h i hi k h1
  · intro h i hi k hk
    exact h i k hi (by omega)

theorem even_all (F : Nat) (m : List (List Int)) (w : List Int) (hF : 40 ≤ F) (hm : Rgt m) : ∃ b x, F91 F m w = some (b, x) ∧
    (if ((w.length : Int) != (m.length : Int)) then (some (3 : Int)) else (F96_97 F w).bind fun r63 => if r63 then (some 1) else some 0) = some x ∧ iter (F13_l1 F m w x) F ((x == 0), 0) = some b := by
  have hmn := hm.hi
  by_cases hl : w.length = m.length
  · rw [if_neg (by simp [hl]), cfW_eq F w (by omega) (by omega), Option.bind_some]
    by_cases ha : (w.any fun x => decide (x < 0) || decide (x > 1000000000)) = true
    · refine ⟨false, 1, ?_, by rw [if_pos ha], pairs_ne F m w 1 (by decide) hF hmn⟩
      unfold F91
      rw [check_right F m hF hm, Option.bind_some, if_neg (by decide), if_neg (by simp [hl])]
      have := any_loop (step := F91_l0 F w) (F := F) w (fun x => decide (x < 0) || decide (x > 1000000000)) ((false, 1) : Bool × Int) (fun k hk => by
        unfold F91_l0
        rw [if_pos (decide_eq_true (by omega)), at?_in hk, Option.bind_some, wsuc (by omega)]
        exact ite_some _ _) (by unfold F91_l0; rw [if_neg (by simp)]) (by omega)
      rw [this, if_pos ha]
      rfl
    · have hb : ∀ i, i < m.length → 0 ≤ nx 0 w i ∧ nx 0 w i ≤ 1000000000 := fun i hi => by
        rw [Bool.not_eq_true, List.any_eq_false] at ha
        have := ha _ (nx_mem (d := 0) (show i < w.length by omega))
        simp only [Bool.or_eq_true, decide_eq_true_eq] at this
        omega
      obtain ⟨b, b1, b2⟩ := even_eq F m w hF hm hl hb
      refine ⟨b, 0, b1, by rw [if_neg ha], ?_⟩
      have hp := pairs_eq F m w hF hm hl hb
      have hp : iter (F13_l1 F m w 0) F (((0 : Int) == 0), 0) = _ := hp
      rw [hp]
      congr 1
      rw [Bool.eq_iff_iff, even_iff, b2]
  · refine ⟨false, 3, ?_, by rw [if_pos (by simp; omega)], pairs_ne F m w 3 (by decide) hF hmn⟩
    unfold F91
    rw [check_right F m hF hm, Option.bind_some, if_neg (by decide), if_pos (by simp; omega)]

theorem PchainSays.holds (t0 : List (List (Int))) (t1 : List ((Int) × (Int))) (t2 : List (Int)) (h0 : (t0.length ≤ maxLen ∧ ∀ a ∈ t0, (a.length ≤ maxLen ∧ ∀ b ∈ a, inR .i64 b))) (h1 : (t1.length ≤ maxLen ∧ ∀ a ∈ t1, (inR .i64 a.1 ∧ inR .i64 a.2))) (h2 : (t2.length ≤ maxLen ∧ ∀ a ∈ t2, inR .i64 a)) : ∃ F, F13 F t0 t1 t2 = some true := by
  refine ⟨1000000000000000100, ?_⟩
  generalize hF : (1000000000000000100 : Nat) = F
  have hFF : 1000000000000000100 ≤ F := by omega
  clear hF
  unfold F13
  obtain ⟨e, he, hR⟩ := check_ok F t0 (by omega)
  have hE := err_same F t0 (by omega)
  rw [he] at hE
  by_cases h0 : e = 0
  · subst h0
    have hm := hR rfl
    have hmn := hm.hi
    obtain ⟨b, x, e1, e2, e3⟩ := even_all F t0 t2 (by omega) hm
    have hrest := rest_eq F t0 (by omega) hm
    have hrl : (restOf t0).length = t0.length := tb_len _ _
    have hrv : ∀ i, i < t0.length → nx 0 (restOf t0) i = TR t0.length i (ent t0) t0.length 0 [] := fun i hi => by unfold restOf; rw [tb_nx hi]
    have hrn : ∀ i, i < t0.length → 0 ≤ nx 0 (restOf t0) i := fun i hi => by rw [hrv i hi]; exact TR_nonneg (fun i k a b => (hm.en i k a b).1) _ _ _ (by omega)
    obtain ⟨mx, m1, m2⟩ := max_eq F (restOf t0) (by omega) (by have := hm.lo; omega) (by omega) (fun i hi => hrn i (by omega))
    have hbig : ∃ r7, F90 F t0 = some r7 ∧ (show Option (Unit ⊕ Bool) from (if (mx == 0) then
        (if ((r7.2 != 4) || (decide ((r7.1.length : Int) > 0))) then
        (some ((.inr false)))
        else
        some ((.inl ())))
        else
        (if (r7.2 != 0) then some true else 
        ((F31 F r7.1 (restOf t0)).bind fun r44 =>
        some (!r44))
        ).bind fun y49 =>
        if y49 then
        (some ((.inr false)))
        else
        some ((.inl ())))) = some (.inl ()) := by
      refine ⟨_, hrest, ?_⟩
      show (if _ then _ else _) = _
      by_cases hz : mx = 0
      · have ha : ¬ ((List.range t0.length).any (fun r => decide (TR t0.length r (ent t0) t0.length 0 [] > 0)) = true) := by
          rw [Bool.not_eq_true, List.any_eq_false]
          intro i hi
          have hi : i < t0.length := by simpa using hi
          have := m2.1 hz i (by omega)
          rw [hrv i hi] at this
          simp [this]
        rw [if_pos (by simpa using hz), if_neg ha, if_neg (by decide)]
      · have ha : (List.range t0.length).any (fun r => decide (TR t0.length r (ent t0) t0.length 0 [] > 0)) = true := by
          rw [List.any_eq_true]
          by_cases hc : ∃ i, i < t0.length ∧ nx 0 (restOf t0) i ≠ 0
          · obtain ⟨i, hi, hne⟩ := hc
            have := hrn i hi
            exact ⟨i, by simpa using hi, by rw [decide_eq_true_eq, ← hrv i hi]; omega⟩
          · exfalso
            apply hz
            rw [m2]
            intro i hi
            by_cases hq : nx 0 (restOf t0) i = 0
            · exact hq
            · exact (hc ⟨i, by omega, hq⟩).elim
        rw [if_neg (by simpa using hz), if_pos ha]
        dsimp only
        rw [if_neg (by decide), equal_eq F _ _ (by omega) (by omega)]
        simp
    obtain ⟨r7, hr7, hb7⟩ := hbig
    have hstep : ∃ r1, F89 F t0 t1 = some r1 ∧ (if ((t1.length : Int) != (t0.length : Int)) then
        (some (((r1.2 == 3) && ((r1.1.length : Int) == 0))))
        else
        (iter (F13_l2 F t1 r1) F 0).bind fun b139 =>
        match b139 with
        | .inl b141 => ((F99 F t0 t1).bind fun r144 =>
        (if (r1.2 == r144.2) then 
        ((F100 F r1.1 r144.1).bind fun r150 =>
        some r150)
        else some false).bind fun y155 =>
        some y155)
        | .inr b141 => (some b141)) = some true := by
      by_cases hl : t1.length = t0.length
      · have hloop : ∀ r1 : List (Int × Int) × Int, ∀ i, i < t1.length → F13_l2 F t1 r1 (i : Int) = some (if decide (rchk (nx (0, 0) t1 i) ≠ 0) then .stop (.inr ((r1.2 == rchk (nx (0, 0) t1 i)) && ((r1.1.length : Int) == 0))) else .more ((i + 1 : Nat) : Int)) := fun r1 i hi => by
          unfold F13_l2
          have hc := ratioErr_eq F (nx (0, 0) t1 i) (by omega)
          simp only at hc ⊢
          rw [if_pos (decide_eq_true (by omega)), nx_get (d := (0, 0)) hi, Option.bind_some, hc, Option.bind_some, wsuc (by omega)]
          by_cases e : rchk (nx (0, 0) t1 i) = 0
          · rw [if_neg (by simpa using e), if_neg (by simpa using e)]
          · rw [if_pos (by simpa using e), if_pos (by simpa using e)]
        have hend : ∀ r1 : List (Int × Int) × Int, F13_l2 F t1 r1 (t1.length : Int) = some (.stop (.inl ())) := fun r1 => by unfold F13_l2; rw [if_neg (by simp)]
        rcases step_eq F (by omega) hm hl with ⟨i, g1, g2, g3, g4⟩ | ⟨g1, r, g2, g3, hlen⟩
        · refine ⟨_, g4, ?_⟩
          rw [if_neg (by simp [hl])]
          rcases seek_loop (step := F13_l2 F t1 ([], rchk (nx (0, 0) t1 i))) (F := F) t1.length (fun i => decide (rchk (nx (0, 0) t1 i) ≠ 0)) (fun j => (rchk (nx (0, 0) t1 i) == rchk (nx (0, 0) t1 j)) && (((([] : List (Int × Int)).length : Nat) : Int) == 0)) (hloop _) (hend _) (by omega) with ⟨k1, k2⟩ | ⟨j, k1, k2, k3, k4⟩
          · have := k1 i g1; simp [g2] at this
          · rw [k4, Option.bind_some]
            have : j = i := by
              rcases Nat.lt_trichotomy i j with q | q | q
              · have := k3 i q; simp [g2] at this
              · exact q.symm
              · have := g3 j q; simp [this] at k2
            subst this
            simp
        · refine ⟨r, g2, ?_⟩
          rw [if_neg (by simp [hl])]
          rcases seek_loop (step := F13_l2 F t1 r) (F := F) t1.length (fun i => decide (rchk (nx (0, 0) t1 i) ≠ 0)) (fun j => (r.2 == rchk (nx (0, 0) t1 j)) && ((r.1.length : Int) == 0)) (hloop _) (hend _) (by omega) with ⟨k1, k2⟩ | ⟨j, k1, k2, k3, k4⟩
          · rw [k2, Option.bind_some]
            simp only
            rw [g3, Option.bind_some, if_pos (by simp), equalR F r.1 (by omega) (by omega), Option.bind_some, Option.bind_some]
          · have := g1 j k1; simp [this] at k2
      · refine ⟨([], 3), ?_, ?_⟩
        · unfold F89
          rw [check_right F t0 (by omega) hm, Option.bind_some, if_neg (by decide), if_pos (by simp; omega)]
        · rw [if_pos (by simp; omega)]; rfl
    obtain ⟨r1, hr1, hb1⟩ := hstep
    rw [hr1, Option.bind_some, hr7, Option.bind_some, e1, Option.bind_some, hE, Option.bind_some, he, Option.bind_some, if_neg (by simp), if_neg (by simp), restOf_eq F (by omega) hm, Option.bind_some, m1, Option.bind_some]
    have hb7 := hb7
    dsimp only at hb7
    rw [hb7, Option.bind_some]
    simp only
    rw [e2, Option.bind_some, e3, Option.bind_some, if_neg (by simp)]
    exact hb1
  · rw [hE]
    have s1 : F89 F t0 t1 = some ([], e) := by unfold F89; rw [he, Option.bind_some, if_pos (by simpa using h0)]
    have s2 : F90 F t0 = some ([], e) := by unfold F90; rw [he, Option.bind_some, if_pos (by simpa using h0)]
    have s3 : F91 F t0 t2 = some (false, e) := by unfold F91; rw [he, Option.bind_some, if_pos (by simpa using h0)]
    rw [s1, Option.bind_some, s2, Option.bind_some, s3, Option.bind_some, Option.bind_some, he, Option.bind_some, if_neg (by simp), if_pos (by simpa using h0)]
    simp
    rfl
end Go.Proofs.Ytdkmepeolmdccaa

/- Sums turned. -/
import Derived.Test.YtihmliblbhjlaaaPartsA
set_option linter.unusedVariables false
set_option linter.unusedSimpArgs false
namespace Go.Proofs.Ytihmliblbhjlaaa
open Go.Am

theorem Part.le0 {l : List Int} (h : Part l) : ∀ j, j < l.length → nx 0 l j ≤ nx 0 l 0
  | 0, _ => Int.le_refl _
  | j + 1, hj => Int.le_trans (h.dec j hj) (h.le0 j (by omega))
/-- How many of the first i are above k. -/
def abv (l : List Int) (i k : Nat) : Int := sm i fun j => if (k : Int) < nx 0 l j then 1 else 0
theorem abv_in (l : List Int) (i k : Nat) : 0 ≤ abv l i k ∧ abv l i k ≤ i := by
  have := sm_bound (f := fun j => if (k : Int) < nx 0 l j then (1 : Int) else 0) (B := 1) (k := i) fun j _ => by
    show 0 ≤ (if _ then (1 : Int) else 0) ∧ _
    split <;> omega
  unfold abv; omega
def mx (l : List Int) : Nat := (nx 0 l 0).toNat
theorem turned_eq (F : Nat) (l : List Int) (hP : Part l) (hc : F42 F l = some 0) (hF : 100 ≤ F) : F37 F l = some (tb (mx l) (abv l l.length), 0) := by
  have hlen := hP.len
  unfold F37
  rw [hc, Option.bind_some, if_neg (by decide)]
  have hround : ∀ i : Nat, i < l.length → F37_l2 F l (tb (if i = 0 then 0 else mx l) (abv l i), (i : Int)) = some (.more (tb (if i + 1 = 0 then 0 else mx l) (abv l (i + 1)), ((i + 1 : Nat) : Int))) := by
    intro i hi
    have hp := hP.pos i hi
    have hm := hP.le0 i hi
    have hp0 := hP.pos 0 (by omega)
    obtain ⟨x, hx⟩ : ∃ x : Nat, nx 0 l i = (x : Int) := ⟨(nx 0 l i).toNat, by omega⟩
    have hxm : x ≤ mx l := by unfold mx; omega
    have hm40 : mx l ≤ 40 := by unfold mx; omega
    unfold F37_l2
    simp only
    rw [if_pos (decide_eq_true (by omega)), nx_get (d := 0) hi, Option.bind_some, hx]
    have e1 : iter (F37_l0 F (x : Int)) F (tb (if i = 0 then 0 else mx l) (abv l i)) = some (tb (mx l) (abv l i)) := by
      by_cases h0 : i = 0
      · subst h0
        have hxe : x = mx l := by unfold mx; rw [hx]; rfl
        have := iter_count (step := F37_l0 F (x : Int)) (F := F) (fun j => List.replicate j (0 : Int)) (b := List.replicate x 0) x (fun j hj => by
          unfold F37_l0
          rw [if_pos (decide_eq_true (by simp; omega)), app?_ok (by simp; omega), Option.bind_some, ← List.replicate_succ']) (by
          unfold F37_l0
          rw [if_neg (by rw [decide_eq_true_eq]; simp)]) (by omega)
        rw [if_pos rfl]
        rw [show tb 0 (abv l 0) = List.replicate 0 (0 : Int) from rfl, this, ← hxe, tb_rep]
        rfl
      · rw [if_neg h0]
        obtain ⟨G, rfl⟩ : ∃ G, F = G + 1 := ⟨F - 1, by omega⟩
        refine iter_stop ?_
        unfold F37_l0
        rw [if_neg (by rw [decide_eq_true_eq, tb_len]; omega)]
    rw [e1, Option.bind_some]
    have e2 := iter_count (step := F37_l1 F (x : Int)) (F := F) (fun j => ((j : Int), tb (mx l) fun k => abv l i k + if k < j then 1 else 0)) (b := tb (mx l) (abv l (i + 1))) x (fun j hj => by
      unfold F37_l1
      simp only
      have hb := abv_in l i j
      rw [if_pos (decide_eq_true (by omega)), tb_get (by omega), Option.bind_some, tb_ck (by omega), Option.bind_some, wsuc (by omega), Int.toNat_natCast, tb_set, if_neg (Nat.lt_irrefl j), w64 (by omega) (by omega)]
      congr 3
      refine tb_congr fun k hk => ?_
      by_cases e : k = j
      · subst e; rw [if_pos rfl, if_pos (Nat.lt_succ_self k)]; omega
      · rw [if_neg e]
        congr 1
        by_cases h : k < j
        · rw [if_pos h, if_pos (by omega)]
        · rw [if_neg h, if_neg (by omega)]) (by
      unfold F37_l1
      simp only
      rw [if_neg (by rw [decide_eq_true_eq]; omega)]
      congr 2
      refine tb_congr fun k hk => ?_
      unfold abv
      rw [sm_succ, hx]
      congr 1
      by_cases h : k < x
      · rw [if_pos h, if_pos (by omega)]
      · rw [if_neg h, if_neg (by omega)]) (by omega)
    rw [show tb (mx l) (abv l i) = tb (mx l) fun k => abv l i k + if k < 0 then 1 else 0 from tb_congr fun k _ => by rw [if_neg (by omega), Int.add_zero]]
    rw [show ((0 : Nat) : Int) = 0 from rfl] at e2
    rw [e2, Option.bind_some, wsuc (by omega), if_neg (by omega)]
  have := iter_count (step := F37_l2 F l) (F := F) (fun i => (tb (if i = 0 then 0 else mx l) (abv l i), (i : Int))) (b := tb (mx l) (abv l l.length)) l.length hround (by
    unfold F37_l2
    simp only
    rw [if_neg (by rw [decide_eq_true_eq]; omega)]
    by_cases h : l.length = 0
    · have : l = [] := List.length_eq_zero_iff.1 h
      subst this; rfl
    · rw [if_neg h]) (by omega)
  rw [show (([] : List Int), (0 : Int)) = (tb (if 0 = 0 then 0 else mx l) (abv l 0), ((0 : Nat) : Int)) from rfl, this, Option.bind_some]
theorem turnedOf_eq (F : Nat) (l : List Int) (hP : Part l) (hF : 100 ≤ F) : F43 F l = some (tb (mx l) (abv l l.length)) := by
  have hlen := hP.len
  have hm40 : mx l ≤ 40 := by
    unfold mx
    by_cases h : 0 < l.length
    · have := hP.pos 0 h; omega
    · rw [nx_out (by omega)]; decide
  unfold F43
  have hin : ∀ (j : Nat) (o : List Int), iter (F43_l0 F l (o, ((j + 1 : Nat) : Int))) F (0, 0) = some (abv l l.length j) := by
    intro j o
    have := iter_count (step := F43_l0 F l (o, ((j + 1 : Nat) : Int))) (F := F) (fun i => (abv l i j, (i : Int))) (b := abv l l.length j) l.length (fun i hi => by
      unfold F43_l0
      simp only
      have hb := abv_in l i j
      rw [if_pos (decide_eq_true (by omega)), nx_get (d := 0) hi, Option.bind_some, wsuc (by omega)]
      have e : abv l (i + 1) j = abv l i j + if (j : Int) < nx 0 l i then 1 else 0 := rfl
      by_cases h : (j : Int) < nx 0 l i
      · rw [if_pos (decide_eq_true (by omega)), w64 (by omega) (by omega), e, if_pos h]
      · rw [if_neg (by rw [decide_eq_true_eq]; omega), e, if_neg h, Int.add_zero]) (by
      unfold F43_l0
      simp only
      rw [if_neg (by rw [decide_eq_true_eq]; omega)]) (by omega)
    exact this
  have := iter_count (step := F43_l1 F l) (F := F) (fun j => (tb j (abv l l.length), ((j + 1 : Nat) : Int))) (b := tb (mx l) (abv l l.length)) (mx l) (fun j hj => by
    unfold F43_l1
    have h0 : 0 < l.length := by
      rcases Nat.eq_zero_or_pos l.length with h | h
      · unfold mx at hj; rw [nx_out (by omega)] at hj; simp at hj
      · exact h
    have h1 : abv l l.length j ≠ 0 := by
      have := sm_term (f := fun q => if (j : Int) < nx 0 l q then (1 : Int) else 0) (k := l.length) (c := 0) (fun q _ => by show 0 ≤ (if _ then (1 : Int) else 0); split <;> omega) h0
      rw [if_pos (by unfold mx at hj; omega)] at this
      unfold abv; omega
    rw [hin, Option.bind_some, if_neg (by simpa using h1)]
    simp only
    rw [app?_ok (by rw [tb_len]; simp; omega), Option.bind_some, ← tb_succ, wsuc (by omega)]) (by
    unfold F43_l1
    have h1 : abv l l.length (mx l) = 0 := by
      unfold abv
      rw [sm_congr (g := fun _ => 0) fun j hj => if_neg (by have := hP.le0 j hj; unfold mx; omega), sm_zero]
    rw [hin, Option.bind_some, h1, if_pos (by decide)]) (by omega)
  rw [show (([] : List Int), (1 : Int)) = (tb 0 (abv l l.length), ((0 + 1 : Nat) : Int)) from rfl, this, Option.bind_some]
end Go.Proofs.Ytihmliblbhjlaaa

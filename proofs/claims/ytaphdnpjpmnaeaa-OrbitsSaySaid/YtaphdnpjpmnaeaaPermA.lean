/- Package perm: the sort of the cycles' lengths, products, inverses. -/
import Derived.Test.YtaphdnpjpmnaeaaSortedLib
import Derived.Test.YtaphdnpjpmnaeaaPermLib
import Derived.Test.YtaphdnpjpmnaeaaEqualLib
set_option linter.unusedVariables false
set_option linter.unusedSimpArgs false
namespace Go.Proofs.Ytaphdnpjpmnaeaa
open Go.Am

theorem sortDesc_eq (F : Nat) (L : List Int) (hF : 20 ≤ F) (hl : L.length ≤ 12) (hb : ∀ x ∈ L, 0 ≤ x ∧ x ≤ 1000) : ∃ M, F31_32 F L = some M ∧ M.Perm L ∧ M.Pairwise (fun a b => b ≤ a) := by
  have hins : ∃ M, F56_32 F L 0 (L.length : Int) = some M ∧ M.Perm L ∧ M.Pairwise (fun a b => b ≤ a) := by
    unfold F56_32
    obtain ⟨M, hM, hP, hS⟩ := ins_outer ord_gt (step := F56_32_l0 F 0) (step1 := F56_32_l1 F 0 (L.length : Int)) L.length F L rfl (by
      intro q D hD0 hq
      have hD := hD0.length_eq
      have hx := hb _ (hD0.mem_iff.1 (nx_mem (d := (0 : Int)) (show q + 1 < D.length by omega)))
      have hy := hb _ (hD0.mem_iff.1 (nx_mem (d := (0 : Int)) (show q < D.length by omega)))
      unfold F56_32_l0 F32
      simp only
      rw [if_pos (decide_eq_true (by omega)), nx_get (d := 0) (by omega), Option.bind_some, wpred (by omega) (by omega), show q + 1 - 1 = q from rfl, nx_get (d := 0) (by omega), Option.bind_some, Option.bind_some, Option.bind_some, w64 (a := nx 0 D q - nx 0 D (q + 1)) (by omega) (by omega)]
      by_cases hlt : nx 0 D q < nx 0 D (q + 1)
      · rw [if_pos (decide_eq_true (by omega)), if_pos (decide_eq_true hlt), Option.bind_some, Option.bind_some, ck_ok (by omega), Option.bind_some, ck_ok (by rw [List.length_set]; omega), Option.bind_some]
        rfl
      · rw [if_neg (by rw [decide_eq_true_eq]; omega), if_neg (mt of_decide_eq_true hlt)]) (by
      intro D hD
      unfold F56_32_l0
      simp only
      rw [if_neg (by simp), Option.bind_some, if_neg (by simp)]) (by
      intro i D M hi h
      unfold F56_32_l1
      simp only
      rw [if_pos (decide_eq_true (by omega)), h, Option.bind_some, wsuc (by omega)]) (by
      intro i D hi
      unfold F56_32_l1
      simp only
      rw [if_neg (by rw [decide_eq_true_eq]; omega)]) (by omega)
    rw [show wrapA .i64 (0 + 1) = (1 : Int) from rfl, hM]
    exact ⟨M, rfl, hP, hS.imp fun h => by simpa using h⟩
  unfold F31_32
  have hbl := bitsLen_ok
  simp only [List.all_eq_true, List.mem_range] at hbl
  obtain ⟨x, hx⟩ := Option.isSome_iff_exists.1 (hbl L.length (by omega))
  obtain ⟨M, hM, hM2⟩ := hins
  obtain ⟨G, rfl⟩ : ∃ q, F = q + 1 := ⟨F - 1, by omega⟩
  rw [bitsLen_F, hx, Option.bind_some]
  unfold F48_32
  rw [iter_stop (b := M)]
  · exact ⟨M, rfl, hM2⟩
  · unfold F48_32_l0
    simp only
    rw [if_pos (decide_eq_true (by rw [w64 (by omega) (by omega)]; omega)), hM, Option.bind_some]

theorem permE_good {p : List Int} (h : GoodP p) (hl : p.length ≤ 10) : permE p = 0 := by
  unfold permE; rw [if_neg (by omega), if_pos h]
theorem good_permE {p : List Int} (h : permE p = 0) : GoodP p ∧ p.length ≤ 10 := by
  unfold permE at h
  split at h
  · cases h
  · split at h
    · rename_i h1 h2; exact ⟨h2, by omega⟩
    · cases h
/-- A permutation as a function on numbers. -/
def pf (p : List Int) (i : Nat) : Nat := (nx 0 p i).toNat
theorem pf_spec {p : List Int} (h : GoodP p) {i : Nat} (hi : i < p.length) : nx 0 p i = (pf p i : Int) ∧ pf p i < p.length := by
  have := h.2 _ (nx_mem (d := (0 : Int)) hi)
  unfold pf
  omega
theorem pf_inj {p : List Int} (h : GoodP p) {i j : Nat} (hi : i < p.length) (hj : j < p.length) (e : pf p i = pf p j) : i = j := by
  have h1 := (pf_spec h hi).1
  have h2 := (pf_spec h hj).1
  have h3 : nx 0 p i = nx 0 p j := by rw [h1, h2, e]
  rw [nx_eq hi, nx_eq hj] at h3
  exact (List.getElem_inj h.1).1 h3
theorem pf_surj {p : List Int} (h : GoodP p) {v : Nat} (hv : v < p.length) : ∃ i, i < p.length ∧ pf p i = v := by
  obtain ⟨i, hi, e⟩ := nx_of (d := (0 : Int)) (mem_of_good h v hv)
  exact ⟨i, hi, by unfold pf; rw [e]; rfl⟩
theorem at_pf {p : List Int} (h : GoodP p) {i : Nat} (hi : i < p.length) : at? p (i : Int) = some (pf p i : Int) := by
  rw [nx_get (d := 0) hi, (pf_spec h hi).1]

/-! ### After -/
theorem after_eq (F : Nat) (p q : List Int) (hF : 20 ≤ F) (hp : GoodP p) (hl : p.length ≤ 10) (hq : ∀ x ∈ q, 0 ≤ x ∧ x < p.length) (hql : q.length ≤ 10) : F24 F p q = some (tb q.length fun i => (pf p (pf q i) : Int)) := by
  unfold F24
  have := iter_count (step := F24_l0 F p q) (F := F) (fun i => (tb i fun i => (pf p (pf q i) : Int), (i : Int))) (b := tb q.length fun i => (pf p (pf q i) : Int)) q.length ?_ ?_ (by omega)
  · rw [show (([] : List Int), (0 : Int)) = (tb 0 fun i => (pf p (pf q i) : Int), ((0 : Nat) : Int)) from rfl, this, Option.bind_some]
  · intro i hi
    unfold F24_l0
    simp only
    have h1 := hq _ (nx_mem (d := (0 : Int)) hi)
    have h2 : nx 0 q i = (pf q i : Int) := by unfold pf; omega
    rw [if_pos (decide_eq_true (by omega)), nx_get (d := 0) hi, Option.bind_some, h2, at_pf hp (by omega), Option.bind_some, app?_ok (by rw [tb_len]; simp; omega), Option.bind_some, wsuc (by omega), tb_succ]
  · unfold F24_l0
    simp only
    rw [if_neg (by simp)]
theorem times_eq (F : Nat) (p q : List Int) (hF : 40 ≤ F) (hp : permE p = 0) (hq : permE q = 0) (hl : p.length = q.length) : F15 F p q = some (tb q.length fun i => (pf p (pf q i) : Int), 0) := by
  obtain ⟨gp, lp⟩ := good_permE hp
  obtain ⟨gq, lq⟩ := good_permE hq
  unfold F15
  rw [check_eq F p (by omega), hp, Option.bind_some, if_neg (by decide), check_eq F q (by omega), hq, Option.bind_some, if_neg (by decide), if_neg (by simp; omega), mk?_ok (by omega), Option.bind_some, tb_rep]
  have := iter_count (step := F15_l0 F p q) (F := F) (fun i => ((i : Int), tb p.length fun k => if k < i then (pf p (pf q k) : Int) else 0)) (b := tb q.length fun i => (pf p (pf q i) : Int)) q.length ?_ ?_ (by omega)
  · rw [show ((0 : Int), tb p.length fun _ => (0 : Int)) = (((0 : Nat) : Int), tb p.length fun k => if k < 0 then (pf p (pf q k) : Int) else 0) from by simp, this, Option.bind_some]
  · intro i hi
    unfold F15_l0
    simp only
    have h1 := pf_spec gq hi
    rw [if_pos (decide_eq_true (by omega)), at_pf gq hi, Option.bind_some, at_pf gp (by omega), Option.bind_some, tb_ck (by omega), Option.bind_some, Int.toNat_natCast, tb_set, wsuc (by omega)]
    congr 3
    refine tb_congr fun k hk => ?_
    by_cases e : k = i
    · subst e; rw [if_pos rfl, if_pos (by omega)]
    · rw [if_neg e]
      by_cases e2 : k < i
      · rw [if_pos e2, if_pos (by omega)]
      · rw [if_neg e2, if_neg (by omega)]
  · unfold F15_l0
    simp only
    rw [if_neg (by simp), hl]
    congr 2
    exact tb_congr fun k hk => if_pos hk

end Go.Proofs.Ytaphdnpjpmnaeaa

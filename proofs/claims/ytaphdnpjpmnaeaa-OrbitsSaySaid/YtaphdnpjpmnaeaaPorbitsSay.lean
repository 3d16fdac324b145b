/- The law of package orbits, in plain words. -/
import Derived.Test.YtaphdnpjpmnaeaaOrbC
import Derived.Test.YtaphdnpjpmnaeaaMono
set_option linter.unusedVariables false
set_option linter.unusedSimpArgs false
namespace Go.Proofs.Ytaphdnpjpmnaeaa.orb
open Go.Am

theorem bne_dec (a b : Int) : (a != b) = decide (a ≠ b) := by by_cases h : a = b <;> simp [h]
noncomputable def badP (n : Int) (p : List Int) : Bool := decide (permE p ≠ 0) || decide ((p.length : Int) ≠ n)
noncomputable def orbE (n : Int) (l : List (List Int)) : Int := if n < 0 ∨ n > 6 then 1 else if l.length > 6 then 2 else if l.any (badP n) then 3 else 0
theorem orbCheck_eq (F : Nat) (hF : 100 ≤ F) (n : Int) (l : List (List Int)) : F8 F n l = some (orbE n l) := by
  unfold F8 orbE
  by_cases h : n < 0 ∨ n > 6
  · rw [if_pos (by simpa using h), if_pos h]
  rw [if_neg (by simpa using h), if_neg h]
  by_cases h2 : l.length > 6
  · rw [if_pos (decide_eq_true (by omega)), if_pos h2]
  rw [if_neg (by rw [decide_eq_true_eq]; omega), if_neg h2]
  have := any_loop (step := F8_l0 F n l) (F := F) l (badP n) 3 (fun i hi => ?_) ?_ (by omega)
  · rw [this, Option.bind_some]
    by_cases q : l.any (badP n) = true
    · rw [if_pos q, if_pos q]
    · rw [if_neg q, if_neg q]
  · unfold F8_l0
    rw [if_pos (decide_eq_true (by omega)), at?_in hi, Option.bind_some, check_eq F _ (by omega), Option.bind_some]
    have e : ((permE l[i] != 0) || ((l[i].length : Int) != n)) = badP n l[i] := by
      unfold badP
      rw [bne_dec, bne_dec]
    rw [e]
    by_cases q : badP n l[i] = true
    · rw [if_pos q, if_pos q]
    · rw [if_neg q, if_neg q, wsuc (by omega)]
  · unfold F8_l0
    rw [if_neg (by simp)]
theorem orbErr_eq (F : Nat) (hF : 100 ≤ F) (n : Int) (l : List (List Int)) : F7 F n l = some (orbE n l) := by
  unfold F7 orbE
  by_cases h : n < 0 ∨ n > 6
  · rw [if_pos (by simpa using h), if_pos h]
  rw [if_neg (by simpa using h), if_neg h]
  by_cases h2 : l.length > 6
  · rw [if_pos (decide_eq_true (by omega)), if_pos h2]
  rw [if_neg (by rw [decide_eq_true_eq]; omega), if_neg h2]
  have hbad : ∀ p : List Int, F21 F p n = some (badP n p) := by
    intro p
    unfold F21 badP
    by_cases q : (p.length : Int) = n
    · rw [if_neg (by simp [q]), permErr_eq F p (by omega), Option.bind_some, Option.bind_some]
      simp [q, bne_dec]
    · rw [if_pos (by simp [q])]
      simp [q]
  have hfind : F20_21 F l n = some (l.any (badP n)) := by
    unfold F20_21 F33_21
    rcases find_loop (step := F33_21_l0 F l n) (F := F) l (badP n) (fun i _ => (i : Int)) (fun i hi => by
      unfold F33_21_l0
      rw [if_pos (decide_eq_true (by omega)), at?_in hi, Option.bind_some, hbad, Option.bind_some]
      by_cases q : badP n l[i] = true
      · rw [if_pos q, if_pos q]
      · rw [if_neg q, if_neg q, wsuc (by omega)]) (by
      unfold F33_21_l0
      rw [if_neg (by simp)]) (by omega) with ⟨h1, h2⟩ | ⟨i, hi, h1, _, h2⟩
    · rw [h2, Option.bind_some, Option.bind_some, any_none h1]; rfl
    · rw [h2, Option.bind_some, Option.bind_some, any_of_first hi h1, decide_eq_true (by omega)]
  rw [hfind, Option.bind_some]
  split <;> rfl
theorem orbE_zero {n : Int} {l : List (List Int)} (h : orbE n l = 0) : ∃ k : Nat, n = k ∧ k ≤ 6 ∧ l.length ≤ 6 ∧ ∀ p ∈ l, Od k p := by
  unfold orbE at h
  split at h
  · cases h
  · rename_i h1
    split at h
    · cases h
    · rename_i h2
      split at h
      · cases h
      · rename_i h3
        refine ⟨n.toNat, by omega, by omega, by omega, fun p hp => ?_⟩
        have := List.any_eq_false.1 (by simpa using h3) p hp
        unfold badP at this
        simp only [ne_eq, decide_not, Bool.or_eq_true, Bool.not_eq_true', decide_eq_false_iff_not, not_or, Decidable.not_not] at this
        exact ⟨(good_permE this.1).1, by omega⟩

/-! ### Colours -/
section
variable {n : Nat} {M : List (List Int)}
theorem col_in (F : Nat) (hF : 100 ≤ F) (k : Int) (c : List Int) (hc : c.length ≤ 20) : ∃ x, iter (F11_l0 F k c) F (1, 0) = some x := by
  obtain ⟨x, hx, _⟩ := iter_inv (step := F11_l0 F k c) (I := fun s => ∃ i : Nat, s.2 = i ∧ i ≤ c.length) (μ := fun s => c.length - s.2.toNat) (Q := fun _ => True) (by
    rintro ⟨a, _⟩ ⟨i, rfl, hi⟩
    unfold F11_l0
    simp only
    by_cases hlt : i < c.length
    · left
      rw [if_pos (decide_eq_true (by omega)), wsuc (by omega)]
      exact ⟨_, rfl, ⟨i + 1, rfl, by omega⟩, by simp only; omega⟩
    · right
      rw [if_neg (by rw [decide_eq_true_eq]; omega)]
      exact ⟨_, rfl, trivial⟩) F (1, 0) ⟨0, rfl, by omega⟩ (by simp only; omega)
  exact ⟨x, hx⟩
theorem col_eq (F : Nat) (hF : 1000000 ≤ F) (hn : n ≤ 6) (hM : ∀ p ∈ M, Od n p) (hl : M.length ≤ 46656) (k : Int) : ∃ b, iter (F5_l1 F k (M, 0)) F (0, 0) = some b ∧ iter (F11_l1 F M k) F (0, 0) = some b := by
  have hstep : ∀ (a : Int) (i : Nat) (hi : i < M.length), ∃ x : Int, F5_l1 F k (M, 0) (a, (i : Int)) = some (.more (x, ((i + 1 : Nat) : Int))) ∧ F11_l1 F M k (a, (i : Int)) = some (.more (x, ((i + 1 : Nat) : Int))) := by
    intro a i hi
    have ho := hM _ (List.getElem_mem hi)
    obtain ⟨c, c1, c2, c3⟩ := cycles_eq F M[i] (by omega) (od_perm hn ho)
    have hcl : c.length ≤ 10 := by
      rw [c3.length_eq, toI_len]
      have := clens_len (f := pf M[i]) (n := M[i].length) M[i].length
      have := ho.ln
      omega
    obtain ⟨x, hx⟩ := col_in F (by omega) k c (by omega)
    have hx2 : iter (F5_l0 F k (c, 0)) F (1, 0) = some x := hx
    refine ⟨wrapA .i64 (a + x), ?_, ?_⟩
    · unfold F5_l1
      simp only
      rw [if_pos (decide_eq_true (by omega)), at?_in hi, Option.bind_some, c1, Option.bind_some, hx2, Option.bind_some, wsuc (by omega)]
    · unfold F11_l1
      simp only
      rw [if_pos (decide_eq_true (by omega)), at?_in hi, Option.bind_some, c2, Option.bind_some, hx, Option.bind_some, wsuc (by omega)]
  have heq := iter_congr (step := F5_l1 F k (M, 0)) (step' := F11_l1 F M k) (fun s => ∃ i : Nat, s.2 = i ∧ i ≤ M.length) (by
    rintro ⟨a, _⟩ ⟨i, rfl, hi⟩
    by_cases hlt : i < M.length
    · obtain ⟨x, h1, h2⟩ := hstep a i hlt
      rw [h1, h2]
    · unfold F5_l1 F11_l1
      simp only
      rw [if_neg (by rw [decide_eq_true_eq]; omega), if_neg (by rw [decide_eq_true_eq]; omega)]) (by
    rintro ⟨a, _⟩ s' ⟨i, rfl, hi⟩ h
    by_cases hlt : i < M.length
    · obtain ⟨x, h1, h2⟩ := hstep a i hlt
      rw [h1] at h
      cases h
      exact ⟨i + 1, rfl, by omega⟩
    · unfold F5_l1 at h
      simp only at h
      rw [if_neg (by rw [decide_eq_true_eq]; omega)] at h
      cases h) F (0, 0) ⟨0, rfl, by omega⟩
  obtain ⟨b, hb, _⟩ := iter_inv (step := F11_l1 F M k) (I := fun s => ∃ i : Nat, s.2 = i ∧ i ≤ M.length) (μ := fun s => M.length - s.2.toNat) (Q := fun _ => True) (by
    rintro ⟨a, _⟩ ⟨i, rfl, hi⟩
    by_cases hlt : i < M.length
    · left
      obtain ⟨x, h1, h2⟩ := hstep a i hlt
      exact ⟨_, h2, ⟨i + 1, rfl, by omega⟩, by simp only; omega⟩
    · right
      unfold F11_l1
      simp only
      rw [if_neg (by rw [decide_eq_true_eq]; omega)]
      exact ⟨_, rfl, trivial⟩) F (0, 0) ⟨0, rfl, by omega⟩ (by simp only; omega)
  exact ⟨b, by rw [heq, hb], hb⟩

/-! ### Least -/
theorem moved_eq (F : Nat) (hF : 1000 ≤ F) (hn : n ≤ 6) {p row : List Int} (hp : Od n p) (hr : row.length = n) : ∃ M, iter (F27_l0 F p row) F (0, List.replicate n 0) = some M ∧ M.length = n := by
  obtain ⟨M, hM, hQ⟩ := iter_inv (step := F27_l0 F p row) (I := fun s => ∃ i : Nat, s.1 = i ∧ i ≤ n ∧ s.2.length = n) (μ := fun s => n - s.1.toNat) (Q := fun M => M.length = n) (by
    rintro ⟨_, D⟩ ⟨i, rfl, hi, hD⟩
    unfold F27_l0
    simp only at hD ⊢
    have hln := hp.ln
    by_cases hlt : i < n
    · left
      obtain ⟨h1, h2⟩ := hp.pf hlt
      rw [if_pos (decide_eq_true (by omega)), nx_get (d := 0) (by omega), Option.bind_some, h1, nx_get (d := 0) (by omega), Option.bind_some, ck_ok (by omega), Option.bind_some, wsuc (by omega)]
      exact ⟨_, rfl, ⟨i + 1, rfl, by omega, by simp only [List.length_set]; exact hD⟩, by simp only; omega⟩
    · right
      rw [if_neg (by rw [decide_eq_true_eq]; omega)]
      exact ⟨_, rfl, hD⟩) F (0, List.replicate n 0) ⟨0, rfl, by omega, by simp⟩ (by simp only; omega)
  exact ⟨M, hM, hQ⟩
theorem least_eq (F : Nat) (hF : 1000000 ≤ F) (hn : n ≤ 6) (hM : ∀ p ∈ M, Od n p) (hl : M.length ≤ 46656) {row : List Int} (hr : row.length = n) :
    ∃ b, iter (F6_l1 F (n : Int) row (M, 0)) F (row, 0) = some b ∧ iter (F13_l0 F M row) F (row, 0) = some b ∧ b.length = n := by
  have hstep : ∀ (best : List Int) (i : Nat) (hi : i < M.length), best.length = n → ∃ b : List Int, b.length = n ∧ F6_l1 F (n : Int) row (M, 0) (best, (i : Int)) = some (.more (b, ((i + 1 : Nat) : Int))) ∧ F13_l0 F M row (best, (i : Int)) = some (.more (b, ((i + 1 : Nat) : Int))) := by
    intro best i hi hb
    have ho := hM _ (List.getElem_mem hi)
    obtain ⟨D, hD, hDl⟩ := moved_eq F (by omega) hn ho hr
    have hD2 : iter (F6_l0 F row M[i]) F (0, List.replicate n 0) = some D := hD
    have hmv : F27 F M[i] row = some D := by
      unfold F27
      rw [mk?_ok (by omega), hr, Option.bind_some, hD, Option.bind_some]
    have hcv := compare_eq F D best (by omega) (by omega)
    by_cases q : cvR D best < 0
    · refine ⟨D, hDl, ?_, ?_⟩
      · unfold F6_l1
        simp only
        rw [if_pos (decide_eq_true (by omega)), at?_in hi, Option.bind_some, mk?_ok (by omega), Option.bind_some, hD2, Option.bind_some, hcv, Option.bind_some, if_pos (decide_eq_true q), wsuc (by omega)]
      · unfold F13_l0
        simp only
        rw [if_pos (decide_eq_true (by omega)), at?_in hi, Option.bind_some, hmv, Option.bind_some, hcv, Option.bind_some, if_pos (decide_eq_true q), wsuc (by omega)]
    · refine ⟨best, hb, ?_, ?_⟩
      · unfold F6_l1
        simp only
        rw [if_pos (decide_eq_true (by omega)), at?_in hi, Option.bind_some, mk?_ok (by omega), Option.bind_some, hD2, Option.bind_some, hcv, Option.bind_some, if_neg (mt of_decide_eq_true q), wsuc (by omega)]
      · unfold F13_l0
        simp only
        rw [if_pos (decide_eq_true (by omega)), at?_in hi, Option.bind_some, hmv, Option.bind_some, hcv, Option.bind_some, if_neg (mt of_decide_eq_true q), wsuc (by omega)]
  have heq := iter_congr (step := F6_l1 F (n : Int) row (M, 0)) (step' := F13_l0 F M row) (fun s => ∃ i : Nat, s.2 = i ∧ i ≤ M.length ∧ s.1.length = n) (by
    rintro ⟨a, _⟩ ⟨i, rfl, hi, ha⟩
    by_cases hlt : i < M.length
    · obtain ⟨x, _, h1, h2⟩ := hstep a i hlt ha
      rw [h1, h2]
    · unfold F6_l1 F13_l0
      simp only
      rw [if_neg (by rw [decide_eq_true_eq]; omega), if_neg (by rw [decide_eq_true_eq]; omega)]) (by
    rintro ⟨a, _⟩ s' ⟨i, rfl, hi, ha⟩ h
    by_cases hlt : i < M.length
    · obtain ⟨x, h0, h1, h2⟩ := hstep a i hlt ha
      rw [h1] at h
      cases h
      exact ⟨i + 1, rfl, by omega, h0⟩
    · unfold F6_l1 at h
      simp only at h
      rw [if_neg (by rw [decide_eq_true_eq]; omega)] at h
      cases h) F (row, 0) ⟨0, rfl, by omega, hr⟩
  obtain ⟨b, hb, hQ⟩ := iter_inv (step := F13_l0 F M row) (I := fun s => ∃ i : Nat, s.2 = i ∧ i ≤ M.length ∧ s.1.length = n) (μ := fun s => M.length - s.2.toNat) (Q := fun b => b.length = n) (by
    rintro ⟨a, _⟩ ⟨i, rfl, hi, ha⟩
    by_cases hlt : i < M.length
    · left
      obtain ⟨x, h0, h1, h2⟩ := hstep a i hlt ha
      exact ⟨_, h2, ⟨i + 1, rfl, by omega, h0⟩, by simp only; omega⟩
    · right
      unfold F13_l0
      simp only
      rw [if_neg (by rw [decide_eq_true_eq]; omega)]
      exact ⟨_, rfl, ha⟩) F (row, 0) ⟨0, rfl, by omega, hr⟩ (by simp only; omega)
  exact ⟨b, by rw [heq, hb], hb, hQ⟩
end
end Go.Proofs.Ytaphdnpjpmnaeaa.orb
namespace Go.Proofs.Ytaphdnpjpmnaeaa
open Go.Am Go.Proofs.Ytaphdnpjpmnaeaa.orb
theorem PorbitsSay.holds (t0 : Int) (t1 : List (List (Int))) (t2 : Int) (t3 : List (Int)) (h0 : inR .i64 t0) (h1 : (t1.length ≤ maxLen ∧ ∀ a ∈ t1, (a.length ≤ maxLen ∧ ∀ b ∈ a, inR .i64 b))) (h2 : inR .i64 t2) (h3 : (t3.length ≤ maxLen ∧ ∀ a ∈ t3, inR .i64 a)) : ∃ F, F3 F t0 t1 t2 t3 = some true := by
  refine ⟨2000000, ?_⟩
  have hF : 1000000 ≤ 2000000 := by decide
  generalize 2000000 = F at hF
  unfold F3
  have hck := orbCheck_eq F (by omega) t0 t1
  have hre := orbErr_eq F (by omega) t0 t1
  by_cases hz : orbE t0 t1 = 0
  · obtain ⟨n, rfl, hn, hll, hl⟩ := orbE_zero hz
    rw [hz] at hck hre
    obtain ⟨M, m1, m2, m3⟩ := group_eq F hF hn hl hll hck
    obtain ⟨M', g1, g2, g3⟩ := refGroup_eq F hF hn hl hll
    have e : M' = M := st_uniq g2 m2 fun x => by rw [g3, m3]
    subst e
    have hod : ∀ p ∈ M', Od n p := fun p hp => ((g3 p).1 hp).od hl
    have hfew := few hn (st_nodup g2) hod
    have hid : idP n ∈ M' := (g3 _).2 .one
    have hpos := List.length_pos_of_mem hid
    have hloop : iter (F3_l0 F (M', 0) M') F 0 = some (.inl ()) := by
      have := iter_count (step := F3_l0 F (M', 0) M') (F := F) (fun i => (i : Int)) (b := .inl ()) M'.length ?_ ?_ (by omega)
      · exact this
      · intro i hi
        have hlen := (hod _ (List.getElem_mem hi)).ln
        unfold F3_l0
        simp only
        rw [if_pos (decide_eq_true (by omega)), at?_in hi, Option.bind_some, Option.bind_some, equal_eq F _ _ (by omega) (by omega), Option.bind_some, if_neg (by simp), wsuc (by omega)]
      · unfold F3_l0
        simp only
        rw [if_neg (by simp)]
    have hcol : ∃ c, F5 F (n : Int) t1 t2 = some c ∧ ((t2 < 0 ∨ t2 > 10) → c = (0, 1)) ∧ (¬ (t2 < 0 ∨ t2 > 10) → c.2 = 0 ∧ F11 F M' t2 = some c.1) := by
      unfold F5
      rw [m1, Option.bind_some, if_neg (by simp)]
      by_cases q : t2 < 0 ∨ t2 > 10
      · rw [if_pos (by simpa using q)]
        exact ⟨_, rfl, fun _ => rfl, fun h => absurd q h⟩
      · rw [if_neg (by simpa using q)]
        obtain ⟨b, b1, b2⟩ := col_eq F hF hn hod hfew t2
        have hq : quo? .i64 b (M'.length : Int) = some (wrapA .i64 (b.tdiv (M'.length : Int))) := by unfold quo?; rw [if_neg (by omega)]
        rw [b1, Option.bind_some, hq, Option.bind_some]
        refine ⟨_, rfl, fun h => absurd h q, fun _ => ⟨rfl, ?_⟩⟩
        unfold F11
        rw [b2, Option.bind_some, hq, Option.bind_some]
    obtain ⟨c, c1, c2, c3⟩ := hcol
    have hlea : ∃ d, F6 F (n : Int) t1 t3 = some d ∧ ((t3.length : Int) ≠ n → d = ([], 3)) ∧ ((t3.length : Int) = n → d.2 = 0 ∧ d.1.length = n ∧ F13 F M' t3 = some d.1) := by
      unfold F6
      rw [m1, Option.bind_some, if_neg (by simp)]
      by_cases q : (t3.length : Int) = n
      · rw [if_neg (by simp [q])]
        have hq : t3.length = n := by omega
        have hcl : F19 F t3 = some t3 := by unfold F19; rw [if_pos (by omega)]
        obtain ⟨b, b1, b2, b3⟩ := least_eq F hF hn hod hfew hq
        rw [hcl, Option.bind_some, b1, Option.bind_some]
        refine ⟨_, rfl, fun h => absurd q h, fun _ => ⟨rfl, b3, ?_⟩⟩
        unfold F13
        rw [hcl, Option.bind_some, b2, Option.bind_some]
      · rw [if_pos (by simp [q])]
        exact ⟨_, rfl, fun _ => rfl, fun h => absurd h q⟩
    obtain ⟨d, d1, d2, d3⟩ := hlea
    rw [m1, Option.bind_some, c1, Option.bind_some, d1, Option.bind_some, hre, Option.bind_some, hck, Option.bind_some, if_neg (by decide), if_neg (by decide), g1, Option.bind_some, if_neg (by simp), hloop, Option.bind_some]
    have hend : (if ((t3.length : Int) != (n : Int)) then (some (((d.2 == 3) && ((d.1.length : Int) == 0)))) else
        (if (d.2 == 0) then ((F13 F M' t3).bind fun r91 => (F12 F d.1 r91).bind fun r97 => some r97) else some false).bind fun y102 => some y102) = some true := by
      by_cases q : (t3.length : Int) = n
      · obtain ⟨q1, q2, q3⟩ := d3 q
        rw [if_neg (by simp [q]), if_pos (by simp [q1]), q3, Option.bind_some, alike_eq F _ _ (by omega) (by omega), Option.bind_some, Option.bind_some]
        simp
      · rw [if_pos (by simp [q]), d2 q]; rfl
    by_cases q : t2 < 0 ∨ t2 > 10
    · rw [c2 q]
      simp only
      rw [if_pos (by simpa using q), if_neg (by decide), Option.bind_some]
      exact hend
    · obtain ⟨q1, q2⟩ := c3 q
      simp only
      rw [if_neg (by simpa using q), if_neg (by simp [q1]), q2, Option.bind_some, Option.bind_some, if_neg (by simp), Option.bind_some]
      exact hend
  · have hne : (orbE t0 t1 != 0) = true := by simpa using hz
    have hg : F4 F t0 t1 = some ([], orbE t0 t1) := by
      unfold F4
      rw [hck, Option.bind_some, if_pos hne]
    have hc : F5 F t0 t1 t2 = some (0, orbE t0 t1) := by
      unfold F5
      rw [hg, Option.bind_some, if_pos hne]
    have hle : F6 F t0 t1 t3 = some ([], orbE t0 t1) := by
      unfold F6
      rw [hg, Option.bind_some, if_pos hne]
    rw [hg, Option.bind_some, hc, Option.bind_some, hle, Option.bind_some, hre, Option.bind_some, hck, Option.bind_some, if_neg (by simp), if_pos hne]
    simp only [beq_self_eq_true, Bool.true_and, List.length_nil, Bool.and_true]
    rfl
end Go.Proofs.Ytaphdnpjpmnaeaa

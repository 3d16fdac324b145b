/- Package perm: the cycles. -/
import Derived.Test.YtaphdnpjpmnaeaaPermA
import Derived.Test.YtaphdnpjpmnaeaaOrbitLib
set_option linter.unusedVariables false
set_option linter.unusedSimpArgs false
namespace Go.Proofs.Ytaphdnpjpmnaeaa
open Go.Am

theorem pf_pm {p : List Int} (h : GoodP p) : Pm (pf p) p.length := ⟨fun i hi => (pf_spec h hi).2, fun i j hi hj e => pf_inj h hi hj e⟩
def toI (L : List Nat) : List Int := L.map fun (x : Nat) => (x : Int)
theorem toI_app (L M : List Nat) : toI (L ++ M) = toI L ++ toI M := by simp [toI]
theorem toI_len (L : List Nat) : (toI L).length = L.length := by simp [toI]

/-- castref.CyclesOf, ahead of the sort. -/
theorem refCyc_eq (F : Nat) (p : List Int) (hF : 40 ≤ F) (hg : GoodP p) (hl : p.length ≤ 10) : iter (F26_l1 F p) F ([], 0) = some (toI (clens (pf p) p.length p.length)) := by
  have hpm := pf_pm hg
  have := iter_count (step := F26_l1 F p) (F := F) (fun i => (toI (clens (pf p) p.length i), (i : Int))) (b := toI (clens (pf p) p.length p.length)) p.length ?_ ?_ (by omega)
  · exact this
  · intro i hi
    unfold F26_l1
    simp only
    have hcb := cl_back hpm hi
    have hcp := cl_pos (f := pf p) (n := p.length) i
    have hcl := clens_len (f := pf p) (n := p.length) i
    have hin : iter (F26_l0 F p (toI (clens (pf p) p.length i), (i : Int))) F (1, (i : Int), (pf p i : Int)) = some ((cl (pf p) p.length i : Int), (mnt (pf p) i (cl (pf p) p.length i - 1) : Int)) := by
      have h2 := iter_count (step := F26_l0 F p (toI (clens (pf p) p.length i), (i : Int))) (F := F) (fun t => (((t + 1 : Nat) : Int), (mnt (pf p) i t : Int), (it (pf p) (t + 1) i : Int))) (b := ((cl (pf p) p.length i : Int), (mnt (pf p) i (cl (pf p) p.length i - 1) : Int))) (cl (pf p) p.length i - 1) ?_ ?_ (by omega)
      · exact h2
      · intro t ht
        have hne := cl_least hpm hi (t := t + 1) (by omega) (by omega)
        have hlt := it_lt hpm hi (t + 1)
        unfold F26_l0
        simp only
        have e1 : minI (mnt (pf p) i t : Int) (it (pf p) (t + 1) i : Int) = (mnt (pf p) i (t + 1) : Int) := by
          have e2 : mnt (pf p) i (t + 1) = min (mnt (pf p) i t) (it (pf p) (t + 1) i) := rfl
          rw [e2]
          unfold minI
          split <;> omega
        rw [if_pos (by simp; omega), at_pf hg hlt, Option.bind_some, wsuc (by omega), e1]
        rfl
      · unfold F26_l0
        simp only
        rw [show cl (pf p) p.length i - 1 + 1 = cl (pf p) p.length i from by omega, hcb.1, if_neg (by simp)]
    rw [if_pos (decide_eq_true (by omega)), at_pf hg hi, Option.bind_some, hin, Option.bind_some, wsuc (by omega)]
    by_cases hm : isMin (pf p) p.length i = true
    · rw [if_pos (by simp [(mnt_isMin hpm hi).2 hm]), app?_ok (by rw [toI_len]; simp; omega), Option.bind_some]
      have : clens (pf p) p.length (i + 1) = clens (pf p) p.length i ++ [cl (pf p) p.length i] := by rw [clens, if_pos hm]
      rw [this, toI_app]; rfl
    · have hne : ¬ mnt (pf p) i (cl (pf p) p.length i - 1) = i := fun e => hm ((mnt_isMin hpm hi).1 e)
      have : clens (pf p) p.length (i + 1) = clens (pf p) p.length i := by rw [clens, if_neg hm]
      rw [if_neg (by simp; omega), this]
  · unfold F26_l1
    simp only
    rw [if_neg (by simp)]

open Classical in
/-- What is seen: the cycles of those below i, and the first t of i's. -/
noncomputable def seenL (f : Nat → Nat) (i t : Nat) : List Bool := tb 10 fun k => decide ((∃ j, j < i ∧ On f j k) ∨ ∃ s, s < t ∧ it f s i = k)
open Classical in
theorem cyc_eq (F : Nat) (p : List Int) (hF : 40 ≤ F) (hg : GoodP p) (hl : p.length ≤ 10) : iter (F18_l1 F p) F ([], 0, List.replicate 10 false) = some (toI (clens (pf p) p.length p.length)) := by
  have hpm := pf_pm hg
  have := iter_count (step := F18_l1 F p) (F := F) (fun i => (toI (clens (pf p) p.length i), (i : Int), seenL (pf p) i 0)) (b := toI (clens (pf p) p.length p.length)) p.length ?_ ?_ (by omega)
  · rw [← this]
    have e : List.replicate 10 false = seenL (pf p) 0 0 := by
      rw [tb_rep]
      refine tb_congr fun k hk => (decide_eq_false ?_).symm
      intro h
      rcases h with ⟨j, h1, h2⟩ | ⟨s, h1, h2⟩
      · exact absurd h1 (Nat.not_lt_zero _)
      · exact absurd h1 (Nat.not_lt_zero _)
    rw [e]
    rfl
  · intro i hi
    unfold F18_l1
    simp only
    have hcb := cl_back hpm hi
    have hcp := cl_pos (f := pf p) (n := p.length) i
    have hcl := clens_len (f := pf p) (n := p.length) i
    rw [if_pos (decide_eq_true (by omega)), wsuc (by omega)]
    by_cases hm : isMin (pf p) p.length i = true
    · have hmin := (isMin_iff hpm hi).1 hm
      have hin : iter (F18_l0 F p) F (0, (i : Int), seenL (pf p) i 0) = some ((cl (pf p) p.length i : Int), seenL (pf p) i (cl (pf p) p.length i)) := by
        have h2 := iter_count (step := F18_l0 F p) (F := F) (fun t => ((t : Int), (it (pf p) t i : Int), seenL (pf p) i t)) (b := ((cl (pf p) p.length i : Int), seenL (pf p) i (cl (pf p) p.length i))) (cl (pf p) p.length i) ?_ ?_ (by omega)
        · exact h2
        · intro t ht
          have hlt := it_lt hpm hi t
          unfold F18_l0
          simp only
          have hun : ¬ ((∃ j, j < i ∧ On (pf p) j (it (pf p) t i)) ∨ ∃ s, s < t ∧ it (pf p) s i = it (pf p) t i) := by
            rintro (⟨j, h1, h2⟩ | ⟨s, h1, h2⟩)
            · have h3 : On (pf p) i j := (show On (pf p) i (it (pf p) t i) from ⟨t, rfl⟩).trans (On.symm hpm (by omega) h2)
              have := hmin j h3
              omega
            · have h3 : it (pf p) s i = it (pf p) s (it (pf p) (t - s) i) := by
                rw [← it_add, show s + (t - s) = t from by omega]; exact h2
              have h4 := it_inj hpm hi (it_lt hpm hi _) s h3
              exact cl_least hpm hi (t := t - s) (by omega) (by omega) h4.symm
          have hat : at? (seenL (pf p) i t) (it (pf p) t i : Int) = some false := by
            unfold seenL
            rw [tb_get (by omega)]
            congr 1
            simpa using hun
          rw [hat, Option.bind_some, if_pos (by decide), show ck (seenL (pf p) i t) (it (pf p) t i : Int) = some () from tb_ck (by omega), Option.bind_some, at_pf hg hlt, Option.bind_some, Int.toNat_natCast, wsuc (by omega)]
          congr 4
          unfold seenL
          rw [tb_set]
          refine tb_congr fun k hk => ?_
          by_cases e : k = it (pf p) t i
          · rw [if_pos e]
            symm
            rw [decide_eq_true_eq]
            exact .inr ⟨t, by omega, e.symm⟩
          · rw [if_neg e]
            apply decide_eq_decide.2
            constructor
            · rintro (h | ⟨s, h1, h2⟩)
              · exact .inl h
              · exact .inr ⟨s, by omega, h2⟩
            · rintro (h | ⟨s, h1, h2⟩)
              · exact .inl h
              · refine .inr ⟨s, ?_, h2⟩
                rcases Nat.lt_or_ge s t with h3 | h3
                · exact h3
                · exfalso; apply e; rw [← h2, show s = t from by omega]
        · unfold F18_l0
          simp only
          have hat : at? (seenL (pf p) i (cl (pf p) p.length i)) (it (pf p) (cl (pf p) p.length i) i : Int) = some true := by
            rw [hcb.1]
            unfold seenL
            rw [tb_get (by omega)]
            congr 1
            rw [decide_eq_true_eq]
            exact .inr ⟨0, by omega, rfl⟩
          rw [hat, Option.bind_some, if_neg (by decide)]
      have hs : seenL (pf p) i (cl (pf p) p.length i) = seenL (pf p) (i + 1) 0 := by
        unfold seenL
        refine tb_congr fun k hk => decide_eq_decide.2 ?_
        constructor
        · rintro (⟨j, h1, h2⟩ | ⟨s, h1, h2⟩)
          · exact .inl ⟨j, by omega, h2⟩
          · exact .inl ⟨i, by omega, s, h2⟩
        · rintro (⟨j, h1, h2⟩ | ⟨s, h1, h2⟩)
          · by_cases e : j = i
            · subst e
              obtain ⟨t, h3, h4⟩ := On.below hpm hi h2
              exact .inr ⟨t, h3, h4⟩
            · exact .inl ⟨j, by omega, h2⟩
          · omega
      rw [hin, Option.bind_some, if_pos (decide_eq_true (by simp only; omega)), app?_ok (by rw [toI_len]; simp; omega), Option.bind_some]
      have : clens (pf p) p.length (i + 1) = clens (pf p) p.length i ++ [cl (pf p) p.length i] := by rw [clens, if_pos hm]
      rw [this, toI_app, hs]; rfl
    · have hex : ∃ j, j < i ∧ On (pf p) j i := by
        apply Classical.byContradiction
        intro hno
        apply hm
        rw [isMin_iff hpm hi]
        intro j hj
        rcases Nat.lt_or_ge j i with h1 | h1
        · exact absurd ⟨j, h1, On.symm hpm hi hj⟩ hno
        · exact h1
      have hin : iter (F18_l0 F p) F (0, (i : Int), seenL (pf p) i 0) = some (0, seenL (pf p) i 0) := by
        obtain ⟨G, rfl⟩ : ∃ q, F = q + 1 := ⟨F - 1, by omega⟩
        refine iter_stop ?_
        unfold F18_l0
        simp only
        have hat : at? (seenL (pf p) i 0) (i : Int) = some true := by
          unfold seenL
          rw [tb_get (by omega)]
          congr 1
          rw [decide_eq_true_eq]
          exact .inl hex
        rw [hat, Option.bind_some, if_neg (by decide)]
      have hs : seenL (pf p) i 0 = seenL (pf p) (i + 1) 0 := by
        unfold seenL
        refine tb_congr fun k hk => decide_eq_decide.2 ?_
        constructor
        · rintro (⟨j, h1, h2⟩ | ⟨s, h1, h2⟩)
          · exact .inl ⟨j, by omega, h2⟩
          · omega
        · rintro (⟨j, h1, h2⟩ | ⟨s, h1, h2⟩)
          · by_cases e : j = i
            · subst e
              obtain ⟨q, h3, h4⟩ := hex
              exact .inl ⟨q, h3, h4.trans h2⟩
            · exact .inl ⟨j, by omega, h2⟩
          · omega
      have : clens (pf p) p.length (i + 1) = clens (pf p) p.length i := by rw [clens, if_neg hm]
      rw [hin, Option.bind_some, if_neg (by simp), this, ← hs]
  · unfold F18_l1
    simp only
    rw [if_neg (by simp)]
end Go.Proofs.Ytaphdnpjpmnaeaa

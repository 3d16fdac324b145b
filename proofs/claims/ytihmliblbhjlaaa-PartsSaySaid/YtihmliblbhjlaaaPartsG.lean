/- Sums of unlike numbers: two that are the same are one, again and again. -/
import Derived.Test.YtihmliblbhjlaaaPartsF
set_option linter.unusedVariables false
set_option linter.unusedSimpArgs false
namespace Go.Proofs.Ytihmliblbhjlaaa
open Go.Am

/-- A list on the way. -/
structure Dw (l T : List Int) : Prop where
  pos : Pos T
  le : tot T ≤ 40
  s : ∀ d, S d T = S d l
theorem Dw.perm {l T R : List Int} (h : Dw l T) (hp : R.Perm T) : Dw l R :=
  ⟨fun x hx => h.pos x (hp.mem_iff.1 hx), by rw [tot_perm hp]; exact h.le, fun d => by rw [S_perm hp]; exact h.s d⟩
theorem asc_nodup {R : List Int} (h : R.Pairwise fun a b => a ≤ b) (hn : ¬ Adj R) : R.Nodup := by
  rw [List.nodup_iff_pairwise_ne, List.pairwise_iff_getElem]
  rw [List.pairwise_iff_getElem] at h
  intro i j hi hj hij e
  have h1 := h i (i + 1) hi (by omega) (by omega)
  have h2 : R[i + 1] ≤ R[j] := by
    by_cases q : i + 1 = j
    · subst q; exact Int.le_refl _
    · exact h (i + 1) j (by omega) hj (by omega)
  exact hn ⟨i, by omega, by rw [nx_eq hi, nx_eq (by omega : i + 1 < R.length)]; omega⟩
theorem Dw.merge {l R : List Int} (h : Dw l R) {k : Nat} (hk : k + 1 < R.length) (he : nx 0 R k = nx 0 R (k + 1)) : Dw l (((R.set (k + 1) (nx 0 R (k + 1) * 2)).take k) ++ (R.set (k + 1) (nx 0 R (k + 1) * 2)).drop (k + 1)) := by
  have e0 : R = R.take k ++ nx 0 R k :: nx 0 R (k + 1) :: R.drop (k + 2) := by
    rw [nx_eq (by omega : k < R.length), nx_eq hk, List.getElem_cons_drop, List.getElem_cons_drop, List.take_append_drop]
  have e1 : ((R.set (k + 1) (nx 0 R (k + 1) * 2)).take k) ++ (R.set (k + 1) (nx 0 R (k + 1) * 2)).drop (k + 1) = R.take k ++ (nx 0 R (k + 1) * 2) :: R.drop (k + 2) := by
    rw [List.take_set_of_le (by omega), List.drop_set, if_neg (by omega), Nat.sub_self, ← List.getElem_cons_drop (by omega : k + 1 < R.length), List.set_cons_zero]
  rw [e1]
  have hv := h.pos _ (nx_mem (d := 0) hk)
  have ht : tot R = tot (R.take k) + (nx 0 R (k + 1) + (nx 0 R (k + 1) + tot (R.drop (k + 2)))) := by
    conv => lhs; rw [e0]
    rw [tot_app]; simp only [tot]; rw [he]
  have h1 := tot_len (L := R.take k) fun x hx => h.pos x (List.mem_of_mem_take hx)
  have h2 := tot_len (L := R.drop (k + 2)) fun x hx => h.pos x (List.mem_of_mem_drop hx)
  have h3 := h.le
  refine ⟨fun x hx => ?_, by rw [tot_app]; simp only [tot]; omega, fun d => ?_⟩
  · rcases List.mem_append.1 hx with g | g
    · exact h.pos x (List.mem_of_mem_take g)
    · rcases List.mem_cons.1 g with g | g
      · omega
      · exact h.pos x (List.mem_of_mem_drop g)
  · rw [← h.s d]
    conv => rhs; rw [e0]
    rw [S_app, S_app]
    simp only [S]
    rw [he, w_even (x := nx 0 R (k + 1) * 2) (by omega) (by omega) (by omega), show (((nx 0 R (k + 1) * 2).toNat / 2 : Nat) : Int) = nx 0 R (k + 1) from by omega]
    omega
theorem doubled_eq (F : Nat) (l : List Int) (hpos : Pos l) (htot : tot l ≤ 40) (hF : 2000 ≤ F) : ∃ r, F49 F l = some r ∧ (r.Pairwise fun a b => b ≤ a) ∧ r.Nodup ∧ Pos r ∧ ∀ d, S d r = S d l := by
  have hlen := tot_len hpos
  unfold F49
  have hcl : F45 F l = some l := by
    unfold F45
    rw [if_pos (by omega)]
  rw [hcl, Option.bind_some]
  obtain ⟨b, hb, hQ⟩ := iter_inv (step := F49_l1 F) (I := fun T => Dw l T) (μ := fun T => T.length) (Q := fun r => (r.Pairwise fun a b => b ≤ a) ∧ r.Nodup ∧ Pos r ∧ ∀ d, S d r = S d l) (by
    intro T hT
    have hTl := tot_len hT.pos
    have hTt := hT.le
    unfold F49_l1
    obtain ⟨R, r1, r2, r3⟩ := sortO F T (by omega) (by omega)
    have hR := hT.perm r2
    have hRl : R.length = T.length := r2.length_eq
    rw [r1, Option.bind_some]
    obtain ⟨k, hk, hkQ⟩ := iter_inv (step := F49_l0 F R) (I := fun s => ∃ i : Nat, s.2 = (i : Int) ∧ 1 ≤ i ∧ i ≤ max 1 R.length ∧ ((s.1 = -1 ∧ ∀ j, j + 1 < i → nx 0 R j ≠ nx 0 R (j + 1)) ∨ ∃ q : Nat, s.1 = ((q + 1 : Nat) : Int) ∧ q + 1 < R.length ∧ nx 0 R q = nx 0 R (q + 1))) (μ := fun s => R.length - s.2.toNat)
      (Q := fun k => (k = -1 ∧ ¬ Adj R) ∨ ∃ q : Nat, k = ((q + 1 : Nat) : Int) ∧ q + 1 < R.length ∧ nx 0 R q = nx 0 R (q + 1)) (by
        rintro ⟨k, s⟩ ⟨i, h1, h2, h3, h4⟩
        simp only at h1 h4
        subst h1
        unfold F49_l0
        simp only
        by_cases hlt : i < R.length
        · left
          have b1 : 1 ≤ i + 1 := by clear h4; omega
          have b2 : i + 1 ≤ max 1 R.length := by clear h4; omega
          have b3 : R.length - (((i + 1 : Nat) : Int)).toNat < R.length - ((i : Nat) : Int).toNat := by clear h4; omega
          rw [if_pos (decide_eq_true (by omega)), nx_get (d := 0) hlt, Option.bind_some, wpred (by omega) (by omega), nx_get (d := 0) (by omega), Option.bind_some, wsuc (by omega)]
          by_cases e : nx 0 R i = nx 0 R (i - 1)
          · rw [if_pos (by simpa using e)]
            clear h4
            exact ⟨_, rfl, ⟨i + 1, rfl, b1, b2, .inr ⟨i - 1, by simp only; omega, by omega, by rw [show i - 1 + 1 = i from by omega]; exact e.symm⟩⟩, b3⟩
          · rw [if_neg (by simpa using e)]
            refine ⟨_, rfl, ⟨i + 1, rfl, b1, b2, h4.imp (fun ⟨g1, g2⟩ => ⟨g1, fun j hj => ?_⟩) id⟩, b3⟩
            by_cases q : j + 1 = i
            · subst q; simpa [eq_comm] using e
            · exact g2 j (by omega)
        · right
          rw [if_neg (by rw [decide_eq_true_eq]; omega)]
          exact ⟨_, rfl, h4.imp (fun ⟨g1, g2⟩ => ⟨g1, fun ⟨j, j1, j2⟩ => g2 j (by omega) j2⟩) id⟩) F (-1, 1) ⟨1, rfl, by omega, by omega, .inl ⟨rfl, fun j hj => by omega⟩⟩ (by simp only; omega)
    rw [hk, Option.bind_some]
    rcases hkQ with ⟨rfl, hn⟩ | ⟨q, rfl, q1, q2⟩
    · right
      rw [if_pos (by decide), reverse_eq _ _ (by omega) (by omega), Option.bind_some]
      refine ⟨_, rfl, by rw [List.pairwise_reverse]; exact r3, (List.reverse_perm R).nodup_iff.2 (asc_nodup r3 hn), fun x hx => hR.pos x (List.mem_reverse.1 hx), fun d => by rw [S_perm (List.reverse_perm R)]; exact hR.s d⟩
    · left
      have hv := hR.pos _ (nx_mem (d := 0) q1)
      rw [if_neg (by rw [decide_eq_true_eq]; omega), nx_get (d := 0) q1, Option.bind_some, ck_ok q1, Option.bind_some, wpred (by omega) (by omega), w64 (a := nx 0 R (q + 1) * 2) (by omega) (by omega), Int.toNat_natCast]
      unfold F117
      rw [if_pos (by omega)]
      unfold del?
      rw [if_pos (by rw [List.length_set]; omega), Option.bind_some, Int.toNat_natCast, Int.toNat_natCast, Nat.add_sub_cancel]
      refine ⟨_, rfl, hR.merge q1 q2, ?_⟩
      simp only [List.length_append, List.length_take, List.length_drop, List.length_set]
      omega) F l ⟨hpos, htot, fun _ => rfl⟩ (by omega)
  rw [hb, Option.bind_some]
  exact ⟨b, rfl, hQ⟩
end Go.Proofs.Ytihmliblbhjlaaa

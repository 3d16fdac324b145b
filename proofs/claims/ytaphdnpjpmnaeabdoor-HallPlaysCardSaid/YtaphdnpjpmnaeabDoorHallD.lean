/- Halls: lending, and what is struck from a list of loans. -/
import Derived.Test.YtaphdnpjpmnaeabDoorHallC
set_option linter.unusedVariables false
set_option linter.unusedSimpArgs false
namespace Go.Proofs.YtaphdnpjpmnaeabDoor.hal
open Go.Am

theorem lend_both (F q : Nat) {M : List Mb} {L : List Ln} (h : HI q M L) (hq : q ≤ 2940000000000) (hF : 200 ≤ F) (n : Int) (nm to : List UInt8) (hs : nm.length < F) (hs2 : nm.length ≤ 9223372036854775807) : Both F q M L (3, n, nm, to) := by
  have hl := h.len
  have hll := h.ll
  have cM : (if M.length ≤ 4398046511104 then some M else none) = some M := if_pos (by omega)
  have cL : (if L.length ≤ 3518437208883 then some L else none) = some L := if_pos (by omega)
  unfold Both F6 F7 F21 F22
  simp only
  rw [if_neg (by decide), if_neg (by decide), if_neg (by decide), if_neg (by decide), if_pos (by decide), Option.bind_some, if_pos (by decide), named_eq F nm hs hs2, Option.bind_some, cM, Option.bind_some, cL, Option.bind_some, if_neg (by simp : ¬ (decide ((3 : Int) < 1) || decide ((3 : Int) > 7)) = true), lists_eq F M L (by omega) hl, Option.bind_some, if_neg (by decide : ¬ ((3 : Int) == 5 || (3 : Int) == 7) = true), Named_eq F nm (by omega), Option.bind_some]
  by_cases hn : nmd nm = true
  · rw [hn, if_neg (by decide), if_neg (by decide), find_eq F M L nm (by omega) (by omega), at_eq F M L nm (by omega) (by omega)]
    simp only [Option.bind_some, Int.reduceBEq, Bool.false_eq_true, ↓reduceIte]
    by_cases h1 : ixN (nms M) nm < 0
    · rw [if_pos (decide_eq_true h1), if_pos (decide_eq_true h1)]
      exact ⟨_, _, _, _, rfl, rfl, h.up⟩
    · have d1 : ¬ decide (ixN (nms M) nm < 0) = true := by rw [decide_eq_true_eq]; exact h1
      rw [if_neg d1, if_neg d1]
      unfold F19
      simp only
      rw [find_eq F M L to (by omega) (by omega), at_eq F M L to (by omega) (by omega)]
      simp only [Option.bind_some]
      by_cases h2 : ixN (nms M) to < 0
      · rw [if_pos (decide_eq_true h2), if_pos (decide_eq_true h2)]
        exact ⟨_, _, _, _, rfl, rfl, h.up⟩
      · have d2 : ¬ decide (ixN (nms M) to < 0) = true := by rw [decide_eq_true_eq]; exact h2
        rw [if_neg d2, if_neg d2]
        obtain ⟨f, f1, f2, f3⟩ := ixN_at h1
        obtain ⟨t, t1, t2, t3⟩ := ixN_at h2
        rw [f1, t1]
        by_cases h3 : ((t : Int) == (f : Int) || decide (n < 1)) = true
        · rw [if_pos h3, if_pos h3]
          exact ⟨_, _, _, _, rfl, rfl, h.up⟩
        · rw [if_neg h3, if_neg h3]
          simp only [Bool.or_eq_true, beq_iff_eq, decide_eq_true_eq, not_or] at h3
          have hft : f ≠ t := by omega
          have hlt : (tks M).length = M.length := List.length_map _
          have bf := (h.nx f2).1
          have bt := (h.nx t2).1
          rw [tickets_eq F M L (by omega) hl]
          simp only [Option.bind_some]
          rw [lend_eq F (tks M) _ _ n h.tick (by omega)]
          simp only [Option.bind_some]
          rw [nx_get (L := tks M) (d := 0) (by omega : f < (tks M).length), nx_get (L := tks M) (d := 0) (by omega : t < (tks M).length), tks_nx f2, tks_nx t2]
          simp only [Option.bind_some]
          have hE : lendE (tks M) f t n = if n > (nx z0 M f).2.1 then 4 else if (nx z0 M t).2.1 + n > 100 then 9 else 0 := by
            unfold lendE
            rw [if_neg (by omega), Int.toNat_natCast, Int.toNat_natCast, tks_nx f2, tks_nx t2]
            by_cases c1 : n > (nx z0 M f).2.1
            · rw [if_pos c1, if_pos c1]
            · rw [if_neg c1, if_neg c1]
              by_cases c2 : (nx z0 M t).2.1 + n > 100
              · rw [if_pos c2, if_pos ⟨by omega, c2⟩]
              · rw [if_neg c2, if_neg (fun hc => c2 hc.2)]
          rw [hE]
          by_cases c1 : n > (nx z0 M f).2.1
          · rw [if_pos c1, if_pos (decide_eq_true c1)]
            exact ⟨_, _, _, _, rfl, rfl, h.up⟩
          · have e1 : ¬ decide (n > (nx z0 M f).2.1) = true := by rw [decide_eq_true_eq]; exact c1
            rw [if_neg c1, if_neg e1, w64 (a := (nx z0 M t).2.1 + n) (by omega) (by omega)]
            by_cases c2 : (nx z0 M t).2.1 + n > 100
            · rw [if_pos c2, if_pos (decide_eq_true c2)]
              exact ⟨_, _, _, _, rfl, rfl, h.up⟩
            · have e2 : ¬ decide ((nx z0 M t).2.1 + n > 100) = true := by rw [decide_eq_true_eq]; exact c2
              rw [if_neg c2, if_neg e2]
              simp only [bne_self_eq_false, Bool.false_eq_true, ↓reduceIte]
              have lf : nx 0 (lent (tks M) f t n) f = (nx z0 M f).2.1 - n := by
                unfold lent
                rw [Int.toNat_natCast, Int.toNat_natCast, nx_set _ t f _ (by rw [List.length_set]; omega), if_neg (by omega), nx_set _ f f _ (by omega), if_pos rfl, tks_nx f2]
              have lt : nx 0 (lent (tks M) f t n) t = (nx z0 M t).2.1 + n := by
                unfold lent
                rw [Int.toNat_natCast, Int.toNat_natCast, nx_set _ t t _ (by rw [List.length_set]; omega), if_pos rfl, nx_set _ f t _ (by omega), if_neg (by omega), tks_nx t2]
              have ll : (lent (tks M) f t n).length = M.length := by unfold lent; rw [List.length_set, List.length_set, hlt]
              rw [nx_get (L := lent (tks M) f t n) (d := 0) (i := f) (by omega), nx_get (L := lent (tks M) f t n) (d := 0) (i := t) (by omega), lf, lt, nx_get (d := z0) f2]
              simp only [Option.bind_some, Int.toNat_natCast]
              rw [w64 (a := (nx z0 M f).2.1 - n) (by omega) (by omega), nx_get (d := z0) (by rw [List.length_set]; exact t2), nxs _ _ _ _ f2, if_neg hft]
              simp only [Option.bind_some]
              rw [w64 (a := (nx z0 M t).2.1 + n) (by omega) (by omega), appB?_ok (by simp only [List.length_cons, List.length_nil]; omega)]
              simp only [Option.bind_some]
              refine ⟨_, _, _, _, rfl, rfl, ?_⟩
              have g1 : HI q (M.set f ((nx z0 M f).1, (nx z0 M f).2.1 - n, (nx z0 M f).2.2)) L := h.set f2 rfl ⟨by simp only; omega, by simp only; omega⟩ (h.nx f2).2
              have g2 := g1.set (i := t) (x := ((nx z0 M t).1, (nx z0 M t).2.1 + n, (nx z0 M t).2.2)) (by rw [List.length_set]; exact t2) (by rw [nxs _ _ _ _ f2, if_neg hft]) ⟨by simp only; omega, by simp only; omega⟩ (h.nx t2).2
              refine ⟨g2.len, g2.tk, g2.up.wn, g2.nd, by rw [List.length_append]; simp only [List.length_cons, List.length_nil]; omega, fun y hy => ?_⟩
              rcases List.mem_append.1 hy with hy | hy
              · exact g2.ln y hy
              · rw [List.mem_singleton] at hy
                subst hy
                rw [nms_set (by rw [List.length_set]; exact t2) (by rw [nxs _ _ _ _ f2, if_neg hft]), nms_set (x := ((nx z0 M f).1, (nx z0 M f).2.1 - n, (nx z0 M f).2.2)) f2 rfl]
                refine ⟨fun e => ?_, ?_, ?_, by simp only; omega, by simp only; omega⟩
                · simp only at e
                  subst e; omega
                · simp only [nms]; rw [← f3, nx_eq f2]; exact List.mem_map.2 ⟨_, List.getElem_mem f2, rfl⟩
                · simp only [nms]; rw [← t3, nx_eq t2]; exact List.mem_map.2 ⟨_, List.getElem_mem t2, rfl⟩
  · have hn : nmd nm = false := by simpa using hn
    rw [hn, if_pos (by decide), if_pos (by decide)]
    exact ⟨_, _, _, _, rfl, rfl, h.up⟩

/-! ### Struck loans -/
def nz (y : Ln) : Bool := !(y.2.2 == 0)
theorem strike_eq (F : Nat) (L : List Ln) (hF : L.length + 2 < F) (hl : L.length ≤ 1000000000000000000) : F29_30 F L = some (L.filter nz) := by
  have hs : ∀ (i : Nat) (h : i < L.length), F46_30_l0 F L (i : Int) = some (if (L[i].2.2 == 0) then .stop (.inr (i : Int)) else .more ((i + 1 : Nat) : Int)) := by
    intro i hi
    unfold F46_30_l0 F30
    rw [if_pos (decide_eq_true (by omega)), at?_in hi, Option.bind_some, Option.bind_some, wsuc (by omega)]
    exact ite_some _ _
  have he : F46_30_l0 F L (L.length : Int) = some (.stop (.inl ())) := by
    unfold F46_30_l0
    rw [if_neg (by simp)]
  unfold F29_30 F46_30
  rcases find_loop L (fun y => y.2.2 == 0) (fun i _ => (i : Int)) hs he (by omega : L.length < F) with ⟨q1, q2⟩ | ⟨i, hi, q1, q3, q2⟩
  · rw [q2]
    simp only [Option.bind_some]
    rw [if_pos (by decide), List.filter_eq_self.2]
    intro y hy
    have := q1 y hy
    unfold nz; rw [this]; rfl
  · rw [q2]
    simp only [Option.bind_some]
    rw [if_neg (by rw [beq_iff_eq]; omega), wsuc (a := i) (by omega)]
    have h0 : (L.take i).filter nz = L.take i := by
      rw [List.filter_eq_self]
      intro y hy
      obtain ⟨j, hj, rfl⟩ := List.getElem_of_mem hy
      rw [List.length_take] at hj
      have := q3 j (by omega)
      rw [List.getElem_take]
      unfold nz; rw [this]; rfl
    have h1 : (L.take (i + 1)).filter nz = L.take i := by
      rw [List.take_add_one, List.getElem?_eq_getElem hi, List.filter_append, h0]
      have : nz L[i] = false := by unfold nz; rw [q1]; rfl
      simp [this]
    obtain ⟨b, hb, G, H, b1, b2, b3⟩ := iter_inv (step := F29_30_l0 F) (I := fun s => ∃ (j : Nat) (H : List Ln), j ≤ L.length ∧ ((L.take j).filter nz).length + H.length = j ∧ 0 < H.length ∧ s = ((((L.take j).filter nz).length : Int), (j : Int), (L.take j).filter nz ++ (H ++ L.drop j))) (μ := fun s => L.length - s.2.1.toNat)
      (Q := fun b => ∃ G H : List Ln, G = L.filter nz ∧ G.length + H.length = L.length ∧ b = ((G.length : Int), G ++ H)) (by
        rintro _ ⟨j, H, hj, hlen, hH, rfl⟩
        unfold F29_30_l0 F30
        have hX : ((L.take j).filter nz ++ (H ++ L.drop j)).length = L.length := by
          rw [List.length_append, List.length_append, List.length_drop]; omega
        simp only
        rw [hX]
        by_cases hlt : j < L.length
        · left
          have hat : at? ((L.take j).filter nz ++ (H ++ L.drop j)) (j : Int) = some L[j] := by
            unfold at?
            rw [if_pos (by omega), Int.toNat_natCast, ← List.append_assoc, List.getElem?_append_right (by rw [List.length_append]; omega), List.length_append, hlen, Nat.sub_self, List.drop_eq_getElem_cons hlt]
            rfl
          rw [if_pos (decide_eq_true (by omega)), hat]
          simp only [Option.bind_some]
          have htk : (L.take (j + 1)).filter nz = (L.take j).filter nz ++ (if nz L[j] then [L[j]] else []) := by
            rw [List.take_add_one, List.getElem?_eq_getElem hlt, List.filter_append]
            congr 1
            simp only [Option.toList, List.filter_cons, List.filter_nil]
          by_cases hz : nz L[j] = true
          · rw [hz, if_pos rfl] at htk
            rw [if_pos (by exact hz), ck_ok (by omega), Option.bind_some, wsuc (by omega), wsuc (by omega), Int.toNat_natCast]
            obtain ⟨x, H', rfl⟩ : ∃ x H', H = x :: H' := by
              cases H with
              | nil => simp at hH
              | cons x H' => exact ⟨x, H', rfl⟩
            refine ⟨_, rfl, ⟨j + 1, H' ++ [L[j]], by omega, ?_, by simp, ?_⟩, by simp only; omega⟩
            · rw [htk]; simp only [List.length_append, List.length_cons, List.length_nil] at hlen ⊢; omega
            · rw [htk, List.set_append_right _ _ (Nat.le_refl _), Nat.sub_self]
              simp only [List.length_append, List.length_cons, List.length_nil, List.cons_append, List.set_cons_zero, List.append_assoc, List.nil_append]
              rw [← List.drop_eq_getElem_cons hlt]
          · have hz : nz L[j] = false := by simpa using hz
            rw [hz] at htk
            rw [if_neg (by rw [show (!(L[j].2.2 == 0)) = nz L[j] from rfl, hz]; decide), wsuc (by omega)]
            have htk2 : (L.take (j + 1)).filter nz = (L.take j).filter nz := by rw [htk]; simp
            refine ⟨_, rfl, ⟨j + 1, H ++ [L[j]], by omega, ?_, by simp, ?_⟩, by simp only; omega⟩
            · rw [htk2]; simp only [List.length_append, List.length_cons, List.length_nil]; omega
            · rw [htk2, List.append_assoc, List.singleton_append, ← List.drop_eq_getElem_cons hlt]
        · right
          have e : j = L.length := by omega
          subst e
          rw [if_neg (by simp)]
          refine ⟨_, rfl, _, H, rfl, ?_, ?_⟩
          · rw [List.take_length] at hlen; exact hlen
          · rw [List.take_length, List.drop_length, List.append_nil]) F (((L.take i).length : Int), ((i + 1 : Nat) : Int), L) ⟨i + 1, [L[i]], by omega, by rw [h1, List.length_take]; simp; omega, by simp, by
            rw [h1]
            have : L = L.take i ++ ([L[i]] ++ L.drop (i + 1)) := by
              rw [List.singleton_append, ← List.drop_eq_getElem_cons hi, List.take_append_drop]
            rw [← this]⟩ (by simp only; omega)
    rw [List.length_take, Nat.min_eq_left (by omega)] at hb
    rw [hb, b3]
    simp only [Option.bind_some]
    rw [sub?_from (by rw [List.length_append]; omega)]
    simp only [Option.bind_some, Int.toNat_natCast]
    rw [List.take_left, sub?_to (by rw [List.length_append]; omega), List.take_left, Option.bind_some, b1]
end Go.Proofs.YtaphdnpjpmnaeabDoor.hal

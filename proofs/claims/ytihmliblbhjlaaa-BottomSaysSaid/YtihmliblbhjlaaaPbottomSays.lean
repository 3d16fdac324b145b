/- The law of package bottom, in plain words. -/
import Derived.Test.YtihmliblbhjlaaaBottomC
set_option linter.unusedVariables false
set_option linter.unusedSimpArgs false
namespace Go.Proofs.Ytihmliblbhjlaaa
open Go.Am Go.Proofs.Ytihmliblbhjlaaa.pdqS Go.Proofs.Ytihmliblbhjlaaa.bot

namespace bot
theorem cont_eq (F : Nat) (l : List E) (hl : l.length ≤ 8796093022208) (hF : 8796093100000 ≤ F) : ((∀ x ∈ l, Sh x) → F63_64 F l = some false) ∧ ((∃ x ∈ l, ¬ Sh x) → F63_64 F l = some true) := by
  unfold F63_64 F130_64
  have hs : ∀ (i : Nat) (h : i < l.length), F130_64_l0 F l (i : Int) = some (if decide ((l[i].length : Int) > 12) then .stop (.inr (i : Int)) else .more ((i + 1 : Nat) : Int)) := by
    intro i h
    unfold F130_64_l0 F64
    rw [if_pos (decide_eq_true (by omega)), at?_in h, Option.bind_some, Option.bind_some, wsuc (by omega)]
    exact ite_some _ _
  have he : F130_64_l0 F l (l.length : Int) = some (.stop (.inl ())) := by
    unfold F130_64_l0
    rw [if_neg (by rw [decide_eq_true_eq]; omega)]
  rcases find_loop (step := F130_64_l0 F l) (F := F) l (fun x => decide ((x.length : Int) > 12)) (fun i _ => (i : Int)) hs he (by omega) with ⟨h1, h⟩ | ⟨i, hi, h1, _, h⟩
  · rw [h]
    refine ⟨fun _ => rfl, fun ⟨x, hx, hn⟩ => ?_⟩
    have := h1 x hx
    rw [decide_eq_false_iff_not] at this
    unfold Sh at hn; omega
  · rw [h]
    refine ⟨fun hall => ?_, fun _ => ?_⟩
    · have := hall _ (List.getElem_mem hi)
      rw [decide_eq_true_eq] at h1
      unfold Sh at this; omega
    · simp only [Option.bind_some]
      rw [decide_eq_true (by omega)]
theorem marks_eq (F : Nat) (l : List E) (hv : ∀ x ∈ l, x.length ≤ 9223372036854775807) (hl : l.length ≤ 8796093022208) (hF : 9223372036854775808 ≤ F) : iter (F8_l0 F l) F 0 = some (.inl ()) := by
  refine iter_count (step := F8_l0 F l) (fun i => (i : Int)) l.length (fun i hi => ?_) ?_ (by omega)
  · unfold F8_l0
    have hx := hv _ (List.getElem_mem hi)
    rw [if_pos (decide_eq_true (by omega)), at?_in hi, Option.bind_some, mark_eq F _ hx (by omega), Option.bind_some, markOf_eq F _ hx (by omega), Option.bind_some]
    generalize MK l[i] = z
    rw [if_neg (by simp), wsuc (by omega)]
  · unfold F8_l0
    rw [if_neg (by rw [decide_eq_true_eq]; omega)]
theorem count_eq (F : Nat) (t2 t3 : Int × List E) (L : List E) (h2 : t2.2.length ≤ 100) (h3 : t3.2.length ≤ 100) (hL : L.length ≤ 100) (hF : 1000 ≤ F) : ∃ b, iter (F8_l1 F t2 t3 L) F (0, 0) = some b := by
  obtain ⟨b, e, _⟩ := iter_inv (step := F8_l1 F t2 t3 L) (I := fun s : Int × Int => ∃ i : Nat, s.2 = (i : Int) ∧ i ≤ L.length) (μ := fun s => L.length - s.2.toNat) (Q := fun _ => True) (by
    rintro ⟨c, s⟩ ⟨i, rfl, hi⟩
    unfold F8_l1
    simp only
    by_cases hlt : i < L.length
    · left
      rw [if_pos (decide_eq_true (by omega)), at?_in hlt, Option.bind_some]
      obtain ⟨b1, e1⟩ := in_eq F t2.2 L[i] (by omega) (by omega)
      obtain ⟨b2, e2⟩ := in_eq F t3.2 L[i] (by omega) (by omega)
      rw [e1, e2, Option.bind_some, wsuc (by omega)]
      cases b1
      · exact ⟨_, rfl, ⟨i + 1, rfl, by omega⟩, by simp only [Int.toNat_natCast]; omega⟩
      · cases b2
        · exact ⟨_, rfl, ⟨i + 1, rfl, by omega⟩, by simp only [Int.toNat_natCast]; omega⟩
        · exact ⟨_, rfl, ⟨i + 1, rfl, by omega⟩, by simp only [Int.toNat_natCast]; omega⟩
    · right
      rw [if_neg (by rw [decide_eq_true_eq]; omega)]
      exact ⟨_, rfl, trivial⟩) F (0, 0) ⟨0, rfl, Nat.zero_le _⟩ (by simp only [Int.toNat_zero]; omega)
  exact ⟨b, e⟩
theorem alike_none (F : Nat) (t2 t3 : Int × List E) (c : Int) (hc : c ≠ 0) (h : F59 F t2 t3 = some ((0, []), c)) : F60 F t2 t3 = some (0, 0, c) := by
  unfold F60
  have h' : F59 F (t2.1, t2.2) (t3.1, t3.2) = some ((0, []), c) := h
  rw [h', Option.bind_some, if_pos (by simpa using hc)]
theorem alike_some (F : Nat) (t2 t3 : Int × List E) (m : Int) (L : List E) (b : Int) (h : F59 F t2 t3 = some ((m, L), 0)) (hb : iter (F8_l1 F t2 t3 L) F (0, 0) = some b) : F60 F t2 t3 = some (b, (L.length : Int), 0) := by
  unfold F60
  have h' : F59 F (t2.1, t2.2) (t3.1, t3.2) = some ((m, L), 0) := h
  have hst : F60_l0 F t2 t3 ((m, L), 0) = F8_l1 F t2 t3 L := rfl
  rw [h', Option.bind_some, if_neg (by simp), hst, hb]; rfl
theorem al_eq (F : Nat) (p q : List E) (hF : p.length < F) (hl : p.length ≤ 9223372036854775807) : F65 F p q = some (decide (p = q)) := by
  unfold F65
  rw [seq_eq F p q hF hl]; rfl

theorem law (F : Nat) (t0 : Int) (t1 : List E) (m : Int) (a : List E) (n : Int) (b : List E) (hl : t1.length ≤ 8796093022208) (hv : ∀ x ∈ t1, x.length ≤ 9223372036854775807) (hF : 9223372036854775808 ≤ F) : F8 F t0 t1 (m, a) (n, b) = some true := by
  obtain ⟨lt, hO⟩ := ord_ex
  unfold F8
  obtain ⟨r9, e9, b70, e70, e99⟩ : ∃ r9 : (Int × List E) × Int, F58 F t0 t1 = some r9 ∧ ∃ b70 : Int, ((if ((decide (t0 < 1)) || (decide (t0 > 30))) then
      (some 1)
      else
      (F63_64 F t1).bind fun r65 =>
      if r65 then
      (some 2)
      else
      some 0) : Option Int) = some b70 ∧ (if ((r9.2 != b70) || ((b70 != 0) && ((r9.1.1 != 0) || (decide ((r9.1.2.length : Int) > 0))))) then some true else 
      ((if (b70 == 0) then 
      ((if (r9.1.1 != t0) then some true else 
      ((F66 F t0 t1).bind fun r78 =>
      (F65 F r9.1.2 r78).bind fun r84 =>
      some (!r84))
      ).bind fun y89 =>
      some y89)
       else some false).bind fun y94 =>
      some y94)
      ) = some false := by
    rcases of_eq hO F t0 t1 hl (by omega) with ⟨h1, e⟩ | ⟨h1, h2, e⟩ | ⟨h1, h2, M, e, hM, hm⟩
    · refine ⟨_, e, 1, ?_, rfl⟩
      rw [if_pos (by simp only [Bool.or_eq_true, decide_eq_true_eq]; omega)]
    · refine ⟨_, e, 2, ?_, rfl⟩
      rw [if_neg (by simp only [Bool.or_eq_true, decide_eq_true_eq]; omega), (cont_eq F t1 hl (by omega)).2 h2]; rfl
    · refine ⟨_, e, 0, ?_, ?_⟩
      · rw [if_neg (by simp only [Bool.or_eq_true, decide_eq_true_eq]; omega), (cont_eq F t1 hl (by omega)).1 h2]; rfl
      · have hs := sampleOf_eq hO F t0.toNat t1 M hM hm h2 hl (by omega) (by omega)
        rw [Int.toNat_of_nonneg (by omega)] at hs
        have h30 : (M.take t0.toNat).length ≤ 30 := by rw [List.length_take]; omega
        simp only [bne_self_eq_false, Bool.false_and, Bool.or_self, Bool.false_eq_true, if_false, beq_self_eq_true, if_true]
        rw [hs, Option.bind_some, al_eq F _ _ (by omega) (by omega)]
        simp
  rw [e9, Option.bind_some]
  obtain ⟨c, ⟨ca, s1, _, hc⟩, hj1, hj2⟩ := join_eq hO F m n a b (by omega)
  obtain ⟨ca', k1, k2, k3⟩ := check_eq hO F m a (by omega)
  rw [s1] at k2
  obtain rfl := someI k2
  by_cases hc0 : c = 0
  · obtain ⟨h30, h60, hsh, M, hJ, hM, hm⟩ := hj2 hc0
    have h30' : (M.take m.toNat).length ≤ 30 := by rw [List.length_take]; omega
    obtain ⟨cnt, hcnt⟩ := count_eq F (m, a) (n, b) (M.take m.toNat) (by simp only; omega) (by simp only; omega) (by omega) (by omega)
    have hA := alike_some F (m, a) (n, b) m (M.take m.toNat) cnt hJ hcnt
    have hs := sampleOf_eq hO F m.toNat (a ++ b) M hM hm hsh (by rw [List.length_append]; omega) (by omega) (by rw [List.length_append]; omega)
    rw [Int.toNat_of_nonneg (by omega)] at hs
    simp only
    rw [hJ, Option.bind_some, hA, Option.bind_some, marks_eq F t1 hv hl hF, Option.bind_some]
    simp only
    rw [e70, Option.bind_some, e99, Option.bind_some, if_neg (by decide), s1, Option.bind_some, k1, Option.bind_some, if_neg (by simp)]
    rcases hc with ⟨q1, q2⟩ | ⟨q1, cb, s2, q⟩
    · exact absurd (q2.symm.trans hc0) q1
    · subst q1
      rcases q with ⟨q2, q3⟩ | ⟨rfl, q2 | q2⟩
      · exact absurd (q3.symm.trans hc0) q2
      · rw [hc0] at q2; exact absurd q2.2 (by decide)
      · obtain ⟨rfl, _⟩ := q2
        simp only [beq_self_eq_true, if_true]
        rw [s2]
        simp only [Option.bind_some, beq_self_eq_true, bne_self_eq_false, Bool.and_false, Bool.false_eq_true, if_false]
        rw [concat_eq F a b (by omega) (by omega), Option.bind_some, hs, Option.bind_some, hcnt, Option.bind_some]
        simp only [Bool.and_self, if_true]
        rw [al_eq F _ _ (by omega) (by omega)]
        simp
  · have hJ := hj1 hc0
    have hA := alike_none F (m, a) (n, b) c hc0 hJ
    simp only
    rw [hJ, Option.bind_some, hA, Option.bind_some, marks_eq F t1 hv hl hF, Option.bind_some]
    simp only
    rw [e70, Option.bind_some, e99, Option.bind_some, if_neg (by decide), s1, Option.bind_some, k1, Option.bind_some, if_neg (by simp)]
    obtain ⟨x, y, ex, ey, hxy⟩ : ∃ x y : Int, ((if (ca == 0) then
      ((F67 F ((n, b))).bind fun r114 =>
      some r114)
      else
      some ca) : Option Int) = some x ∧ ((if ((x == 0) && (m != n)) then
      (some 3)
      else
      some x) : Option Int) = some y ∧ y = c := by
      rcases hc with ⟨q1, q2⟩ | ⟨q1, cb, s2, q⟩
      · refine ⟨ca, ca, ?_, ?_, q2.symm⟩
        · rw [if_neg (by simpa using q1)]
        · rw [if_neg (by simp [q1])]
      · subst q1
        rcases q with ⟨q2, q3⟩ | ⟨rfl, q2 | q2⟩
        · refine ⟨cb, cb, ?_, ?_, q3.symm⟩
          · rw [if_pos (by simp), s2]; rfl
          · rw [if_neg (by simp [q2])]
        · refine ⟨0, 3, ?_, ?_, q2.2.symm⟩
          · rw [if_pos (by simp), s2]; rfl
          · rw [if_pos (by simp [q2.1])]
        · exact absurd q2.2 hc0
    subst hxy
    rw [ex, Option.bind_some, ey, Option.bind_some, if_pos (by simpa using hc0)]
    simp
end bot
theorem PbottomSays.holds (t0 : Int) (t1 : List (List UInt8)) (t2 : (Int) × (List (List UInt8))) (t3 : (Int) × (List (List UInt8))) (h0 : inR .i64 t0) (h1 : (t1.length ≤ maxLen ∧ ∀ a ∈ t1, a.length ≤ maxLen)) (h2 : (inR .i64 t2.1 ∧ (t2.2.length ≤ maxLen ∧ ∀ a ∈ t2.2, a.length ≤ maxLen))) (h3 : (inR .i64 t3.1 ∧ (t3.2.length ≤ maxLen ∧ ∀ a ∈ t3.2, a.length ≤ maxLen))) (hS1 : t1.length * 16 ≤ 140737488351232) : ∃ F, F8 F t0 t1 t2 t3 = some true :=
  ⟨9223372036854775808, bot.law _ t0 t1 t2.1 t2.2 t3.1 t3.2 (by omega) (fun x hx => h1.2 x hx) (Nat.le_refl _)⟩
end Go.Proofs.Ytihmliblbhjlaaa

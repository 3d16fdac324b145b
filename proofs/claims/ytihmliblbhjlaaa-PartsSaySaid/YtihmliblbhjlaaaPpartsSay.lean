/- PartsSay holds. -/
import Derived.Test.YtihmliblbhjlaaaPartsG
import Derived.Test.YtihmliblbhjlaaaEqualLib
set_option linter.unusedVariables false
set_option linter.unusedSimpArgs false
namespace Go.Proofs.Ytihmliblbhjlaaa
open Go.Am

theorem even_eq (F : Nat) (l : List Int) (hpos : Pos l) (hl : l.length ≤ 40) (hF : 100 ≤ F) : F47_48 F l = some (l.any fun x => decide (x.toNat % 2 = 0)) := by
  unfold F47_48 F116_48
  have hs : ∀ (i : Nat) (h : i < l.length), F116_48_l0 F l (i : Int) = some (if decide (l[i].toNat % 2 = 0) then .stop (.inr (i : Int)) else .more ((i + 1 : Nat) : Int)) := by
    intro i h
    unfold F116_48_l0 F48
    have hx := hpos _ (List.getElem_mem h)
    rw [if_pos (decide_eq_true (by omega)), at?_in h, Option.bind_some, Option.bind_some, tmod2 hx.1, wsuc (by omega)]
    have e : (((l[i].toNat % 2 : Nat) : Int) == 0) = decide (l[i].toNat % 2 = 0) := by rw [Bool.eq_iff_iff, beq_iff_eq, decide_eq_true_eq]; omega
    rw [e]
    exact ite_some _ _
  have he : F116_48_l0 F l (l.length : Int) = some (.stop (.inl ())) := by
    unfold F116_48_l0
    rw [if_neg (by rw [decide_eq_true_eq]; omega)]
  rcases find_loop (step := F116_48_l0 F l) (F := F) l (fun x => decide (x.toNat % 2 = 0)) (fun i _ => (i : Int)) hs he (by omega) with ⟨hn, h⟩ | ⟨i, hi, hp, _, h⟩
  · rw [h]
    simp only [Option.bind_some]
    rw [any_none hn]; rfl
  · rw [h]
    simp only [Option.bind_some]
    rw [any_of_first hi hp, decide_eq_true (by omega)]
theorem same_first (F : Nat) (t1 t2 : Int) (hF : 100 ≤ F) : ∃ r1, F36 F t1 t2 = some r1 ∧ (if ((((decide (t1 < 0)) || (decide (t1 > 40))) || (decide (t2 < 0))) || (decide (t2 > 40))) then
    (if ((r1.2 != 1) || (r1.1 != 0)) then (some ((.inr false))) else some ((.inl ())))
    else (if (r1.2 != 0) then some true else ((F40 F t1 t2).bind fun r29 => some (r1.1 != r29))).bind fun y34 => if y34 then (some ((.inr false))) else some ((.inl ()))) = some (.inl () : Unit ⊕ Bool) := by
  by_cases h : ((((decide (t1 < 0)) || (decide (t1 > 40))) || (decide (t2 < 0))) || (decide (t2 > 40))) = true
  · refine ⟨(0, 1), by unfold F36; rw [if_pos h], ?_⟩
    rw [if_pos h, if_neg (by decide)]
  · have hh := h
    simp only [Bool.or_eq_true, decide_eq_true_eq] at h
    obtain ⟨n, rfl⟩ : ∃ n : Nat, t1 = (n : Int) := ⟨t1.toNat, by omega⟩
    obtain ⟨k, rfl⟩ : ∃ k : Nat, t2 = (k : Int) := ⟨t2.toNat, by omega⟩
    refine ⟨_, count_eq F n k (by omega) (by omega) hF, ?_⟩
    rw [if_neg hh, if_neg (by simp)]
    unfold F40
    rw [if_pos (by simp only [Bool.and_eq_true, decide_eq_true_eq]; omega), Option.bind_some, Int.toNat_natCast, Option.bind_some, if_neg (by simp)]
theorem PpartsSay.holds (t0 : List Int) (t1 : Int) (t2 : Int) (h0 : (t0.length ≤ maxLen ∧ ∀ a ∈ t0, inR .i64 a)) (h1 : inR .i64 t1) (h2 : inR .i64 t2) : ∃ F, F6 F t0 t1 t2 = some true := by
  refine ⟨t0.length + 3000, ?_⟩
  have hF : 3000 + t0.length ≤ t0.length + 3000 := by omega
  generalize t0.length + 3000 = F at hF
  have hl : t0.length ≤ 9223372036854775807 := h0.1
  obtain ⟨c, hc, hP⟩ := check_eq F t0 (by omega) hl
  obtain ⟨r1, e1, e2⟩ := same_first F t1 t2 (by omega)
  unfold F6
  rw [e1, Option.bind_some]
  by_cases hc0 : c = 0
  · subst hc0
    have hP := hP rfl
    have hlen := hP.len
    obtain ⟨hpos, htot⟩ := hP.list
    have hm40 : mx t0 ≤ 40 := by
      unfold mx
      by_cases h : 0 < t0.length
      · have := hP.pos 0 h; omega
      · rw [nx_out (by omega)]; decide
    rw [turned_eq F t0 hP hc (by omega), Option.bind_some]
    have hodd := odd_eq F t0 hP hc (by omega)
    have hunl := unlike_eq F t0 hP hc (by omega)
    obtain ⟨r11, e11⟩ : ∃ r11, F38 F t0 = some r11 := by
      rcases hodd with ⟨_, h⟩ | ⟨_, r, h, _⟩ <;> exact ⟨_, h⟩
    obtain ⟨r17, e17⟩ : ∃ r17, F39 F t0 = some r17 := by
      rcases hunl with ⟨_, h⟩ | ⟨_, r, h, _⟩ <;> exact ⟨_, h⟩
    rw [e11, Option.bind_some, e17, Option.bind_some, e2, Option.bind_some]
    simp only
    rw [sumErr_eq, hc, Option.bind_some, Option.bind_some, if_neg (by decide), if_neg (by decide), if_neg (by decide), turnedOf_eq F t0 hP (by omega), Option.bind_some, alike_eq F _ _ (by rw [tb_len]; omega) (by rw [tb_len]; omega), Option.bind_some, Option.bind_some, decide_eq_true rfl]
    simp only [Bool.not_true, Bool.false_eq_true, if_false]
    have hcl : F45 F t0 = some t0 := by
      unfold F45
      rw [if_pos (by omega)]
    obtain ⟨M, m1, m2⟩ := compact_eq F t0 (by omega)
    rw [hcl, Option.bind_some, m1, Option.bind_some]
    have hA : (if decide ((M.length : Int) < (t0.length : Int)) = true then (if ((r11.2 != 3) || (decide ((r11.1.length : Int) > 0))) = true then some (Sum.inr false) else some (Sum.inl ()))
        else (if (r11.2 != 0) = true then some true else (F46 F t0).bind fun r92 => (F26 F r11.1 r92).bind fun r98 => some (!r98)).bind fun y103 => if y103 = true then some (Sum.inr false) else some (Sum.inl ())) = some (Sum.inl () : Unit ⊕ Bool) := by
      rcases hodd with ⟨ha, h⟩ | ⟨ha, r, h, hd, hh⟩
      · rw [e11] at h; cases h
        rw [if_pos (decide_eq_true (by have := m2.2 ha; omega)), if_neg (by decide)]
      · rw [e11] at h; cases h
        rw [if_neg (by rw [decide_eq_true_eq]; intro q; exact ha (m2.1 (by omega))), if_neg (by simp)]
        obtain ⟨r', g1, g2, g3⟩ := halved_eq (F - 7) (by omega) 6 t0 hpos htot fun x hx => by have := hpos x hx; simp; omega
        rw [show F - 7 + 6 + 1 = F from by omega] at g1
        have : r = r' := desc_eq hd g2 fun v => by rw [hh.cnt, g3.cnt]
        subst this
        have hrl := hh.len
        rw [g1, Option.bind_some, alike_eq F _ _ (by simp only; omega) (by simp only; omega), Option.bind_some, decide_eq_true rfl]; rfl
    rw [hA, Option.bind_some]
    simp only
    rw [even_eq F t0 hpos hlen (by omega), Option.bind_some]
    rcases hunl with ⟨⟨x, hx, hxe⟩, h⟩ | ⟨ha, r, h, hd, hu, hrl⟩
    · rw [e17] at h; cases h
      rw [List.any_eq_true.2 ⟨x, hx, decide_eq_true hxe⟩, if_pos rfl]; rfl
    · rw [e17] at h; cases h
      have : (t0.any fun x => decide (x.toNat % 2 = 0)) = false := any_none fun x hx => by have := ha x hx; simp; omega
      rw [this, if_neg (by decide), if_pos (by simp)]
      obtain ⟨r', g1, g2, g3, g4, g5⟩ := doubled_eq F t0 hpos htot (by omega)
      have : r = r' := desc_eq hd g2 (known hu.pos g4 hu.nd g3 fun d => by rw [hu.s, g5, S_odd hpos ha])
      subst this
      rw [g1, Option.bind_some, alike_eq F _ _ (by simp only; omega) (by simp only; omega), Option.bind_some, decide_eq_true rfl]; rfl
  · have ht : F37 F t0 = some ([], c) := by
      unfold F37
      rw [hc, Option.bind_some, if_pos (by simpa using hc0)]
    have ho : F38 F t0 = some ([], c) := by
      unfold F38
      rw [hc, Option.bind_some, if_pos (by simpa using hc0)]
    have hu : F39 F t0 = some ([], c) := by
      unfold F39
      rw [hc, Option.bind_some, if_pos (by simpa using hc0)]
    rw [ht, Option.bind_some, ho, Option.bind_some, hu, Option.bind_some, e2, Option.bind_some]
    simp only
    rw [sumErr_eq, hc, Option.bind_some, Option.bind_some, if_neg (by simp), if_pos (by simpa using hc0)]
    simp
    rfl
end Go.Proofs.Ytihmliblbhjlaaa

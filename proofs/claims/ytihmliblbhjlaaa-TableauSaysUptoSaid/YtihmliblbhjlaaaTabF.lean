/- What the functional text of castlaw.TableauSays answers: true. -/
import Derived.Test.YtihmliblbhjlaaaTabE
import Derived.Test.YtihmliblbhjlaaaEqualLib
set_option linter.unusedVariables false
set_option linter.unusedSimpArgs false
namespace Go.Proofs.Ytihmliblbhjlaaa
open Go.Am

def SameS (P Q : List (List Int)) : Prop := P.length = Q.length ∧ ∀ i, i < P.length → (nx [] P i).length = (nx [] Q i).length
theorem SameS.all {P Q : List (List Int)} (h : SameS P Q) (k : Nat) : (nx [] P k).length = (nx [] Q k).length := by
  by_cases hk : k < P.length
  · exact h.2 k hk
  · rw [nx_out (by omega), nx_out (by have := h.1; omega)]

theorem eqf_refl (F : Nat) (hF : 100 ≤ F) (a : List (List Int)) (h : Sml a) : F34_21 F a a = some true := by
  unfold F34_21
  have hl := h.1
  rw [if_neg (by simp)]
  have := iter_count (step := F34_21_l0 F a a) (F := F) (P := fun k => (k : Int)) (b := .inl ()) a.length (fun k hk => by
    have hr := h.2 _ (nx_mem (d := []) hk)
    unfold F34_21_l0
    rw [if_pos (decide_eq_true (by omega)), nx_get (d := []) hk]
    simp only [Option.bind_some]
    rw [equal_eq F _ _ (by omega) (by omega)]
    simp only [Option.bind_some, decide_true, Bool.not_true, Bool.false_eq_true, if_false]
    rw [wsuc (by omega)]) (by
    unfold F34_21_l0
    rw [if_neg (by rw [decide_eq_true_eq]; omega)]) (by omega)
  rw [show (0 : Int) = (fun k : Nat => (k : Int)) 0 from rfl, this]
  rfl
theorem eqs_eq (F : Nat) (hF : 100 ≤ F) (P Q : List (List Int)) (hP : Sml P) : ∃ b, F34_35 F P Q = some b ∧ (b = true ↔ SameS P Q) := by
  unfold F34_35
  have hl := hP.1
  by_cases hlen : P.length = Q.length
  · rw [if_neg (by simp [hlen])]
    rcases seek_loop (step := F34_35_l0 F P Q) (F := F) P.length (fun i => !decide ((nx [] P i).length = (nx [] Q i).length)) (fun _ => false) (fun i hi => by
        unfold F34_35_l0
        rw [if_pos (decide_eq_true (by omega)), nx_get (d := []) hi, nx_get (d := []) (by omega : i < Q.length)]
        simp only [Option.bind_some]
        unfold F35
        simp only [Option.bind_some]
        rw [wsuc (by omega)]
        by_cases e : (nx [] P i).length = (nx [] Q i).length
        · rw [if_neg (by simp [e]), if_neg (by simp [e])]
        · rw [if_pos (by simp; omega), if_pos (by simp [e])]) (by
        unfold F34_35_l0
        rw [if_neg (by rw [decide_eq_true_eq]; omega)]) (by omega) with ⟨g1, g2⟩ | ⟨i, hi, g1, _, g2⟩
    · rw [g2]
      exact ⟨true, rfl, by simp only [true_iff]; exact ⟨hlen, fun i hi => by have := g1 i hi; simpa using this⟩⟩
    · rw [g2]
      exact ⟨false, rfl, by
        simp only [Bool.false_eq_true, false_iff]
        intro h
        have := h.2 i hi
        simp [this] at g1⟩
  · rw [if_pos (by simp; omega)]
    exact ⟨false, rfl, by simp only [Bool.false_eq_true, false_iff]; intro h; exact hlen h.1⟩
theorem copied_eq (F : Nat) (hF : 100 ≤ F) (a : List (List Int)) (h : Sml a) : F103 F a = some a := by
  unfold F103
  have hl := h.1
  have := iter_count (step := F103_l0 F a) (F := F) (P := fun k => (a.take k, (k : Int))) (b := a) a.length (fun k hk => by
    have hr := h.2 _ (nx_mem (d := []) hk)
    have e : a.take (k + 1) = a.take k ++ [nx [] a k] := by rw [List.take_add_one, List.getElem?_eq_getElem hk, nx_eq hk]; rfl
    unfold F103_l0
    simp only
    rw [if_pos (decide_eq_true (by omega)), nx_get (d := []) hk, Option.bind_some]
    unfold F45
    rw [if_pos (by omega), Option.bind_some, app?_ok (by simp; omega), Option.bind_some, wsuc (by omega), e]) (by
    unfold F103_l0
    simp only
    rw [if_neg (by rw [decide_eq_true_eq]; omega), List.take_length]) (by omega)
  rw [show (([], 0) : List (List Int) × Int) = (fun k : Nat => (a.take k, (k : Int))) 0 from rfl, this]
  rfl
theorem tabE_good {t : List (List Int)} (h : tabE t = 0) : GoodTab t ∧ t.flatten.length ≤ 10 ∧ t.length ≤ 10 := by
  unfold tabE at h
  by_cases hb : t.flatten.length > 10 ∨ t.length > 10
  · rw [if_pos hb] at h; cases h
  · rw [if_neg hb] at h
    by_cases hg : GoodTab t
    · exact ⟨hg, by omega, by omega⟩
    · rw [if_neg hg] at h; cases h
theorem good_sml {t : List (List Int)} (h : tabE t = 0) : Sml t := by
  obtain ⟨_, h1, h2⟩ := tabE_good h
  exact ⟨by omega, fun r hr => by have := row_le t r hr; omega⟩
theorem good_ne {t : List (List Int)} (h : GoodTab t) : ∀ r ∈ t, r ≠ [] := by
  intro r hr e
  obtain ⟨i, hi, rfl⟩ := nx_of (d := []) hr
  have := (h.2 i hi).ne
  rw [e] at this; exact this rfl

/-- What Back answers. -/
theorem back_eq (F : Nat) (hF : 2000000 ≤ F) (P Q : List (List Int)) (hP : P.flatten.length + P.length ≤ 1048576) (hQ : Q.flatten.length + Q.length ≤ 1048576) :
    (tabE P ≠ 0 → F28 F (P, Q) = some ([], tabE P)) ∧ (tabE P = 0 → tabE Q ≠ 0 → F28 F (P, Q) = some ([], tabE Q)) ∧
    (tabE P = 0 → tabE Q = 0 → ¬ SameS P Q → F28 F (P, Q) = some ([], 1)) ∧
    (tabE P = 0 → tabE Q = 0 → SameS P Q → ∃ out, F28 F (P, Q) = some (out, 0) ∧ permE out = 0 ∧ rsk out out.length = (P, Q)) := by
  have cP := tcheck_eq F hF P hP
  have cQ := tcheck_eq F hF Q hQ
  refine ⟨fun h => ?_, fun h h2 => ?_, fun h h2 h3 => ?_, fun h h2 h3 => ?_⟩
  · unfold F28
    simp only
    rw [cP, Option.bind_some, if_pos (by simpa using h)]
  · unfold F28
    simp only
    rw [cP, Option.bind_some, if_neg (by simp [h]), cQ, Option.bind_some, if_pos (by simpa using h2)]
  · obtain ⟨_, p1, p2⟩ := tabE_good h
    obtain ⟨_, q1, q2⟩ := tabE_good h2
    unfold F28
    simp only
    rw [cP, Option.bind_some, if_neg (by simp [h]), cQ, Option.bind_some, if_neg (by simp [h2])]
    by_cases hl : P.length = Q.length
    · rw [if_neg (by simp [hl])]
      rcases seekS (step := F28_l0 F (P, Q)) (F := F) P.length (fun k => (((P.take k).flatten.length : Int), (k : Int))) (fun i => !decide ((nx [] P i).length = (nx [] Q i).length)) (fun _ => (.inr ([], 1) : Int ⊕ (List Int × Int))) (.inl (P.flatten.length : Int)) (fun i hi _ => by
          have h1 := flat_take_le P (i + 1)
          rw [take_flat hi, List.length_append] at h1
          unfold F28_l0
          simp only
          rw [if_pos (decide_eq_true (by omega)), nx_get (d := []) hi, nx_get (d := []) (by omega : i < Q.length)]
          simp only [Option.bind_some]
          by_cases e : (nx [] P i).length = (nx [] Q i).length
          · rw [if_neg (by simp [e]), if_neg (by simp [e]), wadd (by omega), wsuc (by omega), take_flat hi, List.length_append]
          · rw [if_pos (by simp; omega), if_pos (by simp [e])]) (fun _ => by
          unfold F28_l0
          simp only
          rw [if_neg (by rw [decide_eq_true_eq]; omega), List.take_length]) (by omega) with ⟨g1, g2⟩ | ⟨i, hi, g1, _, g2⟩
      · exact absurd ⟨hl, fun i hi => by have := g1 i hi; simpa using this⟩ h3
      · rw [show ((((P.take 0).flatten.length : Nat) : Int), ((0 : Nat) : Int)) = (0, 0) from rfl] at g2
        rw [g2]; rfl
    · rw [if_pos (by simp; omega)]
  · obtain ⟨gP, p1, p2⟩ := tabE_good h
    obtain ⟨gQ, q1, q2⟩ := tabE_good h2
    have hl := h3.1
    have hfl := shape_len h3.1 h3.all
    have l0 := iter_count (step := F28_l0 F (P, Q)) (F := F) (P := fun k => (((P.take k).flatten.length : Int), (k : Int))) (b := .inl (P.flatten.length : Int)) P.length (fun i hi => by
      have h1 := flat_take_le P (i + 1)
      rw [take_flat hi, List.length_append] at h1
      unfold F28_l0
      simp only
      rw [if_pos (decide_eq_true (by omega)), nx_get (d := []) hi, nx_get (d := []) (by omega : i < Q.length)]
      simp only [Option.bind_some]
      have e := h3.2 i hi
      rw [if_neg (by simp [e]), wadd (by omega), wsuc (by omega), take_flat hi, List.length_append]) (by
      unfold F28_l0
      simp only
      rw [if_neg (by rw [decide_eq_true_eq]; omega), List.take_length]) (by omega)
    rw [show ((((P.take 0).flatten.length : Nat) : Int), ((0 : Nat) : Int)) = (0, 0) from rfl] at l0
    have B : BI P.flatten.length P Q := ⟨std_of P gP.2 gP.1.1, std_of Q gQ.2 gQ.1.1, gP.1.1, perm_of_mem _ _ hfl.symm (fun i hi => mem_of_good gQ.1 i (by omega)), h3.1, h3.all, p1, p2⟩
    obtain ⟨out, e1, e2, _, e4, e5⟩ := back_loop F (by omega) P.flatten.length P Q (List.replicate P.flatten.length 0) F B (by simp) (by omega)
    rw [List.length_replicate] at e2
    have e5 : out.Perm P.flatten := by rw [List.take_of_length_le (by omega)] at e5; exact e5
    refine ⟨out, ?_, ?_, ?_⟩
    · unfold F28
      simp only
      rw [cP, Option.bind_some, if_neg (by simp [h]), cQ, Option.bind_some, if_neg (by simp [h2]), if_neg (by simp [hl]), l0, Option.bind_some]
      simp only
      rw [copied_eq F (by omega) P (good_sml h), Option.bind_some, copied_eq F (by omega) Q (good_sml h2), Option.bind_some, mk?_ok (by omega), Option.bind_some, w64 (a := (P.flatten.length : Int) - 1) (by omega) (by omega), e1]
      rfl
    · unfold permE
      rw [if_neg (by omega), if_pos]
      refine ⟨e5.nodup_iff.2 gP.1.1, fun x hx => ?_⟩
      rw [e5.length_eq]
      exact gP.1.2 x (e5.mem_iff.1 hx)
    · rw [e2, e4, trim_all (good_ne gP), trim_all (good_ne gQ)]

theorem rsk_sml {p : List Int} (hp : p.length ≤ 10) : Sml (rsk p p.length).1 ∧ Sml (rsk p p.length).2 := by
  have I := rskI p p.length
  have h1 := I.ql
  have h2 := I.pl
  exact ⟨⟨by omega, fun r hr => by have := I.pr r hr; omega⟩, ⟨by omega, fun r hr => by have := I.qr r hr; omega⟩⟩
theorem permE_ok {p : List Int} (h : permE p = 0) : p.length ≤ 10 ∧ GoodP p := by
  unfold permE at h
  by_cases hl : p.length > 10
  · rw [if_pos hl] at h; cases h
  · rw [if_neg hl] at h
    by_cases hg : GoodP p
    · exact ⟨by omega, hg⟩
    · rw [if_neg hg] at h; cases h
theorem same_refl (F : Nat) (hF : 100 ≤ F) (a : List (List Int) × List (List Int)) (h1 : Sml a.1) (h2 : Sml a.2) : F32 F a a = some true := by
  unfold F32
  rw [eqf_refl F hF _ h1, Option.bind_some, if_pos rfl, eqf_refl F hF _ h2]
  rfl
theorem tab_holds (p : List Int) (P Q : List (List Int)) (hP : P.flatten.length + P.length ≤ 1048576) (hQ : Q.flatten.length + Q.length ≤ 1048576) : ∃ F, F5 F p (P, Q) = some true := by
  obtain ⟨F, hF⟩ : ∃ F : Nat, F = 2000000 := ⟨_, rfl⟩
  refine ⟨F, ?_⟩
  obtain ⟨b1, b2, b3, b4⟩ := back_eq F (by omega) P Q hP hQ
  -- the first half: Of
  have hOf := of_eq F (by omega) p
  have cP := tcheck_eq F (by omega) P hP
  have cQ := tcheck_eq F (by omega) Q hQ
  have eP := err_eq F (by omega) P hP
  have eQ := err_eq F (by omega) Q hQ
  -- the first half's answer
  have half : ∀ (r5 : (List (List Int) × List (List Int)) × Int), F27 F p = some r5 → (if ((r5.2 != permE p) || ((permE p != 0) && (decide ((wrapA .i64 ((r5.1.1.length : Int) + (r5.1.2.length : Int))) > 0)))) = true then some true else
      ((if (permE p == 0) = true then ((F33 F p).bind fun r54 => (F32 F ((r5.1.1, r5.1.2)) ((r54.1, r54.2))).bind fun r63 => some (!r63)) else some false).bind fun y68 => some y68) : Option Bool) = some false := by
    intro r5 h5
    rw [hOf] at h5
    obtain rfl := Option.some.inj h5
    by_cases hp : permE p = 0
    · obtain ⟨hl, hg⟩ := permE_ok hp
      obtain ⟨s1, s2⟩ := rsk_sml hl
      rw [hp]
      simp only [ne_eq, not_true, if_false]
      rw [if_neg (by simp), if_pos (by decide), ref_eq F (by omega) p hl hg.1, Option.bind_some, same_refl F (by omega) (rsk p p.length) s1 s2]
      rfl
    · rw [if_pos hp]
      simp only
      rw [if_neg (by simp [hp]; exact Int.le_refl _), if_neg (by simp [hp])]
      rfl
  obtain ⟨r5, h5⟩ : ∃ r5, F27 F p = some r5 := ⟨_, hOf⟩
  have hh := half r5 h5
  unfold F5
  simp only
  rw [h5, Option.bind_some]
  have pErr := permErr_eq F p (by omega)
  obtain ⟨r20, h20⟩ : ∃ r20, F28 F (P, Q) = some r20 := by
    by_cases z1 : tabE P = 0
    · by_cases z2 : tabE Q = 0
      · by_cases z3 : SameS P Q
        · obtain ⟨o, ho, _⟩ := b4 z1 z2 z3; exact ⟨_, ho⟩
        · exact ⟨_, b3 z1 z2 z3⟩
      · exact ⟨_, b2 z1 z2⟩
    · exact ⟨_, b1 z1⟩
  rw [h20, Option.bind_some, cP, Option.bind_some, eP, Option.bind_some, if_neg (by simp), cQ, Option.bind_some, eQ, Option.bind_some, Option.bind_some, if_neg (by simp), pErr, Option.bind_some]
  rw [hh, Option.bind_some, if_neg (by decide), Option.bind_some]
  by_cases z1 : tabE P = 0
  · rw [z1]
    simp only [beq_self_eq_true, if_true, Option.bind_some]
    by_cases z2 : tabE Q = 0
    · rw [z2]
      simp only [beq_self_eq_true, if_true, Option.bind_some]
      obtain ⟨sb, hs, hsi⟩ := eqs_eq F (by omega) P Q (good_sml z1)
      rw [hs]
      simp only [Option.bind_some]
      by_cases z3 : SameS P Q
      · have hsb := hsi.2 z3
        subst hsb
        obtain ⟨o, ho, ho1, ho2⟩ := b4 z1 z2 z3
        rw [ho] at h20
        obtain rfl := Option.some.inj h20
        obtain ⟨hl, hg⟩ := permE_ok ho1
        simp only [Bool.not_true, Bool.false_eq_true, if_false, Option.bind_some]
        rw [if_neg (by decide), if_pos (by decide), permErr_eq F o (by omega), ho1]
        simp only [Option.bind_some]
        rw [if_pos (by decide), ref_eq F (by omega) o hl hg.1, ho2]
        simp only [Option.bind_some]
        rw [same_refl F (by omega) (P, Q) (good_sml z1) (good_sml z2)]
        rfl
      · have hsb : sb = false := by
          cases sb
          · rfl
          · exact absurd (hsi.1 rfl) z3
        subst hsb
        rw [b3 z1 z2 z3] at h20
        obtain rfl := Option.some.inj h20
        simp only [Bool.not_false, if_true, Option.bind_some]
        rfl
    · rw [b2 z1 z2] at h20
      obtain rfl := Option.some.inj h20
      have z2' : ¬ (tabE Q == 0) = true := by simpa using z2
      rw [if_neg z2', Option.bind_some, if_neg (by decide), Option.bind_some, if_pos (by simpa using z2)]
      simp
  · rw [b1 z1] at h20
    obtain rfl := Option.some.inj h20
    have z1' : ¬ (tabE P == 0) = true := by simpa using z1
    rw [if_neg z1', Option.bind_some, if_neg z1', Option.bind_some, if_neg (by decide), Option.bind_some, if_pos (by simpa using z1)]
    simp
end Go.Proofs.Ytihmliblbhjlaaa

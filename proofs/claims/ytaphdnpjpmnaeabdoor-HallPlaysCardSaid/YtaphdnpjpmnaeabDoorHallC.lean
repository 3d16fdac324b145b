/- Halls: joining, leaving, lending, telling. -/
import Derived.Test.YtaphdnpjpmnaeabDoorHallB
set_option linter.unusedVariables false
set_option linter.unusedSimpArgs false
namespace Go.Proofs.YtaphdnpjpmnaeabDoor.hal
open Go.Am

theorem ixN_at {M : List Mb} {s : List UInt8} (h : ¬ ixN (nms M) s < 0) : ∃ i : Nat, ixN (nms M) s = i ∧ i < M.length ∧ (nx z0 M i).1 = s := by
  rcases ixN_cases (nms M) s with ⟨h1, _⟩ | ⟨i, h1, h2, h3⟩
  · omega
  · rw [List.length_map] at h2
    refine ⟨i, h1, h2, ?_⟩
    rw [nx_eq h2, ← h3, List.getElem_map]
theorem ixN_no {M : List Mb} {s : List UInt8} (h : ¬ ixN (nms M) s ≥ 0) : s ∉ nms M := by
  rcases ixN_cases (nms M) s with ⟨_, h1⟩ | ⟨i, h1, _⟩
  · exact h1
  · omega

theorem join_both (F q : Nat) {M : List Mb} {L : List Ln} (h : HI q M L) (hq : q ≤ 3000000000000) (hF : 200 ≤ F) (n : Int) (nm to : List UInt8) (hs : nm.length < F) (hs2 : nm.length ≤ 9223372036854775807) : Both F q M L (1, n, nm, to) := by
  have hl := h.len
  have hll := h.ll
  have cM : (if M.length ≤ 4398046511104 then some M else none) = some M := if_pos (by omega)
  have cL : (if L.length ≤ 3518437208883 then some L else none) = some L := if_pos (by omega)
  unfold Both F6 F7 F21 F22
  simp only
  rw [if_neg (by decide), if_neg (by decide), if_pos (by decide), Option.bind_some, if_pos (by decide), named_eq F nm hs hs2, Option.bind_some, cM, Option.bind_some, cL, Option.bind_some, if_neg (by simp : ¬ (decide ((1 : Int) < 1) || decide ((1 : Int) > 7)) = true), lists_eq F M L (by omega) hl, Option.bind_some, if_neg (by decide : ¬ ((1 : Int) == 5 || (1 : Int) == 7) = true), Named_eq F nm (by omega), Option.bind_some]
  by_cases hn : nmd nm = true
  · rw [hn, if_neg (by decide), if_neg (by decide), find_eq F M L nm (by omega) (by omega), at_eq F M L nm (by omega) (by omega)]
    simp only [Option.bind_some]
    rw [if_pos (by decide), if_pos (by decide)]
    unfold F17
    simp only
    by_cases h1 : ixN (nms M) nm ≥ 0
    · rw [if_pos (decide_eq_true h1), if_pos (decide_eq_true h1)]
      exact ⟨_, _, _, _, rfl, rfl, h.up⟩
    · have d1 : ¬ decide (ixN (nms M) nm ≥ 0) = true := by rw [decide_eq_true_eq]; exact h1
      rw [if_neg d1, if_neg d1]
      by_cases h2 : (decide (n < 0) || decide (n > 100)) = true
      · rw [if_pos h2, if_pos h2]
        exact ⟨_, _, _, _, rfl, rfl, h.up⟩
      · rw [if_neg h2, if_neg h2]
        by_cases h3 : M.length = 8
        · rw [if_pos (by rw [h3]; rfl), if_pos (by rw [h3]; rfl)]
          exact ⟨_, _, _, _, rfl, rfl, h.up⟩
        · rw [if_neg (by rw [beq_iff_eq]; omega : ¬ ((M.length : Int) == 8) = true), if_neg (by rw [decide_eq_true_eq]; omega : ¬ decide ((M.length : Int) ≥ 8) = true), appB?_ok (by simp only [List.length_cons, List.length_nil]; omega)]
          simp only [Option.bind_some]
          have h2 : 0 ≤ n ∧ n ≤ 100 := by
            simp only [Bool.or_eq_true, decide_eq_true_eq] at h2; omega
          refine ⟨_, _, _, _, rfl, rfl, ?_, ?_, ?_, ?_, ?_, ?_⟩
          · rw [List.length_append]; simp only [List.length_cons, List.length_nil]; omega
          · intro x hx
            rcases List.mem_append.1 hx with hx | hx
            · exact h.tk x hx
            · rw [List.mem_singleton] at hx; subst hx; exact h2
          · intro x hx
            rcases List.mem_append.1 hx with hx | hx
            · exact h.up.wn x hx
            · rw [List.mem_singleton] at hx; subst hx; simp only; omega
          · rw [nms, List.map_append, List.nodup_append]
            refine ⟨h.nd, by simp, ?_⟩
            intro a ha b hb e
            simp only [List.map_cons, List.map_nil, List.mem_singleton] at hb
            subst hb; subst e
            exact ixN_no h1 ha
          · omega
          · intro y hy
            have := h.ln y hy
            rw [nms, List.map_append]
            exact ⟨this.1, List.mem_append_left _ this.2.1, List.mem_append_left _ this.2.2.1, this.2.2.2⟩
  · have hn : nmd nm = false := by simpa using hn
    rw [hn, if_pos (by decide), if_pos (by decide)]
    exact ⟨_, _, _, _, rfl, rfl, h.up⟩

theorem leave_loan (F : Nat) (L : List Ln) (s : List UInt8) (hF : L.length < F) (hl : L.length ≤ 9223372036854775806) : F39_40 F L s = some (L.any fun y => y.1 == s || y.2.1 == s) := by
  have hs : ∀ (i : Nat) (h : i < L.length), F47_40_l0 F L s (i : Int) = some (if (L[i].1 == s || L[i].2.1 == s) then .stop (.inr (i : Int)) else .more ((i + 1 : Nat) : Int)) := by
    intro i hi
    unfold F47_40_l0 F40
    rw [if_pos (decide_eq_true (by omega)), at?_in hi, Option.bind_some, Option.bind_some, wsuc (by omega)]
    exact ite_some _ _
  have he : F47_40_l0 F L s (L.length : Int) = some (.stop (.inl ())) := by
    unfold F47_40_l0
    rw [if_neg (by simp)]
  unfold F39_40 F47_40
  rcases find_loop L (fun y => y.1 == s || y.2.1 == s) (fun i _ => (i : Int)) hs he hF with ⟨q1, q2⟩ | ⟨i, h, q1, _, q2⟩
  · rw [q2, any_none q1]; rfl
  · rw [q2, any_of_first (p := fun y : Ln => y.1 == s || y.2.1 == s) h q1]; simp
theorem leave_ref (F : Nat) (M : List Mb) (L : List Ln) (d : Int × Int × List UInt8 × List UInt8) (hF : L.length < F) (hl : L.length ≤ 9223372036854775806) :
    iter (F7_l0 F d M L) F (0, [], [], (([], 0) : (List UInt8) × Int)) = some (if (L.any fun y => y.1 == d.2.2.1 || y.2.1 == d.2.2.1) then .inr (7, M, L, ([], 0)) else .inl ([], [], ([], 0))) := by
  rcases seekS (step := F7_l0 F d M L) (F := F) L.length (fun i => ((i : Int), [], [], (([], 0) : (List UInt8) × Int))) (fun i => match L[i]? with | some y => y.1 == d.2.2.1 || y.2.1 == d.2.2.1 | none => false) (fun _ => .inr (7, M, L, ([], 0))) (.inl ([], [], ([], 0))) (by
    intro i hi _
    unfold F7_l0
    simp only
    rw [if_pos (decide_eq_true (by omega)), at?_in hi, Option.bind_some, wsuc (by omega), List.getElem?_eq_getElem hi]
    exact ite_some _ _) (by
    intro _
    unfold F7_l0
    simp only
    rw [if_neg (by simp)]) hF with ⟨h1, h2⟩ | ⟨i, hi, h1, _, h2⟩
  · rw [Int.natCast_zero] at h2
    rw [h2, any_none, if_neg (by simp)]
    intro x hx
    obtain ⟨i, hi, rfl⟩ := List.getElem_of_mem hx
    have := h1 i hi
    rwa [List.getElem?_eq_getElem hi] at this
  · rw [Int.natCast_zero] at h2
    rw [List.getElem?_eq_getElem hi] at h1
    rw [h2, any_of_first (p := fun y : Ln => y.1 == d.2.2.1 || y.2.1 == d.2.2.1) hi h1, if_pos rfl]

theorem leave_both (F q : Nat) {M : List Mb} {L : List Ln} (h : HI q M L) (hq : q ≤ 3000000000000) (hF : 200 ≤ F) (hFq : q < F) (n : Int) (nm to : List UInt8) (hs : nm.length < F) (hs2 : nm.length ≤ 9223372036854775807) : Both F q M L (2, n, nm, to) := by
  have hl := h.len
  have hll := h.ll
  have cM : (if M.length ≤ 4398046511104 then some M else none) = some M := if_pos (by omega)
  have cL : (if L.length ≤ 3518437208883 then some L else none) = some L := if_pos (by omega)
  unfold Both F6 F7 F21 F22
  simp only
  rw [if_neg (by decide), if_neg (by decide), if_neg (by decide), if_pos (by decide), Option.bind_some, if_pos (by decide), named_eq F nm hs hs2, Option.bind_some, cM, Option.bind_some, cL, Option.bind_some, if_neg (by simp : ¬ (decide ((2 : Int) < 1) || decide ((2 : Int) > 7)) = true), lists_eq F M L (by omega) hl, Option.bind_some, if_neg (by decide : ¬ ((2 : Int) == 5 || (2 : Int) == 7) = true), Named_eq F nm (by omega), Option.bind_some]
  by_cases hn : nmd nm = true
  · rw [hn, if_neg (by decide), if_neg (by decide), find_eq F M L nm (by omega) (by omega), at_eq F M L nm (by omega) (by omega)]
    simp only [Option.bind_some, Int.reduceBEq, Bool.false_eq_true, ↓reduceIte]
    by_cases h1 : ixN (nms M) nm < 0
    · rw [if_pos (decide_eq_true h1), if_pos (decide_eq_true h1)]
      exact ⟨_, _, _, _, rfl, rfl, h.up⟩
    · have d1 : ¬ decide (ixN (nms M) nm < 0) = true := by rw [decide_eq_true_eq]; exact h1
      rw [if_neg d1, if_neg d1]
      obtain ⟨i, i1, i2, i3⟩ := ixN_at h1
      rw [i1]
      unfold F18 F41
      simp only
      rw [nx_get (d := z0) i2, Option.bind_some, i3, leave_loan F L nm (by omega) (by omega), leave_ref F M L _ (by omega) (by omega)]
      simp only [Option.bind_some]
      by_cases h2 : (L.any fun y => y.1 == nm || y.2.1 == nm) = true
      · rw [if_pos h2, if_pos h2]
        exact ⟨_, _, _, _, rfl, rfl, h.up⟩
      · rw [if_neg h2, if_neg h2, if_pos (by omega), wsuc (by omega)]
        simp only
        rw [sub?_to (by omega), sub?_from (by omega)]
        simp only [Option.bind_some]
        rw [appB?_ok (by rw [List.length_take, List.length_drop]; omega)]
        unfold delB?
        rw [if_pos (by omega), Int.toNat_natCast, Int.toNat_natCast]
        simp only [Option.bind_some]
        have hm : ∀ x ∈ M.take i ++ M.drop (i + 1), x ∈ M := by
          intro x hx
          rcases List.mem_append.1 hx with hx | hx
          · exact List.mem_of_mem_take hx
          · exact List.mem_of_mem_drop hx
        have hsub : List.Sublist (M.take i ++ M.drop (i + 1)) M := by
          rw [← List.eraseIdx_eq_take_drop_succ]; exact List.eraseIdx_sublist _ _
        have hMe : M = M.take i ++ nx z0 M i :: M.drop (i + 1) := by
          rw [nx_eq i2, ← List.drop_eq_getElem_cons i2, List.take_append_drop]
        have hmem : ∀ s, s ∈ nms M → s ≠ nm → s ∈ nms (M.take i ++ M.drop (i + 1)) := by
          intro s hs hne
          rw [hMe] at hs
          simp only [nms, List.map_append, List.map_cons, List.mem_append, List.mem_cons] at hs ⊢
          rcases hs with hs | hs | hs
          · exact .inl hs
          · rw [i3] at hs; exact absurd hs hne
          · exact .inr hs
        refine ⟨_, _, _, _, rfl, rfl, ?_, ?_, ?_, ?_, ?_, ?_⟩
        · have := hsub.length_le; omega
        · exact fun x hx => h.tk x (hm x hx)
        · exact fun x hx => h.up.wn x (hm x hx)
        · exact List.Sublist.nodup (hsub.map _) h.nd
        · omega
        · intro y hy
          have := h.ln y hy
          have hz : ¬ (y.1 = nm ∨ y.2.1 = nm) := fun hc => h2 (List.any_eq_true.2 ⟨y, hy, by simpa using hc⟩)
          exact ⟨this.1, hmem _ this.2.1 (fun e => hz (.inl e)), hmem _ this.2.2.1 (fun e => hz (.inr e)), this.2.2.2⟩
  · have hn : nmd nm = false := by simpa using hn
    rw [hn, if_pos (by decide), if_pos (by decide)]
    exact ⟨_, _, _, _, rfl, rfl, h.up⟩

theorem tell_both (F q : Nat) {M : List Mb} {L : List Ln} (h : HI q M L) (hq : q ≤ 3000000000000) (hF : 200 ≤ F) (n : Int) (nm to : List UInt8) (hs : nm.length < F) (hs2 : nm.length ≤ 9223372036854775807) : Both F q M L (6, n, nm, to) := by
  have hl := h.len
  have hll := h.ll
  have cM : (if M.length ≤ 4398046511104 then some M else none) = some M := if_pos (by omega)
  have cL : (if L.length ≤ 3518437208883 then some L else none) = some L := if_pos (by omega)
  unfold Both F6 F7 F21 F22
  simp only
  rw [if_neg (by decide), if_neg (by decide), if_neg (by decide), if_neg (by decide), if_neg (by decide), if_neg (by decide), Option.bind_some, if_pos (by decide), named_eq F nm hs hs2, Option.bind_some, cM, Option.bind_some, cL, Option.bind_some, if_neg (by simp : ¬ (decide ((6 : Int) < 1) || decide ((6 : Int) > 7)) = true), lists_eq F M L (by omega) hl, Option.bind_some, if_neg (by decide : ¬ ((6 : Int) == 5 || (6 : Int) == 7) = true), Named_eq F nm (by omega), Option.bind_some]
  by_cases hn : nmd nm = true
  · rw [hn, if_neg (by decide), if_neg (by decide), find_eq F M L nm (by omega) (by omega), at_eq F M L nm (by omega) (by omega)]
    simp only [Option.bind_some, Int.reduceBEq, Bool.false_eq_true, ↓reduceIte]
    by_cases h1 : ixN (nms M) nm < 0
    · rw [if_pos (decide_eq_true h1), if_pos (decide_eq_true h1)]
      exact ⟨_, _, _, _, rfl, rfl, h.up⟩
    · have d1 : ¬ decide (ixN (nms M) nm < 0) = true := by rw [decide_eq_true_eq]; exact h1
      rw [if_neg d1, if_neg d1]
      obtain ⟨i, i1, i2, i3⟩ := ixN_at h1
      rw [i1, nx_get (d := z0) i2, nx_get (d := 0) (by simpa using i2), wns_nx i2]
      exact ⟨_, _, _, _, rfl, rfl, h.up⟩
  · have hn : nmd nm = false := by simpa using hn
    rw [hn, if_pos (by decide), if_pos (by decide)]
    exact ⟨_, _, _, _, rfl, rfl, h.up⟩
theorem bad_both (F q : Nat) {M : List Mb} {L : List Ln} (h : HI q M L) (hq : q ≤ 3000000000000) (k n : Int) (nm to : List UInt8) (hk : k < 1 ∨ k > 7) : Both F q M L (k, n, nm, to) := by
  have hl := h.len
  have hll := h.ll
  have cM : (if M.length ≤ 4398046511104 then some M else none) = some M := if_pos (by omega)
  have cL : (if L.length ≤ 3518437208883 then some L else none) = some L := if_pos (by omega)
  unfold Both F6 F7 F21 F22
  simp only
  have e : ∀ c : Int, 1 ≤ c ∧ c ≤ 7 → (k == c) = false := by
    intro c hc
    rw [beq_eq_false_iff_ne]; omega
  rw [e 5 (by omega), e 7 (by omega), e 1 (by omega), e 2 (by omega), e 3 (by omega), e 4 (by omega), e 6 (by omega)]
  simp only [Bool.false_eq_true, if_false, Option.bind_some]
  rw [cM, Option.bind_some, cL, Option.bind_some, if_pos (by simpa using hk)]
  exact ⟨_, _, _, _, rfl, rfl, h.up⟩
end Go.Proofs.YtaphdnpjpmnaeabDoor.hal

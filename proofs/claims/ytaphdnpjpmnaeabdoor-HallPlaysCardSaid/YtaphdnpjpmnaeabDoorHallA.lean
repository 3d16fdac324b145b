/- Halls: names, who is where, lists of tickets. -/
import Derived.Test.YtaphdnpjpmnaeabDoorLotA
import Derived.Test.YtaphdnpjpmnaeabDoorStrA
set_option linter.unusedVariables false
set_option linter.unusedSimpArgs false
namespace Go.Proofs.YtaphdnpjpmnaeabDoor.hal
open Go.Am

abbrev Mb := List UInt8 × Int × Int
abbrev Ln := List UInt8 × List UInt8 × Int
abbrev nms (M : List Mb) : List (List UInt8) := M.map fun x => x.1
abbrev tks (M : List Mb) : List Int := M.map fun x => x.2.1
abbrev wns (M : List Mb) : List Int := M.map fun x => x.2.2

/-! ### Where a name stands -/
def ixN (N : List (List UInt8)) (s : List UInt8) : Int := if N.findIdx (fun x => x == s) < N.length then (N.findIdx (fun x => x == s) : Int) else -1
theorem ixN_cases (N : List (List UInt8)) (s : List UInt8) : (ixN N s = -1 ∧ s ∉ N) ∨ ∃ i : Nat, ixN N s = i ∧ ∃ h : i < N.length, N[i] = s := by
  unfold ixN
  by_cases h : N.findIdx (fun x => x == s) < N.length
  · rw [if_pos h]
    exact .inr ⟨_, rfl, h, by simpa using List.findIdx_getElem (w := h)⟩
  · rw [if_neg h]
    refine .inl ⟨rfl, fun hm => h ?_⟩
    exact List.findIdx_lt_length.2 ⟨s, hm, by simp⟩
theorem ixN_mem {N : List (List UInt8)} {s : List UInt8} (h : s ∈ N) : ∃ i : Nat, ixN N s = i ∧ ∃ h : i < N.length, N[i] = s := by
  rcases ixN_cases N s with ⟨_, h2⟩ | h2
  · exact absurd h h2
  · exact h2
theorem ix_loop {step : Int → Option (Stp Int (Unit ⊕ Int))} {F : Nat} (M : List Mb) (s : List UInt8) (hs : ∀ i, (h : i < M.length) → step (i : Int) = some (if (M[i].1 == s) then .stop (.inr (i : Int)) else .more ((i + 1 : Nat) : Int)))
    (he : step (M.length : Int) = some (.stop (.inl ()))) (hF : M.length < F) : (iter step F 0 = some (.inl ()) ∧ ixN (nms M) s = -1) ∨ ∃ i : Nat, iter step F 0 = some (.inr (i : Int)) ∧ ixN (nms M) s = i := by
  rcases find_loop M (fun x => x.1 == s) (fun i _ => (i : Int)) hs he hF with ⟨h1, h2⟩ | ⟨i, h, h1, h3, h2⟩
  · left
    refine ⟨h2, ?_⟩
    rcases ixN_cases (nms M) s with ⟨h3, _⟩ | ⟨j, _, hj, h5⟩
    · exact h3
    · exfalso
      rw [List.length_map] at hj
      have := h1 M[j] (List.getElem_mem hj)
      rw [List.getElem_map] at h5
      simp [h5] at this
  · right
    refine ⟨i, h2, ?_⟩
    unfold ixN
    have e : (nms M).findIdx (fun x => x == s) = i := by
      rw [List.findIdx_eq (by simpa using h)]
      refine ⟨by rw [List.getElem_map]; exact h1, fun j hj => by rw [List.getElem_map]; exact h3 j hj⟩
    rw [e, if_pos (by simpa using h)]
theorem find_eq (F : Nat) (M : List Mb) (L : List Ln) (s : List UInt8) (hF : M.length < F) (hl : M.length ≤ 1000) : F16 F (M, L) s = some (ixN (nms M) s) := by
  unfold F16 F37_38
  rcases ix_loop (step := F37_38_l0 F M s) (F := F) M s (fun i hi => by
    unfold F37_38_l0 F38
    rw [if_pos (decide_eq_true (by omega)), at?_in hi, Option.bind_some, Option.bind_some, wsuc (by omega)]
    by_cases q : (M[i].1 == s) = true
    · rw [if_pos q, if_pos q]
    · rw [if_neg q, if_neg q]) (by
    unfold F37_38_l0
    rw [if_neg (by simp)]) hF with ⟨h1, h2⟩ | ⟨i, h1, h2⟩
  · rw [h1, h2]; rfl
  · rw [h1, h2]; rfl
theorem at_eq (F : Nat) (M : List Mb) (L : List Ln) (s : List UInt8) (hF : M.length < F) (hl : M.length ≤ 1000) : F10 F (M, L) s = some (ixN (nms M) s) := by
  unfold F10 F32_33
  rcases ix_loop (step := F32_33_l0 F M s) (F := F) M s (fun i hi => by
    unfold F32_33_l0 F33
    rw [if_pos (decide_eq_true (by omega)), at?_in hi, Option.bind_some, Option.bind_some, wsuc (by omega)]
    by_cases q : (M[i].1 == s) = true
    · rw [if_pos q, if_pos q]
    · rw [if_neg q, if_neg q]) (by
    unfold F32_33_l0
    rw [if_neg (by simp)]) hF with ⟨h1, h2⟩ | ⟨i, h1, h2⟩
  · rw [h1, h2]; rfl
  · rw [h1, h2]; rfl

/-! ### Lists -/
theorem map_loop {β : Type} (g : Mb → β) {step : List β × Int → Option (Stp (List β × Int) (List β))} {F : Nat} (M : List Mb) (hs : ∀ (A : List β) (i : Nat) (h : i < M.length), A.length ≤ 1000 → step (A, (i : Int)) = some (.more (A ++ [g M[i]], ((i + 1 : Nat) : Int))))
    (he : ∀ A, step (A, (M.length : Int)) = some (.stop A)) (hF : M.length < F) (hl : M.length ≤ 8) : iter step F ([], 0) = some (M.map g) := by
  have := iter_count (step := step) (F := F) (fun i => ((M.take i).map g, (i : Int))) (b := M.map g) M.length ?_ ?_ hF
  · simpa using this
  · intro i hi
    rw [hs _ i hi (by simp; omega), List.take_add_one, List.getElem?_eq_getElem hi, List.map_append]
    rfl
  · rw [he, List.take_length]
theorem names_eq (F : Nat) (M : List Mb) (L : List Ln) (hF : 10 ≤ F) (hl : M.length ≤ 8) : F5 F (M, L) = some (nms M) := by
  unfold F5
  rw [map_loop (fun x : Mb => x.1) (step := F5_l0 F (M, L)) M (fun A i hi hA => by
    unfold F5_l0
    simp only
    rw [if_pos (decide_eq_true (by omega)), at?_in hi, Option.bind_some, app?_ok (by simp; omega), Option.bind_some, wsuc (by omega)]) (fun A => by
    unfold F5_l0
    simp only
    rw [if_neg (by simp)]) (by omega) hl, Option.bind_some]
theorem tickets_eq (F : Nat) (M : List Mb) (L : List Ln) (hF : 10 ≤ F) (hl : M.length ≤ 8) : F13 F (M, L) = some (tks M) := by
  unfold F13
  rw [map_loop (fun x : Mb => x.2.1) (step := F13_l0 F (M, L)) M (fun A i hi hA => by
    unfold F13_l0
    simp only
    rw [if_pos (decide_eq_true (by omega)), at?_in hi, Option.bind_some, app?_ok (by simp; omega), Option.bind_some, wsuc (by omega)]) (fun A => by
    unfold F13_l0
    simp only
    rw [if_neg (by simp)]) (by omega) hl, Option.bind_some]
theorem had_eq (F : Nat) (M : List Mb) (L : List Ln) (hF : 10 ≤ F) (hl : M.length ≤ 8) : iter (F6_l0 F (M, L)) F ([], 0) = some (wns M) :=
  map_loop (fun x : Mb => x.2.2) (step := F6_l0 F (M, L)) M (fun A i hi hA => by
    unfold F6_l0
    simp only
    rw [if_pos (decide_eq_true (by omega)), at?_in hi, Option.bind_some, app?_ok (by simp; omega), Option.bind_some, wsuc (by omega)]) (fun A => by
    unfold F6_l0
    simp only
    rw [if_neg (by simp)]) (by omega) hl
theorem lists_eq (F : Nat) (M : List Mb) (L : List Ln) (hF : 10 ≤ F) (hl : M.length ≤ 8) : F23 F (M, L) = some (tks M, wns M) := by
  unfold F23
  have := iter_count (step := F23_l0 F (M, L)) (F := F) (fun i => (tks (M.take i), wns (M.take i), (i : Int))) (b := (tks M, wns M)) M.length ?_ ?_ (by omega)
  · rw [show (([] : List Int), ([] : List Int), (0 : Int)) = (tks (M.take 0), wns (M.take 0), ((0 : Nat) : Int)) from by simp, this, Option.bind_some]
  · intro i hi
    unfold F23_l0
    simp only
    have h1 : (tks (M.take i)).length ≤ 8 := by simp; omega
    have h2 : (wns (M.take i)).length ≤ 8 := by simp; omega
    rw [if_pos (decide_eq_true (by omega)), at?_in hi, Option.bind_some, app?_ok (by simp; omega), Option.bind_some, app?_ok (by simp; omega), Option.bind_some, wsuc (by omega), List.take_add_one, List.getElem?_eq_getElem hi]
    simp only [tks, wns, List.map_append]
    rfl
  · unfold F23_l0
    simp only
    rw [if_neg (by simp), List.take_length]

/-! ### Names -/
def inAZ (c : UInt8) : Bool := decide (97 ≤ c.toNat) && decide (c.toNat ≤ 122)
def nmd (s : List UInt8) : Bool := decide (0 < s.length) && decide (s.length ≤ 12) && s.all inAZ
theorem named_eq (F : Nat) (s : List UInt8) (hF : s.length < F) (hl : s.length ≤ 9223372036854775807) : F15 F s = some (nmd s) := by
  unfold F15
  have hb : bytes? s = some (s.map fun b => (b.toNat : Int)) := if_pos (by omega)
  rw [hb, Option.bind_some]
  have := any_loop (step := F15_l0 F (s.map fun b => (b.toNat : Int))) (F := F) (s.map fun b => (b.toNat : Int)) (fun x => decide (x < 97) || decide (x > 122)) false (fun i hi => by
    unfold F15_l0
    rw [List.length_map] at hi
    rw [if_pos (decide_eq_true (by rw [List.length_map]; omega)), at?_in (by rw [List.length_map]; exact hi), Option.bind_some, wsuc (by omega)]
    split <;> simp_all) (by
    unfold F15_l0
    rw [if_neg (by simp)]) (by rw [List.length_map]; exact hF)
  rw [this, Option.bind_some]
  have e : (s.map fun b => (b.toNat : Int)).any (fun x => decide (x < 97) || decide (x > 122)) = !(s.all inAZ) := by
    clear this hb hF hl
    induction s with
    | nil => rfl
    | cons b r ih =>
      rw [List.map_cons, List.any_cons, List.all_cons, ih, Bool.not_and]
      congr 1
      unfold inAZ
      rw [Bool.not_and, ← decide_not, ← decide_not]
      congr 1
      · exact decide_eq_decide.2 (by omega)
      · exact decide_eq_decide.2 (by omega)
  rw [e]
  unfold nmd
  by_cases h : s.all inAZ = true
  · rw [h]
    simp only [Bool.not_true, Bool.false_eq_true, if_false, Bool.and_true]
    congr 2
    · exact decide_eq_decide.2 (by omega)
    · exact decide_eq_decide.2 (by omega)
  · have h : s.all inAZ = false := by simpa using h
    rw [h]
    simp
def azTab (i : Nat) : List Bool := tb 256 fun k => decide (97 ≤ k) && decide (k < 97 + i)
theorem az_lit : ∀ i, i < 26 → ([97, 98, 99, 100, 101, 102, 103, 104, 105, 106, 107, 108, 109, 110, 111, 112, 113, 114, 115, 116, 117, 118, 119, 120, 121, 122] : List UInt8)[i]? = some (UInt8.ofNat (97 + i)) := by decide
theorem az_zero : List.replicate 256 false = azTab 0 := by
  have e : ∀ v : Bool, List.replicate 256 v = tb 256 fun _ => v := fun v => tb_rep 256 v
  rw [e]
  unfold azTab
  refine tb_congr fun k hk => ?_
  by_cases h : 97 ≤ k
  · rw [decide_eq_false (by omega : ¬ k < 97 + 0)]; simp
  · rw [decide_eq_false h]; rfl
theorem az_set (F : Nat) (hF : 100 ≤ F) : F50 F ([97, 98, 99, 100, 101, 102, 103, 104, 105, 106, 107, 108, 109, 110, 111, 112, 113, 114, 115, 116, 117, 118, 119, 120, 121, 122]) = some (azTab 26, true) := by
  unfold F50
  have := iter_count (step := F50_l0 F ([97, 98, 99, 100, 101, 102, 103, 104, 105, 106, 107, 108, 109, 110, 111, 112, 113, 114, 115, 116, 117, 118, 119, 120, 121, 122])) (F := F) (fun i => ((i : Int), azTab i)) (b := .inl (azTab 26)) 26 ?_ ?_ (by omega)
  · rw [az_zero]
    have e : ((0 : Int), azTab 0) = (((0 : Nat) : Int), azTab 0) := by rw [Int.natCast_zero]
    rw [e, this, Option.bind_some]
  · intro i hi
    unfold F50_l0
    simp only
    have hc : (UInt8.ofNat (97 + i)).toNat = 97 + i := by
      rw [UInt8.toNat_ofNat']; omega
    have hat : at? ([97, 98, 99, 100, 101, 102, 103, 104, 105, 106, 107, 108, 109, 110, 111, 112, 113, 114, 115, 116, 117, 118, 119, 120, 121, 122] : List UInt8) (i : Int) = some (UInt8.ofNat (97 + i)) := by
      unfold at?
      rw [if_pos (by omega), Int.toNat_natCast]
      exact az_lit i hi
    rw [if_pos (decide_eq_true (by simp; omega)), hat, Option.bind_some, hc, if_neg (by rw [decide_eq_true_eq]; omega), show ck (azTab i) ((97 + i : Nat) : Int) = some () from tb_ck (by omega), Option.bind_some, Int.toNat_natCast, wsuc (by omega)]
    congr 3
    unfold azTab
    rw [tb_set]
    refine tb_congr fun k hk => ?_
    by_cases e : k = 97 + i
    · rw [if_pos e, decide_eq_true (by omega), decide_eq_true (by omega)]; rfl
    · rw [if_neg e]
      congr 1
      exact decide_eq_decide.2 (by omega)
  · unfold F50_l0
    simp only
    rw [if_neg (by simp)]
theorem az_has (F : Nat) (c : UInt8) : F55 F (azTab 26) (c.toNat : Int) = some (inAZ c) := by
  unfold F55
  have := c.toNat_lt
  rw [show at? (azTab 26) (c.toNat : Int) = some _ from tb_get (by omega), Option.bind_some]
  unfold inAZ
  congr 2
  exact decide_eq_decide.2 (by omega)
theorem trimR_eq (F : Nat) (s : List UInt8) (hF : 100 ≤ F) (hl : s.length ≤ 12) : ∃ b, F52 F s (azTab 26) = some b ∧ b.length ≤ 12 ∧ ((b = [] ∧ s.all inAZ = true) ∨ ((∃ x ∈ b, inAZ x = false) ∧ s.all inAZ = false)) := by
  unfold F52
  obtain ⟨b, hb, hQ⟩ := iter_inv (step := F52_l0 F (azTab 26)) (I := fun u => ∃ j, j ≤ s.length ∧ u = s.take j ∧ (s.drop j).all inAZ = true) (μ := fun u => u.length)
    (Q := fun b => b.length ≤ 12 ∧ ((b = [] ∧ s.all inAZ = true) ∨ ((∃ x ∈ b, inAZ x = false) ∧ s.all inAZ = false))) (by
      rintro _ ⟨j, hj, rfl, ha⟩
      unfold F52_l0
      have hlen : (s.take j).length = j := by rw [List.length_take]; omega
      by_cases h0 : 0 < j
      · obtain ⟨j, rfl⟩ : ∃ q, j = q + 1 := ⟨j - 1, by omega⟩
        have hlast : (s.take (j + 1))[j]'(by omega) = s[j] := List.getElem_take
        rw [if_pos (decide_eq_true (by omega)), hlen, wpred (by omega) (by omega), show j + 1 - 1 = j from rfl, at?_in (by omega : j < (s.take (j + 1)).length), Option.bind_some, hlast, az_has, Option.bind_some]
        by_cases q : inAZ s[j] = true
        · left
          rw [q, if_neg (by decide), sub?_to (by omega : j ≤ (s.take (j + 1)).length), Option.bind_some]
          refine ⟨_, rfl, ⟨j, by omega, by rw [List.take_take, Nat.min_eq_left (by omega)], ?_⟩, by rw [List.take_take, Nat.min_eq_left (by omega), List.length_take]; omega⟩
          rw [List.drop_eq_getElem_cons (by omega : j < s.length), List.all_cons, q, ha]; rfl
        · right
          have q : inAZ s[j] = false := by simpa using q
          rw [q, if_pos (by decide)]
          refine ⟨_, rfl, by omega, .inr ⟨⟨s[j], by rw [← hlast]; exact List.getElem_mem _, q⟩, ?_⟩⟩
          rw [List.all_eq_false]
          exact ⟨s[j], List.getElem_mem _, by rw [q]; decide⟩
      · right
        have : j = 0 := by omega
        subst this
        rw [List.take_zero, if_neg (by simp)]
        exact ⟨_, rfl, by simp, .inl ⟨rfl, by simpa using ha⟩⟩) F s ⟨s.length, Nat.le_refl _, by rw [List.take_length], by rw [List.drop_length]; rfl⟩ (by omega)
  rw [hb, Option.bind_some]
  exact ⟨b, rfl, hQ⟩
theorem trimL_eq (F : Nat) (s : List UInt8) (hF : 100 ≤ F) (hl : s.length ≤ 12) : ∃ b, F51 F s (azTab 26) = some b ∧ (s = [] → b = []) ∧ ((∃ x ∈ s, inAZ x = false) → b ≠ []) := by
  unfold F51
  obtain ⟨b, hb, hQ⟩ := iter_inv (step := F51_l0 F (azTab 26)) (I := fun u => u.length ≤ 12 ∧ (s = [] → u = []) ∧ ((∃ x ∈ s, inAZ x = false) → ∃ x ∈ u, inAZ x = false)) (μ := fun u => u.length)
    (Q := fun b => (s = [] → b = []) ∧ ((∃ x ∈ s, inAZ x = false) → b ≠ [])) (by
      rintro u ⟨h1, h2, h3⟩
      unfold F51_l0
      cases u with
      | nil =>
        right
        rw [if_neg (by simp)]
        exact ⟨_, rfl, (fun _ => rfl), (fun h => by obtain ⟨x, hx, _⟩ := h3 h; simp at hx)⟩
      | cons c r =>
        have hat : at? (c :: r) 0 = some c := rfl
        rw [if_pos (decide_eq_true (by simp only [List.length_cons]; omega)), hat, Option.bind_some, az_has, Option.bind_some]
        by_cases q : inAZ c = true
        · left
          have hsub : sub? (c :: r) 1 ((c :: r).length : Int) = some r := by
            rw [show (1 : Int) = ((1 : Nat) : Int) from rfl, sub?_from (by simp)]; rfl
          rw [q, if_neg (by decide), hsub, Option.bind_some]
          refine ⟨r, rfl, ⟨by simp at h1; omega, (fun h => by have := h2 h; cases this), (fun h => ?_)⟩, by simp⟩
          obtain ⟨x, hx, hq⟩ := h3 h
          rcases List.mem_cons.1 hx with rfl | hx
          · rw [q] at hq; cases hq
          · exact ⟨x, hx, hq⟩
        · right
          have q : inAZ c = false := by simpa using q
          rw [q, if_pos (by decide)]
          exact ⟨_, rfl, (fun h => by have := h2 h; cases this), (fun _ => by simp)⟩) F s ⟨hl, fun h => h, fun h => h⟩ (by omega)
  rw [hb, Option.bind_some]
  exact ⟨b, rfl, hQ⟩
theorem Named_eq (F : Nat) (s : List UInt8) (hF : 100 ≤ F) : F28 F s = some (nmd s) := by
  unfold F28 nmd
  by_cases h0 : s = []
  · subst h0; rfl
  · have hpos : 0 < s.length := List.length_pos_iff.2 h0
    by_cases h1 : s.length ≤ 12
    · have e0 : (s == []) = false := by simpa using h0
      rw [e0, if_pos (by simp; omega), decide_eq_true hpos, decide_eq_true h1]
      unfold F45
      rw [e0, if_neg (by simp), if_neg (by simp), Option.bind_some, if_neg (by simp), az_set F hF, Option.bind_some, show ckN? 256 (azTab 26) = some () from if_pos (tb_len _ _), Option.bind_some, if_pos rfl]
      obtain ⟨b, b1, b2, b3⟩ := trimR_eq F s hF h1
      obtain ⟨c, c1, c2, c3⟩ := trimL_eq F b hF b2
      rw [b1, Option.bind_some, c1, Option.bind_some, Option.bind_some, Option.bind_some]
      rcases b3 with ⟨q1, q2⟩ | ⟨q1, q2⟩
      · rw [c2 q1, q2]; rfl
      · have := c3 q1
        rw [q2]
        have e : (c == []) = false := by simpa using this
        rw [e]; rfl
    · rw [if_neg (by simp; omega), decide_eq_false h1]
      simp
end Go.Proofs.YtaphdnpjpmnaeabDoor.hal

/- castlaw.HallPlays: the functional text answers true. -/
import Derived.Test.YtaphdnpjpmnaeabDoorHallE
set_option linter.unusedVariables false
set_option linter.unusedSimpArgs false
namespace Go.Proofs.YtaphdnpjpmnaeabDoor.hal
open Go.Am

theorem seq_eq (F : Nat) (p q : List (List UInt8)) (hF : p.length < F) (hl : p.length ≤ 9223372036854775807) : F31 F p q = some (decide (p = q)) := by
  unfold F31
  by_cases hn : p.length = q.length
  · rw [if_neg (by simp [hn])]
    obtain ⟨b, hb, hQ⟩ := iter_inv (step := F31_l0 F p q) (I := fun s => ∃ i : Nat, s = i ∧ i ≤ p.length ∧ p.take i = q.take i) (μ := fun s => p.length - s.toNat)
      (Q := fun b => (b = .inl () ∧ p = q) ∨ b = .inr false ∧ p ≠ q) (by
        rintro s ⟨i, rfl, hi, hn2⟩
        unfold F31_l0
        by_cases hlt : i < p.length
        · rw [if_pos (decide_eq_true (by omega)), at?_in hlt, at?_in (by omega : i < q.length)]
          simp only [Option.bind_some]
          by_cases e : p[i] = q[i]
          · left
            rw [if_neg (by simpa using e), w64 (by omega) (by omega)]
            refine ⟨_, rfl, ⟨i + 1, by omega, by omega, ?_⟩, by omega⟩
            rw [List.take_add_one, List.take_add_one, hn2, List.getElem?_eq_getElem hlt, List.getElem?_eq_getElem (by omega : i < q.length), e]
          · right
            rw [if_pos (by simpa using e)]
            exact ⟨_, rfl, .inr ⟨rfl, fun h => e (by subst h; rfl)⟩⟩
        · right
          rw [if_neg (by rw [decide_eq_true_eq]; omega)]
          refine ⟨_, rfl, .inl ⟨rfl, ?_⟩⟩
          rwa [List.take_of_length_le (by omega), List.take_of_length_le (by omega)] at hn2) F 0 ⟨0, rfl, by omega, by simp⟩ (by simpa using hF)
    rw [hb]
    simp only [Option.bind_some]
    rcases hQ with ⟨rfl, h⟩ | ⟨rfl, h⟩
    · simp [h]
    · simp [h]
  · rw [if_pos (by simp; omega)]
    have : p ≠ q := fun h => hn (by rw [h])
    simp [this]
theorem Tickets_eq (F q : Nat) {M : List Mb} {L : List Ln} (h : HI q M L) (hF : 200 ≤ F) (s : List UInt8) : F8 F (M, L) s = some (if ixN (nms M) s < 0 then (0, 4) else ((nx z0 M (ixN (nms M) s).toNat).2.1, 0)) := by
  have hl := h.len
  unfold F8
  simp only
  rw [find_eq F M L s (by omega) (by omega)]
  simp only [Option.bind_some]
  by_cases h1 : ixN (nms M) s < 0
  · rw [if_pos (decide_eq_true h1), if_pos h1]
  · rw [if_neg (mt of_decide_eq_true h1), if_neg h1]
    obtain ⟨i, i1, i2, _⟩ := ixN_at h1
    rw [i1, nx_get (d := z0) i2, Int.toNat_natCast]
    rfl
theorem nd_ix {N : List (List UInt8)} (h : N.Nodup) {i : Nat} (hi : i < N.length) : ixN N N[i] = i := by
  rcases ixN_cases N N[i] with ⟨_, h2⟩ | ⟨j, h1, hj, h2⟩
  · exact absurd (List.getElem_mem hi) h2
  · rw [h1]
    have := (List.getElem_inj h).1 h2
    rw [this]
theorem see_eq (F q : Nat) {M : List Mb} {L : List Ln} (h : HI q M L) (hF : 200 ≤ F) (told : List UInt8 × Int) (e : Int) : iter (F3_l0 F (told, e, (M, L)) ((M, L), told, e)) F ([], 0) = some (.inl (nms M)) := by
  have hl := h.len
  have := iter_count (step := F3_l0 F (told, e, (M, L)) ((M, L), told, e)) (F := F) (fun i => (nms (M.take i), (i : Int))) (b := .inl (nms M)) M.length ?_ ?_ (by omega)
  · rw [← this]; rfl
  · intro i hi
    unfold F3_l0
    simp only
    have h1 : (nms (M.take i)).length ≤ 8 := by simp; omega
    rw [if_pos (decide_eq_true (by omega)), nx_get (d := z0) hi]
    simp only [Option.bind_some]
    rw [app?_ok (by simp only [List.length_cons, List.length_nil]; omega)]
    simp only [Option.bind_some]
    rw [Tickets_eq F q h hF]
    have hix : ixN (nms M) (nx z0 M i).1 = i := by
      have := nd_ix h.nd (i := i) (by simpa using hi)
      rw [List.getElem_map] at this
      rw [nx_eq hi]; exact this
    rw [hix, if_neg (by omega), Int.toNat_natCast]
    simp only [Option.bind_some]
    rw [if_neg (by simp), wsuc (by omega), List.take_add_one, List.getElem?_eq_getElem hi, nx_eq hi]
    simp only [nms, List.map_append]
    rfl
  · unfold F3_l0
    simp only
    rw [if_neg (by simp), List.take_length]
end Go.Proofs.YtaphdnpjpmnaeabDoor.hal
namespace Go.Proofs.YtaphdnpjpmnaeabDoor
open Go.Am hal
theorem PhallPlays.holds (t0 : List ((Int) × (Int) × (List UInt8) × (List UInt8))) (t1 : List UInt8) (h0 : (t0.length ≤ maxLen ∧ ∀ a ∈ t0, (inR .i64 a.1 ∧ (inR .i64 a.2.1 ∧ (a.2.2.1.length ≤ maxLen ∧ a.2.2.2.length ≤ maxLen))))) (h1 : t1.length ≤ maxLen) (hS0 : t0.length * 48 ≤ 140737488351232) : ∃ F, F3 F t0 t1 = some true := by
  refine ⟨18446744073709551616, ?_⟩
  generalize hF : 18446744073709551616 = F
  have hlen : t0.length ≤ 2932031007317 := by omega
  have hml : maxLen ≤ 9223372036854775807 := by decide
  have z : HI 0 [] [] := ⟨by simp, by simp, by simp, by simp [nms], by simp, by simp⟩
  unfold F3 F4
  simp only [Option.bind_some]
  rw [if_neg (by simp), names_eq F [] [] (by omega) (by simp)]
  simp only [Option.bind_some, List.map_nil, nms]
  rw [if_neg (by simp)]
  obtain ⟨b, hb, M, L, q, hM, rfl⟩ := iter_inv (step := F3_l1 F t0) (I := fun s => ∃ (i : Nat) (M : List Mb) (L : List Ln), i ≤ t0.length ∧ HI i M L ∧ s = ((i : Int), M, L, M, L)) (μ := fun s => t0.length - s.1.toNat)
    (Q := fun b => ∃ (M : List Mb) (L : List Ln) (q : Nat), HI q M L ∧ b = .inl (M, L, M, L)) (by
      rintro _ ⟨i, M, L, hi, h, rfl⟩
      unfold F3_l1
      simp only
      by_cases hlt : i < t0.length
      · left
        have hd := (h0.2 t0[i] (List.getElem_mem hlt)).2.2.1
        obtain ⟨told, e, M', L', g1, g2, g3⟩ := step_both F i h (by omega) (by omega) (by omega) t0[i] (by omega) (by omega)
        rw [if_pos (decide_eq_true (by omega)), at?_in hlt]
        simp only [Option.bind_some]
        rw [g1]
        simp only [Option.bind_some]
        rw [g2]
        simp only [Option.bind_some]
        rw [see_eq F _ g3 (by omega) told e]
        simp only [Option.bind_some]
        rw [names_eq F M' L' (by omega) g3.len]
        simp only [Option.bind_some]
        unfold F9
        rw [seq_eq F (nms M') (nms M') (by rw [List.length_map]; have := g3.len; omega) (by rw [List.length_map]; have := g3.len; omega), wsuc (by omega)]
        simp only [Option.bind_some]
        refine ⟨_, ?_, ⟨i + 1, M', L', hlt, g3, rfl⟩, ?_⟩
        · simp
        · simp only; omega
      · right
        rw [if_neg (by rw [decide_eq_true_eq]; omega)]
        exact ⟨_, rfl, M, L, i, h, rfl⟩) F (0, [], [], [], []) ⟨0, [], [], by omega, z, rfl⟩ (by simp only; omega)
  rw [hb]
  simp only [Option.bind_some]
  rw [Tickets_eq F q hM (by omega), at_eq F M L t1 (by have := hM.len; omega) (by have := hM.len; omega)]
  simp only [Option.bind_some]
  by_cases hx : ixN (nms M) t1 < 0
  · rw [if_pos hx, decide_eq_false (by omega : ¬ ixN (nms M) t1 ≥ 0), decide_eq_true hx]
    rfl
  · rw [if_neg hx, decide_eq_true (by omega : ixN (nms M) t1 ≥ 0)]
    rfl
end Go.Proofs.YtaphdnpjpmnaeabDoor

/- Halls: what is kept; the deeds of one name. -/
import Derived.Test.YtaphdnpjpmnaeabDoorHallA
set_option linter.unusedVariables false
set_option linter.unusedSimpArgs false
namespace Go.Proofs.YtaphdnpjpmnaeabDoor.hal
open Go.Am

abbrev z0 : Mb := ([], 0, 0)
structure HI (q : Nat) (M : List Mb) (L : List Ln) : Prop where
  len : M.length ≤ 8
  tk : ∀ x ∈ M, 0 ≤ x.2.1 ∧ x.2.1 ≤ 100
  wn : ∀ x ∈ M, 0 ≤ x.2.2 ∧ x.2.2 ≤ (q : Int)
  nd : (nms M).Nodup
  ll : L.length ≤ q
  ln : ∀ y ∈ L, y.1 ≠ y.2.1 ∧ y.1 ∈ nms M ∧ y.2.1 ∈ nms M ∧ 1 ≤ y.2.2 ∧ y.2.2 ≤ 100
theorem HI.up {q : Nat} {M : List Mb} {L : List Ln} (h : HI q M L) : HI (q + 1) M L :=
  ⟨h.len, h.tk, fun x hx => by have := h.wn x hx; omega, h.nd, by have := h.ll; omega, h.ln⟩
theorem HI.tick {q : Nat} {M : List Mb} {L : List Ln} (h : HI q M L) : tickE (tks M) = 0 := by
  unfold tickE
  rw [if_neg (by rw [List.length_map]; have := h.len; omega), if_neg]
  intro hc
  obtain ⟨x, hx, h2⟩ := List.any_eq_true.1 hc
  obtain ⟨y, hy, rfl⟩ := List.mem_map.1 hx
  have := h.tk y hy
  simp only [Bool.or_eq_true, decide_eq_true_eq] at h2
  omega
theorem nxs {α : Type} {d : α} (l : List α) (i j : Nat) (x : α) (hi : i < l.length) : nx d (l.set i x) j = if i = j then x else nx d l j := by
  unfold nx
  rw [List.getElem?_set]
  by_cases e : i = j
  · subst e; simp [hi]
  · simp [e]
theorem nms_set {M : List Mb} {i : Nat} {x : Mb} (h : i < M.length) (e : x.1 = (nx z0 M i).1) : nms (M.set i x) = nms M := by
  have e2 : x.1 = (nms M)[i]'(by simpa using h) := by rw [e, nx_eq h, List.getElem_map]
  show (M.set i x).map (fun x => x.1) = _
  rw [List.map_set, e2, List.set_getElem_self]
theorem HI.set {q : Nat} {M : List Mb} {L : List Ln} (h : HI q M L) {i : Nat} {x : Mb} (hi : i < M.length) (e : x.1 = (nx z0 M i).1) (t : 0 ≤ x.2.1 ∧ x.2.1 ≤ 100) (w : 0 ≤ x.2.2 ∧ x.2.2 ≤ (q : Int)) : HI q (M.set i x) L := by
  refine ⟨by rw [List.length_set]; exact h.len, fun y hy => ?_, fun y hy => ?_, by rw [nms_set hi e]; exact h.nd, h.ll, fun y hy => by rw [nms_set hi e]; exact h.ln y hy⟩
  · rcases List.mem_or_eq_of_mem_set hy with hy | rfl
    · exact h.tk y hy
    · exact t
  · rcases List.mem_or_eq_of_mem_set hy with hy | rfl
    · exact h.wn y hy
    · exact w
theorem HI.nx {q : Nat} {M : List Mb} {L : List Ln} (h : HI q M L) {i : Nat} (hi : i < M.length) : (0 ≤ (nx z0 M i).2.1 ∧ (nx z0 M i).2.1 ≤ 100) ∧ 0 ≤ (nx z0 M i).2.2 ∧ (nx z0 M i).2.2 ≤ (q : Int) := ⟨h.tk _ (nx_mem hi), h.wn _ (nx_mem hi)⟩
theorem tks_nx {M : List Mb} {i : Nat} (hi : i < M.length) : nx 0 (tks M) i = (nx z0 M i).2.1 := by
  rw [nx_eq (by simpa using hi), nx_eq hi, List.getElem_map]
theorem wns_nx {M : List Mb} {i : Nat} (hi : i < M.length) : nx 0 (wns M) i = (nx z0 M i).2.2 := by
  rw [nx_eq (by simpa using hi), nx_eq hi, List.getElem_map]

def Both (F q : Nat) (M : List Mb) (L : List Ln) (d : Int × Int × List UInt8 × List UInt8) : Prop :=
  ∃ (told : List UInt8 × Int) (e : Int) (M' : List Mb) (L' : List Ln), F6 F (M, L) d = some (told, e, (M', L')) ∧ F7 F (M, L) d = some ((M', L'), told, e) ∧ HI (q + 1) M' L'

/-! ### One who won -/
def wonR (M : List Mb) (i : Nat) : Mb := ((nx z0 M i).1, (nx z0 M i).2.1, (nx z0 M i).2.2 + 1)
theorem HI.won {q : Nat} {M : List Mb} {L : List Ln} (h : HI q M L) {i : Nat} (hi : i < M.length) : HI (q + 1) (M.set i (wonR M i)) L := by
  have := h.nx hi
  exact h.up.set hi rfl this.1 (by simp only [wonR]; omega)
theorem won_eq (F : Nat) {q : Nat} {M : List Mb} {L : List Ln} (h : HI q M L) (hq : q ≤ 4000000000000) (i : Nat) (hi : i < M.length) : F11 F (M, L) (i : Int) 0 = some (((nx z0 M i).1, (nx z0 M i).2.2 + 1), 0, (M.set i (wonR M i), L)) := by
  unfold F11
  have hn := (h.nx hi).2
  simp only
  rw [if_neg (by decide), nx_get (d := z0) hi]
  simp only [Option.bind_some]
  rw [w64 (by omega) (by omega), Int.toNat_natCast, nx_get (d := z0) (by rw [List.length_set]; exact hi)]
  simp only [Option.bind_some]
  rw [nxs _ _ _ _ hi, if_pos rfl]
  rfl
theorem won_err (F : Nat) (M : List Mb) (L : List Ln) (k e : Int) (he : e ≠ 0) : F11 F (M, L) k e = some (([], 0), e, (M, L)) := by
  unfold F11
  rw [if_pos (by simpa using he)]
theorem draw_both (F q : Nat) {M : List Mb} {L : List Ln} (h : HI q M L) (hq : q ≤ 3000000000000) (hF : 200 ≤ F) (n : Int) (nm to : List UInt8) : Both F q M L (5, n, nm, to) := by
  obtain ⟨r, r1, r2, r3⟩ := winner_both F (tks M) n h.tick hF
  have hl := h.len
  have hll := h.ll
  unfold Both F6 F7 F21 F22
  simp only
  rw [if_pos (by decide), tickets_eq F M L (by omega) hl, Option.bind_some, r1, Option.bind_some, if_pos (by omega), Option.bind_some, if_pos (by omega), Option.bind_some, if_neg (by simp), lists_eq F M L (by omega) hl, Option.bind_some, if_pos (by decide), if_pos (by decide)]
  simp only
  rw [r2]
  simp only [Option.bind_some]
  by_cases h0 : r.2 = 0
  · obtain ⟨k, k1, k2⟩ := r3 h0
    rw [List.length_map] at k2
    have hn := (h.nx k2).2
    rw [h0, k1, won_eq F h (by omega) k k2, if_neg (by decide), nx_get (d := z0) k2]
    simp only [Option.bind_some]
    rw [w64 (by omega) (by omega), Int.toNat_natCast, nx_get (d := z0) (by rw [List.length_set]; exact k2)]
    simp only [Option.bind_some]
    rw [nxs _ _ _ _ k2, if_pos rfl]
    exact ⟨_, _, _, _, rfl, rfl, h.won k2⟩
  · rw [won_err F M L _ _ h0, if_pos (by simpa using h0)]
    exact ⟨_, _, _, _, rfl, rfl, h.up⟩
theorem fair_both (F q : Nat) {M : List Mb} {L : List Ln} (h : HI q M L) (hq : q ≤ 3000000000000) (hF : 200 ≤ F) (n : Int) (nm to : List UInt8) : Both F q M L (7, n, nm, to) := by
  have hl := h.len
  have hll := h.ll
  have hlen : (wns M).length = (tks M).length := by rw [List.length_map, List.length_map]
  unfold Both F6 F7 F21 F22
  simp only
  rw [if_neg (by decide), if_pos (by decide), had_eq F M L (by omega) hl, Option.bind_some, tickets_eq F M L (by omega) hl, Option.bind_some, Next_eq F _ _ (by omega), Option.bind_some, if_pos (by omega), Option.bind_some, if_pos (by omega), Option.bind_some, if_neg (by simp), lists_eq F M L (by omega) hl, Option.bind_some, if_pos (by decide), if_neg (by decide)]
  simp only
  have hc : F25_26 F (wns M) = some (hadBad (wns M)) := by
    have e : hadBad (wns M) = (wns M).any fun x => decide (x > 1000000000) := by
      unfold hadBad
      rw [Bool.eq_iff_iff, List.any_eq_true, List.any_eq_true]
      constructor
      · rintro ⟨x, hx, h2⟩
        obtain ⟨y, hy, rfl⟩ := List.mem_map.1 hx
        have := h.wn y hy
        refine ⟨_, hx, ?_⟩
        simp only [Bool.or_eq_true, decide_eq_true_eq] at h2 ⊢
        omega
      · rintro ⟨x, hx, h2⟩
        exact ⟨x, hx, by rw [h2, Bool.or_true]⟩
    rw [e]
    have hwl : (wns M).length ≤ 8 := by rw [List.length_map]; exact hl
    have hs : ∀ (i : Nat) (h : i < (wns M).length), F44_26_l0 F (wns M) (i : Int) = some (if (decide ((wns M)[i] > 1000000000)) then .stop (.inr (i : Int)) else .more ((i + 1 : Nat) : Int)) := by
      intro i hi
      unfold F44_26_l0 F26
      rw [if_pos (decide_eq_true (by omega)), at?_in hi, Option.bind_some, Option.bind_some, wsuc (by omega)]
      exact ite_some _ _
    have he : F44_26_l0 F (wns M) ((wns M).length : Int) = some (.stop (.inl ())) := by
      unfold F44_26_l0
      rw [if_neg (by simp)]
    unfold F25_26 F44_26
    rcases find_loop (wns M) (fun x => decide (x > 1000000000)) (fun i _ => (i : Int)) hs he (by omega : (wns M).length < F) with ⟨q1, q2⟩ | ⟨i, h, q1, _, q2⟩
    · rw [q2, any_none q1]; rfl
    · rw [q2, any_of_first h q1]; simp
  rw [hc]
  simp only [Option.bind_some]
  by_cases hb : hadBad (wns M) = true
  · have e : nextR (tks M) (wns M) = (0, 1) := by
      unfold nextR
      rw [if_neg (by rw [h.tick]; decide), if_neg (by omega), if_pos hb]
    rw [e, if_pos hb, won_err F M L _ _ (by decide)]
    simp only [Option.bind_some]
    rw [if_pos (by decide)]
    exact ⟨_, _, _, _, rfl, rfl, h.up⟩
  · rw [nextR_ok h.tick hlen hb, if_neg hb]
    have g := hadBad_good h.tick hlen hb
    rw [nextOf_eq F _ _ _ g (by omega)]
    simp only [Option.bind_some]
    rcases bestC_range g with h1 | ⟨c, c1, c2⟩
    · rw [if_pos h1, won_err F M L _ _ (by decide), if_pos (by simpa using h1)]
      simp only [Option.bind_some]
      rw [if_pos (by decide)]
      exact ⟨_, _, _, _, rfl, rfl, h.up⟩
    · rw [List.length_map] at c2
      have hn := (h.nx c2).2
      rw [c1, if_neg (by omega), if_neg (by rw [decide_eq_true_eq]; omega), won_eq F h (by omega) c c2]
      simp only [Option.bind_some]
      rw [if_neg (by decide), nx_get (d := z0) c2]
      simp only [Option.bind_some]
      rw [w64 (by omega) (by omega), Int.toNat_natCast, nx_get (d := z0) (by rw [List.length_set]; exact c2)]
      simp only [Option.bind_some]
      rw [nxs _ _ _ _ c2, if_pos rfl]
      exact ⟨_, _, _, _, rfl, rfl, h.won c2⟩
end Go.Proofs.YtaphdnpjpmnaeabDoor.hal

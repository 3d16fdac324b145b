/- perm.Check and castref.PermErr: what they answer. -/
import Derived.Test.YtaphdnpjpmnaeaaDef
import Derived.Test.YtaphdnpjpmnaeaaPure
set_option linter.unusedVariables false
set_option linter.unusedSimpArgs false
namespace Go.Proofs.Ytaphdnpjpmnaeaa
open Go.Am

def rangeI (n : Nat) : List Int := (List.range n).map fun (i : Nat) => (i : Int)
theorem mem_rangeI {n : Nat} {x : Int} : x ∈ rangeI n ↔ 0 ≤ x ∧ x < n := by
  simp only [rangeI, List.mem_map, List.mem_range]
  constructor
  · rintro ⟨i, h, rfl⟩; omega
  · rintro ⟨h1, h2⟩; exact ⟨x.toNat, by omega, by omega⟩

/-- No number twice, each below the length. -/
def GoodP (p : List Int) : Prop := p.Nodup ∧ ∀ x ∈ p, 0 ≤ x ∧ x < p.length

theorem nodup_len {α : Type} [BEq α] [LawfulBEq α] : ∀ {p q : List α}, p.Nodup → (∀ x ∈ p, x ∈ q) → p.length ≤ q.length
  | [], _, _, _ => Nat.zero_le _
  | x :: p, q, hn, hs => by
    rw [List.nodup_cons] at hn
    have hx : x ∈ q := hs x (by simp)
    have := nodup_len (p := p) (q := q.erase x) hn.2 (fun y hy => by
      have hyx : y ≠ x := fun e => hn.1 (e ▸ hy)
      exact (List.mem_erase_of_ne hyx).2 (hs y (by simp [hy])))
    rw [List.length_erase_of_mem hx] at this
    have : 0 < q.length := List.length_pos_of_mem hx
    simp only [List.length_cons]; omega
theorem nodup_rangeI (n : Nat) : (rangeI n).Nodup := by
  unfold rangeI
  rw [List.nodup_iff_pairwise_ne, List.pairwise_map]
  exact (List.nodup_iff_pairwise_ne.1 List.nodup_range).imp fun h e => h (by omega)

theorem perm_of_mem : ∀ (n : Nat) (p : List Int), p.length = n → (∀ i : Nat, i < n → (i : Int) ∈ p) → p.Perm (rangeI n)
  | 0, p, hl, _ => by rw [List.eq_nil_of_length_eq_zero hl]; exact List.Perm.nil
  | n + 1, p, hl, hm => by
    have hn : (n : Int) ∈ p := hm n (by omega)
    have ih := perm_of_mem n (p.erase n) (by rw [List.length_erase_of_mem hn]; omega) (fun i hi => (List.mem_erase_of_ne (by omega)).2 (hm i (by omega)))
    refine (List.perm_cons_erase hn).trans ?_
    refine (List.Perm.cons _ ih).trans ?_
    unfold rangeI
    rw [List.range_succ, List.map_append]
    exact (List.perm_append_comm (l₁ := [(n : Int)]))
theorem good_of_mem {p : List Int} (h : ∀ i : Nat, i < p.length → (i : Int) ∈ p) : GoodP p := by
  have hp := perm_of_mem p.length p rfl h
  refine ⟨hp.nodup_iff.2 (nodup_rangeI _), fun x hx => mem_rangeI.1 (hp.mem_iff.1 hx)⟩
theorem mem_of_good {p : List Int} (h : GoodP p) (i : Nat) (hi : i < p.length) : (i : Int) ∈ p := by
  by_cases hm : (i : Int) ∈ p
  · exact hm
  · exfalso
    have := nodup_len (p := (i : Int) :: p) (q := rangeI p.length) (List.nodup_cons.2 ⟨hm, h.1⟩) (fun x hx => by
      rcases List.mem_cons.1 hx with rfl | hx
      · exact mem_rangeI.2 ⟨by omega, by omega⟩
      · exact mem_rangeI.2 (h.2 x hx))
    simp [rangeI] at this
    omega

open Classical in
/-- The answer. -/
noncomputable def permE (p : List Int) : Int := if p.length > 10 then 2 else if GoodP p then 0 else 3

theorem index_eq (F : Nat) (p : List Int) (x : Int) (hF : p.length < F) (hl : p.length ≤ 1000000) : ∃ r, F49 F p x = some r ∧ (x ∈ p ∧ 0 ≤ r ∧ r < p.length ∧ at? p r = some x ∨ ¬ x ∈ p ∧ r = -1) := by
  unfold F49
  obtain ⟨b, hb, hQ⟩ := iter_inv (step := F49_l0 F p x) (I := fun s => ∃ i : Nat, s = i ∧ i ≤ p.length ∧ x ∉ p.take i) (μ := fun s => p.length - s.toNat)
    (Q := fun b => (b = .inl () ∧ x ∉ p) ∨ ∃ i : Nat, i < p.length ∧ b = .inr (i : Int) ∧ at? p (i : Int) = some x) (by
      rintro s ⟨i, rfl, hi, hn⟩
      unfold F49_l0
      by_cases hlt : i < p.length
      · rw [if_pos (decide_eq_true (by omega)), at?_in hlt]
        simp only [Option.bind_some]
        by_cases e : x = p[i]
        · right
          rw [if_pos (by simpa using e)]
          exact ⟨_, rfl, .inr ⟨i, hlt, rfl, by rw [at?_in hlt, e]⟩⟩
        · left
          rw [if_neg (by simpa using e), w64 (by omega) (by omega)]
          refine ⟨_, rfl, ⟨i + 1, by omega, by omega, ?_⟩, by omega⟩
          intro hm
          rw [List.take_add_one, List.getElem?_eq_getElem hlt] at hm
          rcases List.mem_append.1 hm with h | h
          · exact hn h
          · simp at h; exact e h
      · right
        rw [if_neg (by rw [decide_eq_true_eq]; omega)]
        refine ⟨_, rfl, .inl ⟨rfl, ?_⟩⟩
        rwa [List.take_of_length_le (by omega)] at hn) F 0 ⟨0, rfl, by omega, by simp⟩ (by simpa using hF)
  rw [hb]
  simp only [Option.bind_some]
  rcases hQ with ⟨rfl, h⟩ | ⟨i, hi, rfl, h⟩
  · exact ⟨-1, rfl, .inr ⟨h, rfl⟩⟩
  · refine ⟨i, rfl, .inl ⟨?_, by omega, by omega, h⟩⟩
    exact List.mem_of_getElem? (at?_some h).2.2
theorem contains_eq (F : Nat) (p : List Int) (x : Int) (hF : p.length < F) (hl : p.length ≤ 1000000) : F34 F p x = some (decide (x ∈ p)) := by
  unfold F34
  obtain ⟨r, h1, h2⟩ := index_eq F p x hF hl
  rw [h1]
  simp only [Option.bind_some]
  rcases h2 with ⟨h3, h4, _⟩ | ⟨h3, rfl⟩
  · simp [h3, h4]
  · simp [h3]

theorem permErr_eq (F : Nat) (p : List Int) (hF : 12 ≤ F) : F22 F p = some (permE p) := by
  unfold F22 permE
  by_cases hl : p.length > 10
  · rw [if_pos (decide_eq_true (by omega)), if_pos hl]
  rw [if_neg (by rw [decide_eq_true_eq]; omega), if_neg hl]
  obtain ⟨b, hb, hQ⟩ := iter_inv (step := F22_l0 F p) (I := fun s => ∃ i : Nat, s = i ∧ i ≤ p.length ∧ ∀ j < i, ((j : Nat) : Int) ∈ p) (μ := fun s => p.length - s.toNat)
    (Q := fun b => (b = .inl () ∧ GoodP p) ∨ b = .inr 3 ∧ ¬ GoodP p) (by
      rintro s ⟨i, rfl, hi, hn⟩
      unfold F22_l0
      by_cases hlt : i < p.length
      · rw [if_pos (decide_eq_true (by omega)), contains_eq F p i (by omega) (by omega)]
        simp only [Option.bind_some]
        by_cases e : (i : Int) ∈ p
        · left
          rw [if_neg (by simp [e]), w64 (by omega) (by omega)]
          refine ⟨_, rfl, ⟨i + 1, by omega, by omega, ?_⟩, by omega⟩
          intro j hj
          by_cases h : j = i
          · subst h; exact e
          · exact hn j (by omega)
        · right
          rw [if_pos (by simp [e])]
          exact ⟨_, rfl, .inr ⟨rfl, fun hg => e (mem_of_good hg i hlt)⟩⟩
      · right
        rw [if_neg (by rw [decide_eq_true_eq]; omega)]
        exact ⟨_, rfl, .inl ⟨rfl, good_of_mem fun j hj => hn j (by omega)⟩⟩) F 0 ⟨0, rfl, by omega, by omega⟩ (by simp; omega)
  rw [hb]
  simp only [Option.bind_some]
  rcases hQ with ⟨rfl, h⟩ | ⟨rfl, h⟩
  · rw [if_pos h]
  · rw [if_neg h]

def seen (q : List Int) : List Bool := (List.range 10).map fun (v : Nat) => decide ((v : Int) ∈ q)
theorem seen_at (q : List Int) {x : Int} (h0 : 0 ≤ x) (h1 : x < 10) : at? (seen q) x = some (decide (x ∈ q)) := by
  obtain ⟨v, rfl⟩ : ∃ v : Nat, x = v := ⟨x.toNat, by omega⟩
  rw [at?_in (by simp [seen]; omega)]
  simp [seen]
theorem seen_set (q : List Int) {x : Int} (h0 : 0 ≤ x) (h1 : x < 10) : (seen q).set x.toNat true = seen (q ++ [x]) := by
  obtain ⟨v, rfl⟩ : ∃ v : Nat, x = v := ⟨x.toNat, by omega⟩
  apply List.ext_getElem?
  intro j
  rw [List.getElem?_set]
  simp only [seen, List.getElem?_map, List.length_map, List.length_range, Int.toNat_natCast]
  by_cases hj : v = j
  · subst hj
    rw [if_pos rfl, if_pos (by omega), List.getElem?_range (by omega)]
    simp
  · rw [if_neg hj]
    by_cases hj2 : j < 10
    · rw [List.getElem?_range hj2]
      simp
      omega
    · rw [List.getElem?_eq_none (by simpa using hj2)]; rfl

theorem check_eq (F : Nat) (p : List Int) (hF : 12 ≤ F) : F23 F p = some (permE p) := by
  unfold F23 permE
  by_cases hl : p.length > 10
  · rw [if_pos (decide_eq_true (by omega)), if_pos hl]
  rw [if_neg (by rw [decide_eq_true_eq]; omega), if_neg hl]
  obtain ⟨b, hb, hQ⟩ := iter_inv (step := F23_l0 F p) (I := fun s => ∃ i : Nat, s = ((i : Int), seen (p.take i)) ∧ i ≤ p.length ∧ (p.take i).Nodup ∧ ∀ x ∈ p.take i, 0 ≤ x ∧ x < p.length) (μ := fun s => p.length - s.1.toNat)
    (Q := fun b => (b = .inl () ∧ GoodP p) ∨ b = .inr 3 ∧ ¬ GoodP p) (by
      rintro s ⟨i, rfl, hi, hn, hr⟩
      unfold F23_l0
      simp only
      by_cases hlt : i < p.length
      · rw [if_pos (decide_eq_true (by omega)), at?_in hlt]
        simp only [Option.bind_some]
        have htake : p.take (i + 1) = p.take i ++ [p[i]] := by rw [List.take_add_one, List.getElem?_eq_getElem hlt]; rfl
        by_cases hx : p[i] < 0 ∨ p[i] ≥ p.length
        · right
          rw [if_pos (by simpa using hx)]
          refine ⟨_, rfl, .inr ⟨rfl, fun hg => ?_⟩⟩
          have := hg.2 p[i] (List.getElem_mem hlt)
          omega
        · rw [if_neg (by simpa using hx), seen_at _ (by omega) (by omega)]
          simp only [Option.bind_some]
          by_cases hs : p[i] ∈ p.take i
          · right
            rw [if_pos (by simpa using hs)]
            refine ⟨_, rfl, .inr ⟨rfl, fun hg => ?_⟩⟩
            have h1 : (p.take (i + 1)).Nodup := hg.1.sublist (List.take_sublist _ _)
            rw [htake, List.nodup_append] at h1
            exact h1.2.2 p[i] hs p[i] (by simp) rfl
          · left
            obtain ⟨v, hv⟩ : ∃ v : Nat, p[i] = v := ⟨p[i].toNat, by omega⟩
            rw [if_neg (by simpa using hs), show ck (seen (p.take i)) p[i] = some () from by rw [hv]; exact ck_ok (by simp [seen]; omega)]
            simp only [Option.bind_some]
            rw [w64 (by omega) (by omega), seen_set _ (by omega) (by omega), ← htake]
            refine ⟨_, rfl, ⟨i + 1, by simp, by omega, ?_, ?_⟩, by simp; omega⟩
            · rw [htake, List.nodup_append]
              refine ⟨hn, by simp, ?_⟩
              intro a ha b hb e
              simp at hb
              exact hs (by rw [← hb, ← e]; exact ha)
            · intro x hx2
              rw [htake] at hx2
              rcases List.mem_append.1 hx2 with h | h
              · exact hr x h
              · simp at h; subst h; omega
      · right
        rw [if_neg (by rw [decide_eq_true_eq]; omega)]
        rw [List.take_of_length_le (by omega)] at hn hr
        exact ⟨_, rfl, .inl ⟨rfl, hn, hr⟩⟩) F (0, List.replicate 10 false) ⟨0, by simp [seen]; rfl, by omega, by simp, by simp⟩ (by simp; omega)
  rw [hb]
  simp only [Option.bind_some]
  rcases hQ with ⟨rfl, h⟩ | ⟨rfl, h⟩
  · rw [if_pos h]
  · rw [if_neg h]
end Go.Proofs.Ytaphdnpjpmnaeaa

/- Samples of names: the least of some names, taken one by one, or sorted. -/
import Derived.Test.YtihmliblbhjlaaaBottomA
set_option linter.unusedVariables false
set_option linter.unusedSimpArgs false
namespace Go.Proofs.Ytihmliblbhjlaaa.bot
open Go.Am Go.Proofs.Ytihmliblbhjlaaa.pdqS

abbrev Rl (lt : E → E → Bool) (a b : E) : Prop := lt a b = true
abbrev Wl (lt : E → E → Bool) (a b : E) : Prop := lt b a = false
section
variable {lt : E → E → Bool}
theorem st_uniq (hO : Ord lt) : ∀ {L M : List E}, L.Pairwise (Rl lt) → M.Pairwise (Rl lt) → (∀ x, x ∈ L ↔ x ∈ M) → L = M
  | [], [], _, _, _ => rfl
  | [], y :: M, _, _, h => by have := (h y).2 (by simp); simp at this
  | x :: L, [], _, _, h => by have := (h x).1 (by simp); simp at this
  | x :: L, y :: M, h1, h2, h => by
    rw [List.pairwise_cons] at h1 h2
    have e : x = y := by
      rcases List.mem_cons.1 ((h x).1 (by simp)) with e | e
      · exact e
      · rcases List.mem_cons.1 ((h y).2 (by simp)) with e' | e'
        · exact e'.symm
        · have a := h1.1 y e'; have b := h2.1 x e
          have a : lt x y = true := a
          rw [hO.asy b] at a; cases a
    subst e
    have : L = M := st_uniq hO h1.2 h2.2 fun z => by
      constructor
      · intro hz
        rcases List.mem_cons.1 ((h z).1 (List.mem_cons_of_mem _ hz)) with e | e
        · subst e; have a : lt z z = true := h1.1 z hz; rw [hO.irr] at a; cases a
        · exact e
      · intro hz
        rcases List.mem_cons.1 ((h z).2 (List.mem_cons_of_mem _ hz)) with e | e
        · subst e; have a : lt z z = true := h2.1 z hz; rw [hO.irr] at a; cases a
        · exact e
    rw [this]
theorem dd_ok (hO : Ord lt) : ∀ (L : List E) (p : E), (p :: L).Pairwise (Wl lt) → ∃ M, ddF (fun x p => some (x == p)) p L = some M ∧ (p :: M).Pairwise (Rl lt) ∧ (∀ x, x ∈ p :: M ↔ x ∈ p :: L) ∧ M.length ≤ L.length
  | [], p, _ => ⟨[], rfl, by simp, fun x => Iff.rfl, Nat.le_refl _⟩
  | x :: r, p, h => by
    rw [List.pairwise_cons] at h
    obtain ⟨M, e, h1, h2, h3⟩ := dd_ok hO r x h.2
    unfold ddF
    simp only [Option.bind_some]
    rw [e, Option.bind_some]
    by_cases q : x = p
    · subst q
      rw [if_pos (by simp)]
      exact ⟨M, rfl, h1, fun z => by rw [h2 z]; simp, by simp; omega⟩
    · rw [if_neg (by simpa using q)]
      have hlt : lt p x = true := by
        rcases hO.tri p x with k | k | k
        · exact k
        · exact absurd k.symm q
        · have := h.1 x (by simp); have this : lt x p = false := this; rw [this] at k; cases k
      refine ⟨x :: M, rfl, ?_, fun z => ?_, by simp; omega⟩
      · rw [List.pairwise_cons]
        refine ⟨fun z hz => ?_, h1⟩
        rw [List.pairwise_cons] at h1
        rcases List.mem_cons.1 hz with e | e
        · subst e; exact hlt
        · exact hO.tr hlt (h1.1 z e)
      · rw [List.mem_cons, h2 z, List.mem_cons (b := p)]
theorem comp_ok (hO : Ord lt) (L : List E) (h : L.Pairwise (Wl lt)) (hl : L.length ≤ 1152921504606846976) : ∃ M, compF? (fun x p => some (x == p)) L = some M ∧ M.Pairwise (Rl lt) ∧ (∀ x, x ∈ M ↔ x ∈ L) ∧ M.length ≤ L.length := by
  match L, h, hl with
  | [], _, _ => exact ⟨[], rfl, by simp, fun _ => Iff.rfl, Nat.le_refl _⟩
  | a :: r, h, hl =>
    obtain ⟨M, e, h1, h2, h3⟩ := dd_ok hO r a h
    simp only [compF?]
    rw [if_pos hl, e]
    exact ⟨a :: M, rfl, h1, h2, by simp; omega⟩
theorem least_eq (hO : Ord lt) (F most : Nat) (l : List E) (hsh : ∀ x ∈ l, Sh x) (hl : l.length ≤ 8796093022208) (hm : most ≤ 1000) (hF : l.length + 100 ≤ F) : ∃ M : List E, F129 F (most : Int) l = some ((most : Int), M.take most) ∧ M.Pairwise (Rl lt) ∧ ∀ x, x ∈ M ↔ x ∈ l := by
  unfold F129
  have hc : ∀ L : List E, L.length ≤ 8796093022208 → F160 F L = some L := fun L h => if_pos h
  have hP : AP Sh l := fun k hk => hsh _ (nx_mem hk)
  obtain ⟨L, e1, hp, hs⟩ := sort_eq (F := F) hO.cmp hP hl (by omega)
  have hlen := hp.length_eq
  rw [hc l hl, Option.bind_some, e1, Option.bind_some]
  have hpw : L.Pairwise (Wl lt) := by
    rw [List.pairwise_iff_getElem]
    intro i j hi hj hij
    have := hs i j (Nat.zero_le _) hij hj
    rw [cv_neg, nx_eq hi, nx_eq hj] at this
    simpa using this
  obtain ⟨M, e2, h1, h2, hML⟩ := comp_ok hO L hpw (by omega)
  have hF162 : F162 F L = some M := by
    unfold F162; rw [if_pos (by omega)]; exact e2
  rw [hF162, Option.bind_some]
  have hmin : minI (M.length : Int) (most : Int) = ((min M.length most : Nat) : Int) := by unfold minI; split <;> omega
  rw [hmin, sub?_to (Nat.min_le_left _ _), Option.bind_some, hc _ (by rw [List.length_take]; omega), Option.bind_some]
  refine ⟨M, ?_, h1, fun x => (h2 x).trans hp.mem_iff⟩
  congr 2
  rcases Nat.le_total M.length most with q | q
  · rw [Nat.min_eq_left q, List.take_of_length_le (Nat.le_refl _), List.take_of_length_le q]
  · rw [Nat.min_eq_right q]

/-! ### Taken one by one -/
def cand (lt : E → E → Bool) (out : List E) (x : E) : Prop := out = [] ∨ lt (nx e0 out (out.length - 1)) x = true
theorem find_eq (hO : Ord lt) (F : Nat) (l out : List E) (hsh : ∀ x ∈ l, Sh x) (hso : ∀ x ∈ out, Sh x) (hl : l.length ≤ 8796093022208) (ho : out.length ≤ 1000) (hF : l.length + 100 ≤ F) :
    ∃ (b : E) (any : Bool), iter (F66_l0 F l out) F ([], false, 0) = some (b, any) ∧ (any = false → ∀ x ∈ l, ¬ cand lt out x) ∧ (any = true → b ∈ l ∧ cand lt out b ∧ ∀ x ∈ l, cand lt out x → lt x b = false) := by
  have hB : ∀ a b : E, Sh a → Sh b → F131 F a b = some (lt a b) := fun a b ha hb => by
    unfold Sh at ha hb; exact hO.bf F a b (by omega) (by omega) (by omega) (by omega)
  obtain ⟨r, e, hQ⟩ := iter_inv (step := F66_l0 F l out) (I := fun s : E × Bool × Int => ∃ i : Nat, s.2.2 = (i : Int) ∧ i ≤ l.length ∧ (s.2.1 = false → ∀ x ∈ l.take i, ¬ cand lt out x) ∧ (s.2.1 = true → s.1 ∈ l.take i ∧ cand lt out s.1 ∧ ∀ x ∈ l.take i, cand lt out x → lt x s.1 = false)) (μ := fun s => l.length - s.2.2.toNat)
    (Q := fun r : E × Bool => (r.2 = false → ∀ x ∈ l, ¬ cand lt out x) ∧ (r.2 = true → r.1 ∈ l ∧ cand lt out r.1 ∧ ∀ x ∈ l, cand lt out x → lt x r.1 = false)) (by
    rintro ⟨b, any, s⟩ ⟨i, rfl, hi, h1, h2⟩
    simp only at h1 h2
    unfold F66_l0
    simp only
    by_cases hlt : i < l.length
    · left
      have hx : Sh l[i] := hsh _ (List.getElem_mem hlt)
      have ht := take_snoc l i hlt
      rw [if_pos (decide_eq_true (by omega)), at?_in hlt, Option.bind_some]
      obtain ⟨c, ec, hc⟩ : ∃ c : Bool, ((if ((out.length : Int) == 0) then some true else ((at? out (wrapA .i64 ((out.length : Int) - 1))).bind fun x19 => (F131 F x19 l[i]).bind fun r21 => some r21)) : Option Bool) = some c ∧ (c = true ↔ cand lt out l[i]) := by
        by_cases q : out.length = 0
        · have : out = [] := List.eq_nil_of_length_eq_zero q
          subst this
          exact ⟨true, rfl, by simp [cand]⟩
        · have h0 : ((out.length : Int) == 0) = false := by simpa using q
          rw [h0, wpred (by omega) (by omega), nx_get (d := e0) (by omega : out.length - 1 < out.length)]
          simp only [Bool.false_eq_true, if_false, Option.bind_some]
          rw [hB _ _ (hso _ (nx_mem (by omega))) hx]
          refine ⟨_, rfl, ?_⟩
          unfold cand
          constructor
          · intro k; exact .inr k
          · rintro (k | k)
            · subst k; simp at q
            · exact k
      rw [ec, Option.bind_some]
      cases hcc : c with
      | false =>
        have hnc : ¬ cand lt out l[i] := fun k => by rw [← hc, hcc] at k; cases k
        simp only [Bool.false_eq_true, if_false, Option.bind_some]
        rw [wsuc (by omega)]
        refine ⟨_, rfl, ⟨i + 1, rfl, by omega, fun ha x hx2 => ?_, fun ha => ?_⟩, by simp only [Int.toNat_natCast]; omega⟩
        · rw [ht, List.mem_append] at hx2
          rcases hx2 with k | k
          · exact h1 ha x k
          · simp at k; subst k; exact hnc
        · obtain ⟨k1, k2, k3⟩ := h2 ha
          refine ⟨by rw [ht, List.mem_append]; exact .inl k1, k2, fun x hx2 hcx => ?_⟩
          rw [ht, List.mem_append] at hx2
          rcases hx2 with k | k
          · exact k3 x k hcx
          · simp at k; subst k; exact absurd hcx hnc
      | true =>
        have hyc : cand lt out l[i] := hc.1 hcc
        simp only [if_true]
        cases ha : any with
        | false =>
          simp only [Bool.not_false, if_true, Option.bind_some]
          rw [wsuc (by omega)]
          refine ⟨_, rfl, ⟨i + 1, rfl, by omega, fun k => (by cases k), fun _ => ⟨by rw [ht]; exact List.mem_append_right _ (List.mem_singleton.2 rfl), hyc, fun x hx2 hcx => ?_⟩⟩, by simp only [Int.toNat_natCast]; omega⟩
          rw [ht, List.mem_append] at hx2
          rcases hx2 with k | k
          · exact absurd hcx (h1 ha x k)
          · simp at k; subst k; exact hO.irr _
        | true =>
          obtain ⟨k1, k2, k3⟩ := h2 ha
          simp only [Bool.not_true, Bool.false_eq_true, if_false]
          rw [hB _ _ hx (hsh _ (List.mem_of_mem_take k1))]
          simp only [Option.bind_some]
          cases hlb : lt l[i] b with
          | true =>
            simp only [if_true]
            rw [wsuc (by omega)]
            refine ⟨_, rfl, ⟨i + 1, rfl, by omega, fun k => (by cases k), fun _ => ⟨by rw [ht]; exact List.mem_append_right _ (List.mem_singleton.2 rfl), hyc, fun x hx2 hcx => ?_⟩⟩, by simp only [Int.toNat_natCast]; omega⟩
            rw [ht, List.mem_append] at hx2
            rcases hx2 with k | k
            · have := k3 x k hcx
              show lt x l[i] = false
              rw [← Bool.not_eq_true]
              intro e
              rw [hO.tr e hlb] at this; cases this
            · simp at k; subst k; exact hO.irr _
          | false =>
            simp only [Bool.false_eq_true, if_false]
            rw [wsuc (by omega)]
            refine ⟨_, rfl, ⟨i + 1, rfl, by omega, fun k => (by cases k), fun _ => ⟨by rw [ht, List.mem_append]; exact .inl k1, k2, fun x hx2 hcx => ?_⟩⟩, by simp only [Int.toNat_natCast]; omega⟩
            rw [ht, List.mem_append] at hx2
            rcases hx2 with k | k
            · exact k3 x k hcx
            · simp at k; subst k; exact hlb
    · right
      have : i = l.length := by omega
      subst this
      rw [if_neg (by rw [decide_eq_true_eq]; omega)]
      rw [List.take_length] at h1 h2
      exact ⟨_, rfl, h1, h2⟩) F ([], false, 0) ⟨0, rfl, Nat.zero_le _, by simp, by simp⟩ (by simp only [Int.toNat_zero]; omega)
  exact ⟨r.1, r.2, e, hQ.1, hQ.2⟩
theorem R_iff (hO : Ord lt) {M : List E} (h : M.Pairwise (Rl lt)) {i j : Nat} (hi : i < M.length) (hj : j < M.length) : lt M[i] M[j] = true ↔ i < j := by
  have hp := List.pairwise_iff_getElem.1 h
  constructor
  · intro k
    rcases Nat.lt_trichotomy i j with q | q | q
    · exact q
    · subst q; rw [hO.irr] at k; cases k
    · have := hp j i hj hi q; rw [hO.asy this] at k; cases k
  · intro k; exact hp i j hi hj k
theorem sampleOf_eq (hO : Ord lt) (F most : Nat) (l M : List E) (hM : M.Pairwise (Rl lt)) (hm : ∀ x, x ∈ M ↔ x ∈ l) (hsh : ∀ x ∈ l, Sh x) (hl : l.length ≤ 8796093022208) (hmo : most ≤ 1000) (hF : l.length + 2000 ≤ F) : F66 F (most : Int) l = some (M.take most) := by
  unfold F66
  obtain ⟨r, e, hQ⟩ := iter_inv (step := F66_l1 F (most : Int) l) (I := fun s : List E => ∃ k : Nat, s = M.take k ∧ k ≤ most ∧ k ≤ M.length) (μ := fun s => most - s.length) (Q := fun r => r = M.take most) (by
    rintro s ⟨k, rfl, hk, hk2⟩
    have hlen : (M.take k).length = k := by rw [List.length_take]; omega
    unfold F66_l1
    rw [hlen]
    by_cases hlt : k < most
    · rw [if_pos (decide_eq_true (by omega))]
      obtain ⟨b, any, e, h1, h2⟩ := find_eq hO F l (M.take k) hsh (fun x hx => hsh x ((hm x).1 (List.mem_of_mem_take hx))) hl (by omega) (by omega)
      rw [e, Option.bind_some]
      have hcand : ∀ j (hj : j < M.length), cand lt (M.take k) M[j] ↔ k ≤ j := by
        intro j hj
        unfold cand
        rw [hlen]
        by_cases k0 : k = 0
        · subst k0; simp
        · have hne : M.take k ≠ [] := fun q => by rw [q] at hlen; simp at hlen; omega
          have e1 : nx e0 (M.take k) (k - 1) = M[k - 1]'(by omega) := by
            rw [nx_eq (by omega), List.getElem_take]
          rw [e1, R_iff hO hM]
          constructor
          · rintro (q | q)
            · exact absurd q hne
            · omega
          · intro q; exact .inr (by omega)
      cases any with
      | false =>
        right
        simp only [Bool.not_false, if_true]
        refine ⟨_, rfl, ?_⟩
        have : M.length ≤ k := by
          rcases Nat.lt_or_ge k M.length with q | q
          · exact absurd ((hcand k q).2 (Nat.le_refl _)) (h1 rfl _ ((hm _).1 (List.getElem_mem q)))
          · exact q
        rw [List.take_of_length_le this, List.take_of_length_le (by omega)]
      | true =>
        left
        obtain ⟨k1, k2, k3⟩ := h2 rfl
        obtain ⟨j, hj, rfl⟩ := List.getElem_of_mem ((hm b).2 k1)
        have hkj := (hcand j hj).1 k2
        have hkM : k < M.length := by omega
        have := k3 M[k] ((hm _).1 (List.getElem_mem hkM)) ((hcand k hkM).2 (Nat.le_refl _))
        have hjk : j = k := by
          rcases Nat.lt_or_ge k j with q | q
          · rw [(R_iff hO hM hkM hj).2 q] at this; cases this
          · omega
        subst hjk
        simp only [Bool.not_true, Bool.false_eq_true, if_false]
        rw [app?_ok (by rw [hlen]; simp; omega)]
        refine ⟨_, rfl, ⟨j + 1, (take_snoc M j hj).symm, by omega, by omega⟩, ?_⟩
        simp only [List.length_append, hlen, List.length_cons, List.length_nil]; omega
    · right
      have : k = most := by omega
      subst this
      rw [if_neg (by rw [decide_eq_true_eq]; omega)]
      exact ⟨_, rfl, rfl⟩) F [] ⟨0, by simp, Nat.zero_le _, Nat.zero_le _⟩ (by simp; omega)
  rw [e, Option.bind_some, hQ]
end
end Go.Proofs.Ytihmliblbhjlaaa.bot

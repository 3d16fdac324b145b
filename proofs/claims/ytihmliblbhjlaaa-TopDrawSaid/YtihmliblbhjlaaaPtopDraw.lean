/- T10: what a tape draws by columns has weight; samples of parts are joined to a sample of all. -/
import Derived.Test.YtihmliblbhjlaaaBottomC
import Derived.Test.YtihmliblbhjlaaaAliasLib
import Derived.Test.YtihmliblbhjlaaaDrawLib
import Derived.Test.YtihmliblbhjlaaaMono
set_option linter.unusedVariables false
set_option linter.unusedSimpArgs false
namespace Go.Proofs.Ytihmliblbhjlaaa
open Go.Am Go.Proofs.Ytihmliblbhjlaaa.pdqS Go.Proofs.Ytihmliblbhjlaaa.bot

namespace drw
/-! ### Samples of parts -/
section
variable {lt : E → E → Bool}
theorem head_eq (hO : Ord lt) {a m : E} {A M : List E} (hA : (a :: A).Pairwise (Rl lt)) (hM : (m :: M).Pairwise (Rl lt)) (h1 : a ∈ m :: M) (h2 : m ∈ a :: A) : a = m := by
  rw [List.pairwise_cons] at hA hM
  rcases List.mem_cons.1 h1 with e | e
  · exact e
  · rcases List.mem_cons.1 h2 with e' | e'
    · exact e'.symm
    · have x : lt a m = true := hA.1 m e'; have y : lt m a = true := hM.1 a e
      rw [hO.asy x] at y; cases y
theorem ne_head (hO : Ord lt) {a z : E} {A : List E} (hA : (a :: A).Pairwise (Rl lt)) (hz : z ∈ A) : z ≠ a := fun e => by
  rw [List.pairwise_cons] at hA
  subst e
  have x : lt z z = true := hA.1 z hz; rw [hO.irr] at x; cases x
theorem take_same (hO : Ord lt) : ∀ (n : Nat) (A M : List E), A.Pairwise (Rl lt) → M.Pairwise (Rl lt) → (∀ x ∈ M, x ∈ A) → (∀ x ∈ A.take n, x ∈ M) → M.take n = A.take n
  | 0, _, _, _, _, _, _ => by simp
  | n + 1, [], M, _, _, h, _ => by
    match M, h with
    | [], _ => rfl
    | m :: M, h => have := h m (by simp); simp at this
  | n + 1, a :: A, [], _, _, _, h => by have := h a (by simp); simp at this
  | n + 1, a :: A, m :: M, hA, hM, h, k => by
    have e := head_eq hO hA hM (k a (by simp)) (h m (by simp))
    subst e
    rw [List.take_succ_cons, List.take_succ_cons]
    congr 1
    refine take_same hO n A M (List.pairwise_cons.1 hA).2 (List.pairwise_cons.1 hM).2 (fun x hx => ?_) (fun x hx => ?_)
    · rcases List.mem_cons.1 (h x (List.mem_cons_of_mem _ hx)) with e | e
      · exact absurd e (ne_head hO hM hx)
      · exact e
    · rcases List.mem_cons.1 (k x (by rw [List.take_succ_cons]; exact List.mem_cons_of_mem _ hx)) with e | e
      · exact absurd e (ne_head hO hA (List.mem_of_mem_take hx))
      · exact e
theorem take_part (hO : Ord lt) : ∀ (n : Nat) (A S : List E), A.Pairwise (Rl lt) → S.Pairwise (Rl lt) → (∀ x ∈ S, x ∈ A) → ∀ z ∈ A.take n, z ∈ S → z ∈ S.take n
  | 0, _, _, _, _, _, z, hz, _ => by simp at hz
  | n + 1, [], _, _, _, _, z, hz, _ => by simp at hz
  | n + 1, a :: A, [], _, _, _, z, _, h => by simp at h
  | n + 1, a :: A, s :: S, hA, hS, h, z, hz, hzS => by
    by_cases q : a ∈ s :: S
    · have e := head_eq hO hA hS q (h s (by simp))
      subst e
      rw [List.take_succ_cons] at hz ⊢
      rcases List.mem_cons.1 hz with e | e
      · subst e; simp
      · rcases List.mem_cons.1 hzS with e' | e'
        · subst e'; simp
        · refine List.mem_cons_of_mem _ (take_part hO n A S (List.pairwise_cons.1 hA).2 (List.pairwise_cons.1 hS).2 (fun x hx => ?_) z e e')
          rcases List.mem_cons.1 (h x (List.mem_cons_of_mem _ hx)) with k | k
          · exact absurd k (ne_head hO hS hx)
          · exact k
    · have hsub : ∀ x ∈ s :: S, x ∈ A := fun x hx => by
        rcases List.mem_cons.1 (h x hx) with k | k
        · subst k; exact absurd hx q
        · exact k
      rw [List.take_succ_cons] at hz
      rcases List.mem_cons.1 hz with e | e
      · subst e; exact absurd hzS q
      · have := take_part hO n A (s :: S) (List.pairwise_cons.1 hA).2 hS hsub z e hzS
        have hp : (s :: S).take n = ((s :: S).take (n + 1)).take n := by rw [List.take_take, Nat.min_eq_left (by omega)]
        rw [hp] at this
        exact List.mem_of_mem_take this
/-- A sample of all is a sample of the parts' samples. -/
theorem parts_eq (hO : Ord lt) (n : Nat) (A X Y M : List E) (hA : A.Pairwise (Rl lt)) (hX : X.Pairwise (Rl lt)) (hY : Y.Pairwise (Rl lt)) (hM : M.Pairwise (Rl lt)) (h : ∀ x, x ∈ A ↔ x ∈ X ∨ x ∈ Y) (hm : ∀ x, x ∈ M ↔ x ∈ X.take n ++ Y.take n) : M.take n = A.take n := by
  refine take_same hO n A M hA hM (fun x hx => ?_) (fun x hx => ?_)
  · rcases List.mem_append.1 ((hm x).1 hx) with k | k
    · exact (h x).2 (.inl (List.mem_of_mem_take k))
    · exact (h x).2 (.inr (List.mem_of_mem_take k))
  · rw [hm, List.mem_append]
    rcases (h x).1 (List.mem_of_mem_take hx) with k | k
    · exact .inl (take_part hO n A X hA hX (fun z hz => (h z).2 (.inl hz)) x hx k)
    · exact .inr (take_part hO n A Y hA hY (fun z hz => (h z).2 (.inr hz)) x hx k)
end

/-! ### The parts of the law -/
theorem works_ok : F73 9000000000000 = some true := by kernel_rfl
theorem good_ok : F76 9000000000000 [0, 0, 0, 0] = some true := by kernel_rfl
theorem bin_loop (F : Nat) (l : List Int) (hl : l.length ≤ 200) (hd : ∀ a ∈ l, inR .u8 a) (hF : 300 ≤ F) : ∃ L, iter (F11_l0 F l) F ([], 0) = some L ∧ Bin L ∧ L.length ≤ 200 := by
  obtain ⟨L, e, h⟩ := iter_inv (step := F11_l0 F l) (I := fun s : List Int × Int => ∃ i : Nat, s.2 = (i : Int) ∧ i ≤ l.length ∧ s.1.length = i ∧ Bin s.1) (μ := fun s => l.length - s.2.toNat) (Q := fun L => Bin L ∧ L.length ≤ 200) (by
    rintro ⟨L, s⟩ ⟨i, rfl, hi, h1, h2⟩
    simp only at h1 h2
    unfold F11_l0
    simp only
    by_cases hlt : i < l.length
    · left
      have hx := inR8 (hd _ (List.getElem_mem hlt))
      rw [if_pos (decide_eq_true (by omega)), at?_in hlt, Option.bind_some, app?_ok (by simp; omega), Option.bind_some, wsuc (by omega)]
      refine ⟨_, rfl, ⟨i + 1, rfl, by omega, by simp [h1], fun x hx2 => ?_⟩, by simp only [Int.toNat_natCast]; omega⟩
      rcases List.mem_append.1 hx2 with k | k
      · exact h2 x k
      · rw [List.mem_singleton.1 k, Int.tmod_eq_emod_of_nonneg hx.1]; omega
    · right
      rw [if_neg (by rw [decide_eq_true_eq]; omega)]
      exact ⟨_, rfl, h2, by omega⟩) F ([], 0) ⟨0, rfl, Nat.zero_le _, rfl, by intro x hx; simp at hx⟩ (by simp only [Int.toNat_zero]; omega)
  exact ⟨L, e, h⟩
/-- What is drawn by columns has weight. -/
theorem col_ok (F : Nat) (w : List Int) (S : Int) (g : GoodW w S) (b : List (Int × Int)) (hb : b.length = w.length) (ht : tblR w S b = (true, true)) (i : Nat) (hi : i < w.length) (y : Int) (hy : 0 ≤ y) (hyS : y < S) :
    ∃ o : Nat, F85 F b (i : Int) y = some ((o : Int), 0) ∧ o < w.length ∧ nx 0 w o ≠ 0 := by
  have hS := g.S
  have h12 := g.l12
  have hc : ∀ j, j < w.length → colBad S w.length b j = false ∧ tblBad w S b j = false := by
    unfold tblR at ht
    by_cases q1 : (List.range w.length).any (colBad S w.length b) = true
    · rw [if_pos q1] at ht; cases ht
    · rw [if_neg q1] at ht
      by_cases q2 : (List.range w.length).any (tblBad w S b) = true
      · rw [if_pos q2] at ht; cases ht
      · intro j hj
        constructor
        · rw [← Bool.not_eq_true]; intro k; exact q1 (any_yes hj k)
        · rw [← Bool.not_eq_true]; intro k; exact q2 (any_yes hj k)
  have hcol := fun j hj => colBad_no (hc j hj).1
  have hgv := fun j => gv_le (S := S) (n := w.length) (l := b) (k := b.length) (by omega) hS (fun q hq => (hc q (by omega)).1) j
  have hne : ∀ j, j < w.length → 0 < (cl b j).1 + gv S b b.length j → nx 0 w j ≠ 0 := by
    intro j hj hpos h0
    have := (hc j hj).2
    unfold tblBad at this
    rw [h0] at this
    simp at this; omega
  have hci := hcol i hi
  have hg := nx_get (d := ((0 : Int), (0 : Int))) (L := b) (i := i) (by omega)
  unfold F85
  rw [if_neg (by rw [Bool.or_eq_true, decide_eq_true_eq, decide_eq_true_eq]; omega), if_neg (by rw [Bool.or_eq_true, decide_eq_true_eq, decide_eq_true_eq]; omega), hg, Option.bind_some]
  by_cases q : y < (nx (0, 0) b i).1
  · rw [if_pos (decide_eq_true q)]
    have := hgv i
    exact ⟨i, rfl, hi, hne i hi (by have : (cl b i).1 = (nx (0, 0) b i).1 := rfl; omega)⟩
  · rw [if_neg (by rw [decide_eq_true_eq]; exact q), Option.bind_some]
    have e2 : (cl b i).2 = (((cl b i).2.toNat : Nat) : Int) := by omega
    refine ⟨(cl b i).2.toNat, by rw [← e2], by omega, hne _ (by omega) ?_⟩
    have h1 := (hcol (cl b i).2.toNat (by omega)).1
    have hterm := sm_term (f := fun j => if (cl b j).2 = (((cl b i).2.toNat : Nat) : Int) then S - (cl b j).1 else 0) (k := b.length) (c := i) (fun j hj => by
      have := hcol j (by omega)
      split <;> omega) (by omega)
    rw [if_pos e2] at hterm
    have : (cl b i).1 = (nx (0, 0) b i).1 := rfl
    unfold gv
    omega
def dSt (names : List E) (s : (List Int) × (List E) × (List E) × (List E) × Int) (N : Nat) : Prop :=
  Bin s.1 ∧ s.1.length ≤ 200 ∧ (∀ x ∈ s.2.1, Sh x) ∧ (∀ x, x ∈ s.2.1 ↔ x ∈ s.2.2.2.1 ∨ x ∈ s.2.2.1) ∧ s.2.1.length ≤ N ∧ s.2.2.1.length ≤ N ∧ s.2.2.2.1.length ≤ N ∧ s.2.2.2.2 = (N : Int) ∧ N + s.1.length ≤ 200
theorem draws_ok (F : Nat) (w : List Int) (names : List E) (S : Int) (g : GoodW w S) (b : List (Int × Int)) (hb : b.length = w.length) (ht : tblR w S b = (true, true)) (L : List Int) (hL : Bin L) (hLl : L.length ≤ 200) (hF : 6000 ≤ F) :
    ∃ d od ev : List E, iter (F11_l2 F w names (b, 0) S) F (L, [], [], [], 0) = some (.inl (d, od, ev)) ∧ (∀ x ∈ d, Sh x) ∧ (∀ x, x ∈ d ↔ x ∈ ev ∨ x ∈ od) ∧ d.length ≤ 200 ∧ od.length ≤ 200 ∧ ev.length ≤ 200 := by
  have hS := g.S
  have h12 := g.l12
  have h11 := g.l1
  obtain ⟨r, e, hQ⟩ := iter_inv (step := F11_l2 F w names (b, 0) S) (I := fun s => ∃ N : Nat, dSt names s N) (μ := fun s => s.1.length) (Q := fun r => ∃ d od ev : List E, r = .inl (d, od, ev) ∧ (∀ x ∈ d, Sh x) ∧ (∀ x, x ∈ d ↔ x ∈ ev ∨ x ∈ od) ∧ d.length ≤ 200 ∧ od.length ≤ 200 ∧ ev.length ≤ 200) (by
    rintro ⟨l, d, od, ev, kk⟩ ⟨N, h1, h2, h3, h4, h5, h6, h7, h8, h9⟩
    simp only at h1 h2 h3 h4 h5 h6 h7 h8 h9
    subst h8
    obtain ⟨m, hm⟩ : ∃ m : Nat, minI S 1024 = (m : Int) ∧ 1 ≤ m ∧ m ≤ 1024 ∧ (m : Int) ≤ S := by
      refine ⟨(minI S 1024).toNat, ?_⟩
      unfold minI; split <;> omega
    obtain ⟨hm1, hm2, hm3, hm4⟩ := hm
    obtain ⟨row, er, hr⟩ := row_ok F l w.length m h1 h2 h11 (by omega) hm2 hm3 (by omega) (fun r hr => (F165_le (by omega : 40 ≤ F) _).up r hr) (fun r hr => (F165_le (by omega : 40 ≤ F) _).up r hr)
    unfold F11_l2
    simp only
    rw [hm1, er, Option.bind_some]
    by_cases q : ((((row.2.2 != 0) || ((row.1.length : Int) != 2)) || (decide (row.2.1 < 1))) || (decide (row.2.1 > (l.length : Int)))) = true
    · right
      rw [if_pos q]
      exact ⟨_, rfl, d, od, ev, rfl, h3, h4, by omega, by omega, by omega⟩
    · left
      rw [if_neg q]
      simp only [Bool.or_eq_true, bne_iff_ne, ne_eq, decide_eq_true_eq, not_or, Decidable.not_not] at q
      obtain ⟨⟨⟨q1, q2⟩, q3⟩, q4⟩ := q
      obtain ⟨x, y, exy, hx0, hxn, hy0, hym⟩ := hr q1
      obtain ⟨i, rfl⟩ : ∃ i : Nat, x = (i : Int) := ⟨x.toNat, by omega⟩
      obtain ⟨u, eu⟩ : ∃ u : Nat, row.2.1 = (u : Int) := ⟨row.2.1.toNat, by omega⟩
      rw [eu, sub?_from (by omega), Option.bind_some, exy, show at? [(i : Int), y] 0 = some (i : Int) from rfl, Option.bind_some, show at? [(i : Int), y] 1 = some y from rfl, Option.bind_some]
      obtain ⟨o, eo, ho, hno⟩ := col_ok F w S g b hb ht i (by omega) y hy0 (by omega)
      rw [eo, Option.bind_some]
      simp only
      rw [if_neg (by simp only [bne_self_eq_false, Bool.false_or, Bool.or_eq_true, decide_eq_true_eq]; omega), nx_get (d := 0) ho, Option.bind_some]
      simp only [Option.bind_some]
      rw [if_neg (by simpa using hno)]
      have hd1 : Bin (l.drop u) := h1.drop u
      have hd2 : (l.drop u).length + u = l.length := by rw [List.length_drop]; omega
      have hstay : dSt names (l.drop u, d, od, ev, ((N + 1 : Nat) : Int)) (N + 1) := ⟨hd1, by simp only; omega, h3, h4, by simp only; omega, by simp only; omega, by simp only; omega, rfl, by simp only; omega⟩
      by_cases hin : o < names.length
      · rw [if_pos (decide_eq_true (by omega)), nx_get (d := e0) hin]
        simp only [Option.bind_some]
        by_cases hsh : ((nx e0 names o).length : Int) ≤ 12
        · rw [if_pos (decide_eq_true hsh), app?_ok (by simp; omega)]
          simp only [Option.bind_some]
          have hS12 : Sh (nx e0 names o) := by unfold Sh; omega
          have hall : ∀ x ∈ d ++ [nx e0 names o], Sh x := fun x hx => by
            rcases List.mem_append.1 hx with k | k
            · exact h3 x k
            · rw [List.mem_singleton.1 k]; exact hS12
          rw [wsuc (by omega), app?_ok (by simp; omega), app?_ok (by simp; omega)]
          simp only [Option.bind_some]
          by_cases hpar : (Int.tmod (N : Int) 2 == 0) = true
          · rw [if_pos hpar]
            refine ⟨_, rfl, ⟨N + 1, hd1, by simp only; omega, hall, fun x => ?_, by simp; omega, by simp only; omega, by simp; omega, rfl, by simp only; omega⟩, by simp only; omega⟩
            simp only [List.mem_append, h4 x]
            constructor
            · rintro ((k | k) | k)
              · exact .inl (.inl k)
              · exact .inr k
              · exact .inl (.inr k)
            · rintro ((k | k) | k)
              · exact .inl (.inl k)
              · exact .inr k
              · exact .inl (.inr k)
          · rw [if_neg hpar]
            refine ⟨_, rfl, ⟨N + 1, hd1, by simp only; omega, hall, fun x => ?_, by simp; omega, by simp; omega, by simp only; omega, rfl, by simp only; omega⟩, by simp only; omega⟩
            simp only [List.mem_append, h4 x]
            constructor
            · rintro ((k | k) | k)
              · exact .inl k
              · exact .inr (.inl k)
              · exact .inr (.inr k)
            · rintro (k | k | k)
              · exact .inl (.inl k)
              · exact .inl (.inr k)
              · exact .inr k
        · rw [if_neg (by rw [decide_eq_true_eq]; exact hsh), wsuc (by omega)]
          exact ⟨_, rfl, ⟨N + 1, hstay⟩, by simp only; omega⟩
      · rw [if_neg (by rw [decide_eq_true_eq]; omega)]
        simp only [Option.bind_some, Bool.false_eq_true, if_false]
        rw [wsuc (by omega)]
        exact ⟨_, rfl, ⟨N + 1, hstay⟩, by simp only; omega⟩) F (L, [], [], [], 0) ⟨0, hL, hLl, by simp, by simp, by simp, by simp, by simp, rfl, by simp only; omega⟩ (by simp only; omega)
  obtain ⟨d, od, ev, rfl, h⟩ := hQ
  exact ⟨d, od, ev, e, h⟩
theorem law (F : Nat) (x : List Int) (w : List Int) (names : List E) (hd : ∀ a ∈ x, inR .u8 a) (hF : 9000000000000 ≤ F) (hw : F73 F = some true) (hg : F76 F [0, 0, 0, 0] = some true) : F11 F x w names = some true := by
  obtain ⟨lt, hO⟩ := ord_ex
  unfold F11
  have hmin : minI (x.length : Int) 200 = ((min x.length 200 : Nat) : Int) := by unfold minI; split <;> omega
  rw [hmin, sub?_to (Nat.min_le_left _ _), Option.bind_some]
  obtain ⟨L, eL, hL, hLl⟩ := bin_loop F (x.take (min x.length 200)) (by rw [List.length_take]; omega) (fun a ha => hd a (List.mem_of_mem_take ha)) (by omega)
  rw [eL, Option.bind_some]
  rcases weights_one F w (by omega) with ⟨e, he, c⟩ | ⟨S, c, g⟩
  · have hB : F83 F w = some ([], e) := by
      unfold F83
      rw [c, Option.bind_some, if_pos (by simpa using he)]
    rw [hB, Option.bind_some, hw, Option.bind_some, if_pos (by simp [he]), Option.bind_some]
    simp [he]
  · obtain ⟨b, eb, hbl, hbt⟩ := build_eq F w S g c (by omega)
    rw [eb, Option.bind_some, hw, Option.bind_some, if_neg (by simp [hbl])]
    have hsum : iter (F11_l1 F w) F (0, 0) = some S := sumW F w S g (by omega) _ (fun s => rfl)
    rw [hsum, Option.bind_some]
    obtain ⟨d, od, ev, ed, h1, h2, h3, h4, h5⟩ := draws_ok F w names S g b hbl hbt L hL hLl (by omega)
    rw [ed, Option.bind_some]
    simp only
    have hev : ∀ x ∈ ev, Sh x := fun x hx => h1 x ((h2 x).2 (.inl hx))
    have hod : ∀ x ∈ od, Sh x := fun x hx => h1 x ((h2 x).2 (.inr hx))
    have of4 : ∀ l : List E, (∀ x ∈ l, Sh x) → l.length ≤ 200 → ∃ M : List E, F58 F 4 l = some ((4, M.take 4), 0) ∧ M.Pairwise (Rl lt) ∧ ∀ x, x ∈ M ↔ x ∈ l := by
      intro l hsh hl
      rcases of_eq hO F 4 l (by omega) (by omega) with ⟨k, _⟩ | ⟨_, ⟨x, hx, k⟩, _⟩ | ⟨_, _, M, e, k1, k2⟩
      · omega
      · exact absurd (hsh x hx) k
      · exact ⟨M, e, k1, k2⟩
    obtain ⟨A, eA, a1, a2⟩ := of4 d h1 h3
    obtain ⟨X, eX, x1, x2⟩ := of4 ev hev h5
    obtain ⟨Y, eY, y1, y2⟩ := of4 od hod h4
    rw [eA, eX, eY]
    simp only [Option.bind_some]
    have hchk : ∀ (M l : List E), M.Pairwise (Rl lt) → (∀ x, x ∈ M ↔ x ∈ l) → (∀ x ∈ l, Sh x) → F67 F (4, M.take 4) = some 0 := by
      intro M l hM hm hsh
      obtain ⟨c, _, e2, _, h0⟩ := check_eq hO F 4 (M.take 4) (by omega)
      have := h0 ⟨by decide, by decide, by rw [List.length_take]; omega, fun x hx => hsh x ((hm x).1 (List.mem_of_mem_take hx)), hM.sublist (List.take_sublist 4 M)⟩
      rw [e2, this]
    obtain ⟨c, ⟨ca, s1, _, hc⟩, hj1, hj2⟩ := join_eq hO F 4 4 (X.take 4) (Y.take 4) (by omega)
    rw [hchk X ev x1 x2 hev] at s1
    obtain rfl := someI s1
    have hc0 : c = 0 := by
      rcases hc with ⟨q, _⟩ | ⟨_, cb, s2, q⟩
      · exact absurd rfl q
      · rw [hchk Y od y1 y2 hod] at s2
        obtain rfl := someI s2
        rcases q with ⟨q, _⟩ | ⟨_, q | q⟩
        · exact absurd rfl q
        · exact absurd rfl q.1
        · exact q.2
    obtain ⟨_, _, _, M, hJ, hM, hm⟩ := hj2 hc0
    rw [hJ]
    simp only [Option.bind_some]
    rw [hg]
    simp only [Option.bind_some, if_true]
    have hpe : M.take 4 = A.take 4 := parts_eq hO 4 A X Y M a1 x1 y1 hM (fun x => by rw [a2 x, h2 x, x2 x, y2 x]) hm
    have h4' : (A.take 4).length ≤ 4 := by rw [List.length_take]; omega
    rw [show ((4 : Int).toNat) = 4 from rfl, hpe, seq_eq F _ _ (by omega) (by omega)]
    simp
end drw
theorem PtopDraw.holds (t0 : List (Int)) (t1 : List (Int)) (t2 : List (List UInt8)) (h0 : (t0.length ≤ maxLen ∧ ∀ a ∈ t0, inR .u8 a)) (h1 : (t1.length ≤ maxLen ∧ ∀ a ∈ t1, inR .i64 a)) (h2 : (t2.length ≤ maxLen ∧ ∀ a ∈ t2, a.length ≤ maxLen)) : ∃ F, F11 F t0 t1 t2 = some true :=
  ⟨9000000000000, drw.law _ t0 t1 t2 h0.2 (Nat.le_refl _) drw.works_ok drw.good_ok⟩
end Go.Proofs.Ytihmliblbhjlaaa

/- The two checks of rows. -/
import Derived.Test.YtihmliblbhjlaaaTabD
set_option linter.unusedVariables false
set_option linter.unusedSimpArgs false
namespace Go.Proofs.Ytihmliblbhjlaaa
open Go.Am

def WkS (r : List Int) : Prop := ∀ k, 0 < k → k < r.length → nx 0 r (k - 1) ≤ nx 0 r k
def Col (t : List (List Int)) (i : Nat) : Prop := (nx [] t i).length ≤ (nx [] t (i - 1)).length ∧ ∀ c, c < (nx [] t i).length → nx 0 (nx [] t (i - 1)) c ≤ nx 0 (nx [] t i) c
structure RowOk (t : List (List Int)) (i : Nat) : Prop where
  ne : (nx [] t i).length ≠ 0
  ws : WkS (nx [] t i)
  col : 0 < i → Col t i
def GoodTab (t : List (List Int)) : Prop := GoodP t.flatten ∧ ∀ i, i < t.length → RowOk t i
open Classical in
noncomputable def tabE (t : List (List Int)) : Int := if t.flatten.length > 10 ∨ t.length > 10 then 2 else if GoodTab t then 0 else 3

theorem srt_of {r : List Int} (h : WkS r) (hn : r.Nodup) : Srt r := by
  have step : ∀ k, k + 1 < r.length → nx 0 r k < nx 0 r (k + 1) := fun k hk => by
    have h1 := h (k + 1) (by omega) hk
    rw [Nat.add_sub_cancel] at h1
    have h2 : nx 0 r k ≠ nx 0 r (k + 1) := by
      rw [nx_eq (by omega), nx_eq hk]
      exact (List.pairwise_iff_getElem.1 hn) k (k + 1) (by omega) hk (by omega)
    omega
  intro a b hab hb
  obtain ⟨d, rfl⟩ : ∃ d, b = a + (d + 1) := ⟨b - a - 1, by omega⟩
  clear hab
  induction d with
  | zero => exact step a hb
  | succ d ih => exact Int.lt_trans (ih (by omega)) (step (a + (d + 1)) (by omega))
theorem std_of : ∀ (t : List (List Int)), (∀ i, i < t.length → RowOk t i) → t.flatten.Nodup → Std t
  | [], _, _ => trivial
  | r :: t, h, hn => by
    rw [List.flatten_cons, List.nodup_append] at hn
    obtain ⟨n1, n2, n3⟩ := hn
    have h0 := h 0 (by simp)
    refine ⟨srt_of h0.ws n1, ?_, std_of t (fun i hi => ?_) n2⟩
    · cases t with
      | nil => exact ⟨by simp [nx], fun c hc => by simp [nx] at hc⟩
      | cons s t =>
        have h1 := (h 1 (by simp)).col (by omega)
        refine ⟨h1.1, fun c hc => ?_⟩
        have hc : c < s.length := hc
        have h2 : nx 0 r c ≤ nx 0 s c := h1.2 c hc
        have hl : s.length ≤ r.length := h1.1
        have h3 : nx 0 r c ≠ nx 0 s c := n3 _ (nx_mem (by omega)) _ (by rw [List.flatten_cons]; exact List.mem_append_left _ (nx_mem hc))
        show nx 0 r c < nx 0 s c
        omega
    · have h1 := h (i + 1) (by simpa using hi)
      refine ⟨h1.ne, h1.ws, fun hi0 => ?_⟩
      have := h1.col (by omega)
      obtain ⟨j, rfl⟩ : ∃ j, i = j + 1 := ⟨i - 1, by omega⟩
      exact this

theorem isSorted_eq (F : Nat) (r : List Int) (hF : r.length < F) (hl : r.length ≤ 1000000) : ∃ b, F106 F r = some b ∧ (b = true ↔ WkS r) := by
  unfold F106
  obtain ⟨b, hb, hQ⟩ := iter_inv (step := F106_l0 F r) (I := fun s : Int => ∃ m : Nat, s = (m : Int) - 1 ∧ m ≤ r.length ∧ ∀ k, m ≤ k → 0 < k → k < r.length → nx 0 r (k - 1) ≤ nx 0 r k) (μ := fun s => (s + 1).toNat)
    (Q := fun b : Unit ⊕ Bool => (b = .inl () ∧ WkS r) ∨ b = .inr false ∧ ¬ WkS r) (by
      rintro s ⟨m, rfl, hm, hk⟩
      unfold F106_l0
      by_cases h1 : 1 < m
      · obtain ⟨k, rfl⟩ : ∃ k, m = k + 2 := ⟨m - 2, by omega⟩
        rw [show ((k + 2 : Nat) : Int) - 1 = ((k + 1 : Nat) : Int) from by omega, if_pos (decide_eq_true (by omega)), nx_get (d := 0) (by omega : k + 1 < r.length), wpred (by omega) (by omega), nx_get (d := 0) (by omega : k + 1 - 1 < r.length)]
        simp only [Option.bind_some]
        unfold F151 F167
        simp only [Option.bind_some]
        rw [show ((nx 0 r (k + 1)) != (nx 0 r (k + 1))) = false from by simp]
        simp only [Bool.false_eq_true, if_false, Option.bind_some, Bool.false_or]
        by_cases hc : nx 0 r (k + 1) < nx 0 r (k + 1 - 1)
        · right
          rw [if_pos (decide_eq_true hc)]
          refine ⟨_, rfl, .inr ⟨rfl, fun hw => ?_⟩⟩
          have := hw (k + 1) (by omega) (by omega)
          omega
        · left
          rw [if_neg (by rw [decide_eq_true_eq]; exact hc)]
          refine ⟨_, rfl, ⟨k + 1, by omega, by omega, fun j hj h0 hjl => ?_⟩, by omega⟩
          by_cases e : j = k + 1
          · rw [e]; omega
          · exact hk j (by omega) h0 hjl
      · right
        rw [if_neg (by rw [decide_eq_true_eq]; omega)]
        exact ⟨_, rfl, .inl ⟨rfl, fun k h0 hkl => hk k (by omega) h0 hkl⟩⟩) F (wrapA .i64 ((r.length : Int) - 1)) ⟨r.length, by rw [w64 (by omega) (by omega)], Nat.le_refl _, fun k h1 h2 h3 => by omega⟩ (by rw [w64 (by omega) (by omega)]; omega)
  rw [hb]
  simp only [Option.bind_some]
  rcases hQ with ⟨rfl, h⟩ | ⟨rfl, h⟩
  · exact ⟨true, rfl, by simp [h]⟩
  · exact ⟨false, rfl, by simp [h]⟩

theorem take_flat {t : List (List Int)} {i : Nat} (hi : i < t.length) : (t.take (i + 1)).flatten = (t.take i).flatten ++ nx [] t i := by
  have e : t.take (i + 1) = t.take i ++ [nx [] t i] := by rw [List.take_add_one, List.getElem?_eq_getElem hi, nx_eq hi]; rfl
  rw [e, List.flatten_append]; simp
theorem flat_take_le (t : List (List Int)) (i : Nat) : (t.take i).flatten.length ≤ t.flatten.length := by
  have e : t.flatten = (t.take i).flatten ++ (t.drop i).flatten := by rw [← List.flatten_append, List.take_append_drop]
  rw [e, List.length_append]; omega

theorem col_loop (F : Nat) (hF : 100 ≤ F) (t : List (List Int)) (i : Nat) (hi : i < t.length) (hl : (nx [] t i).length ≤ 20) (hp : 0 < i → (nx [] t i).length ≤ (nx [] t (i - 1)).length) (ht : t.length ≤ 20) :
    ∃ b, iter (F30_l1 F t (i : Int) (nx [] t i)) F 0 = some b ∧ ((b = .inl () ∧ (0 < i → Col t i)) ∨ (b = .inr 3 ∧ ¬ (0 < i → Col t i))) := by
  obtain ⟨b, hb, hQ⟩ := iter_inv (step := F30_l1 F t (i : Int) (nx [] t i)) (I := fun s : Int => ∃ k : Nat, s = (k : Int) ∧ k ≤ (nx [] t i).length ∧ (0 < i → ∀ c, c < k → nx 0 (nx [] t (i - 1)) c ≤ nx 0 (nx [] t i) c)) (μ := fun s => (nx [] t i).length - s.toNat)
    (Q := fun b : Unit ⊕ Int => (b = .inl () ∧ (0 < i → Col t i)) ∨ (b = .inr 3 ∧ ¬ (0 < i → Col t i))) (by
      rintro s ⟨k, rfl, hk, hc⟩
      unfold F30_l1
      by_cases hlt : k < (nx [] t i).length
      · rw [if_pos (decide_eq_true (by omega)), nx_get (d := 0) hlt]
        simp only [Option.bind_some]
        by_cases h0 : 0 < i
        · have := hp h0
          rw [if_pos (decide_eq_true (by omega)), wpred h0 (by omega), nx_get (d := []) (by omega : i - 1 < t.length)]
          simp only [Option.bind_some]
          rw [nx_get (d := 0) (by omega : k < (nx [] t (i - 1)).length)]
          simp only [Option.bind_some]
          by_cases hx : nx 0 (nx [] t (i - 1)) k > nx 0 (nx [] t i) k
          · right
            rw [if_pos (decide_eq_true hx)]
            refine ⟨_, rfl, .inr ⟨rfl, fun hcol => ?_⟩⟩
            have := (hcol h0).2 k hlt
            omega
          · left
            rw [if_neg (by rw [decide_eq_true_eq]; exact hx), wsuc (by omega)]
            refine ⟨_, rfl, ⟨k + 1, rfl, hlt, fun _ c hcc => ?_⟩, by simp only [Int.toNat_natCast]; omega⟩
            by_cases e : c = k
            · rw [e]; omega
            · exact hc h0 c (by omega)
        · left
          rw [if_neg (by rw [decide_eq_true_eq]; omega)]
          simp only [Option.bind_some]
          rw [if_neg (by decide), wsuc (by omega)]
          exact ⟨_, rfl, ⟨k + 1, rfl, hlt, fun h => absurd h h0⟩, by simp only [Int.toNat_natCast]; omega⟩
      · right
        rw [if_neg (by rw [decide_eq_true_eq]; omega)]
        exact ⟨_, rfl, .inl ⟨rfl, fun h0 => ⟨hp h0, fun c hcc => hc h0 c (by omega)⟩⟩⟩) F 0 ⟨0, rfl, by omega, fun _ c h => by omega⟩ (by simp only [Int.toNat_zero]; omega)
  exact ⟨b, hb, hQ⟩
theorem err_eq (F : Nat) (hF : 2000000 ≤ F) (t : List (List Int)) (hb : t.flatten.length + t.length ≤ 1048576) : F30 F t = some (tabE t) := by
  unfold F30
  have l0 := iter_count (step := F30_l0 F t) (F := F) (P := fun k => ((t.take k).flatten, (k : Int))) (b := t.flatten) t.length (fun k hk => by
    have h1 := flat_take_le t (k + 1)
    rw [take_flat hk, List.length_append] at h1
    unfold F30_l0
    simp only
    rw [if_pos (decide_eq_true (by omega)), nx_get (d := []) hk, Option.bind_some, app?_ok (by omega), Option.bind_some, wsuc (by omega), take_flat hk]) (by
    unfold F30_l0
    simp only
    rw [if_neg (by rw [decide_eq_true_eq]; omega), List.take_length]) (by omega)
  rw [show (([], 0) : List Int × Int) = (fun k : Nat => ((t.take k).flatten, (k : Int))) 0 from rfl, l0, Option.bind_some]
  unfold tabE
  by_cases hbig : t.flatten.length > 10 ∨ t.length > 10
  · rw [if_pos hbig, if_pos (by simp only [Bool.or_eq_true, decide_eq_true_eq]; omega)]
  rw [if_neg hbig, if_neg (by simp only [Bool.or_eq_true, decide_eq_true_eq]; omega), permErr_eq F _ (by omega), Option.bind_some]
  have hrow : ∀ i, i < t.length → (nx [] t i).length ≤ 10 := fun i hi => by have := row_le t _ (nx_mem (d := []) hi); omega
  by_cases hg : GoodP t.flatten
  · have e0 : permE t.flatten = 0 := by unfold permE; rw [if_neg (by omega), if_pos hg]
    rw [e0, if_neg (by decide)]
    obtain ⟨b, hb2, hQ⟩ := iter_inv (step := F30_l2 F t) (I := fun s : Int => ∃ i : Nat, s = (i : Int) ∧ i ≤ t.length ∧ ∀ j, j < i → RowOk t j) (μ := fun s => t.length - s.toNat)
      (Q := fun b : Unit ⊕ Int => (b = .inl () ∧ ∀ j, j < t.length → RowOk t j) ∨ (b = .inr 3 ∧ ¬ ∀ j, j < t.length → RowOk t j)) (by
        rintro s ⟨i, rfl, hi, hr⟩
        unfold F30_l2
        by_cases hlt : i < t.length
        · have hrl := hrow i hlt
          obtain ⟨sb, hs, hsw⟩ := isSorted_eq F (nx [] t i) (by omega) (by omega)
          rw [if_pos (decide_eq_true (by omega)), nx_get (d := []) hlt]
          simp only [Option.bind_some]
          by_cases hne : (nx [] t i).length = 0
          · right
            rw [if_pos (by simpa using hne)]
            simp only [Option.bind_some, if_true]
            exact ⟨_, rfl, .inr ⟨rfl, fun hall => (hall i hlt).ne hne⟩⟩
          · rw [if_neg (by simpa using hne), hs]
            simp only [Option.bind_some]
            by_cases hsb : sb = true
            · rw [if_neg (by simp [hsb])]
              have key : ∃ q, (if (decide ((i : Int) > 0)) = true then ((at? t (wrapA .i64 ((i : Int) - 1))).bind fun L54 => some (decide (((nx [] t i).length : Int) > (L54.length : Int)))) else some false : Option Bool) = some q ∧ (q = false ↔ (0 < i → (nx [] t i).length ≤ (nx [] t (i - 1)).length)) := by
                by_cases h0 : 0 < i
                · rw [if_pos (decide_eq_true (by omega)), wpred h0 (by omega), nx_get (d := []) (by omega : i - 1 < t.length)]
                  exact ⟨_, rfl, by rw [decide_eq_false_iff_not]; omega⟩
                · rw [if_neg (by rw [decide_eq_true_eq]; omega)]
                  exact ⟨_, rfl, by simp; omega⟩
              obtain ⟨q, hq, hqi⟩ := key
              rw [hq]
              simp only [Option.bind_some]
              by_cases hqt : q = true
              · right
                rw [if_pos hqt]
                refine ⟨_, rfl, .inr ⟨rfl, fun hall => ?_⟩⟩
                have : q = false := hqi.2 fun h0 => ((hall i hlt).col h0).1
                rw [this] at hqt; cases hqt
              · rw [if_neg hqt]
                have hqf := hqi.1 (by simpa using hqt)
                obtain ⟨b, hb3, hQ3⟩ := col_loop F (by omega) t i hlt (by omega) hqf (by omega)
                rw [hb3]
                simp only [Option.bind_some]
                rcases hQ3 with ⟨rfl, hc⟩ | ⟨rfl, hc⟩
                · left
                  rw [wsuc (by omega)]
                  refine ⟨_, rfl, ⟨i + 1, rfl, hlt, fun j hj => ?_⟩, by simp only [Int.toNat_natCast]; omega⟩
                  by_cases e : j = i
                  · rw [e]; exact ⟨hne, hsw.1 hsb, hc⟩
                  · exact hr j (by omega)
                · right
                  exact ⟨_, rfl, .inr ⟨rfl, fun hall => hc (hall i hlt).col⟩⟩
            · right
              rw [if_pos (by simpa using hsb)]
              simp only [Option.bind_some]
              refine ⟨_, rfl, .inr ⟨rfl, fun hall => hsb (hsw.2 (hall i hlt).ws)⟩⟩
        · right
          rw [if_neg (by rw [decide_eq_true_eq]; omega)]
          exact ⟨_, rfl, .inl ⟨rfl, fun j hj => hr j (by omega)⟩⟩) F 0 ⟨0, rfl, by omega, fun j h => by omega⟩ (by simp only [Int.toNat_zero]; omega)
    rw [hb2]
    simp only [Option.bind_some]
    rcases hQ with ⟨rfl, h⟩ | ⟨rfl, h⟩
    · rw [if_pos (show GoodTab t from ⟨hg, h⟩)]
    · rw [if_neg (show ¬ GoodTab t from fun q => h q.2)]
  · have e0 : permE t.flatten = 3 := by unfold permE; rw [if_neg (by omega), if_neg hg]
    rw [e0, if_pos (by decide), if_neg (show ¬ GoodTab t from fun q => hg q.1)]

/-! ### The program's own -/
theorem nd_app {D : List Int} {x : Int} (h : D.Nodup) (hx : x ∉ D) : (D ++ [x]).Nodup := by
  rw [List.nodup_append]
  refine ⟨h, by simp, fun a ha b hb => ?_⟩
  simp at hb; subst hb
  intro e; exact hx (e ▸ ha)
theorem pre_sub (t : List (List Int)) {i k : Nat} (hi : i < t.length) : ((t.take i).flatten ++ (nx [] t i).take k).Sublist t.flatten := by
  have e : t.flatten = (t.take i).flatten ++ (nx [] t i ++ (t.drop (i + 1)).flatten) := by
    have : t = t.take i ++ nx [] t i :: t.drop (i + 1) := split_at hi
    have h2 : t.flatten = (t.take i ++ nx [] t i :: t.drop (i + 1)).flatten := by rw [← this]
    rw [h2, List.flatten_append, List.flatten_cons]
  rw [e]
  exact List.Sublist.append_left ((List.take_sublist _ _).trans (List.sublist_append_left _ _)) _
theorem row_loop (F : Nat) (hF : 100 ≤ F) (t : List (List Int)) (hn10 : t.flatten.length ≤ 10) (ht : t.length ≤ 10) (i : Nat) (hi : i < t.length) (sb : List Bool) (hp : 0 < i → (nx [] t i).length ≤ (nx [] t (i - 1)).length) (hn : (t.take i).flatten.Nodup) (hr : ∀ x ∈ (t.take i).flatten, 0 ≤ x ∧ x < t.flatten.length) :
    ∃ b, iter (F29_l1 F t (t.flatten.length : Int) ((i : Int), sb) (nx [] t i)) F (0, seen (t.take i).flatten) = some b ∧
      ((b = .inl (seen (t.take (i + 1)).flatten) ∧ (t.take (i + 1)).flatten.Nodup ∧ (∀ x ∈ (t.take (i + 1)).flatten, 0 ≤ x ∧ x < t.flatten.length) ∧ WkS (nx [] t i) ∧ (0 < i → Col t i)) ∨ (b = .inr 3 ∧ ¬ GoodTab t)) := by
  have hrl : (nx [] t i).length ≤ 10 := by have := row_le t _ (nx_mem (d := []) hi); omega
  rw [take_flat hi]
  generalize hD : (t.take i).flatten = D at hn hr ⊢
  obtain ⟨b, hb, hQ⟩ := iter_inv (step := F29_l1 F t (t.flatten.length : Int) ((i : Int), sb) (nx [] t i)) (I := fun s : Int × List Bool => ∃ k : Nat, s = ((k : Int), seen (D ++ (nx [] t i).take k)) ∧ k ≤ (nx [] t i).length ∧ (D ++ (nx [] t i).take k).Nodup ∧ (∀ x ∈ D ++ (nx [] t i).take k, 0 ≤ x ∧ x < t.flatten.length) ∧ (∀ c, 0 < c → c < k → nx 0 (nx [] t i) (c - 1) ≤ nx 0 (nx [] t i) c) ∧ (0 < i → ∀ c, c < k → nx 0 (nx [] t (i - 1)) c ≤ nx 0 (nx [] t i) c)) (μ := fun s => (nx [] t i).length - s.1.toNat)
    (Q := fun b : List Bool ⊕ Int => (b = .inl (seen (D ++ nx [] t i)) ∧ (D ++ nx [] t i).Nodup ∧ (∀ x ∈ D ++ nx [] t i, 0 ≤ x ∧ x < t.flatten.length) ∧ WkS (nx [] t i) ∧ (0 < i → Col t i)) ∨ (b = .inr 3 ∧ ¬ GoodTab t)) (by
      rintro s ⟨k, rfl, hk, h1, h2, h3, h4⟩
      unfold F29_l1
      simp only
      by_cases hlt : k < (nx [] t i).length
      · have htk : (nx [] t i).take (k + 1) = (nx [] t i).take k ++ [nx 0 (nx [] t i) k] := take_nx' hlt
        have hxm : nx 0 (nx [] t i) k ∈ t.flatten := mem_flat hi hlt
        have hsub := pre_sub t (k := k + 1) hi
        rw [hD, htk, ← List.append_assoc] at hsub
        rw [if_pos (decide_eq_true (by omega)), nx_get (d := 0) hlt]
        simp only [Option.bind_some]
        generalize hx : nx 0 (nx [] t i) k = x at *
        by_cases c1 : x < 0 ∨ x ≥ (t.flatten.length : Int)
        · right
          rw [if_pos (by simpa using c1)]
          simp only [Option.bind_some, if_true]
          refine ⟨_, rfl, .inr ⟨rfl, fun hg => ?_⟩⟩
          have := hg.1.2 x hxm
          omega
        · rw [if_neg (by simpa using c1), seen_at _ (by omega) (by omega)]
          simp only [Option.bind_some]
          by_cases c2 : x ∈ D ++ (nx [] t i).take k
          · right
            rw [decide_eq_true c2]
            simp only [Option.bind_some, if_true]
            refine ⟨_, rfl, .inr ⟨rfl, fun hg => ?_⟩⟩
            have := hg.1.1.sublist hsub
            rw [List.nodup_append] at this
            exact this.2.2 x c2 x (by simp) rfl
          · rw [decide_eq_false c2]
            simp only [Bool.false_eq_true, if_false]
            have k3 : ∃ q, (if decide ((k : Int) > 0) = true then ((at? (nx [] t i) (wrapA .i64 ((k : Int) - 1))).bind fun x60 => some (decide (x < x60))) else some false : Option Bool) = some q ∧ (q = true ↔ 0 < k ∧ x < nx 0 (nx [] t i) (k - 1)) := by
              by_cases h0 : 0 < k
              · rw [if_pos (decide_eq_true (by omega)), wpred h0 (by omega), nx_get (d := 0) (by omega : k - 1 < (nx [] t i).length)]
                exact ⟨_, rfl, by rw [decide_eq_true_eq]; omega⟩
              · rw [if_neg (by rw [decide_eq_true_eq]; omega)]
                exact ⟨_, rfl, by simp; omega⟩
            obtain ⟨q3, e3, i3⟩ := k3
            rw [e3]
            simp only [Option.bind_some]
            by_cases c3 : q3 = true
            · right
              rw [if_pos c3]
              simp only [Option.bind_some, if_true]
              refine ⟨_, rfl, .inr ⟨rfl, fun hg => ?_⟩⟩
              have a1 := i3.1 c3
              have a2 := (hg.2 i hi).ws k a1.1 hlt
              rw [hx] at a2; omega
            · rw [if_neg c3]
              have k4 : ∃ q, (if decide ((i : Int) > 0) = true then ((at? t (wrapA .i64 ((i : Int) - 1))).bind fun L68 => (at? L68 (k : Int)).bind fun x72 => some (decide (x < x72))) else some false : Option Bool) = some q ∧ (q = true ↔ 0 < i ∧ x < nx 0 (nx [] t (i - 1)) k) := by
                by_cases h0 : 0 < i
                · have := hp h0
                  rw [if_pos (decide_eq_true (by omega)), wpred h0 (by omega), nx_get (d := []) (by omega : i - 1 < t.length)]
                  simp only [Option.bind_some]
                  rw [nx_get (d := 0) (by omega : k < (nx [] t (i - 1)).length)]
                  exact ⟨_, rfl, by rw [decide_eq_true_eq]; omega⟩
                · rw [if_neg (by rw [decide_eq_true_eq]; omega)]
                  exact ⟨_, rfl, by simp; omega⟩
              obtain ⟨q4, e4, i4⟩ := k4
              rw [e4]
              simp only [Option.bind_some]
              by_cases c4 : q4 = true
              · right
                rw [if_pos c4]
                refine ⟨_, rfl, .inr ⟨rfl, fun hg => ?_⟩⟩
                have a1 := i4.1 c4
                have a2 := ((hg.2 i hi).col a1.1).2 k hlt
                rw [hx] at a2; omega
              · left
                obtain ⟨v, hv⟩ : ∃ v : Nat, x = (v : Int) := ⟨x.toNat, by omega⟩
                rw [if_neg c4, show ck (seen (D ++ (nx [] t i).take k)) x = some () from by rw [hv]; exact ck_ok (by simp [seen]; omega)]
                simp only [Option.bind_some]
                rw [wsuc (by omega), seen_set _ (by omega) (by omega), List.append_assoc, ← htk]
                refine ⟨_, rfl, ⟨k + 1, rfl, hlt, ?_, ?_, ?_, ?_⟩, by simp only [Int.toNat_natCast]; omega⟩
                · rw [htk, ← List.append_assoc]; exact nd_app h1 c2
                · intro y hy
                  rw [htk, ← List.append_assoc] at hy
                  rcases List.mem_append.1 hy with hy | hy
                  · exact h2 y hy
                  · simp at hy; subst hy; omega
                · intro c hc0 hc
                  by_cases e : c = k
                  · rw [e, hx]
                    have : ¬ (0 < k ∧ x < nx 0 (nx [] t i) (k - 1)) := fun h => c3 (i3.2 h)
                    omega
                  · exact h3 c hc0 (by omega)
                · intro h0 c hc
                  by_cases e : c = k
                  · rw [e, hx]
                    have : ¬ (0 < i ∧ x < nx 0 (nx [] t (i - 1)) k) := fun h => c4 (i4.2 h)
                    omega
                  · exact h4 h0 c (by omega)
      · right
        have ek : k = (nx [] t i).length := by omega
        subst ek
        rw [List.take_length] at h1 h2 ⊢
        rw [if_neg (by rw [decide_eq_true_eq]; omega)]
        exact ⟨_, rfl, .inl ⟨rfl, h1, h2, fun c h0 hc => h3 c h0 hc, fun h0 => ⟨hp h0, fun c hc => h4 h0 c hc⟩⟩⟩) F (0, seen D) ⟨0, by simp, by omega, by simpa using hn, by simpa using hr, fun c _ h => by omega, fun _ c h => by omega⟩ (by simp only [Int.toNat_zero]; omega)
  exact ⟨b, hb, hQ⟩
theorem tcheck_eq (F : Nat) (hF : 2000000 ≤ F) (t : List (List Int)) (hb : t.flatten.length + t.length ≤ 1048576) : F29 F t = some (tabE t) := by
  unfold F29
  have l0 := iter_count (step := F29_l0 F t) (F := F) (P := fun k => (((t.take k).flatten.length : Int), (k : Int))) (b := (t.flatten.length : Int)) t.length (fun k hk => by
    have h1 := flat_take_le t (k + 1)
    rw [take_flat hk, List.length_append] at h1
    unfold F29_l0
    simp only
    rw [if_pos (decide_eq_true (by omega)), nx_get (d := []) hk, Option.bind_some, wadd (by omega), wsuc (by omega), take_flat hk, List.length_append]) (by
    unfold F29_l0
    simp only
    rw [if_neg (by rw [decide_eq_true_eq]; omega), List.take_length]) (by omega)
  rw [show ((0, 0) : Int × Int) = (fun k : Nat => (((t.take k).flatten.length : Int), (k : Int))) 0 from rfl, l0, Option.bind_some]
  unfold tabE
  by_cases hbig : t.flatten.length > 10 ∨ t.length > 10
  · rw [if_pos hbig, if_pos (by simp only [Bool.or_eq_true, decide_eq_true_eq]; omega)]
  rw [if_neg hbig, if_neg (by simp only [Bool.or_eq_true, decide_eq_true_eq]; omega)]
  have hrow : ∀ i, i < t.length → (nx [] t i).length ≤ 10 := fun i hi => by have := row_le t _ (nx_mem (d := []) hi); omega
  obtain ⟨b, hb2, hQ⟩ := iter_inv (step := F29_l2 F t (t.flatten.length : Int)) (I := fun s : Int × List Bool => ∃ i : Nat, s = ((i : Int), seen (t.take i).flatten) ∧ i ≤ t.length ∧ (t.take i).flatten.Nodup ∧ (∀ x ∈ (t.take i).flatten, 0 ≤ x ∧ x < t.flatten.length) ∧ ∀ j, j < i → RowOk t j) (μ := fun s => t.length - s.1.toNat)
    (Q := fun b : Unit ⊕ Int => (b = .inl () ∧ GoodTab t) ∨ (b = .inr 3 ∧ ¬ GoodTab t)) (by
      rintro s ⟨i, rfl, hi, h1, h2, hr⟩
      unfold F29_l2
      simp only
      by_cases hlt : i < t.length
      · have hrl := hrow i hlt
        rw [if_pos (decide_eq_true (by omega)), nx_get (d := []) hlt]
        simp only [Option.bind_some]
        by_cases hne : (nx [] t i).length = 0
        · right
          rw [if_pos (by simpa using hne)]
          simp only [Option.bind_some, if_true]
          exact ⟨_, rfl, .inr ⟨rfl, fun hall => (hall.2 i hlt).ne hne⟩⟩
        · rw [if_neg (by simpa using hne)]
          have key : ∃ q, (if (decide ((i : Int) > 0)) = true then ((at? t (wrapA .i64 ((i : Int) - 1))).bind fun L33 => some (decide (((nx [] t i).length : Int) > (L33.length : Int)))) else some false : Option Bool) = some q ∧ (q = false ↔ (0 < i → (nx [] t i).length ≤ (nx [] t (i - 1)).length)) := by
            by_cases h0 : 0 < i
            · rw [if_pos (decide_eq_true (by omega)), wpred h0 (by omega), nx_get (d := []) (by omega : i - 1 < t.length)]
              exact ⟨_, rfl, by rw [decide_eq_false_iff_not]; omega⟩
            · rw [if_neg (by rw [decide_eq_true_eq]; omega)]
              exact ⟨_, rfl, by simp; omega⟩
          obtain ⟨q, hq, hqi⟩ := key
          rw [hq]
          simp only [Option.bind_some]
          by_cases hqt : q = true
          · right
            rw [if_pos hqt]
            refine ⟨_, rfl, .inr ⟨rfl, fun hall => ?_⟩⟩
            have : q = false := hqi.2 fun h0 => ((hall.2 i hlt).col h0).1
            rw [this] at hqt; cases hqt
          · rw [if_neg hqt]
            have hqf := hqi.1 (by simpa using hqt)
            obtain ⟨b, hb3, hQ3⟩ := row_loop F (by omega) t (by omega) (by omega) i hlt (seen (t.take i).flatten) hqf h1 h2
            rw [hb3]
            simp only [Option.bind_some]
            rcases hQ3 with ⟨rfl, r1, r2, r3, r4⟩ | ⟨rfl, hc⟩
            · left
              simp only
              rw [wsuc (by omega)]
              refine ⟨_, rfl, ⟨i + 1, rfl, hlt, r1, r2, fun j hj => ?_⟩, by simp only [Int.toNat_natCast]; omega⟩
              by_cases e : j = i
              · rw [e]; exact ⟨hne, r3, r4⟩
              · exact hr j (by omega)
            · right
              exact ⟨_, rfl, .inr ⟨rfl, hc⟩⟩
      · right
        rw [List.take_of_length_le (by omega)] at h1 h2
        rw [if_neg (by rw [decide_eq_true_eq]; omega)]
        exact ⟨_, rfl, .inl ⟨rfl, ⟨h1, h2⟩, fun j hj => hr j (by omega)⟩⟩) F (0, List.replicate 10 false) ⟨0, by simp [seen]; rfl, by omega, by simp, by simp, fun j h => by omega⟩ (by simp only [Int.toNat_zero]; omega)
  rw [hb2]
  simp only [Option.bind_some]
  rcases hQ with ⟨rfl, h⟩ | ⟨rfl, h⟩
  · rw [if_pos h]
  · rw [if_neg h]
end Go.Proofs.Ytihmliblbhjlaaa

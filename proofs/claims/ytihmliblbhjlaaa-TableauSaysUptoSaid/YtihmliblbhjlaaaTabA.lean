/- Rows that grow: putting a number in, and what tableau.Of answers. -/
import Derived.Test.YtihmliblbhjlaaaPureC
import Derived.Test.YtihmliblbhjlaaaPermLib
set_option linter.unusedVariables false
set_option linter.unusedSimpArgs false
namespace Go.Proofs.Ytihmliblbhjlaaa
open Go.Am

/-- The first place of what is more than x. -/
def fgt : List Int → Int → Nat
  | [], _ => 0
  | y :: r, x => if y > x then 0 else fgt r x + 1
theorem fgt_le : ∀ (r : List Int) (x : Int), fgt r x ≤ r.length
  | [], _ => Nat.le_refl _
  | y :: r, x => by
    unfold fgt
    have := fgt_le r x
    split <;> simp <;> omega
theorem fgt_at : ∀ {r : List Int} {x : Int}, fgt r x < r.length → nx 0 r (fgt r x) > x
  | [], _, h => by simp [fgt] at h
  | y :: r, x, h => by
    unfold fgt at h ⊢
    by_cases q : y > x
    · rw [if_pos q]; exact q
    · rw [if_neg q] at h ⊢
      exact fgt_at (r := r) (by simpa using h)
theorem fgt_lo : ∀ {r : List Int} {x : Int} {j : Nat}, j < fgt r x → nx 0 r j ≤ x
  | [], _, _, h => by simp [fgt] at h
  | y :: r, x, j, h => by
    unfold fgt at h
    by_cases q : y > x
    · rw [if_pos q] at h; omega
    · rw [if_neg q] at h
      cases j with
      | zero => show y ≤ x; omega
      | succ j => exact fgt_lo (r := r) (by omega)
theorem fgt_eq {r : List Int} {x : Int} {k : Nat} (hk : k ≤ r.length) (h1 : ∀ j, j < k → nx 0 r j ≤ x) (h2 : k < r.length → nx 0 r k > x) : fgt r x = k := by
  rcases Nat.lt_trichotomy (fgt r x) k with q | q | q
  · have := h1 _ q
    have := fgt_at (r := r) (x := x) (by omega)
    omega
  · exact q
  · have := fgt_le r x
    have := fgt_lo q
    have := h2 (by omega)
    omega

/-- A number is put in: the rows, and which has grown. -/
def ins : List (List Int) → Int → List (List Int) × Nat
  | [], x => ([[x]], 0)
  | r :: t, x => if fgt r x < r.length then (r.set (fgt r x) x :: (ins t (nx 0 r (fgt r x))).1, (ins t (nx 0 r (fgt r x))).2 + 1) else ((r ++ [x]) :: t, 0)
def insL : List (List Int) → Int → (List (List Int) × Int) ⊕ (List (List Int) × Nat)
  | [], x => .inl ([], x)
  | r :: t, x => if fgt r x < r.length then
      (match insL t (nx 0 r (fgt r x)) with
      | .inl q => .inl (r.set (fgt r x) x :: q.1, q.2)
      | .inr q => .inr (r.set (fgt r x) x :: q.1, q.2 + 1))
    else .inr ((r ++ [x]) :: t, 0)
theorem ins_insL : ∀ (t : List (List Int)) (x : Int), ins t x = match insL t x with | .inl q => (q.1 ++ [[q.2]], q.1.length) | .inr q => q
  | [], x => rfl
  | r :: t, x => by
    unfold ins insL
    by_cases h : fgt r x < r.length
    · rw [if_pos h, if_pos h, ins_insL t _]
      cases insL t (nx 0 r (fgt r x)) with
      | inl q => rfl
      | inr q => rfl
    · rw [if_neg h, if_neg h]
theorem insL_len : ∀ (t : List (List Int)) (x : Int), (match insL t x with | .inl q => q.1.length = t.length | .inr q => q.1.length = t.length ∧ q.2 < t.length)
  | [], x => rfl
  | r :: t, x => by
    unfold insL
    have ih := insL_len t (nx 0 r (fgt r x))
    by_cases h : fgt r x < r.length
    · rw [if_pos h]
      revert ih
      cases insL t (nx 0 r (fgt r x)) with
      | inl q => intro ih; simp only at ih ⊢; simp [ih]
      | inr q => intro ih; simp only at ih ⊢; simp [ih]
    · rw [if_neg h]; simp

theorem at_mid {α : Type} (d : List α) (r : α) (t : List α) : at? (d ++ r :: t) (d.length : Int) = some r := by
  rw [at?_in (by simp)]
  simp
theorem set_mid {α : Type} (d : List α) (r r' : α) (t : List α) : (d ++ r :: t).set d.length r' = d ++ r' :: t := by
  rw [List.set_append_right _ _ (Nat.le_refl _)]
  simp
theorem ck_mid {α : Type} (d : List α) (r : α) (t : List α) : ck (d ++ r :: t) (d.length : Int) = some () := ck_ok (by simp)

theorem ixf_eq (F : Nat) (r : List Int) (x : Int) (hF : r.length < F) (hl : r.length ≤ 1000000) : F116_150 F r x = some (if fgt r x < r.length then (fgt r x : Int) else -1) := by
  unfold F116_150
  rcases seek_loop (step := F116_150_l0 F r x) (F := F) r.length (fun i => decide (nx 0 r i > x)) (fun i => (i : Int)) (fun i hi => by
    unfold F116_150_l0
    rw [if_pos (decide_eq_true (by omega)), nx_get (d := 0) hi]
    simp only [Option.bind_some, F150]
    rw [wsuc (by omega)]
    exact ite_some _ _) (by
    unfold F116_150_l0
    rw [if_neg (by rw [decide_eq_true_eq]; omega)]) hF with ⟨g1, g2⟩ | ⟨i, hi, g1, g3, g2⟩
  · have e : fgt r x = r.length := fgt_eq (Nat.le_refl _) (fun j hj => by have := g1 j hj; rw [decide_eq_false_iff_not] at this; omega) (fun h => by omega)
    rw [g2, e, if_neg (by omega)]; rfl
  · have e : fgt r x = i := fgt_eq (by omega) (fun j hj => by have := g3 j hj; rw [decide_eq_false_iff_not] at this; omega) (fun _ => of_decide_eq_true g1)
    rw [g2, e, if_pos hi]; rfl

/-- Rows that are not many, nor long. -/
def Sml (t : List (List Int)) : Prop := t.length ≤ 20 ∧ ∀ r ∈ t, r.length ≤ 20
theorem put_loop (F : Nat) (hF : 100 ≤ F) (t0 : List (List Int)) : ∀ (t d : List (List Int)) (x : Int) (G : Nat), t.length < G → t0.length = d.length + t.length → t0.length ≤ 20 → (∀ r ∈ t, r.length ≤ 20) →
    iter (F102_l0 F t0) G ((d.length : Int), d ++ t, x) = some (match insL t x with | .inl q => .inl (d ++ q.1, q.2) | .inr q => .inr (d ++ q.1, ((d.length + q.2 : Nat) : Int)))
  | [], d, x, G, hG, hl, hn, hr => by
    obtain ⟨G, rfl⟩ : ∃ q, G = q + 1 := ⟨G - 1, by simp at hG; omega⟩
    refine iter_stop ?_
    unfold F102_l0
    simp only [List.length_nil, Nat.add_zero] at hl
    simp only
    rw [if_neg (by rw [decide_eq_true_eq]; omega)]
    rfl
  | r :: t, d, x, G, hG, hl, hn, hr => by
    obtain ⟨G, rfl⟩ : ∃ q, G = q + 1 := ⟨G - 1, by simp at hG; omega⟩
    simp only [List.length_cons] at hl hG
    have hrl := hr r List.mem_cons_self
    unfold insL
    by_cases h : fgt r x < r.length
    · have hs : F102_l0 F t0 ((d.length : Int), d ++ r :: t, x) = some (.more (((d ++ [r.set (fgt r x) x]).length : Int), (d ++ [r.set (fgt r x) x]) ++ t, nx 0 r (fgt r x))) := by
        unfold F102_l0
        simp only
        rw [if_pos (decide_eq_true (by omega)), at_mid, Option.bind_some, ixf_eq F r x (by omega) (by omega), if_pos h]
        simp only [Option.bind_some]
        rw [if_neg (by rw [decide_eq_true_eq]; omega), ck_mid, Option.bind_some, nx_get (d := 0) h, Option.bind_some, ck_ok h, Option.bind_some, wsuc (by omega)]
        simp only [Int.toNat_natCast]
        rw [set_mid]
        simp
      rw [iter_more hs, put_loop F hF t0 t (d ++ [r.set (fgt r x) x]) _ G (by omega) (by simp; omega) hn (fun q hq => hr q (List.mem_cons_of_mem _ hq)), if_pos h]
      cases insL t (nx 0 r (fgt r x)) with
      | inl q => simp
      | inr q =>
        simp only [List.append_assoc, List.singleton_append, List.length_append, List.length_cons, List.length_nil]
        rw [show d.length + (0 + 1) + q.2 = d.length + (q.2 + 1) from by omega]
    · refine iter_stop ?_
      unfold F102_l0
      simp only
      rw [if_pos (decide_eq_true (by omega)), at_mid, Option.bind_some, ixf_eq F r x (by omega) (by omega), if_neg h, Option.bind_some, if_pos (by decide), Option.bind_some, app?_ok (by simp; omega), Option.bind_some, ck_mid, Option.bind_some, if_neg h]
      simp only [Int.toNat_natCast]
      rw [set_mid]
      rfl
theorem put_eq (F : Nat) (hF : 100 ≤ F) (t : List (List Int)) (x : Int) (h : Sml t) : F102 F t x = some ((ins t x).1, ((ins t x).2 : Int)) := by
  unfold F102
  have := put_loop F hF t t [] x F (by have := h.1; omega) (by simp) h.1 h.2
  simp only [List.length_nil, List.nil_append] at this
  have e0 : ((0 : Nat) : Int) = 0 := rfl
  rw [e0] at this
  rw [this, ins_insL]
  have hl := insL_len t x
  revert hl
  cases insL t x with
  | inl q =>
    intro hl
    simp only at hl
    simp only [Option.bind_some]
    rw [app?_ok (by have := h.1; simp; omega)]
    rfl
  | inr q =>
    intro _
    simp

/-- The place's number is put into the other rows. -/
def insQ (Q : List (List Int)) (i : Nat) (m : Int) : List (List Int) := if i = Q.length then Q ++ [[m]] else Q.set i (nx [] Q i ++ [m])
def rsk (p : List Int) : Nat → List (List Int) × List (List Int)
  | 0 => ([], [])
  | k + 1 => ((ins (rsk p k).1 (nx 0 p k)).1, insQ (rsk p k).2 (ins (rsk p k).1 (nx 0 p k)).2 (k : Int))

theorem ins_len (t : List (List Int)) (x : Int) : ((ins t x).2 < t.length ∧ (ins t x).1.length = t.length) ∨ ((ins t x).2 = t.length ∧ (ins t x).1.length = t.length + 1) := by
  rw [ins_insL]
  have hl := insL_len t x
  revert hl
  cases insL t x with
  | inl q => intro hl; simp only at hl; right; simp [hl]
  | inr q => intro hl; simp only at hl; left; exact ⟨hl.2, hl.1⟩
theorem ins_row : ∀ (t : List (List Int)) (x : Int) (B : Nat), 1 ≤ B → (∀ r ∈ t, r.length < B) → ∀ r ∈ (ins t x).1, r.length ≤ B
  | [], x, B, hB, h => by intro r hr; simp [ins] at hr; subst hr; simpa using hB
  | s :: t, x, B, hB, h => by
    intro r hr
    unfold ins at hr
    by_cases q : fgt s x < s.length
    · rw [if_pos q] at hr
      rcases List.mem_cons.1 hr with rfl | hr
      · have := h s List.mem_cons_self; rw [List.length_set]; omega
      · exact ins_row t _ B hB (fun r hr => h r (List.mem_cons_of_mem _ hr)) r hr
    · rw [if_neg q] at hr
      rcases List.mem_cons.1 hr with rfl | hr
      · have := h s List.mem_cons_self; simp; omega
      · have := h r (List.mem_cons_of_mem _ hr); omega
structure RskI (p : List Int) (k : Nat) : Prop where
  ql : (rsk p k).2.length = (rsk p k).1.length
  pl : (rsk p k).1.length ≤ k
  pr : ∀ r ∈ (rsk p k).1, r.length ≤ k
  qr : ∀ r ∈ (rsk p k).2, r.length ≤ k
theorem insQ_len (Q : List (List Int)) (i : Nat) (m : Int) : (insQ Q i m).length = if i = Q.length then Q.length + 1 else Q.length := by
  unfold insQ; split <;> simp
theorem insQ_row {Q : List (List Int)} {i : Nat} {m : Int} {B : Nat} (hB : 1 ≤ B) (h : ∀ r ∈ Q, r.length < B) : ∀ r ∈ insQ Q i m, r.length ≤ B := by
  intro r hr
  unfold insQ at hr
  split at hr
  · rcases List.mem_append.1 hr with hr | hr
    · have := h r hr; omega
    · simp at hr; subst hr; simpa using hB
  · rcases List.mem_or_eq_of_mem_set hr with hr | rfl
    · have := h r hr; omega
    · by_cases hi : i < Q.length
      · have := h _ (nx_mem (d := []) hi); simp; omega
      · rw [nx_out (by omega)]; simpa using hB
theorem rskI (p : List Int) : ∀ k, RskI p k
  | 0 => ⟨rfl, Nat.le_refl _, by simp [rsk], by simp [rsk]⟩
  | k + 1 => by
    have I := rskI p k
    have hl := ins_len (rsk p k).1 (nx 0 p k)
    refine ⟨?_, ?_, ?_, ?_⟩
    · show (insQ _ _ _).length = (ins _ _).1.length
      rw [insQ_len, I.ql]
      rcases hl with ⟨h1, h2⟩ | ⟨h1, h2⟩
      · rw [if_neg (by omega), h2]
      · rw [if_pos h1, h2]
    · show (ins _ _).1.length ≤ _
      have := I.pl
      omega
    · exact ins_row _ _ _ (by omega) (fun r hr => by have := I.pr r hr; omega)
    · exact insQ_row (by omega) (fun r hr => by have := I.qr r hr; omega)
theorem of_step (F : Nat) (hF : 100 ≤ F) (p : List Int) (hp : p.length ≤ 10) (k : Nat) (hk : k < p.length) : F27_l0 F p ((k : Int), (rsk p k).1, (rsk p k).2) = some (.more (((k + 1 : Nat) : Int), (rsk p (k + 1)).1, (rsk p (k + 1)).2)) := by
  have I := rskI p k
  have h1 := I.ql
  have h2 := I.pl
  have hl := ins_len (rsk p k).1 (nx 0 p k)
  unfold F27_l0
  simp only
  rw [if_pos (decide_eq_true (by omega)), nx_get (d := 0) hk, Option.bind_some, put_eq F hF _ _ ⟨by omega, fun r hr => by have := I.pr r hr; omega⟩, Option.bind_some]
  have e1 : rsk p (k + 1) = ((ins (rsk p k).1 (nx 0 p k)).1, insQ (rsk p k).2 (ins (rsk p k).1 (nx 0 p k)).2 (k : Int)) := rfl
  rw [e1]
  generalize hq : ins (rsk p k).1 (nx 0 p k) = q at hl ⊢
  generalize hQ : (rsk p k).2 = Q at h1 ⊢
  have hQr : ∀ r ∈ Q, r.length ≤ k := by rw [← hQ]; exact I.qr
  unfold insQ
  by_cases e : q.2 = Q.length
  · rw [if_pos (by simp [e]), app?_ok (by simp; omega)]
    simp only [Option.bind_some]
    rw [if_pos e, e, at_mid, Option.bind_some, app?_ok (by simp), Option.bind_some, ck_mid, Option.bind_some, wsuc (by omega), Int.toNat_natCast, set_mid]
    rfl
  · have hlt : q.2 < Q.length := by omega
    rw [if_neg (by simp; omega)]
    simp only [Option.bind_some]
    have := hQr _ (nx_mem (d := []) hlt)
    rw [if_neg e, nx_get (d := []) hlt, Option.bind_some, app?_ok (by simp; omega), Option.bind_some, ck_ok hlt, Option.bind_some, wsuc (by omega), Int.toNat_natCast]
theorem of_eq (F : Nat) (hF : 100 ≤ F) (p : List Int) : F27 F p = some (if permE p ≠ 0 then (([], []), permE p) else (rsk p p.length, 0)) := by
  unfold F27
  rw [check_eq F p (by omega), Option.bind_some]
  by_cases h : permE p ≠ 0
  · rw [if_pos (by simpa using h), if_pos h]
  · rw [if_neg (by simpa using h), if_neg h]
    have hp : p.length ≤ 10 := by
      have h0 : permE p = 0 := by simpa using h
      unfold permE at h0
      split at h0
      · cases h0
      · omega
    have := iter_count (step := F27_l0 F p) (F := F) (P := fun k => ((k : Int), (rsk p k).1, (rsk p k).2)) (b := rsk p p.length) p.length (fun k hk => of_step F hF p hp k hk) (by
      unfold F27_l0
      simp only
      rw [if_neg (by rw [decide_eq_true_eq]; omega)]) (by omega)
    rw [show ((0, [], []) : Int × List (List Int) × List (List Int)) = (fun k : Nat => ((k : Int), (rsk p k).1, (rsk p k).2)) 0 from rfl, this]
    rfl
end Go.Proofs.Ytihmliblbhjlaaa

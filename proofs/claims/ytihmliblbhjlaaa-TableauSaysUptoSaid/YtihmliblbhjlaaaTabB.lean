/- What castref.TableauxOf answers. -/
import Derived.Test.YtihmliblbhjlaaaTabA
set_option linter.unusedVariables false
set_option linter.unusedSimpArgs false
namespace Go.Proofs.Ytihmliblbhjlaaa
open Go.Am

/-- Strictly rising. -/
def Srt (r : List Int) : Prop := ∀ a b, a < b → b < r.length → nx 0 r a < nx 0 r b
theorem nx_set {α : Type} {d : α} {L : List α} {i j : Nat} {x : α} (hi : i < L.length) : nx d (L.set i x) j = if j = i then x else nx d L j := by
  unfold nx
  rw [List.getElem?_set]
  by_cases e : i = j
  · subst e; rw [if_pos rfl, if_pos hi, if_pos rfl]; rfl
  · rw [if_neg e, if_neg (fun h => e h.symm)]
theorem nx_app {α : Type} {d : α} {L : List α} {j : Nat} {x : α} : nx d (L ++ [x]) j = if j < L.length then nx d L j else if j = L.length then x else d := by
  unfold nx
  by_cases h : j < L.length
  · rw [if_pos h, List.getElem?_append_left h]
  · rw [if_neg h, List.getElem?_append_right (by omega)]
    by_cases e : j = L.length
    · rw [if_pos e, e, Nat.sub_self]; rfl
    · rw [if_neg e, List.getElem?_eq_none (by simp; omega)]; rfl
theorem split_at {α : Type} {d : α} {L : List α} {i : Nat} (hi : i < L.length) : L = L.take i ++ nx d L i :: L.drop (i + 1) := by
  rw [nx_eq hi, List.getElem_cons_drop, List.take_append_drop]
theorem set_split {α : Type} {L : List α} {i : Nat} {x : α} (hi : i < L.length) : L.set i x = L.take i ++ x :: L.drop (i + 1) := by
  rw [List.set_eq_take_append_cons_drop, if_pos hi]
theorem set_perm {L : List Int} {i : Nat} {x : Int} (hi : i < L.length) : (nx 0 L i :: L.set i x).Perm (x :: L) := by
  have e : x :: L = x :: (L.take i ++ nx 0 L i :: L.drop (i + 1)) := by rw [← split_at hi]
  rw [e, set_split hi]
  refine (List.Perm.cons _ List.perm_middle).trans ?_
  refine (List.Perm.swap _ _ _).trans ?_
  exact List.Perm.cons _ List.perm_middle.symm
theorem ins_perm : ∀ (t : List (List Int)) (x : Int), (ins t x).1.flatten.Perm (x :: t.flatten)
  | [], x => by simp [ins]
  | r :: t, x => by
    unfold ins
    by_cases h : fgt r x < r.length
    · rw [if_pos h]
      simp only [List.flatten_cons]
      refine (List.Perm.append_left _ (ins_perm t _)).trans ?_
      refine List.perm_middle.trans ?_
      rw [← List.cons_append, ← List.cons_append]
      exact List.Perm.append_right _ (set_perm h)
    · rw [if_neg h]
      simp only [List.flatten_cons, List.append_assoc, List.singleton_append]
      exact List.perm_middle
theorem ins_srt : ∀ (t : List (List Int)) (x : Int), (∀ r ∈ t, Srt r) → (x :: t.flatten).Nodup → ∀ r ∈ (ins t x).1, Srt r
  | [], x, _, _ => by
    intro r hr; simp [ins] at hr; subst hr
    intro a b hab hb; simp at hb; omega
  | s :: t, x, h, hn => by
    intro r hr
    have hs := h s List.mem_cons_self
    have hx : x ∉ s := fun hm => by
      rw [List.nodup_cons] at hn
      exact hn.1 (by simp [hm])
    unfold ins at hr
    by_cases q : fgt s x < s.length
    · rw [if_pos q] at hr
      have hg := fgt_at q
      rcases List.mem_cons.1 hr with rfl | hr
      · intro a b hab hb
        rw [List.length_set] at hb
        rw [nx_set q, nx_set q]
        by_cases e1 : a = fgt s x
        · rw [if_pos e1, if_neg (by omega)]
          have := hs (fgt s x) b (by omega) hb
          omega
        · rw [if_neg e1]
          by_cases e2 : b = fgt s x
          · rw [if_pos e2]
            have h1 := fgt_lo (r := s) (x := x) (j := a) (by omega)
            have h2 : nx 0 s a ≠ x := fun e => hx (by rw [← e]; exact nx_mem (by omega))
            omega
          · rw [if_neg e2]; exact hs a b hab hb
      · refine ins_srt t _ (fun r hr => h r (List.mem_cons_of_mem _ hr)) ?_ r hr
        rw [List.nodup_cons] at hn
        have hn2 := hn.2
        rw [List.flatten_cons, List.nodup_append] at hn2
        rw [List.nodup_cons]
        exact ⟨fun hm => hn2.2.2 _ (nx_mem (d := 0) q) _ hm rfl, hn2.2.1⟩
    · rw [if_neg q] at hr
      rcases List.mem_cons.1 hr with rfl | hr
      · intro a b hab hb
        rw [List.length_append, List.length_singleton] at hb
        rw [nx_app, nx_app, if_pos (by omega)]
        by_cases e2 : b < s.length
        · rw [if_pos e2]; exact hs a b hab e2
        · rw [if_neg e2, if_pos (by omega)]
          have h1 := fgt_lo (r := s) (x := x) (j := a) (by have := fgt_le s x; omega)
          have h2 : nx 0 s a ≠ x := fun e => hx (by rw [← e]; exact nx_mem (by omega))
          omega
      · exact h r (List.mem_cons_of_mem _ hr)

/-- Halving. -/
theorem bs_loop (F : Nat) (r : List Int) (x : Int) (hl : r.length ≤ 1000000) (hs : Srt r) (hx : x ∉ r) : ∀ (G lo hi : Nat), hi - lo < G → lo ≤ hi → hi ≤ r.length → (∀ j, j < lo → nx 0 r j ≤ x) → (hi < r.length → nx 0 r hi > x) →
    iter (F153_l0 F r x) G ((lo : Int), (hi : Int)) = some (fgt r x : Int)
  | 0, lo, hi, h, _, _, _, _ => by omega
  | G + 1, lo, hi, hG, h1, h2, h3, h4 => by
    by_cases q : lo < hi
    · have hm : (lo + hi) / 2 < hi := by omega
      have hm0 : lo ≤ (lo + hi) / 2 := by omega
      have hsh : shr? .u64 (wrapA .u64 (wrapA .i64 ((lo : Int) + (hi : Int)))) 1 = some (((lo + hi) / 2 : Nat) : Int) := by
        rw [wadd (by omega), wu64 (by omega) (by omega), show (1 : Int) = ((1 : Nat) : Int) from rfl, shr_nat _ _ (by decide)]
      have hne : nx 0 r ((lo + hi) / 2) ≠ x := fun e => hx (by rw [← e]; exact nx_mem (by omega))
      by_cases c : nx 0 r ((lo + hi) / 2) < x
      · have hs1 : F153_l0 F r x ((lo : Int), (hi : Int)) = some (.more ((((lo + hi) / 2 + 1 : Nat) : Int), (hi : Int))) := by
          unfold F153_l0
          simp only
          rw [if_pos (decide_eq_true (by omega)), hsh, Option.bind_some, wnat (by omega), nx_get (d := 0) (by omega : (lo + hi) / 2 < r.length), Option.bind_some]
          unfold F151 F167
          simp only [Option.bind_some]
          rw [show ((nx 0 r ((lo + hi) / 2)) != (nx 0 r ((lo + hi) / 2))) = false from by simp]
          simp only [Bool.false_eq_true, if_false, Option.bind_some, Bool.false_or]
          rw [if_pos (decide_eq_true c), wsuc (by omega)]
        rw [iter_more hs1]
        exact bs_loop F r x hl hs hx G _ hi (by omega) (by omega) h2 (fun j hj => by
          by_cases e : j = (lo + hi) / 2
          · rw [e]; omega
          · have := hs j ((lo + hi) / 2) (by omega) (by omega); omega) h4
      · have hs1 : F153_l0 F r x ((lo : Int), (hi : Int)) = some (.more ((lo : Int), (((lo + hi) / 2 : Nat) : Int))) := by
          unfold F153_l0
          simp only
          rw [if_pos (decide_eq_true (by omega)), hsh, Option.bind_some, wnat (by omega), nx_get (d := 0) (by omega : (lo + hi) / 2 < r.length), Option.bind_some]
          unfold F151 F167
          simp only [Option.bind_some]
          rw [show ((nx 0 r ((lo + hi) / 2)) != (nx 0 r ((lo + hi) / 2))) = false from by simp]
          simp only [Bool.false_eq_true, if_false, Option.bind_some, Bool.false_or]
          rw [if_neg (by rw [decide_eq_true_eq]; exact c)]
        rw [iter_more hs1]
        exact bs_loop F r x hl hs hx G lo _ (by omega) hm0 (by omega) h3 (fun _ => by omega)
    · have e : fgt r x = lo := fgt_eq (by omega) h3 (fun h => by rw [show lo = hi from by omega]; exact h4 (by omega))
      refine iter_stop ?_
      unfold F153_l0
      simp only
      rw [if_neg (by rw [decide_eq_true_eq]; omega), e]
theorem bs_eq (F : Nat) (r : List Int) (x : Int) (hF : r.length < F) (hl : r.length ≤ 1000000) (hs : Srt r) (hx : x ∉ r) : ∃ b, F153 F r x = some ((fgt r x : Int), b) := by
  unfold F153
  have := bs_loop F r x hl hs hx F 0 r.length (by omega) (by omega) (Nat.le_refl _) (fun j h => by omega) (fun h => by omega)
  have e0 : ((0 : Nat) : Int) = 0 := rfl
  rw [e0] at this
  rw [this]
  simp only [Option.bind_some]
  by_cases h : fgt r x < r.length
  · rw [if_pos (decide_eq_true (by omega)), nx_get (d := 0) h]
    have hne : nx 0 r (fgt r x) ≠ x := fun e => hx (by rw [← e]; exact nx_mem h)
    simp only [Option.bind_some]
    rw [if_neg (by simpa using hne)]
    unfold F168
    simp
  · rw [if_neg (by rw [decide_eq_true_eq]; omega)]
    exact ⟨false, rfl⟩
theorem sub_tail {α : Type} (r : α) (t : List α) : sub? (r :: t) 1 ((r :: t).length : Int) = some t := by
  unfold sub?
  rw [if_pos (by simp only [List.length_cons]; omega)]
  simp
theorem putIn_eq : ∀ (F : Nat) (t : List (List Int)) (x : Int), t.length + 50 ≤ F → Sml t → (∀ r ∈ t, Srt r) → (x :: t.flatten).Nodup → F108 F t x = some (ins t x).1
  | 0, _, _, h, _, _, _ => by omega
  | F + 1, [], x, _, _, _, _ => rfl
  | F + 1, r :: t, x, hF, hS, hs, hn => by
    have hr := hS.2 r List.mem_cons_self
    have hx : x ∉ r := fun hm => by
      rw [List.nodup_cons] at hn
      exact hn.1 (by simp [hm])
    obtain ⟨b, hb⟩ := bs_eq F r x (by simp at hF; omega) (by omega) (hs r List.mem_cons_self) hx
    rw [F108]
    try dsimp only
    rw [if_neg (by simp; omega), show at? (r :: t) 0 = some r from rfl, Option.bind_some]
    unfold F45
    rw [if_pos (by omega), Option.bind_some, hb, Option.bind_some, sub_tail]
    unfold ins
    by_cases q : fgt r x < r.length
    · have hlen := hS.1
      simp only [List.length_cons] at hlen hF
      rw [if_neg (by simp; omega), if_pos q, nx_get (d := 0) q, Option.bind_some, ck_ok q, Option.bind_some, Option.bind_some]
      have ih := putIn_eq F t (nx 0 r (fgt r x)) (by omega) ⟨by omega, fun q hq => hS.2 q (List.mem_cons_of_mem _ hq)⟩ (fun q hq => hs q (List.mem_cons_of_mem _ hq)) (by
        rw [List.nodup_cons] at hn
        have hn2 := hn.2
        rw [List.flatten_cons, List.nodup_append] at hn2
        rw [List.nodup_cons]
        exact ⟨fun hm => hn2.2.2 _ (nx_mem (d := 0) q) _ hm rfl, hn2.2.1⟩)
      have hl2 := ins_len t (nx 0 r (fgt r x))
      rw [ih, Option.bind_some, app?_ok (by simp; omega)]
      simp
    · have hlen := hS.1
      simp only [List.length_cons] at hlen
      have := fgt_le r x
      rw [if_pos (by simp; omega), if_neg q, app?_ok (by simp; omega), Option.bind_some, Option.bind_some, app?_ok (by simp; omega)]
      simp

/-- How long the rows are. -/
theorem ins_shape : ∀ (t : List (List Int)) (x : Int) (k : Nat), (nx [] (ins t x).1 k).length = (nx [] t k).length + if k = (ins t x).2 then 1 else 0
  | [], x, k => by
    unfold ins
    cases k with
    | zero => rfl
    | succ k => rfl
  | r :: t, x, k => by
    unfold ins
    by_cases h : fgt r x < r.length
    · rw [if_pos h]
      cases k with
      | zero => simp [nx]
      | succ k =>
        have := ins_shape t (nx 0 r (fgt r x)) k
        have e1 : nx [] (r.set (fgt r x) x :: (ins t (nx 0 r (fgt r x))).1) (k + 1) = nx [] (ins t (nx 0 r (fgt r x))).1 k := rfl
        have e2 : nx [] (r :: t) (k + 1) = nx [] t k := rfl
        simp only at this ⊢
        rw [e1, e2, this]
        by_cases e : k = (ins t (nx 0 r (fgt r x))).2
        · rw [if_pos e, if_pos (by omega)]
        · rw [if_neg e, if_neg (by omega)]
    · rw [if_neg h]
      cases k with
      | zero => simp [nx]
      | succ k => rfl
theorem q_loop (F : Nat) (hF : 100 ≤ F) (m : Int) (O Q : List (List Int)) (x : Int) (hO : O.length ≤ 10) (hql : Q.length = O.length) (hqr : ∀ r ∈ Q, r.length ≤ 20) :
    iter (F33_l0 F (m, O, Q) (ins O x).1) F (Q, 0) = some (insQ Q (ins O x).2 m) := by
  have hl := ins_len O x
  have hsh := ins_shape O x
  generalize ins O x = q at hl hsh ⊢
  obtain ⟨N, j⟩ := q
  simp only at hl hsh ⊢
  have := iter_count (step := F33_l0 F (m, O, Q) N) (F := F) (P := fun k => (if k ≤ j then Q else insQ Q j m, (k : Int))) (b := insQ Q j m) N.length (fun k hk => by
    unfold F33_l0
    simp only
    rw [if_pos (decide_eq_true (by omega)), nx_get (d := []) hk, Option.bind_some, wsuc (by omega)]
    have hs := hsh k
    by_cases e1 : k = O.length
    · have ej : j = O.length := by omega
      rw [if_pos (by simp [e1]), if_pos (by omega), app?_ok (by simp; omega), Option.bind_some, if_neg (by omega)]
      unfold insQ
      rw [if_pos (by omega)]
    · rw [if_neg (by simp; omega), nx_get (d := []) (by omega : k < O.length), Option.bind_some]
      by_cases e2 : k = j
      · rw [if_pos e2] at hs
        have hkq : k < Q.length := by omega
        have := hqr _ (nx_mem (d := []) hkq)
        rw [if_pos (decide_eq_true (by omega)), if_pos (by omega), nx_get (d := []) hkq, Option.bind_some]
        unfold F45
        rw [if_pos (by omega), Option.bind_some, app?_ok (by simp; omega), Option.bind_some, ck_ok hkq, Option.bind_some, if_neg (by omega), Int.toNat_natCast]
        unfold insQ
        rw [if_neg (by omega), e2]
      · rw [if_neg e2] at hs
        rw [if_neg (by rw [decide_eq_true_eq]; omega)]
        by_cases e3 : k ≤ j
        · rw [if_pos e3, if_pos (by omega)]
        · rw [if_neg e3, if_neg (by omega)]) (by
    unfold F33_l0
    simp only
    rw [if_neg (by rw [decide_eq_true_eq]; omega), if_neg (by omega)]) (by omega)
  simpa using this
theorem rsk_perm (p : List Int) : ∀ k, k ≤ p.length → (rsk p k).1.flatten.Perm (p.take k)
  | 0, _ => by simp [rsk]
  | k + 1, h => by
    show (ins (rsk p k).1 (nx 0 p k)).1.flatten.Perm _
    refine (ins_perm _ _).trans ?_
    have e : p.take (k + 1) = p.take k ++ [nx 0 p k] := by rw [List.take_add_one, List.getElem?_eq_getElem (by omega), nx_eq (by omega)]; rfl
    rw [e]
    refine (List.Perm.cons _ (rsk_perm p k (by omega))).trans ?_
    exact (List.perm_append_comm (l₁ := [nx 0 p k]))
theorem rsk_nodup {p : List Int} (hp : p.Nodup) {k : Nat} (hk : k < p.length) : (nx 0 p k :: (rsk p k).1.flatten).Nodup := by
  have e : p.take (k + 1) = p.take k ++ [nx 0 p k] := by rw [List.take_add_one, List.getElem?_eq_getElem (by omega), nx_eq (by omega)]; rfl
  have h1 : (p.take (k + 1)).Nodup := hp.sublist (List.take_sublist _ _)
  have h2 : (nx 0 p k :: (rsk p k).1.flatten).Perm (p.take (k + 1)) := by
    rw [e]
    refine (List.Perm.cons _ (rsk_perm p k (by omega))).trans ?_
    exact (List.perm_append_comm (l₁ := [nx 0 p k]))
  exact h2.nodup_iff.2 h1
theorem rsk_srt {p : List Int} (hp : p.Nodup) : ∀ k, k ≤ p.length → ∀ r ∈ (rsk p k).1, Srt r
  | 0, _ => by simp [rsk]
  | k + 1, h => ins_srt _ _ (rsk_srt hp k (by omega)) (rsk_nodup hp (by omega))
theorem ref_step (F : Nat) (hF : 100 ≤ F) (p : List Int) (hp : p.length ≤ 10) (hn : p.Nodup) (k : Nat) (hk : k < p.length) : F33_l1 F p ((k : Int), (rsk p k).1, (rsk p k).2) = some (.more (((k + 1 : Nat) : Int), (rsk p (k + 1)).1, (rsk p (k + 1)).2)) := by
  have I := rskI p k
  have h1 := I.ql
  have h2 := I.pl
  have e1 : rsk p (k + 1) = ((ins (rsk p k).1 (nx 0 p k)).1, insQ (rsk p k).2 (ins (rsk p k).1 (nx 0 p k)).2 (k : Int)) := rfl
  unfold F33_l1
  simp only
  rw [if_pos (decide_eq_true (by omega)), nx_get (d := 0) hk, Option.bind_some, putIn_eq F _ _ (by omega) ⟨by omega, fun r hr => by have := I.pr r hr; omega⟩ (rsk_srt hn k (by omega)) (rsk_nodup hn hk), Option.bind_some]
  unfold F109
  rw [if_pos (by omega), Option.bind_some, q_loop F hF (k : Int) _ _ _ (by omega) h1 (fun r hr => by have := I.qr r hr; omega), Option.bind_some, wsuc (by omega), e1]
theorem ref_eq (F : Nat) (hF : 100 ≤ F) (p : List Int) (hp : p.length ≤ 10) (hn : p.Nodup) : F33 F p = some (rsk p p.length) := by
  unfold F33
  have := iter_count (step := F33_l1 F p) (F := F) (P := fun k => ((k : Int), (rsk p k).1, (rsk p k).2)) (b := rsk p p.length) p.length (fun k hk => ref_step F hF p hp hn k hk) (by
      unfold F33_l1
      simp only
      rw [if_neg (by rw [decide_eq_true_eq]; omega)]) (by omega)
  rw [show ((0, [], []) : Int × List (List Int) × List (List Int)) = (fun k : Nat => ((k : Int), (rsk p k).1, (rsk p k).2)) 0 from rfl, this]
  rfl
end Go.Proofs.Ytihmliblbhjlaaa

/- What the functional text of castlaw.WarpSays answers: true. -/
import Derived.Test.YtihmliblbhjlaaaWarpB
set_option linter.unusedVariables false
set_option linter.unusedSimpArgs false
namespace Go.Proofs.Ytihmliblbhjlaaa
open Go.Am

def sh (A : List WT) : List Int := A.map (·.1.1)
theorem set_sh {A : List WT} {i : Nat} {y : WT} (h : y.1.1 = (nx wd A i).1.1) : sh (A.set i y) = sh A := by
  unfold sh
  apply List.ext_getElem?
  intro j
  rw [List.map_set, List.getElem?_set]
  by_cases e : i = j
  · subst e
    by_cases hi : i < A.length
    · rw [if_pos rfl, if_pos (by simpa using hi), h, nx_eq hi]; simp [hi]
    · rw [if_pos rfl, if_neg (by simpa using hi)]; exact (List.getElem?_eq_none (by simp; omega)).symm
  · rw [if_neg e]
theorem turn_sh (A : List WT) (x : WX) : sh (turnA A x) = sh A := by
  unfold turnA
  simp only
  split
  · exact set_sh rfl
  · split
    · split
      · rfl
      · refine set_sh ?_
        split <;> rfl
    · split
      · exact set_sh rfl
      · split
        · exact set_sh rfl
        · rfl
theorem apply_sh (L : List WX) : ∀ A : List WT, sh (apply A L) = sh A := by
  induction L with
  | nil => intro A; rfl
  | cons x L ih => intro A; rw [apply_cons, ih, turn_sh]

def ran (A : List WT) : List WT :=
  let k := bestA A
  if 0 ≤ k then A.set k.toNat ((nx wd A k.toNat).1, wrapA .i64 ((nx wd A k.toNat).2 + wrapA .i64 (Int.tdiv 2520 (nx wd A k.toNat).1.1))) else A
def sim (T : List WX) (A0 : List WT) : Nat → List WX × List Int × List WT
  | 0 => (T, [], A0)
  | t + 1 =>
    let s := sim T A0 t
    let A1 := apply s.2.2 (s.1.takeWhile (atT t))
    (s.1.dropWhile (atT t), s.2.1 ++ [bestA A1], ran A1)
theorem ran_len (A : List WT) : (ran A).length = A.length := by
  unfold ran; simp only; split <;> simp
theorem ran_sh (A : List WT) : sh (ran A) = sh A := by
  unfold ran; simp only; split
  · exact set_sh rfl
  · rfl
structure SimI (T : List WX) (A0 : List WT) (t : Nat) : Prop where
  len : (sim T A0 t).2.2.length = A0.length
  shs : sh (sim T A0 t).2.2 = sh A0
  rl : (sim T A0 t).2.1.length = t
  suf : ∃ P, T = P ++ (sim T A0 t).1 ∧ ∀ x ∈ P, x.1 < t
  ge : ∀ x ∈ (sim T A0 t).1, (t : Int) ≤ x.1
theorem simI {l : List WH} {T : List WX} (h : WOk l T) (A0 : List WT) : ∀ t, SimI T A0 t
  | 0 => ⟨rfl, rfl, rfl, ⟨[], rfl, by simp⟩, fun x hx => by
    obtain ⟨i, hi, rfl⟩ := nx_of (d := xd0) hx
    have := h.xx i hi
    unfold xbad at this
    simp only [Bool.or_eq_false_iff, decide_eq_false_iff_not] at this
    show ((0 : Nat) : Int) ≤ (nx xd0 T i).1
    omega⟩
  | t + 1 => by
    have I := simI h A0 t
    obtain ⟨P, e, hP⟩ := I.suf
    have hs := sorted_of h
    rw [e] at hs
    have hs2 := (List.pairwise_append.1 hs).2.1
    obtain ⟨f1, f2⟩ := filter_take (t := (t : Int)) hs2 I.ge
    refine ⟨?_, ?_, ?_, ⟨P ++ (sim T A0 t).1.takeWhile (atT t), ?_, ?_⟩, ?_⟩
    · show (ran _).length = _
      rw [ran_len, apply_len]; exact I.len
    · show sh (ran _) = _
      rw [ran_sh, apply_sh]; exact I.shs
    · show (_ ++ [_]).length = _
      rw [List.length_append, I.rl]; rfl
    · show T = _ ++ (sim T A0 t).1.dropWhile (atT t)
      rw [List.append_assoc, List.takeWhile_append_dropWhile]; exact e
    · intro x hx
      rcases List.mem_append.1 hx with hx | hx
      · have := hP x hx; omega
      · rw [← f1] at hx
        have := (List.mem_filter.1 hx).2
        unfold atT at this
        simp only [beq_iff_eq] at this
        omega
    · intro x hx
      have := f2 x hx
      omega
theorem sim_filter {l : List WH} {T : List WX} (h : WOk l T) (A0 : List WT) (t : Nat) : T.filter (atT t) = (sim T A0 t).1.takeWhile (atT t) := by
  have I := simI h A0 t
  obtain ⟨P, e, hP⟩ := I.suf
  have hs := sorted_of h
  rw [e] at hs
  obtain ⟨f1, _⟩ := filter_take (t := (t : Int)) (List.pairwise_append.1 hs).2.1 I.ge
  have e1 : T.filter (atT t) = (P ++ (sim T A0 t).1).filter (atT t) := by rw [← e]
  rw [e1, List.filter_append, f1]
  have : P.filter (atT t) = [] := by
    rw [List.filter_eq_nil_iff]
    intro x hx
    have := hP x hx
    unfold atT
    simp only [beq_iff_eq]
    omega
  rw [this, List.nil_append]

theorem best_rng (A : List WT) : bestA A = -1 ∨ ∃ i : Nat, bestA A = (i : Int) ∧ i < A.length := by
  rcases (fb_best A A.length).1 with ⟨e, _⟩ | ⟨i, e, _, h, _⟩
  · exact .inl e
  · exact .inr ⟨i, e, h⟩
theorem share_ok {l : List WH} {T : List WX} (h : WOk l T) {A : List WT} (hs : sh A = l.map (·.1)) {i : Nat} (hi : i < A.length) : (nx wd A i).1.1 ≠ 0 := by
  have hl : A.length = l.length := by
    have := congrArg List.length hs
    simpa [sh] using this
  have h1 : (sh A)[i]? = some (nx wd A i).1.1 := by unfold sh; rw [nx_eq hi]; simp [hi]
  have h2 : (l.map (·.1))[i]? = some (nx hd0 l i).1 := by rw [nx_eq (by omega)]; simp [show i < l.length from by omega]
  rw [hs, h2] at h1
  have e := Option.some.inj h1
  have := h.hh i (by omega)
  unfold hbad at this
  simp only [Bool.or_eq_false_iff, decide_eq_false_iff_not] at this
  omega

/-- A round of the program's. -/
theorem play_step (F : Nat) (hF : 300 ≤ F) {l : List WH} {T : List WX} (h : WOk l T) {A0 : List WT} (hA : sh A0 = l.map (·.1)) (u : Nat) (hu : u ≤ 200) (t : Nat) (ht : t < u) :
    F22_l2 F (u : Int) ((sim T A0 t).1, (sim T A0 t).2.1, (t : Int), (sim T A0 t).2.2) = some (.more ((sim T A0 (t + 1)).1, (sim T A0 (t + 1)).2.1, ((t + 1 : Nat) : Int), (sim T A0 (t + 1)).2.2)) := by
  have I := simI h A0 t
  have hl : A0.length = l.length := by
    have := congrArg List.length hA
    simpa [sh] using this
  have hn := h.ln
  have hT := h.tn
  obtain ⟨P, eP, _⟩ := I.suf
  have hlen : (sim T A0 t).1.length ≤ 30 := by
    have := congrArg List.length eP
    rw [List.length_append] at this; omega
  unfold F22_l2
  simp only
  rw [if_pos (decide_eq_true (by omega)), pop_loop F hF _ _ _ F (by omega) hlen (by rw [I.len]; omega) (fun x hx => by
    have hm : x ∈ T := by rw [eP]; exact List.mem_append_right _ hx
    obtain ⟨i, hi, rfl⟩ := nx_of (d := xd0) hm
    have := h.xx i hi
    unfold xbad at this
    simp only [Bool.or_eq_false_iff, decide_eq_false_iff_not] at this
    rw [I.len, hl]; omega)]
  simp only [Option.bind_some]
  have e1 : (sim T A0 (t + 1)) = ((sim T A0 t).1.dropWhile (atT t), (sim T A0 t).2.1 ++ [bestA (apply (sim T A0 t).2.2 ((sim T A0 t).1.takeWhile (atT t)))], ran (apply (sim T A0 t).2.2 ((sim T A0 t).1.takeWhile (atT t)))) := rfl
  rw [e1]
  have hA1 : (apply (sim T A0 t).2.2 ((sim T A0 t).1.takeWhile (atT t))).length = l.length := by rw [apply_len, I.len, hl]
  have hs1 : sh (apply (sim T A0 t).2.2 ((sim T A0 t).1.takeWhile (atT t))) = l.map (·.1) := by rw [apply_sh, I.shs, hA]
  generalize apply (sim T A0 t).2.2 ((sim T A0 t).1.takeWhile (atT t)) = A1 at hA1 hs1 ⊢
  rw [next_eq F A1 (by omega) hF]
  simp only [Option.bind_some]
  have hr := I.rl
  unfold ran
  simp only
  rcases best_rng A1 with e | ⟨i, e, hi⟩
  · rw [e, if_neg (by decide), app?_ok (by simp; omega), if_neg (by decide), Option.bind_some, wsuc (by omega)]
  · have h0 := share_ok h hs1 hi
    rw [e, if_pos (decide_eq_true (by omega)), app?_ok (by simp; omega), if_pos (by omega), Int.toNat_natCast, nx_get (d := wd) hi, wsuc (by omega)]
    simp only [Option.bind_some]
    unfold quo?
    rw [if_neg h0]
    rfl
theorem ref_round (F : Nat) (hF : 300 ≤ F) {l : List WH} {T : List WX} (h : WOk l T) {A0 : List WT} (hA : sh A0 = l.map (·.1)) (u : Nat) (hu : u ≤ 200) (t : Nat) (ht : t < u) :
    F25_l3 F T (u : Int) ((sim T A0 t).2.1, (t : Int), (sim T A0 t).2.2.map (·.1), (sim T A0 t).2.2.map (·.2)) = some (.more ((sim T A0 (t + 1)).2.1, ((t + 1 : Nat) : Int), (sim T A0 (t + 1)).2.2.map (·.1), (sim T A0 (t + 1)).2.2.map (·.2))) := by
  have I := simI h A0 t
  have hl : A0.length = l.length := by
    have := congrArg List.length hA
    simpa [sh] using this
  have hn := h.ln
  have hT := h.tn
  unfold F25_l3
  simp only
  rw [if_pos (decide_eq_true (by omega)), ref_loop F hF T _ _ hT (by rw [I.len]; omega) (fun i hi => by
    have := h.xx i hi
    unfold xbad at this
    simp only [Bool.or_eq_false_iff, decide_eq_false_iff_not] at this
    rw [I.len, hl]; omega)]
  simp only [Option.bind_some]
  rw [sim_filter h A0 t]
  have e1 : (sim T A0 (t + 1)) = ((sim T A0 t).1.dropWhile (atT t), (sim T A0 t).2.1 ++ [bestA (apply (sim T A0 t).2.2 ((sim T A0 t).1.takeWhile (atT t)))], ran (apply (sim T A0 t).2.2 ((sim T A0 t).1.takeWhile (atT t)))) := rfl
  rw [e1]
  have hA1 : (apply (sim T A0 t).2.2 ((sim T A0 t).1.takeWhile (atT t))).length = l.length := by rw [apply_len, I.len, hl]
  have hs1 : sh (apply (sim T A0 t).2.2 ((sim T A0 t).1.takeWhile (atT t))) = l.map (·.1) := by rw [apply_sh, I.shs, hA]
  generalize apply (sim T A0 t).2.2 ((sim T A0 t).1.takeWhile (atT t)) = A1 at hA1 hs1 ⊢
  rw [List.length_map, w64 (a := (A1.length : Int) - 1) (by omega) (by omega), best_loop F A1 (by omega) hF]
  simp only [Option.bind_some]
  have hr := I.rl
  unfold ran
  simp only
  rcases best_rng A1 with e | ⟨i, e, hi⟩
  · rw [e, if_neg (by decide), app?_ok (by simp; omega), if_neg (by decide), Option.bind_some, wsuc (by omega)]
  · have h0 := share_ok h hs1 hi
    have hck : ck (A1.map (·.2)) (i : Int) = some () := ck_ok (by simpa using hi)
    rw [e, if_pos (decide_eq_true (by omega)), app?_ok (by simp; omega), if_pos (by omega), Int.toNat_natCast, at_fst hi, at_snd hi, hck, wsuc (by omega)]
    simp only [Option.bind_some]
    unfold quo?
    rw [if_neg h0]
    simp only [Option.bind_some]
    rw [map_set_fst, map_set_snd, fst_same hi]

theorem warp_holds (l : List WH) (T : List WX) (u : Int) : ∃ F, F4 F l T u = some true := by
  obtain ⟨F, hF⟩ : ∃ F : Nat, F = 300 := ⟨_, rfl⟩
  refine ⟨F, ?_⟩
  obtain ⟨c, c1, c2, c3⟩ := check_both F l T (by omega)
  unfold F4
  rw [c1, c2]
  by_cases hc : c = 0
  · have h := c3 hc
    subst hc
    by_cases hu : u < 0 ∨ u > 200
    · have e1 : F22 F l T u = some ([], [], 1) := by
        unfold F22
        rw [c1, Option.bind_some, if_neg (by decide), if_pos (by simpa using hu)]
      rw [e1]
      simp only [Option.bind_some]
      rw [if_neg (by decide), if_pos (by simpa using hu)]
      simp only [Option.bind_some]
      rfl
    · obtain ⟨n, rfl⟩ := Int.eq_ofNat_of_zero_le (show 0 ≤ u by omega)
      have hA : sh (l.map fun x => ((x, 0) : WT)) = l.map (·.1) := by
        unfold sh; rw [List.map_map]; rfl
      have hn := h.ln
      have lp : iter (F22_l0 F l) F ([], 0) = some (l.map fun x => ((x, 0) : WT)) := iter_count (step := F22_l0 F l) (F := F) (P := fun k => ((l.take k).map fun x => ((x, 0) : WT), (k : Int))) (b := l.map fun x => ((x, 0) : WT)) l.length (fun k hk => by
        unfold F22_l0
        simp only
        rw [if_pos (decide_eq_true (by omega)), nx_get (d := hd0) hk, Option.bind_some, app?_ok (by simp; omega), Option.bind_some, wsuc (by omega), take_nx (d := hd0) hk, List.map_append]
        rfl) (by
        unfold F22_l0
        simp only
        rw [if_neg (by rw [decide_eq_true_eq]; omega), List.take_length]) (by omega)
      generalize hA0 : (l.map fun x => ((x, 0) : WT)) = A0 at hA lp
      have p1 := iter_count (step := F22_l2 F (n : Int)) (F := F) (P := fun t => ((sim T A0 t).1, (sim T A0 t).2.1, (t : Int), (sim T A0 t).2.2)) (b := ((sim T A0 n).2.1, (sim T A0 n).2.2)) n (fun t ht => play_step F (by omega) h hA n (by omega) t ht) (by
        unfold F22_l2
        simp only
        rw [if_neg (by rw [decide_eq_true_eq]; omega)]) (by omega)
      have p2 := iter_count (step := F25_l3 F T (n : Int)) (F := F) (P := fun t => ((sim T A0 t).2.1, (t : Int), (sim T A0 t).2.2.map (·.1), (sim T A0 t).2.2.map (·.2))) (b := ((sim T A0 n).2.1, (sim T A0 n).2.2.map (·.2))) n (fun t ht => ref_round F (by omega) h hA n (by omega) t ht) (by
        unfold F25_l3
        simp only
        rw [if_neg (by rw [decide_eq_true_eq]; omega)]) (by omega)
      have I := simI h A0 n
      have hl0 : A0.length = l.length := by rw [← hA0]; simp
      have p3 := iter_count (step := F22_l3 F ((sim T A0 n).2.1, (sim T A0 n).2.2)) (F := F) (P := fun k => (((sim T A0 n).2.2.take k).map (·.2), (k : Int))) (b := (sim T A0 n).2.2.map (·.2)) (sim T A0 n).2.2.length (fun k hk => by
        have hk' := hk
        rw [I.len] at hk'
        unfold F22_l3
        simp only
        rw [if_pos (decide_eq_true (by omega)), nx_get (d := wd) hk, Option.bind_some, app?_ok (by simp; omega), Option.bind_some, wsuc (by omega), take_nx (d := wd) hk, List.map_append]
        rfl) (by
        unfold F22_l3
        simp only
        rw [if_neg (by rw [decide_eq_true_eq]; omega), List.take_length]) (by rw [I.len]; omega)
      have e1 : F22 F l T (n : Int) = some ((sim T A0 n).2.1, (sim T A0 n).2.2.map (·.2), 0) := by
        unfold F22
        rw [c1, Option.bind_some, if_neg (by decide), if_neg (by simpa using hu), lp, Option.bind_some]
        rw [show ((T, [], 0, A0) : List WX × List Int × Int × List WT) = (fun t : Nat => ((sim T A0 t).1, (sim T A0 t).2.1, (t : Int), (sim T A0 t).2.2)) 0 from rfl, p1, Option.bind_some]
        rw [show (([], 0) : List Int × Int) = (fun k : Nat => (((sim T A0 n).2.2.take k).map (·.2), (k : Int))) 0 from rfl, p3]
        rfl
      have e2 : F25 F l T (n : Int) = some ((sim T A0 n).2.1, (sim T A0 n).2.2.map (·.2)) := by
        unfold F25 F98
        rw [if_pos (by omega), Option.bind_some, mk?_ok (by omega), Option.bind_some]
        have q1 : l = A0.map (·.1) := by
          rw [← hA0, List.map_map]
          exact (List.map_id l).symm
        have q2 : List.replicate l.length (0 : Int) = A0.map (·.2) := by
          rw [← hA0, List.map_map]
          apply List.ext_getElem?
          intro j
          rw [List.getElem?_replicate, List.getElem?_map]
          by_cases hj : j < l.length
          · rw [if_pos hj, List.getElem?_eq_getElem hj]; rfl
          · rw [if_neg hj, List.getElem?_eq_none (by omega)]; rfl
        rw [q2]
        have q3 : (([], 0, l, A0.map (·.2)) : List Int × Int × List WH × List Int) = (fun t : Nat => ((sim T A0 t).2.1, (t : Int), (sim T A0 t).2.2.map (·.1), (sim T A0 t).2.2.map (·.2))) 0 := by
          show _ = ([], ((0 : Nat) : Int), A0.map (·.1), A0.map (·.2))
          rw [← q1]; rfl
        rw [q3, p2]
        rfl
      rw [e1]
      simp only [Option.bind_some]
      rw [if_neg (by decide), if_neg (by simpa using hu)]
      simp only [Option.bind_some]
      rw [if_neg (by decide), e2]
      simp only [Option.bind_some]
      have r1 := I.rl
      have r2 : ((sim T A0 n).2.2.map (·.2)).length = l.length := by rw [List.length_map, I.len, hl0]
      rw [if_pos (by decide), alike_eq F _ _ (by omega) (by omega)]
      simp only [Option.bind_some, decide_true, if_true]
      rw [alike_eq F _ _ (by omega) (by omega)]
      simp
  · have e1 : F22 F l T u = some ([], [], c) := by
      unfold F22
      rw [c1, Option.bind_some, if_pos (by simpa using hc)]
    rw [e1]
    simp only [Option.bind_some]
    rw [if_neg (by simp), if_neg (by simp [hc])]
    simp only [Option.bind_some]
    rw [if_pos (by simpa using hc)]
    simp only [beq_self_eq_true, Bool.true_and]
    rfl
theorem PwarpSays.holds (t0 : List ((Int) × (Int) × (Bool) × (Bool))) (t1 : List ((Int) × (Int) × (Int))) (t2 : Int) (h0 : (t0.length ≤ maxLen ∧ ∀ a ∈ t0, (inR .i64 a.1 ∧ (inR .i64 a.2.1 ∧ (True ∧ True))))) (h1 : (t1.length ≤ maxLen ∧ ∀ a ∈ t1, (inR .i64 a.1 ∧ (inR .i64 a.2.1 ∧ inR .i64 a.2.2)))) (h2 : inR .i64 t2) : ∃ F, F4 F t0 t1 t2 = some true := warp_holds t0 t1 t2
end Go.Proofs.Ytihmliblbhjlaaa

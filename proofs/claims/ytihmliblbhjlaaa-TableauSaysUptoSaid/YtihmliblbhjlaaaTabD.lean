/- What tableau.Back answers. -/
import Derived.Test.YtihmliblbhjlaaaTabC
set_option linter.unusedVariables false
set_option linter.unusedSimpArgs false
namespace Go.Proofs.Ytihmliblbhjlaaa
open Go.Am

/-! ### Without the empty rows at the end -/
def trim : List (List Int) → List (List Int)
  | [] => []
  | r :: t => if r = [] then [] else r :: trim t
theorem trim_all : ∀ {t : List (List Int)}, (∀ r ∈ t, r ≠ []) → trim t = t
  | [], _ => rfl
  | r :: t, h => by
    unfold trim
    rw [if_neg (h r List.mem_cons_self), trim_all (fun q hq => h q (List.mem_cons_of_mem _ hq))]
theorem trim_head {t : List (List Int)} (h : (nx [] t 0).length = 0) : trim t = [] := by
  cases t with
  | nil => rfl
  | cons r t =>
    unfold trim
    rw [if_pos (show r = [] from List.length_eq_zero_iff.1 h)]
theorem trim_none {t : List (List Int)} (h : t.flatten = []) : trim t = [] := by
  refine trim_head ?_
  cases t with
  | nil => rfl
  | cons r t =>
    rw [List.flatten_cons, List.append_eq_nil_iff] at h
    show r.length = 0
    rw [h.1]; rfl
theorem trim_ins : ∀ (t : List (List Int)) (x : Int), Std t → ins (trim t) x = (trim (ins t x).1, (ins t x).2)
  | [], x, _ => by simp [ins, trim]
  | r :: t, x, hS => by
    by_cases hr : r = []
    · subst hr
      have h0 : (nx [] t 0).length = 0 := by have := hS.2.1.1; simp only [List.length_nil] at this; omega
      have e1 : trim ([] :: t) = [] := by unfold trim; rw [if_pos rfl]
      have e2 : ins ([] :: t) x = ([x] :: t, 0) := by unfold ins; simp [fgt]
      have e3 : trim ([x] :: t) = [[x]] := by rw [trim, if_neg (by simp), trim_head h0]
      rw [e1, e2, e3]; rfl
    · have e1 : trim (r :: t) = r :: trim t := by rw [trim, if_neg hr]
      rw [e1]
      unfold ins
      by_cases h : fgt r x < r.length
      · rw [if_pos h, if_pos h, trim_ins t _ hS.2.2]
        have hne : r.set (fgt r x) x ≠ [] := by
          intro e
          have := congrArg List.length e
          rw [List.length_set] at this
          simp at this; exact hr this
        simp only
        rw [trim, if_neg hne]
      · rw [if_neg h, if_neg h]
        simp only
        rw [trim, if_neg (by simp)]
theorem std_len : ∀ {t : List (List Int)} {r : List Int}, Std (r :: t) → ∀ i, (nx [] t i).length ≤ r.length
  | [], _, _, i => by simp [nx]
  | s :: t, r, h, i => by
    have h1 : s.length ≤ r.length := h.2.1.1
    cases i with
    | zero => exact h1
    | succ i => exact Nat.le_trans (std_len (t := t) (r := s) h.2.2 i) h1
theorem insQ_cons (q : List Int) (T : List (List Int)) (i : Nat) (m : Int) : insQ (q :: T) (i + 1) m = q :: insQ T i m := by
  unfold insQ
  by_cases h : i = T.length
  · rw [if_pos (by simp [h]), if_pos h]; rfl
  · rw [if_neg (by simpa using h), if_neg h]; rfl
/-- A row's last is taken away. -/
def cut (Q : List (List Int)) (i : Nat) : List (List Int) := Q.set i (nx [] Q i).dropLast
theorem trim_cut : ∀ (Q : List (List Int)) (i : Nat) (m : Int), Std Q → i < Q.length → 0 < (nx [] Q i).length → (nx [] Q (i + 1)).length < (nx [] Q i).length → nx 0 (nx [] Q i) ((nx [] Q i).length - 1) = m → insQ (trim (cut Q i)) i m = trim Q
  | [], i, m, _, h, _, _, _ => by simp at h
  | q :: T, 0, m, hS, _, hp, hc, hm => by
    have hp : 0 < q.length := hp
    have hc : (nx [] T 0).length < q.length := hc
    have hm : nx 0 q (q.length - 1) = m := hm
    have hq : q ≠ [] := List.length_pos_iff.1 hp
    have e1 : trim (q :: T) = q :: trim T := by rw [trim, if_neg hq]
    have e2 : cut (q :: T) 0 = q.dropLast :: T := rfl
    have e3 : q.dropLast ++ [m] = q := by rw [← hm]; exact dropLast_snoc hq
    rw [e1, e2]
    by_cases h : q.dropLast = []
    · have hl : q.length = 1 := by have := congrArg List.length h; rw [List.length_dropLast] at this; simp at this; omega
      rw [trim, if_pos h, trim_head (t := T) (by omega)]
      rw [h] at e3
      rw [← e3]; rfl
    · rw [trim, if_neg h]
      unfold insQ
      rw [if_neg (by simp)]
      show (q.dropLast ++ [m]) :: trim T = _
      rw [e3]
  | q :: T, i + 1, m, hS, hi, hp, hc, hm => by
    have hq : q ≠ [] := by
      have h1 := std_len hS i
      have h2 : 0 < (nx [] T i).length := hp
      exact List.length_pos_iff.1 (by omega)
    have e1 : trim (q :: T) = q :: trim T := by rw [trim, if_neg hq]
    have e2 : cut (q :: T) (i + 1) = q :: cut T i := rfl
    rw [e1, e2, trim, if_neg hq, insQ_cons, trim_cut T i m hS.2.2 (by simpa using hi) hp hc hm]
theorem cut_std : ∀ (Q : List (List Int)) (i : Nat), Std Q → i < Q.length → 0 < (nx [] Q i).length → (nx [] Q (i + 1)).length < (nx [] Q i).length → Std (cut Q i) ∧ (nx 0 (nx [] Q i) ((nx [] Q i).length - 1) :: (cut Q i).flatten).Perm Q.flatten
  | [], i, _, h, _, _ => by simp at h
  | q :: T, 0, hS, _, hp, hc => by
    have hp : 0 < q.length := hp
    have hc : (nx [] T 0).length < q.length := hc
    have hq : q ≠ [] := List.length_pos_iff.1 hp
    have hll : q.dropLast.length = q.length - 1 := List.length_dropLast
    have e2 : cut (q :: T) 0 = q.dropLast :: T := rfl
    rw [e2]
    refine ⟨⟨fun a b hab hb => ?_, ⟨by omega, fun c hcc => ?_⟩, hS.2.2⟩, ?_⟩
    · rw [nx_dropLast (by omega), nx_dropLast (by omega)]; exact hS.1 a b hab (by omega)
    · rw [nx_dropLast (by omega)]; exact hS.2.1.2 c hcc
    · show (nx 0 q (q.length - 1) :: (q.dropLast ++ T.flatten)).Perm (q ++ T.flatten)
      have e : q ++ T.flatten = (q.dropLast ++ [nx 0 q (q.length - 1)]) ++ T.flatten := by rw [dropLast_snoc hq]
      rw [e, ← List.cons_append]
      exact List.Perm.append_right _ (List.perm_append_comm (l₁ := [nx 0 q (q.length - 1)]))
  | q :: T, i + 1, hS, hi, hp, hc => by
    have e2 : cut (q :: T) (i + 1) = q :: cut T i := rfl
    obtain ⟨h1, h2⟩ := cut_std T i hS.2.2 (by simpa using hi) hp hc
    have hi' : i < T.length := by simpa using hi
    rw [e2]
    refine ⟨⟨hS.1, ?_, h1⟩, ?_⟩
    · have e : nx [] (cut T i) 0 = if 0 = i then (nx [] T i).dropLast else nx [] T 0 := by
        unfold cut; rw [nx_set hi']
      by_cases h0 : 0 = i
      · subst h0
        rw [e, if_pos rfl]
        have := hS.2.1
        refine ⟨by rw [List.length_dropLast]; have := this.1; omega, fun c hcc => ?_⟩
        rw [List.length_dropLast] at hcc
        rw [nx_dropLast hcc]
        exact this.2 c (by omega)
      · rw [e, if_neg h0]; exact hS.2.1
    · show (nx 0 (nx [] T i) ((nx [] T i).length - 1) :: (q ++ (cut T i).flatten)).Perm (q ++ T.flatten)
      exact List.perm_middle.symm.trans (List.Perm.append_left _ h2)
theorem cut_len (Q : List (List Int)) (i : Nat) : (cut Q i).length = Q.length := by unfold cut; simp
theorem cut_shp {Q : List (List Int)} {i : Nat} (hi : i < Q.length) (k : Nat) : (nx [] (cut Q i) k).length = (nx [] Q k).length - if k = i then 1 else 0 := by
  unfold cut
  rw [nx_set hi]
  by_cases e : k = i
  · rw [if_pos e, if_pos e, e, List.length_dropLast]
  · rw [if_neg e, if_neg e]; rfl

/-! ### The row that ends with a number -/
theorem ixl_eq (F : Nat) (hF : 100 ≤ F) (Q : List (List Int)) (hQ : Sml Q) (k : Int) (he : ∃ i, i < Q.length ∧ 0 < (nx [] Q i).length ∧ nx 0 (nx [] Q i) ((nx [] Q i).length - 1) = k) :
    ∃ i, i < Q.length ∧ 0 < (nx [] Q i).length ∧ nx 0 (nx [] Q i) ((nx [] Q i).length - 1) = k ∧ F104_105 F Q k = some (i : Int) := by
  unfold F104_105
  have hl := hQ.1
  rcases seek_loop (step := F104_105_l0 F Q k) (F := F) Q.length (fun i => decide (0 < (nx [] Q i).length) && decide (nx 0 (nx [] Q i) ((nx [] Q i).length - 1) = k)) (fun i => (i : Int)) (fun i hi => by
    have hr := hQ.2 _ (nx_mem (d := []) hi)
    unfold F104_105_l0
    rw [if_pos (decide_eq_true (by omega)), nx_get (d := []) hi]
    simp only [Option.bind_some]
    unfold F105
    by_cases hp : 0 < (nx [] Q i).length
    · rw [if_pos (decide_eq_true (by omega)), wpred hp (by omega), nx_get (d := 0) (by omega)]
      simp only [Option.bind_some]
      rw [wsuc (by omega), decide_eq_true hp, Bool.true_and]
      by_cases e : nx 0 (nx [] Q i) ((nx [] Q i).length - 1) = k
      · rw [if_pos (by simpa using e), if_pos (decide_eq_true e)]
      · rw [if_neg (by simpa using e), if_neg (by rw [decide_eq_true_eq]; exact e)]
    · rw [if_neg (by rw [decide_eq_true_eq]; omega)]
      simp only [Option.bind_some]
      rw [if_neg (by decide), wsuc (by omega), if_neg (by simp [hp])]) (by
    unfold F104_105_l0
    rw [if_neg (by rw [decide_eq_true_eq]; omega)]) (by omega) with ⟨g1, g2⟩ | ⟨i, hi, g1, g3, g2⟩
  · obtain ⟨i, h1, h2, h3⟩ := he
    have := g1 i h1
    rw [decide_eq_true h2, decide_eq_true h3] at this
    cases this
  · simp only [Bool.and_eq_true, decide_eq_true_eq] at g1
    exact ⟨i, hi, g1.1, g1.2, by rw [g2]; rfl⟩

theorem take_nx' {L : List Int} {k : Nat} (hk : k < L.length) : L.take (k + 1) = L.take k ++ [nx 0 L k] := by
  rw [List.take_add_one, List.getElem?_eq_getElem hk, nx_eq hk]; rfl

/-! ### One round -/
structure BI (m : Nat) (P Q : List (List Int)) : Prop where
  sp : Std P
  sq : Std Q
  np : P.flatten.Nodup
  nq : Q.flatten.Perm (rangeI m)
  len : P.length = Q.length
  shp : ∀ k, (nx [] P k).length = (nx [] Q k).length
  ml : m ≤ 10
  pl : P.length ≤ 10
theorem flat_mem {Q : List (List Int)} {x : Int} (h : x ∈ Q.flatten) : ∃ i c, i < Q.length ∧ c < (nx [] Q i).length ∧ nx 0 (nx [] Q i) c = x := by
  obtain ⟨r, hr, hx⟩ := List.mem_flatten.1 h
  obtain ⟨i, hi, rfl⟩ := nx_of (d := []) hr
  obtain ⟨c, hc, rfl⟩ := nx_of (d := 0) hx
  exact ⟨i, c, hi, hc, rfl⟩
theorem mem_flat {Q : List (List Int)} {i c : Nat} (hi : i < Q.length) (hc : c < (nx [] Q i).length) : nx 0 (nx [] Q i) c ∈ Q.flatten := List.mem_flatten.2 ⟨_, nx_mem hi, nx_mem hc⟩
theorem std_srt : ∀ {Q : List (List Int)}, Std Q → ∀ i, Srt (nx [] Q i)
  | [], _, i => by intro a b _ hb; simp [nx] at hb
  | q :: T, h, 0 => h.1
  | q :: T, h, i + 1 => std_srt (Q := T) h.2.2 i
theorem std_abv : ∀ {Q : List (List Int)}, Std Q → ∀ i, Abv (nx [] Q i) (nx [] Q (i + 1))
  | [], _, i => ⟨by simp [nx], fun c h => by simp [nx] at h⟩
  | q :: T, h, 0 => h.2.1
  | q :: T, h, i + 1 => std_abv (Q := T) h.2.2 i
theorem row_le (Q : List (List Int)) : ∀ r ∈ Q, r.length ≤ Q.flatten.length := by
  intro r hr
  rw [List.length_flatten]
  induction Q with
  | nil => simp at hr
  | cons q T ih =>
    rw [List.map_cons, List.sum_cons]
    rcases List.mem_cons.1 hr with rfl | hr
    · omega
    · have := ih hr; omega
theorem shape_len : ∀ {P Q : List (List Int)}, P.length = Q.length → (∀ k, (nx [] P k).length = (nx [] Q k).length) → P.flatten.length = Q.flatten.length
  | [], [], _, _ => rfl
  | [], _ :: _, h, _ => by simp at h
  | _ :: _, [], h, _ => by simp at h
  | p :: P, q :: Q, h, hs => by
    have h1 : p.length = q.length := hs 0
    have := shape_len (P := P) (Q := Q) (by simpa using h) (fun k => hs (k + 1))
    rw [List.flatten_cons, List.flatten_cons, List.length_append, List.length_append, h1, this]
theorem BI.sml {m : Nat} {P Q : List (List Int)} (h : BI m P Q) : Sml P ∧ Sml Q := by
  have e : Q.flatten.length = m := by rw [h.nq.length_eq]; simp [rangeI]
  have e2 := shape_len h.len h.shp
  have h1 := h.ml
  have h2 := h.pl
  have h3 := h.len
  exact ⟨⟨by omega, fun r hr => by have := row_le P r hr; omega⟩, ⟨by omega, fun r hr => by have := row_le Q r hr; omega⟩⟩
theorem rangeI_succ (m : Nat) : rangeI (m + 1) = rangeI m ++ [(m : Int)] := by
  unfold rangeI; rw [List.range_succ, List.map_append]; rfl
theorem back_step (F : Nat) (hF : 100 ≤ F) {k : Nat} {P Q : List (List Int)} (h : BI (k + 1) P Q) (out : List Int) (ho : k < out.length) :
    ∃ i, i < P.length ∧ BI k (unins P i).1 (cut Q i) ∧ UN P i ∧ 0 < (nx [] Q i).length ∧ (nx [] Q (i + 1)).length < (nx [] Q i).length ∧ nx 0 (nx [] Q i) ((nx [] Q i).length - 1) = (k : Int) ∧
      F28_l3 F ((k : Int), P, Q, out) = some (.more ((k : Int) - 1, (unins P i).1, cut Q i, out.set k (unins P i).2)) := by
  obtain ⟨sP, sQ⟩ := h.sml
  have hml := h.ml
  have hall : ∀ x ∈ Q.flatten, x ≤ (k : Int) := fun x hx => by
    have := mem_rangeI.1 (h.nq.mem_iff.1 hx); omega
  have hk : (k : Int) ∈ Q.flatten := h.nq.mem_iff.2 (mem_rangeI.2 ⟨by omega, by omega⟩)
  obtain ⟨i0, c, hi0, hc, he⟩ := flat_mem hk
  have hlast : c = (nx [] Q i0).length - 1 := by
    by_cases e : c = (nx [] Q i0).length - 1
    · exact e
    · have h1 := std_srt h.sq i0 c ((nx [] Q i0).length - 1) (by omega) (by omega)
      have h2 := hall _ (mem_flat hi0 (show (nx [] Q i0).length - 1 < _ by omega))
      omega
  obtain ⟨i, hi, hp, hm, hix⟩ := ixl_eq F hF Q sQ (k : Int) ⟨i0, hi0, by omega, by rw [← hlast]; exact he⟩
  have hcor : (nx [] Q (i + 1)).length < (nx [] Q i).length := by
    have hA := std_abv h.sq i
    by_cases e : (nx [] Q (i + 1)).length < (nx [] Q i).length
    · exact e
    · exfalso
      have h1 := hA.2 ((nx [] Q i).length - 1) (by omega)
      by_cases hi1 : i + 1 < Q.length
      · have hlt : (nx [] Q i).length - 1 < (nx [] Q (i + 1)).length := by omega
        have h2 : nx 0 (nx [] Q (i + 1)) ((nx [] Q i).length - 1) ≤ (k : Int) := hall _ (mem_flat hi1 hlt)
        exact absurd (Int.lt_of_lt_of_le h1 h2) (by rw [hm]; exact Int.lt_irrefl _)
      · rw [nx_out (by omega : Q.length ≤ i + 1), List.length_nil] at e
        omega
  have hiP : i < P.length := by rw [h.len]; exact hi
  have hs := h.shp
  have U := un P i h.sp h.np hiP (by rw [hs]; exact hp) (by rw [hs, hs]; exact hcor)
  obtain ⟨c1, c2⟩ := cut_std Q i h.sq hi hp hcor
  have hPi := sP.2 _ (nx_mem (d := []) hiP)
  have hQi := sQ.2 _ (nx_mem (d := []) hi)
  refine ⟨i, hiP, ⟨U.std, c1, ?_, ?_, ?_, ?_, by omega, by rw [U.len]; exact h.pl⟩, U, hp, hcor, hm, ?_⟩
  · have := U.perm.nodup_iff.2 h.np
    exact (List.nodup_cons.1 this).2
  · rw [hm] at c2
    have h1 := c2.trans h.nq
    rw [rangeI_succ] at h1
    have h2 : ((k : Int) :: (cut Q i).flatten).Perm ((k : Int) :: rangeI k) := h1.trans (List.perm_append_comm (l₂ := [(k : Int)]))
    exact h2.cons_inv
  · rw [U.len, cut_len]; exact h.len
  · intro a; rw [U.shp, cut_shp hi, hs]
  · unfold F28_l3
    simp only
    rw [if_pos (decide_eq_true (by omega)), hix, Option.bind_some, nx_get (d := []) hiP, nx_get (d := []) hi]
    simp only [Option.bind_some]
    have hpp : 0 < (nx [] P i).length := by rw [hs]; exact hp
    have hsl : (nx [] P i).length = (nx [] Q i).length := hs i
    rw [wpred hpp (by omega), nx_get (d := 0) (by omega), Option.bind_some, sub?_to (by omega), Option.bind_some, sub?_to (by omega), Option.bind_some, ck_ok hiP, Option.bind_some, ck_ok hi, Option.bind_some, Int.toNat_natCast]
    have eu := unins_up P i hiP
    have edl : (nx [] P i).take ((nx [] P i).length - 1) = (nx [] P i).dropLast := by rw [List.dropLast_eq_take]
    have edq : (nx [] Q i).take ((nx [] P i).length - 1) = (nx [] Q i).dropLast := by rw [List.dropLast_eq_take, hsl]
    have eset : P.set i (nx [] P i).dropLast = P.take i ++ ((nx [] P i).dropLast :: P.drop (i + 1)) := set_split hiP
    have hUL := up_loop F hF (P.take i).length (P.take i) ((nx [] P i).dropLast :: P.drop (i + 1)) (nx 0 (nx [] P i) ((nx [] P i).length - 1)) F rfl (by rw [List.length_take]; have := sP.1; omega) (by rw [List.length_take]; have := sP.1; omega) (fun r hr => sP.2 r (List.mem_of_mem_take hr)) U.ok
    rw [List.length_take, Nat.min_eq_left (by omega)] at hUL
    have := sP.1
    rw [edl, edq, eset, w64 (a := (i : Int) - 1) (by omega) (by omega), hUL]
    simp only [Option.bind_some]
    rw [ck_ok ho, Option.bind_some, w64 (by omega) (by omega), Int.toNat_natCast, eu]
    rfl
theorem back_loop (F : Nat) (hF : 100 ≤ F) : ∀ (m : Nat) (P Q : List (List Int)) (out : List Int) (G : Nat), BI m P Q → m ≤ out.length → m < G →
    ∃ out', iter (F28_l3 F) G ((m : Int) - 1, P, Q, out) = some out' ∧ out'.length = out.length ∧ (∀ j, m ≤ j → nx 0 out' j = nx 0 out j) ∧ rsk out' m = (trim P, trim Q) ∧ (out'.take m).Perm P.flatten
  | 0, P, Q, out, G, h, ho, hG => by
    obtain ⟨G, rfl⟩ : ∃ q, G = q + 1 := ⟨G - 1, by omega⟩
    have hq : Q.flatten = [] := List.eq_nil_of_length_eq_zero (by rw [h.nq.length_eq]; rfl)
    have hp : P.flatten = [] := List.eq_nil_of_length_eq_zero (by rw [shape_len h.len h.shp, hq]; rfl)
    refine ⟨out, iter_stop ?_, rfl, fun _ _ => rfl, ?_, by rw [hp]; simp⟩
    · unfold F28_l3
      simp
    · rw [trim_none hp, trim_none hq]; rfl
  | k + 1, P, Q, out, G, h, ho, hG => by
    obtain ⟨G, rfl⟩ : ∃ q, G = q + 1 := ⟨G - 1, by omega⟩
    obtain ⟨i, hi, B, U, hp, hc, hm, hs⟩ := back_step F hF h out (by omega)
    obtain ⟨out', e1, e2, e3, e4, e5⟩ := back_loop F hF k (unins P i).1 (cut Q i) (out.set k (unins P i).2) G B (by rw [List.length_set]; omega) (by omega)
    have hy : nx 0 out' k = (unins P i).2 := by rw [e3 k (Nat.le_refl _), nx_set (by omega), if_pos rfl]
    rw [List.length_set] at e2
    refine ⟨out', ?_, e2, fun j hj => ?_, ?_, ?_⟩
    · rw [show ((k + 1 : Nat) : Int) - 1 = (k : Int) from by omega, iter_more hs]; exact e1
    · rw [e3 j (by omega), nx_set (by omega), if_neg (by omega)]
    · have e0 : rsk out' (k + 1) = ((ins (rsk out' k).1 (nx 0 out' k)).1, insQ (rsk out' k).2 (ins (rsk out' k).1 (nx 0 out' k)).2 (k : Int)) := rfl
      rw [e0, e4, hy]
      simp only
      rw [trim_ins _ _ B.sp, U.back]
      simp only
      rw [trim_cut Q i (k : Int) h.sq (by rw [← h.len]; exact hi) hp hc hm]
    · have e0 : out'.take (k + 1) = out'.take k ++ [nx 0 out' k] := take_nx' (by omega)
      rw [e0, hy]
      refine (List.perm_append_comm (l₂ := [(unins P i).2])).trans ?_
      exact (List.Perm.cons _ e5).trans U.perm
end Go.Proofs.Ytihmliblbhjlaaa

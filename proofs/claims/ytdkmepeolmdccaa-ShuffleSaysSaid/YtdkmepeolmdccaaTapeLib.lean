/- Draws from a tape: what the functional texts of package tape and its reference answer. -/
import Derived.Test.YtdkmepeolmdccaaEqualLib
import Derived.Test.YtdkmepeolmdccaaMono
import Derived.Test.YtdkmepeolmdccaaPureC
import Derived.KernelRfl
set_option linter.unusedVariables false
set_option linter.unusedSimpArgs false
namespace Go.Proofs.Ytdkmepeolmdccaa
open Go.Am

def chkB (j : Nat) : Bool := match F181 40 ((j + 1 : Nat) : Int), F165 40 ((j + 1 : Nat) : Int) with
  | some r, some x => r.2 == 0 && r.1 == x && decide (0 ≤ x) && decide (x ≤ 10) && decide (j + 1 ≤ 2 ^ x.toNat)
  | _, _ => false
theorem chkB_ok : all2 32 32 chkB = true := by kernel_rfl
theorem bits_in (n : Nat) (h1 : 1 ≤ n) (h2 : n ≤ 1024) : ∃ k : Nat, k ≤ 10 ∧ n ≤ 2 ^ k ∧ ∀ F, 40 ≤ F → F181 F n = some ((k : Int), 0) ∧ F165 F n = some (k : Int) := by
  have h := all2_ok chkB_ok (n - 1) (by omega)
  unfold chkB at h
  rw [show n - 1 + 1 = n from by omega] at h
  split at h
  · rename_i r x q1 q2
    simp only [Bool.and_eq_true, beq_iff_eq, decide_eq_true_eq] at h
    obtain ⟨⟨⟨⟨h3, h4⟩, h5⟩, h6⟩, h7⟩ := h
    obtain ⟨a, b⟩ := r
    simp only at h3 h4
    subst h3; subst h4
    refine ⟨a.toNat, by omega, h7, fun F hF => ?_⟩
    rw [show ((a.toNat : Nat) : Int) = a from by omega]
    exact ⟨(F181_le hF _).up _ q1, (F165_le hF _).up _ q2⟩
  · cases h

def val (l : List Int) : Int := l.foldl (fun a b => 2 * a + b) 0
def Bin (l : List Int) : Prop := ∀ x ∈ l, 0 ≤ x ∧ x ≤ 1
theorem val_snoc (l : List Int) (x : Int) : val (l ++ [x]) = 2 * val l + x := by simp [val]
theorem val_range (l : List Int) (h : Bin l) : ∀ i, i ≤ l.length → 0 ≤ val (l.take i) ∧ val (l.take i) < 2 ^ i
  | 0, _ => by simp [val]
  | i + 1, hi => by
    have ih := val_range l h i (by omega)
    have hx := h l[i] (List.getElem_mem (by omega))
    rw [List.take_add_one, List.getElem?_eq_getElem (by omega)]
    simp only [Option.toList_some]
    rw [val_snoc, Int.pow_succ]
    omega

/-- Draws from a tape of ones and noughts. -/
def drawS (n : Int) (k : Nat) : Nat → List Int → Int × Int × Int
  | 0, _ => (0, 0, 6)
  | f + 1, l => if l.length < k then (0, 0, 6) else if val (l.take k) < n then (val (l.take k), (k : Int), 0)
    else if (drawS n k f (l.drop k)).2.2 ≠ 0 then (0, 0, (drawS n k f (l.drop k)).2.2) else ((drawS n k f (l.drop k)).1, (drawS n k f (l.drop k)).2.1 + k, 0)
theorem drawS_ok (n : Int) (k : Nat) : ∀ (f : Nat) (l : List Int), ((drawS n k f l).2.2 = 6 ∧ (drawS n k f l).1 = 0 ∧ (drawS n k f l).2.1 = 0) ∨ ((drawS n k f l).2.2 = 0 ∧ 0 ≤ (drawS n k f l).2.1 ∧ (drawS n k f l).2.1 ≤ l.length)
  | 0, l => .inl ⟨rfl, rfl, rfl⟩
  | f + 1, l => by
    have ih := drawS_ok n k f (l.drop k)
    rw [List.length_drop] at ih
    simp only [drawS]
    split
    · exact .inl ⟨rfl, rfl, rfl⟩
    · split
      · exact .inr ⟨rfl, by simp only; omega, by simp only; omega⟩
      · split
        · rename_i h; rcases ih with h1 | h1
          · exact .inl ⟨h1.1, rfl, rfl⟩
          · exact (h h1.1).elim
        · rename_i h; rcases ih with h1 | h1
          · exfalso; omega
          · exact .inr ⟨rfl, by simp only; omega, by simp only; omega⟩

theorem Bin.drop {l : List Int} (h : Bin l) (i : Nat) : Bin (l.drop i) := fun x hx => h x (List.mem_of_mem_drop hx)
theorem Bin.take {l : List Int} (h : Bin l) (i : Nat) : Bin (l.take i) := fun x hx => h x (List.mem_of_mem_take hx)

theorem pow_le10 {k : Nat} (h : k ≤ 10) : (2 : Int) ^ k ≤ 1024 := by
  have : 2 ^ k ≤ 2 ^ 10 := Nat.pow_le_pow_right (by omega) h
  have e : ((2 ^ k : Nat) : Int) = (2 : Int) ^ k := by simp
  rw [← e]; omega
theorem pow_pos' (k : Nat) : (0 : Int) < 2 ^ k := Int.pow_pos (by omega)

theorem valLoop (F : Nat) (L : List Int) (hb : Bin L) (hl : L.length ≤ 10) (hF : 12 ≤ F) : iter (F163_l0 F L) F (0, 0) = some (val L) := by
  have := iter_count (step := F163_l0 F L) (F := F) (fun i => (val (L.take i), (i : Int))) (b := val L) L.length ?_ ?_ (by omega)
  · exact this
  · intro i hi
    unfold F163_l0
    simp only
    have h1 := val_range L hb i (by omega)
    have h2 := hb L[i] (List.getElem_mem hi)
    have h3 := pow_le10 (by omega : i ≤ 10)
    rw [if_pos (decide_eq_true (by omega)), at?_in hi]
    simp only [Option.bind_some]
    simp (disch := omega) only [w64]
    rw [List.take_add_one, List.getElem?_eq_getElem hi]
    simp only [Option.toList_some]
    rw [val_snoc]; rfl
  · unfold F163_l0
    simp only
    rw [if_neg (by rw [decide_eq_true_eq]; omega), List.take_length]
theorem refLoop (F : Nat) (L : List Int) (hb : Bin L) (hl : L.length ≤ 10) (hF : 12 ≤ F) : iter (F142_l0 F (L.length : Int) L) F (0, 0) = some (val L) := by
  have := iter_count (step := F142_l0 F (L.length : Int) L) (F := F) (fun i => (val (L.take i) * 2 ^ (L.length - i), (i : Int))) (b := val L) L.length ?_ ?_ (by omega)
  · have e : (val (L.take 0) * 2 ^ (L.length - 0), ((0 : Nat) : Int)) = ((0 : Int), (0 : Int)) := by simp [val]
    rw [← e]; exact this
  · intro i hi
    unfold F142_l0
    simp only
    have h1 := val_range L hb i (by omega)
    have h2 := hb L[i] (List.getElem_mem hi)
    have h3 := pow_le10 (by omega : i ≤ 10)
    have h4 := pow_le10 (by omega : L.length - i ≤ 10)
    have h5 := pow_pos' (L.length - i)
    have h6 := pow_le10 (by omega : L.length - i - 1 ≤ 10)
    have h7 := pow_pos' (L.length - i - 1)
    rw [if_pos (decide_eq_true (by omega)), at?_in hi]
    simp only [Option.bind_some]
    simp (disch := omega) only [w64]
    have hm1 : L[i] * 2 ^ (L.length - i - 1) ≤ 1 * 1024 := by
      rcases (show L[i] = 0 ∨ L[i] = 1 by omega) with h | h <;> rw [h] <;> omega
    have hm0 : 0 ≤ L[i] * 2 ^ (L.length - i - 1) := Int.mul_nonneg h2.1 (by omega)
    have hsh : shl? .i64 L[i] ((L.length : Int) - 1 - (i : Int)) = some (L[i] * 2 ^ (L.length - i - 1)) := by
      unfold shl?
      rw [if_neg (by omega), show ((L.length : Int) - 1 - (i : Int)).toNat = L.length - i - 1 from by omega, Nat.min_eq_left (by show L.length - i - 1 ≤ 64; omega), w64 (by omega) (by omega)]
    have hv0 : 0 ≤ val (L.take i) * 2 ^ (L.length - i) := Int.mul_nonneg h1.1 (by omega)
    have hv1 : val (L.take i) * 2 ^ (L.length - i) ≤ 1024 * 1024 := Int.mul_le_mul (by omega) h4 (by omega) (by omega)
    rw [hsh]
    simp only [Option.bind_some]
    simp (disch := omega) only [w64]
    rw [List.take_add_one, List.getElem?_eq_getElem hi]
    simp only [Option.toList_some]
    rw [val_snoc]
    have e1 : L.length - i = (L.length - (i + 1)) + 1 := by omega
    have e2 : L.length - i - 1 = L.length - (i + 1) := by omega
    rw [e2, e1, Int.pow_succ]
    congr 3
    rw [Int.add_mul, Int.mul_comm (2 ^ (L.length - (i + 1))) 2, ← Int.mul_assoc, Int.mul_comm (val (L.take i)) 2]
  · unfold F142_l0
    simp only
    rw [if_neg (by rw [decide_eq_true_eq]; omega), List.take_length]
    simp

/-! ### A tape -/
def tapeE (l : List Int) : Int := if 200 < l.length then 2 else if l.any (fun x => decide (x > 1)) then 3 else 0
theorem tapeE_bin {l : List Int} (h : tapeE l = 0) (hd : ∀ a ∈ l, inR .u8 a) : Bin l ∧ l.length ≤ 200 := by
  unfold tapeE at h
  split at h
  · cases h
  · split at h
    · cases h
    · rename_i h1 h2
      refine ⟨fun x hx => ⟨(inR8 (hd x hx)).1, ?_⟩, by omega⟩
      have : ¬ x > 1 := fun hc => h2 (List.any_eq_true.2 ⟨x, hx, by simpa using hc⟩)
      omega
theorem tapeCheck_eq (F : Nat) (l : List Int) (hF : 202 ≤ F) : F138 F l = some (tapeE l) := by
  unfold F138 tapeE
  by_cases h : 200 < l.length
  · rw [if_pos (decide_eq_true (by omega)), if_pos h]
  · rw [if_neg (by rw [decide_eq_true_eq]; omega), if_neg h]
    rw [any_loop (step := F138_l0 F l) l (fun x => decide (x > 1)) 3 ?_ ?_ (by omega)]
    · cases l.any (fun x => decide (x > 1)) <;> rfl
    · intro i hi
      unfold F138_l0
      rw [if_pos (decide_eq_true (by omega)), at?_in hi, w64 (by omega) (by omega)]
      simp only [Option.bind_some]
      by_cases hx : l[i] > 1 <;> simp [hx]
    · unfold F138_l0
      rw [if_neg (by rw [decide_eq_true_eq]; omega)]
theorem refTape_eq (F : Nat) (l : List Int) (hF : 202 ≤ F) : F79 F l = some (tapeE l) := by
  unfold F79 tapeE
  by_cases h : 200 < l.length
  · rw [if_pos (decide_eq_true (by omega)), if_pos h]
  · rw [if_neg (by rw [decide_eq_true_eq]; omega), if_neg h]
    unfold F140_141 F164_141
    have hs : ∀ (i : Nat) (h : i < l.length), F164_141_l0 F l (i : Int) = some (if decide (l[i] > 1) then .stop (.inr (i : Int)) else .more ((i + 1 : Nat) : Int)) := by
      intro i hi
      unfold F164_141_l0 F141
      rw [if_pos (decide_eq_true (by omega)), at?_in hi, w64 (by omega) (by omega)]
      simp only [Option.bind_some]
      by_cases hx : l[i] > 1 <;> simp [hx]
    have he : F164_141_l0 F l (l.length : Int) = some (.stop (.inl ())) := by
      unfold F164_141_l0
      rw [if_neg (by rw [decide_eq_true_eq]; omega)]
    rcases find_loop l (fun x => decide (x > 1)) (fun i _ => (i : Int)) hs he (by omega : l.length < F) with ⟨h1, h2⟩ | ⟨i, h, h1, _, h2⟩
    · rw [h2, any_none h1]; rfl
    · rw [h2, any_of_first h h1]
      simp only [Option.bind_some]
      rw [if_pos (by simp)]; rfl

/-! ### One draw -/
theorem drawS_fuel (n : Int) (k : Nat) (hk : 0 < k ∨ n = 1) : ∀ (f f' : Nat) (l : List Int), l.length < f → l.length < f' → drawS n k f l = drawS n k f' l
  | 0, _, l, h, _ => by omega
  | f + 1, 0, l, _, h => by omega
  | f + 1, f' + 1, l, h, h' => by
    simp only [drawS]
    split
    · rfl
    · split
      · rfl
      · rename_i h1 h2
        have : 0 < k := by
          rcases hk with hk | hk
          · exact hk
          · rcases Nat.eq_zero_or_pos k with e | e
            · subst e; subst hk; simp [val] at h2
            · exact e
        rw [drawS_fuel n k hk f f' (l.drop k) (by rw [List.length_drop]; omega) (by rw [List.length_drop]; omega)]

theorem drawStep (F : Nat) (l : List Int) (n : Int) (k a : Nat) (hb : Bin l) (hl : l.length ≤ 200) (hk : k ≤ 10) (hF : 12 ≤ F) (ha : a ≤ l.length) :
    F163_l1 F l n ((k : Int), 0) (a : Int) = if a + k ≤ l.length then (if val ((l.drop a).take k) < n then some (.stop (.inr (val ((l.drop a).take k), ((a + k : Nat) : Int), 0))) else some (.more ((a + k : Nat) : Int))) else some (.stop (.inl ())) := by
  unfold F163_l1
  simp only
  rw [w64 (by omega) (by omega)]
  by_cases h : a + k ≤ l.length
  · rw [if_pos (decide_eq_true (by omega)), if_pos h, sub?_mid h]
    simp only [Option.bind_some]
    rw [valLoop F _ ((hb.drop a).take k) (by rw [List.length_take]; omega) hF]
    simp only [Option.bind_some]
    by_cases h2 : val ((l.drop a).take k) < n
    · rw [if_pos (by simpa using h2), if_pos h2]; rfl
    · rw [if_neg (by simpa using h2), if_neg h2]; rfl
  · rw [if_neg (by rw [decide_eq_true_eq]; omega), if_neg h]
theorem drawLoop (F : Nat) (l : List Int) (n : Int) (k : Nat) (hb : Bin l) (hl : l.length ≤ 200) (hk : k ≤ 10) (hkn : 0 < k ∨ n = 1) (hF : 12 ≤ F) : ∀ (G a : Nat), a ≤ l.length → l.length - a < G →
    iter (F163_l1 F l n ((k : Int), 0)) G (a : Int) = some (if (drawS n k G (l.drop a)).2.2 ≠ 0 then .inl () else .inr ((drawS n k G (l.drop a)).1, (a : Int) + (drawS n k G (l.drop a)).2.1, 0))
  | 0, a, _, h => by omega
  | G + 1, a, ha, h => by
    have st := drawStep F l n k a hb hl hk hF ha
    by_cases h1 : a + k ≤ l.length
    · rw [if_pos h1] at st
      by_cases h2 : val ((l.drop a).take k) < n
      · rw [if_pos h2] at st
        rw [iter_stop st]
        have e : drawS n k (G + 1) (l.drop a) = (val ((l.drop a).take k), (k : Int), 0) := by
          simp only [drawS]; rw [if_neg (by rw [List.length_drop]; omega), if_pos h2]
        rw [e]; simp
      · rw [if_neg h2] at st
        have h0 : 0 < k := by
          rcases hkn with hq | hq
          · exact hq
          · rcases Nat.eq_zero_or_pos k with e | e
            · subst e; subst hq; simp [val] at h2
            · exact e
        rw [iter_more st, drawLoop F l n k hb hl hk hkn hF G (a + k) h1 (by omega)]
        have e : drawS n k (G + 1) (l.drop a) = if (drawS n k G (l.drop (a + k))).2.2 ≠ 0 then (0, 0, (drawS n k G (l.drop (a + k))).2.2) else ((drawS n k G (l.drop (a + k))).1, (drawS n k G (l.drop (a + k))).2.1 + k, 0) := by
          simp only [drawS]; rw [if_neg (by rw [List.length_drop]; omega), if_neg h2, List.drop_drop]
        rw [e]
        by_cases h3 : (drawS n k G (l.drop (a + k))).2.2 = 0
        · simp only [h3, ne_eq, eq_self, not_true_eq_false, if_false]
          rw [show ((a + k : Nat) : Int) + (drawS n k G (l.drop (a + k))).2.1 = (a : Int) + ((drawS n k G (l.drop (a + k))).2.1 + k) from by omega]
        · simp only [if_pos (show (drawS n k G (l.drop (a + k))).2.2 ≠ 0 from h3)]
    · rw [if_neg h1] at st
      rw [iter_stop st]
      have e : drawS n k (G + 1) (l.drop a) = (0, 0, 6) := by
        simp only [drawS]; rw [if_pos (by rw [List.length_drop]; omega)]
      rw [e]; simp

theorem drawOf_eq (n : Nat) (k : Nat) (h1 : 1 ≤ n) (h2 : n ≤ 1024) (hk : k ≤ 10) (hB : ∀ F, 40 ≤ F → F165 F n = some (k : Int)) (hkn : 0 < k ∨ (n : Int) = 1) : ∀ (G : Nat) (l : List Int), Bin l → l.length ≤ 200 → l.length < G →
    F142 (G + 40) l n = some (drawS n k G l)
  | 0, l, _, _, h => by omega
  | G + 1, l, hb, hl, h => by
    rw [show G + 1 + 40 = (G + 40) + 1 from by omega, F142]
    try dsimp only
    rw [if_neg (by simp; omega), hB _ (by omega)]
    simp only [Option.bind_some, drawS]
    by_cases h3 : l.length < k
    · rw [if_pos (decide_eq_true (by omega)), if_pos h3]
    · rw [if_neg (by rw [decide_eq_true_eq]; omega), if_neg h3, sub?_to (by omega)]
      simp only [Option.bind_some]
      have hlen : (l.take k).length = k := by rw [List.length_take]; omega
      have hr := refLoop (G + 40) (l.take k) (hb.take k) (by omega) (by omega)
      rw [hlen] at hr
      rw [hr]
      simp only [Option.bind_some]
      by_cases h4 : val (l.take k) < n
      · rw [if_pos (by simpa using h4), if_pos h4]
      · rw [if_neg (by simpa using h4), if_neg h4, sub?_from (by omega)]
        simp only [Option.bind_some]
        have h0 : 0 < k := by
          rcases hkn with hq | hq
          · exact hq
          · rcases Nat.eq_zero_or_pos k with e | e
            · subst e; rw [hq] at h4; simp [val] at h4
            · exact e
        rw [drawOf_eq n k h1 h2 hk hB hkn G (l.drop k) (hb.drop k) (by rw [List.length_drop]; omega) (by rw [List.length_drop]; omega)]
        simp only [Option.bind_some]
        have ok := drawS_ok n k G (l.drop k)
        rw [List.length_drop] at ok
        by_cases h5 : (drawS n k G (l.drop k)).2.2 = 0
        · rw [if_neg (by simpa using h5), if_neg (by simpa using h5)]
          rcases ok with ok | ok
          · omega
          · rw [w64 (by omega) (by omega)]
        · rw [if_pos (by simpa using h5), if_pos h5]

theorem draw_both (F : Nat) (hF : 300 ≤ F) (l : List Int) (hb : Bin l) (hl : l.length ≤ 200) (he : tapeE l = 0) (n : Int) :
    ∃ r : Int × Int × Int, F163 F l n = some r ∧ F142 F l n = some r ∧ 0 ≤ r.2.1 ∧ r.2.1 ≤ l.length := by
  by_cases hn : n < 1 ∨ n > 1024
  · refine ⟨(0, 0, 1), ?_, ?_, by simp, by simp⟩
    · unfold F163 F181
      rw [tapeCheck_eq F l (by omega), he]
      simp only [Option.bind_some]
      rw [if_neg (by simp), if_pos (by simpa using hn)]
      rfl
    · obtain ⟨G, rfl⟩ : ∃ G, F = G + 1 := ⟨F - 1, by omega⟩
      rw [F142]
      try dsimp only
      rw [if_pos (by simpa using hn)]
  · obtain ⟨n, rfl⟩ : ∃ m : Nat, n = m := ⟨n.toNat, by omega⟩
    obtain ⟨k, k1, k2, k3⟩ := bits_in n (by omega) (by omega)
    have hkn : 0 < k ∨ (n : Int) = 1 := by
      rcases Nat.eq_zero_or_pos k with e | e
      · subst e; right; simp at k2; omega
      · exact .inl e
    have ok := drawS_ok n k (F - 40) l
    have e1 := drawOf_eq n k (by omega) (by omega) k1 (fun F h => (k3 F h).2) hkn (F - 40) l hb hl (by omega)
    rw [show F - 40 + 40 = F from by omega] at e1
    refine ⟨drawS n k (F - 40) l, ?_, e1, ?_⟩
    · unfold F163
      rw [tapeCheck_eq F l (by omega), he, (k3 F (by omega)).1]
      simp only [Option.bind_some]
      rw [if_neg (by simp), if_neg (by simp)]
      have := drawLoop F l n k hb hl k1 hkn (by omega) F 0 (by omega) (by omega)
      rw [show ((0 : Nat) : Int) = 0 from rfl, List.drop_zero, drawS_fuel n k hkn F (F - 40) l (by omega) (by omega)] at this
      rw [this]
      simp only [Option.bind_some]
      generalize drawS n k (F - 40) l = r at ok
      obtain ⟨x, u, e⟩ := r
      simp only at ok ⊢
      rcases ok with ⟨rfl, rfl, rfl⟩ | ⟨rfl, _, _⟩
      · simp
      · simp
    · rcases ok with ok | ok <;> omega

theorem drawS_val (n : Int) (k : Nat) : ∀ (f : Nat) (l : List Int), Bin l → k ≤ l.length ∨ l.length < k → (drawS n k f l).2.2 = 0 → 0 ≤ (drawS n k f l).1 ∧ (drawS n k f l).1 < n
  | 0, l, _, _, h => by simp [drawS] at h
  | f + 1, l, hb, _, h => by
    have ih := drawS_val n k f (l.drop k) (hb.drop k) (by omega)
    simp only [drawS] at h ⊢
    split at h
    · simp at h
    · rename_i h1
      rw [if_neg h1]
      split at h
      · rename_i h2
        rw [if_pos h2]
        have := val_range (l.take k) (hb.take k) (l.take k).length (Nat.le_refl _)
        rw [List.take_length] at this
        exact ⟨this.1, h2⟩
      · rename_i h2
        rw [if_neg h2]
        split at h
        · rename_i h3; exact (h3 h).elim
        · rename_i h3
          rw [if_neg h3]
          exact ih (by simpa using h3)
theorem draw_val (F : Nat) (hF : 300 ≤ F) (l : List Int) (hb : Bin l) (hl : l.length ≤ 200) (he : tapeE l = 0) (n : Int) :
    ∃ r : Int × Int × Int, F163 F l n = some r ∧ F142 F l n = some r ∧ 0 ≤ r.2.1 ∧ r.2.1 ≤ l.length ∧ (r.2.2 = 0 → 0 ≤ r.1 ∧ r.1 < n) := by
  obtain ⟨r, e1, e2, h1, h2⟩ := draw_both F hF l hb hl he n
  refine ⟨r, e1, e2, h1, h2, fun hr => ?_⟩
  by_cases hn : n < 1 ∨ n > 1024
  · obtain ⟨G, rfl⟩ : ∃ G, F = G + 1 := ⟨F - 1, by omega⟩
    rw [F142] at e2
    try dsimp only at e2
    rw [if_pos (by simpa using hn)] at e2
    cases e2; cases hr
  · obtain ⟨n, rfl⟩ : ∃ m : Nat, n = m := ⟨n.toNat, by omega⟩
    obtain ⟨k, k1, k2, k3⟩ := bits_in n (by omega) (by omega)
    have hkn : 0 < k ∨ (n : Int) = 1 := by
      rcases Nat.eq_zero_or_pos k with e | e
      · subst e; right; simp at k2; omega
      · exact .inl e
    have e3 := drawOf_eq n k (by omega) (by omega) k1 (fun F h => (k3 F h).2) hkn (F - 40) l hb hl (by omega)
    rw [show F - 40 + 40 = F from by omega, e2] at e3
    cases e3
    exact drawS_val n k _ l hb (by omega) hr

/-! ### Rows of draws -/
theorem row_both (F : Nat) (hF : 300 ≤ F) (l : List Int) (hd : ∀ a ∈ l, inR .u8 a) (he : tapeE l = 0) (most : List Int) (hm : most.length ≤ 30) :
    ∃ r : List Int × Int × Int, F139 F l most = some r ∧ F80 F l most = some r ∧ r.1.length ≤ 30 ∧ (r.2.2 = 0 → r.1.length = most.length ∧ ∀ i, i < most.length → 0 ≤ nx 0 r.1 i ∧ nx 0 r.1 i < nx 0 most i) ∧ (r.2.2 ≠ 0 → r.2.1 = 0) := by
  have ⟨hb, hl⟩ := tapeE_bin he hd
  have suf : ∀ a, tapeE (l.drop a) = 0 := by
    intro a
    unfold tapeE
    rw [if_neg (by rw [List.length_drop]; omega), if_neg]
    intro hc
    obtain ⟨x, hx, hx2⟩ := List.any_eq_true.1 hc
    have := hb x (List.mem_of_mem_drop hx)
    simp at hx2; omega
  have hcong : F139_l0 F l most = F80_l0 F l most := by
    funext s
    unfold F139_l0 F80_l0
    cases h1 : at? most s.2.2 with
    | none => rfl
    | some x =>
      cases h2 : sub? l s.2.1 l.length with
      | none => rfl
      | some L =>
        obtain ⟨⟨h3, h4, _⟩, rfl⟩ := sub?_some h2
        rw [show ((l.length : Int)).toNat = l.length from rfl, List.take_length]
        obtain ⟨r, e1, e2, _⟩ := draw_both F hF (l.drop s.2.1.toNat) (hb.drop _) (by rw [List.length_drop]; omega) (suf _) x
        simp only [Option.bind_some]
        rw [e1, e2]
  obtain ⟨b, hb1, hQ⟩ := iter_inv (step := F80_l0 F l most) (I := fun s => ∃ i a : Nat, s.2.2 = i ∧ i ≤ most.length ∧ s.2.1 = a ∧ a ≤ l.length ∧ s.1.length = i ∧ ∀ q, q < i → 0 ≤ nx 0 s.1 q ∧ nx 0 s.1 q < nx 0 most q) (μ := fun s => most.length - s.2.2.toNat)
    (Q := fun b => match b with | .inl b => b.1.length = most.length ∧ ∀ i, i < most.length → 0 ≤ nx 0 b.1 i ∧ nx 0 b.1 i < nx 0 most i | .inr b => b.1.length ≤ 30 ∧ b.2.2 ≠ 0 ∧ b.2.1 = 0) (by
      rintro ⟨out, at_, i_⟩ ⟨i, a, rfl, hi, rfl, ha, ho, hv⟩
      unfold F80_l0
      simp only at ho hv ⊢
      by_cases hlt : i < most.length
      · rw [if_pos (decide_eq_true (by omega)), at?_in hlt, sub?_from ha]
        simp only [Option.bind_some]
        obtain ⟨r, e1, e2, h0, hu, hrv⟩ := draw_val F hF (l.drop a) (hb.drop _) (by rw [List.length_drop]; omega) (suf _) most[i]
        rw [e2]
        rw [List.length_drop] at hu
        simp only [Option.bind_some]
        by_cases hr : r.2.2 = 0
        · left
          rw [if_neg (by simpa using hr), app?_ok (by simp; omega)]
          simp only [Option.bind_some]
          rw [w64 (by omega) (by omega), w64 (by omega) (by omega)]
          refine ⟨_, rfl, ⟨i + 1, a + r.2.1.toNat, by simp, by omega, by simp only; omega, by omega, by simp [ho], fun q hq => ?_⟩, by simp only; omega⟩
          by_cases e : q = i
          · subst e
            have e3 : nx 0 (out ++ [r.1]) q = r.1 := by unfold nx; rw [List.getElem?_append_right (by omega)]; simp [ho]
            have e4 : nx 0 most q = most[q] := nx_eq hlt
            rw [e3, e4]; exact hrv hr
          · have e3 : nx 0 (out ++ [r.1]) q = nx 0 out q := by unfold nx; rw [List.getElem?_append_left (by omega)]
            rw [e3]; exact hv q (by omega)
        · right
          rw [if_pos (by simpa using hr)]
          exact ⟨_, rfl, by simp, hr, rfl⟩
      · right
        rw [if_neg (by rw [decide_eq_true_eq]; omega)]
        have e : i = most.length := by omega
        subst e
        exact ⟨_, rfl, ho, hv⟩) F ([], 0, 0) ⟨0, 0, rfl, by omega, rfl, by omega, rfl, by omega⟩ (by simp only; omega)
  unfold F139 F80
  rw [hcong, tapeCheck_eq F l (by omega), he]
  simp only [Option.bind_some]
  rw [if_neg (by simp), if_neg (by rw [decide_eq_true_eq]; omega), hb1]
  simp only [Option.bind_some]
  cases b with
  | inl b => exact ⟨_, rfl, rfl, by have := hQ.1; simp only; omega, fun _ => hQ, fun h => (h rfl).elim⟩
  | inr b => exact ⟨_, rfl, rfl, hQ.1, fun h => (hQ.2.1 h).elim, fun _ => hQ.2.2⟩

end Go.Proofs.Ytdkmepeolmdccaa

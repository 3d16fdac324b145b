/- Taking a number out again: tableau.Back undoes the putting in. -/
import Derived.Test.YtihmliblbhjlaaaTabB
set_option linter.unusedVariables false
set_option linter.unusedSimpArgs false
namespace Go.Proofs.Ytihmliblbhjlaaa
open Go.Am

/-! ### The last that is no more -/
def ll (r : List Int) (y : Int) : Nat → Nat
  | 0 => 0
  | k + 1 => if nx 0 r k > y then ll r y k else k
def lastle (r : List Int) (y : Int) : Nat := ll r y r.length
theorem ll_spec (r : List Int) (y : Int) : ∀ (n j : Nat), j < n → nx 0 r j ≤ y → ll r y n < n ∧ nx 0 r (ll r y n) ≤ y ∧ j ≤ ll r y n ∧ ∀ a, ll r y n < a → a < n → nx 0 r a > y
  | 0, j, h, _ => by omega
  | n + 1, j, h, hj => by
    unfold ll
    by_cases q : nx 0 r n > y
    · rw [if_pos q]
      have hjn : j < n := by
        by_cases e : j = n
        · rw [e] at hj; omega
        · omega
      obtain ⟨h1, h2, h3, h4⟩ := ll_spec r y n j hjn hj
      refine ⟨by omega, h2, h3, fun a ha hb => ?_⟩
      by_cases e : a = n
      · rw [e]; exact q
      · exact h4 a ha (by omega)
    · rw [if_neg q]
      exact ⟨by omega, by omega, by omega, fun a ha hb => by omega⟩

/-! ### Up through rows -/
def up : List (List Int) → Int → List (List Int) × Int
  | [], y => ([], y)
  | r :: A, y => (r.set (lastle r (up A y).2) (up A y).2 :: (up A y).1, nx 0 r (lastle r (up A y).2))
def UpOk : List (List Int) → Int → Prop
  | [], _ => True
  | r :: A, y => UpOk A y ∧ ∃ j, j < r.length ∧ nx 0 r j ≤ (up A y).2
theorem up_snoc : ∀ (A : List (List Int)) (r : List Int) (y : Int), up (A ++ [r]) y = ((up A (nx 0 r (lastle r y))).1 ++ [r.set (lastle r y) y], (up A (nx 0 r (lastle r y))).2)
  | [], r, y => rfl
  | s :: A, r, y => by
    show up (s :: (A ++ [r])) y = _
    unfold up
    rw [up_snoc A r y]
    rfl
theorem upOk_snoc : ∀ (A : List (List Int)) (r : List Int) (y : Int), UpOk (A ++ [r]) y → UpOk A (nx 0 r (lastle r y)) ∧ ∃ j, j < r.length ∧ nx 0 r j ≤ y
  | [], r, y, h => ⟨trivial, h.2⟩
  | s :: A, r, y, h => by
    have h : UpOk (A ++ [r]) y ∧ ∃ j, j < s.length ∧ nx 0 s j ≤ (up (A ++ [r]) y).2 := h
    obtain ⟨h1, h2⟩ := h
    obtain ⟨k1, k2⟩ := upOk_snoc A r y h1
    rw [up_snoc] at h2
    exact ⟨⟨k1, h2⟩, k2⟩
theorem up_len : ∀ (A : List (List Int)) (y : Int), (up A y).1.length = A.length
  | [], _ => rfl
  | r :: A, y => by unfold up; simp [up_len A y]

theorem ll_loop (F : Nat) (j : Int) (y : Int) (P : List (List Int)) (r : List Int) (hP : at? P j = some r) : ∀ (n G : Nat), n < G → n ≤ r.length → n ≤ 1000000 → (∃ i, i < n ∧ nx 0 r i ≤ y) → iter (F28_l1 F (j, y, P)) G ((n : Int) - 1) = some (ll r y n : Int)
  | 0, G, _, _, _, h => by obtain ⟨i, hi, _⟩ := h; omega
  | n + 1, G, hG, hn, hb, h => by
    obtain ⟨G, rfl⟩ : ∃ q, G = q + 1 := ⟨G - 1, by omega⟩
    rw [show ((n + 1 : Nat) : Int) - 1 = (n : Int) from by omega]
    unfold ll
    by_cases q : nx 0 r n > y
    · have hs : F28_l1 F (j, y, P) (n : Int) = some (.more ((n : Int) - 1)) := by
        unfold F28_l1
        simp only
        rw [hP, Option.bind_some, nx_get (d := 0) (by omega : n < r.length), Option.bind_some, if_pos (decide_eq_true q), w64 (by omega) (by omega)]
      rw [iter_more hs, if_pos q]
      obtain ⟨i, hi, hy⟩ := h
      refine ll_loop F j y P r hP n G (by omega) (by omega) (by omega) ⟨i, ?_, hy⟩
      by_cases e : i = n
      · rw [e] at hy; omega
      · omega
    · rw [if_neg q]
      refine iter_stop ?_
      unfold F28_l1
      simp only
      rw [hP, Option.bind_some, nx_get (d := 0) (by omega : n < r.length), Option.bind_some, if_neg (by rw [decide_eq_true_eq]; exact q)]

theorem up_loop (F : Nat) (hF : 100 ≤ F) : ∀ (n : Nat) (A B : List (List Int)) (y : Int) (G : Nat), A.length = n → n < G → n ≤ 20 → (∀ r ∈ A, r.length ≤ 20) → UpOk A y →
    iter (F28_l2 F) G ((A.length : Int) - 1, y, A ++ B) = some ((up A y).2, (up A y).1 ++ B)
  | 0, A, B, y, G, hA, hG, hn, hr, hU => by
    obtain ⟨G, rfl⟩ : ∃ q, G = q + 1 := ⟨G - 1, by omega⟩
    have : A = [] := List.eq_nil_of_length_eq_zero hA
    subst this
    refine iter_stop ?_
    unfold F28_l2
    simp [up]
  | n + 1, A, B, y, G, hA, hG, hn, hr, hU => by
    obtain ⟨G, rfl⟩ : ∃ q, G = q + 1 := ⟨G - 1, by omega⟩
    obtain ⟨A', r, rfl⟩ : ∃ A' r, A = A' ++ [r] := by
      rcases List.eq_nil_or_concat A with h | ⟨l, b, h⟩
      · subst h; simp at hA
      · exact ⟨l, b, by rw [h, List.concat_eq_append]⟩
    have hA' : A'.length = n := by simpa using hA
    obtain ⟨hU1, i, hi, hy⟩ := upOk_snoc A' r y hU
    have hrl := hr r (by simp)
    obtain ⟨q1, q2, _, _⟩ := ll_spec r y r.length i hi hy
    have q1 : lastle r y < r.length := q1
    have hat : at? ((A' ++ [r]) ++ B) (A'.length : Int) = some r := by rw [List.append_assoc]; exact at_mid A' r B
    have hck : ck ((A' ++ [r]) ++ B) (A'.length : Int) = some () := by rw [List.append_assoc]; exact ck_mid A' r B
    have hset : ((A' ++ [r]) ++ B).set A'.length (r.set (lastle r y) y) = A' ++ (r.set (lastle r y) y :: B) := by rw [List.append_assoc]; exact set_mid A' r _ B
    have hs : F28_l2 F (((A' ++ [r]).length : Int) - 1, y, (A' ++ [r]) ++ B) = some (.more ((A'.length : Int) - 1, nx 0 r (lastle r y), A' ++ (r.set (lastle r y) y :: B))) := by
      unfold F28_l2
      simp only
      rw [show (((A' ++ [r]).length : Int) - 1) = (A'.length : Int) from by simp]
      rw [if_pos (decide_eq_true (by omega)), hat, Option.bind_some, w64 (a := (r.length : Int) - 1) (by omega) (by omega), ll_loop F _ y _ r hat r.length F (by omega) (Nat.le_refl _) (by omega) ⟨i, hi, hy⟩]
      simp only [Option.bind_some]
      rw [hck, Option.bind_some, show ll r y r.length = lastle r y from rfl, nx_get (d := 0) q1, Option.bind_some, ck_ok q1, Option.bind_some, w64 (by omega) (by omega)]
      simp only [Int.toNat_natCast]
      rw [hset]
    rw [iter_more hs, up_loop F hF n A' (r.set (lastle r y) y :: B) _ G hA' (by omega) (by omega) (fun q hq => hr q (by simp [hq])) hU1, up_snoc]
    simp

/-! ### Standard rows -/
def Abv (r s : List Int) : Prop := s.length ≤ r.length ∧ ∀ c, c < s.length → nx 0 r c < nx 0 s c
def Std : List (List Int) → Prop
  | [] => True
  | r :: t => Srt r ∧ Abv r (nx [] t 0) ∧ Std t
def unins : List (List Int) → Nat → List (List Int) × Int
  | [], _ => ([], 0)
  | r :: t, 0 => (r.dropLast :: t, nx 0 r (r.length - 1))
  | r :: t, i + 1 => (r.set (lastle r (unins t i).2) (unins t i).2 :: (unins t i).1, nx 0 r (lastle r (unins t i).2))
theorem nx_dropLast {r : List Int} {c : Nat} (h : c < r.length - 1) : nx 0 r.dropLast c = nx 0 r c := by
  unfold nx
  rw [List.getElem?_dropLast, if_pos h]
theorem dropLast_snoc {r : List Int} (h : r ≠ []) : r.dropLast ++ [nx 0 r (r.length - 1)] = r := by
  have hp : 0 < r.length := List.length_pos_iff.2 h
  rw [nx_eq (by omega), ← List.getLast_eq_getElem h]
  exact List.dropLast_concat_getLast h
theorem unins_up : ∀ (t : List (List Int)) (i : Nat), i < t.length → unins t i = ((up (t.take i) (nx 0 (nx [] t i) ((nx [] t i).length - 1))).1 ++ (nx [] t i).dropLast :: t.drop (i + 1), (up (t.take i) (nx 0 (nx [] t i) ((nx [] t i).length - 1))).2)
  | [], i, h => by simp at h
  | r :: t, 0, h => rfl
  | r :: t, i + 1, h => by
    have ih := unins_up t i (by simpa using h)
    unfold unins
    rw [ih]
    rfl

structure UN (t : List (List Int)) (i : Nat) : Prop where
  std : Std (unins t i).1
  perm : ((unins t i).2 :: (unins t i).1.flatten).Perm t.flatten
  back : ins (unins t i).1 (unins t i).2 = (t, i)
  len : (unins t i).1.length = t.length
  shp : ∀ k, (nx [] (unins t i).1 k).length = (nx [] t k).length - if k = i then 1 else 0
  top : ∃ c, c < (nx [] t 0).length ∧ nx 0 (nx [] t 0) c = (unins t i).2 ∧ (i = 0 ∧ nx [] (unins t i).1 0 = (nx [] t 0).dropLast ∧ c = (nx [] t 0).length - 1 ∨ ∃ y', y' > (unins t i).2 ∧ nx [] (unins t i).1 0 = (nx [] t 0).set c y')
  ok : UpOk (t.take i) (nx 0 (nx [] t i) ((nx [] t i).length - 1))
theorem un : ∀ (t : List (List Int)) (i : Nat), Std t → t.flatten.Nodup → i < t.length → 0 < (nx [] t i).length → (nx [] t (i + 1)).length < (nx [] t i).length → UN t i
  | [], i, _, _, h, _, _ => by simp at h
  | r :: t, 0, hS, hN, _, hp, hc => by
    obtain ⟨s1, s2, s3⟩ := hS
    have hp : 0 < r.length := hp
    have hc : (nx [] t 0).length < r.length := hc
    have hr : r ≠ [] := List.length_pos_iff.1 hp
    have hll : r.dropLast.length = r.length - 1 := List.length_dropLast
    have hlast : ∀ c, c < r.length - 1 → nx 0 r c < nx 0 r (r.length - 1) := fun c h => s1 c _ (by omega) (by omega)
    refine ⟨⟨?_, ⟨by omega, fun c hcc => ?_⟩, s3⟩, ?_, ?_, rfl, ?_, ⟨r.length - 1, by show _ < r.length; omega, rfl, .inl ⟨rfl, rfl, rfl⟩⟩, trivial⟩
    · intro a b hab hb
      rw [nx_dropLast (by omega), nx_dropLast (by omega)]
      exact s1 a b hab (by omega)
    · rw [nx_dropLast (by omega)]; exact s2.2 c hcc
    · show (nx 0 r (r.length - 1) :: (r.dropLast ++ t.flatten)).Perm (r ++ t.flatten)
      have e : r ++ t.flatten = (r.dropLast ++ [nx 0 r (r.length - 1)]) ++ t.flatten := by rw [dropLast_snoc hr]
      rw [e, ← List.cons_append]
      exact List.Perm.append_right _ (List.perm_append_comm (l₁ := [nx 0 r (r.length - 1)]))
    · show ins (r.dropLast :: t) (nx 0 r (r.length - 1)) = (r :: t, 0)
      have e : fgt r.dropLast (nx 0 r (r.length - 1)) = r.dropLast.length := fgt_eq (Nat.le_refl _) (fun j hj => by
        rw [nx_dropLast (by omega)]; have := hlast j (by omega); omega) (fun h => by omega)
      unfold ins
      rw [e, if_neg (by omega), dropLast_snoc hr]
    · intro k
      cases k with
      | zero => show r.dropLast.length = r.length - _; rw [if_pos rfl]; exact hll
      | succ k => rfl
  | r :: t, i + 1, hS, hN, hi, hp, hc => by
    obtain ⟨s1, s2, s3⟩ := hS
    have hN2 := hN
    rw [List.flatten_cons, List.nodup_append] at hN2
    obtain ⟨n1, n2, n3⟩ := hN2
    have U := un t i s3 n2 (by simpa using hi) hp hc
    obtain ⟨c, hcl, hcy, htop⟩ := U.top
    generalize hq : unins t i = q at U hcy htop
    obtain ⟨t', y⟩ := q
    have e0 : unins (r :: t) (i + 1) = (r.set (lastle r y) y :: t', nx 0 r (lastle r y)) := by
      rw [unins, hq]
    have Ustd : Std t' := by have := U.std; rw [hq] at this; exact this
    have Uperm : (y :: t'.flatten).Perm t.flatten := by have := U.perm; rw [hq] at this; exact this
    have Uback : ins t' y = (t, i) := by have := U.back; rw [hq] at this; exact this
    have Ulen : t'.length = t.length := by have := U.len; rw [hq] at this; exact this
    have Ushp := U.shp; rw [hq] at Ushp
    simp only at hcy htop Ushp
    have hrc : nx 0 r c < y := by rw [← hcy]; exact s2.2 c hcl
    have hcr : c < r.length := Nat.lt_of_lt_of_le hcl s2.1
    obtain ⟨l1, l2, l3, l4⟩ := ll_spec r y r.length c hcr (by omega)
    rw [show ll r y r.length = lastle r y from rfl] at l1 l2 l3 l4
    have hyt : y ∈ t.flatten := Uperm.mem_iff.1 List.mem_cons_self
    have hyr : ∀ a, a < r.length → nx 0 r a ≠ y := fun a ha e => n3 _ (nx_mem (d := 0) ha) y hyt e
    have hlt : nx 0 r (lastle r y) < y := by have := hyr _ l1; omega
    generalize hk : lastle r y = k at l1 l2 l3 l4 hlt e0
    have Hset : ∀ a, nx 0 (r.set k y) a = if a = k then y else nx 0 r a := fun a => nx_set l1
    have hup : (up (t.take i) (nx 0 (nx [] t i) ((nx [] t i).length - 1))).2 = y := by
      have := unins_up t i (by simpa using hi)
      rw [hq] at this
      exact (congrArg Prod.snd this).symm
    refine ⟨?_, ?_, ?_, ?_, ?_, ?_, ?_⟩
    · rw [e0]
      refine ⟨?_, ⟨?_, ?_⟩, Ustd⟩
      · intro a b hab hb
        rw [List.length_set] at hb
        rw [Hset, Hset]
        by_cases e1 : a = k
        · rw [if_pos e1, if_neg (by omega)]
          exact l4 b (by omega) hb
        · rw [if_neg e1]
          by_cases e2 : b = k
          · rw [if_pos e2]
            have := s1 a k (by omega) l1
            omega
          · rw [if_neg e2]; exact s1 a b hab hb
      · rw [List.length_set, Ushp 0]
        have := s2.1; omega
      · intro e he
        rw [Ushp 0] at he
        have s20 := s2.2 e (by omega)
        have hsrt : Srt (nx [] t 0) := by
          cases t with
          | nil => simp [nx] at hcl
          | cons a b => exact s3.1
        rw [Hset]
        rcases htop with ⟨hi0, ht, hce⟩ | ⟨y', hy', ht⟩
        · rw [if_pos hi0.symm] at he
          rw [ht, nx_dropLast (by omega)]
          by_cases e1 : e = k
          · omega
          · rw [if_neg e1]; exact s20
        · rw [ht, nx_set hcl]
          by_cases e1 : e = k
          · rw [if_pos e1]
            by_cases e2 : e = c
            · rw [if_pos e2]; exact hy'
            · rw [if_neg e2]
              have := hsrt c e (by omega) (by omega)
              omega
          · rw [if_neg e1]
            by_cases e2 : e = c
            · rw [if_pos e2, e2]; omega
            · rw [if_neg e2]; exact s20
    · rw [e0]
      show (nx 0 r k :: (r.set k y ++ t'.flatten)).Perm (r ++ t.flatten)
      rw [← List.cons_append]
      refine (List.Perm.append_right _ (set_perm l1)).trans ?_
      rw [List.cons_append]
      refine List.perm_middle.symm.trans ?_
      exact List.Perm.append_left _ Uperm
    · rw [e0]
      show ins (r.set k y :: t') (nx 0 r k) = (r :: t, i + 1)
      have ek : fgt (r.set k y) (nx 0 r k) = k := fgt_eq (by rw [List.length_set]; omega) (fun j hj => by
        rw [Hset, if_neg (by omega)]
        have := s1 j k hj l1; omega) (fun _ => by rw [Hset, if_pos rfl]; exact hlt)
      unfold ins
      rw [ek, if_pos (by rw [List.length_set]; exact l1), Hset, if_pos rfl, Uback, List.set_set]
      have : r.set k (nx 0 r k) = r := by rw [nx_eq l1]; exact List.set_getElem_self l1
      rw [this]
    · rw [e0]; simp [Ulen]
    · intro a
      rw [e0]
      cases a with
      | zero => show (r.set k y).length = r.length - _; rw [List.length_set, if_neg (by omega)]; rfl
      | succ a =>
        have := Ushp a
        show (nx [] t' a).length = (nx [] t a).length - _
        rw [this]
        by_cases e : a = i
        · rw [if_pos e, if_pos (by omega)]
        · rw [if_neg e, if_neg (by omega)]
    · rw [e0]
      exact ⟨k, l1, rfl, .inr ⟨y, hlt, rfl⟩⟩
    · refine ⟨U.ok, c, hcr, ?_⟩
      show nx 0 r c ≤ (up (t.take i) (nx 0 (nx [] t i) ((nx [] t i).length - 1))).2
      rw [hup]; omega
end Go.Proofs.Ytihmliblbhjlaaa

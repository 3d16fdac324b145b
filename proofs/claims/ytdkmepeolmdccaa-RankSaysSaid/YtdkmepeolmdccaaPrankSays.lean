/- The law of package rank, in plain words. -/
import Derived.Test.YtdkmepeolmdccaaRankLib
import Derived.Test.YtdkmepeolmdccaaMono
set_option linter.unusedVariables false
set_option linter.unusedSimpArgs false
namespace Go.Proofs.Ytdkmepeolmdccaa
open Go.Am

theorem permE_good {p : List Int} (h : GoodP p) (hl : p.length ≤ 10) : permE p = 0 := by
  unfold permE; rw [if_neg (by omega), if_pos h]
theorem good_permE {p : List Int} (h : permE p = 0) : GoodP p ∧ p.length ≤ 10 := by
  unfold permE at h
  split at h
  · cases h
  · split at h
    · rename_i h1 h2; exact ⟨h2, by omega⟩
    · cases h
theorem good_of_perm {p q : List Int} (h : q.Perm p) (hp : GoodP p) : GoodP q :=
  ⟨h.nodup_iff.2 hp.1, fun x hx => by rw [h.length_eq]; exact hp.2 x (h.mem_iff.1 hx)⟩

/-! ### Code and Of -/
def cd (p : List Int) (i : Nat) : Nat := cnt (nx 0 p i) (p.drop (i + 1))
def codeL (p : List Int) : List Int := tb p.length fun i => (cd p i : Int)
theorem cnt_take {x : Int} {L : List Int} {j : Nat} (h : j < L.length) : cnt x (L.take (j + 1)) = cnt x (L.take j) + if nx 0 L j < x then 1 else 0 := by
  rw [List.take_add_one, List.getElem?_eq_getElem h, cnt_app, nx_eq h, Option.toList_some, cnt_cons]; simp [cnt]
theorem code_eq (F : Nat) (p : List Int) (hF : 40 ≤ F) (h : permE p = 0) : F60 F p = some (codeL p, 0) := by
  obtain ⟨hg, hl⟩ := good_permE h
  unfold F60
  rw [check_eq F p (by omega), h, Option.bind_some, if_neg (by decide), mk?_ok (by omega), Option.bind_some, tb_rep]
  have := iter_count (step := F60_l1 F p) (F := F) (fun i => ((i : Int), tb p.length fun k => if k < i then (cd p k : Int) else 0)) (b := codeL p) p.length ?_ ?_ (by omega)
  · rw [show ((0 : Int), tb p.length fun _ => (0 : Int)) = (((0 : Nat) : Int), tb p.length fun k => if k < 0 then (cd p k : Int) else 0) from by simp, this, Option.bind_some]
  · intro i hi
    unfold F60_l1
    simp only
    rw [if_pos (decide_eq_true (by omega)), nx_get (d := 0) hi, Option.bind_some, wsuc (by omega), sub?_from (by omega), Option.bind_some]
    have hin : iter (F60_l0 F ((i : Int), tb p.length fun k => if k < i then (cd p k : Int) else 0) (nx 0 p i) (p.drop (i + 1))) F (0, tb p.length fun k => if k < i then (cd p k : Int) else 0) = some (tb p.length fun k => if k < i + 1 then (cd p k : Int) else 0) := by
      have h2 := iter_count (step := F60_l0 F ((i : Int), tb p.length fun k => if k < i then (cd p k : Int) else 0) (nx 0 p i) (p.drop (i + 1))) (F := F) (fun j => ((j : Int), tb p.length fun k => if k = i then (cnt (nx 0 p i) ((p.drop (i + 1)).take j) : Int) else if k < i then (cd p k : Int) else 0)) (b := tb p.length fun k => if k < i + 1 then (cd p k : Int) else 0) (p.drop (i + 1)).length ?_ ?_ (by rw [List.length_drop]; omega)
      · rw [← h2]
        congr 2
        refine tb_congr fun k hk => ?_
        by_cases e : k = i
        · subst e; rw [if_neg (by omega), if_pos rfl, List.take_zero]; rfl
        · rw [if_neg e]
      · intro j hj
        have hjl : (p.drop (i + 1)).length ≤ 10 := by rw [List.length_drop]; omega
        unfold F60_l0
        simp only
        rw [if_pos (decide_eq_true (by omega)), nx_get (d := 0) hj, Option.bind_some, wsuc (by omega)]
        have hc := cnt_le (nx 0 p i) ((p.drop (i + 1)).take j)
        rw [List.length_take] at hc
        by_cases hlt : nx 0 (p.drop (i + 1)) j < nx 0 p i
        · rw [if_pos (decide_eq_true hlt), tb_get hi, Option.bind_some, tb_ck hi, Option.bind_some, Int.toNat_natCast, tb_set, if_pos rfl, wsuc (by omega)]
          congr 3
          refine tb_congr fun k hk => ?_
          rw [cnt_take hj, if_pos hlt]
          by_cases e : k = i
          · rw [if_pos e, if_pos e]
          · rw [if_neg e, if_neg e, if_neg e]
        · rw [if_neg (mt of_decide_eq_true hlt)]
          congr 3
          refine tb_congr fun k hk => ?_
          rw [cnt_take hj, if_neg hlt]; simp
      · unfold F60_l0
        simp only
        rw [if_neg (by simp), List.take_of_length_le (Nat.le_refl _)]
        congr 2
        refine tb_congr fun k hk => ?_
        by_cases e : k = i
        · subst e; rw [if_pos rfl, if_pos (by omega)]; rfl
        · rw [if_neg e]
          by_cases e2 : k < i
          · rw [if_pos e2, if_pos (by omega)]
          · rw [if_neg e2, if_neg (by omega)]
    rw [hin, Option.bind_some]
  · unfold F60_l1
    simp only
    rw [if_neg (by simp)]
    congr 2
    exact tb_congr fun k hk => if_pos hk
def hor (p : List Int) : Nat → Nat
  | 0 => 0
  | i + 1 => hor p i * (p.length - i) + cd p i
theorem drop_cons {p : List Int} {i : Nat} (h : i < p.length) : p.drop i = nx 0 p i :: p.drop (i + 1) := by
  rw [List.drop_eq_getElem_cons h, nx_eq h]
theorem hor_eq (p : List Int) : ∀ i, i ≤ p.length → hor p i * fac (p.length - i) + rk (p.drop i) = rk p
  | 0, _ => by simp [hor]
  | i + 1, h => by
    have ih := hor_eq p i (by omega)
    rw [drop_cons (by omega)] at ih
    have e : p.length - i = (p.length - (i + 1)) + 1 := by omega
    have hr : rk (nx 0 p i :: p.drop (i + 1)) = cd p i * fac (p.length - (i + 1)) + rk (p.drop (i + 1)) := by
      show cnt _ _ * fac (p.drop (i + 1)).length + _ = _
      rw [List.length_drop]; rfl
    rw [hr] at ih
    rw [hor, Nat.add_mul, Nat.mul_assoc]
    have hf : (p.length - i) * fac (p.length - (i + 1)) = fac (p.length - i) := by rw [e]; rfl
    rw [hf]; omega
theorem of_eq (F : Nat) (p : List Int) (hF : 40 ≤ F) (h : permE p = 0) : F61 F p = some ((rk p : Int), 0) := by
  obtain ⟨hg, hl⟩ := good_permE h
  unfold F61
  rw [code_eq F p hF h, Option.bind_some, if_neg (by simp)]
  have hcl : (codeL p).length = p.length := tb_len _ _
  have hb : ∀ i, i ≤ p.length → hor p i ≤ 3628800 := by
    intro i hi
    have h1 := hor_eq p i hi
    have h2 := rk_lt p
    have h3 := fac_le p.length hl
    have h4 : hor p i * 1 ≤ hor p i * fac (p.length - i) := Nat.mul_le_mul_left _ (fac_pos _)
    omega
  have := iter_count (step := F61_l0 F (codeL p, 0)) (F := F) (fun i => ((hor p i : Int), (i : Int))) (b := (rk p : Int)) p.length ?_ ?_ (by omega)
  · rw [show ((0 : Int), (0 : Int)) = ((hor p 0 : Int), ((0 : Nat) : Int)) from rfl, this, Option.bind_some]
  · intro i hi
    unfold F61_l0
    simp only
    have h1 := hb i (by omega)
    have h2 := hb (i + 1) (by omega)
    have h3 : hor p i * (p.length - i) ≤ 3628800 * 10 := Nat.mul_le_mul h1 (by omega)
    rw [hcl, if_pos (decide_eq_true (by omega)), show at? (codeL p) (i : Int) = some (cd p i : Int) from tb_get hi, Option.bind_some, wsub (by omega) (by omega), wmul (by omega), wsuc (by omega)]
    have h4 : hor p (i + 1) = hor p i * (p.length - i) + cd p i := rfl
    rw [wadd (by omega), ← h4]
  · unfold F61_l0
    simp only
    rw [hcl, if_neg (by simp)]
    have h1 := hor_eq p p.length (Nat.le_refl _)
    rw [Nat.sub_self, List.drop_length] at h1
    have : hor p p.length = rk p := by simpa [fac, rk] using h1
    rw [this]

/-! ### Reverse -/
theorem rev_tb (L : List Int) : L.reverse = tb L.length fun q => nx 0 L (L.length - 1 - q) := by
  apply List.ext_getElem?
  intro q
  rw [tb_get?]
  by_cases h : q < L.length
  · rw [if_pos h, List.getElem?_reverse h, nx_eq (by omega), List.getElem?_eq_getElem (by omega)]
  · rw [if_neg h, List.getElem?_eq_none (by simp; omega)]
theorem reverse_eq (F : Nat) (L : List Int) (hF : L.length + 2 ≤ F) (hl : L.length ≤ 1000000) : F134 F L = some L.reverse := by
  unfold F134
  have := iter_count (step := F134_l0 F) (F := F) (fun k => ((k : Int), (L.length : Int) - 1 - (k : Int), tb L.length fun q => if q < k ∨ L.length ≤ q + k then nx 0 L (L.length - 1 - q) else nx 0 L q)) (b := L.reverse) (L.length / 2) ?_ ?_ (by omega)
  · rw [w64 (by omega) (by omega)]
    have e : ((0 : Int), (L.length : Int) - 1, L) = (((0 : Nat) : Int), (L.length : Int) - 1 - ((0 : Nat) : Int), tb L.length fun q => if q < 0 ∨ L.length ≤ q + 0 then nx 0 L (L.length - 1 - q) else nx 0 L q) := by
      congr 2
      · simp
      · conv => lhs; rw [nx_tb 0 L]
        exact tb_congr fun q hq => by rw [if_neg (by omega)]
    rw [e, this, Option.bind_some]
  · intro k hk
    unfold F134_l0
    simp only
    have e : (L.length : Int) - 1 - (k : Int) = ((L.length - 1 - k : Nat) : Int) := by omega
    rw [if_pos (decide_eq_true (by omega)), e, tb_get (by omega), Option.bind_some, tb_get (by omega), Option.bind_some, tb_ck (by omega), Option.bind_some, Int.toNat_natCast, tb_set, tb_ck (by omega), Option.bind_some, Int.toNat_natCast, tb_set, wsuc (by omega), w64 (by omega) (by omega)]
    congr 4
    · omega
    · refine tb_congr fun q hq => ?_
      by_cases e1 : q = L.length - 1 - k
      · subst e1
        rw [if_pos rfl, if_neg (by omega), if_pos (by omega)]
        congr 1; omega
      · rw [if_neg e1]
        by_cases e2 : q = k
        · subst e2
          rw [if_pos rfl, if_neg (by omega), if_pos (by omega)]
        · rw [if_neg e2]
          by_cases e3 : q < k ∨ L.length ≤ q + k
          · rw [if_pos e3, if_pos (by omega)]
          · rw [if_neg e3, if_neg (by omega)]
  · unfold F134_l0
    simp only
    rw [if_neg (by rw [decide_eq_true_eq]; omega), rev_tb]
    congr 2
    refine tb_congr fun q hq => ?_
    by_cases e3 : q < L.length / 2 ∨ L.length ≤ q + L.length / 2
    · rw [if_pos e3]
    · rw [if_neg e3]; congr 1; omega

/-! ### Next -/
theorem nx_drop {p : List Int} {i j : Nat} : nx 0 (p.drop i) j = nx 0 p (i + j) := by unfold nx; rw [List.getElem?_drop]
theorem nodup_ne {p : List Int} (h : p.Nodup) {a b : Nat} (ha : a < p.length) (hb : b < p.length) (hab : a ≠ b) : nx 0 p a ≠ nx 0 p b := by
  rw [nx_eq ha, nx_eq hb]
  exact fun e => hab ((List.getElem_inj h).1 e)
theorem desc_eq (F : Nat) (p : List Int) (hF : 40 ≤ F) (hg : p.Nodup) (hl : p.length ≤ 10) : ∃ b, iter (F62_l0 F p) F (wrapA .i64 ((p.length : Int) - 2)) = some b ∧
    ((b < 0 ∧ p.Pairwise (fun a b => b < a)) ∨ ∃ i : Nat, b = i ∧ i + 1 < p.length ∧ nx 0 p i < nx 0 p (i + 1) ∧ (p.drop (i + 1)).Pairwise (fun a b => b < a)) := by
  rw [w64 (by omega) (by omega)]
  refine iter_inv (step := F62_l0 F p) (I := fun s => -2 ≤ s ∧ s + 2 ≤ p.length ∧ (p.drop (s + 1).toNat).Pairwise (fun a b => b < a)) (μ := fun s => (s + 2).toNat) (Q := fun b => (b < 0 ∧ p.Pairwise (fun a b => b < a)) ∨ ∃ i : Nat, b = i ∧ i + 1 < p.length ∧ nx 0 p i < nx 0 p (i + 1) ∧ (p.drop (i + 1)).Pairwise (fun a b => b < a)) ?_ F _ ⟨by omega, by omega, ?_⟩ (by omega)
  · rintro s ⟨h1, h2, h3⟩
    unfold F62_l0
    by_cases h0 : s ≥ 0
    · obtain ⟨i, rfl⟩ : ∃ i : Nat, s = i := ⟨s.toNat, by omega⟩
      rw [show ((i : Int) + 1).toNat = i + 1 from by omega] at h3
      rw [if_pos (decide_eq_true h0), nx_get (d := 0) (by omega), Option.bind_some, wsuc (by omega), nx_get (d := 0) (by omega), Option.bind_some, Option.bind_some]
      by_cases hgt : nx 0 p i > nx 0 p (i + 1)
      · left
        rw [if_pos (decide_eq_true hgt), w64 (by omega) (by omega)]
        refine ⟨_, rfl, ⟨by omega, by omega, ?_⟩, by omega⟩
        rw [show ((i : Int) - 1 + 1).toNat = i from by omega, drop_cons (by omega), drop_cons (by omega)]
        rw [drop_cons (by omega), List.pairwise_cons] at h3
        rw [List.pairwise_cons, List.pairwise_cons]
        refine ⟨fun y hy => ?_, h3⟩
        rcases List.mem_cons.1 hy with rfl | hy
        · exact hgt
        · have := h3.1 y hy; omega
      · right
        rw [if_neg (mt of_decide_eq_true hgt)]
        have := nodup_ne hg (a := i) (b := i + 1) (by omega) (by omega) (by omega)
        exact ⟨_, rfl, .inr ⟨i, rfl, by omega, by omega, h3⟩⟩
    · right
      rw [if_neg (mt of_decide_eq_true h0), Option.bind_some, if_neg (by decide)]
      refine ⟨_, rfl, .inl ⟨by omega, ?_⟩⟩
      rw [show (s + 1).toNat = 0 from by omega] at h3
      simpa using h3
  · by_cases hn : p.length = 0
    · rw [List.eq_nil_of_length_eq_zero hn]; exact List.Pairwise.nil
    · rw [show ((p.length : Int) - 2 + 1).toNat = p.length - 1 from by omega, drop_cons (by omega), show p.length - 1 + 1 = p.length from by omega, List.drop_length]
      exact List.pairwise_singleton _ _
theorem last_eq (F : Nat) (p : List Int) (i : Nat) (hF : 40 ≤ F) (hg : p.Nodup) (hl : p.length ≤ 10) (hi : i + 1 < p.length) (hlt : nx 0 p i < nx 0 p (i + 1)) : ∃ j : Nat, iter (F62_l1 F (i : Int) p) F (wrapA .i64 ((p.length : Int) - 1)) = some (j : Int) ∧ i < j ∧ j < p.length ∧ nx 0 p i < nx 0 p j ∧ ∀ q, j < q → q < p.length → nx 0 p q < nx 0 p i := by
  rw [w64 (by omega) (by omega)]
  obtain ⟨b, hb, j, rfl, h⟩ := iter_inv (step := F62_l1 F (i : Int) p) (I := fun s => ∃ q : Nat, s = q ∧ i < q ∧ q < p.length ∧ ∀ r, q < r → r < p.length → nx 0 p r < nx 0 p i) (μ := fun s => s.toNat) (Q := fun b => ∃ j : Nat, b = j ∧ i < j ∧ j < p.length ∧ nx 0 p i < nx 0 p j ∧ ∀ q, j < q → q < p.length → nx 0 p q < nx 0 p i) (by
    rintro s ⟨q, rfl, h1, h2, h3⟩
    unfold F62_l1
    rw [nx_get (d := 0) h2, Option.bind_some, nx_get (d := 0) (by omega), Option.bind_some]
    by_cases hq : nx 0 p q < nx 0 p i
    · left
      have hne : q ≠ i + 1 := fun e => by subst e; omega
      rw [if_pos (decide_eq_true hq), wpred (by omega) (by omega)]
      refine ⟨_, rfl, ⟨q - 1, rfl, by omega, by omega, fun r h4 h5 => ?_⟩, by omega⟩
      by_cases e : r = q
      · subst e; exact hq
      · exact h3 r (by omega) h5
    · right
      rw [if_neg (mt of_decide_eq_true hq)]
      have := nodup_ne hg (a := q) (b := i) h2 (by omega) (by omega)
      exact ⟨_, rfl, q, rfl, h1, h2, by omega, h3⟩) F ((p.length : Int) - 1) ⟨p.length - 1, by omega, by omega, by omega, fun r h4 h5 => by omega⟩ (by omega)
  exact ⟨j, hb, h⟩
theorem set_mid {A : List Int} {x y : Int} {i : Nat} (B : List Int) (h : A.length = i) : (A ++ x :: B).set i y = A ++ y :: B := by
  subst h; simp
theorem next_eq (F : Nat) (p : List Int) (hF : 40 ≤ F) (h : permE p = 0) : (F62 F p = some ([], 4) ∧ rk p + 1 = fac p.length) ∨ ∃ q, F62 F p = some (q, 0) ∧ q.Perm p ∧ rk q = rk p + 1 := by
  obtain ⟨hg, hl⟩ := good_permE h
  unfold F62
  rw [check_eq F p (by omega), h, Option.bind_some, if_neg (by decide)]
  obtain ⟨b, hb, hQ⟩ := desc_eq F p hF hg.1 hl
  rw [hb, Option.bind_some]
  rcases hQ with ⟨h1, h2⟩ | ⟨i, rfl, h1, h2, h3⟩
  · left
    rw [if_pos (decide_eq_true h1)]
    exact ⟨rfl, rk_dec h2⟩
  · right
    obtain ⟨j, hj, j1, j2, j3, j4⟩ := last_eq F p i hF hg.1 hl h1 h2
    have hcl : F30 F p = some p := by unfold F30; rw [if_pos (by omega)]
    rw [if_neg (by rw [decide_eq_true_eq]; omega), hcl, Option.bind_some, hj, Option.bind_some, nx_get (d := 0) j2, Option.bind_some, nx_get (d := 0) (by omega), Option.bind_some, ck_ok (by omega), Option.bind_some, Int.toNat_natCast, ck_ok (by rw [List.length_set]; omega), Option.bind_some, Int.toNat_natCast, wsuc (by omega)]
    -- the parts
    obtain ⟨A, x, E, y, G, hp, hA, hE, hx, hy⟩ : ∃ A x E y G, p = A ++ x :: (E ++ y :: G) ∧ A.length = i ∧ E.length = j - i - 1 ∧ x = nx 0 p i ∧ y = nx 0 p j := by
      refine ⟨p.take i, nx 0 p i, (p.drop (i + 1)).take (j - i - 1), nx 0 p j, p.drop (j + 1), ?_, by rw [List.length_take]; omega, by rw [List.length_take, List.length_drop]; omega, rfl, rfl⟩
      have e1 : nx 0 p j :: p.drop (j + 1) = (p.drop (i + 1)).drop (j - i - 1) := by
        rw [List.drop_drop, show i + 1 + (j - i - 1) = j from by omega, drop_cons j2]
      rw [e1, List.take_append_drop, ← drop_cons (by omega), List.take_append_drop]
    have hD : E ++ y :: G = p.drop (i + 1) := by
      rw [hp, ← hA, show A ++ x :: (E ++ y :: G) = (A ++ [x]) ++ (E ++ y :: G) from by simp, show A.length + 1 = (A ++ [x]).length from by simp, List.drop_left]
    have hG : ∀ g ∈ G, g < x := by
      intro g hgm
      obtain ⟨q, hq, rfl⟩ := nx_of (d := (0 : Int)) hgm
      have e : G = p.drop (j + 1) := by
        have := congrArg (List.drop (E.length + 1)) hD
        rw [show E ++ y :: G = (E ++ [y]) ++ G from by simp, show E.length + 1 = (E ++ [y]).length from by simp, List.drop_left, List.drop_drop] at this
        rw [this]; congr 1; simp [hE]; omega
      rw [e, nx_drop, hx]
      rw [e, List.length_drop] at hq
      exact j4 _ (by omega) (by omega)
    rw [← hD] at h3
    have hE2 : ∀ e ∈ E, x < e := by
      intro e he
      have := (List.pairwise_append.1 h3).2.2 e he y (by simp)
      omega
    have hset : (p.set i (nx 0 p j)).set j (nx 0 p i) = A ++ y :: (E ++ x :: G) := by
      rw [← hx, ← hy]
      conv => lhs; rw [hp]
      rw [set_mid _ hA, show A ++ y :: (E ++ y :: G) = (A ++ y :: E) ++ y :: G from by simp, set_mid _ (by simp [hA, hE]; omega)]
      simp
    have hlen : (A ++ y :: (E ++ x :: G)).length = p.length := by rw [hp]; simp
    have hdr : (A ++ y :: (E ++ x :: G)).drop (i + 1) = E ++ x :: G := by
      rw [show A ++ y :: (E ++ x :: G) = (A ++ [y]) ++ (E ++ x :: G) from by simp, show i + 1 = (A ++ [y]).length from by simp [hA], List.drop_left]
    have hsl : (E ++ x :: G).length ≤ 10 := by rw [← hdr, List.length_drop]; omega
    rw [hset, sub?_from (by omega), Option.bind_some, hdr, reverse_eq F _ (by omega) (by omega), Option.bind_some]
    have hput : putL (A ++ y :: (E ++ x :: G)) ((i + 1 : Nat) : Int) (E ++ x :: G).reverse = A ++ y :: (E ++ x :: G).reverse := by
      unfold putL
      rw [Int.toNat_natCast, List.length_reverse, List.drop_of_length_le (by rw [hlen, ← hdr, List.length_drop, hlen]; omega), List.append_nil, show A ++ y :: (E ++ x :: G) = (A ++ [y]) ++ (E ++ x :: G) from by simp, show i + 1 = (A ++ [y]).length from by simp [hA], List.take_left]
      simp
    rw [hput]
    refine ⟨_, rfl, ?_, ?_⟩
    · rw [hp]
      have h1 : (y :: (E ++ x :: G).reverse).Perm (y :: (E ++ x :: G)) := (List.reverse_perm _).cons _
      have h2 : (y :: (E ++ x :: G)).Perm (y :: x :: (E ++ G)) := List.perm_middle.cons _
      have h3 : (x :: (E ++ y :: G)).Perm (x :: y :: (E ++ G)) := List.perm_middle.cons _
      exact (h1.trans (h2.trans ((List.Perm.swap x y _).trans h3.symm))).append_left A
    · have := rk_step (A := A) h3 hE2 (by omega) hG
      rw [this, ← hp]

/-! ### At -/
theorem fact_eq (F n : Nat) (hn : n ≤ 10) (hF : 20 ≤ F) : F135 F n = some (fac n : Int) := by
  unfold F135
  have := iter_count (step := F135_l0 F n) (F := F) (fun i => ((fac (i + 1) : Int), ((i + 2 : Nat) : Int))) (b := (fac n : Int)) (n - 1) ?_ ?_ (by omega)
  · rw [show ((1 : Int), (2 : Int)) = ((fac (0 + 1) : Int), ((0 + 2 : Nat) : Int)) from rfl, this, Option.bind_some]
  · intro i hi
    unfold F135_l0
    simp only
    have h1 : (i + 2) * fac (i + 1) ≤ 3628800 := fac_le (i + 2) (by omega)
    rw [if_pos (decide_eq_true (by omega)), Int.mul_comm, wmul (by omega), wsuc (by omega)]
    rfl
  · unfold F135_l0
    simp only
    rw [if_neg (by rw [decide_eq_true_eq]; omega)]
    by_cases h : n = 0
    · subst h; rfl
    · rw [show n - 1 + 1 = n from by omega]
theorem count_eq (F : Nat) (n : Int) (hF : 20 ≤ F) : F63 F n = some (if n < 0 ∨ n > 10 then (0, 1) else ((fac n.toNat : Int), 0)) := by
  unfold F63
  by_cases h : n < 0 ∨ n > 10
  · rw [if_pos (by simpa using h), if_pos h]
  · rw [if_neg (by simpa using h), if_neg h]
    obtain ⟨k, rfl⟩ : ∃ k : Nat, n = k := ⟨n.toNat, by omega⟩
    rw [fact_eq F k (by omega) hF, Option.bind_some]; rfl
def pk : Nat → List Int → Nat → List Int
  | 0, _, _ => []
  | m + 1, I, r => nx 0 I (r / fac m) :: pk m (I.take (r / fac m) ++ I.drop (r / fac m + 1)) (r % fac m)
theorem pk_ok : ∀ (m : Nat) (I : List Int) (r : Nat), I.length = m → I.Pairwise (· < ·) → r < fac m → (pk m I r).Perm I ∧ rk (pk m I r) = r
  | 0, I, r, hI, _, hr => by
    have : r = 0 := by simpa [fac] using hr
    subst this
    rw [List.eq_nil_of_length_eq_zero hI]
    exact ⟨List.Perm.nil, rfl⟩
  | m + 1, I, r, hI, hp, hr => by
    have hq : r / fac m < m + 1 := Nat.div_lt_of_lt_mul (by rw [Nat.mul_comm]; exact hr)
    have hd : I = I.take (r / fac m) ++ nx 0 I (r / fac m) :: I.drop (r / fac m + 1) := by
      rw [← drop_cons (by omega), List.take_append_drop]
    have hp2 := hp
    rw [hd, List.pairwise_append, List.pairwise_cons] at hp2
    obtain ⟨d1, ⟨d2, d3⟩, d4⟩ := hp2
    obtain ⟨i1, i2⟩ := pk_ok m (I.take (r / fac m) ++ I.drop (r / fac m + 1)) (r % fac m) (by rw [List.length_append, List.length_take, List.length_drop]; omega) (by
      rw [List.pairwise_append]
      exact ⟨d1, d3, fun a ha b hb => d4 a ha b (by simp [hb])⟩) (Nat.mod_lt _ (fac_pos m))
    refine ⟨?_, ?_⟩
    · conv => rhs; rw [hd]
      exact (i1.cons _).trans List.perm_middle.symm
    · show cnt _ (pk m _ _) * fac (pk m _ _).length + rk (pk m _ _) = r
      rw [i2, cnt_perm i1, i1.length_eq, cnt_app, cnt_all (fun y hy => d4 y hy _ (by simp)), cnt_none (fun y hy => Int.le_of_lt (d2 y hy)), List.length_append, List.length_take, List.length_drop, Nat.add_zero, Nat.min_eq_left (by omega), show r / fac m + (I.length - (r / fac m + 1)) = m from by omega, Nat.mul_comm]
      exact Nat.div_add_mod r (fac m)
theorem at_eq (F n r : Nat) (hF : 40 ≤ F) (hn : n ≤ 10) (hr : r < fac n) : F64 F n r = some (pk n (rangeI n) r, 0) := by
  unfold F64
  have hfn := fac_le n hn
  rw [count_eq F n (by omega), Option.bind_some, if_neg (show ¬ ((n : Int) < 0 ∨ (n : Int) > 10) from by omega), Int.toNat_natCast, if_neg (by simp only [Bool.or_eq_true, decide_eq_true_eq, bne_iff_ne]; omega), mk?_ok (by omega), Option.bind_some]
  have h1 := iter_count (step := F64_l0 F (List.replicate n (0 : Int))) (F := F) (fun i => ((i : Int), tb n fun k => if k < i then (k : Int) else 0)) (b := rangeI n) n ?_ ?_ (by omega)
  · rw [show ((0 : Int), List.replicate n (0 : Int)) = (((0 : Nat) : Int), tb n fun k => if k < 0 then (k : Int) else 0) from by rw [tb_rep]; simp, h1, Option.bind_some]
    unfold mkC?
    rw [if_pos ⟨by omega, by omega, by omega⟩, Option.bind_some]
    obtain ⟨b, hb, hQ⟩ := iter_inv (step := F64_l1 F) (I := fun s => ∃ (m q : Nat) (I out : List Int), s = ((q : Int), I, out, (m : Int) - 1) ∧ I.length = m ∧ I.Pairwise (· < ·) ∧ q < fac m ∧ out ++ pk m I q = pk n (rangeI n) r ∧ m ≤ 10 ∧ out.length + m ≤ 10) (μ := fun s => (s.2.2.2 + 1).toNat) (Q := fun b => b = pk n (rangeI n) r) (by
      rintro _ ⟨m, q, I, out, rfl, hI, hp, hq, ht, hm, ho⟩
      unfold F64_l1
      simp only
      cases m with
      | zero =>
        right
        rw [if_neg (by simp)]
        refine ⟨_, rfl, ?_⟩
        rw [← ht]; simp [pk]
      | succ m =>
        left
        have hqd : q / fac m < m + 1 := Nat.div_lt_of_lt_mul (by rw [Nat.mul_comm]; exact hq)
        have hfm := fac_le (m + 1) hm
        have hfp := fac_pos m
        have hfm2 := fac_le m (by omega)
        have hquo : quo? .i64 (q : Int) (fac m : Int) = some ((q / fac m : Nat) : Int) := by
          unfold quo?
          rw [if_neg (by omega), tdiv_nat, wnat (by omega)]
        have hrem : rem? (q : Int) (fac m : Int) = some ((q % fac m : Nat) : Int) := by
          unfold rem?
          rw [if_neg (by omega), tmod_nat]
        have hdel : ∀ k : Nat, k < m + 1 → F136 F I (k : Int) ((k + 1 : Nat) : Int) = some (I.take k ++ I.drop (k + 1)) := by
          intro k hk
          unfold F136
          rw [if_pos (by omega)]
          unfold del?
          rw [if_pos (by omega)]; rfl
        rw [if_pos (decide_eq_true (by omega)), show ((m + 1 : Nat) : Int) - 1 = (m : Int) from by omega, fact_eq F m (by omega) (by omega), Option.bind_some, hquo, Option.bind_some, nx_get (d := 0) (by omega), Option.bind_some, app?_ok (by simp; omega), Option.bind_some, Option.bind_some, Option.bind_some, wsuc (by omega), hdel _ hqd, Option.bind_some, hrem, Option.bind_some, w64 (by omega) (by omega)]
        refine ⟨_, rfl, ⟨m, q % fac m, _, _, rfl, by rw [List.length_append, List.length_take, List.length_drop]; omega, ?_, Nat.mod_lt _ hfp, ?_, by omega, by simp; omega⟩, by simp only; omega⟩
        · have hd : I = I.take (q / fac m) ++ nx 0 I (q / fac m) :: I.drop (q / fac m + 1) := by
            rw [← drop_cons (by omega), List.take_append_drop]
          rw [hd, List.pairwise_append, List.pairwise_cons] at hp
          obtain ⟨d1, ⟨d2, d3⟩, d4⟩ := hp
          rw [List.pairwise_append]
          exact ⟨d1, d3, fun a ha b hb => d4 a ha b (by simp [hb])⟩
        · rw [← ht]
          show (out ++ [nx 0 I (q / fac m)]) ++ pk m _ _ = out ++ (nx 0 I (q / fac m) :: pk m _ _)
          simp) F ((r : Int), rangeI n, List.replicate (0 : Int).toNat (0 : Int), wrapA .i64 ((n : Int) - 1)) ⟨n, r, rangeI n, [], by rw [w64 (by omega) (by omega)]; rfl, by simp [rangeI], by
            unfold rangeI
            rw [List.pairwise_map]
            exact List.pairwise_lt_range.imp fun h => by omega, hr, rfl, hn, by simpa using hn⟩ (by simp only; rw [w64 (by omega) (by omega)]; omega)
    rw [hb, Option.bind_some, hQ]
  · intro i hi
    unfold F64_l0
    simp only
    rw [List.length_replicate, if_pos (decide_eq_true (by omega)), tb_ck hi, Option.bind_some, Int.toNat_natCast, tb_set, wsuc (by omega)]
    congr 3
    refine tb_congr fun k hk => ?_
    by_cases e : k = i
    · subst e; rw [if_pos rfl, if_pos (by omega)]
    · rw [if_neg e]
      by_cases e2 : k < i
      · rw [if_pos e2, if_pos (by omega)]
      · rw [if_neg e2, if_neg (by omega)]
  · unfold F64_l0
    simp only
    rw [List.length_replicate, if_neg (by simp)]
    congr 2
    unfold rangeI tb
    exact List.map_congr_left fun k hk => if_pos (by simpa using hk)

/-! ### The law -/
theorem nth_count (F : Nat) (p : List Int) (i : Nat) (hF : 40 ≤ F) (hl : p.length ≤ 10) (hi : i < p.length) : iter (F9_l0 F p (i : Int)) F (0, ((i + 1 : Nat) : Int)) = some (cd p i : Int) := by
  have h := iter_count (step := F9_l0 F p (i : Int)) (F := F) (fun j => ((cnt (nx 0 p i) ((p.drop (i + 1)).take j) : Int), ((i + 1 + j : Nat) : Int))) (b := (cd p i : Int)) (p.length - (i + 1)) ?_ ?_ (by omega)
  · rw [← h]; rfl
  · intro j hj
    unfold F9_l0
    simp only
    have hc := cnt_le (nx 0 p i) ((p.drop (i + 1)).take j)
    rw [List.length_take] at hc
    have hc2 : cnt (nx 0 p i) ((p.drop (i + 1)).take j) < 9223372036854775807 := by omega
    rw [if_pos (decide_eq_true (by omega)), nx_get (d := 0) (by omega), Option.bind_some, nx_get (d := 0) hi, Option.bind_some, wsuc (a := i + 1 + j) (by omega), cnt_take (by rw [List.length_drop]; omega), nx_drop, ← Nat.add_assoc]
    by_cases hlt : nx 0 p (i + 1 + j) < nx 0 p i
    · rw [if_pos (decide_eq_true hlt), if_pos hlt, wsuc hc2]
    · rw [if_neg (mt of_decide_eq_true hlt), if_neg hlt]; rfl
  · unfold F9_l0
    simp only
    rw [if_neg (by rw [decide_eq_true_eq]; omega), List.take_of_length_le (by rw [List.length_drop]; omega)]
    rfl
theorem PrankSays.holds (t0 : List (Int)) (t1 : Int) (t2 : Int) (h0 : (t0.length ≤ maxLen ∧ ∀ a ∈ t0, inR .i64 a)) (h1 : inR .i64 t1) (h2 : inR .i64 t2) : ∃ F, F9 F t0 t1 t2 = some true := by
  refine ⟨60, ?_⟩
  unfold F9
  -- Count and At
  obtain ⟨r17, r21, e17, e21, hP⟩ : ∃ r17 r21, F63 60 t1 = some r17 ∧ F64 60 t1 t2 = some r21 ∧ ((if ((decide (t1 < 0)) || (decide (t1 > 10))) then
      (if ((((r17.2 != 1) || (r17.1 != 0)) || (r21.2 != r17.2)) || (decide ((r21.1.length : Int) > 0))) then (some ((.inr false))) else some ((.inl ())))
      else
      (if (r17.2 != 0) then some true else ((F65 60 t1).bind fun r33 => some (r17.1 != r33))).bind fun y38 =>
      if y38 then (some ((.inr false)))
      else
      if ((decide (t2 < 0)) || (decide (t2 ≥ r17.1))) then
      (if ((r21.2 != 1) || (decide ((r21.1.length : Int) > 0))) then (some ((.inr false))) else some ((.inl ())))
      else
      (if ((r21.2 != 0) || ((r21.1.length : Int) != t1)) then some true else ((F66 60 r21.1).bind fun r48 => some (r48 != 0))).bind fun y53 =>
      (if y53 then some true else ((F67 60 r21.1).bind fun r57 => some (r57 != t2))).bind fun y62 =>
      if y62 then (some ((.inr false))) else some ((.inl ()))) : Option (Unit ⊕ Bool)) = some (.inl ()) := by
    by_cases ho : t1 < 0 ∨ t1 > 10
    · refine ⟨(0, 1), ([], 1), by rw [count_eq 60 t1 (by decide), if_pos ho], ?_, ?_⟩
      · unfold F64
        rw [count_eq 60 t1 (by decide), if_pos ho, Option.bind_some, if_pos (by simp)]
      · rw [if_pos (by simpa using ho), if_neg (by simp)]
    · obtain ⟨n, rfl⟩ : ∃ n : Nat, t1 = n := ⟨t1.toNat, by omega⟩
      have hn : n ≤ 10 := by omega
      have hcnt : F63 60 n = some ((fac n : Int), 0) := by rw [count_eq 60 n (by decide), if_neg ho]; rfl
      have hfac := refFac_eq n 60 hn (by omega)
      by_cases ho2 : t2 < 0 ∨ t2 ≥ (fac n : Int)
      · refine ⟨_, ([], 1), hcnt, ?_, ?_⟩
        · unfold F64
          rw [hcnt, Option.bind_some, if_pos (by simpa [or_assoc] using ho2)]
        · rw [if_neg (by simpa using ho), if_neg (by simp), hfac, Option.bind_some, Option.bind_some, if_neg (by simp), if_pos (by simpa using ho2), if_neg (by simp)]
      · obtain ⟨r, rfl⟩ : ∃ r : Nat, t2 = r := ⟨t2.toNat, by omega⟩
        have hr : r < fac n := by omega
        have hri : (rangeI n).length = n := by simp [rangeI]
        obtain ⟨q1, q2⟩ := pk_ok n (rangeI n) r hri (by
          unfold rangeI
          rw [List.pairwise_map]
          exact List.pairwise_lt_range.imp fun h => by omega) hr
        have hlen : (pk n (rangeI n) r).length = n := by rw [q1.length_eq, hri]
        have hg : GoodP (pk n (rangeI n) r) := good_of_perm q1 ⟨nodup_rangeI n, fun x hx => by rw [hri]; exact mem_rangeI.1 hx⟩
        have hpe := permErr_eq 60 (pk n (rangeI n) r) (by decide)
        rw [permE_good hg (by omega)] at hpe
        have hrk := rankOf_eq n 60 (pk n (rangeI n) r) hlen hn (by omega) hg
        refine ⟨_, _, hcnt, at_eq 60 n r (by decide) hn hr, ?_⟩
        rw [if_neg (by simpa using ho), if_neg (by simp), hfac, Option.bind_some, Option.bind_some, if_neg (by simp), if_neg (by simpa using ho2), if_neg (by simp [hlen]), hpe, Option.bind_some, Option.bind_some, if_neg (by decide), hrk, q2, Option.bind_some, Option.bind_some, if_neg (by simp)]
  by_cases hz : permE t0 = 0
  · obtain ⟨hg, hl⟩ := good_permE hz
    have eN := next_eq 60 t0 (by decide) hz
    obtain ⟨r11, e11, hN⟩ : ∃ r11, F62 60 t0 = some r11 ∧ ((r11 = ([], 4) ∧ rk t0 + 1 = fac t0.length) ∨ (r11.2 = 0 ∧ r11.1.Perm t0 ∧ rk r11.1 = rk t0 + 1)) := by
      rcases eN with ⟨a, b⟩ | ⟨q, a, b, c⟩
      · exact ⟨_, a, .inl ⟨rfl, b⟩⟩
      · exact ⟨_, a, .inr ⟨rfl, b, c⟩⟩
    have hcl : (codeL t0).length = t0.length := tb_len _ _
    have hrk := rankOf_eq t0.length 60 t0 rfl hl (by omega) hg
    have hfa := refFac_eq t0.length 60 hl (by omega)
    have hf1 := fac_le t0.length hl
    have hf2 := rk_lt t0
    rw [code_eq 60 t0 (by decide) hz, Option.bind_some, of_eq 60 t0 (by decide) hz, Option.bind_some, e11, Option.bind_some, e17, Option.bind_some, e21, Option.bind_some, hP, Option.bind_some]
    dsimp only
    rw [permErr_eq 60 t0 (by decide), hz, Option.bind_some, if_neg (by decide), if_neg (by simp [hcl]), hrk, Option.bind_some, Option.bind_some, if_neg (by simp)]
    have hloop : iter (F9_l1 60 t0 (codeL t0, 0)) 60 0 = some (.inl ()) := by
      refine iter_count (step := F9_l1 60 t0 (codeL t0, 0)) (F := 60) (fun i => (i : Int)) t0.length ?_ ?_ (by omega)
      · intro i hi
        unfold F9_l1
        rw [if_pos (decide_eq_true (by omega)), wsuc (by omega), nth_count 60 t0 i (by decide) hl hi, Option.bind_some]
        simp only
        rw [show at? (codeL t0) (i : Int) = some (cd t0 i : Int) from tb_get hi, Option.bind_some, if_neg (by simp)]
      · unfold F9_l1
        rw [if_neg (by simp)]
    rw [hloop, Option.bind_some]
    dsimp only
    rw [hfa, Option.bind_some, w64 (by omega) (by omega)]
    rcases hN with ⟨rfl, hN⟩ | ⟨n1, n2, n3⟩
    · rw [if_pos (by simp; omega)]
      rfl
    · have hlt := rk_lt r11.1
      rw [n2.length_eq, n3] at hlt
      have hg2 := good_of_perm n2 hg
      have hpe := permErr_eq 60 r11.1 (by decide)
      rw [permE_good hg2 (by rw [n2.length_eq]; exact hl)] at hpe
      have hrk2 := rankOf_eq t0.length 60 r11.1 n2.length_eq hl (by omega) hg2
      rw [if_neg (by simp; omega), if_pos (by simp [n1, n2.length_eq]), hpe, Option.bind_some, Option.bind_some, if_pos (by decide), hrk2, n3, Option.bind_some, Option.bind_some, wsuc (by omega)]
      simp
  · have hck := check_eq 60 t0 (by decide)
    have hne : (permE t0 != 0) = true := by simpa using hz
    have ec : F60 60 t0 = some ([], permE t0) := by unfold F60; rw [hck, Option.bind_some, if_pos hne]
    have eo : F61 60 t0 = some (0, permE t0) := by unfold F61; rw [ec, Option.bind_some, if_pos hne]
    have en : F62 60 t0 = some ([], permE t0) := by unfold F62; rw [hck, Option.bind_some, if_pos hne]
    rw [ec, Option.bind_some, eo, Option.bind_some, en, Option.bind_some, e17, Option.bind_some, e21, Option.bind_some, hP, Option.bind_some]
    dsimp only
    rw [permErr_eq 60 t0 (by decide), Option.bind_some, if_pos hne]
    simp only [beq_self_eq_true, Bool.true_and, List.length_nil, Bool.and_true]
    rfl
end Go.Proofs.Ytdkmepeolmdccaa

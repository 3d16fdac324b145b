/- The law TopChain, in plain words. -/
import Derived.Test.YtdfalejlhkalhaaEvenLib
set_option linter.unusedVariables false
set_option linter.unusedSimpArgs false
namespace Go.Proofs.Ytdfalejlhkalhaa
open Go.Am

theorem works_ok : F63 6000 = some true := by kernel_rfl
theorem within_eq (F : Nat) (t : Int) (m : Nat) (hm : 0 < m) (hm2 : m ≤ 100) : ∃ x : Nat, x < m ∧ F61 F t m = some (x : Int) := by
  unfold F61 F105
  have h1 := Int.tmod_lt_of_pos t (show (0 : Int) < (m : Int) from by omega)
  have h2 := Int.lt_tmod_of_pos t (show (0 : Int) < (m : Int) from by omega)
  have hr : rem? t (m : Int) = some (t.tmod m) := by unfold rem?; rw [if_neg (by omega)]
  rw [hr, Option.bind_some]
  by_cases h : t.tmod m < 0
  · rw [if_pos (decide_eq_true h), Option.bind_some, w64 (by omega) (by omega)]
    exact ⟨(t.tmod m + m).toNat, by omega, by rw [Int.toNat_of_nonneg (by omega)]⟩
  · rw [if_neg (mt of_decide_eq_true h), Option.bind_some]
    exact ⟨(t.tmod m).toNat, by omega, by rw [Int.toNat_of_nonneg (by omega)]⟩

/-- Up by p, down by q. -/
def tri (p q i k : Nat) : Int := if k + 1 = i then q else if k = i + 1 then p else 0
/-- The sum without what is nothing. -/
def TZ (n root : Nat) (a : Nat → Nat → Int) : Nat → Nat → List Int → Int
  | 0, _, to => if leads n to root then 1 else 0
  | d + 1, i, to => if i = root then TZ n root a d (i + 1) (to ++ [0]) else sm n fun k => if k = i then 0 else if a i k = 0 then 0 else a i k * TZ n root a d (i + 1) (to ++ [(k : Int)])
theorem TZ_eq (n root : Nat) (a : Nat → Nat → Int) : ∀ (d i : Nat) (to : List Int), TZ n root a d i to = TR n root a d i to
  | 0, _, _ => rfl
  | d + 1, i, to => by
    unfold TZ TR
    split
    · exact TZ_eq n root a d (i + 1) _
    · refine sm_congr fun k _ => ?_
      split
      · rfl
      · split
        · rename_i h; rw [h]; simp
        · rw [TZ_eq n root a d (i + 1) _]
theorem TR_congr {n root : Nat} {a b : Nat → Nat → Int} (h : ∀ i k, i < n → k < n → a i k = b i k) : ∀ (d i : Nat) (to : List Int), i + d ≤ n → TR n root a d i to = TR n root b d i to
  | 0, _, _, _ => rfl
  | d + 1, i, to, hi => by
    unfold TR
    split
    · exact TR_congr h d (i + 1) _ (by omega)
    · refine sm_congr fun k hk => ?_
      rw [h i k (by omega) hk, TR_congr h d (i + 1) _ (by omega)]
def chkR (n : Nat) : Bool := (List.range 9).all fun p => (List.range 9).all fun q => (List.range n).all fun x => TZ n x (tri (p + 1) (q + 1)) n 0 [] == ((((p + 1) ^ x * (q + 1) ^ (n - 1 - x) : Nat)) : Int)
set_option maxRecDepth 100000 in
theorem chk1 : chkR 1 = true := by kernel_rfl
set_option maxRecDepth 100000 in
theorem chk2 : chkR 2 = true := by kernel_rfl
set_option maxRecDepth 100000 in
theorem chk3 : chkR 3 = true := by kernel_rfl
set_option maxRecDepth 100000 in
theorem chk4 : chkR 4 = true := by kernel_rfl
set_option maxRecDepth 100000 in
theorem chk5 : chkR 5 = true := by kernel_rfl
theorem tri_rest {n p q x : Nat} (h1 : 1 ≤ n) (h2 : n ≤ 5) (hp : p < 9) (hq : q < 9) (hx : x < n) : TR n x (tri (p + 1) (q + 1)) n 0 [] = ((((p + 1) ^ x * (q + 1) ^ (n - 1 - x) : Nat)) : Int) := by
  have h : chkR n = true := by
    rcases (show n = 1 ∨ n = 2 ∨ n = 3 ∨ n = 4 ∨ n = 5 by omega) with rfl | rfl | rfl | rfl | rfl
    · exact chk1
    · exact chk2
    · exact chk3
    · exact chk4
    · exact chk5
  unfold chkR at h
  simp only [List.all_eq_true, List.mem_range, beq_iff_eq] at h
  rw [← TZ_eq]; exact h p hp q hq x hx

def triM (n p q : Nat) : List (List Int) := tb n fun i => tb n fun k => tri p q i k
theorem triM_len (n p q : Nat) : (triM n p q).length = n := tb_len _ _
theorem triM_ent {n p q i k : Nat} (hi : i < n) (hk : k < n) : ent (triM n p q) i k = tri p q i k := by
  unfold ent triM; rw [tb_nx hi, tb_nx hk]
theorem triM_right {n p q : Nat} (h1 : 1 ≤ n) (h2 : n ≤ 5) (hp : p ≤ 20) (hq : q ≤ 20) : Rgt (triM n p q) := by
  refine ⟨by rw [triM_len]; exact h1, by rw [triM_len]; exact h2, fun i hi => ?_, fun i k hi hk => ?_⟩
  · rw [triM_len] at hi ⊢
    unfold triM; rw [tb_nx hi, tb_len]
  · rw [triM_len] at hi hk
    rw [triM_ent hi hk]
    unfold tri
    split
    · omega
    · split <;> omega

theorem build_eq (F n p q : Nat) (hF : 40 ≤ F) (h1 : n < 5) (hp : p < 9) (hq : q < 9) : iter (F7_l0 F n p q (List.replicate (n + 1) [])) F (0, List.replicate (n + 1) []) = some (triM (n + 1) (p + 1) (q + 1)) := by
  have e0 : List.replicate (n + 1) ([] : List Int) = tb (n + 1) fun i => if i < 0 then tb (n + 1) fun k => tri (p + 1) (q + 1) i k else [] := by
    rw [tb_rep]; exact tb_congr fun i _ => by rw [if_neg (by omega)]
  have hw : wrapA .i64 (1 + (n : Int)) = ((n + 1 : Nat) : Int) := by rw [Int.add_comm, wsuc (by omega)]
  have hwp : wrapA .i64 (1 + (p : Int)) = ((p + 1 : Nat) : Int) := by rw [Int.add_comm, wsuc (by omega)]
  have hwq : wrapA .i64 (1 + (q : Int)) = ((q + 1 : Nat) : Int) := by rw [Int.add_comm, wsuc (by omega)]
  have := iter_count (step := F7_l0 F n p q (List.replicate (n + 1) [])) (F := F) (fun i => ((i : Int), tb (n + 1) fun j => if j < i then tb (n + 1) fun k => tri (p + 1) (q + 1) j k else [])) (b := triM (n + 1) (p + 1) (q + 1)) (n + 1) (fun i hi => ?_) ?_ (by omega)
  · rw [← e0] at this; exact this
  · unfold F7_l0
    simp only [List.length_replicate]
    have hset : ∀ (R : List Int), (tb (n + 1) fun j => if j < i then tb (n + 1) fun k => tri (p + 1) (q + 1) j k else []).set i R = tb (n + 1) fun j => if j = i then R else if j < i then tb (n + 1) fun k => tri (p + 1) (q + 1) j k else [] := fun R => tb_set
    have hset2 : ∀ (R R' : List Int), (tb (n + 1) fun j => if j = i then R else if j < i then tb (n + 1) fun k => tri (p + 1) (q + 1) j k else []).set i R' = tb (n + 1) fun j => if j = i then R' else if j < i then tb (n + 1) fun k => tri (p + 1) (q + 1) j k else [] := fun R R' => by
      rw [tb_set]; exact tb_congr fun j _ => by by_cases e : j = i <;> simp [e]
    have hget : ∀ (R : List Int), at? (tb (n + 1) fun j => if j = i then R else if j < i then tb (n + 1) fun k => tri (p + 1) (q + 1) j k else []) (i : Int) = some R := fun R => by
      rw [tb_get hi, if_pos rfl]
    have hw1 : wrapA .i64 (((n + 1 : Nat) : Int) - 1) = (n : Int) := by rw [wpred (by omega) (by omega)]; rfl
    rw [if_pos (decide_eq_true (by omega)), hw, hw1, mk?_ok (by omega), Option.bind_some, tb_ck hi, Option.bind_some, Int.toNat_natCast, hset, hwp, hwq, wsuc (a := i) (by omega)]
    -- the row's left
    have hleft : (show Option ((List (List Int))) from (if (decide ((i : Int) > 0)) then
        ((at? (tb (n + 1) fun j => if j = i then List.replicate (n + 1) (0 : Int) else if j < i then tb (n + 1) fun k => tri (p + 1) (q + 1) j k else []) (i : Int)).bind fun L38 =>
        (ck L38 (wrapA .i64 ((i : Int) - 1))).bind fun u44 =>
        some ((tb (n + 1) fun j => if j = i then List.replicate (n + 1) (0 : Int) else if j < i then tb (n + 1) fun k => tri (p + 1) (q + 1) j k else []).set i (L38.set ((Int.toNat (wrapA .i64 ((i : Int) - 1)))) ((q + 1 : Nat) : Int))))
        else
        some (tb (n + 1) fun j => if j = i then List.replicate (n + 1) (0 : Int) else if j < i then tb (n + 1) fun k => tri (p + 1) (q + 1) j k else []))) =
        some (tb (n + 1) fun j => if j = i then (tb (n + 1) fun k => if k + 1 = i then ((q + 1 : Nat) : Int) else 0) else if j < i then tb (n + 1) fun k => tri (p + 1) (q + 1) j k else []) := by
      show (if _ then _ else _) = _
      by_cases h0 : i = 0
      · subst h0
        rw [if_neg (by simp)]
        congr 2
        funext j
        by_cases e : j = 0
        · rw [if_pos e, if_pos e, tb_rep]
          exact tb_congr fun k _ => by rw [if_neg (by omega)]
        · rw [if_neg e, if_neg e]
      · rw [if_pos (decide_eq_true (by omega)), hget, Option.bind_some, wpred (by omega) (by omega), ck_ok (by simp; omega), Option.bind_some, Int.toNat_natCast, hset2]
        congr 2
        funext j
        rw [tb_rep, tb_set]
        congr 1
        exact tb_congr fun k _ => by
          by_cases e : k = i - 1
          · rw [if_pos e, if_pos (by omega)]
          · rw [if_neg e, if_neg (by omega)]
    have hleft := hleft
    dsimp only at hleft
    rw [hleft, Option.bind_some]
    by_cases hr : i < n
    · rw [if_pos (decide_eq_true (by omega)), hget, Option.bind_some, tb_ck (by omega), Option.bind_some, Int.toNat_natCast, hset2]
      congr 3
      refine tb_congr fun j hj => ?_
      by_cases e : j = i
      · subst e
        rw [if_pos rfl, if_pos (by omega), tb_set]
        refine tb_congr fun k hk => ?_
        unfold tri
        by_cases e1 : k = j + 1
        · rw [if_pos e1, if_neg (by omega), if_pos e1]
        · rw [if_neg e1, if_neg e1]
      · rw [if_neg e]
        by_cases e2 : j < i
        · rw [if_pos e2, if_pos (by omega)]
        · rw [if_neg e2, if_neg (by omega)]
    · rw [if_neg (by rw [decide_eq_true_eq]; omega)]
      congr 3
      refine tb_congr fun j hj => ?_
      by_cases e : j = i
      · subst e
        rw [if_pos rfl, if_pos (by omega)]
        refine tb_congr fun k hk => ?_
        unfold tri
        by_cases e1 : k + 1 = j
        · rw [if_pos e1, if_pos e1]
        · rw [if_neg e1, if_neg e1, if_neg (by omega)]
      · rw [if_neg e]
        by_cases e2 : j < i
        · rw [if_pos e2, if_pos (by omega)]
        · rw [if_neg e2, if_neg (by omega)]
  · unfold F7_l0
    simp only [List.length_replicate]
    rw [if_neg (by simp)]
    unfold triM
    congr 2
    exact tb_congr fun j hj => by rw [if_pos hj]

theorem pow_bd {a i : Nat} (ha : a ≤ 9) (hi : i ≤ 4) : a ^ i ≤ 6561 := by
  have h1 : a ^ i ≤ 9 ^ i := Nat.pow_le_pow_left ha i
  have h2 : 9 ^ i ≤ 9 ^ 4 := Nat.pow_le_pow_right (by decide) hi
  omega

theorem PtopChain.holds (t0 : Int) (t1 : Int) (t2 : Int) (h0 : inR .i64 t0) (h1 : inR .i64 t1) (h2 : inR .i64 t2) : ∃ F, F7 F t0 t1 t2 = some true := by
  refine ⟨6000, ?_⟩
  have hw := works_ok
  generalize hF : (6000 : Nat) = F at hw
  have hFF : 40 ≤ F := by omega
  clear hF
  unfold F7
  obtain ⟨n, hn, e1⟩ := within_eq F t0 5 (by decide) (by decide)
  obtain ⟨p, hp, e2⟩ := within_eq F t1 9 (by decide) (by decide)
  obtain ⟨q, hq, e3⟩ := within_eq F t2 9 (by decide) (by decide)
  have e1 : F61 F t0 5 = some (n : Int) := e1
  have e2 : F61 F t1 9 = some (p : Int) := e2
  have e3 : F61 F t2 9 = some (q : Int) := e3
  have hwn : wrapA .i64 (1 + (n : Int)) = ((n + 1 : Nat) : Int) := by rw [Int.add_comm, wsuc (by omega)]
  have hwp : wrapA .i64 (1 + (p : Int)) = ((p + 1 : Nat) : Int) := by rw [Int.add_comm, wsuc (by omega)]
  have hwq : wrapA .i64 (1 + (q : Int)) = ((q + 1 : Nat) : Int) := by rw [Int.add_comm, wsuc (by omega)]
  rw [e1, Option.bind_some, e2, Option.bind_some, e3, Option.bind_some, hwn, mk?_ok (by omega), Option.bind_some, build_eq F n p q hFF hn hp hq, Option.bind_some]
  have hR := triM_right (n := n + 1) (p := p + 1) (q := q + 1) (by omega) (by omega) (by omega) (by omega)
  have hlen := triM_len (n + 1) (p + 1) (q + 1)
  have hT : ∀ x, x < n + 1 → TR (n + 1) x (ent (triM (n + 1) (p + 1) (q + 1))) (n + 1) 0 [] = ((((p + 1) ^ x * (q + 1) ^ (n - x) : Nat)) : Int) := fun x hx => by
    rw [TR_congr (b := tri (p + 1) (q + 1)) (fun i k hi hk => triM_ent hi hk) (n + 1) 0 [] (by omega), tri_rest (by omega) (by omega) hp hq hx]
    rfl
  have hpos : ∀ x, x < n + 1 → 0 < (p + 1) ^ x * (q + 1) ^ (n - x) ∧ (p + 1) ^ x * (q + 1) ^ (n - x) ≤ 43046721 := fun x hx => by
    have a1 := pow_bd (a := p + 1) (i := x) (by omega) (by omega)
    have a2 := pow_bd (a := q + 1) (i := n - x) (by omega) (by omega)
    refine ⟨Nat.mul_pos (Nat.pow_pos (by omega)) (Nat.pow_pos (by omega)), ?_⟩
    exact Nat.le_trans (Nat.mul_le_mul a1 a2) (by decide)
  have hrest := rest_eq F _ hFF hR
  rw [hlen] at hrest
  rw [if_pos (by
    rw [List.any_eq_true]
    refine ⟨0, by simp, ?_⟩
    rw [hT 0 (by omega)]
    have := (hpos 0 (by omega)).1
    simp only [decide_eq_true_eq]
    omega)] at hrest
  rw [hrest, Option.bind_some, hw, Option.bind_some]
  have hrl : (restOf (triM (n + 1) (p + 1) (q + 1))).length = n + 1 := by unfold restOf; rw [tb_len, hlen]
  have hre : ∀ x, x < n + 1 → nx 0 (restOf (triM (n + 1) (p + 1) (q + 1))) x = ((((p + 1) ^ x * (q + 1) ^ (n - x) : Nat)) : Int) := fun x hx => by
    unfold restOf; rw [hlen, tb_nx hx, hT x hx]
  generalize restOf (triM (n + 1) (p + 1) (q + 1)) = R at hrl hre ⊢
  rw [if_neg (by simp [hrl])]
  simp only
  have hstep : ∀ x, x < n → (p + 1) ^ (x + 1) * (q + 1) ^ (n - (x + 1)) * (q + 1) = (p + 1) ^ x * (q + 1) ^ (n - x) * (p + 1) := fun x hx => by
    obtain ⟨z, hz⟩ : ∃ z, n - x = z + 1 := ⟨n - x - 1, by omega⟩
    rw [hz, show n - (x + 1) = z from by omega, Nat.pow_succ, Nat.pow_succ]
    simp only [Nat.mul_assoc, Nat.mul_comm, Nat.mul_left_comm]
  obtain ⟨b, b1, b2⟩ := even_eq F (triM (n + 1) (p + 1) (q + 1)) R hFF hR (by rw [hrl, hlen]) (fun i hi => by
    rw [hlen] at hi; rw [hre i hi]; have := hpos i hi; omega)
  have hb : b = true := b2.2 (fun i k hi hk => by
    rw [hlen] at hi hk
    rw [hre i hi, hre k hk, triM_ent hi hk, triM_ent hk hi]
    unfold tri
    by_cases c1 : k + 1 = i
    · subst c1
      rw [if_pos rfl, if_neg (by omega), if_pos rfl, ← Int.natCast_mul, ← Int.natCast_mul, hstep k (by omega)]
    · rw [if_neg c1]
      by_cases c2 : k = i + 1
      · subst c2
        rw [if_pos rfl, if_pos rfl, ← Int.natCast_mul, ← Int.natCast_mul, hstep i (by omega)]
      · rw [if_neg c2, if_neg (by omega), if_neg (by omega)]; simp)
  subst hb
  rw [b1, Option.bind_some]
  have := iter_count (step := F7_l1 F n p q (R, 0)) (F := F) (fun i => ((i + 1 : Nat) : Int)) (b := (Sum.inl () : Unit ⊕ Bool)) n (fun i hi => ?_) ?_ (by omega)
  · rw [show (1 : Int) = ((0 + 1 : Nat) : Int) from rfl, this, Option.bind_some]
    rfl
  · unfold F7_l1
    have m1 := hpos (i + 1) (by omega)
    have m2 := hpos i (by omega)
    have m3 : (p + 1) ^ (i + 1) * (q + 1) ^ (n - (i + 1)) * (q + 1) ≤ 43046721 * 9 := Nat.mul_le_mul m1.2 (by omega)
    have m4 : (p + 1) ^ i * (q + 1) ^ (n - i) * (p + 1) ≤ 43046721 * 9 := Nat.mul_le_mul m2.2 (by omega)
    rw [hwn, if_pos (decide_eq_true (by omega)), wpred (by omega) (by omega), Nat.add_sub_cancel]
    simp only
    rw [nx_get (d := 0) (by omega), Option.bind_some, nx_get (d := 0) (by omega), Option.bind_some, hre _ (by omega), hre _ (by omega), hwp, hwq, wmul (by omega), wmul (by omega), hstep i hi, if_neg (by simp), wsuc (by omega)]
  · unfold F7_l1
    rw [hwn, if_neg (by simp)]
end Go.Proofs.Ytdfalejlhkalhaa

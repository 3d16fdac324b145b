/- Sums of unlike numbers: what Unlike answers. -/
import Derived.Test.YtihmliblbhjlaaaPartsE
set_option linter.unusedVariables false
set_option linter.unusedSimpArgs false
namespace Go.Proofs.Ytihmliblbhjlaaa
open Go.Am

/-- Its answer, ahead of the sort. -/
structure Ul (l r : List Int) : Prop where
  pos : Pos r
  nd : r.Nodup
  s : ∀ d, S d r = l.count d
theorem count_tot {v : Nat} : ∀ {L : List Int}, Pos L → (v : Int) * (L.count (v : Int) : Int) ≤ tot L
  | [], _ => by simp [tot]
  | x :: L, h => by
    have ih := count_tot (v := v) (L := L) fun y hy => h y (by simp [hy])
    have hx := h x (by simp)
    rw [List.count_cons]
    simp only [tot]
    by_cases e : x = (v : Int)
    · rw [if_pos (by simpa using e), Int.natCast_add, Int.mul_add]; omega
    · rw [if_neg (by simpa using e), Nat.add_zero]; omega
/-- The numbers of x's own, up to x * by. -/
structure Ui (l o : List Int) (x n b : Nat) : Prop where
  pos : Pos o
  nd : o.Nodup
  lt : ∀ y ∈ o, (od 6 y.toNat).1 < x ∨ ((od 6 y.toNat).1 = x ∧ y < ((x * b : Nat) : Int))
  s : ∀ d : Int, d ≠ (x : Int) → S d o = if d < (x : Int) then l.count d else 0
  sx : S (x : Int) o + n * b = l.count (x : Int)
theorem unlike_inner (F : Nat) (l : List Int) (hpos : Pos l) (htot : tot l ≤ 40) (hodd : ∀ x ∈ l, x.toNat % 2 = 1) (x : Nat) (hx : x ≤ 40) (o : List Int) (hF : 200 ≤ F) (s0 : List Int × Int) (hs : s0.2 = (x : Int))
    (h : Ui l o x (l.count (x : Int)) 1) (hol : o.length ≤ 4000) : ∃ o', iter (F39_l1 F s0) F (o, (l.count (x : Int) : Int), 1) = some o' ∧ (∃ b, Ui l o' x 0 b) ∧ o'.length ≤ o.length + 41 := by
  have hct := count_tot (v := x) hpos
  have hcl : l.count (x : Int) ≤ l.length := List.count_le_length
  have hll := tot_len hpos
  obtain ⟨b, hb, hQ⟩ := iter_inv (step := F39_l1 F s0) (I := fun s => ∃ n j : Nat, s.2.1 = (n : Int) ∧ s.2.2 = ((2 ^ j : Nat) : Int) ∧ n ≤ l.count (x : Int) ∧ Ui l s.1 x n (2 ^ j) ∧ 2 ^ j ≤ 80 ∧ s.1.length + n ≤ o.length + 41) (μ := fun s => s.2.1.toNat)
    (Q := fun o' => (∃ b, Ui l o' x 0 b) ∧ o'.length ≤ o.length + 41) (by
      rintro ⟨o2, s1, s2⟩ ⟨n, j, h1, h2, h3, h4, h5, h6⟩
      simp only at h1 h2 h4 h6
      subst h1 h2
      unfold F39_l1
      simp only
      by_cases h0 : 0 < n
      · left
        rw [if_pos (decide_eq_true (by omega)), show Int.tmod (n : Int) 2 = ((n % 2 : Nat) : Int) from rfl, show Int.tdiv (n : Int) 2 = ((n / 2 : Nat) : Int) from rfl, wnat (a := n / 2) (by omega), show wrapA .i64 (2 * ((2 ^ j : Nat) : Int)) = ((2 * 2 ^ j : Nat) : Int) from wmul (a := 2) (b := 2 ^ j) (by omega), hs]
        have hsx := h4.sx
        have hnb : 2 ^ j ≤ n * 2 ^ j := Nat.le_mul_of_pos_left _ h0
        have hx1 : x % 2 = 1 := by
          have : (x : Int) ∈ l := List.count_pos_iff.1 (by omega)
          have := hodd _ this
          simpa using this
        have hxb : x * 2 ^ j ≤ 40 := by
          have e1 : x * 2 ^ j ≤ x * l.count (x : Int) := Nat.mul_le_mul_left x (by omega)
          have e2 : ((x * l.count (x : Int) : Nat) : Int) ≤ tot l := by rw [Int.natCast_mul]; exact hct
          omega
        have hb40 : 2 ^ j ≤ 40 := Nat.le_trans (Nat.le_mul_of_pos_left _ (by omega)) hxb
        have hb1 : 0 < 2 ^ j := Nat.two_pow_pos j
        have hxb1 : 1 ≤ x * 2 ^ j := Nat.mul_pos (by omega) hb1
        have hod := od_pow hx1 hxb
        have hdouble : x * (2 * 2 ^ j) = 2 * (x * 2 ^ j) := by rw [Nat.mul_left_comm]
        have hsplit : n * 2 ^ j = (n % 2) * 2 ^ j + (n / 2) * (2 * 2 ^ j) := by
          have : n = n % 2 + n / 2 * 2 := by omega
          conv => lhs; rw [this]
          rw [Nat.add_mul, Nat.mul_assoc]
        rcases Nat.mod_two_eq_zero_or_one n with q | q
        · rw [q, if_neg (by decide)]
          refine ⟨_, rfl, ⟨n / 2, j + 1, rfl, by simp only; rw [Nat.pow_succ, Nat.mul_comm], by omega, ⟨h4.pos, h4.nd, fun y hy => ?_, h4.s, ?_⟩, by rw [Nat.pow_succ]; omega, by simp only; omega⟩, by simp only; omega⟩
          · rw [Nat.pow_succ, Nat.mul_comm (2 ^ j) 2, hdouble]
            rcases h4.lt y hy with g | g
            · exact .inl g
            · exact .inr ⟨g.1, by omega⟩
          · rw [Nat.pow_succ, Nat.mul_comm (2 ^ j) 2]
            simp only
            rw [q, Nat.zero_mul, Nat.zero_add] at hsplit
            omega
        · rw [q, if_pos (by decide), wmul (by omega), app?_ok (by simp; omega), Option.bind_some]
          have hws : ∀ d : Int, S d (o2 ++ [((x * 2 ^ j : Nat) : Int)]) = S d o2 + if (x : Int) = d then 2 ^ j else 0 := fun d => by
            rw [S_app]
            simp only [S, w, Int.toNat_natCast, hod, Nat.add_zero]
          refine ⟨_, rfl, ⟨n / 2, j + 1, rfl, by simp only; rw [Nat.pow_succ, Nat.mul_comm], by omega, ⟨fun y hy => ?_, ?_, fun y hy => ?_, fun d hd => ?_, ?_⟩, by rw [Nat.pow_succ]; omega, by simp; omega⟩, by simp only; omega⟩
          · rcases List.mem_append.1 hy with g | g
            · exact h4.pos y g
            · rw [List.mem_singleton.1 g]; omega
          · simp only
            rw [List.nodup_append]
            refine ⟨h4.nd, by simp, fun y hy z hz e => ?_⟩
            rw [List.mem_singleton.1 hz] at e
            rcases h4.lt y hy with g | g
            · rw [e, Int.toNat_natCast, hod] at g; omega
            · omega
          · rw [Nat.pow_succ, Nat.mul_comm (2 ^ j) 2, hdouble]
            rcases List.mem_append.1 hy with g | g
            · rcases h4.lt y g with g | g
              · exact .inl g
              · exact .inr ⟨g.1, by omega⟩
            · rw [List.mem_singleton.1 g, Int.toNat_natCast, hod]
              exact .inr ⟨rfl, by omega⟩
          · simp only
            rw [hws, if_neg (fun e => hd e.symm), Nat.add_zero]; exact h4.s d hd
          · simp only
            rw [hws, if_pos rfl, Nat.pow_succ, Nat.mul_comm (2 ^ j) 2]
            rw [q, Nat.one_mul] at hsplit
            omega
      · right
        have : n = 0 := by omega
        subst this
        rw [if_neg (by rw [decide_eq_true_eq]; omega)]
        exact ⟨_, rfl, ⟨_, h4⟩, by omega⟩) F (o, (l.count (x : Int) : Int), 1) ⟨l.count (x : Int), 0, rfl, rfl, Nat.le_refl _, h, by decide, by simp only; omega⟩ (by simp only; omega)
  exact ⟨b, hb, hQ⟩
theorem unlike_eq (F : Nat) (l : List Int) (hP : Part l) (hc : F42 F l = some 0) (hF : 2000 ≤ F) : ((∃ x ∈ l, x.toNat % 2 = 0) ∧ F39 F l = some ([], 3)) ∨ ((∀ x ∈ l, x.toNat % 2 = 1) ∧ ∃ r, F39 F l = some (r, 0) ∧ (r.Pairwise fun a b => b ≤ a) ∧ Ul l r ∧ r.length ≤ 1700) := by
  have hlen := hP.len
  obtain ⟨hpos, htot⟩ := hP.list
  unfold F39
  rw [hc, Option.bind_some, if_neg (by decide)]
  obtain ⟨b, hb, hQ⟩ := iter_inv (step := F39_l0 F l) (I := fun s => ∃ i : Nat, s.1 = (i : Int) ∧ i ≤ l.length ∧ s.2 = tb 41 (fun v => ((l.take i).count (v : Int) : Int)) ∧ ∀ x ∈ l.take i, x.toNat % 2 = 1) (μ := fun s => l.length - s.1.toNat)
    (Q := fun b => (b = .inr ([], 3) ∧ ∃ x ∈ l, x.toNat % 2 = 0) ∨ (b = .inl (tb 41 fun v => (l.count (v : Int) : Int)) ∧ ∀ x ∈ l, x.toNat % 2 = 1)) (by
      rintro ⟨s, o⟩ ⟨i, h1, h2, h3, h4⟩
      simp only at h1 h3
      subst h1 h3
      unfold F39_l0
      simp only
      by_cases hlt : i < l.length
      · have hxm := nx_mem (d := 0) hlt
        have hxp := hpos _ hxm
        rw [if_pos (decide_eq_true (by omega)), nx_get (d := 0) hlt, Option.bind_some, tmod2 hxp.1]
        rcases Nat.mod_two_eq_zero_or_one (nx 0 l i).toNat with q | q
        · rw [q, if_pos (by decide)]
          exact .inr ⟨_, rfl, .inl ⟨rfl, _, hxm, q⟩⟩
        · rw [q, if_neg (by decide)]
          left
          obtain ⟨x, hx⟩ : ∃ x : Nat, nx 0 l i = (x : Int) := ⟨(nx 0 l i).toNat, by omega⟩
          rw [hx] at hxp q
          have hcl : (l.take i).count (x : Int) ≤ 40 := by
            have := List.count_le_length (a := (x : Int)) (l := l.take i)
            rw [List.length_take] at this; omega
          rw [hx, tb_get (by omega), Option.bind_some, tb_ck (by omega), Option.bind_some, wsuc (by omega), wsuc (by omega), Int.toNat_natCast, tb_set]
          refine ⟨_, rfl, ⟨i + 1, rfl, by omega, ?_, fun y hy => ?_⟩, by simp only; omega⟩
          · simp only
            refine tb_congr fun v hv => ?_
            rw [take_snoc hlt, hx, List.count_append, List.count_cons, List.count_nil]
            by_cases e : v = x
            · subst e; rw [if_pos rfl, if_pos (by simp)]
            · rw [if_neg e, if_neg (by simp; omega)]; rfl
          · rw [take_snoc hlt, hx] at hy
            rcases List.mem_append.1 hy with g | g
            · exact h4 y g
            · rw [List.mem_singleton.1 g]; exact q
      · right
        rw [if_neg (by rw [decide_eq_true_eq]; omega)]
        have : i = l.length := by omega
        subst this
        rw [List.take_length] at h4 ⊢
        exact ⟨_, rfl, .inr ⟨rfl, h4⟩⟩) F (0, List.replicate 41 0) ⟨0, rfl, by omega, by rw [tb_rep]; exact tb_congr fun v _ => by simp, fun x hx => by simp at hx⟩ (by simp; omega)
  rw [hb]
  rcases hQ with ⟨rfl, h⟩ | ⟨rfl, h⟩
  · exact .inl ⟨h, rfl⟩
  right
  refine ⟨h, ?_⟩
  simp only [Option.bind_some]
  obtain ⟨o, ho, hU, hol⟩ := iter_inv (step := F39_l2 F (tb 41 fun v => (l.count (v : Int) : Int))) (I := fun s => ∃ x : Nat, s.2 = (x : Int) ∧ x ≤ 41 ∧ Pos s.1 ∧ s.1.Nodup ∧ (∀ y ∈ s.1, (od 6 y.toNat).1 < x) ∧ s.1.length ≤ 41 * x ∧ (∀ d : Int, S d s.1 = if d < (x : Int) then l.count d else 0)) (μ := fun s => 41 - s.2.toNat)
    (Q := fun o => Ul l o ∧ o.length ≤ 1700) (by
      rintro ⟨o, s⟩ ⟨x, h1, h2, h3, h4, h5, hol, h6⟩
      simp only at h1 h3 h4 h5 h6 hol
      subst h1
      unfold F39_l2
      simp only
      by_cases hlt : x < 41
      · left
        rw [if_pos (decide_eq_true (by omega)), tb_get (by omega), Option.bind_some]
        obtain ⟨o', e1, ⟨b, e2⟩, e3⟩ := unlike_inner F l hpos htot h x (by omega) o (by omega) (o, (x : Int)) rfl ⟨h3, h4, fun y hy => .inl (h5 y hy), fun d hd => h6 d, by rw [h6, if_neg (by omega)]; omega⟩ (by omega)
        rw [e1, Option.bind_some, wsuc (by omega)]
        refine ⟨_, rfl, ⟨x + 1, rfl, by omega, e2.pos, e2.nd, fun y hy => ?_, by simp only; omega, fun d => ?_⟩, by simp only; omega⟩
        · rcases e2.lt y hy with g | g
          · omega
          · omega
        · simp only
          by_cases e : d = (x : Int)
          · subst e
            rw [if_pos (by omega)]
            have := e2.sx
            omega
          · rw [e2.s d e]
            by_cases g : d < (x : Int)
            · rw [if_pos g, if_pos (by omega)]
            · rw [if_neg g, if_neg (by omega)]
      · right
        have : x = 41 := by omega
        subst this
        rw [if_neg (by rw [decide_eq_true_eq]; omega)]
        refine ⟨_, rfl, ⟨h3, h4, fun d => ?_⟩, by omega⟩
        rw [h6]
        split
        · rfl
        · exact (List.count_eq_zero.2 fun m => by have := hpos d m; omega).symm) F ([], 0) ⟨0, rfl, by omega, fun x hx => by simp at hx, by simp, fun y hy => by simp at hy, by simp, fun d => by
      simp only [S]
      split
      · exact (List.count_eq_zero.2 fun m => by have := hpos d m; omega).symm
      · rfl⟩ (by simp only; omega)
  rw [ho, Option.bind_some]
  have e12 : F110_111 = F110_111 := by kernel_rfl
  obtain ⟨M, m1, m2, m3⟩ := sortI F o hU.pos (by omega) (by omega)
  rw [e12, m1]
  exact ⟨M, rfl, m3, ⟨fun x hx => hU.pos x (m2.mem_iff.1 hx), m2.nodup_iff.2 hU.nd, fun d => by rw [S_perm m2]; exact hU.s d⟩, by rw [m2.length_eq]; exact hol⟩
end Go.Proofs.Ytihmliblbhjlaaa

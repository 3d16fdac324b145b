/- Sums of odd numbers, and those that are halved. -/
import Derived.Test.YtihmliblbhjlaaaPartsB
import Derived.Test.YtihmliblbhjlaaaPdiF
import Derived.Test.YtihmliblbhjlaaaPdoF
import Derived.Test.YtihmliblbhjlaaaRevLib
set_option linter.unusedVariables false
set_option linter.unusedSimpArgs false
namespace Go.Proofs.Ytihmliblbhjlaaa
open Go.Am

/-! ### The two sorts -/
theorem oddcmp (F : Nat) (x y : Int) (hx : 1 ≤ x ∧ x ≤ 40) (hy : 1 ≤ y ∧ y ≤ 40) : F111 F x y = some (y - x) := by
  unfold F111; rw [w64 (by omega) (by omega)]
theorem sortI (F : Nat) (L : List Int) (h : ∀ x ∈ L, 1 ≤ x ∧ x ≤ 40) (hl : L.length ≤ 5000) (hF : L.length + 60 ≤ F) : ∃ M, F110_111 F L = some M ∧ M.Perm L ∧ M.Pairwise fun a b => b ≤ a := by
  have hC : pdqI.Cmp (fun x => 1 ≤ x ∧ x ≤ 40) (fun x y => y - x) 0 := ⟨fun F _ x y hx hy => oddcmp F x y hx hy, fun x _ => by omega, fun x y z _ _ _ h1 h2 => by omega, fun x y _ _ h => by omega⟩
  obtain ⟨M, h1, h2, h3⟩ := pdqI.sort_eq (L := L) (F := F) hC (fun k hk => h _ (nx_mem hk)) (by omega) (by omega)
  refine ⟨M, h1, h2, List.pairwise_iff_getElem.2 fun i j hi hj hij => ?_⟩
  have := h3 i j (by omega) hij hj
  simp only [nx_eq hi, nx_eq hj] at this
  omega
theorem sortO (F : Nat) (L : List Int) (hl : L.length ≤ 5000) (hF : L.length + 60 ≤ F) : ∃ M, F114 F L = some M ∧ M.Perm L ∧ M.Pairwise fun a b => a ≤ b := by
  have hC : pdqO.Cmp (fun _ => True) (fun x y => x - y) 0 := ⟨fun F _ x y _ _ => by
    have hn : ∀ z : Int, F167 F z = some false := fun z => by unfold F167; simp
    unfold F151
    rw [hn, Option.bind_some, if_neg (by decide), Option.bind_some, Bool.false_or]
    congr 2
    exact propext ⟨fun h => by omega, fun h => by omega⟩, fun x _ => by omega, fun x y z _ _ _ h1 h2 => by omega, fun x y _ _ h => by omega⟩
  obtain ⟨M, h1, h2, h3⟩ := pdqO.sort_eq (L := L) (F := F) hC (fun k hk => trivial) (by omega) (by omega)
  refine ⟨M, h1, h2, List.pairwise_iff_getElem.2 fun i j hi hj hij => ?_⟩
  have := h3 i j (by omega) hij hj
  simp only [nx_eq hi, nx_eq hj] at this
  omega
theorem desc_eq {A B : List Int} (hA : A.Pairwise fun a b => b ≤ a) (hB : B.Pairwise fun a b => b ≤ a) (h : ∀ v, A.count v = B.count v) : A = B :=
  List.Perm.eq_of_pairwise (fun a b _ _ h1 h2 => by omega) hA hB (List.perm_iff_count.2 h)

/-! ### Odd parts -/
/-- A number's odd part, and the power of two. -/
def od : Nat → Nat → Nat × Nat
  | 0, x => (x, 1)
  | f + 1, x => if x % 2 = 0 then ((od f (x / 2)).1, 2 * (od f (x / 2)).2) else (x, 1)
def odOk (x : Nat) : Bool := x == 0 || (decide ((od 6 x).1 % 2 = 1 ∧ (od 6 x).1 * (od 6 x).2 = x ∧ 1 ≤ (od 6 x).1 ∧ 1 ≤ (od 6 x).2 ∧ (x % 2 = 0 → od 6 x = ((od 6 (x / 2)).1, 2 * (od 6 (x / 2)).2)) ∧ (x % 2 = 1 → od 6 x = (x, 1))) &&
  decide (iter (F38_l0 0) 10 ((x : Int), 1) = some (((od 6 x).1 : Int), ((od 6 x).2 : Int))))
theorem od_all : ((List.range 41).all odOk) = true := by kernel_rfl
theorem od_ok {x : Nat} (h0 : 1 ≤ x) (h : x ≤ 40) : ((od 6 x).1 % 2 = 1 ∧ (od 6 x).1 * (od 6 x).2 = x ∧ 1 ≤ (od 6 x).1 ∧ 1 ≤ (od 6 x).2 ∧ (x % 2 = 0 → od 6 x = ((od 6 (x / 2)).1, 2 * (od 6 (x / 2)).2)) ∧ (x % 2 = 1 → od 6 x = (x, 1))) ∧
    ∀ F, 10 ≤ F → iter (F38_l0 F) F ((x : Int), 1) = some (((od 6 x).1 : Int), ((od 6 x).2 : Int)) := by
  have := List.all_eq_true.1 od_all x (by simp; omega)
  unfold odOk at this
  simp only [Bool.or_eq_true, Bool.and_eq_true, decide_eq_true_eq, beq_iff_eq] at this
  rcases this with h1 | ⟨h1, h2⟩
  · omega
  · exact ⟨h1, fun F hF => iter_le (fun s => Le.refl _) hF h2⟩
def w (d x : Int) : Nat := if ((od 6 x.toNat).1 : Int) = d then (od 6 x.toNat).2 else 0
def S (d : Int) : List Int → Nat
  | [] => 0
  | x :: r => w d x + S d r
theorem S_app (d : Int) : ∀ A B, S d (A ++ B) = S d A + S d B
  | [], B => by simp [S]
  | x :: A, B => by simp only [List.cons_append, S, S_app d A B]; omega
theorem S_perm {d : Int} {A B : List Int} (h : A.Perm B) : S d A = S d B := by
  induction h with
  | nil => rfl
  | cons x _ ih => simp only [S, ih]
  | swap x y l => simp only [S]; omega
  | trans _ _ h1 h2 => rw [h1, h2]
def tot : List Int → Int
  | [] => 0
  | x :: r => x + tot r
theorem tot_app : ∀ A B, tot (A ++ B) = tot A + tot B
  | [], B => by simp [tot]
  | x :: A, B => by simp only [List.cons_append, tot, tot_app A B]; omega
theorem tot_perm {A B : List Int} (h : A.Perm B) : tot A = tot B := by
  induction h with
  | nil => rfl
  | cons x _ ih => simp only [tot, ih]
  | swap x y l => simp only [tot]; omega
  | trans _ _ h1 h2 => rw [h1, h2]
theorem tot_take (L : List Int) : ∀ i, i ≤ L.length → tot (L.take i) = sm i (nx 0 L)
  | 0, _ => rfl
  | i + 1, h => by
    rw [List.take_add_one, List.getElem?_eq_getElem (by omega), tot_app, tot_take L i (by omega), sm_succ, nx_eq (by omega)]
    simp [tot]
def Pos (L : List Int) : Prop := ∀ x ∈ L, 1 ≤ x ∧ x ≤ 40
theorem tot_len : ∀ {L : List Int}, Pos L → (L.length : Int) ≤ tot L
  | [], _ => Int.le_refl _
  | x :: L, h => by
    have := tot_len (L := L) fun y hy => h y (by simp [hy])
    have := h x (by simp)
    simp only [tot, List.length_cons]; omega
theorem tot_mono {L : List Int} (h : Pos L) {i : Nat} : tot (L.take i) ≤ tot L := by
  have e := tot_app (L.take i) (L.drop i)
  rw [List.take_append_drop] at e
  have := tot_len (L := L.drop i) fun x hx => h x (List.mem_of_mem_drop hx)
  omega
theorem Part.list {l : List Int} (h : Part l) : Pos l ∧ tot l ≤ 40 := by
  refine ⟨fun x hx => ?_, ?_⟩
  · obtain ⟨i, hi, rfl⟩ := nx_of (d := 0) hx
    exact h.pos i hi
  · have := tot_take l l.length (Nat.le_refl _)
    rw [List.take_length] at this
    rw [this]; exact h.sum
theorem w_even {d x : Int} (h1 : 1 ≤ x) (h2 : x ≤ 40) (he : x.toNat % 2 = 0) : w d x = 2 * w d ((x.toNat / 2 : Nat) : Int) := by
  obtain ⟨⟨_, _, _, _, h, _⟩, _⟩ := od_ok (x := x.toNat) (by omega) (by omega)
  unfold w
  rw [h he, Int.toNat_natCast]
  simp only
  split <;> omega
theorem w_odd {d x : Int} (h1 : 1 ≤ x) (h2 : x ≤ 40) (he : x.toNat % 2 = 1) : w d x = if x = d then 1 else 0 := by
  obtain ⟨⟨_, _, _, _, _, h⟩, _⟩ := od_ok (x := x.toNat) (by omega) (by omega)
  unfold w
  rw [h he]
  simp only
  rw [show ((x.toNat : Nat) : Int) = x from by omega]
theorem tmod2 {x : Int} (h : 1 ≤ x) : Int.tmod x 2 = ((x.toNat % 2 : Nat) : Int) := by
  obtain ⟨n, rfl⟩ : ∃ n : Nat, x = (n : Int) := ⟨x.toNat, by omega⟩
  rw [Int.toNat_natCast]; rfl
theorem tdiv2 {x : Int} (h : 1 ≤ x) : Int.tdiv x 2 = ((x.toNat / 2 : Nat) : Int) := by
  obtain ⟨n, rfl⟩ : ∃ n : Nat, x = (n : Int) := ⟨x.toNat, by omega⟩
  rw [Int.toNat_natCast]; rfl
theorem take_snoc {L : List Int} {i : Nat} (h : i < L.length) : L.take (i + 1) = L.take i ++ [nx 0 L i] := by
  rw [List.take_add_one, List.getElem?_eq_getElem h, nx_eq h]; rfl

/-! ### Halved -/
/-- What is known of a list with the halves of T. -/
structure Hal (T r : List Int) : Prop where
  cnt : ∀ d, r.count d = S d T
  len : (r.length : Int) ≤ tot T
  pos : Pos r
theorem Hal.nil : Hal [] [] := ⟨fun _ => rfl, Int.le_refl _, fun x hx => by simp at hx⟩
theorem Hal.app {T r T' r' : List Int} (h : Hal T r) (k : Hal T' r') : Hal (T ++ T') (r ++ r') :=
  ⟨fun d => by rw [List.count_append, S_app, h.cnt, k.cnt], by rw [List.length_append, tot_app]; have := h.len; have := k.len; omega, fun x hx => by
    rcases List.mem_append.1 hx with q | q
    · exact h.pos x q
    · exact k.pos x q⟩
theorem Hal.perm {T r r' : List Int} (h : Hal T r) (hp : r'.Perm r) : Hal T r' :=
  ⟨fun d => by rw [hp.count_eq, h.cnt], by rw [hp.length_eq]; exact h.len, fun x hx => h.pos x (hp.mem_iff.1 hx)⟩
theorem halved_eq (K : Nat) (hK : 200 ≤ K) : ∀ (e : Nat) (T : List Int), Pos T → tot T ≤ 40 → (∀ x ∈ T, x < (2 ^ e : Nat)) → ∃ r, F46 (K + e + 1) T = some r ∧ (r.Pairwise fun a b => b ≤ a) ∧ Hal T r := by
  intro e
  induction e with
  | zero =>
    intro T hp ht hx
    have hT : T = [] := by
      cases T with
      | nil => rfl
      | cons x T => have := hx x (by simp); have := hp x (by simp); simp at *; omega
    subst hT
    obtain ⟨G, hG⟩ : ∃ G, K + 0 = G + 1 := ⟨K - 1, by omega⟩
    rw [hG, F46]
    have h0 : F46_l0 (G + 1) [] (F46 (G + 1)) ([], 0) = some (.stop []) := rfl
    rw [iter_stop h0, Option.bind_some]
    obtain ⟨M, m1, m2, m3⟩ := sortO (G + 1) [] (by simp) (by simp; omega)
    rw [m1, Option.bind_some, reverse_eq _ _ (by rw [m2.length_eq]; simp; omega) (by rw [m2.length_eq]; simp), Option.bind_some]
    refine ⟨_, rfl, ?_, Hal.nil.perm ((List.reverse_perm M).trans m2)⟩
    rw [List.pairwise_reverse]; exact m3
  | succ e ih =>
    intro T hp ht hx
    have hlen := tot_len hp
    rw [show K + (e + 1) + 1 = (K + e + 1) + 1 from by omega, F46]
    obtain ⟨b, hb, hQ⟩ := iter_inv (step := F46_l0 (K + e + 1) T (F46 (K + e + 1))) (I := fun s => ∃ i : Nat, s.2 = (i : Int) ∧ i ≤ T.length ∧ Hal (T.take i) s.1) (μ := fun s => T.length - s.2.toNat) (Q := fun b => Hal T b) (by
      rintro ⟨o, s⟩ ⟨i, h1, h2, h3⟩
      simp only at h1 h3
      subst h1
      unfold F46_l0
      simp only
      by_cases hlt : i < T.length
      · left
        have hxp := hp _ (nx_mem (d := 0) hlt)
        have hxe := hx _ (nx_mem (d := 0) hlt)
        have h3l := h3.len
        have htm := tot_mono hp (i := i)
        rw [if_pos (decide_eq_true (by omega)), nx_get (d := 0) hlt, Option.bind_some, tmod2 hxp.1]
        have hdone : ∀ r', Hal [nx 0 T i] r' → ∃ s', (app? o r').bind (fun L34 => some (Stp.more (β := List Int) (L34, (wrapA .i64 ((i : Int) + 1))))) = some (.more s') ∧ (∃ i : Nat, s'.2 = (i : Int) ∧ i ≤ T.length ∧ Hal (T.take i) s'.1) ∧ T.length - s'.2.toNat < T.length - (i : Int).toNat := by
          intro r' hr
          have := hr.len
          simp only [tot] at this
          rw [app?_ok (by omega), Option.bind_some, wsuc (by omega)]
          exact ⟨_, rfl, ⟨i + 1, rfl, by omega, by rw [take_snoc hlt]; exact h3.app hr⟩, by simp only; omega⟩
        rcases Nat.mod_two_eq_zero_or_one (nx 0 T i).toNat with q | q
        · rw [q, if_neg (by decide), tdiv2 hxp.1, wnat (by omega)]
          obtain ⟨r', e1, _, e3⟩ := ih [(((nx 0 T i).toNat / 2 : Nat) : Int), (((nx 0 T i).toNat / 2 : Nat) : Int)] (fun x hx => by
            have : x = (((nx 0 T i).toNat / 2 : Nat) : Int) := by simpa using hx
            omega) (by simp only [tot]; omega) (fun x hx => by
            have : x = (((nx 0 T i).toNat / 2 : Nat) : Int) := by simpa using hx
            rw [Nat.pow_succ] at hxe
            omega)
          rw [e1, Option.bind_some]
          exact hdone r' ⟨fun d => by rw [e3.cnt]; simp only [S]; rw [w_even hxp.1 hxp.2 q]; omega, by have := e3.len; simp only [tot] at this ⊢; omega, e3.pos⟩
        · rw [q, if_pos (by decide)]
          refine hdone _ ⟨fun d => ?_, by simp only [tot, List.length_cons, List.length_nil]; omega, fun x hx => by rw [List.mem_singleton.1 hx]; exact hxp⟩
          simp only [S, List.count_cons, List.count_nil, w_odd hxp.1 hxp.2 q, beq_iff_eq]
          omega
      · right
        rw [if_neg (by rw [decide_eq_true_eq]; omega)]
        exact ⟨_, rfl, by rw [show i = T.length from by omega, List.take_length] at h3; exact h3⟩) (K + e + 1) ([], 0) ⟨0, rfl, by omega, Hal.nil⟩ (by simp; omega)
    rw [hb, Option.bind_some]
    have hbl := hQ.len
    obtain ⟨M, m1, m2, m3⟩ := sortO (K + e + 1) b (by omega) (by omega)
    rw [m1, Option.bind_some, reverse_eq _ _ (by rw [m2.length_eq]; omega) (by rw [m2.length_eq]; omega), Option.bind_some]
    refine ⟨_, rfl, ?_, hQ.perm ((List.reverse_perm M).trans m2)⟩
    rw [List.pairwise_reverse]; exact m3
end Go.Proofs.Ytihmliblbhjlaaa

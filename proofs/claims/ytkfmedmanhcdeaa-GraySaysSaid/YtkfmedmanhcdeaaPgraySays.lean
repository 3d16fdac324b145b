/- What the functional texts of package gray answer. -/
import Derived.Test.YtkfmedmanhcdeaaDef
import Derived.Test.YtkfmedmanhcdeaaPure
import Derived.Test.YtkfmedmanhcdeaaPgrayB
import Derived.KernelRfl
namespace Go.Proofs.Ytkfmedmanhcdeaa
open Go.Am
theorem gr_lt {a : Nat} (h : a < 65536) : gr a < 65536 := xor_lt16 h (by omega)

theorem F18_eq (F a : Nat) (ha : a < 65536) : F18 F a = some (gr a : Int) := by
  unfold F18
  rw [show (1 : Int) = ((1 : Nat) : Int) from rfl, shr_nat a 1 (by decide)]
  simp only [Option.bind_some, Nat.pow_one]
  rw [xor_nat ha (by omega)]; rfl

theorem st_lt {a k : Nat} (h : a < 65536) : st a k < 65536 := xor_lt16 h (Nat.lt_of_le_of_lt (Nat.div_le_self _ _) h)

theorem F17_step (F a k : Nat) (ha : a < 65536) (hk : k < 16) : F17_l0 F (a, k) = some (.more ((st a k : Nat), ((k * 2 : Nat) : Int))) := by
  unfold F17_l0
  simp only
  rw [if_pos (by simp; omega), shr_nat a k (by show k ≤ 16; omega)]
  simp only [Option.bind_some]
  rw [xor_nat ha (Nat.lt_of_le_of_lt (Nat.div_le_self _ _) ha), w64 (by omega) (by omega)]
  rfl
theorem F17_eq (F a : Nat) (ha : a < 65536) : F17 (F + 5) a = some (back a : Int) := by
  unfold F17
  have h1 := F17_step (F + 5) a 1 ha (by decide)
  have h2 := F17_step (F + 5) (st a 1) 2 (st_lt ha) (by decide)
  have h3 := F17_step (F + 5) (st (st a 1) 2) 4 (st_lt (st_lt ha)) (by decide)
  have h4 := F17_step (F + 5) (st (st (st a 1) 2) 4) 8 (st_lt (st_lt (st_lt ha))) (by decide)
  have h5 : F17_l0 (F + 5) ((back a : Nat), ((16 : Nat) : Int)) = some (.stop ((back a : Nat) : Int)) := by
    unfold F17_l0; simp
  rw [show ((a : Int), (1 : Int)) = ((a : Int), ((1 : Nat) : Int)) from rfl, iter_more h1, iter_more h2, iter_more h3, iter_more h4]
  exact congrArg (fun o => Option.bind o fun b9 => some b9) (iter_stop (f := F) h5)

theorem F15_loop (F : Nat) : ∀ (f a n : Nat), a < 2 ^ f → f ≤ 16 → n + f ≤ 100 → ∀ G, f < G → iter (F15_l0 F) G ((a : Int), (n : Int)) = some ((n + tz f a : Nat) : Int) := by
  intro f
  induction f with
  | zero =>
    intro a n ha _ _ G hG
    obtain ⟨G, rfl⟩ : ∃ q, G = q + 1 := ⟨G - 1, by omega⟩
    have : a = 0 := by simpa using ha
    subst this
    refine iter_stop ?_
    unfold F15_l0
    rw [show (1 : Int) = ((1 : Nat) : Int) from rfl]
    simp only
    rw [and_nat (by omega) (by omega)]
    simp [tz]
  | succ f ih =>
    intro a n ha hf hn G hG
    obtain ⟨G, rfl⟩ : ∃ q, G = q + 1 := ⟨G - 1, by omega⟩
    have hp : 2 ^ (f + 1) ≤ 65536 := Nat.pow_le_pow_right (by omega : 0 < 2) hf
    have hand : bit .and .u16 (a : Int) 1 = ((a % 2 : Nat) : Int) := by
      rw [show (1 : Int) = ((1 : Nat) : Int) from rfl, and_nat (by omega) (by omega), Nat.and_one_is_mod]
    by_cases h1 : a % 2 = 1
    · have hs : F15_l0 F ((a : Int), (n : Int)) = some (.more (((a / 2 : Nat) : Int), ((n + 1 : Nat) : Int))) := by
        unfold F15_l0
        simp only [hand, h1]
        rw [if_pos (by decide), show (2 : Int) = ((2 : Nat) : Int) from rfl, tdiv_nat, wu16 (by omega) (by omega), w64 (by omega) (by omega)]
        rfl
      rw [iter_more hs, ih (a / 2) (n + 1) (by rw [Nat.pow_succ] at ha; omega) (by omega) (by omega) G (by omega)]
      simp only [tz, h1, if_true]
      congr 2; omega
    · refine iter_stop ?_
      unfold F15_l0
      simp only [hand]
      rw [if_neg (by simp; omega)]
      simp only [tz, h1, if_false]; rfl
theorem F15_eq (F a : Nat) (ha : a < 65535) : F15 (F + 17) a = some ((tz 16 a : Int), 0) := by
  unfold F15
  rw [if_neg (by simp; omega), show (0 : Int) = ((0 : Nat) : Int) from rfl, F15_loop (F + 17) 16 a 0 (by omega) (by omega) (by omega) _ (by omega)]
  simp

def G (k : Nat) : List Int := (List.range (2 ^ k)).map fun i => (gr i : Int)
theorem G_len (k : Nat) : (G k).length = 2 ^ k := by simp [G]
theorem G_get (k i : Nat) (h : i < 2 ^ k) : at? (G k) (i : Int) = some (gr i : Int) := by
  rw [at?_in (by rw [G_len]; exact h)]; simp [G]

def chkW : Bool := (List.range 10).all fun k => (List.range (2 ^ k)).all fun j => (gr (2 ^ k - 1 - j) ||| 2 ^ k) == gr (2 ^ k + j)
theorem chkW_ok : chkW = true := by kernel_rfl
theorem gr_flip (k j : Nat) (hk : k < 10) (hj : j < 2 ^ k) : (gr (2 ^ k - 1 - j) ||| 2 ^ k) = gr (2 ^ k + j) := by
  have := chkW_ok
  simp only [chkW, List.all_eq_true, List.mem_range] at this
  simpa using this k hk j hj

theorem F16_inner (F k : Nat) (l : List Int) (hk : k < 10) (GG : Nat) (hG : 1024 < GG) : iter (F16_l0 F (l, (k : Int))) GG (G k, ((2 ^ k : Nat) : Int) - 1) = some (G (k + 1)) := by
  have hp0 := Nat.two_pow_pos k
  have hp : 2 ^ k ≤ 512 := Nat.pow_le_pow_right (by omega : 0 < 2) (by omega : k ≤ 9)
  have := iter_count (step := F16_l0 F (l, (k : Int))) (b := G (k + 1)) (F := GG) (fun j => (G k ++ (List.range j).map (fun i => (gr (2 ^ k + i) : Int)), ((2 ^ k : Nat) : Int) - 1 - (j : Int))) (2 ^ k) ?_ ?_ (by omega)
  · simpa using this
  · intro j hj
    unfold F16_l0
    simp only
    have e1 : ((2 ^ k : Nat) : Int) - 1 - (j : Int) = ((2 ^ k - 1 - j : Nat) : Int) := by omega
    have hsh : shl? .u16 1 (k : Int) = some ((2 ^ k : Nat) : Int) := by
      unfold shl?
      rw [if_neg (by omega), show ((k : Int).toNat) = k from rfl, Nat.min_eq_left (by show k ≤ 16; omega), Int.one_mul, show ((2 : Int) ^ k) = ((2 ^ k : Nat) : Int) by simp, wu16 (by omega) (by omega)]
    have hat : at? (G k ++ (List.range j).map (fun i => (gr (2 ^ k + i) : Int))) ((2 ^ k - 1 - j : Nat) : Int) = some (gr (2 ^ k - 1 - j) : Int) := by
      have h1 := G_get k (2 ^ k - 1 - j) (by omega)
      have h2 := at?_some h1
      unfold at?
      rw [if_pos (by omega), Int.toNat_natCast, List.getElem?_append_left (by rw [G_len]; omega)]
      simpa using h2.2.2
    rw [e1, if_pos (decide_eq_true (by omega)), hat]
    simp only [Option.bind_some, hsh]
    rw [or_nat (gr_lt (by omega)) (by omega), gr_flip k j hk hj, app?_ok (by simp [G_len]; omega)]
    simp only [Option.bind_some]
    rw [w64 (by omega) (by omega), List.range_succ, List.map_append, List.append_assoc]
    simp only [List.map_cons, List.map_nil]
    congr 3
    omega
  · unfold F16_l0
    simp only
    rw [if_neg (by simp; omega)]
    congr 2
    unfold G
    rw [Nat.pow_succ, Nat.mul_two, List.range_add, List.map_append, List.map_map]
    rfl
theorem F16_eq (n : Nat) (hn : n ≤ 10) : F16 3000 n = some (G n, 0) := by
  unfold F16
  rw [if_neg (by simp; omega)]
  have := iter_count (step := F16_l1 3000 n) (b := G n) (F := 3000) (fun k => (G k, (k : Int))) n ?_ ?_ (by omega)
  · rw [show (([0] : List Int), (0 : Int)) = (G 0, ((0 : Nat) : Int)) from rfl, this]; rfl
  · intro k hk
    have hp0 := Nat.two_pow_pos k
    have hp : 2 ^ k ≤ 512 := Nat.pow_le_pow_right (by omega : 0 < 2) (by omega : k ≤ 9)
    unfold F16_l1
    simp only
    rw [if_pos (by simp; omega), G_len, w64 (by omega) (by omega), F16_inner 3000 k _ (by omega) 3000 (by omega)]
    simp only [Option.bind_some]
    rw [w64 (by omega) (by omega)]; rfl
  · unfold F16_l1
    simp only
    rw [if_neg (by simp)]

theorem F3_loop (r : List Int × Int) (n : Nat) (hn : n ≤ 10) (hr : r.1 = G n) : iter (F3_l0 3000 r) 3000 0 = some (.inl ()) := by
  have hp0 := Nat.two_pow_pos n
  have hp : 2 ^ n ≤ 1024 := Nat.pow_le_pow_right (by omega : 0 < 2) (by omega : n ≤ 10)
  refine iter_count (step := F3_l0 3000 r) (fun j => (j : Int)) (2 ^ n) ?_ ?_ (by omega)
  · intro j hj
    unfold F3_l0
    rw [hr, G_len, if_pos (decide_eq_true (by omega)), G_get n j hj]
    simp only [Option.bind_some]
    rw [wu16 (by omega) (by omega), show (2 : Int) = ((2 : Nat) : Int) from rfl, tdiv_nat, wu16 (by omega) (by omega), xor_nat (by omega) (by omega), if_neg (by simp [gr]), w64 (by omega) (by omega)]
    rfl
  · unfold F3_l0
    rw [hr, G_len, if_neg (by simp)]

theorem PgraySays.holds (t0 : Int) (t1 : Int) (h0 : inR .u16 t0) (h1 : inR .i64 t1) : ∃ F, F3 F t0 t1 = some true := by
  refine ⟨3000, ?_⟩
  have h0 := inR16 h0
  obtain ⟨a, rfl⟩ : ∃ a : Nat, t0 = a := ⟨t0.toNat, by omega⟩
  have ha : a < 65536 := by omega
  have hc := all2_ok chk1_ok a ha
  simp only [chk1, Bool.and_eq_true, Bool.or_eq_true, Nat.beq_eq, Nat.ble_eq] at hc
  obtain ⟨hc1, hc2⟩ := hc
  have hback : back a < 65536 := st_lt (st_lt (st_lt (st_lt ha)))
  have e17 := F17_eq 2995 a ha
  have e18 := F18_eq 3000 a ha
  have hd : wrapA .u16 (Int.tdiv (a : Int) 2) = ((a / 2 : Nat) : Int) := by
    rw [show (2 : Int) = ((2 : Nat) : Int) from rfl, tdiv_nat, wu16 (by omega) (by omega)]
  have hg : bit .xor .u16 (a : Int) ((a / 2 : Nat) : Int) = (gr a : Int) := xor_nat ha (by omega)
  have hd2 : wrapA .u16 (Int.tdiv (back a : Int) 2) = ((back a / 2 : Nat) : Int) := by
    rw [show (2 : Int) = ((2 : Nat) : Int) from rfl, tdiv_nat, wu16 (by omega) (by omega)]
  have hg2 : bit .xor .u16 (back a : Int) ((back a / 2 : Nat) : Int) = (a : Int) := by
    rw [xor_nat hback (by omega)]; exact congrArg _ hc1
  -- Bit
  obtain ⟨r1, e15, hr1⟩ : ∃ r1, F15 3000 (a : Int) = some r1 ∧ (a = 65535 ∧ r1 = (0, 4) ∨ a < 65535 ∧ r1 = ((tz 16 a : Int), 0)) := by
    by_cases e : a = 65535
    · subst e; exact ⟨_, rfl, .inl ⟨rfl, rfl⟩⟩
    · exact ⟨_, F15_eq 2983 a (by omega), .inr ⟨by omega, rfl⟩⟩
  -- Walk
  obtain ⟨r5, e16, hr5⟩ : ∃ r5, F16 3000 t1 = some r5 ∧ ((t1 < 0 ∨ t1 > 10) ∧ r5 = ([], 1) ∨ ∃ n : Nat, t1 = n ∧ n ≤ 10 ∧ r5 = (G n, 0)) := by
    by_cases e : t1 < 0 ∨ t1 > 10
    · refine ⟨([], 1), ?_, .inl ⟨e, rfl⟩⟩
      unfold F16
      rw [if_pos (by simpa using e)]
    · obtain ⟨n, rfl⟩ : ∃ n : Nat, t1 = n := ⟨t1.toNat, by omega⟩
      exact ⟨_, F16_eq n (by omega), .inr ⟨n, rfl, by omega, rfl⟩⟩
  unfold F3
  rw [e15, e16, e17, e18]
  simp only [Option.bind_some, hd, hg, hd2, hg2]
  rw [if_neg (by simp)]
  have hmid : (if ((a : Int) == 65535) = true then if (r1.2 != 4 || r1.1 != 0) = true then some (Sum.inr false) else some (Sum.inl ())
      else Option.bind (if (r1.2 != 0 || decide (r1.1 < 0) || decide (r1.1 > 15)) = true then some true else
        (shl? .u16 1 r1.1).bind fun x26 => some (bit .xor .u16 (gr a : Int) x26 != bit .xor .u16 (wrapA .u16 ((a : Int) + 1)) (wrapA .u16 (Int.tdiv (wrapA .u16 ((a : Int) + 1)) 2))))
        fun y29 => if y29 = true then some (Sum.inr false) else some (Sum.inl ())) = some (Sum.inl () : Unit ⊕ Bool) := by
    rcases hr1 with ⟨rfl, rfl⟩ | ⟨hlt, rfl⟩
    · rfl
    · have hc3 := hc2.resolve_left (by omega)
      have hpw0 := Nat.two_pow_pos (tz 16 a)
      have hpw : 2 ^ tz 16 a ≤ 32768 := Nat.pow_le_pow_right (by omega : 0 < 2) (hc3.1 : tz 16 a ≤ 15)
      have hsh : shl? .u16 1 (tz 16 a : Int) = some ((2 ^ tz 16 a : Nat) : Int) := by
        unfold shl?
        rw [if_neg (by omega), Int.toNat_natCast, Nat.min_eq_left (by have := hc3.1; show tz 16 a ≤ 16; omega), Int.one_mul, show ((2 : Int) ^ tz 16 a) = ((2 ^ tz 16 a : Nat) : Int) by simp, wu16 (by omega) (by omega)]
      rw [if_neg (by simp; omega)]
      simp only [hsh, Option.bind_some]
      rw [if_neg (by simp; omega), xor_nat (gr_lt ha) (by omega), hc3.2, wu16 (by omega) (by omega), show (a : Int) + 1 = ((a + 1 : Nat) : Int) from rfl, show (2 : Int) = ((2 : Nat) : Int) from rfl, tdiv_nat, wu16 (by omega) (by omega), xor_nat (by omega) (by omega)]
      simp [gr]
  rw [hmid]
  simp only [Option.bind_some]
  rcases hr5 with ⟨hout, rfl⟩ | ⟨n, rfl, hn, rfl⟩
  · rw [if_pos (by simpa using hout)]; rfl
  · have hp0 := Nat.two_pow_pos n
    have hp : 2 ^ n ≤ 1024 := Nat.pow_le_pow_right (by omega : 0 < 2) (by omega : n ≤ 10)
    have hsh : shl? .i64 1 (n : Int) = some ((2 ^ n : Nat) : Int) := by
      unfold shl?
      rw [if_neg (by omega), Int.toNat_natCast, Nat.min_eq_left (by show n ≤ 64; omega), Int.one_mul, show ((2 : Int) ^ n) = ((2 ^ n : Nat) : Int) by simp, w64 (by omega) (by omega)]
    rw [if_neg (by simp; omega), hsh]
    simp only [Option.bind_some, G_len]
    rw [F3_loop (G n, 0) n hn rfl]
    simp
end Go.Proofs.Ytkfmedmanhcdeaa

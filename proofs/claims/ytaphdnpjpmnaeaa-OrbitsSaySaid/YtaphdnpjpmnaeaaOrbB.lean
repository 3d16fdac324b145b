/- What some orders make: products from the left and from the right, and how many there can be. -/
import Derived.Test.YtaphdnpjpmnaeaaOrbA
set_option linter.unusedVariables false
set_option linter.unusedSimpArgs false
namespace Go.Proofs.Ytaphdnpjpmnaeaa.orb
open Go.Am

/-- An order of n. -/
structure Od (n : Nat) (p : List Int) : Prop where
  gd : GoodP p
  ln : p.length = n
def mulP (p q : List Int) : List Int := tb q.length fun i => (pf p (pf q i) : Int)
def idP (n : Nat) : List Int := tb n fun i => (i : Int)
section
variable {n : Nat} {p q r : List Int} {l : List (List Int)}
theorem Od.pf (h : Od n p) {i : Nat} (hi : i < n) : nx 0 p i = (Go.Proofs.Ytaphdnpjpmnaeaa.pf p i : Int) ∧ Go.Proofs.Ytaphdnpjpmnaeaa.pf p i < n := by
  have := pf_spec h.gd (i := i) (by rw [h.ln]; exact hi)
  rw [h.ln] at this; exact this
theorem mul_len : (mulP p q).length = q.length := tb_len _ _
theorem pf_mul (h : Od n q) {i : Nat} (hi : i < n) : pf (mulP p q) i = pf p (pf q i) := by
  unfold mulP
  show (nx (0 : Int) (tb q.length _) i).toNat = _
  rw [tb_nx (by rw [h.ln]; exact hi)]; rfl
theorem pf_id {i : Nat} (hi : i < n) : pf (idP n) i = i := by
  show (nx (0 : Int) (tb n _) i).toNat = _
  rw [tb_nx hi]; rfl
theorem Od.ext (h : Od n p) (g : Od n q) (e : ∀ i, i < n → Go.Proofs.Ytaphdnpjpmnaeaa.pf p i = Go.Proofs.Ytaphdnpjpmnaeaa.pf q i) : p = q := by
  rw [nx_tb 0 p, nx_tb 0 q, h.ln, g.ln]
  exact tb_congr fun i hi => by rw [(h.pf hi).1, (g.pf hi).1, e i hi]
theorem od_tb {f : Nat → Nat} (h1 : ∀ i, i < n → f i < n) (h2 : ∀ i j, i < n → j < n → f i = f j → i = j) : Od n (tb n fun i => (f i : Int)) := by
  refine ⟨⟨?_, fun x hx => ?_⟩, tb_len _ _⟩
  · rw [List.nodup_iff_pairwise_ne, List.pairwise_iff_getElem]
    intro i j hi hj hij e
    rw [tb_len] at hi hj
    have e1 : nx 0 (tb n fun i => (f i : Int)) i = nx 0 (tb n fun i => (f i : Int)) j := by rw [nx_eq (by rw [tb_len]; exact hi), nx_eq (by rw [tb_len]; exact hj)]; exact e
    rw [tb_nx hi, tb_nx hj] at e1
    have := h2 i j hi hj (by omega)
    omega
  · obtain ⟨i, hi, rfl⟩ := tb_mem hx
    rw [tb_len]
    have := h1 i hi
    omega
theorem od_id (n : Nat) : Od n (idP n) := od_tb (fun i hi => hi) fun i j _ _ e => e
theorem Od.mul (h : Od n p) (g : Od n q) : Od n (mulP p q) := by
  unfold mulP
  rw [g.ln]
  refine od_tb (fun i hi => (h.pf (g.pf hi).2).2) fun i j hi hj e => ?_
  have h1 := pf_inj h.gd (by rw [h.ln]; exact (g.pf hi).2) (by rw [h.ln]; exact (g.pf hj).2) e
  exact pf_inj g.gd (by rw [g.ln]; exact hi) (by rw [g.ln]; exact hj) h1
theorem mul_assoc' (h : Od n p) (g : Od n q) (k : Od n r) : mulP (mulP p q) r = mulP p (mulP q r) :=
  ((h.mul g).mul k).ext (h.mul (g.mul k)) fun i hi => by
    rw [pf_mul k hi, pf_mul g (k.pf hi).2, pf_mul (g.mul k) hi, pf_mul k hi]
theorem id_mul (h : Od n p) : mulP (idP n) p = p :=
  ((od_id n).mul h).ext h fun i hi => by rw [pf_mul h hi, pf_id (h.pf hi).2]
theorem mul_id (h : Od n p) : mulP p (idP n) = p :=
  (h.mul (od_id n)).ext h fun i hi => by rw [pf_mul (od_id n) hi, pf_id hi]

/-- Made by products from the left. -/
inductive Rch (n : Nat) (l : List (List Int)) : List Int → Prop
  | one : Rch n l (idP n)
  | mul (p g : List Int) : p ∈ l → Rch n l g → Rch n l (mulP p g)
/-- Made by products from the right. -/
inductive RchR (n : Nat) (l : List (List Int)) : List Int → Prop
  | one : RchR n l (idP n)
  | mul (g p : List Int) : p ∈ l → RchR n l g → RchR n l (mulP g p)
theorem Rch.od (hl : ∀ p ∈ l, Od n p) {g : List Int} (h : Rch n l g) : Od n g := by
  induction h with
  | one => exact od_id n
  | mul p g hp _ ih => exact (hl p hp).mul ih
theorem RchR.od (hl : ∀ p ∈ l, Od n p) {g : List Int} (h : RchR n l g) : Od n g := by
  induction h with
  | one => exact od_id n
  | mul g p hp _ ih => exact ih.mul (hl p hp)
theorem Rch.right (hl : ∀ p ∈ l, Od n p) {g : List Int} (h : Rch n l g) : ∀ {p}, p ∈ l → Rch n l (mulP g p) := by
  induction h with
  | one => intro p hp; rw [id_mul (hl p hp), ← mul_id (hl p hp)]; exact .mul _ _ hp .one
  | mul q g hq hg ih => intro p hp; rw [mul_assoc' (hl q hq) (hg.od hl) (hl p hp)]; exact .mul _ _ hq (ih hp)
theorem RchR.left (hl : ∀ p ∈ l, Od n p) {g : List Int} (h : RchR n l g) : ∀ {p}, p ∈ l → RchR n l (mulP p g) := by
  induction h with
  | one => intro p hp; rw [mul_id (hl p hp), ← id_mul (hl p hp)]; exact .mul _ _ hp .one
  | mul g q hq hg ih => intro p hp; rw [← mul_assoc' (hl p hp) (hg.od hl) (hl q hq)]; exact .mul _ _ hq (ih hp)
theorem rch_iff (hl : ∀ p ∈ l, Od n p) (g : List Int) : Rch n l g ↔ RchR n l g := by
  constructor
  · intro h
    induction h with
    | one => exact .one
    | mul p g hp _ ih => exact ih.left hl hp
  · intro h
    induction h with
    | one => exact .one
    | mul g p hp _ ih => exact ih.right hl hp

/-! ### How many there can be -/
def allT (n : Nat) : Nat → List (List Int)
  | 0 => [[]]
  | k + 1 => (rangeI n).flatMap fun a => (allT n k).map (a :: ·)
theorem flatMap_len {α β : Type} {f : α → List β} {c : Nat} : ∀ {L : List α}, (∀ x ∈ L, (f x).length = c) → (L.flatMap f).length = L.length * c
  | [], _ => by simp
  | x :: L, h => by
    rw [List.flatMap_cons, List.length_append, h x (by simp), flatMap_len (fun y hy => h y (by simp [hy])), List.length_cons, Nat.add_mul, Nat.one_mul, Nat.add_comm]
theorem allT_len (n : Nat) : ∀ k, (allT n k).length = n ^ k
  | 0 => rfl
  | k + 1 => by
    unfold allT
    rw [flatMap_len (c := n ^ k) (fun x _ => by rw [List.length_map, allT_len n k]), Nat.pow_succ, Nat.mul_comm]
    simp [rangeI]
theorem mem_allT (n : Nat) : ∀ (k : Nat) (p : List Int), p.length = k → (∀ x ∈ p, 0 ≤ x ∧ x < n) → p ∈ allT n k
  | 0, [], _, _ => by simp [allT]
  | k + 1, a :: p, h, hx => by
    unfold allT
    rw [List.mem_flatMap]
    exact ⟨a, mem_rangeI.2 (hx a (by simp)), List.mem_map.2 ⟨p, mem_allT n k p (by simpa using h) fun x hq => hx x (by simp [hq]), rfl⟩⟩
theorem few (hn : n ≤ 6) {L : List (List Int)} (hd : L.Nodup) (h : ∀ x ∈ L, Od n x) : L.length ≤ 46656 := by
  have h1 := nodup_len (q := allT n n) hd fun x hx => mem_allT n n x (h x hx).ln fun y hy => by have := (h x hx).gd.2 y hy; rw [(h x hx).ln] at this; exact this
  rw [allT_len] at h1
  have : ∀ m, m < 7 → m ^ m ≤ 46656 := by decide
  have := this n (by omega)
  omega
end
end Go.Proofs.Ytaphdnpjpmnaeaa.orb

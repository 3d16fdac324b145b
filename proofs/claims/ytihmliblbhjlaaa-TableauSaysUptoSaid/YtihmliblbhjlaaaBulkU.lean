/- A law's arguments, read as data, with their bulk. -/
import Derived.Test.YtihmliblbhjlaaaRows
import Derived.Test.YtihmliblbhjlaaaDenC
set_option linter.unusedVariables false
set_option linter.unusedSimpArgs false
namespace Go.Proofs.Ytihmliblbhjlaaa
open Go.Am Go.ChangeShapes Go.WideShapes Go.RowKit

/-- A type's data are read as A's, and are V; their bulk is no less than b tells. -/
def RdrU {α : Type} (P : Program) (t : TypeId) (A : Lay α) (V : α → Prop) (b : α → Nat) : Prop :=
  ∀ {H : Type} (enc : TypeId × Value → H) (W : World) (fuel : Nat) (cs : List Value) (x : DataW H × List MemPlace), DataW.trod enc P W 0 (fun _ => true) true fuel t cs = some x →
    ∀ X : Ab W, ∃ (Y : Ab W) (l : List SV) (a : α), X.le Y ∧ All2 (SV.rel Y.ρ) l cs ∧ A.R (fun i => i < Y.n) Y.m a l ∧ V a ∧ b a ≤ Rows.uptoBulk x.1
theorem bulk_one {H : Type} (d : DataW H) : 1 ≤ Rows.uptoBulk d := by
  cases d with
  | lit l => cases l <;> simp [Rows.uptoBulk]
  | nil => simp [Rows.uptoBulk]
  | ptr d => simp [Rows.uptoBulk]
  | slice elems spare => simp [Rows.uptoBulk]
  | agg parts => simp [Rows.uptoBulk]
  | iface t d => simp [Rows.uptoBulk]
  | map entries => simp [Rows.uptoBulk]
  | held h => simp [Rows.uptoBulk]
theorem bulk_app {H : Type} (l r : List (DataW H)) : Rows.uptoBulkAll (l ++ r) = Rows.uptoBulkAll l + Rows.uptoBulkAll r := by
  induction l with
  | nil => simp [Rows.uptoBulkAll]
  | cons x l ih => simp only [List.cons_append, Rows.uptoBulkAll, ih]; omega
section
variable {P : Program} {t e : TypeId} {α β : Type} {A : Lay α} {B : Lay β} {V V' : α → Prop} {U : β → Prop} {bb : α → Nat} {cc : β → Nat}
theorem Rdr.bulk (h : Rdr P t A V) : RdrU P t A V (fun _ => 1) := by
  intro H enc W fuel cs x hx X
  obtain ⟨Y, l, a, h1, h2, h3, h4⟩ := h enc W fuel cs x hx X
  exact ⟨Y, l, a, h1, h2, h3, h4, bulk_one _⟩
theorem RdrU.mono' (h : RdrU P t A V bb) {b2 : α → Nat} (hb : ∀ a, V a → b2 a ≤ bb a) : RdrU P t A V b2 := by
  intro H enc W fuel cs x hx X
  obtain ⟨Y, l, a, h1, h2, h3, h4, h5⟩ := h enc W fuel cs x hx X
  exact ⟨Y, l, a, h1, h2, h3, h4, Nat.le_trans (hb a h4) h5⟩
/-- The fields from one on. -/
def RdrFU {α : Type} (P : Program) (fs : List Field) (o : Nat) (A : Lay α) (V : α → Prop) (b : α → Nat) : Prop :=
  ∀ {H : Type} (enc : TypeId × Value → H) (W : World) (n : Nat) (cs : List Value) (xs : List (DataW H × List MemPlace)), (∀ (i : Nat) (f : Field), fs[i]? = some f → DataW.trod enc P W 0 (fun _ => true) true n f.type ((cs.drop f.offset).take (P.cellsOf f.type)) = xs[i]?) → xs.length = fs.length → o + A.sz = cs.length →
    ∀ X : Ab W, ∃ (Y : Ab W) (l : List SV) (a : α), X.le Y ∧ All2 (SV.rel Y.ρ) l (cs.drop o) ∧ A.R (fun i => i < Y.n) Y.m a l ∧ V a ∧ b a ≤ Rows.uptoBulkAll (xs.map (·.1))
theorem RdrFU.one {f : Field} {o : Nat} (ho : f.offset = o) (hs : P.cellsOf f.type = A.sz) (h : RdrU P f.type A V bb) : RdrFU P [f] o A V bb := by
  intro H enc W n cs xs hx hl hc X
  have h0 := hx 0 f rfl
  match xs, hl with
  | [y], _ =>
    obtain ⟨Y, l, a, h1, h2, h3, h4, h5⟩ := h enc W n _ y (by simpa using h0) X
    rw [ho, hs, List.take_of_length_le (by rw [List.length_drop]; omega)] at h2
    exact ⟨Y, l, a, h1, h2, h3, h4, by simp only [List.map_cons, List.map_nil, Rows.uptoBulkAll]; omega⟩
theorem RdrFU.cons {f : Field} {fs : List Field} {o : Nat} (ho : f.offset = o) (hs : P.cellsOf f.type = A.sz) (h : RdrU P f.type A V bb) (hr : RdrFU P fs (o + A.sz) B U cc) : RdrFU P (f :: fs) o (Lay.prod A B) (fun a => V a.1 ∧ U a.2) (fun a => bb a.1 + cc a.2) := by
  intro H enc W n cs xs hx hl hc X
  have hc : o + (A.sz + B.sz) = cs.length := hc
  match xs, hl with
  | y :: ys, hl =>
    have h0 := hx 0 f rfl
    obtain ⟨Y, l, a, h1, h2, h3, h4, h5⟩ := h enc W n _ y (by simpa using h0) X
    obtain ⟨Z, l', b, k1, k2, k3, k4, k5⟩ := hr enc W n cs ys (fun i g hg => by simpa using hx (i + 1) g (by simpa using hg)) (by simpa using hl) (by omega) Y
    refine ⟨Z, l ++ l', (a, b), h1.trans k1, ?_, ⟨l, l', rfl, A.frame h3 k1.fr, k3⟩, ⟨h4, k4⟩, by simp only [List.map_cons, Rows.uptoBulkAll]; omega⟩
    rw [ho, hs] at h2
    have := All2.append (h2.mono fun _ _ => SV.rel_ext k1.2.1) k2
    rwa [← List.drop_drop, List.take_append_drop] at this
theorem RdrU.struct {fs : Array Field} {l : List Field} (ht : P.underlying t = some (.struct fs)) (hl : fs.toList = l) (hs : P.cellsOf t = A.sz) (h : RdrFU P l 0 A V bb) : RdrU P t A V bb := by
  intro H enc W fuel cs x hx X
  obtain ⟨xs, n, _, rfl, h1, h2, h3⟩ := DataW.trod_struct ht hx
  obtain ⟨Y, l', a, k1, k2, k3, k4, k5⟩ := h enc W n cs xs (fun i f hf => h3 i f (by rw [← hl] at hf; simpa using hf)) (by rw [h2, ← hl]; simp) (by omega) X
  exact ⟨Y, l', a, k1, by simpa using k2, k3, k4, by simp only [Rows.uptoBulk]; omega⟩
theorem RdrU.sl (ht : P.underlying t = some (.slice e)) (hs : P.cellsOf e = A.sz) (h0 : A.sz ≠ 0) (h : RdrU P e A V bb) : RdrU P t (Lay.sl A) (fun L => L.length ≤ maxLen ∧ ∀ a ∈ L, V a) (fun L => (L.map bb).sum + 1) := by
  intro H enc W fuel cs x hx X
  rcases Go.Deep.open_slice ht hx with ⟨rfl, rfl⟩ | ⟨a, len, cap, m, n, D, Plc, rfl, hb, hl, hm, hmm, rfl, hel⟩
  · exact ⟨X, [.nils], [], Ab.le.refl X, ⟨rfl, trivial⟩, ⟨.nils, rfl, .inl ⟨.inl rfl, rfl⟩⟩, ⟨by simp, by simp⟩, by simp [Rows.uptoBulk]⟩
  simp only [if_true] at hmm
  subst hmm
  by_cases hlen : len = 0
  · subst hlen
    exact ⟨X, [.emp], [], Ab.le.refl X, ⟨⟨_, _, rfl⟩, trivial⟩, ⟨.emp, rfl, .inl ⟨.inr rfl, rfl⟩⟩, ⟨by simp, by simp⟩, by simp [Rows.uptoBulk]⟩
  rw [hs] at hel
  -- where it lies
  have hcell : ∀ i, i < m → ∀ j, j < A.sz → ∃ v, W.cell? ((a.add (i * A.sz)).add j) = some v := by
    intro i hi j hj
    obtain ⟨cs', h1, _⟩ := hel i hi
    obtain ⟨_, h2, h3⟩ := World.cells?_some h1
    rw [h3 j hj]
    exact ⟨_, List.getElem?_eq_getElem (by omega)⟩
  obtain ⟨v0, hv0⟩ := hcell 0 (by omega) 0 (by omega)
  obtain ⟨hspot, arr, T, fz, hheap, _⟩ := cell?_heap (show W.cell? a = some v0 by simpa [Addr.add] using hv0)
  obtain ⟨ab, ao, asp⟩ := a
  simp only at hspot
  subst hspot
  simp only at hheap
  have hat : ∀ i, i < m → ∀ j, j < A.sz → ∀ v, W.cell? (((⟨ab, ao, none⟩ : Addr).add (i * A.sz)).add j) = some v → arr[ao + i * A.sz + j]? = some v := by
    intro i hi j hj v hv
    have e1 : ((⟨ab, ao, none⟩ : Addr).add (i * A.sz)).add j = ⟨ab, ao + i * A.sz + j, none⟩ := by
      unfold Addr.add
      by_cases q1 : i * A.sz = 0 <;> by_cases q2 : j = 0 <;> simp [q1, q2, Nat.add_assoc]
    rw [e1] at hv
    obtain ⟨_, arr', T', fz', g1, g2⟩ := cell?_heap hv
    simp only at g1 g2
    rw [hheap] at g1
    cases g1
    exact g2
  have hsize : ao + m * A.sz ≤ arr.size := by
    obtain ⟨v, hv⟩ := hcell (m - 1) (by omega) (A.sz - 1) (by omega)
    have := (Array.getElem?_eq_some_iff.1 (hat _ (by omega) _ (by omega) v hv)).1
    have e2 : (m - 1) * A.sz = m * A.sz - A.sz := by rw [Nat.sub_mul, Nat.one_mul]
    have e3 : A.sz ≤ m * A.sz := Nat.le_mul_of_pos_left _ (by omega)
    omega
  -- the elements, one by one
  have key : ∀ k, k ≤ len → ∃ (Y : Ab W) (l : List SV) (L : List α), X.le Y ∧ L.length = k ∧ RL A (fun i => i < Y.n) Y.m L l ∧ (∀ a ∈ L, V a) ∧ All2 (SV.rel Y.ρ) l ((arr.toList.drop ao).take (k * A.sz)) ∧ (L.map bb).sum ≤ Rows.uptoBulkAll ((List.range k).map D) := by
    intro k
    induction k with
    | zero => intro _; exact ⟨X, [], [], Ab.le.refl X, rfl, rfl, by simp, by simp [All2], by simp⟩
    | succ k ih =>
      intro hk
      obtain ⟨Y, l, L, h1, h2, h3, h4, h5, h6⟩ := ih (by omega)
      obtain ⟨cs', g1, g2⟩ := hel k (by omega)
      obtain ⟨_, g3, g4⟩ := World.cells?_some g1
      obtain ⟨Z, l', a', k1, k2, k3, k4, k5⟩ := h enc W n cs' _ g2 Y
      refine ⟨Z, l ++ l', L ++ [a'], h1.trans k1, by simp [h2], RL.append (h3.frame k1.fr) (RL.one k3), ?_, ?_, ?_⟩
      · intro b hb
        rcases List.mem_append.1 hb with hb | hb
        · exact h4 b hb
        · simp at hb; subst hb; exact k4
      · have hcs : cs' = (arr.toList.drop (ao + k * A.sz)).take A.sz := by
          apply List.ext_getElem?
          intro j
          by_cases hj : j < A.sz
          · obtain ⟨v, hv⟩ := hcell k (by omega) j hj
            rw [← g4 j hj, hv, List.getElem?_take_of_lt hj, List.getElem?_drop]
            have := hat k (by omega) j hj v hv
            rw [Array.getElem?_toList]; exact this.symm
          · rw [List.getElem?_eq_none (by omega), List.getElem?_eq_none (by rw [List.length_take]; omega)]
        rw [hcs] at k2
        have := All2.append (h5.mono fun _ _ => SV.rel_ext k1.2.1) k2
        rwa [Nat.add_mul, Nat.one_mul, List.take_add, List.drop_drop]
      · have k5 : bb a' ≤ Rows.uptoBulk (D k) := k5
        rw [List.range_succ, List.map_append, List.map_append, bulk_app, List.sum_append]
        simp only [List.map_cons, List.map_nil, List.sum_cons, List.sum_nil, Rows.uptoBulkAll]
        omega
  obtain ⟨Y, l, L, h1, h2, h3, h4, h5, h6⟩ := key len (Nat.le_refl _)
  have hll := h3.length
  have hmul : len * A.sz ≤ m * A.sz := Nat.mul_le_mul_right _ hl
  let p : Pl := ⟨ab, ao, arr.size⟩
  have hY : Y.ρ Y.n = none := Y.fresh _ (Nat.le_refl _)
  have hext : Ext Y.ρ (upR Y.ρ Y.n p) := upR_ext hY
  let Z : Ab W := ⟨Y.n + 1, Y.m.set Y.n l, upR Y.ρ Y.n p, fun i hi => by unfold upR; rw [if_neg (by omega)]; exact Y.fresh i (by omega), fun i l' hi => by
    rw [Tr.get_set] at hi
    by_cases e : i = Y.n
    · rw [if_pos e] at hi; cases hi; subst e
      refine ⟨by omega, p, by simp [upR], ⟨arr, T, fz, hheap, rfl, ?_, ?_, fun q => by cases q⟩⟩
      · show ao + l.length ≤ arr.size; rw [hll, h2]; omega
      · show All2 _ l ((arr.toList.drop ao).take l.length)
        rw [hll, h2]
        exact h5.mono fun _ _ => SV.rel_ext hext
    · rw [if_neg e] at hi
      obtain ⟨q1, q, q2, q3⟩ := Y.ok i l' hi
      exact ⟨by omega, q, by unfold upR; rw [if_neg e]; exact q2, q3.ext hext⟩⟩
  have hle : Y.le Z := ⟨Nat.le_succ _, hext, fun i hi => Tr.get_set_ne _ _ (by omega)⟩
  refine ⟨Z, [.sl Y.n 0 len len A.sz], L, h1.trans hle, ⟨⟨p, m, by simp [Z, upR], Nat.le_refl _, hl, hm, ?_, by simp [p]⟩, trivial⟩, ⟨_, rfl, .inr ⟨Y.n, 0, len, l, by rw [h2], by omega, Nat.lt_succ_self _, Tr.get_set_same _ _ _, by rw [hll]; simp, ?_⟩⟩, ⟨by rw [h2]; omega, h4⟩, by simp only [Rows.uptoBulk]; omega⟩
  · show ao + 0 + m * A.sz ≤ arr.size; omega
  · rw [List.drop_zero, ← hll, List.take_length]
    exact h3.frame hle.fr


theorem RdrU.arg {H : Type} {enc : TypeId × Value → H} {W : World} {v : Value} {d : DataW H} {ps : List MemPlace} (h : RdrU P t A V bb) (hv : v.cells = #[v]) (hd : DataW.Trod enc P W 0 (fun _ => true) true t v d ps) (X : Ab W) :
    ∃ (Y : Ab W) (x : SV) (a : α), X.le Y ∧ AV.rel Y.ρ (.sc x) v ∧ A.R (fun i => i < Y.n) Y.m a [x] ∧ V a ∧ bb a ≤ Rows.uptoBulk d := by
  obtain ⟨fuel, hf⟩ := hd
  obtain ⟨Y, l, a, h1, h2, h3, h4, h5⟩ := h enc W fuel _ _ hf X
  rw [hv] at h2
  match l, h2 with
  | [x], h2 => exact ⟨Y, x, a, h1, h2.1, h3, h4, h5⟩
theorem RdrU.argA {H : Type} {enc : TypeId × Value → H} {W : World} {cs : Array Value} {d : DataW H} {ps : List MemPlace} (h : RdrU P t A V bb) (hd : DataW.Trod enc P W 0 (fun _ => true) true t (.agg cs) d ps) (X : Ab W) :
    ∃ (Y : Ab W) (l : List SV) (a : α), X.le Y ∧ AV.rel Y.ρ (.agg l) (.agg cs) ∧ A.R (fun i => i < Y.n) Y.m a l ∧ V a ∧ bb a ≤ Rows.uptoBulk d := by
  obtain ⟨fuel, hf⟩ := hd
  obtain ⟨Y, l, a, h1, h2, h3, h4, h5⟩ := h enc W fuel _ _ hf X
  exact ⟨Y, l, a, h1, ⟨cs, rfl, h2⟩, h3, h4, h5⟩
end
end Go.Proofs.Ytihmliblbhjlaaa

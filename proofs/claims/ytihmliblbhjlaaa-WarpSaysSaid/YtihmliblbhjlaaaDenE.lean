/- More rules: cells that a function value refers to. -/
import Derived.Test.YtihmliblbhjlaaaDenD
namespace Go.Am

/-- A cell that a callee reads. -/
def Pv {α : Type} (A : Lay α) (n : Nat) (m : Mem) (b : Nat) (u : α) : Prop := b < n ∧ ∃ cs, m.get b = some cs ∧ A.R (fun i => i < n) m u cs
/-- A cell that nobody writes. -/
def Rp {α : Type} {fl : Nat} (A : Lay α) (S : Cx fl) (v : SV) (u : α) : Prop := ∃ b cs, v = .ptr b 0 ∧ S.fz b ∧ S.m.get b = some cs ∧ A.R S.fz S.m u cs

section rp
variable {α : Type} {A : Lay α} {fl k j b : Nat} {S S' : Cx fl} {v : SV} {u : α} {m : Mem}
theorem Pv.rpS {n : Nat} {S : Cx n} (h : Pv A n m b u) (em : S.m = m) (hz : ∀ i, i < n → S.fz i) : Rp A S (.ptr b 0) u := by
  subst em
  obtain ⟨h1, cs, h2, h3⟩ := h
  exact ⟨b, cs, rfl, hz b h1, h2, A.frame h3 fun i hi => ⟨hz i hi, rfl⟩⟩
theorem Rp.pv (h : Rp A S (.ptr b 0) u) : Pv A S.n S.m b u := by
  obtain ⟨b', cs, e, h1, h2, h3⟩ := h
  cases e
  exact ⟨h1.1, cs, h2, A.frame h3 fun i hi => ⟨hi.1, rfl⟩⟩
theorem Bk.pv {id : Nat} (h : Bk A S id (.ptr b 0) u) : Pv A S.n S.m b u := by
  obtain ⟨b', cs, e, _, h1, _, h2, h3⟩ := h
  cases e
  exact ⟨h1, cs, h2, A.frame h3 fun i hi => ⟨hi.1, rfl⟩⟩
theorem Rp.to (h : Rp A S v u) (c : Ch k S S') (hk : Nat.beq k 0 = false := by rfl) : Rp A S' v u := by
  have hk : k ≠ 0 := fun e => by subst e; cases hk
  obtain ⟨b, cs, e, h1, h2, h3⟩ := h
  obtain ⟨q1, q2⟩ := fz_ch c hk b h1
  exact ⟨b, cs, e, q1, by rw [q2]; exact h2, A.frame h3 (fz_ch c hk)⟩
theorem Rp.drop (h : Rp A S v u) (k : Nat) : Rp A (S.drop k) v u := by
  obtain ⟨b, cs, e, h1, h2, h3⟩ := h
  exact ⟨b, cs, e, (fz_drop k b h1).1, h2, A.frame h3 (fz_drop k)⟩
theorem Rp.ren (h : Rp A S v u) (k j : Nat) (hk : Nat.beq k 0 = false := by rfl) (hj : Nat.beq j 0 = false := by rfl) : Rp A (S.ren k j) v u := by
  have hk : k ≠ 0 := fun e => by subst e; cases hk
  have hj : j ≠ 0 := fun e => by subst e; cases hj
  obtain ⟨b, cs, e, h1, h2, h3⟩ := h
  exact ⟨b, cs, e, (fz_ren k j hk hj b h1).1, h2, A.frame h3 (fz_ren k j hk hj)⟩
end rp

section rules
variable {E : Env} {lo : List Nat} {fl : Nat} {loose : Nat → Bool} {lim : Option Nat} {ops : Array Oper} {os : List Oper}
variable {l : LE} {m : Mem} {n : Nat} {K : LE → Mem → Nat → Prop}
variable {d : Nat} {ty t : TypeId} {pos : String} {af : Array Edge} {x : Operand} {v : SV}
variable {α : Type} {A : Lay α} {S : Cx fl} {L : List α} {u : α} {s : SV} {id : Nat}

theorem WO.ldP {sz : Nat} {f : α → List SV} {hf : ∀ a, (f a).length = sz} (hx : evK l x = some (.sc v)) (hs : Rp (Lay.flat sz f hf) S v u) (hc : (f u)[0]? = some s) (hT : oneT E t = true) (hl : limLe lim S.n = true)
    (h : WO E loose fl lim ops os ((d, .sc s) :: l) S.m S.n K) : WO E loose fl lim ops (⟨some d, .load t x, ty, pos, af, none⟩ :: os) l S.m S.n K := ⟨fun tt ht => by
  obtain ⟨y, h1, h2, h3, _⟩ := oneT_ok hT
  refine W_op2 ?_ (h.put ht)
  obtain ⟨b, cs, rfl, h4, h5, h6⟩ := hs
  have h6 : cs = f u := h6
  subst h6
  simp only [opA, evK_ev ht hx, loadA, limOk_of hl h4.1, if_true, h5, part, h1, h2, h3, or_self, if_false, hc, Option.map_some]⟩
theorem WO.ldPA {sz : Nat} {f : α → List SV} {hf : ∀ a, (f a).length = sz} (hx : evK l x = some (.sc v)) (hs : Rp (Lay.flat sz f hf) S v u) (hT : aggT E t sz = true) (hl : limLe lim S.n = true)
    (h : WO E loose fl lim ops os ((d, .agg (f u)) :: l) S.m S.n K) : WO E loose fl lim ops (⟨some d, .load t x, ty, pos, af, none⟩ :: os) l S.m S.n K := ⟨fun tt ht => by
  obtain ⟨y, h1, h2, h3, _⟩ := aggT_ok hT
  refine W_op2 ?_ (h.put ht)
  obtain ⟨b, cs, rfl, h4, h5, h6⟩ := hs
  have h6 : cs = f u := h6
  subst h6
  have := hf u
  simp only [opA, evK_ev ht hx, loadA, limOk_of hl h4.1, if_true, h5, part, h1, h2, h3, Nat.zero_add, this, Nat.le_refl, List.drop_zero, Option.map_some]
  rw [List.take_of_length_le (by omega)]⟩
theorem WO.ldPS (hx : evK l x = some (.sc v)) (hs : Rp (Lay.sl A) S v L) (hT : oneT E t = true) (hl : limLe lim S.n = true)
    (h : ∀ w, Rd A S w L → WO E loose fl lim ops os ((d, .sc w) :: l) S.m S.n K) : WO E loose fl lim ops (⟨some d, .load t x, ty, pos, af, none⟩ :: os) l S.m S.n K := ⟨fun tt ht => by
  obtain ⟨y, h1, h2, h3, _⟩ := oneT_ok hT
  obtain ⟨b, cs, rfl, h4, h5, ⟨w, rfl, hw⟩⟩ := hs
  refine W_op2 ?_ ((h w hw).put ht)
  simp [opA, evK_ev ht hx, loadA, limOk_of hl h4.1, h5, part, h1, h2, h3]⟩
theorem WO.ldBS {p : SV} (hx : evK l x = some (.sc p)) (hp : p = ptrAt v 0 0) (hs : Bk (Lay.sl A) S id v L) (hT : oneT E t = true) (hl : limLe lim S.n = true)
    (h : ∀ w, Rd A S w L → WO E loose fl lim ops os ((d, .sc w) :: l) S.m S.n K) : WO E loose fl lim ops (⟨some d, .load t x, ty, pos, af, none⟩ :: os) l S.m S.n K := ⟨fun tt ht => by
  subst hp
  obtain ⟨y, h1, h2, h3, _⟩ := oneT_ok hT
  obtain ⟨b, cs, rfl, _, h4, _, h5, ⟨w, rfl, hw⟩⟩ := hs
  refine W_op2 ?_ ((h w hw).put ht)
  simp [opA, evK_ev ht hx, ptrAt, loadA, limOk_of hl h4, h5, part, h1, h2, h3]⟩
/-- A variable that holds a slice. -/
theorem WO.stBS {y : Operand} {w : SV} {p : SV} {L' : List α} (hx : evK l x = some (.sc p)) (hp : p = ptrAt v 0 0) (hy : evK l y = some (.sc w)) (hs : Bk (Lay.sl A) S id v L) (hw : Rd A S w L') (hT : oneT E t = true) (hid : Nat.beq id 0 = false)
    (h : ∀ S', Ch id S S' → Bk (Lay.sl A) S' id v L' → WO E loose fl lim ops os l S'.m S'.n K) : WO E loose fl lim ops (⟨none, .store t x y, ty, pos, af, none⟩ :: os) l S.m S.n K := ⟨fun tt ht => by
  have hid : id ≠ 0 := fun e => by subst e; cases hid
  subst hp
  obtain ⟨z, h1, h2, h3, h4⟩ := oneT_ok hT
  obtain ⟨b, cs, rfl, h5, h6, h7, S', e1, e2, h8, h9⟩ := hs.put (u' := L') (c := [w]) ⟨w, rfl, hw⟩ hid
  obtain ⟨w0, rfl, _⟩ := h7
  refine W_op2 (v := .tup []) (m' := S'.m) (n' := S'.n) ?_ ((h S' h8 h9).ok tt ht)
  simp [opA, evK_ev ht hx, evK_ev ht hy, ptrAt, storeA, AV.cells?, h1, h4, h5, h6, e1, e2, splice]⟩
end rules
end Go.Am

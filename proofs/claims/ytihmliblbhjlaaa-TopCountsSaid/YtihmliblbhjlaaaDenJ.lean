/- Results that are read out of cells. -/
import Derived.Test.YtihmliblbhjlaaaDenI
set_option linter.unusedVariables false
namespace Go.Am

section resc
variable {E : Env} {l l0 : LE} {m : Mem} {rs : List ResultVar} {vs : List AV} {fl id : Nat} {S : Cx fl} {v : SV} {cs : List SV}
theorem resK_t {t : Nat} {w : AV} (hc : Cov l l0) (h : lk l0 t = some w) (r : resK E l m rs = some vs) : resK E l m (.tmp t :: rs) = some (w :: vs) := by
  simp only [resK, hc _ _ h, r]
theorem resK_w {a t sz : Nat} (hs : Bw S id v cs) (hc : Cov l l0) (h1 : lk l0 a = some (.sc v)) (hT : aggT E t sz = true) (hl : Nat.beq sz cs.length = true) (r : resK E l S.m rs = some vs) : resK E l S.m (.cell a t :: rs) = some (.agg cs :: vs) := by
  obtain ⟨y, q1, q2, q3, _⟩ := aggT_ok hT
  obtain ⟨b, rfl, _, _, _, h5⟩ := hs
  have hl := Nat.eq_of_beq_eq_true hl
  simp only [resK, hc _ _ h1, r, loadA, limOk, if_true, h5, part, q1, q2, q3, Nat.zero_add, hl, Nat.le_refl, List.drop_zero, Option.map_some]
  rw [List.take_of_length_le (by omega)]
theorem resK_w1 {a t : Nat} {s : SV} (hs : Bw S id v [s]) (hc : Cov l l0) (h1 : lk l0 a = some (.sc v)) (hT : oneT E t = true) (r : resK E l S.m rs = some vs) : resK E l S.m (.cell a t :: rs) = some (.sc s :: vs) := by
  obtain ⟨y, q1, q2, q3, _⟩ := oneT_ok hT
  obtain ⟨b, rfl, _, _, _, h5⟩ := hs
  have q : ¬ (y.kind = 5 ∨ y.kind = 6) := fun h => h.elim q2 q3
  simp only [resK, hc _ _ h1, r, loadA, limOk, if_true, h5, part, q1]
  rw [if_neg q]; rfl
end resc

theorem splice_field {cs f : List SV} {p q sz : Nat} {s : SV} (h13 : (cs.drop p).take sz = f) (hp : p + sz ≤ cs.length) (hq : q < sz) : splice cs p (f.set q s) = splice cs (p + q) [s] := by
  rw [← h13]
  simp only [splice, List.length_set, List.length_take, List.length_drop, List.append_assoc, List.length_cons, List.length_nil]
  rw [Nat.min_eq_left (by omega)]
  apply List.ext_getElem?
  intro r
  by_cases r1 : r < p
  · rw [List.getElem?_append_left (by simp; omega), List.getElem?_append_left (by simp; omega), List.getElem?_take_of_lt r1, List.getElem?_take_of_lt (by omega)]
  · rw [List.getElem?_append_right (by simp; omega), List.length_take, Nat.min_eq_left (by omega)]
    by_cases r2 : r < p + sz
    · rw [List.getElem?_append_left (by simp; omega), List.getElem?_set, List.getElem?_take_of_lt (by omega), List.getElem?_drop, List.length_take, List.length_drop]
      by_cases r3 : q = r - p
      · rw [if_pos r3, if_pos (by omega), List.getElem?_append_right (by simp; omega), List.length_take, Nat.min_eq_left (by omega)]
        rw [show r - (p + q) = 0 from by omega]; rfl
      · rw [if_neg r3]
        by_cases r4 : r < p + q
        · rw [List.getElem?_append_left (by simp; omega), List.getElem?_take_of_lt (by omega)]; congr 1; omega
        · rw [List.getElem?_append_right (by simp; omega), List.length_take, Nat.min_eq_left (by omega), List.getElem?_append_right (by simp; omega), List.getElem?_drop]; congr 1; simp; omega
    · rw [List.getElem?_append_right (by simp; omega), List.length_set, List.length_take, List.length_drop, Nat.min_eq_left (by omega), List.getElem?_drop, List.getElem?_append_right (by simp; omega), List.length_take, Nat.min_eq_left (by omega), List.getElem?_append_right (by simp; omega), List.getElem?_drop]
      congr 1; simp; omega

section rules
variable {E : Env} {lo : List Nat} {fl : Nat} {loose : Nat → Bool} {lim : Option Nat} {ops : Array Oper} {os : List Oper}
variable {l : LE} {m m0 : Mem} {n n0 : Nat} {K : LE → Mem → Nat → Prop}
variable {d : Nat} {ty t : TypeId} {pos : String} {af : Array Edge} {x y : Operand} {v w : SV} {k k' : IntKind} {s : SV}
variable {α : Type} {A : Lay α} {S : Cx fl} {L L' M : List α} {u : α} {j b q : Nat} {id : Nat}

/-- A field of an element, in place. -/
theorem WO.stIF {sz : Nat} {f : α → List SV} {hf : ∀ a, (f a).length = sz} (hx : evK l x = some (.sc (ptrAt v j q))) (hy : evK l y = some (.sc s)) (hs : Iw (Lay.flat sz f hf) S id n0 b m0 v L) (hu : L[j]? = some u) {u' : α} (hu' : (f u).set q s = f u') (hq : q < sz) (hT : oneT E t = true) (hid : Nat.beq id 0 = false)
    (h : ∀ S', Ch id S S' → Iw (Lay.flat sz f hf) S' id n0 b m0 v (L.set j u') → WO E loose fl lim ops os l S'.m S'.n K) : WO E loose fl lim ops (⟨none, .store t x y, ty, pos, af, none⟩ :: os) l S.m S.n K := ⟨fun tt ht => by
  have hid : id ≠ 0 := fun e => by subst e; cases hid
  obtain ⟨z, h1, h2, h3, h4⟩ := oneT_ok hT
  have hj := (List.getElem?_eq_some_iff.1 hu).1
  obtain ⟨o, cap, cs, rfl, h5, h6, h7, S', e1, e2, h8, h9⟩ := hs.put (u := u') (c := f u') hj rfl hid
  refine W_op2 (v := .tup []) (m' := S'.m) (n' := S'.n) ?_ ((h S' h8 h9).ok tt ht)
  have h7 : o + j * sz + (f u').length ≤ cs.length := h7
  rw [hf] at h7
  obtain ⟨b', o', c', cs', p, e3, _, h10, h11, _, h12, h13⟩ := hs.ro.cell hu
  cases e3
  rw [h6] at h10; cases h10
  have h11 : p = f u := h11
  subst h11
  have h13 : (cs.drop (o + j * sz)).take sz = f u := h13
  have e4 : splice cs (o + j * sz) (f u') = splice cs (o + j * sz + q) [s] := by
    rw [← hu']; exact splice_field h13 h7 hq
  simp only [opA, evK_ev ht hx, evK_ev ht hy, ptrAt, storeA, AV.cells?, h1, List.length_cons, List.length_nil, h4, h5, h6, true_and, Nat.zero_add, if_true]
  have hcond : o + j * sz + q + 1 ≤ cs.length := by omega
  simp only [Lay.flat] at e1 ⊢
  simp only [hcond, if_true]
  rw [← e4, ← e1, e2]; rfl⟩
/-- An element that is a struct, in place. -/
theorem WO.stIA {sz : Nat} {f : α → List SV} {hf : ∀ a, (f a).length = sz} {u' : α} (hx : evK l x = some (.sc (ptrAt v j 0))) (hy : evK l y = some (.agg (f u'))) (hs : Iw (Lay.flat sz f hf) S id n0 b m0 v L) (hj : j < L.length) (hT : aggT E t sz = true) (hid : Nat.beq id 0 = false)
    (h : ∀ S', Ch id S S' → Iw (Lay.flat sz f hf) S' id n0 b m0 v (L.set j u') → WO E loose fl lim ops os l S'.m S'.n K) : WO E loose fl lim ops (⟨none, .store t x y, ty, pos, af, none⟩ :: os) l S.m S.n K := ⟨fun tt ht => by
  have hid : id ≠ 0 := fun e => by subst e; cases hid
  obtain ⟨z, h1, h2, h3, h4⟩ := aggT_ok hT
  obtain ⟨o, cap, cs, rfl, h5, h6, h7, S', e1, e2, h8, h9⟩ := hs.put (u := u') (c := f u') hj rfl hid
  refine W_op2 (v := .tup []) (m' := S'.m) (n' := S'.n) ?_ ((h S' h8 h9).ok tt ht)
  have h7 : o + j * sz + (f u').length ≤ cs.length := h7
  simp only [opA, evK_ev ht hx, evK_ev ht hy, ptrAt, storeA, AV.cells?, h1, h3, hf, h5, h6, true_and, Nat.zero_add, Nat.add_zero, if_true, Lay.flat] at e1 ⊢
  rw [hf] at h7
  rw [if_pos h7, ← e1, e2]; rfl⟩
/-- A pointer to an element is none that is nil. -/
theorem WO.nckE {v : SV} {j q : Nat} (hx : evK l x = some (.sc (ptrAt v j q))) (hv : ∃ b o, ptrAt v j q = .ptr b o) (h : WO E loose fl lim ops os ((d, .sc (ptrAt v j q)) :: l) m n K) : WO E loose fl lim ops (⟨some d, .nilCheck x, ty, pos, af, none⟩ :: os) l m n K := by
  obtain ⟨b, o, e⟩ := hv
  rw [e] at hx h
  exact WO.nckB hx h
theorem WO.nckE0 {v : SV} {j q : Nat} (hx : evK l x = some (.sc (ptrAt v j q))) (hv : ∃ b o, ptrAt v j q = .ptr b o) (h : WO E loose fl lim ops os l m n K) : WO E loose fl lim ops (⟨none, .nilCheck x, ty, pos, af, none⟩ :: os) l m n K := by
  obtain ⟨b, o, e⟩ := hv
  rw [e] at hx
  exact WO.nckB0 hx h
end rules
end Go.Am

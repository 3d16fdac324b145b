/- Results that are read out of cells. -/
import Derived.Test.YtihmliblbhjlaaaDenI
set_option linter.unusedVariables false
namespace Go.Am

section resc
variable {E : Env} {l l0 : LE} {m : Mem} {rs : List ResultVar} {vs : List AV} {fl id : Nat} {S : Cx fl} {v : SV} {cs : List SV}
theorem resK_t {t : Nat} {w : AV} (hc : Cov l l0) (h : lk l0 t = some w) (r : resK E l m rs = some vs) : resK E l m (.tmp t :: rs) = some (w :: vs) := by
  simp only [resK, hc _ _ h, r]
theorem resK_w {a t sz : Nat} (hs : Bw S id v cs) (hc : Cov l l0) (h1 : lk l0 a = some (.sc v)) (hT : aggT E t sz = true) (hl : Nat.beq sz cs.length = true) (r : resK E l S.m rs = some vs) : resK E l S.m (.cell a t :: rs) = some (.agg cs :: vs) := by
  obtain ⟨y, q1, q2, q3, _⟩ := aggT_ok hT
  obtain ⟨b, rfl, _, _, _, h5⟩ := hs
  have hl := Nat.eq_of_beq_eq_true hl
  simp only [resK, hc _ _ h1, r, loadA, limOk, if_true, h5, part, q1, q2, q3, Nat.zero_add, hl, Nat.le_refl, List.drop_zero, Option.map_some]
  rw [List.take_of_length_le (by omega)]
theorem resK_w1 {a t : Nat} {s : SV} (hs : Bw S id v [s]) (hc : Cov l l0) (h1 : lk l0 a = some (.sc v)) (hT : oneT E t = true) (r : resK E l S.m rs = some vs) : resK E l S.m (.cell a t :: rs) = some (.sc s :: vs) := by
  obtain ⟨y, q1, q2, q3, _⟩ := oneT_ok hT
  obtain ⟨b, rfl, _, _, _, h5⟩ := hs
  have q : ¬ (y.kind = 5 ∨ y.kind = 6) := fun h => h.elim q2 q3
  simp only [resK, hc _ _ h1, r, loadA, limOk, if_true, h5, part, q1]
  rw [if_neg q]; rfl
end resc

theorem splice_field {cs f : List SV} {p q sz : Nat} {s : SV} (h13 : (cs.drop p).take sz = f) (hp : p + sz ≤ cs.length) (hq : q < sz) : splice cs p (f.set q s) = splice cs (p + q) [s] := by
  rw [← h13]
  simp only [splice, List.length_set, List.length_take, List.length_drop, List.append_assoc, List.length_cons, List.length_nil]
  rw [Nat.min_eq_left (by omega)]
  apply List.ext_getElem?
  intro r
  by_cases r1 : r < p
  · rw [List.getElem?_append_left (by simp; omega), List.getElem?_append_left (by simp; omega), List.getElem?_take_of_lt r1, List.getElem?_take_of_lt (by omega)]
  · rw [List.getElem?_append_right (by simp; omega), List.length_take, Nat.min_eq_left (by omega)]
    by_cases r2 : r < p + sz
    · rw [List.getElem?_append_left (by simp; omega), List.getElem?_set, List.getElem?_take_of_lt (by omega), List.getElem?_drop, List.length_take, List.length_drop]
      by_cases r3 : q = r - p
      · rw [if_pos r3, if_pos (by omega), List.getElem?_append_right (by simp; omega), List.length_take, Nat.min_eq_left (by omega)]
        rw [show r - (p + q) = 0 from by omega]; rfl
      · rw [if_neg r3]
        by_cases r4 : r < p + q
        · rw [List.getElem?_append_left (by simp; omega), List.getElem?_take_of_lt (by omega)]; congr 1; omega
        · rw [List.getElem?_append_right (by simp; omega), List.length_take, Nat.min_eq_left (by omega), List.getElem?_append_right (by simp; omega), List.getElem?_drop]; congr 1; simp; omega
    · rw [List.getElem?_append_right (by simp; omega), List.length_set, List.length_take, List.length_drop, Nat.min_eq_left (by omega), List.getElem?_drop, List.getElem?_append_right (by simp; omega), List.length_take, Nat.min_eq_left (by omega), List.getElem?_append_right (by simp; omega), List.getElem?_drop]
      congr 1; simp; omega

section rules
variable {E : Env} {lo : List Nat} {fl : Nat} {loose : Nat → Bool} {lim : Option Nat} {ops : Array Oper} {os : List Oper}
variable {l : LE} {m m0 : Mem} {n n0 : Nat} {K : LE → Mem → Nat → Prop}
variable {d : Nat} {ty t : TypeId} {pos : String} {af : Array Edge} {x y : Operand} {v w : SV} {k k' : IntKind} {s : SV}
variable {α : Type} {A : Lay α} {S : Cx fl} {L L' M : List α} {u : α} {j b q : Nat} {id : Nat}

/-- A field of an element, in place. -/
theorem WO.stIF {sz : Nat} {f : α → List SV} {hf : ∀ a, (f a).length = sz} (hx : evK l x = some (.sc (ptrAt v j q))) (hy : evK l y = some (.sc s)) (hs : Iw (Lay.flat sz f hf) S id n0 b m0 v L) (hu : L[j]? = some u) {u' : α} (hu' : (f u).set q s = f u') (hq : q < sz) (hT : oneT E t = true) (hid : Nat.beq id 0 = false)
    (h : ∀ S', Ch id S S' → Iw (Lay.flat sz f hf) S' id n0 b m0 v (L.set j u') → WO E loose fl lim ops os l S'.m S'.n K) : WO E loose fl lim ops (⟨none, .store t x y, ty, pos, af, none⟩ :: os) l S.m S.n K := ⟨fun tt ht => by
  have hid : id ≠ 0 := fun e => by subst e; cases hid
  obtain ⟨z, h1, h2, h3, h4⟩ := oneT_ok hT
  have hj := (List.getElem?_eq_some_iff.1 hu).1
  obtain ⟨o, cap, cs, rfl, h5, h6, h7, S', e1, e2, h8, h9⟩ := hs.put (u := u') (c := f u') hj rfl hid
  refine W_op2 (v := .tup []) (m' := S'.m) (n' := S'.n) ?_ ((h S' h8 h9).ok tt ht)
  have h7 : o + j * sz + (f u').length ≤ cs.length := h7
  rw [hf] at h7
  obtain ⟨b', o', c', cs', p, e3, _, h10, h11, _, h12, h13⟩ := hs.ro.cell hu
  cases e3
  rw [h6] at h10; cases h10
  have h11 : p = f u := h11
  subst h11
  have h13 : (cs.drop (o + j * sz)).take sz = f u := h13
  have e4 : splice cs (o + j * sz) (f u') = splice cs (o + j * sz + q) [s] := by
    rw [← hu']; exact splice_field h13 h7 hq
  simp only [opA, evK_ev ht hx, evK_ev ht hy, ptrAt, storeA, AV.cells?, h1, List.length_cons, List.length_nil, h4, h5, h6, true_and, Nat.zero_add, if_true]
  have hcond : o + j * sz + q + 1 ≤ cs.length := by omega
  simp only [Lay.flat] at e1 ⊢
  simp only [hcond, if_true]
  rw [← e4, ← e1, e2]; rfl⟩
/-- An element that is a struct, in place. -/
theorem WO.stIA {sz : Nat} {f : α → List SV} {hf : ∀ a, (f a).length = sz} {u' : α} (hx : evK l x = some (.sc (ptrAt v j 0))) (hy : evK l y = some (.agg (f u'))) (hs : Iw (Lay.flat sz f hf) S id n0 b m0 v L) (hj : j < L.length) (hT : aggT E t sz = true) (hid : Nat.beq id 0 = false)
    (h : ∀ S', Ch id S S' → Iw (Lay.flat sz f hf) S' id n0 b m0 v (L.set j u') → WO E loose fl lim ops os l S'.m S'.n K) : WO E loose fl lim ops (⟨none, .store t x y, ty, pos, af, none⟩ :: os) l S.m S.n K := ⟨fun tt ht => by
  have hid : id ≠ 0 := fun e => by subst e; cases hid
  obtain ⟨z, h1, h2, h3, h4⟩ := aggT_ok hT
  obtain ⟨o, cap, cs, rfl, h5, h6, h7, S', e1, e2, h8, h9⟩ := hs.put (u := u') (c := f u') hj rfl hid
  refine W_op2 (v := .tup []) (m' := S'.m) (n' := S'.n) ?_ ((h S' h8 h9).ok tt ht)
  have h7 : o + j * sz + (f u').length ≤ cs.length := h7
  simp only [opA, evK_ev ht hx, evK_ev ht hy, ptrAt, storeA, AV.cells?, h1, h3, hf, h5, h6, true_and, Nat.zero_add, Nat.add_zero, if_true, Lay.flat] at e1 ⊢
  rw [hf] at h7
  rw [if_pos h7, ← e1, e2]; rfl⟩
/-- A pointer to an element is none that is nil. -/
theorem WO.nckE {v : SV} {j q : Nat} (hx : evK l x = some (.sc (ptrAt v j q))) (hv : ∃ b o, ptrAt v j q = .ptr b o) (h : WO E loose fl lim ops os ((d, .sc (ptrAt v j q)) :: l) m n K) : WO E loose fl lim ops (⟨some d, .nilCheck x, ty, pos, af, none⟩ :: os) l m n K := by
  obtain ⟨b, o, e⟩ := hv
  rw [e] at hx h
  exact WO.nckB hx h
theorem WO.nckE0 {v : SV} {j q : Nat} (hx : evK l x = some (.sc (ptrAt v j q))) (hv : ∃ b o, ptrAt v j q = .ptr b o) (h : WO E loose fl lim ops os l m n K) : WO E loose fl lim ops (⟨none, .nilCheck x, ty, pos, af, none⟩ :: os) l m n K := by
  obtain ⟨b, o, e⟩ := hv
  rw [e] at hx
  exact WO.nckB0 hx h
/-- The beginning of an own slice is own. -/
theorem WO.slcO {hi' : Int} {y2 : Operand} (hx : evK l x = some (.sc v)) (hhi : evK l y2 = some (.sc (.int k hi'))) (hs : Ow A S id v L) (hM : sub? L 0 hi' = some M) (hT : slTs E t A.sz = true)
    (h : ∀ w, Ow A S id w M → WO E loose fl lim ops os ((d, .sc w) :: l) S.m S.n K) : WO E loose fl lim ops (⟨some d, .slice t x none (some y2) none, ty, pos, af, none⟩ :: os) l S.m S.n K := by
  obtain ⟨⟨_, q1, q2⟩, rfl⟩ := sub?_some hM
  rcases hs with ⟨rfl, rfl⟩ | ⟨b, c, cs, rfl, h2, h3, h4, h5, h6, h7, h8⟩
  · simp only [List.length_nil] at q2
    have e0 : hi' = 0 := by omega
    subst e0
    obtain ⟨yt, e, e1, e2, e3, e4, _⟩ := slTs_ok hT
    refine ⟨fun tt ht => W_op2 ?_ ((h .nils (.inl ⟨rfl, by simp⟩)).put ht)⟩
    simp only [opA, evK_ev ht hx, evK_ev ht hhi, Option.map_some, Option.map_none, sliceA, e1, e2, e3, e4, boundA]
    simp
  · refine WO.slHto hx hhi ⟨q1, by omega⟩ hT (h _ (.inr ⟨b, c, cs, ?_, h2, h3, h4, ?_, h6, h7, ?_⟩))
    · simp only [Int.toNat_zero, List.drop_zero, List.length_take]
      rw [Nat.min_eq_left (by omega)]
    · simp only [Int.toNat_zero, List.drop_zero, List.length_take]; omega
    · have := RL.take hi'.toNat h8
      rw [List.take_take, Nat.min_eq_left (Nat.mul_le_mul_right _ (by omega))] at this
      simp only [Int.toNat_zero, List.drop_zero, List.length_take]
      rw [Nat.min_eq_left (by omega)]
      exact this
/-! ### Loads in a drawn region, of blocks that stood at its beginning -/
theorem Bk.lt (h : Bk A S id v u) : Lt v S.n := by obtain ⟨b, cs, rfl, _, h4, _⟩ := h; intro c hc; cases hc; exact h4
theorem Rp.lt (h : Rp A S v u) : Lt v S.n := by obtain ⟨b, cs, rfl, h4, _⟩ := h; intro c hc; cases hc; exact h4.1
theorem WO.ldBz {sz : Nat} {f : α → List SV} {hf : ∀ a, (f a).length = sz} {p : SV} (hx : evK l x = some (.sc p)) (hp : p = ptrAt v j q) (hs : Bk (Lay.flat sz f hf) S id v u) (hc : (f u)[q]? = some s) (hT : oneT E t = true) (hv : Lt v n0) (hl : limLe lim n0 = true)
    (h : WO E loose fl lim ops os ((d, .sc s) :: l) S.m S.n K) : WO E loose fl lim ops (⟨some d, .load t x, ty, pos, af, none⟩ :: os) l S.m S.n K := ⟨fun tt ht => by
  subst hp
  obtain ⟨y, h1, h2, h3, _⟩ := oneT_ok hT
  refine W_op2 ?_ (h.put ht)
  obtain ⟨b, cs, rfl, _, h4, _, h5, h6⟩ := hs
  have h6 : cs = f u := h6
  subst h6
  simp only [opA, evK_ev ht hx, ptrAt, loadA, hv.lim hl rfl, if_true, h5, part, h1, h2, h3, or_self, if_false, Nat.zero_add, hc, Option.map_some]⟩
theorem WO.ldBAz {sz : Nat} {f : α → List SV} {hf : ∀ a, (f a).length = sz} {p : SV} (hx : evK l x = some (.sc p)) (hp : p = ptrAt v j 0) (hs : Bk (Lay.flat sz f hf) S id v u) (hT : aggT E t sz = true) (hv : Lt v n0) (hl : limLe lim n0 = true)
    (h : WO E loose fl lim ops os ((d, .agg (f u)) :: l) S.m S.n K) : WO E loose fl lim ops (⟨some d, .load t x, ty, pos, af, none⟩ :: os) l S.m S.n K := ⟨fun tt ht => by
  subst hp
  obtain ⟨y, h1, h2, h3, _⟩ := aggT_ok hT
  refine W_op2 ?_ (h.put ht)
  obtain ⟨b, cs, rfl, _, h4, _, h5, h6⟩ := hs
  have h6 : cs = f u := h6
  subst h6
  have := hf u
  simp only [opA, evK_ev ht hx, ptrAt, loadA, hv.lim hl rfl, if_true, h5, part, h1, h2, h3, Nat.zero_add, this, Nat.le_refl, List.drop_zero, Option.map_some]
  rw [List.take_of_length_le (by omega)]⟩
theorem WO.ldPz {sz : Nat} {f : α → List SV} {hf : ∀ a, (f a).length = sz} (hx : evK l x = some (.sc v)) (hs : Rp (Lay.flat sz f hf) S v u) (hc : (f u)[0]? = some s) (hT : oneT E t = true) (hv : Lt v n0) (hl : limLe lim n0 = true)
    (h : WO E loose fl lim ops os ((d, .sc s) :: l) S.m S.n K) : WO E loose fl lim ops (⟨some d, .load t x, ty, pos, af, none⟩ :: os) l S.m S.n K := ⟨fun tt ht => by
  obtain ⟨y, h1, h2, h3, _⟩ := oneT_ok hT
  refine W_op2 ?_ (h.put ht)
  obtain ⟨b, cs, rfl, h4, h5, h6⟩ := hs
  have h6 : cs = f u := h6
  subst h6
  simp only [opA, evK_ev ht hx, loadA, hv.lim hl rfl, if_true, h5, part, h1, h2, h3, or_self, if_false, hc, Option.map_some]⟩
theorem WO.ldPAz {sz : Nat} {f : α → List SV} {hf : ∀ a, (f a).length = sz} (hx : evK l x = some (.sc v)) (hs : Rp (Lay.flat sz f hf) S v u) (hT : aggT E t sz = true) (hv : Lt v n0) (hl : limLe lim n0 = true)
    (h : WO E loose fl lim ops os ((d, .agg (f u)) :: l) S.m S.n K) : WO E loose fl lim ops (⟨some d, .load t x, ty, pos, af, none⟩ :: os) l S.m S.n K := ⟨fun tt ht => by
  obtain ⟨y, h1, h2, h3, _⟩ := aggT_ok hT
  refine W_op2 ?_ (h.put ht)
  obtain ⟨b, cs, rfl, h4, h5, h6⟩ := hs
  have h6 : cs = f u := h6
  subst h6
  have := hf u
  simp only [opA, evK_ev ht hx, loadA, hv.lim hl rfl, if_true, h5, part, h1, h2, h3, Nat.zero_add, this, Nat.le_refl, List.drop_zero, Option.map_some]
  rw [List.take_of_length_le (by omega)]⟩

/-! ### A call that turns nothing, in a loose region -/
/-- The caller's numbers as the callee sees them; all that is there lies under the floor. -/
def Cx.up {fl : Nat} (S : Cx fl) (l : List (Nat × Nat)) : Cx S.n := ⟨S.m, S.n, fun i => sg l (S.ow i), Nat.le_refl _⟩
/-- A lower floor. -/
def Cx.low {f f' : Nat} (S : Cx f) (h : f' ≤ f) : Cx f' := ⟨S.m, S.n, S.ow, Nat.le_trans h S.le⟩
section up
variable {lq : List (Nat × Nat)}
theorem fz_up : ∀ i, S.fz i → (S.up lq).fz i ∧ (S.up lq).m.get i = S.m.get i := fun i ⟨h1, h2⟩ => ⟨⟨h1, by show sg lq (S.ow i) = 0; rw [h2]; rfl⟩, rfl⟩
theorem Rd.up (h : Rd A S v L) : Rd A (S.up lq) v L := RO.to h fz_up fz_up
theorem Wk.up0 (h : Wk A S id v L) (e : sg lq id = 0) : Rd A (S.up lq) v L := RO.to h (fun i hi => ⟨⟨hi.1, by show sg lq (S.ow i) = 0; rw [hi.2]; exact e⟩, rfl⟩) fz_up
theorem Ow.up0 (h : Ow A S id v L) (e : sg lq id = 0) : Rd A (S.up lq) v L := h.wk.up0 e
theorem Tw.up0 {r : Nat} {LL : List (List α)} (h : Tw A S id r v LL) (e : sg lq id = 0) (e' : sg lq r = 0) : Rd (Lay.sl A) (S.up lq) v LL :=
  h.ro (zo := (S.up lq).fz) (zi := (S.up lq).fz) (fun b hb => ⟨hb.1, by show sg lq (S.ow b) = 0; rw [hb.2]; exact e⟩) (fun i hi => ⟨hi.1, by
    show sg lq (S.ow i) = 0
    rcases hi.2 with h | h
    · rw [h]; exact e'
    · rw [h]; rfl⟩)
theorem Ow.low {f f' : Nat} {S' : Cx f} {hf : f' ≤ f} (h : Ow A S' id v L) : Ow A (S'.low hf) id v L := by
  rcases h with h | ⟨b, c', cs, h1, h2, h3, h4, h5, h6, h7, h8⟩
  · exact .inl h
  · exact .inr ⟨b, c', cs, h1, Nat.le_trans hf h2, h3, h4, h5, h6, h7, h8⟩
theorem Rd.low {f f' : Nat} {S' : Cx f} {hf : f' ≤ f} (h : Rd A S' v L) : Rd A (S'.low hf) v L := h
theorem Tw.low {f f' r : Nat} {S' : Cx f} {hf : f' ≤ f} {LL : List (List α)} (h : Tw A S' id r v LL) : Tw A (S'.low hf) id r v LL := by
  obtain ⟨H, h1, h2⟩ := h
  exact ⟨H, h1.low, h2.len, fun i w R a b e => (h2.row i w R a b e).low, h2.sep⟩
end up
theorem WO.callG0 {f : Operand} {xs : Array Operand} {ats : Array TypeId} {g : Nat} {caps : List (Nat × Nat)} {args : List AV} {R : AV → Cx S.n → Prop} (p q : List (Nat × Nat)) (hf : evK l f = some (.sc (.fn g caps))) (ha : xs.toList.mapM (evK l) = some args)
    (hr : Ret E S.n g (args ++ caps.map fun p => .sc (.ptr p.1 p.2)) S.m S.n (fun v m' n' => ∃ S' : Cx S.n, S'.m = m' ∧ S'.n = n' ∧ ChM (S.up p) S' ∧ R v S'))
    (h : ∀ v (S' : Cx S.n) (S1 : Cx fl), Bak p q S (S'.low S.le) S1 → R v S' → WO E loose fl lim ops os ((d, v) :: l) S1.m S1.n K) :
    WO E loose fl lim ops (⟨some d, .call ⟨.value f, xs, ats⟩, ty, pos, af, none⟩ :: os) l S.m S.n K := by
  have hS := S.le
  refine WO.call hf ha (Ret.use (by cases loose g <;> simp <;> omega) hr fun v m' n' hR _ => ?_)
  obtain ⟨S', rfl, rfl, hM, hR⟩ := hR
  have hC : ChM (S.mp p) (S'.low hS) := ⟨hM.n, hM.ow⟩
  obtain ⟨S1, hb⟩ := Bak.mk' p q hC
  have := h v S' S1 hb hR
  rw [hb.m, hb.n] at this
  exact this
theorem Bk.ren (h : Bk A S id v u) (j : Nat) (hk : Nat.beq id 0 = false := by rfl) (hj : Nat.beq j 0 = false := by rfl) : Bk A (S.ren id j) j v u := by
  have hk : id ≠ 0 := fun e => by subst e; cases hk
  have hj : j ≠ 0 := fun e => by subst e; cases hj
  obtain ⟨b, cs, h1, h2, h3, h4, h6, h8⟩ := h
  exact ⟨b, cs, h1, h2, h3, by simp only [Cx.ren]; rw [if_pos h4], h6, A.frame h8 (fz_ren id j hk hj)⟩
/-- A row is taken out in a drawn region, in which nothing is new as yet. -/
theorem WO.ldTn {r i : Nat} {R : List α} {LL : List (List α)} (j : Nat) (hx : evK l x = some (.sc (ptrAt v i 0))) (hs : Tw A S id r v LL) (hR : LL[i]? = some R) (hT : oneT E t = true) (hv : Lt v n0) (hl : limLe lim n0 = true) (hn : S.n = n0) (h1 : Nat.beq r 0 = false) (h2 : Nat.beq j 0 = false) (h3 : Nat.beq id r = false)
    (h : ∀ w S1, Ch r S S1 → Th A S1 id r v LL i w → Ow A S1 j w R → S1.n = n0 → RO A (fun i => i < n0 ∧ i < S1.n ∧ S1.ow i = j) S1.fz S1.m w R → WO E loose fl lim ops os ((d, .sc w) :: l) S1.m S1.n K) : WO E loose fl lim ops (⟨some d, .load t x, ty, pos, af, none⟩ :: os) l S.m S.n K := by
  obtain ⟨w, S1, e1, e2, hc, ho, hh⟩ := hs.take hR j h1 h2 h3
  have hn1 : S1.n = n0 := e2.trans hn
  have hz := ho.oz
  rw [hn1] at hz
  have hn := h w S1 hc hh ho hn1 (by rw [hn1]; exact hz)
  obtain ⟨H, g1, g2, g3⟩ := hh
  rw [← e1, ← e2]
  exact WO.ldH hx g1 g3 hT hv hl hn
end rules
end Go.Am

/- More rules: blocks whose cells are known one by one; calls that turn what they are given. -/
import Derived.Test.YtihmliblbhjlaaaDenG
set_option linter.unusedVariables false
namespace Go.Am

/-- A block that is k's: its cells. -/
def Bw {fl : Nat} (S : Cx fl) (k : Nat) (v : SV) (cs : List SV) : Prop := ∃ b, v = .ptr b 0 ∧ fl ≤ b ∧ b < S.n ∧ S.ow b = k ∧ S.m.get b = some cs
/-- A block that nobody writes: its cells. -/
def Rw {fl : Nat} (S : Cx fl) (v : SV) (cs : List SV) : Prop := ∃ b, v = .ptr b 0 ∧ S.fz b ∧ S.m.get b = some cs
/-- The same, as a callee is given it. -/
def Pw (n : Nat) (m : Mem) (v : SV) (cs : List SV) : Prop := ∃ b, v = .ptr b 0 ∧ b < n ∧ m.get b = some cs

section bw
variable {fl k j : Nat} {S S' : Cx fl} {v : SV} {cs : List SV}
theorem Bw.to (h : Bw S j v cs) (c : Ch k S S') (hk : Nat.beq k 0 = false := by rfl) (hj : Nat.beq j k = false := by rfl) : Bw S' j v cs := by
  obtain ⟨b, h1, h2, h3, h4, h5⟩ := h
  obtain ⟨q1, q2⟩ := c.ow b h3 (by rw [h4]; exact nb hj)
  exact ⟨b, h1, h2, Nat.lt_of_lt_of_le h3 c.n, by rw [q1]; exact h4, by rw [q2]; exact h5⟩
theorem Bw.drop (h : Bw S j v cs) (k : Nat) (hj : Nat.beq j k = false := by rfl) : Bw (S.drop k) j v cs := by
  obtain ⟨b, h1, h2, h3, h4, h5⟩ := h
  exact ⟨b, h1, h2, h3, by simp only [Cx.drop]; rw [if_neg (by rw [h4]; exact nb hj)]; exact h4, h5⟩
theorem Bw.renO {i : Nat} (h : Bw S i v cs) (k j : Nat) (hk : Nat.beq k 0 = false := by rfl) (hj : Nat.beq j 0 = false := by rfl) (hik : Nat.beq i k = false := by rfl) (hij : Nat.beq i j = false := by rfl) : Bw (S.ren k j) i v cs := by
  obtain ⟨b, h1, h2, h3, h4, h5⟩ := h
  exact ⟨b, h1, h2, h3, by simp only [Cx.ren]; rw [if_neg (by rw [h4]; exact nb hik), if_neg (by rw [h4]; exact nb hij)]; exact h4, h5⟩
theorem Bw.ren (h : Bw S k v cs) (j : Nat) (hk : Nat.beq k 0 = false := by rfl) (hj : Nat.beq j 0 = false := by rfl) : Bw (S.ren k j) j v cs := by
  obtain ⟨b, h1, h2, h3, h4, h5⟩ := h
  exact ⟨b, h1, h2, h3, by simp only [Cx.ren]; rw [if_pos h4], h5⟩
theorem Bw.freeze (h : Bw S k v cs) : Rw (S.drop k) v cs := by
  obtain ⟨b, h1, h2, h3, h4, h5⟩ := h
  exact ⟨b, h1, ⟨h3, by simp only [Cx.drop]; rw [if_pos h4]⟩, h5⟩
theorem Rw.to (h : Rw S v cs) (c : Ch k S S') (hk : Nat.beq k 0 = false := by rfl) : Rw S' v cs := by
  obtain ⟨b, h1, h2, h5⟩ := h
  obtain ⟨q1, q2⟩ := fz_ch c (nb hk) b h2
  exact ⟨b, h1, q1, by rw [q2]; exact h5⟩
theorem Rw.drop (h : Rw S v cs) (k : Nat) : Rw (S.drop k) v cs := by
  obtain ⟨b, h1, h2, h5⟩ := h
  exact ⟨b, h1, (fz_drop k b h2).1, h5⟩
theorem Rw.ren (h : Rw S v cs) (k j : Nat) (hk : Nat.beq k 0 = false := by rfl) (hj : Nat.beq j 0 = false := by rfl) : Rw (S.ren k j) v cs := by
  obtain ⟨b, h1, h2, h5⟩ := h
  exact ⟨b, h1, (fz_ren k j (nb hk) (nb hj) b h2).1, h5⟩
theorem Bw.isp (h : Bw S k v cs) : ∃ b, v = .ptr b 0 := by obtain ⟨b, h, _⟩ := h; exact ⟨b, h⟩
theorem Rw.isp (h : Rw S v cs) : ∃ b, v = .ptr b 0 := by obtain ⟨b, h, _⟩ := h; exact ⟨b, h⟩
theorem Bw.at0 (h : Bw S k v cs) : v = ptrAt v 0 0 := by obtain ⟨b, rfl, _⟩ := h; rfl
theorem Rw.at0 (h : Rw S v cs) : v = ptrAt v 0 0 := by obtain ⟨b, rfl, _⟩ := h; rfl
theorem Bw.ptr {j : Nat} (h : Bw S k v cs) : ∃ b o, ptrAt v j 0 = .ptr b o := by obtain ⟨b, rfl, _⟩ := h; exact ⟨_, _, rfl⟩
theorem Rw.ptr {j : Nat} (h : Rw S v cs) : ∃ b o, ptrAt v j 0 = .ptr b o := by obtain ⟨b, rfl, _⟩ := h; exact ⟨_, _, rfl⟩
theorem Bw.lt (h : Bw S k v cs) : Lt v S.n := by obtain ⟨b, rfl, _, h, _⟩ := h; intro c hc; cases hc; exact h
theorem Rw.lt (h : Rw S v cs) : Lt v S.n := by obtain ⟨b, rfl, h, _⟩ := h; intro c hc; cases hc; exact h.1
theorem Rd.lt {α : Type} {A : Lay α} {L : List α} (h : Rd A S v L) : Lt v S.n := by
  rcases h with ⟨h | h, _⟩ | ⟨i, o, c, cs, rfl, _, h, _⟩
  · subst h; intro c hc; cases hc
  · subst h; intro c hc; cases hc
  · intro c hc; cases hc; exact h.1
theorem Bw.pw (h : Bw S k v cs) : Pw S.n S.m v cs := by obtain ⟨b, h1, _, h3, _, h5⟩ := h; exact ⟨b, h1, h3, h5⟩
theorem Rw.pw (h : Rw S v cs) : Pw S.n S.m v cs := by obtain ⟨b, h1, h3, h5⟩ := h; exact ⟨b, h1, h3.1, h5⟩
theorem Pw.rwS {n : Nat} {m : Mem} {S : Cx n} (h : Pw n m v cs) (em : S.m = m) (hz : ∀ i, i < n → S.fz i) : Rw S v cs := by
  subst em
  obtain ⟨b, h1, h3, h5⟩ := h
  exact ⟨b, h1, hz b h3, h5⟩
end bw

section rules
variable {E : Env} {lo : List Nat} {fl : Nat} {loose : Nat → Bool} {lim : Option Nat} {ops : Array Oper} {os : List Oper}
variable {l : LE} {m : Mem} {n n0 : Nat} {K : LE → Mem → Nat → Prop}
variable {d : Nat} {ty t : TypeId} {pos : String} {af : Array Edge} {x y : Operand} {v w : SV} {k k' : IntKind}
variable {S : Cx fl} {q : Nat} {s : SV} {cs : List SV} {id : Nat} {p : SV}

theorem WO.ld0 {b : Nat} (hx : evK l x = some (.sc (.ptr b q))) (hb : m.get b = some cs) (hc : cs[q]? = some s) (hT : oneT E t = true) (hl : limOk lim b = true)
    (h : WO E loose fl lim ops os ((d, .sc s) :: l) m n K) : WO E loose fl lim ops (⟨some d, .load t x, ty, pos, af, none⟩ :: os) l m n K := ⟨fun tt ht => by
  obtain ⟨y, h1, h2, h3, _⟩ := oneT_ok hT
  refine W_op2 ?_ (h.put ht)
  simp only [opA, evK_ev ht hx, loadA, hl, if_true, hb, part, h1, h2, h3, or_self, if_false, hc, Option.map_some]⟩
theorem WO.ld0A {b sz : Nat} (hx : evK l x = some (.sc (.ptr b q))) (hb : m.get b = some cs) (hc : q + sz ≤ cs.length) (hT : aggT E t sz = true) (hl : limOk lim b = true)
    (h : WO E loose fl lim ops os ((d, .agg ((cs.drop q).take sz)) :: l) m n K) : WO E loose fl lim ops (⟨some d, .load t x, ty, pos, af, none⟩ :: os) l m n K := ⟨fun tt ht => by
  obtain ⟨y, h1, h2, h3, _⟩ := aggT_ok hT
  refine W_op2 ?_ (h.put ht)
  simp only [opA, evK_ev ht hx, loadA, hl, if_true, hb, part, h1, h2, h3, hc, Option.map_some]⟩
/-- A cell. -/
theorem WO.ldW (hx : evK l x = some (.sc p)) (hp : p = ptrAt v 0 q) (hs : Bw S id v cs) (hc : cs[q]? = some s) (hT : oneT E t = true) (hv : Lt v n0) (hl : limLe lim n0 = true)
    (h : WO E loose fl lim ops os ((d, .sc s) :: l) S.m S.n K) : WO E loose fl lim ops (⟨some d, .load t x, ty, pos, af, none⟩ :: os) l S.m S.n K := by
  subst hp
  obtain ⟨b, rfl, _, h4, _, h5⟩ := hs
  exact WO.ld0 (by simpa [ptrAt] using hx) h5 hc hT (hv.lim hl rfl) h
theorem WO.ldRw (hx : evK l x = some (.sc p)) (hp : p = ptrAt v 0 q) (hs : Rw S v cs) (hc : cs[q]? = some s) (hT : oneT E t = true) (hv : Lt v n0) (hl : limLe lim n0 = true)
    (h : WO E loose fl lim ops os ((d, .sc s) :: l) S.m S.n K) : WO E loose fl lim ops (⟨some d, .load t x, ty, pos, af, none⟩ :: os) l S.m S.n K := by
  subst hp
  obtain ⟨b, rfl, h4, h5⟩ := hs
  exact WO.ld0 (by simpa [ptrAt] using hx) h5 hc hT (hv.lim hl rfl) h
/-- A struct within. -/
theorem WO.ldWA {sz : Nat} {r : List SV} (hx : evK l x = some (.sc p)) (hp : p = ptrAt v 0 q) (hs : Bw S id v cs) (hr : (cs.drop q).take sz = r) (hc : Nat.ble (q + sz) cs.length = true) (hT : aggT E t sz = true) (hv : Lt v n0) (hl : limLe lim n0 = true)
    (h : WO E loose fl lim ops os ((d, .agg r) :: l) S.m S.n K) : WO E loose fl lim ops (⟨some d, .load t x, ty, pos, af, none⟩ :: os) l S.m S.n K := by
  subst hp; subst hr
  obtain ⟨b, rfl, _, h4, _, h5⟩ := hs
  exact WO.ld0A (by simpa [ptrAt] using hx) h5 (Nat.le_of_ble_eq_true hc) hT (hv.lim hl rfl) h
theorem WO.ldRwA {sz : Nat} {r : List SV} (hx : evK l x = some (.sc p)) (hp : p = ptrAt v 0 q) (hs : Rw S v cs) (hr : (cs.drop q).take sz = r) (hc : Nat.ble (q + sz) cs.length = true) (hT : aggT E t sz = true) (hv : Lt v n0) (hl : limLe lim n0 = true)
    (h : WO E loose fl lim ops os ((d, .agg r) :: l) S.m S.n K) : WO E loose fl lim ops (⟨some d, .load t x, ty, pos, af, none⟩ :: os) l S.m S.n K := by
  subst hp; subst hr
  obtain ⟨b, rfl, h4, h5⟩ := hs
  exact WO.ld0A (by simpa [ptrAt] using hx) h5 (Nat.le_of_ble_eq_true hc) hT (hv.lim hl rfl) h
/-- A store of cells. -/
theorem WO.stW {av : AV} {vc r : List SV} {yt : Ty} (hx : evK l x = some (.sc p)) (hp : p = ptrAt v 0 q) (hy : evK l y = some av) (hc : av.cells? = some vc) (hs : Bw S id v cs) (hT : E.ty t = some yt) (hz : Nat.beq vc.length yt.size = true) (hle : Nat.ble (q + vc.length) cs.length = true) (hr : splice cs q vc = r) (hid : Nat.beq id 0 = false)
    (h : ∀ S', Ch id S S' → Bw S' id v r → WO E loose fl lim ops os l S'.m S'.n K) : WO E loose fl lim ops (⟨none, .store t x y, ty, pos, af, none⟩ :: os) l S.m S.n K := ⟨fun tt ht => by
  subst hp; subst hr
  obtain ⟨b, rfl, h1, h2, h3, h4⟩ := hs
  have hch : Ch id S (⟨S.m.set b (splice cs q vc), S.n, S.ow, S.le⟩ : Cx fl) := ⟨Nat.le_refl _, fun i hi hk => ⟨rfl, Tr.get_set_ne _ _ (fun e => hk (by rw [e]; exact h3))⟩⟩
  refine W_op2 (v := .tup []) (m' := S.m.set b (splice cs q vc)) (n' := S.n) ?_ ((h ⟨S.m.set b (splice cs q vc), S.n, S.ow, S.le⟩ hch ⟨b, rfl, h1, h2, h3, Tr.get_set_same _ _ _⟩).ok tt ht)
  have e : evK l x = some (.sc (.ptr b q)) := by simpa [ptrAt] using hx
  simp only [opA, evK_ev ht e, evK_ev ht hy, storeA, hc, hT]
  rw [if_pos ⟨h1, Nat.eq_of_beq_eq_true hz⟩, h4]
  simp only
  rw [if_pos (Nat.le_of_ble_eq_true hle)]; rfl⟩
/-- A new block. -/
theorem Bw.fresh (hid : id ≠ 0) : ∃ S' : Cx fl, S'.m = S.m.set S.n cs ∧ S'.n = S.n + 1 ∧ Ch id S S' ∧ Bw S' id (.ptr S.n 0) cs := by
  have hS := S.le
  exact ⟨⟨S.m.set S.n cs, S.n + 1, fun i => if i = S.n then id else S.ow i, by omega⟩, rfl, rfl, ⟨by simp, fun i hi hk => ⟨by simp only; rw [if_neg (by omega)], Tr.get_set_ne _ _ (by omega)⟩⟩, S.n, rfl, hS, by simp, by simp, Tr.get_set_same _ _ _⟩
theorem WO.alW {yt : Ty} (id : Nat) (hT : E.ty t = some yt) (hz : yt.zero = cs) (hid : Nat.beq id 0 = false)
    (h : ∀ b S', Ch id S S' → Bw S' id (.ptr b 0) cs → WO E loose fl lim ops os ((d, .sc (.ptr b 0)) :: l) S'.m S'.n K) : WO E loose fl lim ops (⟨some d, .alloc t, ty, pos, af, none⟩ :: os) l S.m S.n K := ⟨fun tt ht => by
  subst hz
  obtain ⟨S', e1, e2, h7, h8⟩ := Bw.fresh (S := S) (cs := yt.zero) (nb hid)
  exact W_op2 (m' := S'.m) (n' := S'.n) (by simp only [opA, hT, e1, e2]) ((h _ S' h7 h8).put ht)⟩
theorem WO.bxW {av : AV} (id : Nat) (hx : evK l x = some av) (hc : av.cells? = some cs) (hid : Nat.beq id 0 = false)
    (h : ∀ b S', Ch id S S' → Bw S' id (.ptr b 0) cs → WO E loose fl lim ops os ((d, .sc (.ptr b 0)) :: l) S'.m S'.n K) : WO E loose fl lim ops (⟨some d, .box t x, ty, pos, af, none⟩ :: os) l S.m S.n K := ⟨fun tt ht => by
  obtain ⟨S', e1, e2, h7, h8⟩ := Bw.fresh (S := S) (cs := cs) (nb hid)
  exact W_op2 (m' := S'.m) (n' := S'.n) (by simp only [opA, evK_ev ht hx, hc, e1, e2]) ((h _ S' h7 h8).put ht)⟩
theorem WO.nckB {b : Nat} (hx : evK l x = some (.sc (.ptr b q))) (h : WO E loose fl lim ops os ((d, .sc (.ptr b q)) :: l) m n K) : WO E loose fl lim ops (⟨some d, .nilCheck x, ty, pos, af, none⟩ :: os) l m n K := ⟨fun tt ht =>
  W_op2 (by simp only [opA, evK_ev ht hx]) (h.put ht)⟩
theorem WO.nckB0 {b : Nat} (hx : evK l x = some (.sc (.ptr b q))) (h : WO E loose fl lim ops os l m n K) : WO E loose fl lim ops (⟨none, .nilCheck x, ty, pos, af, none⟩ :: os) l m n K := ⟨fun tt ht =>
  W_op2 (v := .sc (.ptr b q)) (by simp only [opA, evK_ev ht hx]) (h.ok tt ht)⟩
end rules

/-! ### Calls that turn what they are given -/
/-- From S0 to S what was not given has not turned. -/
structure ChM {fl : Nat} (S S' : Cx fl) : Prop where
  n : S.n ≤ S'.n
  ow : ∀ i, i < S.n → (S.ow i = 0 ∨ 1000 ≤ S.ow i) → S'.ow i = S.ow i ∧ S'.m.get i = S.m.get i
/-- The caller's numbers as the callee sees them. -/
def lkp : List (Nat × Nat) → Nat → Option Nat
  | [], _ => none
  | (a, b) :: r, o => if Nat.beq a o then some b else lkp r o
def sg (l : List (Nat × Nat)) (o : Nat) : Nat := if Nat.beq o 0 then 0 else (lkp l o).getD (o + 1000)
def tk (l : List (Nat × Nat)) (o : Nat) : Nat := if Nat.beq o 0 then 0 else (lkp l o).getD 1
def Cx.mp {fl : Nat} (S : Cx fl) (l : List (Nat × Nat)) : Cx fl := ⟨S.m, S.n, fun i => sg l (S.ow i), S.le⟩
/-- None becomes nobody's. -/
def Strict (l : List (Nat × Nat)) : Bool := l.all fun p => p.2 != 0

section chm
variable {fl k j : Nat} {S S0 S1 S' : Cx fl} {v : SV} {l q : List (Nat × Nat)}
theorem ChM.refl (S : Cx fl) : ChM S S := ⟨Nat.le_refl _, fun _ _ _ => ⟨rfl, rfl⟩⟩
theorem ChM.to (h : ChM S0 S) (c : Ch k S S') (hk : Nat.beq k 0 = false := by rfl) (hk2 : Nat.blt k 1000 = true := by rfl) : ChM S0 S' :=
  ⟨Nat.le_trans h.n c.n, fun i hi ho => by
    obtain ⟨h1, h2⟩ := h.ow i hi ho
    have hlt : k < 1000 := Nat.le_of_ble_eq_true hk2
    obtain ⟨h3, h4⟩ := c.ow i (Nat.lt_of_lt_of_le hi h.n) (by rw [h1]; have := nb hk; omega)
    exact ⟨h3.trans h1, h4.trans h2⟩⟩
theorem ChM.drop (h : ChM S0 S) (k : Nat) (hk : Nat.beq k 0 = false := by rfl) (hk2 : Nat.blt k 1000 = true := by rfl) : ChM S0 (S.drop k) :=
  ⟨h.n, fun i hi ho => by
    obtain ⟨h1, h2⟩ := h.ow i hi ho
    have hlt : k < 1000 := Nat.le_of_ble_eq_true hk2
    refine ⟨?_, h2⟩
    show (if S.ow i = k then 0 else S.ow i) = _
    rw [if_neg (by rw [h1]; have := nb hk; omega)]; exact h1⟩
theorem ChM.renO (h : ChM S0 S) (k j : Nat) (hk : Nat.beq k 0 = false := by rfl) (hj : Nat.beq j 0 = false := by rfl) (hk2 : Nat.blt k 1000 = true := by rfl) (hj2 : Nat.blt j 1000 = true := by rfl) : ChM S0 (S.ren k j) :=
  ⟨h.n, fun i hi ho => by
    obtain ⟨h1, h2⟩ := h.ow i hi ho
    have hlt : k < 1000 := Nat.le_of_ble_eq_true hk2
    have hlt2 : j < 1000 := Nat.le_of_ble_eq_true hj2
    refine ⟨?_, h2⟩
    show (if S.ow i = k then j else if S.ow i = j then 1 else S.ow i) = _
    rw [if_neg (by rw [h1]; have := nb hk; omega), if_neg (by rw [h1]; have := nb hj; omega)]; exact h1⟩

theorem fz_mp : ∀ i, S.fz i → (S.mp l).fz i ∧ (S.mp l).m.get i = S.m.get i := fun i ⟨h1, h2⟩ => ⟨⟨h1, by show sg l (S.ow i) = 0; rw [h2]; rfl⟩, rfl⟩
variable {α : Type} {A : Lay α} {L : List α} {LL : List (List α)} {cs : List SV}
theorem Rd.mp (h : Rd A S v L) : Rd A (S.mp l) v L := RO.to h fz_mp fz_mp
theorem Ow.mp (h : Ow A S k v L) (e : sg l k = j) : Ow A (S.mp l) j v L := by
  rcases h with h | ⟨b, c', cs, h1, h2, h3, h4, h5, h6, h7, h8⟩
  · exact .inl h
  · exact .inr ⟨b, c', cs, h1, h2, h3, by show sg l (S.ow b) = j; rw [h4]; exact e, h5, h6, h7, h8.frame fz_mp⟩
theorem Wk.mp0 (h : Wk A S k v L) (e : sg l k = 0) : Rd A (S.mp l) v L := RO.to h (fun i hi => ⟨⟨hi.1, by show sg l (S.ow i) = 0; rw [hi.2]; exact e⟩, rfl⟩) fz_mp
theorem Ow.mp0 (h : Ow A S k v L) (e : sg l k = 0) : Rd A (S.mp l) v L := h.wk.mp0 e
theorem Iw.mp0 {n b : Nat} {m : Mem} (h : Iw A S k n b m v L) (e : sg l k = 0) : Rd A (S.mp l) v L := h.wk.mp0 e
theorem Tw.mp {r r' : Nat} (h : Tw A S k r v LL) (e : sg l k = j) (e' : sg l r = r') : Tw A (S.mp l) j r' v LL := by
  obtain ⟨H, h1, h2⟩ := h
  exact ⟨H, h1.mp e, h2.len, fun i w R a b c => (h2.row i w R a b c).mp e', h2.sep⟩
theorem Tw.mp0 {r : Nat} (h : Tw A S k r v LL) (e : sg l k = 0) (e' : sg l r = 0) : Rd (Lay.sl A) (S.mp l) v LL :=
  h.ro (zo := (S.mp l).fz) (zi := (S.mp l).fz) (fun b hb => ⟨hb.1, by show sg l (S.ow b) = 0; rw [hb.2]; exact e⟩) (fun i hi => ⟨hi.1, by
    show sg l (S.ow i) = 0
    rcases hi.2 with h | h
    · rw [h]; exact e'
    · rw [h]; rfl⟩)
theorem Bw.mp (h : Bw S k v cs) (e : sg l k = j) : Bw (S.mp l) j v cs := by
  obtain ⟨b, h1, h2, h3, h4, h5⟩ := h
  exact ⟨b, h1, h2, h3, by show sg l (S.ow b) = j; rw [h4]; exact e, h5⟩
theorem Bw.mp0 (h : Bw S k v cs) (e : sg l k = 0) : Rw (S.mp l) v cs := by
  obtain ⟨b, h1, h2, h3, h4, h5⟩ := h
  exact ⟨b, h1, ⟨h3, by show sg l (S.ow b) = 0; rw [h4]; exact e⟩, h5⟩
theorem Rw.mp (h : Rw S v cs) : Rw (S.mp l) v cs := by
  obtain ⟨b, h1, h2, h5⟩ := h
  exact ⟨b, h1, (fz_mp b h2).1, h5⟩
theorem Bk.mp {u : α} (h : Bk A S k v u) (e : sg l k = j) : Bk A (S.mp l) j v u := by
  obtain ⟨b, cs, h1, h2, h3, h4, h6, h8⟩ := h
  exact ⟨b, cs, h1, h2, h3, by show sg l (S.ow b) = j; rw [h4]; exact e, h6, A.frame h8 fz_mp⟩
theorem Bk.mp0 {u : α} (h : Bk A S k v u) (e : sg l k = 0) : Rp A (S.mp l) v u := by
  obtain ⟨b, cs, h1, h2, h3, h4, h6, h8⟩ := h
  exact ⟨b, cs, h1, ⟨h3, by show sg l (S.ow b) = 0; rw [h4]; exact e⟩, h6, A.frame h8 fz_mp⟩
theorem Rp.mp {u : α} (h : Rp A S v u) : Rp A (S.mp l) v u := by
  obtain ⟨b, cs, e, h1, h2, h3⟩ := h
  exact ⟨b, cs, e, (fz_mp b h1).1, h2, A.frame h3 fz_mp⟩

/-- The caller's state again. -/
structure Bak (l q : List (Nat × Nat)) (S S' S1 : Cx fl) : Prop where
  m : S1.m = S'.m
  n : S1.n = S'.n
  le : S.n ≤ S'.n
  old : ∀ i, i < S.n → (sg l (S.ow i) = 0 ∨ 1000 ≤ sg l (S.ow i)) → S1.ow i = S.ow i ∧ S'.ow i = sg l (S.ow i) ∧ S'.m.get i = S.m.get i
  new : ∀ i, ¬ (i < S.n ∧ (sg l (S.ow i) = 0 ∨ 1000 ≤ sg l (S.ow i))) → S1.ow i = tk q (S'.ow i)
theorem Bak.mk' (l q : List (Nat × Nat)) (h : ChM (S.mp l) S') : ∃ S1 : Cx fl, Bak l q S S' S1 := by
  refine ⟨⟨S'.m, S'.n, fun i => if i < S.n ∧ (sg l (S.ow i) = 0 ∨ 1000 ≤ sg l (S.ow i)) then S.ow i else tk q (S'.ow i), S'.le⟩, rfl, rfl, h.n, fun i h1 h2 => ⟨if_pos ⟨h1, h2⟩, h.ow i h1 h2⟩, fun i hi => if_neg hi⟩
/-- A block that the callee has as its own, under 1000. -/
theorem Bak.own (hb : Bak l q S S' S1) {b : Nat} (h1 : S'.ow b = j) (hj : Nat.beq j 0 = false) (hj2 : Nat.blt j 1000 = true) : S1.ow b = tk q j := by
  have hlt : j < 1000 := Nat.le_of_ble_eq_true hj2
  rw [← h1]
  refine hb.new b fun ⟨h2, h3⟩ => ?_
  have := (hb.old b h2 h3).2.1
  have := nb hj
  omega
theorem Bak.fz (hb : Bak l q S S' S1) (hs : Strict l = true) : ∀ i, S'.fz i → S1.fz i ∧ S1.m.get i = S'.m.get i := fun i ⟨h1, h2⟩ => by
  refine ⟨⟨by rw [hb.n]; exact h1, ?_⟩, by rw [hb.m]⟩
  by_cases hc : i < S.n ∧ (sg l (S.ow i) = 0 ∨ 1000 ≤ sg l (S.ow i))
  · obtain ⟨e1, e2, _⟩ := hb.old i hc.1 hc.2
    rw [e1]
    rw [h2] at e2
    -- strict: only 0 goes to 0
    have key : ∀ (l : List (Nat × Nat)) (o : Nat), Strict l = true → 0 = sg l o → o = 0 := by
      intro l o hs h
      unfold sg at h
      by_cases h0 : Nat.beq o 0 = true
      · exact Nat.eq_of_beq_eq_true h0
      · rw [if_neg h0] at h
        exfalso
        induction l with
        | nil => simp [lkp] at h
        | cons p r ih =>
          obtain ⟨a, b⟩ := p
          simp only [Strict, List.all_cons, Bool.and_eq_true, bne_iff_ne, ne_eq] at hs
          simp only [lkp] at h
          split at h
          · simp only [Option.getD_some] at h; exact hs.1 h.symm
          · exact ih (by simpa [Strict] using hs.2) h
    exact key l _ hs e2
  · rw [hb.new i hc, h2]; rfl
theorem Ow.bkF (h : Ow A S' j v L) (hb : Bak l q S S' S1) (e : tk q j = k) (hA : A.Fl) (hj : Nat.beq j 0 = false := by rfl) (hj2 : Nat.blt j 1000 = true := by rfl) : Ow A S1 k v L := by
  rcases h with h | ⟨b, c', cs, h1, h2, h3, h4, h5, h6, h7, h8⟩
  · exact .inl h
  · exact .inr ⟨b, c', cs, h1, h2, by rw [hb.n]; exact h3, by rw [hb.own h4 hj hj2]; exact e, h5, by rw [hb.m]; exact h6, h7, h8.fl hA⟩
theorem Ow.bkS (h : Ow A S' j v L) (hb : Bak l q S S' S1) (e : tk q j = k) (hs : Strict l = true) (hj : Nat.beq j 0 = false := by rfl) (hj2 : Nat.blt j 1000 = true := by rfl) : Ow A S1 k v L := by
  rcases h with h | ⟨b, c', cs, h1, h2, h3, h4, h5, h6, h7, h8⟩
  · exact .inl h
  · exact .inr ⟨b, c', cs, h1, h2, by rw [hb.n]; exact h3, by rw [hb.own h4 hj hj2]; exact e, h5, by rw [hb.m]; exact h6, h7, h8.frame (hb.fz hs)⟩
theorem Rd.bkS (h : Rd A S' v L) (hb : Bak l q S S' S1) (hs : Strict l = true) : Rd A S1 v L := RO.to h (hb.fz hs) (hb.fz hs)
theorem Tw.bkF {r r' : Nat} (h : Tw A S' j r' v LL) (hb : Bak l q S S' S1) (e : tk q j = k) (e' : tk q r' = r) (hA : A.Fl) (hj : Nat.beq j 0 = false := by rfl) (hj2 : Nat.blt j 1000 = true := by rfl) (hr : Nat.beq r' 0 = false := by rfl) (hr2 : Nat.blt r' 1000 = true := by rfl) : Tw A S1 k r v LL := by
  obtain ⟨H, h1, h2⟩ := h
  exact ⟨H, h1.bkF hb e Lay.flat_fl hj hj2, h2.len, fun i w R a b c => (h2.row i w R a b c).bkF hb e' hA hr hr2, h2.sep⟩
theorem Bw.bk (h : Bw S' j v cs) (hb : Bak l q S S' S1) (e : tk q j = k) (hj : Nat.beq j 0 = false := by rfl) (hj2 : Nat.blt j 1000 = true := by rfl) : Bw S1 k v cs := by
  obtain ⟨b, h1, h2, h3, h4, h5⟩ := h
  exact ⟨b, h1, h2, by rw [hb.n]; exact h3, by rw [hb.own h4 hj hj2]; exact e, by rw [hb.m]; exact h5⟩
theorem Bk.bkF {u : α} (h : Bk A S' j v u) (hb : Bak l q S S' S1) (e : tk q j = k) (hA : A.Fl) (hj : Nat.beq j 0 = false := by rfl) (hj2 : Nat.blt j 1000 = true := by rfl) : Bk A S1 k v u := by
  obtain ⟨b, cs, h1, h2, h3, h4, h6, h8⟩ := h
  exact ⟨b, cs, h1, h2, by rw [hb.n]; exact h3, by rw [hb.own h4 hj hj2]; exact e, by rw [hb.m]; exact h6, hA _ _ _ _ _ _ h8⟩
theorem Bk.bkS {u : α} (h : Bk A S' j v u) (hb : Bak l q S S' S1) (e : tk q j = k) (hs : Strict l = true) (hj : Nat.beq j 0 = false := by rfl) (hj2 : Nat.blt j 1000 = true := by rfl) : Bk A S1 k v u := by
  obtain ⟨b, cs, h1, h2, h3, h4, h6, h8⟩ := h
  exact ⟨b, cs, h1, h2, by rw [hb.n]; exact h3, by rw [hb.own h4 hj hj2]; exact e, by rw [hb.m]; exact h6, A.frame h8 (hb.fz hs)⟩

/-- All of ks become k0's. -/
def Cx.mgs : List Nat → Nat → Cx fl → Cx fl
  | [], _, S => S
  | j :: r, k0, S => Cx.mgs r k0 (S.mg j k0)
theorem Cx.mgs_mn (k0 : Nat) : ∀ (ks : List Nat) (S : Cx fl), (Cx.mgs ks k0 S).m = S.m ∧ (Cx.mgs ks k0 S).n = S.n
  | [], S => ⟨rfl, rfl⟩
  | j :: r, S => Cx.mgs_mn k0 r (S.mg j k0)
theorem Cx.mgs_ow (k0 : Nat) : ∀ (ks : List Nat) (S : Cx fl) (i : Nat), (Cx.mgs ks k0 S).ow i ≠ k0 → (Cx.mgs ks k0 S).ow i = S.ow i ∧ S.ow i ≠ k0 ∧ S.ow i ∉ ks
  | [], S, i, h => ⟨rfl, h, by simp⟩
  | j :: r, S, i, h => by
    obtain ⟨h1, h2, h3⟩ := Cx.mgs_ow k0 r (S.mg j k0) i h
    have e : (S.mg j k0).ow i = if S.ow i = j then k0 else S.ow i := rfl
    by_cases hj : S.ow i = j
    · rw [e, if_pos hj] at h2; exact (h2 rfl).elim
    · rw [e, if_neg hj] at h1 h2 h3
      exact ⟨h1, h2, by simp [hj, h3]⟩
def mgOk (l : List (Nat × Nat)) (ks : List Nat) (k0 : Nat) : Bool := l.all fun p => p.2 == 0 || p.1 == k0 || ks.contains p.1
theorem Bak.ch (hb : Bak l q S S' S1) (ks : List Nat) (k0 : Nat) (h : mgOk l ks k0 = true := by rfl) : Ch k0 (Cx.mgs ks k0 S) S1 := by
  obtain ⟨e1, e2⟩ := Cx.mgs_mn k0 ks S
  refine ⟨by rw [e2, hb.n]; exact hb.le, fun i hi hk => ?_⟩
  rw [e2] at hi
  obtain ⟨h1, h2, h3⟩ := Cx.mgs_ow k0 ks S i hk
  have key : ∀ (l : List (Nat × Nat)) (o : Nat), mgOk l ks k0 = true → o ≠ k0 → o ∉ ks → sg l o = 0 ∨ 1000 ≤ sg l o := by
    intro l o hm h2 h3
    unfold sg
    by_cases h0 : Nat.beq o 0 = true
    · rw [if_pos h0]; exact .inl rfl
    · rw [if_neg h0]
      induction l with
      | nil => right; simp [lkp]
      | cons p r ih =>
        obtain ⟨a, b⟩ := p
        simp only [mgOk, List.all_cons, Bool.and_eq_true, Bool.or_eq_true, beq_iff_eq] at hm
        simp only [lkp]
        split
        · rename_i e
          have e : a = o := Nat.eq_of_beq_eq_true e
          subst e
          rcases hm.1 with (h | h) | h
          · left; simpa using h
          · exact (h2 h).elim
          · exact (h3 (by simpa using h)).elim
        · exact ih (by simpa [mgOk] using hm.2)
  obtain ⟨g1, _, g3⟩ := hb.old i hi (key l _ h h2 h3)
  exact ⟨by rw [g1, h1], by rw [hb.m, e1]; exact g3⟩
end chm

section rules
variable {E : Env} {lo : List Nat} {fl : Nat} {loose : Nat → Bool} {lim : Option Nat} {ops : Array Oper} {os : List Oper}
variable {l : LE} {m : Mem} {n n0 : Nat} {K : LE → Mem → Nat → Prop}
variable {d : Nat} {ty t : TypeId} {pos : String} {af : Array Edge} {S : Cx fl}
/-- A call that turns what it is given. -/
theorem WO.callG {f : Operand} {xs : Array Operand} {ats : Array TypeId} {g : Nat} {caps : List (Nat × Nat)} {args : List AV} {R : AV → Cx fl → Prop} (p q : List (Nat × Nat)) (hf : evK l f = some (.sc (.fn g caps))) (ha : xs.toList.mapM (evK l) = some args)
    (hr : Ret E fl g (args ++ caps.map fun p => .sc (.ptr p.1 p.2)) S.m S.n (fun v m' n' => ∃ S' : Cx fl, S'.m = m' ∧ S'.n = n' ∧ ChM (S.mp p) S' ∧ R v S'))
    (h : ∀ v S' S1, Bak p q S S' S1 → R v S' → WO E loose fl lim ops os ((d, v) :: l) S1.m S1.n K) (hl : loose g = false := by rfl) :
    WO E loose fl lim ops (⟨some d, .call ⟨.value f, xs, ats⟩, ty, pos, af, none⟩ :: os) l S.m S.n K := by
  refine WO.call hf ha ?_
  rw [hl]; simp only [Bool.false_eq_true, if_false]
  refine hr.mono ?_
  rintro v m' n' ⟨S', rfl, rfl, hM, hR⟩
  obtain ⟨S1, hb⟩ := Bak.mk' p q hM
  have := h v S' S1 hb hR
  rw [hb.m, hb.n] at this
  exact this
end rules
end Go.Am

/- Rules: More rules: views of own slices, copy, append of zeros, make with a capacity. More rules: cells that a function value refers to. More rules: functions that turn a slice of theirs in place. More rules: lists of rows whose rows are owned as well. More rules: blocks whose cells are known one by one; calls that turn what they are given. Regions in which an 'append' stands beside what reads: what is known of the blocks when they are over. Results that are read out of cells. Rules: an own slice by its raw header, cell by cell; what slices.Compact, CompactFunc and Grow ask. Rules: maps; regions in which a call turns what is old beside a load. -/
import Derived.Test.YtihmliblbhjlaaaDenB
namespace Go.Am

/-- A view of what is k's. -/
def Wk {α : Type} {fl : Nat} (A : Lay α) (S : Cx fl) (k : Nat) (v : SV) (L : List α) : Prop := RO A (fun i => i < S.n ∧ S.ow i = k) S.fz S.m v L

section wk
variable {α : Type} {A : Lay α} {fl k j : Nat} {S S' : Cx fl} {v : SV} {L : List α}
theorem Ow.wk (h : Ow A S k v L) : Wk A S k v L := RO.to h.oz (fun _ h => ⟨h.2, rfl⟩) (fun _ h => ⟨h, rfl⟩)
theorem Wk.slv (h : Wk A S k v L) : SlV v A.sz L.length := RO.slv h
theorem Wk.ro (h : Wk A S k v L) : RO A (fun i => i < S.n) S.fz S.m v L := RO.to h (fun _ h => ⟨h.1, rfl⟩) (fun _ h => ⟨h, rfl⟩)
theorem Wk.oz (h : Wk A S k v L) : RO A (fun i => i < S.n ∧ i < S.n ∧ S.ow i = k) S.fz S.m v L := RO.to h (fun _ h => ⟨⟨h.1, h⟩, rfl⟩) (fun _ h => ⟨h, rfl⟩)
theorem Wk.vw (h : Wk A S k v L) : Vw A S.n S.m v L := RO.to h.ro (fun _ h => ⟨h, rfl⟩) (fun _ h => ⟨h.1, rfl⟩)
theorem Wk.to (h : Wk A S j v L) (c : Ch k S S') (hk : Nat.beq k 0 = false := by rfl) (hj : Nat.beq j k = false := by rfl) : Wk A S' j v L := by
  have hk : k ≠ 0 := fun e => by subst e; cases hk
  have hj : j ≠ k := fun e => by subst e; rw [show Nat.beq j j = true by simp] at hj; cases hj
  refine RO.to h (fun i hi => ?_) (fz_ch c hk)
  obtain ⟨h1, h2⟩ := c.ow i hi.1 (by omega)
  exact ⟨⟨Nat.lt_of_lt_of_le hi.1 c.n, by rw [h1]; exact hi.2⟩, h2⟩
theorem fz_drop (k : Nat) : ∀ i, S.fz i → (S.drop k).fz i ∧ (S.drop k).m.get i = S.m.get i := fun i ⟨h1, h2⟩ => ⟨⟨h1, by simp only [Cx.drop]; split; rfl; exact h2⟩, rfl⟩
theorem Wk.drop (h : Wk A S j v L) (k : Nat) (hj : Nat.beq j k = false := by rfl) : Wk A (S.drop k) j v L := by
  have hj : j ≠ k := fun e => by subst e; rw [show Nat.beq j j = true by simp] at hj; cases hj
  exact RO.to h (fun i hi => ⟨⟨hi.1, by simp only [Cx.drop]; rw [if_neg (by omega)]; exact hi.2⟩, rfl⟩) (fz_drop k)
theorem Wk.renO {i : Nat} (h : Wk A S i v L) (k j : Nat) (hk : Nat.beq k 0 = false := by rfl) (hj : Nat.beq j 0 = false := by rfl) (hik : Nat.beq i k = false := by rfl) (hij : Nat.beq i j = false := by rfl) : Wk A (S.ren k j) i v L := by
  have hk : k ≠ 0 := fun e => by subst e; cases hk
  have hj : j ≠ 0 := fun e => by subst e; cases hj
  have hik : i ≠ k := fun e => by subst e; rw [show Nat.beq i i = true by simp] at hik; cases hik
  have hij : i ≠ j := fun e => by subst e; rw [show Nat.beq i i = true by simp] at hij; cases hij
  exact RO.to h (fun q hq => ⟨⟨hq.1, by simp only [Cx.ren]; rw [if_neg (by omega), if_neg (by omega)]; exact hq.2⟩, rfl⟩) (fz_ren k j hk hj)
theorem Wk.freeze (h : Wk A S k v L) : Rd A (S.drop k) v L := RO.to h (fun i hi => ⟨⟨hi.1, by simp only [Cx.drop]; rw [if_pos hi.2]⟩, rfl⟩) (fz_drop k)
end wk

section rules
variable {E : Env} {lo : List Nat} {fl : Nat} {loose : Nat → Bool} {lim : Option Nat} {ops : Array Oper} {os : List Oper}
variable {l : LE} {m : Mem} {n : Nat} {K : LE → Mem → Nat → Prop}
variable {d : Nat} {ty t t1 : TypeId} {pos : String} {af : Array Edge} {x y i : Operand} {v w : SV} {k k' : IntKind} {a b : Int}
variable {α : Type} {A : Lay α} {S : Cx fl} {L L' M : List α} {j q : Nat} {u : α} {s : SV} {id : Nat}

end rules
end Go.Am

namespace Go.Am

/-- A cell that a callee reads. -/
def Pv {α : Type} (A : Lay α) (n : Nat) (m : Mem) (b : Nat) (u : α) : Prop := b < n ∧ ∃ cs, m.get b = some cs ∧ A.R (fun i => i < n) m u cs
/-- A cell that nobody writes. -/
def Rp {α : Type} {fl : Nat} (A : Lay α) (S : Cx fl) (v : SV) (u : α) : Prop := ∃ b cs, v = .ptr b 0 ∧ S.fz b ∧ S.m.get b = some cs ∧ A.R S.fz S.m u cs

section rp
variable {α : Type} {A : Lay α} {fl k j b : Nat} {S S' : Cx fl} {v : SV} {u : α} {m : Mem}
theorem Rp.pv (h : Rp A S (.ptr b 0) u) : Pv A S.n S.m b u := by
  obtain ⟨b', cs, e, h1, h2, h3⟩ := h
  cases e
  exact ⟨h1.1, cs, h2, A.frame h3 fun i hi => ⟨hi.1, rfl⟩⟩
theorem Bk.pv {id : Nat} (h : Bk A S id (.ptr b 0) u) : Pv A S.n S.m b u := by
  obtain ⟨b', cs, e, _, h1, _, h2, h3⟩ := h
  cases e
  exact ⟨h1, cs, h2, A.frame h3 fun i hi => ⟨hi.1, rfl⟩⟩
theorem Rp.to (h : Rp A S v u) (c : Ch k S S') (hk : Nat.beq k 0 = false := by rfl) : Rp A S' v u := by
  have hk : k ≠ 0 := fun e => by subst e; cases hk
  obtain ⟨b, cs, e, h1, h2, h3⟩ := h
  obtain ⟨q1, q2⟩ := fz_ch c hk b h1
  exact ⟨b, cs, e, q1, by rw [q2]; exact h2, A.frame h3 (fz_ch c hk)⟩
theorem Rp.drop (h : Rp A S v u) (k : Nat) : Rp A (S.drop k) v u := by
  obtain ⟨b, cs, e, h1, h2, h3⟩ := h
  exact ⟨b, cs, e, (fz_drop k b h1).1, h2, A.frame h3 (fz_drop k)⟩
theorem Rp.ren (h : Rp A S v u) (k j : Nat) (hk : Nat.beq k 0 = false := by rfl) (hj : Nat.beq j 0 = false := by rfl) : Rp A (S.ren k j) v u := by
  have hk : k ≠ 0 := fun e => by subst e; cases hk
  have hj : j ≠ 0 := fun e => by subst e; cases hj
  obtain ⟨b, cs, e, h1, h2, h3⟩ := h
  exact ⟨b, cs, e, (fz_ren k j hk hj b h1).1, h2, A.frame h3 (fz_ren k j hk hj)⟩
end rp

section rules
variable {E : Env} {lo : List Nat} {fl : Nat} {loose : Nat → Bool} {lim : Option Nat} {ops : Array Oper} {os : List Oper}
variable {l : LE} {m : Mem} {n : Nat} {K : LE → Mem → Nat → Prop}
variable {d : Nat} {ty t : TypeId} {pos : String} {af : Array Edge} {x : Operand} {v : SV}
variable {α : Type} {A : Lay α} {S : Cx fl} {L : List α} {u : α} {s : SV} {id : Nat}

end rules
end Go.Am

set_option linter.unusedVariables false
namespace Go.Am

/-- cs' is cs but for the w cells from the o-th on. -/
structure Sp (cs cs' : List SV) (o w : Nat) : Prop where
  len : cs'.length = cs.length
  le : o + w ≤ cs.length
  lo : cs'.take o = cs.take o
  hi : cs'.drop (o + w) = cs.drop (o + w)
theorem Sp.refl {cs : List SV} {o w : Nat} (h : o + w ≤ cs.length) : Sp cs cs o w := ⟨rfl, h, rfl, rfl⟩
theorem Sp.trans {a b c : List SV} {o w : Nat} (h : Sp a b o w) (k : Sp b c o w) : Sp a c o w := ⟨k.len.trans h.len, h.le, k.lo.trans h.lo, k.hi.trans h.hi⟩
theorem Sp.wide {a b : List SV} {o w p q : Nat} (h : Sp a b (o + p) q) (h1 : p + q ≤ w) (h2 : o + w ≤ a.length) : Sp a b o w where
  len := h.len
  le := h2
  lo := by
    have := congrArg (List.take o) h.lo
    rwa [List.take_take, List.take_take, Nat.min_eq_left (by omega)] at this
  hi := by
    have := congrArg (List.drop (o + w - (o + p + q))) h.hi
    rwa [List.drop_drop, List.drop_drop, show o + p + q + (o + w - (o + p + q)) = o + w from by omega] at this
theorem Sp.splice {cs c : List SV} {o : Nat} (h : o + c.length ≤ cs.length) : Sp cs (splice cs o c) o c.length where
  len := by simp only [Am.splice, List.length_append, List.length_take, List.length_drop]; omega
  le := h
  lo := by
    unfold Am.splice
    rw [List.append_assoc, List.take_append_of_le_length (by rw [List.length_take]; omega), List.take_take, Nat.min_self]
  hi := by
    unfold Am.splice
    rw [List.drop_append, List.drop_of_length_le (by simp; omega), List.nil_append, List.length_append, List.length_take, Nat.min_eq_left (by omega), Nat.sub_self, List.drop_zero]

/-- What a function is given that turns it: in block b (none: n). -/
def Iv {α : Type} (A : Lay α) (fl n b : Nat) (m : Mem) (v : SV) (L : List α) : Prop :=
  ((v = .nils ∨ v = .emp) ∧ L = [] ∧ b = n) ∨ ∃ o c cs, v = .sl b o L.length c A.sz ∧ L.length ≤ c ∧ fl ≤ b ∧ b < n ∧ m.get b = some cs ∧ o + L.length * A.sz ≤ cs.length ∧ RL A (fun i => i < n ∧ i ≠ b) m L ((cs.drop o).take (L.length * A.sz))
/-- What it leaves. -/
def Ip {α : Type} (A : Lay α) (n b : Nat) (m m' : Mem) (v : SV) (L : List α) : Prop :=
  (∀ i, i < n → i ≠ b → m'.get i = m.get i) ∧ (((v = .nils ∨ v = .emp) ∧ L = [] ∧ b = n) ∨ ∃ o c cs cs', v = .sl b o L.length c A.sz ∧ m.get b = some cs ∧ m'.get b = some cs' ∧ Sp cs cs' o (L.length * A.sz) ∧ RL A (fun i => i < n ∧ i ≠ b) m' L ((cs'.drop o).take (L.length * A.sz)))
/-- While it runs: object k, in block b; m: the memory at its beginning. -/
def Iw {α : Type} {fl : Nat} (A : Lay α) (S : Cx fl) (k n b : Nat) (m : Mem) (v : SV) (L : List α) : Prop :=
  (∀ i, i < n → i ≠ b → S.fz i ∧ S.m.get i = m.get i) ∧ n ≤ S.n ∧ (((v = .nils ∨ v = .emp) ∧ L = [] ∧ b = n) ∨ ∃ o c cs cs', v = .sl b o L.length c A.sz ∧ L.length ≤ c ∧ fl ≤ b ∧ b < n ∧ S.ow b = k ∧ m.get b = some cs ∧ S.m.get b = some cs' ∧ Sp cs cs' o (L.length * A.sz) ∧ RL A S.fz S.m L ((cs'.drop o).take (L.length * A.sz)))
/-- What else it is given. -/
def Vb {α : Type} (A : Lay α) (n b : Nat) (m : Mem) (v : SV) (L : List α) : Prop := RO A (fun i => i < n ∧ i ≠ b) (fun i => i < n ∧ i ≠ b) m v L

section iw
variable {α : Type} {A : Lay α} {fl k j n b : Nat} {S S' : Cx fl} {v : SV} {L : List α} {m : Mem}
theorem Vb.rdS (h : Vb A n b m v L) (em : S.m = m) (hz : ∀ i, i < n → i ≠ b → S.fz i) : Rd A S v L := by
  subst em
  exact RO.to h (fun i hi => ⟨hz i hi.1 hi.2, rfl⟩) (fun i hi => ⟨hz i hi.1 hi.2, rfl⟩)
theorem Iv.iw (h : Iv A fl n b m v L) (em : S.m = m) (en : S.n = n) (hz : ∀ i, i < n → i ≠ b → S.fz i) (hb : S.ow b = k) : Iw A S k n b m v L := by
  subst em; subst en
  refine ⟨fun i h1 h2 => ⟨hz i h1 h2, rfl⟩, Nat.le_refl _, ?_⟩
  rcases h with h | ⟨o, c, cs, h1, h2, h3, h4, h5, h6, h7⟩
  · exact .inl h
  · exact .inr ⟨o, c, cs, cs, h1, h2, h3, h4, hb, h5, h5, Sp.refl h6, h7.frame fun i hi => ⟨hz i hi.1 hi.2, rfl⟩⟩
theorem Rd.vb {id : Nat} (h : Rd A S v L) (hB : ∀ i, i < S.n → S.ow i ≠ id → i ≠ b) (hid : Nat.beq id 0 = false := by rfl) : Vb A S.n b S.m v L := by
  have hid : id ≠ 0 := fun e => by subst e; cases hid
  have : ∀ i, S.fz i → (i < S.n ∧ i ≠ b) ∧ S.m.get i = S.m.get i := fun i hi => ⟨⟨hi.1, hB i hi.1 (by rw [hi.2]; exact fun e => hid e.symm)⟩, rfl⟩
  exact RO.to h this this
theorem Wk.vb {id : Nat} (h : Wk A S k v L) (hB : ∀ i, i < S.n → S.ow i ≠ id → i ≠ b) (hid : Nat.beq id 0 = false := by rfl) (hk : Nat.beq k id = false := by rfl) : Vb A S.n b S.m v L := by
  have hid : id ≠ 0 := fun e => by subst e; cases hid
  have hk : k ≠ id := fun e => by subst e; rw [show Nat.beq k k = true by simp] at hk; cases hk
  exact RO.to h (fun i hi => ⟨⟨hi.1, hB i hi.1 (by rw [hi.2]; exact hk)⟩, rfl⟩) (fun i hi => ⟨⟨hi.1, hB i hi.1 (by rw [hi.2]; exact fun e => hid e.symm)⟩, rfl⟩)
theorem Iw.ip (h : Iw A S k n b m v L) (hA : A.Fl) : Ip A n b m S.m v L := by
  obtain ⟨h0, hn, h⟩ := h
  refine ⟨fun i h1 h2 => (h0 i h1 h2).2, ?_⟩
  rcases h with h | ⟨o, c, cs, cs', h1, h2, h3, h4, h5, h6, h7, h8, h9⟩
  · exact .inl h
  · exact .inr ⟨o, c, cs, cs', h1, h6, h7, h8, h9.fl hA⟩
theorem Iw.slv (h : Iw A S k n b m v L) : SlV v A.sz L.length := by
  rcases h.2.2 with ⟨h1, rfl, _⟩ | ⟨o, c, cs, cs', h1, h2, _⟩
  · exact .inl ⟨h1, rfl⟩
  · exact .inr ⟨b, o, c, h1, h2⟩
theorem Iw.wk (h : Iw A S k n b m v L) : Wk A S k v L := by
  obtain ⟨h0, hn, h⟩ := h
  rcases h with ⟨h1, h2, _⟩ | ⟨o, c, cs, cs', h1, h2, h3, h4, h5, h6, h7, h8, h9⟩
  · exact .inl ⟨h1, h2⟩
  · exact .inr ⟨b, o, c, cs', h1, h2, ⟨by omega, h5⟩, h7, by rw [h8.len]; exact h8.le, h9⟩
theorem Iw.ro (h : Iw A S k n b m v L) : RO A (fun i => i < S.n) S.fz S.m v L := h.wk.ro
theorem Iw.oz (h : Iw A S k n b m v L) : RO A (fun i => i < S.n ∧ i < S.n ∧ S.ow i = k) S.fz S.m v L := h.wk.oz
theorem Iw.vw (h : Iw A S k n b m v L) : Vw A S.n S.m v L := h.wk.vw
theorem Iw.to (h : Iw A S j n b m v L) (c : Ch k S S') (hk : Nat.beq k 0 = false := by rfl) (hj : Nat.beq j k = false := by rfl) : Iw A S' j n b m v L := by
  have hk : k ≠ 0 := fun e => by subst e; cases hk
  have hj : j ≠ k := fun e => by subst e; rw [show Nat.beq j j = true by simp] at hj; cases hj
  obtain ⟨h0, hn, h⟩ := h
  refine ⟨fun i h1 h2 => ?_, Nat.le_trans hn c.n, ?_⟩
  · obtain ⟨h3, h4⟩ := h0 i h1 h2
    obtain ⟨h5, h6⟩ := fz_ch c hk i h3
    exact ⟨h5, h6.trans h4⟩
  · rcases h with h | ⟨o, c', cs, cs', h1, h2, h3, h4, h5, h6, h7, h8, h9⟩
    · exact .inl h
    · obtain ⟨q1, q2⟩ := c.ow b (by omega) (by omega)
      exact .inr ⟨o, c', cs, cs', h1, h2, h3, h4, q1.trans h5, h6, q2.trans h7, h8, h9.frame (fz_ch c hk)⟩
theorem Iw.drop (h : Iw A S j n b m v L) (k : Nat) (hj : Nat.beq j k = false := by rfl) : Iw A (S.drop k) j n b m v L := by
  have hj : j ≠ k := fun e => by subst e; rw [show Nat.beq j j = true by simp] at hj; cases hj
  obtain ⟨h0, hn, h⟩ := h
  refine ⟨fun i h1 h2 => ⟨(fz_drop k i (h0 i h1 h2).1).1, (h0 i h1 h2).2⟩, hn, ?_⟩
  rcases h with h | ⟨o, c', cs, cs', h1, h2, h3, h4, h5, h6, h7, h8, h9⟩
  · exact .inl h
  · exact .inr ⟨o, c', cs, cs', h1, h2, h3, h4, by simp only [Cx.drop]; rw [if_neg (by omega)]; exact h5, h6, h7, h8, h9.frame (fz_drop k)⟩
theorem Iw.renO {i : Nat} (h : Iw A S i n b m v L) (k j : Nat) (hk : Nat.beq k 0 = false := by rfl) (hj : Nat.beq j 0 = false := by rfl) (hik : Nat.beq i k = false := by rfl) (hij : Nat.beq i j = false := by rfl) : Iw A (S.ren k j) i n b m v L := by
  have hk : k ≠ 0 := fun e => by subst e; cases hk
  have hj : j ≠ 0 := fun e => by subst e; cases hj
  have hik : i ≠ k := fun e => by subst e; rw [show Nat.beq i i = true by simp] at hik; cases hik
  have hij : i ≠ j := fun e => by subst e; rw [show Nat.beq i i = true by simp] at hij; cases hij
  obtain ⟨h0, hn, h⟩ := h
  refine ⟨fun q h1 h2 => ⟨(fz_ren k j hk hj q (h0 q h1 h2).1).1, (h0 q h1 h2).2⟩, hn, ?_⟩
  rcases h with h | ⟨o, c', cs, cs', h1, h2, h3, h4, h5, h6, h7, h8, h9⟩
  · exact .inl h
  · exact .inr ⟨o, c', cs, cs', h1, h2, h3, h4, by simp only [Cx.ren]; rw [if_neg (by omega), if_neg (by omega)]; exact h5, h6, h7, h8, h9.frame (fz_ren k j hk hj)⟩

theorem drop_splice {cs c : List SV} {o p : Nat} (h : o + p ≤ cs.length) : (splice cs (o + p) c).drop o = splice (cs.drop o) p c := by
  unfold splice
  rw [List.append_assoc, List.append_assoc, List.drop_append_of_le_length (by rw [List.length_take]; omega), List.drop_take, Nat.add_sub_cancel_left, List.drop_drop]
  congr 3; omega
theorem take_splice {cs c : List SV} {p w : Nat} (h : p + c.length ≤ cs.length) (hw : p + c.length ≤ w) : (splice cs p c).take w = splice (cs.take w) p c := by
  unfold splice
  rw [List.append_assoc, List.append_assoc, List.take_append, List.take_append, List.take_take, List.take_take, List.length_take, Nat.min_eq_left (by omega : p ≤ cs.length), List.drop_take, Nat.min_eq_right (by omega), Nat.min_eq_left (by omega), List.take_of_length_le (l := c) (by omega)]
  congr 3; omega
/-- RL of a splice within a window. -/
theorem RL.win {cs c : List SV} {o i : Nat} {u : α} {z : Nat → Prop} (h : RL A z m L ((cs.drop o).take (L.length * A.sz))) (hi : i < L.length) (hle : o + L.length * A.sz ≤ cs.length) (hc : A.R z m u c) :
    RL A z m (L.set i u) (((splice cs (o + i * A.sz) c).drop o).take (L.length * A.sz)) := by
  have hcl := A.len hc
  have h1 : i * A.sz + A.sz ≤ L.length * A.sz := by
    have : (i + 1) * A.sz ≤ L.length * A.sz := Nat.mul_le_mul_right _ hi
    rwa [Nat.add_mul, Nat.one_mul] at this
  have e : ((splice cs (o + i * A.sz) c).drop o).take (L.length * A.sz) = splice ((cs.drop o).take (L.length * A.sz)) (i * A.sz) c := by
    rw [drop_splice (by omega), take_splice (by rw [List.length_drop]; omega) (by omega)]
  rw [e]
  exact h.set hi hc
theorem Iw.put {u : α} {i : Nat} {c : List SV} (h : Iw A S k n b m v L) (hi : i < L.length) (hc : A.R S.fz S.m u c) (hk : k ≠ 0) :
    ∃ o cap cs, v = .sl b o L.length cap A.sz ∧ fl ≤ b ∧ S.m.get b = some cs ∧ o + i * A.sz + c.length ≤ cs.length ∧ ∃ S' : Cx fl, S'.m = S.m.set b (splice cs (o + i * A.sz) c) ∧ S'.n = S.n ∧ Ch k S S' ∧ Iw A S' k n b m v (L.set i u) := by
  obtain ⟨h0, hn, h⟩ := h
  rcases h with ⟨_, rfl, _⟩ | ⟨o, cap, cs, cs', h1, h2, h3, h4, h5, h6, h7, h8, h9⟩
  · simp at hi
  · have hcl := A.len hc
    have hle : i * A.sz + A.sz ≤ L.length * A.sz := by
      have : (i + 1) * A.sz ≤ L.length * A.sz := Nat.mul_le_mul_right _ hi
      rwa [Nat.add_mul, Nat.one_mul] at this
    have hlen := h8.len
    have hle2 := h8.le
    have hin : o + i * A.sz + c.length ≤ cs'.length := by omega
    have hch : Ch k S (⟨S.m.set b (splice cs' (o + i * A.sz) c), S.n, S.ow, S.le⟩ : Cx fl) := ⟨Nat.le_refl _, fun q hq hk => ⟨rfl, Tr.get_set_ne _ _ (fun e => hk (by rw [e]; exact h5))⟩⟩
    refine ⟨o, cap, cs', h1, h3, h7, hin, ⟨S.m.set b (splice cs' (o + i * A.sz) c), S.n, S.ow, S.le⟩, rfl, rfl, hch, fun q h1 h2 => ?_, hn, .inr ⟨o, cap, cs, _, by rw [List.length_set]; exact h1, by rw [List.length_set]; exact h2, h3, h4, h5, h6, Tr.get_set_same _ _ _, ?_, ?_⟩⟩
    · exact ⟨(h0 q h1 h2).1, by rw [← (h0 q h1 h2).2]; exact Tr.get_set_ne _ _ h2⟩
    · rw [List.length_set]
      refine h8.trans ((Sp.splice hin).wide ?_ (by rw [hlen]; exact hle2))
      omega
    · rw [List.length_set]
      exact (RL.win h9 hi (by rw [hlen]; exact hle2) hc).frame (fz_ch hch hk)
end iw

theorem WC.startI {E : Env} {lo : List Nat} {fl n b : Nat} {c : Code} {l : LE} {m : Mem} {Q : AE → LE → Mem → Nat → Prop} (hfl : fl ≤ n) (h : ∀ S : Cx fl, S.m = m → S.n = n → (∀ i, i < n → i ≠ b → S.fz i) → S.ow b = 2 → WC E lo fl c l S.m S.n Q) : WC E lo fl c l m n Q :=
  h ⟨m, n, fun i => if i = b then 2 else 0, hfl⟩ rfl rfl (fun i hi hb => ⟨hi, if_neg hb⟩) (if_pos rfl)

section rules
variable {E : Env} {lo : List Nat} {fl : Nat} {loose : Nat → Bool} {lim : Option Nat} {ops : Array Oper} {os : List Oper}
variable {l : LE} {m m0 : Mem} {n n0 : Nat} {K : LE → Mem → Nat → Prop}
variable {d : Nat} {ty t : TypeId} {pos : String} {af : Array Edge} {x y : Operand} {v w : SV} {k k' : IntKind}
variable {α : Type} {A : Lay α} {S : Cx fl} {L L' M : List α} {j b : Nat} {id : Nat}

theorem WO.stI {g : α → SV} {u' : α} (hx : evK l x = some (.sc (ptrAt v j 0))) (hy : evK l y = some (.sc (g u'))) (hs : Iw (Lay.one g) S id n0 b m0 v L) (hj : j < L.length) (hT : oneT E t = true) (hid : Nat.beq id 0 = false)
    (h : ∀ S', Ch id S S' → Iw (Lay.one g) S' id n0 b m0 v (L.set j u') → WO E loose fl lim ops os l S'.m S'.n K) : WO E loose fl lim ops (⟨none, .store t x y, ty, pos, af, none⟩ :: os) l S.m S.n K := ⟨fun tt ht => by
  have hid : id ≠ 0 := fun e => by subst e; cases hid
  obtain ⟨z, h1, h2, h3, h4⟩ := oneT_ok hT
  obtain ⟨o, cap, cs, rfl, h5, h6, h7, S', e1, e2, h8, h9⟩ := hs.put (u := u') (c := [g u']) hj rfl hid
  refine W_op2 (v := .tup []) (m' := S'.m) (n' := S'.n) ?_ ((h S' h8 h9).ok tt ht)
  have h7 : o + j * 1 + 1 ≤ cs.length := h7
  have hsz : (Lay.one g).sz = 1 := rfl
  simp only [opA, evK_ev ht hx, evK_ev ht hy, ptrAt, storeA, AV.cells?, h1, List.length_cons, List.length_nil, h4, h5, h6, true_and, Nat.zero_add, Nat.add_zero, if_true, hsz]
  rw [if_pos h7, ← hsz, ← e1, e2]; rfl⟩

/-- A call that turns an own slice. -/
theorem WO.callI {f : Operand} {xs : Array Operand} {ats : Array TypeId} {g : Nat} {caps : List (Nat × Nat)} {args : List AV} {r : AV} (hs : Ow A S id v L) (hf : evK l f = some (.sc (.fn g caps))) (ha : xs.toList.mapM (evK l) = some args)
    (hr : ∀ b, Iv A fl S.n b S.m v L → (∀ i, i < S.n → S.ow i ≠ id → i ≠ b) → Ret E fl g (args ++ caps.map fun p => .sc (.ptr p.1 p.2)) S.m S.n (fun v' m' n' => v' = r ∧ Ip A S.n b S.m m' v L')) (hA : A.Fl)
    (h : ∀ S', Ch id S S' → Ow A S' id v L' → WO E loose fl lim ops os ((d, r) :: l) S'.m S'.n K) (hl : loose g = false := by rfl) :
    WO E loose fl lim ops (⟨some d, .call ⟨.value f, xs, ats⟩, ty, pos, af, none⟩ :: os) l S.m S.n K := by
  have hS := S.le
  refine WO.call hf ha ?_
  rw [hl]; simp only [Bool.false_eq_true, if_false]
  rcases hs with ⟨rfl, rfl⟩ | ⟨b, c, cs, rfl, h2, h3, h4, h5, h6, h7, h8⟩
  · refine (Ret.keeps (hr S.n (.inl ⟨.inl rfl, rfl, rfl⟩) (fun i hi _ => by omega))).mono ?_
    rintro v' m' n' ⟨⟨rfl, hp1, hp2⟩, hk⟩
    have hn := hk.1
    rcases hp2 with ⟨_, rfl, _⟩ | ⟨o, c, cs, cs', e, _⟩
    · exact h ⟨m', n', fun i => if i < S.n then S.ow i else 0, by omega⟩ ⟨hn, fun i hi _ => ⟨if_pos hi, hp1 i hi (by omega)⟩⟩ (.inl ⟨rfl, rfl⟩)
    · cases e
  · have hle : L.length * A.sz ≤ cs.length := by rw [h7]; exact Nat.mul_le_mul_right _ h5
    refine (Ret.keeps (hr b (.inr ⟨0, c, cs, rfl, h5, h2, h3, h6, by omega, by rw [List.drop_zero]; exact h8.fl hA⟩) (fun i _ hi e => hi (by rw [e]; exact h4)))).mono ?_
    rintro v' m' n' ⟨⟨rfl, hp1, hp2⟩, hk⟩
    have hn := hk.1
    rcases hp2 with ⟨e | e, _⟩ | ⟨o, c', cs1, cs', e, e1, e2, e3, e4⟩
    · cases e
    · cases e
    · have hl : L'.length = L.length := by injection e with _ _ a _ _; exact a.symm
      have ho : o = 0 := by injection e with _ a _ _ _; exact a.symm
      subst ho
      rw [h6] at e1; cases e1
      have hlen := e3.len
      refine h ⟨m', n', fun i => if i < S.n then S.ow i else 0, by omega⟩ ⟨hn, fun i hi hk => ⟨if_pos hi, hp1 i hi (fun e => hk (by rw [e]; exact h4))⟩⟩ (.inr ⟨b, c, cs', by rw [hl], h2, by simp only; omega, by simp only; rw [if_pos h3]; exact h4, by rw [hl]; exact h5, e2, by rw [hlen]; exact h7, ?_⟩)
      rw [List.drop_zero] at e4
      exact e4.fl hA

/-- A call that turns what the caller is given to turn. -/
theorem WO.callW {f : Operand} {xs : Array Operand} {ats : Array TypeId} {g : Nat} {caps : List (Nat × Nat)} {args : List AV} {r : AV} (hs : Iw A S id n0 b m0 v L) (hid : Nat.beq id 0 = false) (hf : evK l f = some (.sc (.fn g caps))) (ha : xs.toList.mapM (evK l) = some args)
    (hr : ∀ b, Iv A fl S.n b S.m v L → (∀ i, i < S.n → S.ow i ≠ id → i ≠ b) → Ret E fl g (args ++ caps.map fun p => .sc (.ptr p.1 p.2)) S.m S.n (fun v' m' n' => v' = r ∧ Ip A S.n b S.m m' v L')) (hA : A.Fl)
    (h : ∀ S', Ch id S S' → Iw A S' id n0 b m0 v L' → WO E loose fl lim ops os ((d, r) :: l) S'.m S'.n K) (hl : loose g = false := by rfl) :
    WO E loose fl lim ops (⟨some d, .call ⟨.value f, xs, ats⟩, ty, pos, af, none⟩ :: os) l S.m S.n K := by
  have hid : id ≠ 0 := fun e => by subst e; cases hid
  have hS := S.le
  refine WO.call hf ha ?_
  rw [hl]; simp only [Bool.false_eq_true, if_false]
  obtain ⟨h0, hn0, hs⟩ := hs
  rcases hs with ⟨hv, rfl, rfl⟩ | ⟨o, c, cs, cs', rfl, h2, h3, h4, h5, h6, h7, h8, h9⟩
  · refine (Ret.keeps (hr S.n (.inl ⟨hv, rfl, rfl⟩) (fun i hi _ => by omega))).mono ?_
    rintro v' m' n' ⟨⟨rfl, hp1, hp2⟩, hk⟩
    have hn := hk.1
    rcases hp2 with ⟨_, rfl, _⟩ | ⟨o, c, cs, cs', e, _⟩
    · have hch : Ch id S (⟨m', n', fun i => if i < S.n then S.ow i else 0, by omega⟩ : Cx fl) := ⟨hn, fun i hi _ => ⟨if_pos hi, hp1 i hi (by omega)⟩⟩
      refine h _ hch ⟨fun i h1 h2 => ?_, by simp only; omega, .inl ⟨hv, rfl, rfl⟩⟩
      obtain ⟨q1, q2⟩ := h0 i h1 h2
      obtain ⟨q3, q4⟩ := fz_ch hch hid i q1
      exact ⟨q3, q4.trans q2⟩
    · rcases hv with hv | hv <;> (rw [hv] at e; cases e)
  · have hlen := h8.len
    have hle := h8.le
    refine (Ret.keeps (hr b (.inr ⟨o, c, cs', rfl, h2, h3, by omega, h7, by omega, h9.fl hA⟩) (fun i _ hi e => hi (by rw [e]; exact h5)))).mono ?_
    rintro v' m' n' ⟨⟨rfl, hp1, hp2⟩, hk⟩
    have hn := hk.1
    rcases hp2 with ⟨e | e, _⟩ | ⟨o', c', cs1, cs2, e, e1, e2, e3, e4⟩
    · cases e
    · cases e
    · have hl : L'.length = L.length := by injection e with _ _ a _ _; exact a.symm
      have ho : o' = o := by injection e with _ a _ _ _; exact a.symm
      subst ho
      rw [h7] at e1; cases e1
      have hch : Ch id S (⟨m', n', fun i => if i < S.n then S.ow i else 0, by omega⟩ : Cx fl) := ⟨hn, fun i hi hk => ⟨if_pos hi, hp1 i hi (fun e => hk (by rw [e]; exact h5))⟩⟩
      refine h _ hch ⟨fun i h1 h2 => ?_, by simp only; omega, .inr ⟨o', c, cs, cs2, by rw [hl], by rw [hl]; exact h2, h3, h4, by simp only; rw [if_pos (by omega)]; exact h5, h6, e2, ?_, e4.fl hA⟩⟩
      · obtain ⟨q1, q2⟩ := h0 i h1 h2
        obtain ⟨q3, q4⟩ := fz_ch hch hid i q1
        exact ⟨q3, q4.trans q2⟩
      · rw [hl] at e3 ⊢
        exact h8.trans e3

/-! ### Headers known -/
variable {y1 y2 y3 : Operand} {k'' : IntKind} {o ln c sz q : Nat} {i jj hh : Int} {cs new : List SV}
theorem WO.slH3 (hx : evK l x = some (.sc (.sl b o ln c sz))) (hlo : evK l y1 = some (.sc (.int k i))) (hhi : evK l y2 = some (.sc (.int k' jj))) (hmx : evK l y3 = some (.sc (.int k'' hh))) (h1 : 0 ≤ i ∧ i ≤ jj ∧ jj ≤ hh ∧ hh ≤ c) (hT : slTs E t sz = true)
    (h : ∀ w, WO E loose fl lim ops os ((d, .sc w) :: l) m n K) : WO E loose fl lim ops (⟨some d, .slice t x (some y1) (some y2) (some y3), ty, pos, af, none⟩ :: os) l m n K := ⟨fun tt ht => by
  obtain ⟨yt, e, e1, e2, e3, e4, _⟩ := slTs_ok hT
  have key : ∃ w, sliceA E t (.sc (.sl b o ln c sz)) (some (.sc (.int k i))) (some (.sc (.int k' jj))) (some (.sc (.int k'' hh))) = some (.sc w) := by
    simp only [sliceA, e1, e2, e3, e4, Option.map_some, boundA]
    rw [if_pos (show 0 ≤ hh ∧ hh ≤ (c : Int) from by omega)]
    simp only
    rw [if_pos (show 0 ≤ jj ∧ jj ≤ ((hh.toNat : Nat) : Int) from by omega)]
    simp only
    rw [if_pos (show 0 ≤ i ∧ i ≤ ((jj.toNat : Nat) : Int) from by omega)]
    simp only
    by_cases hq : i.toNat < hh.toNat ∨ i.toNat = 0
    · rw [if_pos hq]; exact ⟨_, by simp; rfl⟩
    · rw [if_neg hq]; exact ⟨_, by simp; rfl⟩
  obtain ⟨w, hw⟩ := key
  refine W_op2 ?_ ((h w).put ht)
  simp only [opA, evK_ev ht hx, evK_ev ht hlo, evK_ev ht hhi, evK_ev ht hmx, Option.map_some, hw]⟩
theorem WO.slHto (hx : evK l x = some (.sc (.sl b o ln c sz))) (hhi : evK l y2 = some (.sc (.int k' jj))) (h1 : 0 ≤ jj ∧ jj ≤ c) (hT : slTs E t sz = true)
    (h : WO E loose fl lim ops os ((d, .sc (.sl b o jj.toNat c sz)) :: l) m n K) : WO E loose fl lim ops (⟨some d, .slice t x none (some y2) none, ty, pos, af, none⟩ :: os) l m n K := ⟨fun tt ht => by
  obtain ⟨yt, e, e1, e2, e3, e4, _⟩ := slTs_ok hT
  refine W_op2 ?_ (h.put ht)
  have key : sliceA E t (.sc (.sl b o ln c sz)) none (some (.sc (.int k' jj))) none = some (.sc (.sl b o jj.toNat c sz)) := by
    simp only [sliceA, e1, e2, e3, e4, Option.map_some, boundA]
    rw [if_pos (show 0 ≤ jj ∧ jj ≤ (c : Int) from by omega)]
    simp
  simp only [opA, evK_ev ht hx, evK_ev ht hhi, Option.map_some, Option.map_none, key]⟩
theorem WO.slHmid (hx : evK l x = some (.sc (.sl b o ln c sz))) (hlo : evK l y1 = some (.sc (.int k i))) (hhi : evK l y2 = some (.sc (.int k' jj))) (h1 : 0 ≤ i ∧ i ≤ jj ∧ jj ≤ c ∧ i < c) (hT : slTs E t sz = true)
    (h : WO E loose fl lim ops os ((d, .sc (.sl b (o + i.toNat * sz) (jj.toNat - i.toNat) (c - i.toNat) sz)) :: l) m n K) : WO E loose fl lim ops (⟨some d, .slice t x (some y1) (some y2) none, ty, pos, af, none⟩ :: os) l m n K := ⟨fun tt ht => by
  obtain ⟨yt, e, e1, e2, e3, e4, _⟩ := slTs_ok hT
  refine W_op2 ?_ (h.put ht)
  have key : sliceA E t (.sc (.sl b o ln c sz)) (some (.sc (.int k i))) (some (.sc (.int k' jj))) none = some (.sc (.sl b (o + i.toNat * sz) (jj.toNat - i.toNat) (c - i.toNat) sz)) := by
    simp only [sliceA, e1, e2, e3, e4, Option.map_some, boundA]
    rw [if_pos (show 0 ≤ jj ∧ jj ≤ (c : Int) from by omega)]
    simp only
    rw [if_pos (show 0 ≤ i ∧ i ≤ ((jj.toNat : Nat) : Int) from by omega)]
    simp only
    rw [if_pos (show i.toNat < c ∨ i.toNat = 0 from by omega)]
    simp
  simp only [opA, evK_ev ht hx, evK_ev ht hlo, evK_ev ht hhi, Option.map_some, Option.map_none, key]⟩
theorem WO.slHfrom (hx : evK l x = some (.sc (.sl b o ln c sz))) (hlo : evK l y1 = some (.sc (.int k i))) (h1 : 0 ≤ i ∧ i ≤ ln ∧ ln ≤ c) (hm : m.get b = some cs) (hle : o + ln * sz ≤ cs.length) (hT : slTs E t sz = true)
    (h : ∀ w, elemsA m (.sc w) sz = some ((cs.drop (o + i.toNat * sz)).take ((ln - i.toNat) * sz), ln - i.toNat) → WO E loose fl lim ops os ((d, .sc w) :: l) m n K) : WO E loose fl lim ops (⟨some d, .slice t x (some y1) none none, ty, pos, af, none⟩ :: os) l m n K := ⟨fun tt ht => by
  obtain ⟨yt, e, e1, e2, e3, e4, _⟩ := slTs_ok hT
  have h2 : i.toNat * sz + (ln - i.toNat) * sz = ln * sz := by rw [← Nat.add_mul]; congr 1; omega
  have key : ∃ w, sliceA E t (.sc (.sl b o ln c sz)) (some (.sc (.int k i))) none none = some (.sc w) ∧ elemsA m (.sc w) sz = some ((cs.drop (o + i.toNat * sz)).take ((ln - i.toNat) * sz), ln - i.toNat) := by
    simp only [sliceA, e1, e2, e3, e4, Option.map_some, boundA]
    rw [if_pos (show 0 ≤ i ∧ i ≤ (ln : Int) from by omega)]
    simp only
    by_cases hq : i.toNat < c ∨ i.toNat = 0
    · rw [if_pos hq]
      refine ⟨.sl b (o + i.toNat * sz) (ln - i.toNat) (c - i.toNat) sz, by simp, ?_⟩
      simp only [elemsA, hm]
      rw [if_neg (by simp), if_pos (by omega)]
    · rw [if_neg hq]
      refine ⟨.emp, by simp, ?_⟩
      have : ln - i.toNat = 0 := by omega
      rw [this, Nat.zero_mul, List.take_zero]
      rfl
  obtain ⟨w, hw, hw2⟩ := key
  refine W_op2 ?_ ((h w hw2).put ht)
  simp only [opA, evK_ev ht hx, evK_ev ht hlo, Option.map_some, Option.map_none, hw]⟩
theorem WO.appH (hx : evK l x = some (.sc (.sl b o ln c sz))) (hy : evK l y = some (.sc w)) (hw : elemsA m (.sc w) sz = some (new, q)) (hm : m.get b = some cs) (hle : o + c * sz ≤ cs.length) (hq : ln + q ≤ c) (hq2 : ln + q ≤ 549755813888) (hfl : fl ≤ b) (hT : slTs E t sz = true)
    (h : WO E loose fl lim ops os ((d, .sc (.sl b o (ln + q) c sz)) :: l) (m.set b (splice cs (o + ln * sz) new)) n K) : WO E loose fl lim ops (⟨some d, .call ⟨.builtin .append, #[x, y], #[t, t]⟩, ty, pos, af, none⟩ :: os) l m n K := ⟨fun tt ht => by
  obtain ⟨yt, e, e1, e2, e3, e4, e5, e6, e7⟩ := slTs_ok hT
  refine W_op2 ?_ (h.put ht)
  have h2 : ln * sz ≤ c * sz := Nat.mul_le_mul_right _ (by omega)
  have h3 : (ln + q) * e.bytes ≤ 549755813888 * 256 := Nat.mul_le_mul hq2 e7
  have hel : elemsA m (.sc (.sl b o ln c sz)) sz = some ((cs.drop o).take (ln * sz), ln) := by
    simp only [elemsA, hm]
    rw [if_neg (by simp), if_pos (by omega)]
  have key : appendA E fl t (.sc (.sl b o ln c sz)) (.sc w) m n = some (.sc (.sl b o (ln + q) c sz), m.set b (splice cs (o + ln * sz) new), n) := by
    simp only [appendA, e1, e2, e3, e4]
    rw [if_neg (by simp), if_neg (by rw [e5]; simp; omega), hel, hw]
    simp only [appendTo]
    rw [if_neg (by omega), if_neg (by omega), if_pos hq, hm]
    simp only
    rw [if_pos hle]
  simp only [opA, callA, builtinA, List.map_cons, List.map_nil, evK_ev ht hx, evK_ev ht hy]
  simp [key]⟩
theorem WO.clrH (hx : evK l x = some (.sc (.sl b o ln c sz))) (hm : m.get b = some cs) (hle : o + ln * sz ≤ cs.length) (hfl : fl ≤ b) (hT : slTs E t sz = true)
    (h : ∀ z : List SV, z.length = ln * sz → WO E loose fl lim ops os l (m.set b (splice cs o z)) n K) : WO E loose fl lim ops (⟨none, .call ⟨.builtin .clear, #[x], #[t]⟩, ty, pos, af, none⟩ :: os) l m n K := ⟨fun tt ht => by
  obtain ⟨yt, e, e1, e2, e3, e4, e5, e6, e7⟩ := slTs_ok hT
  refine W_op2 (v := .tup []) (m' := m.set b (splice cs o (List.replicate ln e.zero).flatten)) (n' := n) ?_ ((h _ (by simp [e5])).ok tt ht)
  have key : clearA E fl t (.sc (.sl b o ln c sz)) m n = some (.tup [], m.set b (splice cs o (List.replicate ln e.zero).flatten), n) := by
    simp only [clearA, e1, e2, e3, e4]
    rw [if_neg (by simp), if_neg (by rw [e5]; simp)]
    rw [if_neg (by simp; omega), hm]
    try simp only
    rw [if_pos hle]
  simp only [opA, callA, builtinA, List.map_cons, List.map_nil, evK_ev ht hx]
  simp [key]⟩

/-- What slices.Delete is given, and leaves. -/
def Ov {α : Type} (A : Lay α) (fl n b : Nat) (m : Mem) (v : SV) (L : List α) : Prop :=
  ∃ c cs, v = .sl b 0 L.length c A.sz ∧ L.length ≤ c ∧ fl ≤ b ∧ b < n ∧ m.get b = some cs ∧ cs.length = c * A.sz ∧ RL A (fun i => i < n ∧ i ≠ b) m L (cs.take (L.length * A.sz))
def Oq {α : Type} (A : Lay α) (n b : Nat) (m m' : Mem) (w : SV) (M : List α) : Prop :=
  (∀ i, i < n → i ≠ b → m'.get i = m.get i) ∧ ∃ c cs, w = .sl b 0 M.length c A.sz ∧ M.length ≤ c ∧ m'.get b = some cs ∧ cs.length = c * A.sz ∧ RL A (fun i => i < n ∧ i ≠ b) m' M (cs.take (M.length * A.sz))
def del? {α : Type} (L : List α) (i j : Int) : Option (List α) := if 0 ≤ i ∧ i ≤ j ∧ j ≤ L.length ∧ 0 < L.length ∧ L.length ≤ 549755813888 then some (L.take i.toNat ++ L.drop j.toNat) else none
theorem del?_ne {P : Prop} [Decidable P] {M : List α} {i j : Int} (h : (if P then del? L i j else none) = some M) : 0 < L.length := by
  split at h
  · unfold del? at h
    split at h
    · rename_i hq; exact hq.2.2.2.1
    · cases h
  · cases h
theorem del_cells {g : α → SV} {z : List SV} {p r lo : Nat} (h : cs.take (L.length * 1) = L.map g) (h1 : p ≤ r) (h2 : r ≤ L.length) (hl : L.length ≤ cs.length) (hlo : lo = p + (L.length - r)) :
    (splice (splice cs (0 + p * 1) ((cs.drop (0 + r * 1)).take ((L.length - r) * 1))) (0 + lo * 1) z).take ((L.take p ++ L.drop r).length * 1) = (L.take p ++ L.drop r).map g := by
  subst hlo
  simp only [Nat.mul_one, Nat.zero_add] at h ⊢
  have e1 : cs.take p = (L.take p).map g := by
    have := congrArg (List.take p) h
    rwa [List.take_take, Nat.min_eq_left (by omega), ← List.map_take] at this
  have e2 : (cs.drop r).take (L.length - r) = (L.drop r).map g := by
    have := congrArg (List.drop r) h
    rwa [List.drop_take, ← List.map_drop] at this
  have hlen : (L.take p ++ L.drop r).length = p + (L.length - r) := by simp; omega
  rw [hlen, e2]
  unfold splice
  rw [List.append_assoc, List.take_append_of_le_length (by simp; omega), List.take_take, Nat.min_self, List.take_append_of_le_length (by simp; omega), List.take_of_length_le (by simp; omega), e1, List.map_append]
/-- A call that takes an own slice and gives it back, shorter. -/
theorem WO.callO {f : Operand} {xs : Array Operand} {ats : Array TypeId} {g : Nat} {caps : List (Nat × Nat)} {args : List AV} (hs : Ow A S id v L) (hne : 0 < L.length) (hf : evK l f = some (.sc (.fn g caps))) (ha : xs.toList.mapM (evK l) = some args)
    (hr : ∀ b, Ov A fl S.n b S.m v L → Ret E fl g (args ++ caps.map fun p => .sc (.ptr p.1 p.2)) S.m S.n (fun v' m' n' => ∃ w, v' = .sc w ∧ Oq A S.n b S.m m' w M)) (hA : A.Fl)
    (h : ∀ w S', Ch id S S' → Ow A S' id w M → WO E loose fl lim ops os ((d, .sc w) :: l) S'.m S'.n K) (hl : loose g = false := by rfl) :
    WO E loose fl lim ops (⟨some d, .call ⟨.value f, xs, ats⟩, ty, pos, af, none⟩ :: os) l S.m S.n K := by
  have hS := S.le
  refine WO.call hf ha ?_
  rw [hl]; simp only [Bool.false_eq_true, if_false]
  rcases hs with ⟨rfl, rfl⟩ | ⟨b, c, cs, rfl, h2, h3, h4, h5, h6, h7, h8⟩
  · simp at hne
  · refine (Ret.keeps (hr b ⟨c, cs, rfl, h5, h2, h3, h6, h7, h8.fl hA⟩)).mono ?_
    rintro v' m' n' ⟨⟨w, rfl, hp1, c', cs', rfl, e1, e2, e3, e4⟩, hk⟩
    have hn := hk.1
    exact h _ ⟨m', n', fun i => if i < S.n then S.ow i else 0, by omega⟩ ⟨hn, fun i hi hk => ⟨if_pos hi, hp1 i hi (fun e => hk (by rw [e]; exact h4))⟩⟩ (.inr ⟨b, c', cs', rfl, h2, by simp only; omega, by simp only; rw [if_pos h3]; exact h4, e1, e2, e3, e4.fl hA⟩)
end rules
end Go.Am

set_option linter.unusedVariables false
namespace Go.Am

def SV.blk : SV → Option Nat
  | .sl b _ _ _ _ => some b
  | .ptr b _ => some b
  | _ => none
/-- The headers of rows. -/
abbrev LH : Lay SV := Lay.one id

/-- Rows that are object r's: their headers, and what they hold; but for the one in the hole. -/
structure Fam {α : Type} {fl : Nat} (A : Lay α) (S : Cx fl) (r : Nat) (H : List SV) (L : List (List α)) (hole : Option Nat) : Prop where
  len : H.length = L.length
  row : ∀ (i : Nat) (w : SV) (R : List α), hole ≠ some i → H[i]? = some w → L[i]? = some R → Ow A S r w R
  sep : ∀ (i j : Nat) (w w' : SV) (b : Nat), i ≠ j → hole ≠ some i → hole ≠ some j → H[i]? = some w → H[j]? = some w' → w.blk = some b → w'.blk ≠ some b

/-- What is j's is r's from now on. -/
def Cx.mg {fl : Nat} (S : Cx fl) (j r : Nat) : Cx fl := ⟨S.m, S.n, fun i => if S.ow i = j then r else S.ow i, S.le⟩

section fam
variable {α : Type} {A : Lay α} {fl k r j i : Nat} {S S' : Cx fl} {v w : SV} {H : List SV} {L : List (List α)} {R : List α} {hole : Option Nat}

theorem nb {a b : Nat} (h : Nat.beq a b = false) : a ≠ b := fun e => by subst e; rw [show Nat.beq a a = true by simp] at h; cases h

theorem Ow.blk_ow (h : Ow A S k v R) {b : Nat} (hb : v.blk = some b) : S.ow b = k ∧ b < S.n := by
  rcases h with ⟨rfl, _⟩ | ⟨b', c, cs, rfl, _, h3, h4, _⟩
  · cases hb
  · cases hb; exact ⟨h4, h3⟩
/-- An own slice under another map of owners. -/
theorem Ow.re {S' : Cx fl} (h : Ow A S k v R) (em : S'.m = S.m) (en : S'.n = S.n) (hb : ∀ b, v.blk = some b → S'.ow b = j) (hz : ∀ i, S.fz i → S'.fz i) : Ow A S' j v R := by
  rcases h with h | ⟨b, c, cs, rfl, h2, h3, h4, h5, h6, h7, h8⟩
  · exact .inl h
  · exact .inr ⟨b, c, cs, rfl, h2, by rw [en]; exact h3, hb b rfl, h5, by rw [em]; exact h6, h7, h8.frame fun i hi => ⟨hz i hi, by rw [em]⟩⟩

theorem Fam.nil : Fam A S r [] ([] : List (List α)) none := ⟨rfl, fun i w R _ h => by simp at h, fun i j w w' b _ _ _ h => by simp at h⟩
theorem Fam.to (h : Fam A S r H L hole) (c : Ch k S S') (hk : Nat.beq k 0 = false := by rfl) (hr : Nat.beq r k = false := by rfl) : Fam A S' r H L hole :=
  ⟨h.len, fun i w R h1 h2 h3 => (h.row i w R h1 h2 h3).to c hk hr, h.sep⟩
theorem Fam.drop (h : Fam A S r H L hole) (k : Nat) (hr : Nat.beq r k = false := by rfl) : Fam A (S.drop k) r H L hole :=
  ⟨h.len, fun i w R h1 h2 h3 => (h.row i w R h1 h2 h3).drop k hr, h.sep⟩
theorem Fam.renO (h : Fam A S r H L hole) (k j : Nat) (hk : Nat.beq k 0 = false := by rfl) (hj : Nat.beq j 0 = false := by rfl) (hik : Nat.beq r k = false := by rfl) (hij : Nat.beq r j = false := by rfl) : Fam A (S.ren k j) r H L hole :=
  ⟨h.len, fun i w R h1 h2 h3 => (h.row i w R h1 h2 h3).renO k j hk hj hik hij, h.sep⟩
theorem Fam.ren (h : Fam A S r H L hole) (j : Nat) (hk : Nat.beq r 0 = false := by rfl) (hj : Nat.beq j 0 = false := by rfl) : Fam A (S.ren r j) j H L hole :=
  ⟨h.len, fun i w R h1 h2 h3 => (h.row i w R h1 h2 h3).ren j hk hj, h.sep⟩

theorem Cx.mg_ch (S : Cx fl) (j r : Nat) : Ch j S (S.mg j r) := ⟨Nat.le_refl _, fun i _ hk => ⟨by simp only [Cx.mg]; rw [if_neg hk], rfl⟩⟩
theorem fz_mg (hj : j ≠ 0) : ∀ i, S.fz i → (S.mg j r).fz i := fun i ⟨h1, h2⟩ => ⟨h1, by simp only [Cx.mg]; rw [if_neg (by omega)]; exact h2⟩

/-- A row is taken out. -/
theorem Fam.open (h : Fam A S r H L none) (hw : H[i]? = some w) (hR : L[i]? = some R) (hr : r ≠ 0) (hj : j ≠ 0) :
    ∃ S1 : Cx fl, S1.m = S.m ∧ S1.n = S.n ∧ Ch r S S1 ∧ Ow A S1 j w R ∧ Fam A S1 r H L (some i) := by
  have hi := h.row i w R (by simp) hw hR
  have hz : ∀ q, S.fz q → (⟨S.m, S.n, fun q => if w.blk = some q then j else S.ow q, S.le⟩ : Cx fl).fz q := fun q ⟨h1, h2⟩ => ⟨h1, by
    simp only
    rw [if_neg (fun e => hr (by rw [← (hi.blk_ow e).1, h2]))]; exact h2⟩
  refine ⟨⟨S.m, S.n, fun q => if w.blk = some q then j else S.ow q, S.le⟩, rfl, rfl, ⟨Nat.le_refl _, fun q _ hk => ⟨by simp only; rw [if_neg (fun e => hk (hi.blk_ow e).1)], rfl⟩⟩, hi.re rfl rfl (fun b hb => by simp only; rw [if_pos hb]) hz, h.len, ?_, fun a c w w' b hac _ _ => h.sep a c w w' b hac (by simp) (by simp)⟩
  intro a w' R' ha hw' hR'
  have := h.row a w' R' (by simp) hw' hR'
  exact this.re rfl rfl (fun b hb => by simp only; rw [if_neg (fun e => h.sep i a w w' b (fun e => ha (by rw [e])) (by simp) (by simp) hw hw' e hb)]; exact (this.blk_ow hb).1) hz
/-- A row is put in. -/
theorem Fam.close (h : Fam A S r H L (some i)) (hw : Ow A S j w R) (hj : j ≠ 0) (hjr : j ≠ r) : Fam A (S.mg j r) r (H.set i w) (L.set i R) none := by
  have hz := fz_mg (S := S) (r := r) hj
  have hrow : ∀ (a : Nat) (w' : SV) (R' : List α), i ≠ a → H[a]? = some w' → L[a]? = some R' → Ow A (S.mg j r) r w' R' := fun a w' R' ha h1 h2 => by
    have := h.row a w' R' (by simpa using ha) h1 h2
    exact this.re rfl rfl (fun b hb => by simp only [Cx.mg]; rw [if_neg (by rw [(this.blk_ow hb).1]; exact Ne.symm hjr)]; exact (this.blk_ow hb).1) hz
  refine ⟨by rw [List.length_set, List.length_set]; exact h.len, ?_, ?_⟩
  · intro a w' R' _ h1 h2
    rw [List.getElem?_set] at h1 h2
    by_cases ha : i = a
    · rw [if_pos ha] at h1 h2
      split at h1 <;> split at h2 <;> first | (cases h1; done) | (cases h2; done) | skip
      cases h1; cases h2
      exact hw.re rfl rfl (fun b hb => by simp only [Cx.mg]; rw [if_pos (hw.blk_ow hb).1]) hz
    · rw [if_neg ha] at h1 h2
      exact hrow a w' R' ha h1 h2
  · intro a c w1 w2 b hac _ _ h1 h2 hb1 hb2
    rw [List.getElem?_set] at h1 h2
    have get : ∀ q (u : SV), i ≠ q → H[q]? = some u → ∃ R', L[q]? = some R' := fun q u _ hu => by
      have := (List.getElem?_eq_some_iff.1 hu).1
      rw [h.len] at this
      exact ⟨_, List.getElem?_eq_getElem this⟩
    by_cases ha : i = a
    · rw [if_pos ha] at h1
      rw [if_neg (by omega)] at h2
      split at h1
      · cases h1
        obtain ⟨R', hR'⟩ := get c w2 (by omega) h2
        exact hjr ((hw.blk_ow hb1).1.symm.trans ((h.row c w2 R' (by simp; omega) h2 hR').blk_ow hb2).1)
      · cases h1
    · rw [if_neg ha] at h1
      by_cases hc : i = c
      · rw [if_pos hc] at h2
        split at h2
        · cases h2
          obtain ⟨R', hR'⟩ := get a w1 ha h1
          exact hjr ((hw.blk_ow hb2).1.symm.trans ((h.row a w1 R' (by simpa using ha) h1 hR').blk_ow hb1).1)
        · cases h2
      · rw [if_neg hc] at h2
        exact h.sep a c w1 w2 b hac (by simpa using ha) (by simpa using hc) h1 h2 hb1 hb2
theorem Fam.any (h : Fam A S r H L none) (i : Nat) : Fam A S r H L (some i) := ⟨h.len, fun a w R _ => h.row a w R (by simp), fun a c w w' b hac _ _ => h.sep a c w w' b hac (by simp) (by simp)⟩
theorem Fam.nils (n : Nat) : Fam A S r (List.replicate n .nils) (List.replicate n ([] : List α)) none := by
  refine ⟨by simp, ?_, ?_⟩
  · intro i w R _ h1 h2
    rw [List.getElem?_replicate] at h1 h2
    split at h1
    · rename_i h; rw [if_pos h] at h2; cases h1; cases h2; exact Ow.nil
    · cases h1
  · intro i j w w' b _ _ _ h1 _ hb
    rw [List.getElem?_replicate] at h1
    split at h1
    · cases h1; cases hb
    · cases h1
end fam

/-- Rows that are k's, their rows r's. -/
def Tw {α : Type} {fl : Nat} (A : Lay α) (S : Cx fl) (k r : Nat) (v : SV) (L : List (List α)) : Prop := ∃ H, Ow LH S k v H ∧ Fam A S r H L none
/-- The i-th is out; there stands w. -/
def Th {α : Type} {fl : Nat} (A : Lay α) (S : Cx fl) (k r : Nat) (v : SV) (L : List (List α)) (i : Nat) (w : SV) : Prop := ∃ H, Ow LH S k v H ∧ Fam A S r H L (some i) ∧ H[i]? = some w

section tw
variable {α : Type} {A : Lay α} {fl k r j i n0 : Nat} {S S' : Cx fl} {v w : SV} {H : List SV} {L M : List (List α)} {R : List α}

theorem Tw.nil : Tw A S k r .nils ([] : List (List α)) := ⟨[], .inl ⟨rfl, rfl⟩, Fam.nil⟩
theorem Tw.to (h : Tw A S k r v L) (c : Ch j S S') (hj : Nat.beq j 0 = false := by rfl) (hk : Nat.beq k j = false := by rfl) (hr : Nat.beq r j = false := by rfl) : Tw A S' k r v L := by
  obtain ⟨H, h1, h2⟩ := h; exact ⟨H, h1.to c hj hk, h2.to c hj hr⟩
theorem Th.to (h : Th A S k r v L i w) (c : Ch j S S') (hj : Nat.beq j 0 = false := by rfl) (hk : Nat.beq k j = false := by rfl) (hr : Nat.beq r j = false := by rfl) : Th A S' k r v L i w := by
  obtain ⟨H, h1, h2, h3⟩ := h; exact ⟨H, h1.to c hj hk, h2.to c hj hr, h3⟩
theorem Tw.drop (h : Tw A S k r v L) (j : Nat) (hk : Nat.beq k j = false := by rfl) (hr : Nat.beq r j = false := by rfl) : Tw A (S.drop j) k r v L := by
  obtain ⟨H, h1, h2⟩ := h; exact ⟨H, h1.drop j hk, h2.drop j hr⟩
theorem Th.drop (h : Th A S k r v L i w) (j : Nat) (hk : Nat.beq k j = false := by rfl) (hr : Nat.beq r j = false := by rfl) : Th A (S.drop j) k r v L i w := by
  obtain ⟨H, h1, h2, h3⟩ := h; exact ⟨H, h1.drop j hk, h2.drop j hr, h3⟩
theorem Tw.renO (h : Tw A S k r v L) (p q : Nat) (hp : Nat.beq p 0 = false := by rfl) (hq : Nat.beq q 0 = false := by rfl) (h1 : Nat.beq k p = false := by rfl) (h2 : Nat.beq k q = false := by rfl) (h3 : Nat.beq r p = false := by rfl) (h4 : Nat.beq r q = false := by rfl) : Tw A (S.ren p q) k r v L := by
  obtain ⟨H, g1, g2⟩ := h; exact ⟨H, g1.renO p q hp hq h1 h2, g2.renO p q hp hq h3 h4⟩
theorem Th.renO (h : Th A S k r v L i w) (p q : Nat) (hp : Nat.beq p 0 = false := by rfl) (hq : Nat.beq q 0 = false := by rfl) (h1 : Nat.beq k p = false := by rfl) (h2 : Nat.beq k q = false := by rfl) (h3 : Nat.beq r p = false := by rfl) (h4 : Nat.beq r q = false := by rfl) : Th A (S.ren p q) k r v L i w := by
  obtain ⟨H, g1, g2, g3⟩ := h; exact ⟨H, g1.renO p q hp hq h1 h2, g2.renO p q hp hq h3 h4, g3⟩
/-- Other numbers for both. -/
theorem Tw.ren (h : Tw A S k r v L) (k' r' : Nat) (e1 : Nat.beq k 0 = false := by rfl) (e2 : Nat.beq r 0 = false := by rfl) (e3 : Nat.beq k' 0 = false := by rfl) (e4 : Nat.beq r' 0 = false := by rfl)
    (e5 : Nat.beq r k = false := by rfl) (e6 : Nat.beq r k' = false := by rfl) (e7 : Nat.beq k' r = false := by rfl) (e8 : Nat.beq k' r' = false := by rfl) : Tw A ((S.ren k k').ren r r') k' r' v L := by
  obtain ⟨H, g1, g2⟩ := h; exact ⟨H, (g1.ren k' e1 e3).renO r r' e2 e4 e7 e8, (g2.renO k k' e1 e3 e5 e6).ren r' e2 e4⟩

theorem Tw.slv (h : Tw A S k r v L) : SlV v 1 L.length := by
  obtain ⟨H, h1, h2⟩ := h
  have := h1.slv; rwa [h2.len] at this
theorem Th.slv (h : Th A S k r v L i w) : SlV v 1 L.length := by
  obtain ⟨H, h1, h2, _⟩ := h
  have := h1.slv; rwa [h2.len] at this
/-- The number of its block. -/
def Lt (v : SV) (n : Nat) : Prop := ∀ b, v.blk = some b → b < n
theorem Tw.lt (h : Tw A S k r v L) : Lt v S.n := by
  obtain ⟨H, h1, h2⟩ := h; exact fun b hb => (h1.blk_ow hb).2
theorem Th.lt (h : Th A S k r v L i w) : Lt v S.n := by
  obtain ⟨H, h1, h2, _⟩ := h; exact fun b hb => (h1.blk_ow hb).2
theorem Ow.lt {β : Type} {B : Lay β} {Q : List β} (h : Ow B S k v Q) : Lt v S.n := fun b hb => (h.blk_ow hb).2

/-- The row that is out is put back, as it is. -/
theorem Th.back (h : Th A S k r v L i w) (hw : Ow A S j w R) (hj : Nat.beq j 0 = false := by rfl) (hjr : Nat.beq j r = false := by rfl) (hkj : Nat.beq k j = false := by rfl) : Tw A (S.mg j r) k r v (L.set i R) := by
  obtain ⟨H, h1, h2, h3⟩ := h
  refine ⟨H, h1.to (S.mg_ch j r) hj hkj, ?_⟩
  have := h2.close hw (nb hj) (nb hjr)
  have e : H.set i w = H := by
    apply List.ext_getElem?
    intro q
    rw [List.getElem?_set]
    split
    · rename_i hq; subst hq
      have := (List.getElem?_eq_some_iff.1 h3).1
      rw [if_pos this, h3]
    · rfl
  rwa [e] at this
/-- A row is taken out. -/
theorem Tw.take (h : Tw A S k r v L) (hR : L[i]? = some R) (j : Nat) (hr : Nat.beq r 0 = false := by rfl) (hj : Nat.beq j 0 = false := by rfl) (hkr : Nat.beq k r = false := by rfl) :
    ∃ w, ∃ S1 : Cx fl, S1.m = S.m ∧ S1.n = S.n ∧ Ch r S S1 ∧ Ow A S1 j w R ∧ Th A S1 k r v L i w := by
  obtain ⟨H, h1, h2⟩ := h
  have hi := (List.getElem?_eq_some_iff.1 hR).1
  have hw : H[i]? = some (H[i]'(by rw [h2.len]; exact hi)) := List.getElem?_eq_getElem _
  obtain ⟨S1, e1, e2, hc, ho, hf⟩ := h2.open hw hR (nb hr) (nb hj)
  exact ⟨_, S1, e1, e2, hc, ho, H, h1.to hc hr hkr, hf, hw⟩

theorem Tw.rl (h : Fam A S r H L none) : ∀ {z : Nat → Prop}, (∀ i, i < S.n ∧ (S.ow i = r ∨ S.ow i = 0) → z i) → RL (Lay.sl A) z S.m L (H.map id) := by
  intro z hz
  obtain ⟨hlen, hrow, hsep⟩ := h
  clear hsep
  induction H generalizing L with
  | nil => cases L with
    | nil => rfl
    | cons => simp at hlen
  | cons w H ih => cases L with
    | nil => simp at hlen
    | cons R L =>
      refine ⟨[w], H.map id, rfl, ⟨w, rfl, ?_⟩, ih (by simpa using hlen) fun i w R h0 h1 h2 => hrow (i + 1) w R (by simp) (by simpa using h1) (by simpa using h2)⟩
      have h0 := hrow 0 w R (by simp) rfl rfl
      rcases h0 with ⟨h1, h2⟩ | ⟨b, c, cs, h1, h2, h3, h4, h5, h6, h7, h8⟩
      · exact .inl ⟨.inl h1, h2⟩
      · refine .inr ⟨b, 0, c, cs, h1, h5, hz b ⟨h3, .inl h4⟩, h6, by rw [h7]; simpa using Nat.mul_le_mul_right _ h5, ?_⟩
        have : RL A S.fz S.m R ((cs.drop 0).take (R.length * A.sz)) := by simpa using h8
        exact this.frame fun i hi => ⟨hz i ⟨hi.1, .inr hi.2⟩, rfl⟩
theorem Tw.ro (h : Tw A S k r v L) {zo zi : Nat → Prop} (ho : ∀ b, b < S.n ∧ S.ow b = k → zo b) (hi : ∀ i, i < S.n ∧ (S.ow i = r ∨ S.ow i = 0) → zi i) : RO (Lay.sl A) zo zi S.m v L := by
  obtain ⟨H, h1, h2⟩ := h
  have hR := Tw.rl h2 hi
  have hlen := h2.len
  rcases h1 with ⟨h3, rfl⟩ | ⟨b, c, cs, h3, h4, h5, h6, h7, h8, h9, h10⟩
  · refine .inl ⟨.inl h3, ?_⟩
    apply List.eq_nil_of_length_eq_zero; rw [← hlen]; rfl
  · have e := h10.flat1
    refine .inr ⟨b, 0, c, cs, by rw [h3, hlen]; rfl, by rw [← hlen]; exact h7, ho b ⟨h5, h6⟩, h8, ?_, ?_⟩
    · show 0 + L.length * 1 ≤ cs.length
      have h9 : cs.length = c * 1 := h9
      omega
    · have e2 : List.take (L.length * (Lay.sl A).sz) (List.drop 0 cs) = H.map id := by
        rw [List.drop_zero, ← hlen]; exact e
      rw [e2]; exact hR
theorem Tw.vw (h : Tw A S k r v L) : Vw (Lay.sl A) S.n S.m v L := h.ro (fun _ h => h.1) (fun _ h => h.1)
/-- All is nobody's from now on. -/
theorem Tw.freeze (h : Tw A S k r v L) : Rd (Lay.sl A) ((S.drop k).drop r) v L := by
  have := h.ro (zo := ((S.drop k).drop r).fz) (zi := ((S.drop k).drop r).fz) (fun b hb => ⟨hb.1, by show (if (if S.ow b = k then 0 else S.ow b) = r then 0 else (if S.ow b = k then 0 else S.ow b)) = 0; simp [hb.2]⟩) (fun i hi => ⟨hi.1, by
    show (if (if S.ow i = k then 0 else S.ow i) = r then 0 else (if S.ow i = k then 0 else S.ow i)) = 0
    rcases hi.2 with h | h
    · rw [h]; by_cases e : r = k <;> simp [e]
    · rw [h]; simp⟩)
  exact this
/-- A row, to look at. -/
theorem Tw.row (h : Tw A S k r v L) (hR : L[i]? = some R) : ∃ H : List SV, ∃ w, Ow LH S k v H ∧ H[i]? = some w ∧ Wk A S r w R := by
  obtain ⟨H, h1, h2⟩ := h
  have hi := (List.getElem?_eq_some_iff.1 hR).1
  have hw : H[i]? = some (H[i]'(by rw [h2.len]; exact hi)) := List.getElem?_eq_getElem _
  exact ⟨H, _, h1, hw, (h2.row i _ R (by simp) hw hR).wk⟩
theorem Lt.lim {lim : Option Nat} (h : Lt v n0) (hl : limLe lim n0 = true) {b : Nat} (hb : v.blk = some b) : limOk lim b = true := limOk_of hl (h b hb)
end tw

section rules
variable {E : Env} {lo : List Nat} {fl : Nat} {loose : Nat → Bool} {lim : Option Nat} {ops : Array Oper} {os : List Oper}
variable {l : LE} {m : Mem} {n n0 : Nat} {K : LE → Mem → Nat → Prop}
variable {d : Nat} {ty t : TypeId} {pos : String} {af : Array Edge} {x y : Operand} {v w : SV} {k k' : IntKind}
variable {α : Type} {A : Lay α} {S : Cx fl} {L M : List (List α)} {R : List α} {i j : Nat} {id r : Nat} {H : List SV}

theorem Tw.th (h : Tw A S id r v L) (hR : L[i]? = some R) : ∃ w, Th A S id r v L i w := by
  obtain ⟨H, h1, h2⟩ := h
  have hi := (List.getElem?_eq_some_iff.1 hR).1
  exact ⟨_, H, h1, h2.any i, List.getElem?_eq_getElem (by rw [h2.len]; exact hi)⟩
end rules
end Go.Am

set_option linter.unusedVariables false
namespace Go.Am

/-- A block that is k's: its cells. -/
def Bw {fl : Nat} (S : Cx fl) (k : Nat) (v : SV) (cs : List SV) : Prop := ∃ b, v = .ptr b 0 ∧ fl ≤ b ∧ b < S.n ∧ S.ow b = k ∧ S.m.get b = some cs
/-- A block that nobody writes: its cells. -/
def Rw {fl : Nat} (S : Cx fl) (v : SV) (cs : List SV) : Prop := ∃ b, v = .ptr b 0 ∧ S.fz b ∧ S.m.get b = some cs
section bw
variable {fl k j : Nat} {S S' : Cx fl} {v : SV} {cs : List SV}
theorem Bw.to (h : Bw S j v cs) (c : Ch k S S') (hk : Nat.beq k 0 = false := by rfl) (hj : Nat.beq j k = false := by rfl) : Bw S' j v cs := by
  obtain ⟨b, h1, h2, h3, h4, h5⟩ := h
  obtain ⟨q1, q2⟩ := c.ow b h3 (by rw [h4]; exact nb hj)
  exact ⟨b, h1, h2, Nat.lt_of_lt_of_le h3 c.n, by rw [q1]; exact h4, by rw [q2]; exact h5⟩
theorem Bw.drop (h : Bw S j v cs) (k : Nat) (hj : Nat.beq j k = false := by rfl) : Bw (S.drop k) j v cs := by
  obtain ⟨b, h1, h2, h3, h4, h5⟩ := h
  exact ⟨b, h1, h2, h3, by simp only [Cx.drop]; rw [if_neg (by rw [h4]; exact nb hj)]; exact h4, h5⟩
theorem Bw.renO {i : Nat} (h : Bw S i v cs) (k j : Nat) (hk : Nat.beq k 0 = false := by rfl) (hj : Nat.beq j 0 = false := by rfl) (hik : Nat.beq i k = false := by rfl) (hij : Nat.beq i j = false := by rfl) : Bw (S.ren k j) i v cs := by
  obtain ⟨b, h1, h2, h3, h4, h5⟩ := h
  exact ⟨b, h1, h2, h3, by simp only [Cx.ren]; rw [if_neg (by rw [h4]; exact nb hik), if_neg (by rw [h4]; exact nb hij)]; exact h4, h5⟩
theorem Bw.ren (h : Bw S k v cs) (j : Nat) (hk : Nat.beq k 0 = false := by rfl) (hj : Nat.beq j 0 = false := by rfl) : Bw (S.ren k j) j v cs := by
  obtain ⟨b, h1, h2, h3, h4, h5⟩ := h
  exact ⟨b, h1, h2, h3, by simp only [Cx.ren]; rw [if_pos h4], h5⟩
theorem Bw.freeze (h : Bw S k v cs) : Rw (S.drop k) v cs := by
  obtain ⟨b, h1, h2, h3, h4, h5⟩ := h
  exact ⟨b, h1, ⟨h3, by simp only [Cx.drop]; rw [if_pos h4]⟩, h5⟩
theorem Rw.to (h : Rw S v cs) (c : Ch k S S') (hk : Nat.beq k 0 = false := by rfl) : Rw S' v cs := by
  obtain ⟨b, h1, h2, h5⟩ := h
  obtain ⟨q1, q2⟩ := fz_ch c (nb hk) b h2
  exact ⟨b, h1, q1, by rw [q2]; exact h5⟩
theorem Rw.drop (h : Rw S v cs) (k : Nat) : Rw (S.drop k) v cs := by
  obtain ⟨b, h1, h2, h5⟩ := h
  exact ⟨b, h1, (fz_drop k b h2).1, h5⟩
theorem Rw.ren (h : Rw S v cs) (k j : Nat) (hk : Nat.beq k 0 = false := by rfl) (hj : Nat.beq j 0 = false := by rfl) : Rw (S.ren k j) v cs := by
  obtain ⟨b, h1, h2, h5⟩ := h
  exact ⟨b, h1, (fz_ren k j (nb hk) (nb hj) b h2).1, h5⟩
theorem Bw.isp (h : Bw S k v cs) : ∃ b, v = .ptr b 0 := by obtain ⟨b, h, _⟩ := h; exact ⟨b, h⟩
theorem Rw.isp (h : Rw S v cs) : ∃ b, v = .ptr b 0 := by obtain ⟨b, h, _⟩ := h; exact ⟨b, h⟩
theorem Bw.at0 (h : Bw S k v cs) : v = ptrAt v 0 0 := by obtain ⟨b, rfl, _⟩ := h; rfl
theorem Rw.at0 (h : Rw S v cs) : v = ptrAt v 0 0 := by obtain ⟨b, rfl, _⟩ := h; rfl
theorem Bw.ptr {j : Nat} (h : Bw S k v cs) : ∃ b o, ptrAt v j 0 = .ptr b o := by obtain ⟨b, rfl, _⟩ := h; exact ⟨_, _, rfl⟩
theorem Rw.ptr {j : Nat} (h : Rw S v cs) : ∃ b o, ptrAt v j 0 = .ptr b o := by obtain ⟨b, rfl, _⟩ := h; exact ⟨_, _, rfl⟩
theorem Bw.lt (h : Bw S k v cs) : Lt v S.n := by obtain ⟨b, rfl, _, h, _⟩ := h; intro c hc; cases hc; exact h
theorem Rw.lt (h : Rw S v cs) : Lt v S.n := by obtain ⟨b, rfl, h, _⟩ := h; intro c hc; cases hc; exact h.1
theorem Rd.lt {α : Type} {A : Lay α} {L : List α} (h : Rd A S v L) : Lt v S.n := by
  rcases h with ⟨h | h, _⟩ | ⟨i, o, c, cs, rfl, _, h, _⟩
  · subst h; intro c hc; cases hc
  · subst h; intro c hc; cases hc
  · intro c hc; cases hc; exact h.1
end bw

section rules
variable {E : Env} {lo : List Nat} {fl : Nat} {loose : Nat → Bool} {lim : Option Nat} {ops : Array Oper} {os : List Oper}
variable {l : LE} {m : Mem} {n n0 : Nat} {K : LE → Mem → Nat → Prop}
variable {d : Nat} {ty t : TypeId} {pos : String} {af : Array Edge} {x y : Operand} {v w : SV} {k k' : IntKind}
variable {S : Cx fl} {q : Nat} {s : SV} {cs : List SV} {id : Nat} {p : SV}

/-- A new block. -/
theorem Bw.fresh (hid : id ≠ 0) : ∃ S' : Cx fl, S'.m = S.m.set S.n cs ∧ S'.n = S.n + 1 ∧ Ch id S S' ∧ Bw S' id (.ptr S.n 0) cs := by
  have hS := S.le
  exact ⟨⟨S.m.set S.n cs, S.n + 1, fun i => if i = S.n then id else S.ow i, by omega⟩, rfl, rfl, ⟨by simp, fun i hi hk => ⟨by simp only; rw [if_neg (by omega)], Tr.get_set_ne _ _ (by omega)⟩⟩, S.n, rfl, hS, by simp, by simp, Tr.get_set_same _ _ _⟩
end rules

/-! ### Calls that turn what they are given -/
/-- From S0 to S what was not given has not turned. -/
structure ChM {fl : Nat} (S S' : Cx fl) : Prop where
  n : S.n ≤ S'.n
  ow : ∀ i, i < S.n → (S.ow i = 0 ∨ 1000 ≤ S.ow i) → S'.ow i = S.ow i ∧ S'.m.get i = S.m.get i
/-- The caller's numbers as the callee sees them. -/
def lkp : List (Nat × Nat) → Nat → Option Nat
  | [], _ => none
  | (a, b) :: r, o => if Nat.beq a o then some b else lkp r o
def sg (l : List (Nat × Nat)) (o : Nat) : Nat := if Nat.beq o 0 then 0 else (lkp l o).getD (o + 1000)
def tk (l : List (Nat × Nat)) (o : Nat) : Nat := if Nat.beq o 0 then 0 else (lkp l o).getD 1
def Cx.mp {fl : Nat} (S : Cx fl) (l : List (Nat × Nat)) : Cx fl := ⟨S.m, S.n, fun i => sg l (S.ow i), S.le⟩
/-- None becomes nobody's. -/
def Strict (l : List (Nat × Nat)) : Bool := l.all fun p => p.2 != 0

section chm
variable {fl k j : Nat} {S S0 S1 S' : Cx fl} {v : SV} {l q : List (Nat × Nat)}
theorem ChM.refl (S : Cx fl) : ChM S S := ⟨Nat.le_refl _, fun _ _ _ => ⟨rfl, rfl⟩⟩
theorem ChM.to (h : ChM S0 S) (c : Ch k S S') (hk : Nat.beq k 0 = false := by rfl) (hk2 : Nat.blt k 1000 = true := by rfl) : ChM S0 S' :=
  ⟨Nat.le_trans h.n c.n, fun i hi ho => by
    obtain ⟨h1, h2⟩ := h.ow i hi ho
    have hlt : k < 1000 := Nat.le_of_ble_eq_true hk2
    obtain ⟨h3, h4⟩ := c.ow i (Nat.lt_of_lt_of_le hi h.n) (by rw [h1]; have := nb hk; omega)
    exact ⟨h3.trans h1, h4.trans h2⟩⟩
theorem ChM.drop (h : ChM S0 S) (k : Nat) (hk : Nat.beq k 0 = false := by rfl) (hk2 : Nat.blt k 1000 = true := by rfl) : ChM S0 (S.drop k) :=
  ⟨h.n, fun i hi ho => by
    obtain ⟨h1, h2⟩ := h.ow i hi ho
    have hlt : k < 1000 := Nat.le_of_ble_eq_true hk2
    refine ⟨?_, h2⟩
    show (if S.ow i = k then 0 else S.ow i) = _
    rw [if_neg (by rw [h1]; have := nb hk; omega)]; exact h1⟩
theorem ChM.renO (h : ChM S0 S) (k j : Nat) (hk : Nat.beq k 0 = false := by rfl) (hj : Nat.beq j 0 = false := by rfl) (hk2 : Nat.blt k 1000 = true := by rfl) (hj2 : Nat.blt j 1000 = true := by rfl) : ChM S0 (S.ren k j) :=
  ⟨h.n, fun i hi ho => by
    obtain ⟨h1, h2⟩ := h.ow i hi ho
    have hlt : k < 1000 := Nat.le_of_ble_eq_true hk2
    have hlt2 : j < 1000 := Nat.le_of_ble_eq_true hj2
    refine ⟨?_, h2⟩
    show (if S.ow i = k then j else if S.ow i = j then 1 else S.ow i) = _
    rw [if_neg (by rw [h1]; have := nb hk; omega), if_neg (by rw [h1]; have := nb hj; omega)]; exact h1⟩

theorem fz_mp : ∀ i, S.fz i → (S.mp l).fz i ∧ (S.mp l).m.get i = S.m.get i := fun i ⟨h1, h2⟩ => ⟨⟨h1, by show sg l (S.ow i) = 0; rw [h2]; rfl⟩, rfl⟩
variable {α : Type} {A : Lay α} {L : List α} {LL : List (List α)} {cs : List SV}
theorem Rd.mp (h : Rd A S v L) : Rd A (S.mp l) v L := RO.to h fz_mp fz_mp
theorem Ow.mp (h : Ow A S k v L) (e : sg l k = j) : Ow A (S.mp l) j v L := by
  rcases h with h | ⟨b, c', cs, h1, h2, h3, h4, h5, h6, h7, h8⟩
  · exact .inl h
  · exact .inr ⟨b, c', cs, h1, h2, h3, by show sg l (S.ow b) = j; rw [h4]; exact e, h5, h6, h7, h8.frame fz_mp⟩
theorem Tw.mp {r r' : Nat} (h : Tw A S k r v LL) (e : sg l k = j) (e' : sg l r = r') : Tw A (S.mp l) j r' v LL := by
  obtain ⟨H, h1, h2⟩ := h
  exact ⟨H, h1.mp e, h2.len, fun i w R a b c => (h2.row i w R a b c).mp e', h2.sep⟩
theorem Bw.mp (h : Bw S k v cs) (e : sg l k = j) : Bw (S.mp l) j v cs := by
  obtain ⟨b, h1, h2, h3, h4, h5⟩ := h
  exact ⟨b, h1, h2, h3, by show sg l (S.ow b) = j; rw [h4]; exact e, h5⟩
theorem Rw.mp (h : Rw S v cs) : Rw (S.mp l) v cs := by
  obtain ⟨b, h1, h2, h5⟩ := h
  exact ⟨b, h1, (fz_mp b h2).1, h5⟩
theorem Bk.mp {u : α} (h : Bk A S k v u) (e : sg l k = j) : Bk A (S.mp l) j v u := by
  obtain ⟨b, cs, h1, h2, h3, h4, h6, h8⟩ := h
  exact ⟨b, cs, h1, h2, h3, by show sg l (S.ow b) = j; rw [h4]; exact e, h6, A.frame h8 fz_mp⟩
theorem Rp.mp {u : α} (h : Rp A S v u) : Rp A (S.mp l) v u := by
  obtain ⟨b, cs, e, h1, h2, h3⟩ := h
  exact ⟨b, cs, e, (fz_mp b h1).1, h2, A.frame h3 fz_mp⟩

/-- The caller's state again. -/
structure Bak (l q : List (Nat × Nat)) (S S' S1 : Cx fl) : Prop where
  m : S1.m = S'.m
  n : S1.n = S'.n
  le : S.n ≤ S'.n
  old : ∀ i, i < S.n → (sg l (S.ow i) = 0 ∨ 1000 ≤ sg l (S.ow i)) → S1.ow i = S.ow i ∧ S'.ow i = sg l (S.ow i) ∧ S'.m.get i = S.m.get i
  new : ∀ i, ¬ (i < S.n ∧ (sg l (S.ow i) = 0 ∨ 1000 ≤ sg l (S.ow i))) → S1.ow i = tk q (S'.ow i)
theorem Bak.mk' (l q : List (Nat × Nat)) (h : ChM (S.mp l) S') : ∃ S1 : Cx fl, Bak l q S S' S1 := by
  refine ⟨⟨S'.m, S'.n, fun i => if i < S.n ∧ (sg l (S.ow i) = 0 ∨ 1000 ≤ sg l (S.ow i)) then S.ow i else tk q (S'.ow i), S'.le⟩, rfl, rfl, h.n, fun i h1 h2 => ⟨if_pos ⟨h1, h2⟩, h.ow i h1 h2⟩, fun i hi => if_neg hi⟩
/-- A block that the callee has as its own, under 1000. -/
theorem Bak.own (hb : Bak l q S S' S1) {b : Nat} (h1 : S'.ow b = j) (hj : Nat.beq j 0 = false) (hj2 : Nat.blt j 1000 = true) : S1.ow b = tk q j := by
  have hlt : j < 1000 := Nat.le_of_ble_eq_true hj2
  rw [← h1]
  refine hb.new b fun ⟨h2, h3⟩ => ?_
  have := (hb.old b h2 h3).2.1
  have := nb hj
  omega
theorem Bak.fz (hb : Bak l q S S' S1) (hs : Strict l = true) : ∀ i, S'.fz i → S1.fz i ∧ S1.m.get i = S'.m.get i := fun i ⟨h1, h2⟩ => by
  refine ⟨⟨by rw [hb.n]; exact h1, ?_⟩, by rw [hb.m]⟩
  by_cases hc : i < S.n ∧ (sg l (S.ow i) = 0 ∨ 1000 ≤ sg l (S.ow i))
  · obtain ⟨e1, e2, _⟩ := hb.old i hc.1 hc.2
    rw [e1]
    rw [h2] at e2
    -- strict: only 0 goes to 0
    have key : ∀ (l : List (Nat × Nat)) (o : Nat), Strict l = true → 0 = sg l o → o = 0 := by
      intro l o hs h
      unfold sg at h
      by_cases h0 : Nat.beq o 0 = true
      · exact Nat.eq_of_beq_eq_true h0
      · rw [if_neg h0] at h
        exfalso
        induction l with
        | nil => simp [lkp] at h
        | cons p r ih =>
          obtain ⟨a, b⟩ := p
          simp only [Strict, List.all_cons, Bool.and_eq_true, bne_iff_ne, ne_eq] at hs
          simp only [lkp] at h
          split at h
          · simp only [Option.getD_some] at h; exact hs.1 h.symm
          · exact ih (by simpa [Strict] using hs.2) h
    exact key l _ hs e2
  · rw [hb.new i hc, h2]; rfl
theorem Ow.bkF (h : Ow A S' j v L) (hb : Bak l q S S' S1) (e : tk q j = k) (hA : A.Fl) (hj : Nat.beq j 0 = false := by rfl) (hj2 : Nat.blt j 1000 = true := by rfl) : Ow A S1 k v L := by
  rcases h with h | ⟨b, c', cs, h1, h2, h3, h4, h5, h6, h7, h8⟩
  · exact .inl h
  · exact .inr ⟨b, c', cs, h1, h2, by rw [hb.n]; exact h3, by rw [hb.own h4 hj hj2]; exact e, h5, by rw [hb.m]; exact h6, h7, h8.fl hA⟩
theorem Tw.bkF {r r' : Nat} (h : Tw A S' j r' v LL) (hb : Bak l q S S' S1) (e : tk q j = k) (e' : tk q r' = r) (hA : A.Fl) (hj : Nat.beq j 0 = false := by rfl) (hj2 : Nat.blt j 1000 = true := by rfl) (hr : Nat.beq r' 0 = false := by rfl) (hr2 : Nat.blt r' 1000 = true := by rfl) : Tw A S1 k r v LL := by
  obtain ⟨H, h1, h2⟩ := h
  exact ⟨H, h1.bkF hb e Lay.flat_fl hj hj2, h2.len, fun i w R a b c => (h2.row i w R a b c).bkF hb e' hA hr hr2, h2.sep⟩
theorem Bk.bkF {u : α} (h : Bk A S' j v u) (hb : Bak l q S S' S1) (e : tk q j = k) (hA : A.Fl) (hj : Nat.beq j 0 = false := by rfl) (hj2 : Nat.blt j 1000 = true := by rfl) : Bk A S1 k v u := by
  obtain ⟨b, cs, h1, h2, h3, h4, h6, h8⟩ := h
  exact ⟨b, cs, h1, h2, by rw [hb.n]; exact h3, by rw [hb.own h4 hj hj2]; exact e, by rw [hb.m]; exact h6, hA _ _ _ _ _ _ h8⟩
/-- All of ks become k0's. -/
def Cx.mgs : List Nat → Nat → Cx fl → Cx fl
  | [], _, S => S
  | j :: r, k0, S => Cx.mgs r k0 (S.mg j k0)
theorem Cx.mgs_mn (k0 : Nat) : ∀ (ks : List Nat) (S : Cx fl), (Cx.mgs ks k0 S).m = S.m ∧ (Cx.mgs ks k0 S).n = S.n
  | [], S => ⟨rfl, rfl⟩
  | j :: r, S => Cx.mgs_mn k0 r (S.mg j k0)
theorem Cx.mgs_ow (k0 : Nat) : ∀ (ks : List Nat) (S : Cx fl) (i : Nat), (Cx.mgs ks k0 S).ow i ≠ k0 → (Cx.mgs ks k0 S).ow i = S.ow i ∧ S.ow i ≠ k0 ∧ S.ow i ∉ ks
  | [], S, i, h => ⟨rfl, h, by simp⟩
  | j :: r, S, i, h => by
    obtain ⟨h1, h2, h3⟩ := Cx.mgs_ow k0 r (S.mg j k0) i h
    have e : (S.mg j k0).ow i = if S.ow i = j then k0 else S.ow i := rfl
    by_cases hj : S.ow i = j
    · rw [e, if_pos hj] at h2; exact (h2 rfl).elim
    · rw [e, if_neg hj] at h1 h2 h3
      exact ⟨h1, h2, by simp [hj, h3]⟩
def mgOk (l : List (Nat × Nat)) (ks : List Nat) (k0 : Nat) : Bool := l.all fun p => p.2 == 0 || p.1 == k0 || ks.contains p.1
theorem Bak.ch (hb : Bak l q S S' S1) (ks : List Nat) (k0 : Nat) (h : mgOk l ks k0 = true := by rfl) : Ch k0 (Cx.mgs ks k0 S) S1 := by
  obtain ⟨e1, e2⟩ := Cx.mgs_mn k0 ks S
  refine ⟨by rw [e2, hb.n]; exact hb.le, fun i hi hk => ?_⟩
  rw [e2] at hi
  obtain ⟨h1, h2, h3⟩ := Cx.mgs_ow k0 ks S i hk
  have key : ∀ (l : List (Nat × Nat)) (o : Nat), mgOk l ks k0 = true → o ≠ k0 → o ∉ ks → sg l o = 0 ∨ 1000 ≤ sg l o := by
    intro l o hm h2 h3
    unfold sg
    by_cases h0 : Nat.beq o 0 = true
    · rw [if_pos h0]; exact .inl rfl
    · rw [if_neg h0]
      induction l with
      | nil => right; simp [lkp]
      | cons p r ih =>
        obtain ⟨a, b⟩ := p
        simp only [mgOk, List.all_cons, Bool.and_eq_true, Bool.or_eq_true, beq_iff_eq] at hm
        simp only [lkp]
        split
        · rename_i e
          have e : a = o := Nat.eq_of_beq_eq_true e
          subst e
          rcases hm.1 with (h | h) | h
          · left; simpa using h
          · exact (h2 h).elim
          · exact (h3 (by simpa using h)).elim
        · exact ih (by simpa [mgOk] using hm.2)
  obtain ⟨g1, _, g3⟩ := hb.old i hi (key l _ h h2 h3)
  exact ⟨by rw [g1, h1], by rw [hb.m, e1]; exact g3⟩
end chm

section rules
variable {E : Env} {lo : List Nat} {fl : Nat} {loose : Nat → Bool} {lim : Option Nat} {ops : Array Oper} {os : List Oper}
variable {l : LE} {m : Mem} {n n0 : Nat} {K : LE → Mem → Nat → Prop}
variable {d : Nat} {ty t : TypeId} {pos : String} {af : Array Edge} {S : Cx fl}
/-- A call that turns what it is given. -/
theorem WO.callG {f : Operand} {xs : Array Operand} {ats : Array TypeId} {g : Nat} {caps : List (Nat × Nat)} {args : List AV} {R : AV → Cx fl → Prop} (p q : List (Nat × Nat)) (hf : evK l f = some (.sc (.fn g caps))) (ha : xs.toList.mapM (evK l) = some args)
    (hr : Ret E fl g (args ++ caps.map fun p => .sc (.ptr p.1 p.2)) S.m S.n (fun v m' n' => ∃ S' : Cx fl, S'.m = m' ∧ S'.n = n' ∧ ChM (S.mp p) S' ∧ R v S'))
    (h : ∀ v S' S1, Bak p q S S' S1 → R v S' → WO E loose fl lim ops os ((d, v) :: l) S1.m S1.n K) (hl : loose g = false := by rfl) :
    WO E loose fl lim ops (⟨some d, .call ⟨.value f, xs, ats⟩, ty, pos, af, none⟩ :: os) l S.m S.n K := by
  refine WO.call hf ha ?_
  rw [hl]; simp only [Bool.false_eq_true, if_false]
  refine hr.mono ?_
  rintro v m' n' ⟨S', rfl, rfl, hM, hR⟩
  obtain ⟨S1, hb⟩ := Bak.mk' p q hM
  have := h v S' S1 hb hR
  rw [hb.m, hb.n] at this
  exact this
end rules
end Go.Am

set_option linter.unusedVariables false
namespace Go.Am

/-- Its block is k's. -/
def BK {fl : Nat} (S : Cx fl) (k : Nat) (v : SV) : Prop := ∀ b, v.blk = some b → b < S.n ∧ S.ow b = k
/-- Different blocks. -/
def NB (v w : SV) : Prop := ∀ b, v.blk = some b → w.blk ≠ some b
/-- Its block is new. -/
def GE (n : Nat) (v : SV) : Prop := ∀ b, v.blk = some b → n ≤ b

section bk
variable {α : Type} {A : Lay α} {fl k j : Nat} {S S' : Cx fl} {v w : SV} {L : List α}
theorem BK.nb (h : BK S k v) (g : BK S j w) (hkj : Nat.beq k j = false := by rfl) : NB v w := fun b hb hw => Go.Am.nb hkj ((h b hb).2.symm.trans (g b hw).2)
theorem BK.ge {n : Nat} (h : BK S k v) (g : GE n w) (hn : S.n ≤ n) : NB v w := fun b hb hw => by
  have := (h b hb).1; have := g b hw; omega
theorem NB.symm (h : NB v w) : NB w v := fun b hb hw => h b hw hb
theorem NB.none (h : v.blk = .none) : NB v w := fun b hb => by rw [h] at hb; cases hb
end bk

def NB1 (v : SV) : List SV → Prop
  | [] => True
  | w :: ws => NB v w ∧ NB1 v ws
def NBs : List SV → List SV → Prop
  | [], _ => True
  | v :: vs, ws => NB1 v ws ∧ NBs vs ws
theorem NB1.mem {v : SV} : ∀ {ws : List SV}, NB1 v ws → ∀ w ∈ ws, NB v w
  | w :: ws, h, u, hu => by
    rcases List.mem_cons.1 hu with rfl | hu
    · exact h.1
    · exact NB1.mem h.2 u hu
theorem NBs.mem : ∀ {vs ws : List SV}, NBs vs ws → ∀ v ∈ vs, ∀ w ∈ ws, NB v w
  | v :: vs, ws, h, u, hu => by
    rcases List.mem_cons.1 hu with rfl | hu
    · exact NB1.mem h.1
    · exact NBs.mem h.2 u hu
def DJ (t : Tr AV) : Option Oper → Option Oper → Prop
  | some a, some b => djT t a b = true
  | _, _ => True
def PD (t : Tr AV) (ops : Array Oper) : List (Nat × Nat) → Prop
  | [] => True
  | q :: r => DJ t ops[q.1]? ops[q.2]? ∧ PD t ops r
theorem PD.mem {t : Tr AV} {ops : Array Oper} {i j : Nat} {a b : Oper} (h1 : ops[i]? = some a) (h2 : ops[j]? = some b) : ∀ (ps : List (Nat × Nat)), PD t ops ps → (i, j) ∈ ps → djT t a b = true := by
  intro ps
  induction ps with
  | nil => intro _ hm; cases hm
  | cons q r ih =>
    intro h hm
    rcases List.mem_cons.1 hm with e | hm
    · subst e
      have h0 : DJ t ops[i]? ops[j]? := h.1
      rw [h1, h2] at h0
      exact h0
    · exact ih h.2 hm
section rules
variable {E : Env} {lo : List Nat} {fl : Nat} {loose : Nat → Bool} {lim : Option Nat} {ops : Array Oper} {os : List Oper}
variable {l : LE} {m : Mem} {n n0 : Nat} {K : LE → Mem → Nat → Prop} {Q : AE → LE → Mem → Nat → Prop}
variable {α : Type} {A : Lay α} {L M : List α} {d : Nat} {ty t : TypeId} {pos : String} {af : Array Edge} {S : Cx fl}
end rules
end Go.Am

set_option linter.unusedVariables false
namespace Go.Am

section resc
variable {E : Env} {l l0 : LE} {m : Mem} {rs : List ResultVar} {vs : List AV} {fl id : Nat} {S : Cx fl} {v : SV} {cs : List SV}
end resc

section rules
variable {E : Env} {lo : List Nat} {fl : Nat} {loose : Nat → Bool} {lim : Option Nat} {ops : Array Oper} {os : List Oper}
variable {l : LE} {m m0 : Mem} {n n0 : Nat} {K : LE → Mem → Nat → Prop}
variable {d : Nat} {ty t : TypeId} {pos : String} {af : Array Edge} {x y : Operand} {v w : SV} {k k' : IntKind} {s : SV}
variable {α : Type} {A : Lay α} {S : Cx fl} {L L' M : List α} {u : α} {j b q : Nat} {id : Nat}

/-! ### Loads in a drawn region, of blocks that stood at its beginning -/
theorem Bk.lt (h : Bk A S id v u) : Lt v S.n := by obtain ⟨b, cs, rfl, _, h4, _⟩ := h; intro c hc; cases hc; exact h4
theorem Rp.lt (h : Rp A S v u) : Lt v S.n := by obtain ⟨b, cs, rfl, h4, _⟩ := h; intro c hc; cases hc; exact h4.1
theorem WO.ldBz {sz : Nat} {f : α → List SV} {hf : ∀ a, (f a).length = sz} {p : SV} (hx : evK l x = some (.sc p)) (hp : p = ptrAt v j q) (hs : Bk (Lay.flat sz f hf) S id v u) (hc : (f u)[q]? = some s) (hT : oneT E t = true) (hv : Lt v n0) (hl : limLe lim n0 = true)
    (h : WO E loose fl lim ops os ((d, .sc s) :: l) S.m S.n K) : WO E loose fl lim ops (⟨some d, .load t x, ty, pos, af, none⟩ :: os) l S.m S.n K := ⟨fun tt ht => by
  subst hp
  obtain ⟨y, h1, h2, h3, _⟩ := oneT_ok hT
  refine W_op2 ?_ (h.put ht)
  obtain ⟨b, cs, rfl, _, h4, _, h5, h6⟩ := hs
  have h6 : cs = f u := h6
  subst h6
  simp only [opA, evK_ev ht hx, ptrAt, loadA, hv.lim hl rfl, if_true, h5, part, h1, h2, h3, or_self, if_false, Nat.zero_add, hc, Option.map_some]⟩
/-! ### A call that turns nothing, in a loose region -/
/-- The caller's numbers as the callee sees them; all that is there lies under the floor. -/
def Cx.up {fl : Nat} (S : Cx fl) (l : List (Nat × Nat)) : Cx S.n := ⟨S.m, S.n, fun i => sg l (S.ow i), Nat.le_refl _⟩
/-- A lower floor. -/
def Cx.low {f f' : Nat} (S : Cx f) (h : f' ≤ f) : Cx f' := ⟨S.m, S.n, S.ow, Nat.le_trans h S.le⟩
section up
variable {lq : List (Nat × Nat)}
theorem fz_up : ∀ i, S.fz i → (S.up lq).fz i ∧ (S.up lq).m.get i = S.m.get i := fun i ⟨h1, h2⟩ => ⟨⟨h1, by show sg lq (S.ow i) = 0; rw [h2]; rfl⟩, rfl⟩
theorem Rd.up (h : Rd A S v L) : Rd A (S.up lq) v L := RO.to h fz_up fz_up
theorem Ow.low {f f' : Nat} {S' : Cx f} {hf : f' ≤ f} (h : Ow A S' id v L) : Ow A (S'.low hf) id v L := by
  rcases h with h | ⟨b, c', cs, h1, h2, h3, h4, h5, h6, h7, h8⟩
  · exact .inl h
  · exact .inr ⟨b, c', cs, h1, Nat.le_trans hf h2, h3, h4, h5, h6, h7, h8⟩
theorem Rd.low {f f' : Nat} {S' : Cx f} {hf : f' ≤ f} (h : Rd A S' v L) : Rd A (S'.low hf) v L := h
theorem Tw.low {f f' r : Nat} {S' : Cx f} {hf : f' ≤ f} {LL : List (List α)} (h : Tw A S' id r v LL) : Tw A (S'.low hf) id r v LL := by
  obtain ⟨H, h1, h2⟩ := h
  exact ⟨H, h1.low, h2.len, fun i w R a b e => (h2.row i w R a b e).low, h2.sep⟩
end up
theorem Bk.ren (h : Bk A S id v u) (j : Nat) (hk : Nat.beq id 0 = false := by rfl) (hj : Nat.beq j 0 = false := by rfl) : Bk A (S.ren id j) j v u := by
  have hk : id ≠ 0 := fun e => by subst e; cases hk
  have hj : j ≠ 0 := fun e => by subst e; cases hj
  obtain ⟨b, cs, h1, h2, h3, h4, h6, h8⟩ := h
  exact ⟨b, cs, h1, h2, h3, by simp only [Cx.ren]; rw [if_pos h4], h6, A.frame h8 (fz_ren id j hk hj)⟩
end rules
end Go.Am

namespace Go.Am

theorem wrapA_in {a : Int} (h1 : -9223372036854775808 ≤ a) (h2 : a ≤ 9223372036854775807) : wrapA .i64 a = a := if_pos ⟨h1, h2⟩
theorem wrapA_succ {a : Nat} (h : a ≤ 1152921504606846976) : wrapA .i64 ((a : Int) + 1) = ((a + 1 : Nat) : Int) := by
  rw [wrapA_in (by omega) (by omega)]; rfl
theorem wrapA_pred {a : Nat} (h0 : 0 < a) (h : a ≤ 1152921504606846976) : wrapA .i64 ((a : Int) - 1) = ((a - 1 : Nat) : Int) := by
  rw [wrapA_in (by omega) (by omega)]; omega
/-! ### What Compact leaves -/
/-- p stands ahead of the list: what is left of it. -/
def ddF {α : Type} (eq : α → α → Option Bool) : α → List α → Option (List α)
  | _, [] => some []
  | p, x :: r => (eq x p).bind fun q => (ddF eq x r).bind fun M => some (if q then M else x :: M)
def compF? {α : Type} (eq : α → α → Option Bool) : List α → Option (List α)
  | [] => some []
  | a :: r => if (a :: r).length ≤ 1152921504606846976 then (ddF eq a r).bind fun M => some (a :: M) else none
def DD {α : Type} (eq : α → α → Option Bool) (T r L : List α) (k i : Nat) : Prop := ∃ p R, T[i - 1]? = some p ∧ ddF eq p (T.drop i) = some R ∧ r = L.take k ++ R
section dd
variable {α : Type} {eq : α → α → Option Bool} {T r L : List α} {k i : Nat}
theorem compF?_short (h : compF? eq T = some r) (hl : T.length < 2) : r = T := by
  match T, h, hl with
  | [], h, _ => cases h; rfl
  | [a], h, _ =>
    simp only [compF?, ddF] at h
    rw [if_pos (by simp)] at h
    cases h; rfl
  | _ :: _ :: _, _, hl => simp at hl; omega
theorem DD.start (h : compF? eq T = some r) (hl : 0 < T.length) : T.length ≤ 1152921504606846976 ∧ DD eq T r T 1 1 := by
  match T, h, hl with
  | a :: R, h, _ =>
    simp only [compF?] at h
    split at h
    · rename_i hb
      obtain ⟨M, e, h⟩ := bindS h
      cases h
      exact ⟨hb, a, M, rfl, e, rfl⟩
    · cases h
theorem DD.step (h : DD eq T r L k i) (hi : i < T.length) : ∃ x p q, T[i]? = some x ∧ T[i - 1]? = some p ∧ eq x p = some q ∧ (q = true → DD eq T r L k (i + 1)) ∧ (q = false → k < L.length → DD eq T r (L.set k x) (k + 1) (i + 1)) := by
  obtain ⟨p, R, h1, h2, h3⟩ := h
  rw [List.drop_eq_getElem_cons hi] at h2
  unfold ddF at h2
  obtain ⟨q, e1, h2⟩ := bindS h2
  obtain ⟨M, e2, h2⟩ := bindS h2
  have hx : T[i]? = some T[i] := List.getElem?_eq_getElem hi
  refine ⟨T[i], p, q, hx, h1, e1, fun hq => ?_, fun hq hk => ?_⟩
  · subst hq
    cases h2
    exact ⟨T[i], M, by rw [Nat.add_sub_cancel]; exact hx, e2, h3⟩
  · subst hq
    cases h2
    refine ⟨T[i], M, by rw [Nat.add_sub_cancel]; exact hx, e2, ?_⟩
    rw [h3]
    have : (L.set k T[i]).take (k + 1) = L.take k ++ [T[i]] := by
      rw [List.take_add_one, List.take_set_of_le (Nat.le_refl k), List.getElem?_set_self hk]; rfl
    rw [this]; simp
theorem DD.fin (h : DD eq T r L k T.length) : r = L.take k := by
  obtain ⟨p, R, h1, h2, h3⟩ := h
  rw [List.drop_of_length_le (Nat.le_refl _)] at h2
  cases h2
  rw [h3]; simp
theorem DD.same {x : α} (h : DD eq T r (T.set i x) (i + 1) (i + 1)) (hx : T[i]? = some x) : DD eq T r T (i + 1) (i + 1) := by
  have : T.set i x = T := by
    obtain ⟨hi, rfl⟩ := List.getElem?_eq_some_iff.1 hx
    exact List.set_getElem_self hi
  rwa [this] at h
end dd

section rules
variable {E : Env} {lo : List Nat} {fl : Nat} {loose : Nat → Bool} {lim : Option Nat} {ops : Array Oper} {os : List Oper}
variable {l : LE} {m : Mem} {n : Nat} {K : LE → Mem → Nat → Prop}
variable {d : Nat} {ty t t1 : TypeId} {pos : String} {af : Array Edge} {x y i : Operand} {v w : SV} {k k' : IntKind} {a b : Int}
variable {α : Type} {A : Lay α} {S : Cx fl} {L L' M : List α} {j q : Nat} {u : α} {s : SV} {id : Nat}

theorem Ow.hdr {k : Nat} (h : Ow A S k v L) (hl : 0 < L.length) : ∃ b c, v = .sl b 0 L.length c A.sz ∧ L.length ≤ c ∧ fl ≤ b := by
  rcases h with ⟨_, rfl⟩ | ⟨b, c, cs, h1, h2, h3, h4, h5, _⟩
  · simp at hl
  · exact ⟨b, c, h1, h5, h2⟩
theorem Ow.raw {k b n c : Nat} (h : Ow A S k (.sl b 0 n c A.sz) L) : ∃ cs, L.length = n ∧ fl ≤ b ∧ b < S.n ∧ S.ow b = k ∧ n ≤ c ∧ S.m.get b = some cs ∧ cs.length = c * A.sz ∧ RL A S.fz S.m L (cs.take (L.length * A.sz)) := by
  rcases h with ⟨e, _⟩ | ⟨b', c', cs, e, h2, h3, h4, h5, h6, h7, h8⟩
  · cases e
  · cases e; exact ⟨cs, rfl, h2, h3, h4, h5, h6, h7, h8⟩
theorem WO.ixK {b o ln c q : Nat} (hx : evK l x = some (.sc (.sl b o ln c 1))) (hi : evK l i = some (.sc (.int k (q : Int)))) (hq : q < ln) (hc : ln ≤ c) (hT : slTs E t 1 = true) (h : WO E loose fl lim ops os ((d, .sc (.ptr b (o + q))) :: l) m n K) :
    WO E loose fl lim ops (⟨some d, .indexAddr t x i, ty, pos, af, none⟩ :: os) l m n K :=
  WO.ixS hx hi (.inr ⟨b, o, c, rfl, hc⟩) ⟨by omega, by omega⟩ hT (by simpa [ptrAt] using h)
theorem WO.ldK {b n c q : Nat} (hA : A.sz = 1) (hx : evK l x = some (.sc (.ptr b q))) (hs : Ow A S id (.sl b 0 n c A.sz) L) (hu : L[q]? = some u) (hT : oneT E t = true) (hl : limLe lim S.n = true)
    (h : ∀ s, A.R S.fz S.m u [s] → WO E loose fl lim ops os ((d, .sc s) :: l) S.m S.n K) : WO E loose fl lim ops (⟨some d, .load t x, ty, pos, af, none⟩ :: os) l S.m S.n K := ⟨fun tt ht => by
  obtain ⟨y, h1, h2, h3, _⟩ := oneT_ok hT
  obtain ⟨b', o, c', cs, p, e, h4, h5, h6, hp, h8, h7⟩ := hs.ro.cell hu
  obtain ⟨s, rfl⟩ : ∃ s, p = [s] := by
    rw [hA] at hp
    match p, hp with
    | [s], _ => exact ⟨s, rfl⟩
  cases e
  refine W_op2 ?_ ((h s h6).put ht)
  have hcell := cell_at (q := 0) h7 rfl
  rw [hA] at hcell
  simp only [Nat.zero_add, Nat.mul_one, Nat.add_zero] at hcell
  simp only [opA, evK_ev ht hx, loadA, limOk_of hl h4, if_true, h5, part, h1, h2, h3, or_self, if_false, hcell, Option.map_some]⟩
theorem WO.stK {b n c q : Nat} (hA : A.sz = 1) (hx : evK l x = some (.sc (.ptr b q))) (hy : evK l y = some (.sc s)) (hs : Ow A S id (.sl b 0 n c A.sz) L) (hq : q < L.length) (hu : A.R S.fz S.m u [s]) (hT : oneT E t = true) (hid : Nat.beq id 0 = false)
    (h : ∀ S', Ch id S S' → Ow A S' id (.sl b 0 n c A.sz) (L.set q u) → WO E loose fl lim ops os l S'.m S'.n K) : WO E loose fl lim ops (⟨none, .store t x y, ty, pos, af, none⟩ :: os) l S.m S.n K := ⟨fun tt ht => by
  have hid : id ≠ 0 := fun e => by subst e; cases hid
  obtain ⟨z, h1, h2, h3, h4⟩ := oneT_ok hT
  obtain ⟨b', cap, cs, e, h5, h6, h7, S', e1, e2, h8, h9⟩ := hs.put hq hu hid
  cases e
  refine W_op2 (v := .tup []) (m' := S'.m) (n' := S'.n) ?_ ((h S' h8 h9).ok tt ht)
  simp only [opA, evK_ev ht hx, evK_ev ht hy, storeA, AV.cells?, h1, List.length_cons, List.length_nil, h4, h5, h6, true_and, Nat.zero_add, if_true, hA, Nat.mul_one] at e1 h7 ⊢
  rw [if_pos h7, ← e1, e2]; rfl⟩
theorem WO.slK {y1 : Operand} {b ln c q : Nat} (hx : evK l x = some (.sc (.sl b 0 ln c 1))) (hlo : evK l y1 = some (.sc (.int k (q : Int)))) (hq : q < ln) (hc : ln ≤ c) (hT : slTs E t 1 = true)
    (h : WO E loose fl lim ops os ((d, .sc (.sl b q (ln - q) (c - q) 1)) :: l) m n K) : WO E loose fl lim ops (⟨some d, .slice t x (some y1) none none, ty, pos, af, none⟩ :: os) l m n K := ⟨fun tt ht => by
  obtain ⟨yt, e, e1, e2, e3, e4, _⟩ := slTs_ok hT
  refine W_op2 ?_ (h.put ht)
  have key : sliceA E t (.sc (.sl b 0 ln c 1)) (some (.sc (.int k (q : Int)))) none none = some (.sc (.sl b q (ln - q) (c - q) 1)) := by
    simp only [sliceA, e1, e2, e3, e4, Option.map_some, boundA]
    rw [if_pos (show 0 ≤ (q : Int) ∧ (q : Int) ≤ (ln : Int) from by omega)]
    simp only
    rw [if_pos (show (q : Int).toNat < c ∨ (q : Int).toNat = 0 from by omega)]
    simp
  simp only [opA, evK_ev ht hx, evK_ev ht hlo, Option.map_some, Option.map_none, key]⟩
theorem WO.clK {b n c q : Nat} (hA : A.sz = 1) (hx : evK l x = some (.sc (.sl b q (n - q) (c - q) 1))) (hs : Ow A S id (.sl b 0 n c A.sz) L) (hq : q ≤ n) (hT : slTs E t 1 = true) (hid : Nat.beq id 0 = false)
    (h : ∀ S', Ch id S S' → Ow A S' id (.sl b 0 q c A.sz) (L.take q) → WO E loose fl lim ops os l S'.m S'.n K) : WO E loose fl lim ops (⟨none, .call ⟨.builtin .clear, #[x], #[t]⟩, ty, pos, af, none⟩ :: os) l S.m S.n K := by
  have hid : id ≠ 0 := fun e => by subst e; cases hid
  obtain ⟨cs, h0, h1, h2, h3, h4, h5, h6, h7⟩ := hs.raw
  rw [hA, Nat.mul_one] at h6 h7
  refine WO.clrH hx h5 (by omega) h1 hT (fun z hz => ?_)
  have hch : Ch id S (⟨S.m.set b (splice cs q z), S.n, S.ow, S.le⟩ : Cx fl) := ⟨Nat.le_refl _, fun i hi hk => ⟨rfl, Tr.get_set_ne _ _ (fun e => hk (by rw [e]; exact h3))⟩⟩
  have hlt : (L.take q).length = q := by rw [List.length_take]; omega
  refine h ⟨S.m.set b (splice cs q z), S.n, S.ow, S.le⟩ hch (.inr ⟨b, c, _, by rw [hlt], h1, h2, h3, by omega, Tr.get_set_same _ _ _, ?_, ?_⟩)
  · simp only [splice, List.length_append, List.length_take, List.length_drop, hz, hA, Nat.mul_one]; omega
  · have r := (RL.take q h7).frame (fz_ch hch hid)
    rw [hA, Nat.mul_one, List.take_take, Nat.min_eq_left (by omega)] at r
    rw [hA, Nat.mul_one, hlt]
    have : (splice cs q z).take q = cs.take q := by
      simp only [splice, List.append_assoc]
      rw [List.take_append_of_le_length (by rw [List.length_take]; omega), List.take_take, Nat.min_self]
    rw [this]; exact r
/-- The elements are so small that bnd of them fit. -/
def slTb (E : Env) (t sz bnd : Nat) : Bool := slTs E t sz && (match E.ty t with
  | some y => (match E.ty y.elem with
    | some e => decide (bnd * e.bytes ≤ 140737488355328)
    | none => false)
  | none => false)
/-- append of many to what is empty: their bytes alone count. -/
theorem WO.appN {y2 : Operand} {zo : Nat → Prop} {bnd : Nat} (hx : evK l x = some (.sc v)) (hy : evK l y2 = some (.sc w)) (hs : Ow A S id v []) (hs2 : RO A zo S.fz S.m w L') (hM : L'.length ≤ bnd) (hb : bnd ≤ 9223372036854775807) (hT : slTb E t A.sz bnd = true) (hid : Nat.beq id 0 = false)
    (h : ∀ v' S', Ch id S S' → Ow A S' id v' L' → WO E loose fl lim ops os ((d, .sc v') :: l) S'.m S'.n K) :
    WO E loose fl lim ops (⟨some d, .call ⟨.builtin .append, #[x, y2], #[t, t]⟩, ty, pos, af, none⟩ :: os) l S.m S.n K := ⟨fun tt ht => by
  have hid : id ≠ 0 := fun e => by subst e; cases hid
  unfold slTb at hT
  simp only [Bool.and_eq_true] at hT
  obtain ⟨hT, hT2⟩ := hT
  obtain ⟨z, e, h1, h2, h3, h4, h5, h5', h6⟩ := slTs_ok hT
  simp only [h1, h3, decide_eq_true_eq] at hT2
  obtain ⟨new, q1, q2⟩ := hs2.elems
  obtain ⟨old, q3, q4⟩ := hs.ro.elems
  have holdc : ∀ b c, v = .sl b 0 ([] : List α).length c A.sz → ∀ cs, S.m.get b = some cs → old = cs.take (([] : List α).length * A.sz) := by
    intro b c e cs hcs
    subst e
    simp only [elemsA, hcs] at q3
    rw [if_neg (by simp)] at q3
    split at q3
    · cases q3; rfl
    · cases q3
  have hby : (([] : List α).length + L'.length) * e.bytes ≤ 140737488355328 := by
    rw [List.length_nil, Nat.zero_add]; exact Nat.le_trans (Nat.mul_le_mul_right _ hM) hT2
  obtain ⟨v', S', q5, q6, q7⟩ := hs.app0 hid q2 h4 hby (by simp; omega) q4 holdc
  refine W_op2 (m' := S'.m) (n' := S'.n) ?_ ((h v' S' q6 q7).put ht)
  simp only [opA, callA, builtinA, List.map_cons, List.map_nil, evK_ev ht hx, evK_ev ht hy]
  simp only [List.getElem?_toArray, List.getElem?_cons_zero, List.getElem?_cons_succ, if_true, appendA, h1, h2, h3, h4, h5]
  rw [q3, q1]
  simpa [h5'] using q5⟩
end rules
end Go.Am

namespace Go.Am

/-! ### Regions of the kind G -/
section g
variable {E : Env} {lo : List Nat} {fl : Nat} {loose : Nat → Bool} {lim : Option Nat} {ops : Array Oper} {os o1 o2 : List Oper} {R : List Nat}

theorem opA_nocall {c c' : CallF} {lim : Option Nat} {ev : Operand → AV} {m : Mem} {n : Nat} {op : Op} (h : cls op ≠ 3) : opA E c fl lim ev m n op = opA E c' fl lim ev m n op := by
  cases op with
  | call q =>
    obtain ⟨callee, xs, ats⟩ := q
    cases callee with
    | value f => exact (h rfl).elim
    | _ => rfl
  | _ => rfl
theorem opsA_nocall {c c' : CallF} : ∀ (os : List Oper) (s : St), (os.all fun o => cls o.op != 3) = true → opsA E c fl lim ops os s = opsA E c' fl lim ops os s
  | [], _, _ => rfl
  | o :: os, s, h => by
    simp only [List.all_cons, Bool.and_eq_true, bne_iff_ne] at h
    have h1 : stepA E c fl lim ops o s = stepA E c' fl lim ops o s := by
      unfold stepA
      rw [opA_nocall h.1]
    simp only [opsA, h1]
    split
    · exact opsA_nocall os _ h.2
    · rfl
theorem opsA_app {c : CallF} : ∀ (o1 : List Oper) {o2 : List Oper} {s s1 s2 : St}, opsA E c fl lim ops o1 s = some s1 → opsA E c fl lim ops o2 s1 = some s2 → opsA E c fl lim ops (o1 ++ o2) s = some s2
  | [], _, _, _, _, h1, h2 => by simp only [opsA] at h1; cases h1; exact h2
  | o :: r, o2, s, s1, s2, h1, h2 => by
    simp only [opsA, List.cons_append] at h1 ⊢
    split at h1
    · exact opsA_app r h1 h2
    · cases h1
theorem callG_le {c c' : CallF} (h : CallLe c c') (R : List Nat) : CallLe (callG R c) (callG R c') := by
  intro fl f args m n r hc
  obtain ⟨h1, h2⟩ := callG_some hc
  exact callG_mk (h _ _ _ _ _ _ h1) h2
theorem callG_sub {c : CallF} {R R' : List Nat} (h : ∀ q ∈ R', q ∈ R) : CallLe (callG R c) (callG R' c) := by
  intro fl f args m n r hc
  obtain ⟨h1, h2⟩ := callG_some hc
  exact callG_mk h1 fun q hq => h2 q (h q hq)

def OpsG (E : Env) (R : List Nat) (loose : Nat → Bool) (fl : Nat) (lim : Option Nat) (ops : Array Oper) (os : List Oper) (s : St) (Q : St → Prop) : Prop := ∃ k s', opsA E (callG R (callD (callF E k) loose)) fl lim ops os s = some s' ∧ Q s'
theorem OpsG.pre {s : St} {Q : St → Prop} (hc : (o1.all fun o => cls o.op != 3) = true) (h : Ops E loose fl lim ops o1 s fun s' => OpsG E R loose fl lim ops o2 s' Q) : OpsG E R loose fl lim ops (o1 ++ o2) s Q := by
  obtain ⟨k1, s1, h1, k2, s2, h2, h3⟩ := h
  exact ⟨k2, s2, opsA_app o1 ((opsA_nocall o1 s hc).trans h1) h2, h3⟩
theorem OpsG.nil {s : St} {Q : St → Prop} (h : Q s) : OpsG E R loose fl lim ops [] s Q := ⟨0, s, rfl, h⟩
theorem OpsG.call {o : Oper} {s : St} {Q : St → Prop} {f : Operand} {xs : Array Operand} {ats : Array TypeId} {g : Nat} {caps : List (Nat × Nat)} (hop : o.op = .call ⟨.value f, xs, ats⟩) (hw : wantedA ops s o = some true)
    (hf : s.ev f = .sc (.fn g caps)) (h : Ret E (if loose g then max fl s.n else fl) g (xs.toList.map s.ev ++ caps.map fun p => .sc (.ptr p.1 p.2)) s.m s.n (fun v m' n' => (∀ q ∈ R, m'.get q = s.m.get q) ∧ OpsG E R loose fl lim ops os (s.put o.dst v m' n') Q)) :
    OpsG E R loose fl lim ops (o :: os) s Q := by
  obtain ⟨k1, v, m', n', h1, hR, k2, s', h2, h3⟩ := h
  refine ⟨k1 + k2, s', ?_, h3⟩
  have hstep : stepA E (callG R (callD (callF E (k1 + k2)) loose)) fl lim ops o s = some (s.put o.dst v m' n') := by
    unfold stepA
    rw [hw]
    have := callG_mk (R := R) (call := callD (callF E (k1 + k2)) loose) (fl := fl) (f := g) (args := xs.toList.map s.ev ++ caps.map fun p => .sc (.ptr p.1 p.2)) (m := s.m) (n := s.n) (r := (v, m', n')) (callLe_more k1 k2 _ _ _ _ _ _ h1) hR
    simp only [hop, opA, callA, hf, this]
  simp only [opsA, hstep]
  rw [Nat.add_comm]
  exact opsA_le (callG_le (callD_le (callLe_more k2 k1) _) _) _ _ _ h2
theorem Runs.drawG {id : Nat} {s : St} {Q : AE → St → Prop} (hg : gId lo id = true) (hd : dynId lo id = false) (hR : ∀ q ∈ rdB s.t ops, q ∈ R) (h : OpsG E R (tgt lo id) fl (if plainOps ops then none else some s.n) ops ops.toList s (Q .normal)) : Runs E lo fl (.region id ops true) s Q := by
  obtain ⟨k, s', h1, h2⟩ := h
  refine ⟨k + 1, .normal, s', ?_, h2⟩
  rw [run_region]
  simp only [if_true]
  have : callR lo id ops s.t (callF E k) = callG (rdB s.t ops) (callD (callF E k) (tgt lo id)) := by unfold callR; rw [hg]; rfl
  rw [this, opsA_le (callG_sub hR) _ _ _ h1, Option.bind_some, chkD, hd]; rfl

structure WOG (E : Env) (R : List Nat) (loose : Nat → Bool) (fl : Nat) (lim : Option Nat) (ops : Array Oper) (os : List Oper) (l : LE) (m : Mem) (n : Nat) (K : LE → Mem → Nat → Prop) : Prop where
  ok : ∀ t, Sees t l → OpsG E R loose fl lim ops os ⟨t, m, n⟩ fun s => ∃ l', Sees s.t l' ∧ K l' s.m s.n
variable {l : LE} {m : Mem} {n : Nat} {K : LE → Mem → Nat → Prop} {Q : AE → LE → Mem → Nat → Prop} {d : Nat} {ty : TypeId} {pos : String} {af : Array Edge}
theorem WOG.nil (h : K l m n) : WOG E R loose fl lim ops [] l m n K := ⟨fun _ ht => OpsG.nil ⟨l, ht, h⟩⟩
theorem WOG.pre (hc : (o1.all fun o => cls o.op != 3) = true) (h : WO E loose fl lim ops o1 l m n fun l' m' n' => WOG E R loose fl lim ops o2 l' m' n' K) : WOG E R loose fl lim ops (o1 ++ o2) l m n K := by
  constructor
  intro t ht
  refine OpsG.pre hc ?_
  obtain ⟨k, s', h1, l', h2, h3⟩ := h.ok t ht
  exact ⟨k, s', h1, h3.ok _ h2⟩
theorem WOG.call {f : Operand} {xs : Array Operand} {ats : Array TypeId} {g : Nat} {caps : List (Nat × Nat)} {args : List AV} (hf : evK l f = some (.sc (.fn g caps))) (ha : xs.toList.mapM (evK l) = some args)
    (h : Ret E (if loose g then max fl n else fl) g (args ++ caps.map fun p => .sc (.ptr p.1 p.2)) m n (fun v m' n' => (∀ q ∈ R, m'.get q = m.get q) ∧ WOG E R loose fl lim ops os ((d, v) :: l) m' n' K)) :
    WOG E R loose fl lim ops (⟨some d, .call ⟨.value f, xs, ats⟩, ty, pos, af, none⟩ :: os) l m n K := by
  constructor
  intro t ht
  have hm : ∀ (ys : List Operand) (args : List AV), ys.mapM (evK l) = some args → ys.map (St.ev ⟨t, m, n⟩) = args := by
    intro ys
    induction ys with
    | nil => intro args h; cases h; rfl
    | cons y ys ih =>
      intro args h
      rw [List.mapM_cons] at h
      obtain ⟨v, h1, h2⟩ := Option.bind_eq_some_iff.1 h
      obtain ⟨vs, h3, h4⟩ := Option.bind_eq_some_iff.1 h2
      cases h4
      rw [List.map_cons, ih vs h3, evK_ev ht h1]
  refine OpsG.call rfl rfl (evK_ev ht hf) ?_
  rw [hm _ _ ha]
  exact h.mono fun v m' n' h' => ⟨h'.1, h'.2.ok _ (ht.set d v)⟩
theorem WOG.split (k : Nat) (hc : ((os.take k).all fun o => cls o.op != 3) = true) (h : WO E loose fl lim ops (os.take k) l m n fun l' m' n' => WOG E R loose fl lim ops (os.drop k) l' m' n' K) : WOG E R loose fl lim ops os l m n K := by
  rw [← List.take_append_drop k os]
  exact WOG.pre hc h
theorem WC.drawG {id : Nat} (R : List Nat) (hg : gId lo id = true) (hd : dynId lo id = false) (hp : plainOps ops = false) (hR : ∀ t, Sees t l → ∀ q ∈ rdB t ops, q ∈ R) (h : WOG E R (tgt lo id) fl (some n) ops ops.toList l m n (Q .normal)) : WC E lo fl (.region id ops true) l m n Q :=
  ⟨fun t ht => Runs.drawG (R := R) hg hd (hR t ht) (by rw [if_neg (by rw [hp]; decide)]; exact h.ok t ht)⟩
end g

/-! ### Arrays of many cells as values -/
section vec
variable {E : Env} {lo : List Nat} {fl : Nat} {loose : Nat → Bool} {lim : Option Nat} {ops : Array Oper} {os : List Oper} {l : LE} {m : Mem} {n id : Nat} {K : LE → Mem → Nat → Prop} {d : Nat} {ty t : TypeId} {pos : String} {af : Array Edge} {x i : Operand} {v : SV} {S : Cx fl} {k : IntKind} {a : Int}
def arT1 (E : Env) (t N : Nat) : Bool := match E.ty t with
  | some y => y.kind == 5 && y.len == N && (match E.ty y.elem with
    | some e => e.size == 1 && e.kind != 5 && e.kind != 6
    | none => false)
  | none => false
theorem arT1_ok {t N : Nat} (h : arT1 E t N = true) : ∃ y e, E.ty t = some y ∧ y.kind = 5 ∧ y.len = N ∧ E.ty y.elem = some e ∧ e.size = 1 ∧ e.kind ≠ 5 ∧ e.kind ≠ 6 := by
  unfold arT1 at h
  split at h
  · rename_i y hy
    simp only [Bool.and_eq_true, beq_iff_eq] at h
    obtain ⟨h1, h2⟩ := h
    split at h2
    · rename_i e he
      simp only [Bool.and_eq_true, beq_iff_eq, bne_iff_ne] at h2
      exact ⟨y, e, hy, h1.1, h1.2, he, h2.1.1, h2.1.2, h2.2⟩
    · cases h2
  · cases h
/-- A whole array, read. -/
theorem WO.ldV {α : Type} {N j : Nat} {g : α → SV} {L : List α} {p : SV} (hx : evK l x = some (.sc p)) (hp : p = ptrAt v j 0) (hs : Bk (Lay.arr N g) S id v L) (hT : aggT E t N = true) (hl : limLe lim S.n = true)
    (h : L.length = N → WO E loose fl lim ops os ((d, .agg (L.map g)) :: l) S.m S.n K) : WO E loose fl lim ops (⟨some d, .load t x, ty, pos, af, none⟩ :: os) l S.m S.n K := ⟨fun tt ht => by
  subst hp
  obtain ⟨y, h1, h2, h3, _⟩ := aggT_ok hT
  obtain ⟨b, cs, rfl, _, h4, _, h5, h6, rfl⟩ := hs
  refine W_op2 ?_ ((h h6).put ht)
  simp only [opA, evK_ev ht hx, ptrAt, loadA, limOk_of hl h4, if_true, h5, part, h1, h2, h3, Nat.zero_add, List.length_map, h6, Nat.le_refl, List.drop_zero, Option.map_some]
  rw [List.take_of_length_le (by rw [List.length_map]; omega)]⟩
/-- An element of it. -/
theorem WO.ixV {α : Type} {N : Nat} {g : α → SV} {L : List α} {u : α} (hx : evK l x = some (.agg (L.map g))) (hn : L.length = N) (hi : evK l i = some (.sc (.int k a))) (ha : at? L a = some u) (hT : arT1 E t N = true)
    (h : WO E loose fl lim ops os ((d, .sc (g u)) :: l) m n K) : WO E loose fl lim ops (⟨some d, .index t x i, ty, pos, af, none⟩ :: os) l m n K := ⟨fun tt ht => by
  obtain ⟨y, e, h1, h2, h3, h4, h5, h6, h7⟩ := arT1_ok hT
  obtain ⟨a1, a2, a3⟩ := at?_some ha
  refine W_op2 ?_ (h.put ht)
  have hc : (L.map g)[a.toNat * 1]? = some (g u) := by rw [Nat.mul_one, List.getElem?_map, a3]; rfl
  simp only [opA, evK_ev ht hx, evK_ev ht hi, indexA, h1, h2, h4, h5, part, h6, h7, or_self, if_false, ne_eq, not_true_eq_false]
  rw [if_pos ⟨a1, by omega⟩, hc]; rfl⟩
end vec

/-! ### Maps, by their entries -/
theorem lookR_flat {y : Mt} {ents : List Ent} {kc : List SV} (h : ∀ e ∈ ents, e.1.length = y.ks) (ok : Bool) :
    (∃ e ∈ ents, e.1 = kc ∧ lookR y ok kc (flatE ents) = if ok then .tup [.sc e.2, .sc (.bool true)] else .sc e.2) ∨
    ((∀ e ∈ ents, e.1 ≠ kc) ∧ lookR y ok kc (flatE ents) = if ok then .tup [.sc y.zero, .sc (.bool false)] else .sc y.zero) := by
  rcases findE_flat (ents := ents) (ks := y.ks) (kc := kc) (flatE ents).length h (by rw [flatE_len h]; exact Nat.le_mul_of_pos_right _ (by omega)) with ⟨f1, f2⟩ | ⟨j, e, f1, f2, f3⟩
  · right
    exact ⟨f2, by unfold lookR; rw [f1]⟩
  · left
    refine ⟨e, List.mem_of_getElem? f2, f3, ?_⟩
    unfold lookR
    rw [f1]
    simp only
    rw [flatE_get j h f2, Option.getD_some]
theorem putR_flat {y : Mt} {ents : List Ent} {kc : List SV} (h : ∀ e ∈ ents, e.1.length = y.ks) (s : SV) : ∃ ents', putR y kc (flatE ents) s = flatE ents' ∧ ∀ e ∈ ents', e ∈ ents ∨ e = (kc, s) := by
  rcases findE_flat (ents := ents) (ks := y.ks) (kc := kc) (flatE ents).length h (by rw [flatE_len h]; exact Nat.le_mul_of_pos_right _ (by omega)) with ⟨f1, f2⟩ | ⟨j, e, f1, f2, f3⟩
  · refine ⟨ents ++ [(kc, s)], by unfold putR; rw [f1, flatE_app], fun e he => ?_⟩
    rcases List.mem_append.1 he with q | q
    · exact .inl q
    · exact .inr (List.mem_singleton.1 q)
  · refine ⟨ents.set j (e.1, s), by unfold putR; rw [f1]; exact flatE_set j s h f2, fun e' he => ?_⟩
    rcases List.mem_or_eq_of_mem_set he with q | q
    · exact .inl q
    · exact .inr (by rw [q, f3])
section mp
variable {E : Env} {fl : Nat} {loose : Nat → Bool} {lim : Option Nat} {ops : Array Oper} {os : List Oper} {l : LE} {m : Mem} {n : Nat} {K : LE → Mem → Nat → Prop} {d : Nat} {ty t : TypeId} {pos : String} {af : Array Edge} {x i z : Operand} {y : Mt} {b : Nat}
theorem WO.lkM {ok : Bool} {kv : AV} {kc r : List SV} {v : AV} (hx : evK l x = some (.sc (.mp b))) (hi : evK l i = some kv) (hT : E.mp t = some y) (hk : keyA y kv = some kc) (hb : m.get b = some (mhd y :: r)) (hv : lookR y ok kc r = v)
    (h : WO E loose fl lim ops os ((d, v) :: l) m n K) : WO E loose fl lim ops (⟨some d, .lookup t x i ok, ty, pos, af, none⟩ :: os) l m n K := ⟨fun tt ht => by
  refine W_op2 ?_ (h.put ht)
  simp only [opA, evK_ev ht hx, evK_ev ht hi, lookupA, hT, hk, hb, if_true, hv, Option.map_some]⟩
theorem WO.upM {kv : AV} {kc r : List SV} {s : SV} (hx : evK l x = some (.sc (.mp b))) (hi : evK l i = some kv) (hz : evK l z = some (.sc s)) (hT : E.mp t = some y) (hk : keyA y kv = some kc) (hb : m.get b = some (mhd y :: r)) (hfl : fl ≤ b)
    (h : WO E loose fl lim ops os l (m.set b (mhd y :: putR y kc r s)) n K) : WO E loose fl lim ops (⟨none, .mapUpdate t x i z, ty, pos, af, none⟩ :: os) l m n K := ⟨fun tt ht => by
  refine W_op2 (v := .tup []) (n' := n) ?_ (h.ok tt ht)
  simp only [opA, evK_ev ht hx, evK_ev ht hi, evK_ev ht hz, updateA, hT, hk, hb, hfl, true_and, if_true, Option.map_some]⟩
theorem WO.mkM (hT : E.mp t = some y) (h : WO E loose fl lim ops os ((d, .sc (.mp n)) :: l) (m.set n [mhd y]) (n + 1) K) : WO E loose fl lim ops (⟨some d, .makeMap t none, ty, pos, af, none⟩ :: os) l m n K := ⟨fun tt ht => by
  refine W_op2 ?_ (h.put ht)
  simp only [opA, makeMapA, hT, Option.map_none]⟩
/-- A load of a one-cell block, by the memory alone. -/
theorem WO.ldc {c : Nat} {s : SV} {yt : Ty} (hx : evK l x = some (.sc (.ptr c 0))) (hT : E.ty t = some yt) (hk : yt.kind ≠ 5 ∧ yt.kind ≠ 6) (hb : m.get c = some [s]) (hl : limOk lim c = true)
    (h : WO E loose fl lim ops os ((d, .sc s) :: l) m n K) : WO E loose fl lim ops (⟨some d, .load t x, ty, pos, af, none⟩ :: os) l m n K := ⟨fun tt ht => by
  refine W_op2 ?_ (h.put ht)
  simp only [opA, evK_ev ht hx, loadA, hl, if_true, hb, part, hT, hk.1, hk.2, or_self, if_false]
  rfl⟩
theorem WO.stc {c : Nat} {s s0 : SV} {yt : Ty} (hx : evK l x = some (.sc (.ptr c 0))) (hz : evK l z = some (.sc s)) (hT : E.ty t = some yt) (hk : yt.size = 1) (hb : m.get c = some [s0]) (hfl : fl ≤ c)
    (h : WO E loose fl lim ops os l (m.set c [s]) n K) : WO E loose fl lim ops (⟨none, .store t x z, ty, pos, af, none⟩ :: os) l m n K := ⟨fun tt ht => by
  refine W_op2 (v := .tup []) (n' := n) ?_ (h.ok tt ht)
  simp only [opA, evK_ev ht hx, evK_ev ht hz, storeA, AV.cells?, hT, hfl, hk, List.length_cons, List.length_nil, hb, splice, true_and, if_true, Nat.zero_add, Nat.le_refl, List.take_zero, List.nil_append, List.drop_one, List.tail_cons, List.append_nil, Option.map_some]⟩
end mp
/-! ### A count of sums, as castref.SumsOf makes it -/
def cntW : Nat → Nat → Nat → Int
  | 0, _, _ => 0
  | f + 1, n, k => if n = 0 then 1 else if k = 0 then 0 else wrapA .i64 ((if n < k then 0 else cntW f (n - k) k) + cntW f n (k - 1))
theorem cntW_more : ∀ (f g n k : Nat), n + k < f → n + k < g → cntW f n k = cntW g n k
  | 0, _, _, _, h, _ => by omega
  | _ + 1, 0, _, _, _, h => by omega
  | f + 1, g + 1, n, k, h1, h2 => by
    unfold cntW
    by_cases h3 : n = 0
    · rw [if_pos h3, if_pos h3]
    · rw [if_neg h3, if_neg h3]
      by_cases h4 : k = 0
      · rw [if_pos h4, if_pos h4]
      · rw [if_neg h4, if_neg h4, cntW_more f g n (k - 1) (by omega) (by omega)]
        by_cases h5 : n < k
        · rw [if_pos h5, if_pos h5]
        · rw [if_neg h5, if_neg h5, cntW_more f g (n - k) k (by omega) (by omega)]
def cntI (a : Int) (k : Nat) : Int := if a < 0 then 0 else cntW (a.toNat + k + 1) a.toNat k
theorem cntI_zero (k : Nat) : cntI 0 k = 1 := by simp [cntI, cntW]
theorem cntI_none {a : Int} {k : Nat} (h : a ≠ 0) (h2 : a < 0 ∨ k = 0) : cntI a k = 0 := by
  unfold cntI
  split
  · rfl
  · unfold cntW
    rw [if_neg (by omega), if_pos (by omega)]
theorem cntI_pos {a : Int} {k : Nat} (h : 0 ≤ a) : cntI a k = cntW (a.toNat + k + 1) a.toNat k := if_neg (by omega)
theorem cntI_step {a : Int} {k : Nat} (h : 0 < a) (hk : 0 < k) : cntI a k = wrapA .i64 (cntI (a - k) k + cntI a (k - 1)) := by
  have e1 : cntI a (k - 1) = cntW (a.toNat + k) a.toNat (k - 1) := by
    rw [cntI_pos (by omega)]; exact cntW_more _ _ _ _ (by omega) (by omega)
  have e2 : cntI (a - k) k = if a.toNat < k then 0 else cntW (a.toNat + k) (a.toNat - k) k := by
    by_cases h5 : a.toNat < k
    · rw [if_pos h5]; exact if_pos (by omega)
    · rw [if_neg h5, cntI_pos (by omega), show (a - k).toNat = a.toNat - k from by omega]
      exact cntW_more _ _ _ _ (by omega) (by omega)
  rw [e1, e2, cntI_pos (by omega), cntW, if_neg (by omega), if_neg (by omega)]

end Go.Am


/- More rules: functions that turn a slice of theirs in place. -/
import Derived.Test.YtihmliblbhjlaaaDenE
set_option linter.unusedVariables false
namespace Go.Am

/-- L with M from its lo-th on. -/
def putL {α : Type} (L : List α) (lo : Int) (M : List α) : List α := L.take lo.toNat ++ M ++ L.drop (lo.toNat + M.length)

/-- cs' is cs but for the w cells from the o-th on. -/
structure Sp (cs cs' : List SV) (o w : Nat) : Prop where
  len : cs'.length = cs.length
  le : o + w ≤ cs.length
  lo : cs'.take o = cs.take o
  hi : cs'.drop (o + w) = cs.drop (o + w)
theorem Sp.refl {cs : List SV} {o w : Nat} (h : o + w ≤ cs.length) : Sp cs cs o w := ⟨rfl, h, rfl, rfl⟩
theorem Sp.trans {a b c : List SV} {o w : Nat} (h : Sp a b o w) (k : Sp b c o w) : Sp a c o w := ⟨k.len.trans h.len, h.le, k.lo.trans h.lo, k.hi.trans h.hi⟩
theorem Sp.wide {a b : List SV} {o w p q : Nat} (h : Sp a b (o + p) q) (h1 : p + q ≤ w) (h2 : o + w ≤ a.length) : Sp a b o w where
  len := h.len
  le := h2
  lo := by
    have := congrArg (List.take o) h.lo
    rwa [List.take_take, List.take_take, Nat.min_eq_left (by omega)] at this
  hi := by
    have := congrArg (List.drop (o + w - (o + p + q))) h.hi
    rwa [List.drop_drop, List.drop_drop, show o + p + q + (o + w - (o + p + q)) = o + w from by omega] at this
theorem Sp.splice {cs c : List SV} {o : Nat} (h : o + c.length ≤ cs.length) : Sp cs (splice cs o c) o c.length where
  len := by simp only [Am.splice, List.length_append, List.length_take, List.length_drop]; omega
  le := h
  lo := by
    unfold Am.splice
    rw [List.append_assoc, List.take_append_of_le_length (by rw [List.length_take]; omega), List.take_take, Nat.min_self]
  hi := by
    unfold Am.splice
    rw [List.drop_append, List.drop_of_length_le (by simp; omega), List.nil_append, List.length_append, List.length_take, Nat.min_eq_left (by omega), Nat.sub_self, List.drop_zero]

/-- What a function is given that turns it: in block b (none: n). -/
def Iv {α : Type} (A : Lay α) (fl n b : Nat) (m : Mem) (v : SV) (L : List α) : Prop :=
  ((v = .nils ∨ v = .emp) ∧ L = [] ∧ b = n) ∨ ∃ o c cs, v = .sl b o L.length c A.sz ∧ L.length ≤ c ∧ fl ≤ b ∧ b < n ∧ m.get b = some cs ∧ o + L.length * A.sz ≤ cs.length ∧ RL A (fun i => i < n ∧ i ≠ b) m L ((cs.drop o).take (L.length * A.sz))
/-- What it leaves. -/
def Ip {α : Type} (A : Lay α) (n b : Nat) (m m' : Mem) (v : SV) (L : List α) : Prop :=
  (∀ i, i < n → i ≠ b → m'.get i = m.get i) ∧ (((v = .nils ∨ v = .emp) ∧ L = [] ∧ b = n) ∨ ∃ o c cs cs', v = .sl b o L.length c A.sz ∧ m.get b = some cs ∧ m'.get b = some cs' ∧ Sp cs cs' o (L.length * A.sz) ∧ RL A (fun i => i < n ∧ i ≠ b) m' L ((cs'.drop o).take (L.length * A.sz)))
/-- While it runs: object k, in block b; m: the memory at its beginning. -/
def Iw {α : Type} {fl : Nat} (A : Lay α) (S : Cx fl) (k n b : Nat) (m : Mem) (v : SV) (L : List α) : Prop :=
  (∀ i, i < n → i ≠ b → S.fz i ∧ S.m.get i = m.get i) ∧ n ≤ S.n ∧ (((v = .nils ∨ v = .emp) ∧ L = [] ∧ b = n) ∨ ∃ o c cs cs', v = .sl b o L.length c A.sz ∧ L.length ≤ c ∧ fl ≤ b ∧ b < n ∧ S.ow b = k ∧ m.get b = some cs ∧ S.m.get b = some cs' ∧ Sp cs cs' o (L.length * A.sz) ∧ RL A S.fz S.m L ((cs'.drop o).take (L.length * A.sz)))
/-- What else it is given. -/
def Vb {α : Type} (A : Lay α) (n b : Nat) (m : Mem) (v : SV) (L : List α) : Prop := RO A (fun i => i < n ∧ i ≠ b) (fun i => i < n ∧ i ≠ b) m v L

section iw
variable {α : Type} {A : Lay α} {fl k j n b : Nat} {S S' : Cx fl} {v : SV} {L : List α} {m : Mem}
theorem Vb.rdS (h : Vb A n b m v L) (em : S.m = m) (hz : ∀ i, i < n → i ≠ b → S.fz i) : Rd A S v L := by
  subst em
  exact RO.to h (fun i hi => ⟨hz i hi.1 hi.2, rfl⟩) (fun i hi => ⟨hz i hi.1 hi.2, rfl⟩)
theorem Iv.iw (h : Iv A fl n b m v L) (em : S.m = m) (en : S.n = n) (hz : ∀ i, i < n → i ≠ b → S.fz i) (hb : S.ow b = k) : Iw A S k n b m v L := by
  subst em; subst en
  refine ⟨fun i h1 h2 => ⟨hz i h1 h2, rfl⟩, Nat.le_refl _, ?_⟩
  rcases h with h | ⟨o, c, cs, h1, h2, h3, h4, h5, h6, h7⟩
  · exact .inl h
  · exact .inr ⟨o, c, cs, cs, h1, h2, h3, h4, hb, h5, h5, Sp.refl h6, h7.frame fun i hi => ⟨hz i hi.1 hi.2, rfl⟩⟩
theorem Rd.vb {id : Nat} (h : Rd A S v L) (hB : ∀ i, i < S.n → S.ow i ≠ id → i ≠ b) (hid : Nat.beq id 0 = false := by rfl) : Vb A S.n b S.m v L := by
  have hid : id ≠ 0 := fun e => by subst e; cases hid
  have : ∀ i, S.fz i → (i < S.n ∧ i ≠ b) ∧ S.m.get i = S.m.get i := fun i hi => ⟨⟨hi.1, hB i hi.1 (by rw [hi.2]; exact fun e => hid e.symm)⟩, rfl⟩
  exact RO.to h this this
theorem Wk.vb {id : Nat} (h : Wk A S k v L) (hB : ∀ i, i < S.n → S.ow i ≠ id → i ≠ b) (hid : Nat.beq id 0 = false := by rfl) (hk : Nat.beq k id = false := by rfl) : Vb A S.n b S.m v L := by
  have hid : id ≠ 0 := fun e => by subst e; cases hid
  have hk : k ≠ id := fun e => by subst e; rw [show Nat.beq k k = true by simp] at hk; cases hk
  exact RO.to h (fun i hi => ⟨⟨hi.1, hB i hi.1 (by rw [hi.2]; exact hk)⟩, rfl⟩) (fun i hi => ⟨⟨hi.1, hB i hi.1 (by rw [hi.2]; exact fun e => hid e.symm)⟩, rfl⟩)
theorem Iw.ip (h : Iw A S k n b m v L) (hA : A.Fl) : Ip A n b m S.m v L := by
  obtain ⟨h0, hn, h⟩ := h
  refine ⟨fun i h1 h2 => (h0 i h1 h2).2, ?_⟩
  rcases h with h | ⟨o, c, cs, cs', h1, h2, h3, h4, h5, h6, h7, h8, h9⟩
  · exact .inl h
  · exact .inr ⟨o, c, cs, cs', h1, h6, h7, h8, h9.fl hA⟩
theorem Iw.slv (h : Iw A S k n b m v L) : SlV v A.sz L.length := by
  rcases h.2.2 with ⟨h1, rfl, _⟩ | ⟨o, c, cs, cs', h1, h2, _⟩
  · exact .inl ⟨h1, rfl⟩
  · exact .inr ⟨b, o, c, h1, h2⟩
theorem Iw.wk (h : Iw A S k n b m v L) : Wk A S k v L := by
  obtain ⟨h0, hn, h⟩ := h
  rcases h with ⟨h1, h2, _⟩ | ⟨o, c, cs, cs', h1, h2, h3, h4, h5, h6, h7, h8, h9⟩
  · exact .inl ⟨h1, h2⟩
  · exact .inr ⟨b, o, c, cs', h1, h2, ⟨by omega, h5⟩, h7, by rw [h8.len]; exact h8.le, h9⟩
theorem Iw.ro (h : Iw A S k n b m v L) : RO A (fun i => i < S.n) S.fz S.m v L := h.wk.ro
theorem Iw.oz (h : Iw A S k n b m v L) : RO A (fun i => i < S.n ∧ i < S.n ∧ S.ow i = k) S.fz S.m v L := h.wk.oz
theorem Iw.vw (h : Iw A S k n b m v L) : Vw A S.n S.m v L := h.wk.vw
theorem Iw.to (h : Iw A S j n b m v L) (c : Ch k S S') (hk : Nat.beq k 0 = false := by rfl) (hj : Nat.beq j k = false := by rfl) : Iw A S' j n b m v L := by
  have hk : k ≠ 0 := fun e => by subst e; cases hk
  have hj : j ≠ k := fun e => by subst e; rw [show Nat.beq j j = true by simp] at hj; cases hj
  obtain ⟨h0, hn, h⟩ := h
  refine ⟨fun i h1 h2 => ?_, Nat.le_trans hn c.n, ?_⟩
  · obtain ⟨h3, h4⟩ := h0 i h1 h2
    obtain ⟨h5, h6⟩ := fz_ch c hk i h3
    exact ⟨h5, h6.trans h4⟩
  · rcases h with h | ⟨o, c', cs, cs', h1, h2, h3, h4, h5, h6, h7, h8, h9⟩
    · exact .inl h
    · obtain ⟨q1, q2⟩ := c.ow b (by omega) (by omega)
      exact .inr ⟨o, c', cs, cs', h1, h2, h3, h4, q1.trans h5, h6, q2.trans h7, h8, h9.frame (fz_ch c hk)⟩
theorem Iw.drop (h : Iw A S j n b m v L) (k : Nat) (hj : Nat.beq j k = false := by rfl) : Iw A (S.drop k) j n b m v L := by
  have hj : j ≠ k := fun e => by subst e; rw [show Nat.beq j j = true by simp] at hj; cases hj
  obtain ⟨h0, hn, h⟩ := h
  refine ⟨fun i h1 h2 => ⟨(fz_drop k i (h0 i h1 h2).1).1, (h0 i h1 h2).2⟩, hn, ?_⟩
  rcases h with h | ⟨o, c', cs, cs', h1, h2, h3, h4, h5, h6, h7, h8, h9⟩
  · exact .inl h
  · exact .inr ⟨o, c', cs, cs', h1, h2, h3, h4, by simp only [Cx.drop]; rw [if_neg (by omega)]; exact h5, h6, h7, h8, h9.frame (fz_drop k)⟩
theorem Iw.renO {i : Nat} (h : Iw A S i n b m v L) (k j : Nat) (hk : Nat.beq k 0 = false := by rfl) (hj : Nat.beq j 0 = false := by rfl) (hik : Nat.beq i k = false := by rfl) (hij : Nat.beq i j = false := by rfl) : Iw A (S.ren k j) i n b m v L := by
  have hk : k ≠ 0 := fun e => by subst e; cases hk
  have hj : j ≠ 0 := fun e => by subst e; cases hj
  have hik : i ≠ k := fun e => by subst e; rw [show Nat.beq i i = true by simp] at hik; cases hik
  have hij : i ≠ j := fun e => by subst e; rw [show Nat.beq i i = true by simp] at hij; cases hij
  obtain ⟨h0, hn, h⟩ := h
  refine ⟨fun q h1 h2 => ⟨(fz_ren k j hk hj q (h0 q h1 h2).1).1, (h0 q h1 h2).2⟩, hn, ?_⟩
  rcases h with h | ⟨o, c', cs, cs', h1, h2, h3, h4, h5, h6, h7, h8, h9⟩
  · exact .inl h
  · exact .inr ⟨o, c', cs, cs', h1, h2, h3, h4, by simp only [Cx.ren]; rw [if_neg (by omega), if_neg (by omega)]; exact h5, h6, h7, h8, h9.frame (fz_ren k j hk hj)⟩

theorem drop_splice {cs c : List SV} {o p : Nat} (h : o + p ≤ cs.length) : (splice cs (o + p) c).drop o = splice (cs.drop o) p c := by
  unfold splice
  rw [List.append_assoc, List.append_assoc, List.drop_append_of_le_length (by rw [List.length_take]; omega), List.drop_take, Nat.add_sub_cancel_left, List.drop_drop]
  congr 3; omega
theorem take_splice {cs c : List SV} {p w : Nat} (h : p + c.length ≤ cs.length) (hw : p + c.length ≤ w) : (splice cs p c).take w = splice (cs.take w) p c := by
  unfold splice
  rw [List.append_assoc, List.append_assoc, List.take_append, List.take_append, List.take_take, List.take_take, List.length_take, Nat.min_eq_left (by omega : p ≤ cs.length), List.drop_take, Nat.min_eq_right (by omega), Nat.min_eq_left (by omega), List.take_of_length_le (l := c) (by omega)]
  congr 3; omega
/-- RL of a splice within a window. -/
theorem RL.win {cs c : List SV} {o i : Nat} {u : α} {z : Nat → Prop} (h : RL A z m L ((cs.drop o).take (L.length * A.sz))) (hi : i < L.length) (hle : o + L.length * A.sz ≤ cs.length) (hc : A.R z m u c) :
    RL A z m (L.set i u) (((splice cs (o + i * A.sz) c).drop o).take (L.length * A.sz)) := by
  have hcl := A.len hc
  have h1 : i * A.sz + A.sz ≤ L.length * A.sz := by
    have : (i + 1) * A.sz ≤ L.length * A.sz := Nat.mul_le_mul_right _ hi
    rwa [Nat.add_mul, Nat.one_mul] at this
  have e : ((splice cs (o + i * A.sz) c).drop o).take (L.length * A.sz) = splice ((cs.drop o).take (L.length * A.sz)) (i * A.sz) c := by
    rw [drop_splice (by omega), take_splice (by rw [List.length_drop]; omega) (by omega)]
  rw [e]
  exact h.set hi hc
theorem Iw.put {u : α} {i : Nat} {c : List SV} (h : Iw A S k n b m v L) (hi : i < L.length) (hc : A.R S.fz S.m u c) (hk : k ≠ 0) :
    ∃ o cap cs, v = .sl b o L.length cap A.sz ∧ fl ≤ b ∧ S.m.get b = some cs ∧ o + i * A.sz + c.length ≤ cs.length ∧ ∃ S' : Cx fl, S'.m = S.m.set b (splice cs (o + i * A.sz) c) ∧ S'.n = S.n ∧ Ch k S S' ∧ Iw A S' k n b m v (L.set i u) := by
  obtain ⟨h0, hn, h⟩ := h
  rcases h with ⟨_, rfl, _⟩ | ⟨o, cap, cs, cs', h1, h2, h3, h4, h5, h6, h7, h8, h9⟩
  · simp at hi
  · have hcl := A.len hc
    have hle : i * A.sz + A.sz ≤ L.length * A.sz := by
      have : (i + 1) * A.sz ≤ L.length * A.sz := Nat.mul_le_mul_right _ hi
      rwa [Nat.add_mul, Nat.one_mul] at this
    have hlen := h8.len
    have hle2 := h8.le
    have hin : o + i * A.sz + c.length ≤ cs'.length := by omega
    have hch : Ch k S (⟨S.m.set b (splice cs' (o + i * A.sz) c), S.n, S.ow, S.le⟩ : Cx fl) := ⟨Nat.le_refl _, fun q hq hk => ⟨rfl, Tr.get_set_ne _ _ (fun e => hk (by rw [e]; exact h5))⟩⟩
    refine ⟨o, cap, cs', h1, h3, h7, hin, ⟨S.m.set b (splice cs' (o + i * A.sz) c), S.n, S.ow, S.le⟩, rfl, rfl, hch, fun q h1 h2 => ?_, hn, .inr ⟨o, cap, cs, _, by rw [List.length_set]; exact h1, by rw [List.length_set]; exact h2, h3, h4, h5, h6, Tr.get_set_same _ _ _, ?_, ?_⟩⟩
    · exact ⟨(h0 q h1 h2).1, by rw [← (h0 q h1 h2).2]; exact Tr.get_set_ne _ _ h2⟩
    · rw [List.length_set]
      refine h8.trans ((Sp.splice hin).wide ?_ (by rw [hlen]; exact hle2))
      omega
    · rw [List.length_set]
      exact (RL.win h9 hi (by rw [hlen]; exact hle2) hc).frame (fz_ch hch hk)
end iw

theorem WC.startI {E : Env} {lo : List Nat} {fl n b : Nat} {c : Code} {l : LE} {m : Mem} {Q : AE → LE → Mem → Nat → Prop} (hfl : fl ≤ n) (h : ∀ S : Cx fl, S.m = m → S.n = n → (∀ i, i < n → i ≠ b → S.fz i) → S.ow b = 2 → WC E lo fl c l S.m S.n Q) : WC E lo fl c l m n Q :=
  h ⟨m, n, fun i => if i = b then 2 else 0, hfl⟩ rfl rfl (fun i hi hb => ⟨hi, if_neg hb⟩) (if_pos rfl)

section rules
variable {E : Env} {lo : List Nat} {fl : Nat} {loose : Nat → Bool} {lim : Option Nat} {ops : Array Oper} {os : List Oper}
variable {l : LE} {m m0 : Mem} {n n0 : Nat} {K : LE → Mem → Nat → Prop}
variable {d : Nat} {ty t : TypeId} {pos : String} {af : Array Edge} {x y : Operand} {v w : SV} {k k' : IntKind}
variable {α : Type} {A : Lay α} {S : Cx fl} {L L' M : List α} {j b : Nat} {id : Nat}

theorem WO.stI {g : α → SV} {u' : α} (hx : evK l x = some (.sc (ptrAt v j 0))) (hy : evK l y = some (.sc (g u'))) (hs : Iw (Lay.one g) S id n0 b m0 v L) (hj : j < L.length) (hT : oneT E t = true) (hid : Nat.beq id 0 = false)
    (h : ∀ S', Ch id S S' → Iw (Lay.one g) S' id n0 b m0 v (L.set j u') → WO E loose fl lim ops os l S'.m S'.n K) : WO E loose fl lim ops (⟨none, .store t x y, ty, pos, af, none⟩ :: os) l S.m S.n K := ⟨fun tt ht => by
  have hid : id ≠ 0 := fun e => by subst e; cases hid
  obtain ⟨z, h1, h2, h3, h4⟩ := oneT_ok hT
  obtain ⟨o, cap, cs, rfl, h5, h6, h7, S', e1, e2, h8, h9⟩ := hs.put (u := u') (c := [g u']) hj rfl hid
  refine W_op2 (v := .tup []) (m' := S'.m) (n' := S'.n) ?_ ((h S' h8 h9).ok tt ht)
  have h7 : o + j * 1 + 1 ≤ cs.length := h7
  have hsz : (Lay.one g).sz = 1 := rfl
  simp only [opA, evK_ev ht hx, evK_ev ht hy, ptrAt, storeA, AV.cells?, h1, List.length_cons, List.length_nil, h4, h5, h6, true_and, Nat.zero_add, Nat.add_zero, if_true, hsz]
  rw [if_pos h7, ← hsz, ← e1, e2]; rfl⟩

/-- A call that turns an own slice. -/
theorem WO.callI {f : Operand} {xs : Array Operand} {ats : Array TypeId} {g : Nat} {caps : List (Nat × Nat)} {args : List AV} {r : AV} (hs : Ow A S id v L) (hf : evK l f = some (.sc (.fn g caps))) (ha : xs.toList.mapM (evK l) = some args)
    (hr : ∀ b, Iv A fl S.n b S.m v L → (∀ i, i < S.n → S.ow i ≠ id → i ≠ b) → Ret E fl g (args ++ caps.map fun p => .sc (.ptr p.1 p.2)) S.m S.n (fun v' m' n' => v' = r ∧ Ip A S.n b S.m m' v L')) (hA : A.Fl)
    (h : ∀ S', Ch id S S' → Ow A S' id v L' → WO E loose fl lim ops os ((d, r) :: l) S'.m S'.n K) (hl : loose g = false := by rfl) :
    WO E loose fl lim ops (⟨some d, .call ⟨.value f, xs, ats⟩, ty, pos, af, none⟩ :: os) l S.m S.n K := by
  have hS := S.le
  refine WO.call hf ha ?_
  rw [hl]; simp only [Bool.false_eq_true, if_false]
  rcases hs with ⟨rfl, rfl⟩ | ⟨b, c, cs, rfl, h2, h3, h4, h5, h6, h7, h8⟩
  · refine (Ret.keeps (hr S.n (.inl ⟨.inl rfl, rfl, rfl⟩) (fun i hi _ => by omega))).mono ?_
    rintro v' m' n' ⟨⟨rfl, hp1, hp2⟩, hk⟩
    have hn := hk.1
    rcases hp2 with ⟨_, rfl, _⟩ | ⟨o, c, cs, cs', e, _⟩
    · exact h ⟨m', n', fun i => if i < S.n then S.ow i else 0, by omega⟩ ⟨hn, fun i hi _ => ⟨if_pos hi, hp1 i hi (by omega)⟩⟩ (.inl ⟨rfl, rfl⟩)
    · cases e
  · have hle : L.length * A.sz ≤ cs.length := by rw [h7]; exact Nat.mul_le_mul_right _ h5
    refine (Ret.keeps (hr b (.inr ⟨0, c, cs, rfl, h5, h2, h3, h6, by omega, by rw [List.drop_zero]; exact h8.fl hA⟩) (fun i _ hi e => hi (by rw [e]; exact h4)))).mono ?_
    rintro v' m' n' ⟨⟨rfl, hp1, hp2⟩, hk⟩
    have hn := hk.1
    rcases hp2 with ⟨e | e, _⟩ | ⟨o, c', cs1, cs', e, e1, e2, e3, e4⟩
    · cases e
    · cases e
    · have hl : L'.length = L.length := by injection e with _ _ a _ _; exact a.symm
      have ho : o = 0 := by injection e with _ a _ _ _; exact a.symm
      subst ho
      rw [h6] at e1; cases e1
      have hlen := e3.len
      refine h ⟨m', n', fun i => if i < S.n then S.ow i else 0, by omega⟩ ⟨hn, fun i hi hk => ⟨if_pos hi, hp1 i hi (fun e => hk (by rw [e]; exact h4))⟩⟩ (.inr ⟨b, c, cs', by rw [hl], h2, by simp only; omega, by simp only; rw [if_pos h3]; exact h4, by rw [hl]; exact h5, e2, by rw [hlen]; exact h7, ?_⟩)
      rw [List.drop_zero] at e4
      exact e4.fl hA

/-- A call that turns what the caller is given to turn. -/
theorem WO.callW {f : Operand} {xs : Array Operand} {ats : Array TypeId} {g : Nat} {caps : List (Nat × Nat)} {args : List AV} {r : AV} (hs : Iw A S id n0 b m0 v L) (hid : Nat.beq id 0 = false) (hf : evK l f = some (.sc (.fn g caps))) (ha : xs.toList.mapM (evK l) = some args)
    (hr : ∀ b, Iv A fl S.n b S.m v L → (∀ i, i < S.n → S.ow i ≠ id → i ≠ b) → Ret E fl g (args ++ caps.map fun p => .sc (.ptr p.1 p.2)) S.m S.n (fun v' m' n' => v' = r ∧ Ip A S.n b S.m m' v L')) (hA : A.Fl)
    (h : ∀ S', Ch id S S' → Iw A S' id n0 b m0 v L' → WO E loose fl lim ops os ((d, r) :: l) S'.m S'.n K) (hl : loose g = false := by rfl) :
    WO E loose fl lim ops (⟨some d, .call ⟨.value f, xs, ats⟩, ty, pos, af, none⟩ :: os) l S.m S.n K := by
  have hid : id ≠ 0 := fun e => by subst e; cases hid
  have hS := S.le
  refine WO.call hf ha ?_
  rw [hl]; simp only [Bool.false_eq_true, if_false]
  obtain ⟨h0, hn0, hs⟩ := hs
  rcases hs with ⟨hv, rfl, rfl⟩ | ⟨o, c, cs, cs', rfl, h2, h3, h4, h5, h6, h7, h8, h9⟩
  · refine (Ret.keeps (hr S.n (.inl ⟨hv, rfl, rfl⟩) (fun i hi _ => by omega))).mono ?_
    rintro v' m' n' ⟨⟨rfl, hp1, hp2⟩, hk⟩
    have hn := hk.1
    rcases hp2 with ⟨_, rfl, _⟩ | ⟨o, c, cs, cs', e, _⟩
    · have hch : Ch id S (⟨m', n', fun i => if i < S.n then S.ow i else 0, by omega⟩ : Cx fl) := ⟨hn, fun i hi _ => ⟨if_pos hi, hp1 i hi (by omega)⟩⟩
      refine h _ hch ⟨fun i h1 h2 => ?_, by simp only; omega, .inl ⟨hv, rfl, rfl⟩⟩
      obtain ⟨q1, q2⟩ := h0 i h1 h2
      obtain ⟨q3, q4⟩ := fz_ch hch hid i q1
      exact ⟨q3, q4.trans q2⟩
    · rcases hv with hv | hv <;> (rw [hv] at e; cases e)
  · have hlen := h8.len
    have hle := h8.le
    refine (Ret.keeps (hr b (.inr ⟨o, c, cs', rfl, h2, h3, by omega, h7, by omega, h9.fl hA⟩) (fun i _ hi e => hi (by rw [e]; exact h5)))).mono ?_
    rintro v' m' n' ⟨⟨rfl, hp1, hp2⟩, hk⟩
    have hn := hk.1
    rcases hp2 with ⟨e | e, _⟩ | ⟨o', c', cs1, cs2, e, e1, e2, e3, e4⟩
    · cases e
    · cases e
    · have hl : L'.length = L.length := by injection e with _ _ a _ _; exact a.symm
      have ho : o' = o := by injection e with _ a _ _ _; exact a.symm
      subst ho
      rw [h7] at e1; cases e1
      have hch : Ch id S (⟨m', n', fun i => if i < S.n then S.ow i else 0, by omega⟩ : Cx fl) := ⟨hn, fun i hi hk => ⟨if_pos hi, hp1 i hi (fun e => hk (by rw [e]; exact h5))⟩⟩
      refine h _ hch ⟨fun i h1 h2 => ?_, by simp only; omega, .inr ⟨o', c, cs, cs2, by rw [hl], by rw [hl]; exact h2, h3, h4, by simp only; rw [if_pos (by omega)]; exact h5, h6, e2, ?_, e4.fl hA⟩⟩
      · obtain ⟨q1, q2⟩ := h0 i h1 h2
        obtain ⟨q3, q4⟩ := fz_ch hch hid i q1
        exact ⟨q3, q4.trans q2⟩
      · rw [hl] at e3 ⊢
        exact h8.trans e3

/-- A header that is a part of another's. -/
def Sb (v w : SV) (sz lo k : Nat) : Prop := ((w = .nils ∨ w = .emp) ∧ k = 0) ∨ ∃ b o n c c', v = .sl b o n c sz ∧ w = .sl b (o + lo * sz) k c' sz ∧ lo + k ≤ n ∧ k ≤ c'
theorem WO.slcB {zo zi : Nat → Prop} {lo' hi' : Int} {lo1 hi1 : Option Operand} (hx : evK l x = some (.sc v)) (hlo : (∃ y, lo1 = some y ∧ evK l y = some (.sc (.int k lo'))) ∨ lo1 = none ∧ lo' = 0) (hhi : (∃ y, hi1 = some y ∧ evK l y = some (.sc (.int k' hi'))) ∨ hi1 = none ∧ hi' = L.length)
    (hs : RO A zo zi m v L) (hM : sub? L lo' hi' = some M) (hT : slTs E t A.sz = true)
    (h : ∀ w, RO A zo zi m w M → Sb v w A.sz lo'.toNat M.length → WO E loose fl lim ops os ((d, .sc w) :: l) m n K) : WO E loose fl lim ops (⟨some d, .slice t x lo1 hi1 none, ty, pos, af, none⟩ :: os) l m n K := ⟨fun tt ht => by
  obtain ⟨yt, e, h1, h2, h3, h4, _⟩ := slTs_ok hT
  have hlo' : lo1.map (St.ev ⟨tt, m, n⟩) = some (.sc (.int k lo')) ∨ lo1.map (St.ev ⟨tt, m, n⟩) = none ∧ lo' = 0 := by
    rcases hlo with ⟨y, rfl, hy⟩ | ⟨rfl, h0⟩
    · exact .inl (by rw [Option.map_some, evK_ev ht hy])
    · exact .inr ⟨rfl, h0⟩
  have hhi' : hi1.map (St.ev ⟨tt, m, n⟩) = some (.sc (.int k' hi')) ∨ hi1.map (St.ev ⟨tt, m, n⟩) = none ∧ hi' = L.length := by
    rcases hhi with ⟨y, rfl, hy⟩ | ⟨rfl, h0⟩
    · exact .inl (by rw [Option.map_some, evK_ev ht hy])
    · exact .inr ⟨rfl, h0⟩
  obtain ⟨w, q1, q2⟩ := RO.sub (t := t) hs hM h1 h2 h3 h4 _ _ hlo' hhi'
  have hsb : Sb v w A.sz lo'.toNat M.length := by
    obtain ⟨⟨b1, b2, b3⟩, hMe⟩ := sub?_some hM
    have hml : M.length = hi'.toNat - lo'.toNat := by rw [hMe, List.length_drop, List.length_take]; omega
    rcases q2 with ⟨q3, q4⟩ | ⟨i, o, c, cs, rfl, q3, q4, _⟩
    · exact .inl ⟨q3, by rw [q4]; rfl⟩
    · rcases hs with ⟨hv, rfl⟩ | ⟨i2, o2, c2, cs2, rfl, p2, p3, p4, p5, p6⟩
      · exfalso
        simp at b3
        have e1 : lo' = 0 := by omega
        have e2 : hi' = 0 := by omega
        subst e1; subst e2
        have hb : ∀ (o : Option AV) (k : IntKind), (o = some (.sc (.int k 0)) ∨ o = none) → boundA o 0 0 = some 0 := by
          rintro o k (rfl | rfl) <;> simp [boundA]
        rcases hv with hv | hv
        · subst hv
          simp only [sliceA, h1, h2, h3] at q1
          rw [hb _ k' (hhi'.imp id (·.1)), hb _ k (hlo'.imp id (·.1))] at q1
          simp at q1
        · subst hv
          simp only [sliceA, h1, h2, h3] at q1
          rw [hb _ k' (hhi'.imp id (·.1)), hb _ k (hlo'.imp id (·.1))] at q1
          simp at q1
      · right
        have hb1 : boundA (hi1.map (St.ev ⟨tt, m, n⟩)) L.length c2 = some hi'.toNat := by
          rcases hhi' with e | ⟨e, rfl⟩
          · rw [e]; simp only [boundA]; rw [if_pos (by omega)]
          · rw [e]; simp [boundA]
        have hb2 : boundA (lo1.map (St.ev ⟨tt, m, n⟩)) 0 hi'.toNat = some lo'.toNat := by
          rcases hlo' with e | ⟨e, rfl⟩
          · rw [e]; simp only [boundA]; rw [if_pos (by omega)]
          · rw [e]; simp [boundA]
        simp only [sliceA, h1, h2, h3, h4, Option.map_some] at q1
        have hb0 : boundA none c2 c2 = some c2 := rfl
        simp only [hb0, hb1, hb2] at q1
        split at q1
        · cases q1
        · split at q1
          · simp only [Option.some.injEq, AV.sc.injEq, SV.sl.injEq] at q1
            obtain ⟨r1, r2, r3, r4, r5⟩ := q1
            exact ⟨i, o2, L.length, c2, c, by rw [← r1], by rw [← r2], by omega, q3⟩
          · simp at q1
  refine W_op2 ?_ ((h w q2 hsb).put ht)
  simp only [opA, evK_ev ht hx, Option.map_none, q1, Option.map_some]⟩

/-- A call that turns a part of an own slice. -/
theorem WO.callS {f : Operand} {xs : Array Operand} {ats : Array TypeId} {g : Nat} {caps : List (Nat × Nat)} {args : List AV} {r : AV} {lo' hi' : Int} (hs : Ow A S id v L) (hM : sub? L lo' hi' = some M) (hb : Sb v w A.sz lo'.toNat M.length) (hf : evK l f = some (.sc (.fn g caps))) (ha : xs.toList.mapM (evK l) = some args)
    (hr : ∀ b, Iv A fl S.n b S.m w M → (∀ i, i < S.n → S.ow i ≠ id → i ≠ b) → Ret E fl g (args ++ caps.map fun p => .sc (.ptr p.1 p.2)) S.m S.n (fun v' m' n' => v' = r ∧ Ip A S.n b S.m m' w L')) (hA : A.Fl)
    (h : ∀ S', Ch id S S' → Ow A S' id v (putL L lo' L') → WO E loose fl lim ops os ((d, r) :: l) S'.m S'.n K) (hl : loose g = false := by rfl) :
    WO E loose fl lim ops (⟨some d, .call ⟨.value f, xs, ats⟩, ty, pos, af, none⟩ :: os) l S.m S.n K := by
  have hS := S.le
  obtain ⟨⟨b1, b2, b3⟩, hMe⟩ := sub?_some hM
  have hml : M.length = hi'.toNat - lo'.toNat := by rw [hMe, List.length_drop, List.length_take]; omega
  refine WO.call hf ha ?_
  rw [hl]; simp only [Bool.false_eq_true, if_false]
  rcases hb with ⟨hw, hk0⟩ | ⟨b, o, ln, c, c', rfl, rfl, hle, hc'⟩
  · have hM0 : M = [] := List.eq_nil_of_length_eq_zero hk0
    subst hM0
    refine (Ret.keeps (hr S.n (.inl ⟨hw, rfl, rfl⟩) (fun i hi _ => by omega))).mono ?_
    rintro v' m' n' ⟨⟨rfl, hp1, hp2⟩, hk⟩
    have hn := hk.1
    rcases hp2 with ⟨_, rfl, _⟩ | ⟨o, c, cs, cs', e, _⟩
    · have hch : Ch (id + 1) S (⟨m', n', fun i => if i < S.n then S.ow i else 0, by omega⟩ : Cx fl) := ⟨hn, fun i hi _ => ⟨if_pos hi, hp1 i hi (by omega)⟩⟩
      have e1 : putL L lo' ([] : List α) = L := by unfold putL; simp
      have hch2 : Ch id S (⟨m', n', fun i => if i < S.n then S.ow i else 0, by omega⟩ : Cx fl) := ⟨hn, fun i hi _ => ⟨if_pos hi, hp1 i hi (by omega)⟩⟩
      refine h _ hch2 ?_
      rw [e1]
      have hb1 : Nat.beq id (id + 1) = false := by
        cases hq : Nat.beq id (id + 1) with
        | false => rfl
        | true => exact absurd (Nat.eq_of_beq_eq_true hq) (by omega)
      exact Ow.to hs hch rfl hb1
    · rcases hw with hw | hw <;> (rw [hw] at e; cases e)
  · rcases hs with ⟨e, _⟩ | ⟨b', cap, cs, e, h2, h3, h4, h5, h6, h7, h8⟩
    · cases e
    · cases e
      have hle0 : L.length * A.sz ≤ cs.length := by rw [h7]; exact Nat.mul_le_mul_right _ h5
      have hle1 : (lo'.toNat + M.length) * A.sz ≤ L.length * A.sz := Nat.mul_le_mul_right _ hle
      rw [Nat.add_mul] at hle1
      have hwin : RL A S.fz S.m M ((cs.drop (0 + lo'.toNat * A.sz)).take (M.length * A.sz)) := by
        have h10 := RL.drop lo'.toNat (RL.take hi'.toNat h8)
        rw [← hMe] at h10
        have e : ((cs.take (L.length * A.sz)).take (hi'.toNat * A.sz)).drop (lo'.toNat * A.sz) = (cs.drop (0 + lo'.toNat * A.sz)).take (M.length * A.sz) := by
          rw [List.take_take, Nat.min_eq_left (Nat.mul_le_mul_right _ (by omega)), List.drop_take, Nat.zero_add, hml, Nat.sub_mul]
        rwa [e] at h10
      refine (Ret.keeps (hr b (.inr ⟨_, c', cs, rfl, hc', h2, h3, h6, by omega, hwin.fl hA⟩) (fun i _ hi e => hi (by rw [e]; exact h4)))).mono ?_
      rintro v' m' n' ⟨⟨rfl, hp1, hp2⟩, hk⟩
      have hn := hk.1
      rcases hp2 with ⟨e | e, _⟩ | ⟨o', c'', cs1, cs', e, e1, e2, e3, e4⟩
      · cases e
      · cases e
      · have hl : L'.length = M.length := by injection e with _ _ a _ _; exact a.symm
        have ho : o' = 0 + lo'.toNat * A.sz := by injection e with _ a _ _ _; exact a.symm
        subst ho
        rw [h6] at e1; cases e1
        have hlen := e3.len
        rw [hl, Nat.zero_add] at e3
        rw [hl, Nat.zero_add] at e4
        have hpl : (putL L lo' L').length = L.length := by
          unfold putL; simp only [List.length_append, List.length_take, List.length_drop]; omega
        have hch : Ch id S (⟨m', n', fun i => if i < S.n then S.ow i else 0, by omega⟩ : Cx fl) := ⟨hn, fun i hi hk => ⟨if_pos hi, hp1 i hi (fun e => hk (by rw [e]; exact h4))⟩⟩
        refine h _ hch (.inr ⟨b, c, cs', by rw [hpl], h2, by simp only; omega, by simp only; rw [if_pos h3]; exact h4, by rw [hpl]; exact h5, e2, by rw [hlen]; exact h7, ?_⟩)
        rw [hpl]
        have r1 := RL.take lo'.toNat h8
        have r3 := RL.drop (lo'.toNat + M.length) h8
        have ee : cs'.take (L.length * A.sz) = (cs.take (L.length * A.sz)).take (lo'.toNat * A.sz) ++ (cs'.drop (lo'.toNat * A.sz)).take (M.length * A.sz) ++ (cs.take (L.length * A.sz)).drop ((lo'.toNat + M.length) * A.sz) := by
          rw [List.take_take, Nat.min_eq_left (by omega), ← e3.lo, List.drop_take, Nat.add_mul, ← e3.hi, ← List.take_add, ← List.take_add]
          congr 1; omega
        rw [ee]
        unfold putL
        rw [hl]
        exact RL.append (RL.append (r1.fl hA) (e4.fl hA)) (r3.fl hA)

/-! ### Headers known -/
variable {y1 y2 y3 : Operand} {k'' : IntKind} {o ln c sz q : Nat} {i jj hh : Int} {cs new : List SV}
theorem WO.slH3 (hx : evK l x = some (.sc (.sl b o ln c sz))) (hlo : evK l y1 = some (.sc (.int k i))) (hhi : evK l y2 = some (.sc (.int k' jj))) (hmx : evK l y3 = some (.sc (.int k'' hh))) (h1 : 0 ≤ i ∧ i ≤ jj ∧ jj ≤ hh ∧ hh ≤ c) (hT : slTs E t sz = true)
    (h : ∀ w, WO E loose fl lim ops os ((d, .sc w) :: l) m n K) : WO E loose fl lim ops (⟨some d, .slice t x (some y1) (some y2) (some y3), ty, pos, af, none⟩ :: os) l m n K := ⟨fun tt ht => by
  obtain ⟨yt, e, e1, e2, e3, e4, _⟩ := slTs_ok hT
  have key : ∃ w, sliceA E t (.sc (.sl b o ln c sz)) (some (.sc (.int k i))) (some (.sc (.int k' jj))) (some (.sc (.int k'' hh))) = some (.sc w) := by
    simp only [sliceA, e1, e2, e3, e4, Option.map_some, boundA]
    rw [if_pos (show 0 ≤ hh ∧ hh ≤ (c : Int) from by omega)]
    simp only
    rw [if_pos (show 0 ≤ jj ∧ jj ≤ ((hh.toNat : Nat) : Int) from by omega)]
    simp only
    rw [if_pos (show 0 ≤ i ∧ i ≤ ((jj.toNat : Nat) : Int) from by omega)]
    simp only
    by_cases hq : i.toNat < hh.toNat ∨ i.toNat = 0
    · rw [if_pos hq]; exact ⟨_, by simp; rfl⟩
    · rw [if_neg hq]; exact ⟨_, by simp; rfl⟩
  obtain ⟨w, hw⟩ := key
  refine W_op2 ?_ ((h w).put ht)
  simp only [opA, evK_ev ht hx, evK_ev ht hlo, evK_ev ht hhi, evK_ev ht hmx, Option.map_some, hw]⟩
theorem WO.slHto (hx : evK l x = some (.sc (.sl b o ln c sz))) (hhi : evK l y2 = some (.sc (.int k' jj))) (h1 : 0 ≤ jj ∧ jj ≤ c) (hT : slTs E t sz = true)
    (h : WO E loose fl lim ops os ((d, .sc (.sl b o jj.toNat c sz)) :: l) m n K) : WO E loose fl lim ops (⟨some d, .slice t x none (some y2) none, ty, pos, af, none⟩ :: os) l m n K := ⟨fun tt ht => by
  obtain ⟨yt, e, e1, e2, e3, e4, _⟩ := slTs_ok hT
  refine W_op2 ?_ (h.put ht)
  have key : sliceA E t (.sc (.sl b o ln c sz)) none (some (.sc (.int k' jj))) none = some (.sc (.sl b o jj.toNat c sz)) := by
    simp only [sliceA, e1, e2, e3, e4, Option.map_some, boundA]
    rw [if_pos (show 0 ≤ jj ∧ jj ≤ (c : Int) from by omega)]
    simp
  simp only [opA, evK_ev ht hx, evK_ev ht hhi, Option.map_some, Option.map_none, key]⟩
theorem WO.slHmid (hx : evK l x = some (.sc (.sl b o ln c sz))) (hlo : evK l y1 = some (.sc (.int k i))) (hhi : evK l y2 = some (.sc (.int k' jj))) (h1 : 0 ≤ i ∧ i ≤ jj ∧ jj ≤ c ∧ i < c) (hT : slTs E t sz = true)
    (h : WO E loose fl lim ops os ((d, .sc (.sl b (o + i.toNat * sz) (jj.toNat - i.toNat) (c - i.toNat) sz)) :: l) m n K) : WO E loose fl lim ops (⟨some d, .slice t x (some y1) (some y2) none, ty, pos, af, none⟩ :: os) l m n K := ⟨fun tt ht => by
  obtain ⟨yt, e, e1, e2, e3, e4, _⟩ := slTs_ok hT
  refine W_op2 ?_ (h.put ht)
  have key : sliceA E t (.sc (.sl b o ln c sz)) (some (.sc (.int k i))) (some (.sc (.int k' jj))) none = some (.sc (.sl b (o + i.toNat * sz) (jj.toNat - i.toNat) (c - i.toNat) sz)) := by
    simp only [sliceA, e1, e2, e3, e4, Option.map_some, boundA]
    rw [if_pos (show 0 ≤ jj ∧ jj ≤ (c : Int) from by omega)]
    simp only
    rw [if_pos (show 0 ≤ i ∧ i ≤ ((jj.toNat : Nat) : Int) from by omega)]
    simp only
    rw [if_pos (show i.toNat < c ∨ i.toNat = 0 from by omega)]
    simp
  simp only [opA, evK_ev ht hx, evK_ev ht hlo, evK_ev ht hhi, Option.map_some, Option.map_none, key]⟩
theorem WO.slHfrom (hx : evK l x = some (.sc (.sl b o ln c sz))) (hlo : evK l y1 = some (.sc (.int k i))) (h1 : 0 ≤ i ∧ i ≤ ln ∧ ln ≤ c) (hm : m.get b = some cs) (hle : o + ln * sz ≤ cs.length) (hT : slTs E t sz = true)
    (h : ∀ w, elemsA m (.sc w) sz = some ((cs.drop (o + i.toNat * sz)).take ((ln - i.toNat) * sz), ln - i.toNat) → WO E loose fl lim ops os ((d, .sc w) :: l) m n K) : WO E loose fl lim ops (⟨some d, .slice t x (some y1) none none, ty, pos, af, none⟩ :: os) l m n K := ⟨fun tt ht => by
  obtain ⟨yt, e, e1, e2, e3, e4, _⟩ := slTs_ok hT
  have h2 : i.toNat * sz + (ln - i.toNat) * sz = ln * sz := by rw [← Nat.add_mul]; congr 1; omega
  have key : ∃ w, sliceA E t (.sc (.sl b o ln c sz)) (some (.sc (.int k i))) none none = some (.sc w) ∧ elemsA m (.sc w) sz = some ((cs.drop (o + i.toNat * sz)).take ((ln - i.toNat) * sz), ln - i.toNat) := by
    simp only [sliceA, e1, e2, e3, e4, Option.map_some, boundA]
    rw [if_pos (show 0 ≤ i ∧ i ≤ (ln : Int) from by omega)]
    simp only
    by_cases hq : i.toNat < c ∨ i.toNat = 0
    · rw [if_pos hq]
      refine ⟨.sl b (o + i.toNat * sz) (ln - i.toNat) (c - i.toNat) sz, by simp, ?_⟩
      simp only [elemsA, hm]
      rw [if_neg (by simp), if_pos (by omega)]
    · rw [if_neg hq]
      refine ⟨.emp, by simp, ?_⟩
      have : ln - i.toNat = 0 := by omega
      rw [this, Nat.zero_mul, List.take_zero]
      rfl
  obtain ⟨w, hw, hw2⟩ := key
  refine W_op2 ?_ ((h w hw2).put ht)
  simp only [opA, evK_ev ht hx, evK_ev ht hlo, Option.map_some, Option.map_none, hw]⟩
theorem WO.appH (hx : evK l x = some (.sc (.sl b o ln c sz))) (hy : evK l y = some (.sc w)) (hw : elemsA m (.sc w) sz = some (new, q)) (hm : m.get b = some cs) (hle : o + c * sz ≤ cs.length) (hq : ln + q ≤ c) (hq2 : ln + q ≤ 549755813888) (hfl : fl ≤ b) (hT : slTs E t sz = true)
    (h : WO E loose fl lim ops os ((d, .sc (.sl b o (ln + q) c sz)) :: l) (m.set b (splice cs (o + ln * sz) new)) n K) : WO E loose fl lim ops (⟨some d, .call ⟨.builtin .append, #[x, y], #[t, t]⟩, ty, pos, af, none⟩ :: os) l m n K := ⟨fun tt ht => by
  obtain ⟨yt, e, e1, e2, e3, e4, e5, e6, e7⟩ := slTs_ok hT
  refine W_op2 ?_ (h.put ht)
  have h2 : ln * sz ≤ c * sz := Nat.mul_le_mul_right _ (by omega)
  have h3 : (ln + q) * e.bytes ≤ 549755813888 * 256 := Nat.mul_le_mul hq2 e7
  have hel : elemsA m (.sc (.sl b o ln c sz)) sz = some ((cs.drop o).take (ln * sz), ln) := by
    simp only [elemsA, hm]
    rw [if_neg (by simp), if_pos (by omega)]
  have key : appendA E fl t (.sc (.sl b o ln c sz)) (.sc w) m n = some (.sc (.sl b o (ln + q) c sz), m.set b (splice cs (o + ln * sz) new), n) := by
    simp only [appendA, e1, e2, e3, e4]
    rw [if_neg (by simp), if_neg (by rw [e5]; simp; omega), hel, hw]
    simp only [appendTo]
    rw [if_neg (by omega), if_neg (by omega), if_pos hq, hm]
    simp only
    rw [if_pos hle]
  simp only [opA, callA, builtinA, List.map_cons, List.map_nil, evK_ev ht hx, evK_ev ht hy]
  simp [key]⟩
theorem WO.clrH (hx : evK l x = some (.sc (.sl b o ln c sz))) (hm : m.get b = some cs) (hle : o + ln * sz ≤ cs.length) (hfl : fl ≤ b) (hT : slTs E t sz = true)
    (h : ∀ z : List SV, z.length = ln * sz → WO E loose fl lim ops os l (m.set b (splice cs o z)) n K) : WO E loose fl lim ops (⟨none, .call ⟨.builtin .clear, #[x], #[t]⟩, ty, pos, af, none⟩ :: os) l m n K := ⟨fun tt ht => by
  obtain ⟨yt, e, e1, e2, e3, e4, e5, e6, e7⟩ := slTs_ok hT
  refine W_op2 (v := .tup []) (m' := m.set b (splice cs o (List.replicate ln e.zero).flatten)) (n' := n) ?_ ((h _ (by simp [e5])).ok tt ht)
  have key : clearA E fl t (.sc (.sl b o ln c sz)) m n = some (.tup [], m.set b (splice cs o (List.replicate ln e.zero).flatten), n) := by
    simp only [clearA, e1, e2, e3, e4]
    rw [if_neg (by simp), if_neg (by rw [e5]; simp)]
    rw [if_neg (by simp; omega), hm]
    try simp only
    rw [if_pos hle]
  simp only [opA, callA, builtinA, List.map_cons, List.map_nil, evK_ev ht hx]
  simp [key]⟩

/-- What slices.Delete is given, and leaves. -/
def Ov {α : Type} (A : Lay α) (fl n b : Nat) (m : Mem) (v : SV) (L : List α) : Prop :=
  ∃ c cs, v = .sl b 0 L.length c A.sz ∧ L.length ≤ c ∧ fl ≤ b ∧ b < n ∧ m.get b = some cs ∧ cs.length = c * A.sz ∧ RL A (fun i => i < n ∧ i ≠ b) m L (cs.take (L.length * A.sz))
def Oq {α : Type} (A : Lay α) (n b : Nat) (m m' : Mem) (w : SV) (M : List α) : Prop :=
  (∀ i, i < n → i ≠ b → m'.get i = m.get i) ∧ ∃ c cs, w = .sl b 0 M.length c A.sz ∧ M.length ≤ c ∧ m'.get b = some cs ∧ cs.length = c * A.sz ∧ RL A (fun i => i < n ∧ i ≠ b) m' M (cs.take (M.length * A.sz))
def del? {α : Type} (L : List α) (i j : Int) : Option (List α) := if 0 ≤ i ∧ i ≤ j ∧ j ≤ L.length ∧ 0 < L.length ∧ L.length ≤ 549755813888 then some (L.take i.toNat ++ L.drop j.toNat) else none
theorem del?_ne {P : Prop} [Decidable P] {M : List α} {i j : Int} (h : (if P then del? L i j else none) = some M) : 0 < L.length := by
  split at h
  · unfold del? at h
    split at h
    · rename_i hq; exact hq.2.2.2.1
    · cases h
  · cases h
theorem del_cells {g : α → SV} {z : List SV} {p r lo : Nat} (h : cs.take (L.length * 1) = L.map g) (h1 : p ≤ r) (h2 : r ≤ L.length) (hl : L.length ≤ cs.length) (hlo : lo = p + (L.length - r)) :
    (splice (splice cs (0 + p * 1) ((cs.drop (0 + r * 1)).take ((L.length - r) * 1))) (0 + lo * 1) z).take ((L.take p ++ L.drop r).length * 1) = (L.take p ++ L.drop r).map g := by
  subst hlo
  simp only [Nat.mul_one, Nat.zero_add] at h ⊢
  have e1 : cs.take p = (L.take p).map g := by
    have := congrArg (List.take p) h
    rwa [List.take_take, Nat.min_eq_left (by omega), ← List.map_take] at this
  have e2 : (cs.drop r).take (L.length - r) = (L.drop r).map g := by
    have := congrArg (List.drop r) h
    rwa [List.drop_take, ← List.map_drop] at this
  have hlen : (L.take p ++ L.drop r).length = p + (L.length - r) := by simp; omega
  rw [hlen, e2]
  unfold splice
  rw [List.append_assoc, List.take_append_of_le_length (by simp; omega), List.take_take, Nat.min_self, List.take_append_of_le_length (by simp; omega), List.take_of_length_le (by simp; omega), e1, List.map_append]
/-- A call that takes an own slice and gives it back, shorter. -/
theorem WO.callO {f : Operand} {xs : Array Operand} {ats : Array TypeId} {g : Nat} {caps : List (Nat × Nat)} {args : List AV} (hs : Ow A S id v L) (hne : 0 < L.length) (hf : evK l f = some (.sc (.fn g caps))) (ha : xs.toList.mapM (evK l) = some args)
    (hr : ∀ b, Ov A fl S.n b S.m v L → Ret E fl g (args ++ caps.map fun p => .sc (.ptr p.1 p.2)) S.m S.n (fun v' m' n' => ∃ w, v' = .sc w ∧ Oq A S.n b S.m m' w M)) (hA : A.Fl)
    (h : ∀ w S', Ch id S S' → Ow A S' id w M → WO E loose fl lim ops os ((d, .sc w) :: l) S'.m S'.n K) (hl : loose g = false := by rfl) :
    WO E loose fl lim ops (⟨some d, .call ⟨.value f, xs, ats⟩, ty, pos, af, none⟩ :: os) l S.m S.n K := by
  have hS := S.le
  refine WO.call hf ha ?_
  rw [hl]; simp only [Bool.false_eq_true, if_false]
  rcases hs with ⟨rfl, rfl⟩ | ⟨b, c, cs, rfl, h2, h3, h4, h5, h6, h7, h8⟩
  · simp at hne
  · refine (Ret.keeps (hr b ⟨c, cs, rfl, h5, h2, h3, h6, h7, h8.fl hA⟩)).mono ?_
    rintro v' m' n' ⟨⟨w, rfl, hp1, c', cs', rfl, e1, e2, e3, e4⟩, hk⟩
    have hn := hk.1
    exact h _ ⟨m', n', fun i => if i < S.n then S.ow i else 0, by omega⟩ ⟨hn, fun i hi hk => ⟨if_pos hi, hp1 i hi (fun e => hk (by rw [e]; exact h4))⟩⟩ (.inr ⟨b, c', cs', rfl, h2, by simp only; omega, by simp only; rw [if_pos h3]; exact h4, e1, e2, e3, e4.fl hA⟩)
end rules
end Go.Am

/- What a generated functional text (Den) is made of, and walking with memory read as lists. -/
import Derived.Test.YtihmliblbhjlaaaAmB
namespace Go.Am

/-! ### The words of the functional texts -/
/-- A loop's round: go on, or stop. -/
inductive Stp (σ β : Type) where
  | more (s : σ)
  | stop (b : β)

def iter {σ β : Type} (step : σ → Option (Stp σ β)) : Nat → σ → Option β
  | 0, _ => none
  | f + 1, s =>
    match step s with
    | none => none
    | some (.more s') => iter step f s'
    | some (.stop b) => some b

def at? {α : Type} (L : List α) (i : Int) : Option α := if 0 ≤ i then L[i.toNat]? else none
def ck {α : Type} (L : List α) (i : Int) : Option Unit := if 0 ≤ i ∧ i < L.length then some () else none
def set? {α : Type} (L : List α) (i : Int) (x : α) : Option (List α) := if 0 ≤ i ∧ i < L.length then some (L.set i.toNat x) else none
def app? {α : Type} (L L' : List α) : Option (List α) := if L.length + L'.length ≤ 549755813888 then some (L ++ L') else none
def mk? {α : Type} (n : Int) (z : α) : Option (List α) := if 0 ≤ n ∧ n ≤ 1099511627776 then some (List.replicate n.toNat z) else none
def sub? {α : Type} (L : List α) (lo hi : Int) : Option (List α) := if 0 ≤ lo ∧ lo ≤ hi ∧ hi ≤ L.length then some ((L.take hi.toNat).drop lo.toNat) else none
def quo? (k : IntKind) (a b : Int) : Option Int := if b = 0 then none else some (wrapA k (a.tdiv b))
def rem? (a b : Int) : Option Int := if b = 0 then none else some (a.tmod b)
def shl? (k : IntKind) (a b : Int) : Option Int := if b < 0 then none else some (wrapA k (a * 2 ^ (min b.toNat k.bits)))
def shr? (k : IntKind) (a b : Int) : Option Int := if b < 0 then none else some (a.fdiv (2 ^ (min b.toNat k.bits)))
def bit (op : BinOp) (k : IntKind) (a b : Int) : Int := (bits2 op k a b).getD 0
def maxI (a b : Int) : Int := if b > a then b else a
def minI (a b : Int) : Int := if b < a then b else a
def cat? (a b : List UInt8) : Option (List UInt8) := if a.length + b.length > 9223372036854775807 then none else some (a ++ b)

def bytes? (s : List UInt8) : Option (List Int) := if s.length ≤ 9223372036854775807 then some (s.map fun b => (b.toNat : Int)) else none
theorem andT {q b : Bool} (h : q = true) : AV.sc (.bool b) = .sc (.bool (q && b)) := by subst h; rfl
theorem andF {q b : Bool} (h : q = false) : AV.sc (.bool false) = .sc (.bool (q && b)) := by subst h; rfl
theorem orT {q b : Bool} (h : q = true) : AV.sc (.bool true) = .sc (.bool (q || b)) := by subst h; rfl
theorem orF {q b : Bool} (h : q = false) : AV.sc (.bool b) = .sc (.bool (q || b)) := by subst h; rfl
theorem at?_some {α : Type} {L : List α} {i : Int} {x : α} (h : at? L i = some x) : 0 ≤ i ∧ i < L.length ∧ L[i.toNat]? = some x := by
  unfold at? at h
  split at h
  · rename_i h0
    have := (List.getElem?_eq_some_iff.1 h).1
    exact ⟨h0, by omega, h⟩
  · cases h
theorem at?_lt {α : Type} {L : List α} {i : Int} {x : α} (h : at? L i = some x) : 0 ≤ i ∧ i < L.length := ⟨(at?_some h).1, (at?_some h).2.1⟩
theorem at?_nat {α : Type} {L : List α} {i : Int} {x : α} (h : at? L i = some x) : i.toNat < L.length := by have := at?_lt h; omega
theorem at?_get {α : Type} {L : List α} {i : Int} {x : α} (h : at? L i = some x) : L[i.toNat]? = some x := (at?_some h).2.2
theorem ck_some {α : Type} {L : List α} {i : Int} {u : Unit} (h : ck L i = some u) : 0 ≤ i ∧ i < L.length := by
  unfold ck at h
  split at h
  · assumption
  · cases h
theorem set?_some {α : Type} {L L' : List α} {i : Int} {x : α} (h : set? L i x = some L') : (0 ≤ i ∧ i < L.length) ∧ L' = L.set i.toNat x := by
  unfold set? at h
  split at h
  · cases h; exact ⟨by assumption, rfl⟩
  · cases h
theorem ck_nat {α : Type} {L : List α} {i : Int} {u : Unit} (h : ck L i = some u) : i.toNat < L.length := by have := ck_some h; omega
theorem set?_lt {α : Type} {L L' : List α} {i : Int} {x : α} (h : set? L i x = some L') : 0 ≤ i ∧ i < L.length := (set?_some h).1
theorem set?_nat {α : Type} {L L' : List α} {i : Int} {x : α} (h : set? L i x = some L') : i.toNat < L.length := by have := set?_lt h; omega
theorem set?_eq {α : Type} {L L' : List α} {i : Int} {x : α} (h : set? L i x = some L') : L' = L.set i.toNat x := (set?_some h).2
theorem app?_some {α : Type} {L L' M : List α} (h : app? L L' = some M) : L.length + L'.length ≤ 549755813888 ∧ M = L ++ L' := by
  unfold app? at h
  split at h
  · cases h; exact ⟨by assumption, rfl⟩
  · cases h
theorem app?_nil {α : Type} {L : List α} (h : L.length ≤ 549755813888) : app? [] L = some L := by unfold app?; rw [if_pos (by simpa using h)]; rfl
theorem mk?_some {α : Type} {n : Int} {z : α} {M : List α} (h : mk? n z = some M) : (0 ≤ n ∧ n ≤ 1099511627776) ∧ M = List.replicate n.toNat z := by
  unfold mk? at h
  split at h
  · cases h; exact ⟨by assumption, rfl⟩
  · cases h
theorem sub?_some {α : Type} {L M : List α} {lo hi : Int} (h : sub? L lo hi = some M) : (0 ≤ lo ∧ lo ≤ hi ∧ hi ≤ L.length) ∧ M = (L.take hi.toNat).drop lo.toNat := by
  unfold sub? at h
  split at h
  · cases h; exact ⟨by assumption, rfl⟩
  · cases h
theorem bindS {α β : Type} {o : Option α} {f : α → Option β} {r : β} (h : o.bind f = some r) : ∃ x, o = some x ∧ f x = some r := by
  cases o with
  | none => cases h
  | some x => exact ⟨x, rfl, h⟩
theorem iteT {α : Type} {q : Bool} {a b r : α} (hq : q = true) (h : (if q then a else b) = r) : a = r := by subst hq; exact h
theorem iteF {α : Type} {q : Bool} {a b r : α} (hq : q = false) (h : (if q then a else b) = r) : b = r := by subst hq; exact h
theorem someI {α : Type} {a b : α} (h : some a = some b) : a = b := by cases h; rfl

/-! ### How data lie in cells -/
structure Lay (α : Type) where
  sz : Nat
  R : (Nat → Prop) → Mem → α → List SV → Prop
  len : ∀ {z m a cs}, R z m a cs → cs.length = sz
  frame : ∀ {z z' : Nat → Prop} {m m' : Mem} {a cs}, R z m a cs → (∀ i, z i → z' i ∧ m'.get i = m.get i) → R z' m' a cs

/-- The cells are a function of the datum. -/
def Lay.flat {α : Type} (sz : Nat) (f : α → List SV) (hf : ∀ a, (f a).length = sz) : Lay α where
  sz := sz
  R _ _ a cs := cs = f a
  len h := by subst h; exact hf _
  frame h _ := h
/-- One cell. -/
abbrev Lay.one {α : Type} (g : α → SV) : Lay α := Lay.flat 1 (fun a => [g a]) fun _ => rfl

def RL {α : Type} (A : Lay α) (z : Nat → Prop) (m : Mem) : List α → List SV → Prop
  | [], cs => cs = []
  | a :: L, cs => ∃ c r, cs = c ++ r ∧ A.R z m a c ∧ RL A z m L r

section rl
variable {α : Type} {A : Lay α} {z z' : Nat → Prop} {m m' : Mem} {L L' : List α} {cs cs' : List SV}
theorem RL.length : ∀ {L : List α} {cs : List SV}, RL A z m L cs → cs.length = L.length * A.sz
  | [], cs, h => by rw [show cs = [] from h]; simp
  | a :: L, cs, h => by
    obtain ⟨c, r, rfl, h1, h2⟩ := h
    rw [List.length_append, A.len h1, RL.length h2, List.length_cons, Nat.add_mul, Nat.one_mul, Nat.add_comm]
theorem RL.frame : ∀ {L : List α} {cs : List SV}, RL A z m L cs → (∀ i, z i → z' i ∧ m'.get i = m.get i) → RL A z' m' L cs
  | [], _, h, _ => h
  | _ :: _, _, ⟨c, r, e, h1, h2⟩, k => ⟨c, r, e, A.frame h1 k, RL.frame h2 k⟩
theorem RL.get : ∀ {L : List α} {cs : List SV} (_ : RL A z m L cs) {j : Nat} {a : α}, L[j]? = some a → A.R z m a ((cs.drop (j * A.sz)).take A.sz)
  | [], _, _, j, a, h => by simp at h
  | x :: L, cs, ⟨c, r, e, h1, h2⟩, 0, a, h => by
    simp at h; subst h; subst e
    rw [Nat.zero_mul, List.drop_zero, List.take_append_of_le_length (by rw [A.len h1]; exact Nat.le_refl _), List.take_of_length_le (by rw [A.len h1]; exact Nat.le_refl _)]
    exact h1
  | x :: L, cs, ⟨c, r, e, h1, h2⟩, j + 1, a, h => by
    subst e
    have := RL.get h2 (j := j) (a := a) (by simpa using h)
    rwa [Nat.add_mul, Nat.one_mul, Nat.add_comm, ← List.drop_drop, List.drop_append_of_le_length (by rw [A.len h1]; exact Nat.le_refl _), List.drop_of_length_le (l := c) (by rw [A.len h1]; exact Nat.le_refl _), List.nil_append]
theorem RL.append : ∀ {L L' : List α} {cs cs' : List SV}, RL A z m L cs → RL A z m L' cs' → RL A z m (L ++ L') (cs ++ cs')
  | [], _, cs, _, h, h' => by rw [show cs = [] from h]; exact h'
  | _ :: _, _, _, _, ⟨c, r, e, h1, h2⟩, h' => ⟨c, r ++ _, by rw [e, List.append_assoc], h1, RL.append h2 h'⟩
theorem RL.take : ∀ (k : Nat) {L : List α} {cs : List SV}, RL A z m L cs → RL A z m (L.take k) (cs.take (k * A.sz))
  | 0, _, _, _ => by simp [RL]
  | k + 1, [], cs, h => by rw [show cs = [] from h]; simp [RL]
  | k + 1, x :: L, cs, ⟨c, r, e, h1, h2⟩ => by
    subst e
    refine ⟨c, r.take (k * A.sz), ?_, h1, RL.take k h2⟩
    rw [Nat.add_mul, Nat.one_mul, Nat.add_comm, List.take_append, A.len h1, List.take_of_length_le (l := c) (by rw [A.len h1]; omega), Nat.add_sub_cancel_left]
theorem RL.drop : ∀ (k : Nat) {L : List α} {cs : List SV}, RL A z m L cs → RL A z m (L.drop k) (cs.drop (k * A.sz))
  | 0, _, _, h => by simpa using h
  | k + 1, [], cs, h => by rw [show cs = [] from h]; simp [RL]
  | k + 1, x :: L, cs, ⟨c, r, e, h1, h2⟩ => by
    subst e
    have := RL.drop k h2
    have e1 : (k + 1) * A.sz = A.sz + k * A.sz := by rw [Nat.add_mul, Nat.one_mul, Nat.add_comm]
    rw [e1, List.drop_append, A.len h1, List.drop_of_length_le (l := c) (by rw [A.len h1]; omega), List.nil_append, Nat.add_sub_cancel_left]
    exact this
theorem RL.set : ∀ {L : List α} {cs : List SV} (_ : RL A z m L cs) {j : Nat} {a : α} {c : List SV}, j < L.length → A.R z m a c → RL A z m (L.set j a) (splice cs (j * A.sz) c)
  | [], _, _, j, _, _, h, _ => by simp at h
  | x :: L, cs, ⟨c, r, e, h1, h2⟩, 0, a, c', _, h' => by
    subst e
    refine ⟨c', r, ?_, h', h2⟩
    unfold splice
    rw [Nat.zero_mul, List.take_zero, List.nil_append, Nat.zero_add, A.len h', List.drop_append_of_le_length (by rw [A.len h1]; exact Nat.le_refl _), List.drop_of_length_le (l := c) (by rw [A.len h1]; exact Nat.le_refl _), List.nil_append]
  | x :: L, cs, ⟨c, r, e, h1, h2⟩, j + 1, a, c', hj, h' => by
    subst e
    refine ⟨c, splice r (j * A.sz) c', ?_, h1, RL.set h2 (by simpa using hj) h'⟩
    unfold splice
    have e1 : (j + 1) * A.sz = A.sz + j * A.sz := by rw [Nat.add_mul, Nat.one_mul, Nat.add_comm]
    have e2 : A.sz + j * A.sz + c'.length - A.sz = j * A.sz + c'.length := by omega
    rw [e1, List.take_append, A.len h1, List.take_of_length_le (l := c) (by rw [A.len h1]; omega), Nat.add_sub_cancel_left, List.drop_append, A.len h1, List.drop_of_length_le (l := c) (by rw [A.len h1]; omega), e2, List.nil_append, List.append_assoc, List.append_assoc, List.append_assoc]
theorem RL.replicate {a : α} {c : List SV} (h : A.R z m a c) : ∀ n, RL A z m (List.replicate n a) (List.replicate n c).flatten
  | 0 => by simp [RL]
  | n + 1 => by rw [List.replicate_succ, List.replicate_succ, List.flatten_cons]; exact ⟨c, _, rfl, h, RL.replicate h n⟩
theorem RL.one {a : α} {c : List SV} (h : A.R z m a c) : RL A z m [a] c := ⟨c, [], by simp, h, rfl⟩
theorem RL.flat1 {g : α → SV} : ∀ {L : List α} {cs : List SV}, RL (Lay.one g) z m L cs → cs = L.map g
  | [], _, h => h
  | a :: L, _, ⟨c, r, e, h1, h2⟩ => by rw [e, show c = [g a] from h1, RL.flat1 h2]; rfl
theorem RL.ofMap {g : α → SV} : ∀ (L : List α), RL (Lay.one g) z m L (L.map g)
  | [] => rfl
  | a :: L => ⟨[g a], L.map g, rfl, rfl, RL.ofMap L⟩
end rl

/-- A slice that is read: 'zo' of its block, 'zi' of what its elements refer to. -/
def RO {α : Type} (A : Lay α) (zo zi : Nat → Prop) (m : Mem) (v : SV) (L : List α) : Prop :=
  ((v = .nils ∨ v = .emp) ∧ L = []) ∨ ∃ i o c cs, v = .sl i o L.length c A.sz ∧ L.length ≤ c ∧ zo i ∧ m.get i = some cs ∧ o + L.length * A.sz ≤ cs.length ∧ RL A zi m L ((cs.drop o).take (L.length * A.sz))

/-- A slice as one cell. -/
def Lay.sl {α : Type} (A : Lay α) : Lay (List α) where
  sz := 1
  R z m L cs := ∃ v, cs = [v] ∧ RO A z z m v L
  len := by rintro z m a cs ⟨v, rfl, _⟩; rfl
  frame := by
    rintro z z' m m' a cs ⟨v, rfl, h⟩ k
    refine ⟨v, rfl, ?_⟩
    rcases h with h | ⟨i, o, c, cs, h1, h2, h3, h4, h5, h6⟩
    · exact .inl h
    · exact .inr ⟨i, o, c, cs, h1, h2, (k i h3).1, by rw [(k i h3).2]; exact h4, h5, h6.frame k⟩

/-! ### A state of memory, and whose each block is -/
structure Cx (fl : Nat) where
  m : Mem
  n : Nat
  ow : Nat → Nat     -- 0: nobody's, never written
  le : fl ≤ n
def Cx.fz {fl : Nat} (S : Cx fl) (i : Nat) : Prop := i < S.n ∧ S.ow i = 0
/-- From S to S' nothing turned but what is k's, and new blocks. -/
structure Ch {fl : Nat} (k : Nat) (S S' : Cx fl) : Prop where
  n : S.n ≤ S'.n
  ow : ∀ i, i < S.n → S.ow i ≠ k → S'.ow i = S.ow i ∧ S'.m.get i = S.m.get i

theorem Ch.refl {fl : Nat} (k : Nat) (S : Cx fl) : Ch k S S := ⟨Nat.le_refl _, fun _ _ _ => ⟨rfl, rfl⟩⟩
theorem Ch.trans {fl k : Nat} {S S' S'' : Cx fl} (h : Ch k S S') (h' : Ch k S' S'') : Ch k S S'' :=
  ⟨Nat.le_trans h.n h'.n, fun i hi hk => by
    obtain ⟨h1, h2⟩ := h.ow i hi hk
    obtain ⟨h3, h4⟩ := h'.ow i (Nat.lt_of_lt_of_le hi h.n) (by rw [h1]; exact hk)
    exact ⟨h3.trans h1, h4.trans h2⟩⟩

/-- A slice that is object k's: nil, or all of a block's beginning. -/
def Ow {α : Type} {fl : Nat} (A : Lay α) (S : Cx fl) (k : Nat) (v : SV) (L : List α) : Prop :=
  (v = .nils ∧ L = []) ∨ ∃ b c cs, v = .sl b 0 L.length c A.sz ∧ fl ≤ b ∧ b < S.n ∧ S.ow b = k ∧ L.length ≤ c ∧ S.m.get b = some cs ∧ cs.length = c * A.sz ∧ RL A S.fz S.m L (cs.take (L.length * A.sz))
/-- A block that is object k's: a struct, an array, a variable. -/
def Bk {α : Type} {fl : Nat} (A : Lay α) (S : Cx fl) (k : Nat) (v : SV) (a : α) : Prop :=
  ∃ b cs, v = .ptr b 0 ∧ fl ≤ b ∧ b < S.n ∧ S.ow b = k ∧ S.m.get b = some cs ∧ A.R S.fz S.m a cs
/-- A slice that nobody writes. -/
def Rd {α : Type} {fl : Nat} (A : Lay α) (S : Cx fl) (v : SV) (L : List α) : Prop := RO A S.fz S.fz S.m v L

/-- Of a slice's header what 'len' and indexing ask. -/
def SlV (v : SV) (sz len : Nat) : Prop := ((v = .nils ∨ v = .emp) ∧ len = 0) ∨ ∃ i o c, v = .sl i o len c sz ∧ len ≤ c

section cx
variable {α : Type} {A : Lay α} {fl k j : Nat} {S S' : Cx fl} {v : SV} {L : List α} {zo zi zo' zi' : Nat → Prop} {m m' : Mem}

theorem RO.slv (h : RO A zo zi m v L) : SlV v A.sz L.length := by
  rcases h with ⟨h1, rfl⟩ | ⟨i, o, c, cs, h1, h2, _⟩
  · exact .inl ⟨h1, rfl⟩
  · exact .inr ⟨i, o, c, h1, h2⟩
theorem Rd.slv (h : Rd A S v L) : SlV v A.sz L.length := RO.slv h
theorem Ow.slv (h : Ow A S k v L) : SlV v A.sz L.length := by
  rcases h with ⟨h1, rfl⟩ | ⟨b, c, cs, h1, _, _, _, h2, _⟩
  · exact .inl ⟨.inl h1, rfl⟩
  · exact .inr ⟨b, 0, c, h1, h2⟩

theorem fz_ch (h : Ch k S S') (hk : k ≠ 0) : ∀ i, S.fz i → S'.fz i ∧ S'.m.get i = S.m.get i := fun i ⟨h1, h2⟩ => by
  obtain ⟨h3, h4⟩ := h.ow i h1 (by omega)
  exact ⟨⟨Nat.lt_of_lt_of_le h1 h.n, by rw [h3]; exact h2⟩, h4⟩

theorem RO.to (h : RO A zo zi m v L) (ho : ∀ i, zo i → zo' i ∧ m'.get i = m.get i) (hi : ∀ i, zi i → zi' i ∧ m'.get i = m.get i) : RO A zo' zi' m' v L := by
  rcases h with h | ⟨i, o, c, cs, h1, h2, h3, h4, h5, h6⟩
  · exact .inl h
  · exact .inr ⟨i, o, c, cs, h1, h2, (ho i h3).1, by rw [(ho i h3).2]; exact h4, h5, h6.frame hi⟩
theorem Rd.to (h : Rd A S v L) (c : Ch k S S') (hk : Nat.beq k 0 = false := by rfl) : Rd A S' v L := by
  have hk : k ≠ 0 := fun e => by subst e; cases hk
  exact RO.to h (fz_ch c hk) (fz_ch c hk)
theorem Ow.to (h : Ow A S j v L) (c : Ch k S S') (hk : Nat.beq k 0 = false := by rfl) (hj : Nat.beq j k = false := by rfl) : Ow A S' j v L := by
  have hk : k ≠ 0 := fun e => by subst e; cases hk
  have hj : j ≠ k := fun e => by subst e; rw [show Nat.beq j j = true by simp] at hj; cases hj
  rcases h with h | ⟨b, c', cs, h1, h2, h3, h4, h5, h6, h7, h8⟩
  · exact .inl h
  · obtain ⟨h9, h10⟩ := c.ow b h3 (by omega)
    exact .inr ⟨b, c', cs, h1, h2, Nat.lt_of_lt_of_le h3 c.n, by omega, h5, by rw [h10]; exact h6, h7, h8.frame (fz_ch c hk)⟩
theorem Bk.to {a : α} (h : Bk A S j v a) (c : Ch k S S') (hk : Nat.beq k 0 = false := by rfl) (hj : Nat.beq j k = false := by rfl) : Bk A S' j v a := by
  have hk : k ≠ 0 := fun e => by subst e; cases hk
  have hj : j ≠ k := fun e => by subst e; rw [show Nat.beq j j = true by simp] at hj; cases hj
  obtain ⟨b, cs, h1, h2, h3, h4, h6, h8⟩ := h
  obtain ⟨h9, h10⟩ := c.ow b h3 (by omega)
  exact ⟨b, cs, h1, h2, Nat.lt_of_lt_of_le h3 c.n, by omega, by rw [h10]; exact h6, A.frame h8 (fz_ch c hk)⟩

/-- Whatever is in memory, as a callee reads it. -/
def Vw {α : Type} (A : Lay α) (n : Nat) (m : Mem) (v : SV) (L : List α) : Prop := RO A (fun i => i < n) (fun i => i < n) m v L
theorem Rd.vw (h : Rd A S v L) : Vw A S.n S.m v L := RO.to h (fun _ h => ⟨h.1, rfl⟩) (fun _ h => ⟨h.1, rfl⟩)
theorem Ow.ro (h : Ow A S k v L) : RO A (fun i => i < S.n) S.fz S.m v L := by
  rcases h with ⟨h1, h2⟩ | ⟨b, c, cs, h1, h2, h3, h4, h5, h6, h7, h8⟩
  · exact .inl ⟨.inl h1, h2⟩
  · exact .inr ⟨b, 0, c, cs, h1, h5, h3, h6, by rw [h7]; simpa using Nat.mul_le_mul_right _ h5, by simpa using h8⟩
theorem Rd.ro (h : Rd A S v L) : RO A (fun i => i < S.n) S.fz S.m v L := RO.to h (fun _ h => ⟨h.1, rfl⟩) (fun _ h => ⟨h, rfl⟩)
theorem Ow.vw (h : Ow A S k v L) : Vw A S.n S.m v L := RO.to h.ro (fun _ h => ⟨h, rfl⟩) (fun _ h => ⟨h.1, rfl⟩)
/-- A callee's view of its arguments. -/
theorem Vw.rd {n : Nat} (h : Vw A n m v L) : Rd A (⟨m, n, fun _ => 0, Nat.le_refl n⟩ : Cx n) v L := RO.to h (fun _ h => ⟨⟨h, rfl⟩, rfl⟩) (fun _ h => ⟨⟨h, rfl⟩, rfl⟩)
theorem Vw.rdS {n : Nat} {S : Cx n} (h : Vw A n m v L) (em : S.m = m) (hz : ∀ i, i < n → S.fz i) : Rd A S v L := by
  subst em
  exact RO.to h (fun i hi => ⟨hz i hi, rfl⟩) (fun i hi => ⟨hz i hi, rfl⟩)
theorem Vw.nil {n : Nat} : Vw A n m .nils ([] : List α) := .inl ⟨.inl rfl, rfl⟩
theorem Ow.nil : Ow A S k .nils ([] : List α) := .inl ⟨rfl, rfl⟩
theorem Rd.nil : Rd A S .nils ([] : List α) := .inl ⟨.inl rfl, rfl⟩

/-- The same, of blocks that were there at a time. -/
theorem Rd.oz (h : Rd A S v L) : RO A (fun i => i < S.n ∧ S.fz i) S.fz S.m v L := RO.to h (fun _ h => ⟨⟨h.1, h⟩, rfl⟩) (fun _ h => ⟨h, rfl⟩)
theorem RO.toz {n0 : Nat} (h : RO A (fun i => i < n0 ∧ S.fz i) S.fz S.m v L) (c : Ch k S S') (hk : Nat.beq k 0 = false := by rfl) : RO A (fun i => i < n0 ∧ S'.fz i) S'.fz S'.m v L := by
  have hk : k ≠ 0 := fun e => by subst e; cases hk
  exact RO.to h (fun i hi => ⟨⟨hi.1, (fz_ch c hk i hi.2).1⟩, (fz_ch c hk i hi.2).2⟩) (fz_ch c hk)
theorem Ow.oz (h : Ow A S j v L) : RO A (fun i => i < S.n ∧ i < S.n ∧ S.ow i = j) S.fz S.m v L := by
  rcases h with ⟨h1, h2⟩ | ⟨b, c, cs, h1, h2, h3, h4, h5, h6, h7, h8⟩
  · exact .inl ⟨.inl h1, h2⟩
  · exact .inr ⟨b, 0, c, cs, h1, h5, ⟨h3, h3, h4⟩, h6, by rw [h7]; simpa using Nat.mul_le_mul_right _ h5, by simpa using h8⟩
theorem RO.tow {n0 : Nat} (h : RO A (fun i => i < n0 ∧ i < S.n ∧ S.ow i = j) S.fz S.m v L) (c : Ch k S S') (hk : Nat.beq k 0 = false := by rfl) (hj : Nat.beq j k = false := by rfl) : RO A (fun i => i < n0 ∧ i < S'.n ∧ S'.ow i = j) S'.fz S'.m v L := by
  have hk : k ≠ 0 := fun e => by subst e; cases hk
  have hj : j ≠ k := fun e => by subst e; rw [show Nat.beq j j = true by simp] at hj; cases hj
  refine RO.to h (fun i hi => ?_) (fz_ch c hk)
  obtain ⟨h1, h2⟩ := c.ow i hi.2.1 (by omega)
  exact ⟨⟨hi.1, Nat.lt_of_lt_of_le hi.2.1 c.n, by rw [h1]; exact hi.2.2⟩, h2⟩

/-- What is k's is nobody's from now on. -/
def Cx.drop {fl : Nat} (S : Cx fl) (k : Nat) : Cx fl := ⟨S.m, S.n, fun i => if S.ow i = k then 0 else S.ow i, S.le⟩
theorem Rd.drop (h : Rd A S v L) (k : Nat) : Rd A (S.drop k) v L := by
  have : ∀ i, S.fz i → (S.drop k).fz i ∧ (S.drop k).m.get i = S.m.get i := fun i ⟨h1, h2⟩ => ⟨⟨h1, by simp only [Cx.drop]; split; rfl; exact h2⟩, rfl⟩
  exact RO.to h this this
theorem Ow.drop (h : Ow A S j v L) (k : Nat) (hj : Nat.beq j k = false := by rfl) : Ow A (S.drop k) j v L := by
  have hj : j ≠ k := fun e => by subst e; rw [show Nat.beq j j = true by simp] at hj; cases hj
  rcases h with h | ⟨b, c', cs, h1, h2, h3, h4, h5, h6, h7, h8⟩
  · exact .inl h
  · refine .inr ⟨b, c', cs, h1, h2, h3, by simp only [Cx.drop]; rw [if_neg (by omega)]; exact h4, h5, h6, h7, h8.frame fun i ⟨h1, h2⟩ => ⟨⟨h1, ?_⟩, rfl⟩⟩
    simp only [Cx.drop]; split; rfl; exact h2
theorem Bk.drop {a : α} (h : Bk A S j v a) (k : Nat) (hj : Nat.beq j k = false := by rfl) : Bk A (S.drop k) j v a := by
  have hj : j ≠ k := fun e => by subst e; rw [show Nat.beq j j = true by simp] at hj; cases hj
  obtain ⟨b, cs, h1, h2, h3, h4, h6, h8⟩ := h
  refine ⟨b, cs, h1, h2, h3, by simp only [Cx.drop]; rw [if_neg (by omega)]; exact h4, h6, A.frame h8 fun i ⟨h1, h2⟩ => ⟨⟨h1, ?_⟩, rfl⟩⟩
  simp only [Cx.drop]; split; rfl; exact h2
theorem Ow.freeze (h : Ow A S k v L) : Rd A (S.drop k) v L := by
  rcases h with ⟨h1, h2⟩ | ⟨b, c, cs, h1, h2, h3, h4, h5, h6, h7, h8⟩
  · exact .inl ⟨.inl h1, h2⟩
  · refine .inr ⟨b, 0, c, cs, h1, h5, ⟨h3, by simp only [Cx.drop]; rw [if_pos h4]⟩, h6, by rw [h7]; simpa using Nat.mul_le_mul_right _ h5, ?_⟩
    have h8 : RL A S.fz S.m L ((cs.drop 0).take (L.length * A.sz)) := by simpa using h8
    refine h8.frame fun i ⟨h1, h2⟩ => ⟨⟨h1, ?_⟩, rfl⟩
    simp only [Cx.drop]; split; rfl; exact h2

/-- What is k's is j's from now on; what was j's is waste (1). -/
def Cx.ren {fl : Nat} (S : Cx fl) (k j : Nat) : Cx fl := ⟨S.m, S.n, fun i => if S.ow i = k then j else if S.ow i = j then 1 else S.ow i, S.le⟩
theorem Rd.ren (h : Rd A S v L) (k j : Nat) (hk : Nat.beq k 0 = false := by rfl) (hj : Nat.beq j 0 = false := by rfl) : Rd A (S.ren k j) v L := by
  have hk : k ≠ 0 := fun e => by subst e; cases hk
  have hj : j ≠ 0 := fun e => by subst e; cases hj
  have : ∀ i, S.fz i → (S.ren k j).fz i ∧ (S.ren k j).m.get i = S.m.get i := fun i ⟨h1, h2⟩ => ⟨⟨h1, by simp only [Cx.ren]; rw [if_neg (by omega), if_neg (by omega)]; exact h2⟩, rfl⟩
  exact RO.to h this this
theorem fz_ren (k j : Nat) (hk : k ≠ 0) (hj : j ≠ 0) : ∀ i, S.fz i → (S.ren k j).fz i ∧ (S.ren k j).m.get i = S.m.get i := fun i ⟨h1, h2⟩ => ⟨⟨h1, by simp only [Cx.ren]; rw [if_neg (by omega), if_neg (by omega)]; exact h2⟩, rfl⟩
theorem Ow.ren (h : Ow A S k v L) (j : Nat) (hk : Nat.beq k 0 = false := by rfl) (hj : Nat.beq j 0 = false := by rfl) : Ow A (S.ren k j) j v L := by
  have hk : k ≠ 0 := fun e => by subst e; cases hk
  have hj : j ≠ 0 := fun e => by subst e; cases hj
  rcases h with h | ⟨b, c', cs, h1, h2, h3, h4, h5, h6, h7, h8⟩
  · exact .inl h
  · exact .inr ⟨b, c', cs, h1, h2, h3, by simp only [Cx.ren]; rw [if_pos h4], h5, h6, h7, h8.frame (fz_ren k j hk hj)⟩
theorem Ow.renO {i : Nat} (h : Ow A S i v L) (k j : Nat) (hk : Nat.beq k 0 = false := by rfl) (hj : Nat.beq j 0 = false := by rfl) (hik : Nat.beq i k = false := by rfl) (hij : Nat.beq i j = false := by rfl) : Ow A (S.ren k j) i v L := by
  have hk : k ≠ 0 := fun e => by subst e; cases hk
  have hj : j ≠ 0 := fun e => by subst e; cases hj
  have hik : i ≠ k := fun e => by subst e; rw [show Nat.beq i i = true by simp] at hik; cases hik
  have hij : i ≠ j := fun e => by subst e; rw [show Nat.beq i i = true by simp] at hij; cases hij
  rcases h with h | ⟨b, c', cs, h1, h2, h3, h4, h5, h6, h7, h8⟩
  · exact .inl h
  · exact .inr ⟨b, c', cs, h1, h2, h3, by simp only [Cx.ren]; rw [if_neg (by omega), if_neg (by omega)]; exact h4, h5, h6, h7, h8.frame (fz_ren k j hk hj)⟩
theorem Bk.renO {a : α} {i : Nat} (h : Bk A S i v a) (k j : Nat) (hk : Nat.beq k 0 = false := by rfl) (hj : Nat.beq j 0 = false := by rfl) (hik : Nat.beq i k = false := by rfl) (hij : Nat.beq i j = false := by rfl) : Bk A (S.ren k j) i v a := by
  have hk : k ≠ 0 := fun e => by subst e; cases hk
  have hj : j ≠ 0 := fun e => by subst e; cases hj
  have hik : i ≠ k := fun e => by subst e; rw [show Nat.beq i i = true by simp] at hik; cases hik
  have hij : i ≠ j := fun e => by subst e; rw [show Nat.beq i i = true by simp] at hij; cases hij
  obtain ⟨b, cs, h1, h2, h3, h4, h6, h8⟩ := h
  exact ⟨b, cs, h1, h2, h3, by simp only [Cx.ren]; rw [if_neg (by omega), if_neg (by omega)]; exact h4, h6, A.frame h8 (fz_ren k j hk hj)⟩
end cx

/-- Data that refer to nothing. -/
def Lay.Fl {α : Type} (A : Lay α) : Prop := ∀ z z' m m' a cs, A.R z m a cs → A.R z' m' a cs
theorem Lay.flat_fl {α : Type} {sz : Nat} {f : α → List SV} {hf : ∀ a, (f a).length = sz} : (Lay.flat sz f hf).Fl := fun _ _ _ _ _ _ h => h
theorem RL.fl {α : Type} {A : Lay α} (hA : A.Fl) {z z' : Nat → Prop} {m m' : Mem} : ∀ {L : List α} {cs : List SV}, RL A z m L cs → RL A z' m' L cs
  | [], _, h => h
  | _ :: _, _, ⟨c, r, e, h1, h2⟩ => ⟨c, r, e, hA _ _ _ _ _ _ h1, RL.fl hA h2⟩

/-- A NEW SLICE, as a call gives it. -/
def Fr {α : Type} (A : Lay α) (n : Nat) (m' : Mem) (n' : Nat) (v : SV) (L : List α) : Prop :=
  (v = .nils ∧ L = []) ∨ ∃ b c cs, v = .sl b 0 L.length c A.sz ∧ n ≤ b ∧ b < n' ∧ L.length ≤ c ∧ m'.get b = some cs ∧ cs.length = c * A.sz ∧ RL A (fun _ => False) m' L (cs.take (L.length * A.sz))
theorem Fr.nil {α : Type} {A : Lay α} {n : Nat} {m' : Mem} {n' : Nat} : Fr A n m' n' .nils ([] : List α) := .inl ⟨rfl, rfl⟩
theorem Ow.fr {α : Type} {A : Lay α} {n : Nat} {S : Cx n} {k : Nat} {v : SV} {L : List α} (h : Ow A S k v L) (hA : A.Fl) : Fr A n S.m S.n v L := by
  rcases h with h | ⟨b, c', cs, h1, h2, h3, h4, h5, h6, h7, h8⟩
  · exact .inl h
  · exact .inr ⟨b, c', cs, h1, h2, h3, h5, h6, h7, h8.fl hA⟩

end Go.Am

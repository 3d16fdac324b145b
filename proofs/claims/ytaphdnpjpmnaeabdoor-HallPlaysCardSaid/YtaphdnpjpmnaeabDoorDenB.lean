/- Rules: What a generated functional text (Den) is made of, and walking with memory read as lists. Walking with memory read as lists: the rules. -/
import Derived.Test.YtaphdnpjpmnaeabDoorAmB
namespace Go.Am

/-! ### The words of the functional texts -/
/-- A loop's round: go on, or stop. -/
inductive Stp (σ β : Type) where
  | more (s : σ)
  | stop (b : β)

def iter {σ β : Type} (step : σ → Option (Stp σ β)) : Nat → σ → Option β
  | 0, _ => none
  | f + 1, s =>
    match step s with
    | none => none
    | some (.more s') => iter step f s'
    | some (.stop b) => some b

def at? {α : Type} (L : List α) (i : Int) : Option α := if 0 ≤ i then L[i.toNat]? else none
def ck {α : Type} (L : List α) (i : Int) : Option Unit := if 0 ≤ i ∧ i < L.length then some () else none
def set? {α : Type} (L : List α) (i : Int) (x : α) : Option (List α) := if 0 ≤ i ∧ i < L.length then some (L.set i.toNat x) else none
def app? {α : Type} (L L' : List α) : Option (List α) := if L.length + L'.length ≤ 549755813888 then some (L ++ L') else none
def mk? {α : Type} (n : Int) (z : α) : Option (List α) := if 0 ≤ n ∧ n ≤ 1099511627776 then some (List.replicate n.toNat z) else none
def sub? {α : Type} (L : List α) (lo hi : Int) : Option (List α) := if 0 ≤ lo ∧ lo ≤ hi ∧ hi ≤ L.length then some ((L.take hi.toNat).drop lo.toNat) else none
def quo? (k : IntKind) (a b : Int) : Option Int := if b = 0 then none else some (wrapA k (a.tdiv b))
def rem? (a b : Int) : Option Int := if b = 0 then none else some (a.tmod b)
def shl? (k : IntKind) (a b : Int) : Option Int := if b < 0 then none else some (wrapA k (a * 2 ^ (min b.toNat k.bits)))
def shr? (k : IntKind) (a b : Int) : Option Int := if b < 0 then none else some (a.fdiv (2 ^ (min b.toNat k.bits)))
def bit (op : BinOp) (k : IntKind) (a b : Int) : Int := (bits2 op k a b).getD 0
def maxI (a b : Int) : Int := if b > a then b else a
def minI (a b : Int) : Int := if b < a then b else a
def cat? (a b : List UInt8) : Option (List UInt8) := if a.length + b.length > 9223372036854775807 then none else some (a ++ b)

def bytes? (s : List UInt8) : Option (List Int) := if s.length ≤ 9223372036854775807 then some (s.map fun b => (b.toNat : Int)) else none
theorem andT {q b : Bool} (h : q = true) : AV.sc (.bool b) = .sc (.bool (q && b)) := by subst h; rfl
theorem andF {q b : Bool} (h : q = false) : AV.sc (.bool false) = .sc (.bool (q && b)) := by subst h; rfl
theorem orT {q b : Bool} (h : q = true) : AV.sc (.bool true) = .sc (.bool (q || b)) := by subst h; rfl
theorem orF {q b : Bool} (h : q = false) : AV.sc (.bool b) = .sc (.bool (q || b)) := by subst h; rfl
theorem at?_some {α : Type} {L : List α} {i : Int} {x : α} (h : at? L i = some x) : 0 ≤ i ∧ i < L.length ∧ L[i.toNat]? = some x := by
  unfold at? at h
  split at h
  · rename_i h0
    have := (List.getElem?_eq_some_iff.1 h).1
    exact ⟨h0, by omega, h⟩
  · cases h
theorem at?_lt {α : Type} {L : List α} {i : Int} {x : α} (h : at? L i = some x) : 0 ≤ i ∧ i < L.length := ⟨(at?_some h).1, (at?_some h).2.1⟩
theorem at?_nat {α : Type} {L : List α} {i : Int} {x : α} (h : at? L i = some x) : i.toNat < L.length := by have := at?_lt h; omega
theorem at?_get {α : Type} {L : List α} {i : Int} {x : α} (h : at? L i = some x) : L[i.toNat]? = some x := (at?_some h).2.2
theorem ck_some {α : Type} {L : List α} {i : Int} {u : Unit} (h : ck L i = some u) : 0 ≤ i ∧ i < L.length := by
  unfold ck at h
  split at h
  · assumption
  · cases h
theorem set?_some {α : Type} {L L' : List α} {i : Int} {x : α} (h : set? L i x = some L') : (0 ≤ i ∧ i < L.length) ∧ L' = L.set i.toNat x := by
  unfold set? at h
  split at h
  · cases h; exact ⟨by assumption, rfl⟩
  · cases h
theorem ck_nat {α : Type} {L : List α} {i : Int} {u : Unit} (h : ck L i = some u) : i.toNat < L.length := by have := ck_some h; omega
theorem set?_lt {α : Type} {L L' : List α} {i : Int} {x : α} (h : set? L i x = some L') : 0 ≤ i ∧ i < L.length := (set?_some h).1
theorem set?_nat {α : Type} {L L' : List α} {i : Int} {x : α} (h : set? L i x = some L') : i.toNat < L.length := by have := set?_lt h; omega
theorem set?_eq {α : Type} {L L' : List α} {i : Int} {x : α} (h : set? L i x = some L') : L' = L.set i.toNat x := (set?_some h).2
theorem app?_some {α : Type} {L L' M : List α} (h : app? L L' = some M) : L.length + L'.length ≤ 549755813888 ∧ M = L ++ L' := by
  unfold app? at h
  split at h
  · cases h; exact ⟨by assumption, rfl⟩
  · cases h
theorem app?_nil {α : Type} {L : List α} (h : L.length ≤ 549755813888) : app? [] L = some L := by unfold app?; rw [if_pos (by simpa using h)]; rfl
theorem mk?_some {α : Type} {n : Int} {z : α} {M : List α} (h : mk? n z = some M) : (0 ≤ n ∧ n ≤ 1099511627776) ∧ M = List.replicate n.toNat z := by
  unfold mk? at h
  split at h
  · cases h; exact ⟨by assumption, rfl⟩
  · cases h
theorem sub?_some {α : Type} {L M : List α} {lo hi : Int} (h : sub? L lo hi = some M) : (0 ≤ lo ∧ lo ≤ hi ∧ hi ≤ L.length) ∧ M = (L.take hi.toNat).drop lo.toNat := by
  unfold sub? at h
  split at h
  · cases h; exact ⟨by assumption, rfl⟩
  · cases h
theorem bindS {α β : Type} {o : Option α} {f : α → Option β} {r : β} (h : o.bind f = some r) : ∃ x, o = some x ∧ f x = some r := by
  cases o with
  | none => cases h
  | some x => exact ⟨x, rfl, h⟩
theorem iteT {α : Type} {q : Bool} {a b r : α} (hq : q = true) (h : (if q then a else b) = r) : a = r := by subst hq; exact h
theorem iteF {α : Type} {q : Bool} {a b r : α} (hq : q = false) (h : (if q then a else b) = r) : b = r := by subst hq; exact h
theorem someI {α : Type} {a b : α} (h : some a = some b) : a = b := by cases h; rfl

/-! ### How data lie in cells -/
structure Lay (α : Type) where
  sz : Nat
  R : (Nat → Prop) → Mem → α → List SV → Prop
  len : ∀ {z m a cs}, R z m a cs → cs.length = sz
  frame : ∀ {z z' : Nat → Prop} {m m' : Mem} {a cs}, R z m a cs → (∀ i, z i → z' i ∧ m'.get i = m.get i) → R z' m' a cs

/-- The cells are a function of the datum. -/
def Lay.flat {α : Type} (sz : Nat) (f : α → List SV) (hf : ∀ a, (f a).length = sz) : Lay α where
  sz := sz
  R _ _ a cs := cs = f a
  len h := by subst h; exact hf _
  frame h _ := h
/-- One cell. -/
abbrev Lay.one {α : Type} (g : α → SV) : Lay α := Lay.flat 1 (fun a => [g a]) fun _ => rfl

def RL {α : Type} (A : Lay α) (z : Nat → Prop) (m : Mem) : List α → List SV → Prop
  | [], cs => cs = []
  | a :: L, cs => ∃ c r, cs = c ++ r ∧ A.R z m a c ∧ RL A z m L r

section rl
variable {α : Type} {A : Lay α} {z z' : Nat → Prop} {m m' : Mem} {L L' : List α} {cs cs' : List SV}
theorem RL.length : ∀ {L : List α} {cs : List SV}, RL A z m L cs → cs.length = L.length * A.sz
  | [], cs, h => by rw [show cs = [] from h]; simp
  | a :: L, cs, h => by
    obtain ⟨c, r, rfl, h1, h2⟩ := h
    rw [List.length_append, A.len h1, RL.length h2, List.length_cons, Nat.add_mul, Nat.one_mul, Nat.add_comm]
theorem RL.frame : ∀ {L : List α} {cs : List SV}, RL A z m L cs → (∀ i, z i → z' i ∧ m'.get i = m.get i) → RL A z' m' L cs
  | [], _, h, _ => h
  | _ :: _, _, ⟨c, r, e, h1, h2⟩, k => ⟨c, r, e, A.frame h1 k, RL.frame h2 k⟩
theorem RL.get : ∀ {L : List α} {cs : List SV} (_ : RL A z m L cs) {j : Nat} {a : α}, L[j]? = some a → A.R z m a ((cs.drop (j * A.sz)).take A.sz)
  | [], _, _, j, a, h => by simp at h
  | x :: L, cs, ⟨c, r, e, h1, h2⟩, 0, a, h => by
    simp at h; subst h; subst e
    rw [Nat.zero_mul, List.drop_zero, List.take_append_of_le_length (by rw [A.len h1]; exact Nat.le_refl _), List.take_of_length_le (by rw [A.len h1]; exact Nat.le_refl _)]
    exact h1
  | x :: L, cs, ⟨c, r, e, h1, h2⟩, j + 1, a, h => by
    subst e
    have := RL.get h2 (j := j) (a := a) (by simpa using h)
    rwa [Nat.add_mul, Nat.one_mul, Nat.add_comm, ← List.drop_drop, List.drop_append_of_le_length (by rw [A.len h1]; exact Nat.le_refl _), List.drop_of_length_le (l := c) (by rw [A.len h1]; exact Nat.le_refl _), List.nil_append]
theorem RL.append : ∀ {L L' : List α} {cs cs' : List SV}, RL A z m L cs → RL A z m L' cs' → RL A z m (L ++ L') (cs ++ cs')
  | [], _, cs, _, h, h' => by rw [show cs = [] from h]; exact h'
  | _ :: _, _, _, _, ⟨c, r, e, h1, h2⟩, h' => ⟨c, r ++ _, by rw [e, List.append_assoc], h1, RL.append h2 h'⟩
theorem RL.take : ∀ (k : Nat) {L : List α} {cs : List SV}, RL A z m L cs → RL A z m (L.take k) (cs.take (k * A.sz))
  | 0, _, _, _ => by simp [RL]
  | k + 1, [], cs, h => by rw [show cs = [] from h]; simp [RL]
  | k + 1, x :: L, cs, ⟨c, r, e, h1, h2⟩ => by
    subst e
    refine ⟨c, r.take (k * A.sz), ?_, h1, RL.take k h2⟩
    rw [Nat.add_mul, Nat.one_mul, Nat.add_comm, List.take_append, A.len h1, List.take_of_length_le (l := c) (by rw [A.len h1]; omega), Nat.add_sub_cancel_left]
theorem RL.drop : ∀ (k : Nat) {L : List α} {cs : List SV}, RL A z m L cs → RL A z m (L.drop k) (cs.drop (k * A.sz))
  | 0, _, _, h => by simpa using h
  | k + 1, [], cs, h => by rw [show cs = [] from h]; simp [RL]
  | k + 1, x :: L, cs, ⟨c, r, e, h1, h2⟩ => by
    subst e
    have := RL.drop k h2
    have e1 : (k + 1) * A.sz = A.sz + k * A.sz := by rw [Nat.add_mul, Nat.one_mul, Nat.add_comm]
    rw [e1, List.drop_append, A.len h1, List.drop_of_length_le (l := c) (by rw [A.len h1]; omega), List.nil_append, Nat.add_sub_cancel_left]
    exact this
theorem RL.set : ∀ {L : List α} {cs : List SV} (_ : RL A z m L cs) {j : Nat} {a : α} {c : List SV}, j < L.length → A.R z m a c → RL A z m (L.set j a) (splice cs (j * A.sz) c)
  | [], _, _, j, _, _, h, _ => by simp at h
  | x :: L, cs, ⟨c, r, e, h1, h2⟩, 0, a, c', _, h' => by
    subst e
    refine ⟨c', r, ?_, h', h2⟩
    unfold splice
    rw [Nat.zero_mul, List.take_zero, List.nil_append, Nat.zero_add, A.len h', List.drop_append_of_le_length (by rw [A.len h1]; exact Nat.le_refl _), List.drop_of_length_le (l := c) (by rw [A.len h1]; exact Nat.le_refl _), List.nil_append]
  | x :: L, cs, ⟨c, r, e, h1, h2⟩, j + 1, a, c', hj, h' => by
    subst e
    refine ⟨c, splice r (j * A.sz) c', ?_, h1, RL.set h2 (by simpa using hj) h'⟩
    unfold splice
    have e1 : (j + 1) * A.sz = A.sz + j * A.sz := by rw [Nat.add_mul, Nat.one_mul, Nat.add_comm]
    have e2 : A.sz + j * A.sz + c'.length - A.sz = j * A.sz + c'.length := by omega
    rw [e1, List.take_append, A.len h1, List.take_of_length_le (l := c) (by rw [A.len h1]; omega), Nat.add_sub_cancel_left, List.drop_append, A.len h1, List.drop_of_length_le (l := c) (by rw [A.len h1]; omega), e2, List.nil_append, List.append_assoc, List.append_assoc, List.append_assoc]
theorem RL.replicate {a : α} {c : List SV} (h : A.R z m a c) : ∀ n, RL A z m (List.replicate n a) (List.replicate n c).flatten
  | 0 => by simp [RL]
  | n + 1 => by rw [List.replicate_succ, List.replicate_succ, List.flatten_cons]; exact ⟨c, _, rfl, h, RL.replicate h n⟩
theorem RL.one {a : α} {c : List SV} (h : A.R z m a c) : RL A z m [a] c := ⟨c, [], by simp, h, rfl⟩
theorem RL.flat1 {g : α → SV} : ∀ {L : List α} {cs : List SV}, RL (Lay.one g) z m L cs → cs = L.map g
  | [], _, h => h
  | a :: L, _, ⟨c, r, e, h1, h2⟩ => by rw [e, show c = [g a] from h1, RL.flat1 h2]; rfl
theorem RL.ofMap {g : α → SV} : ∀ (L : List α), RL (Lay.one g) z m L (L.map g)
  | [] => rfl
  | a :: L => ⟨[g a], L.map g, rfl, rfl, RL.ofMap L⟩
end rl

/-- A slice that is read: 'zo' of its block, 'zi' of what its elements refer to. -/
def RO {α : Type} (A : Lay α) (zo zi : Nat → Prop) (m : Mem) (v : SV) (L : List α) : Prop :=
  ((v = .nils ∨ v = .emp) ∧ L = []) ∨ ∃ i o c cs, v = .sl i o L.length c A.sz ∧ L.length ≤ c ∧ zo i ∧ m.get i = some cs ∧ o + L.length * A.sz ≤ cs.length ∧ RL A zi m L ((cs.drop o).take (L.length * A.sz))

/-- A slice as one cell. -/
def Lay.sl {α : Type} (A : Lay α) : Lay (List α) where
  sz := 1
  R z m L cs := ∃ v, cs = [v] ∧ RO A z z m v L
  len := by rintro z m a cs ⟨v, rfl, _⟩; rfl
  frame := by
    rintro z z' m m' a cs ⟨v, rfl, h⟩ k
    refine ⟨v, rfl, ?_⟩
    rcases h with h | ⟨i, o, c, cs, h1, h2, h3, h4, h5, h6⟩
    · exact .inl h
    · exact .inr ⟨i, o, c, cs, h1, h2, (k i h3).1, by rw [(k i h3).2]; exact h4, h5, h6.frame k⟩

/-! ### A state of memory, and whose each block is -/
structure Cx (fl : Nat) where
  m : Mem
  n : Nat
  ow : Nat → Nat     -- 0: nobody's, never written
  le : fl ≤ n
def Cx.fz {fl : Nat} (S : Cx fl) (i : Nat) : Prop := i < S.n ∧ S.ow i = 0
/-- From S to S' nothing turned but what is k's, and new blocks. -/
structure Ch {fl : Nat} (k : Nat) (S S' : Cx fl) : Prop where
  n : S.n ≤ S'.n
  ow : ∀ i, i < S.n → S.ow i ≠ k → S'.ow i = S.ow i ∧ S'.m.get i = S.m.get i

theorem Ch.refl {fl : Nat} (k : Nat) (S : Cx fl) : Ch k S S := ⟨Nat.le_refl _, fun _ _ _ => ⟨rfl, rfl⟩⟩
theorem Ch.trans {fl k : Nat} {S S' S'' : Cx fl} (h : Ch k S S') (h' : Ch k S' S'') : Ch k S S'' :=
  ⟨Nat.le_trans h.n h'.n, fun i hi hk => by
    obtain ⟨h1, h2⟩ := h.ow i hi hk
    obtain ⟨h3, h4⟩ := h'.ow i (Nat.lt_of_lt_of_le hi h.n) (by rw [h1]; exact hk)
    exact ⟨h3.trans h1, h4.trans h2⟩⟩

/-- A slice that is object k's: nil, or all of a block's beginning. -/
def Ow {α : Type} {fl : Nat} (A : Lay α) (S : Cx fl) (k : Nat) (v : SV) (L : List α) : Prop :=
  (v = .nils ∧ L = []) ∨ ∃ b c cs, v = .sl b 0 L.length c A.sz ∧ fl ≤ b ∧ b < S.n ∧ S.ow b = k ∧ L.length ≤ c ∧ S.m.get b = some cs ∧ cs.length = c * A.sz ∧ RL A S.fz S.m L (cs.take (L.length * A.sz))
/-- A block that is object k's: a struct, an array, a variable. -/
def Bk {α : Type} {fl : Nat} (A : Lay α) (S : Cx fl) (k : Nat) (v : SV) (a : α) : Prop :=
  ∃ b cs, v = .ptr b 0 ∧ fl ≤ b ∧ b < S.n ∧ S.ow b = k ∧ S.m.get b = some cs ∧ A.R S.fz S.m a cs
/-- A slice that nobody writes. -/
def Rd {α : Type} {fl : Nat} (A : Lay α) (S : Cx fl) (v : SV) (L : List α) : Prop := RO A S.fz S.fz S.m v L

/-- Of a slice's header what 'len' and indexing ask. -/
def SlV (v : SV) (sz len : Nat) : Prop := ((v = .nils ∨ v = .emp) ∧ len = 0) ∨ ∃ i o c, v = .sl i o len c sz ∧ len ≤ c

section cx
variable {α : Type} {A : Lay α} {fl k j : Nat} {S S' : Cx fl} {v : SV} {L : List α} {zo zi zo' zi' : Nat → Prop} {m m' : Mem}

theorem RO.slv (h : RO A zo zi m v L) : SlV v A.sz L.length := by
  rcases h with ⟨h1, rfl⟩ | ⟨i, o, c, cs, h1, h2, _⟩
  · exact .inl ⟨h1, rfl⟩
  · exact .inr ⟨i, o, c, h1, h2⟩
theorem Rd.slv (h : Rd A S v L) : SlV v A.sz L.length := RO.slv h
theorem Ow.slv (h : Ow A S k v L) : SlV v A.sz L.length := by
  rcases h with ⟨h1, rfl⟩ | ⟨b, c, cs, h1, _, _, _, h2, _⟩
  · exact .inl ⟨.inl h1, rfl⟩
  · exact .inr ⟨b, 0, c, h1, h2⟩

theorem fz_ch (h : Ch k S S') (hk : k ≠ 0) : ∀ i, S.fz i → S'.fz i ∧ S'.m.get i = S.m.get i := fun i ⟨h1, h2⟩ => by
  obtain ⟨h3, h4⟩ := h.ow i h1 (by omega)
  exact ⟨⟨Nat.lt_of_lt_of_le h1 h.n, by rw [h3]; exact h2⟩, h4⟩

theorem RO.to (h : RO A zo zi m v L) (ho : ∀ i, zo i → zo' i ∧ m'.get i = m.get i) (hi : ∀ i, zi i → zi' i ∧ m'.get i = m.get i) : RO A zo' zi' m' v L := by
  rcases h with h | ⟨i, o, c, cs, h1, h2, h3, h4, h5, h6⟩
  · exact .inl h
  · exact .inr ⟨i, o, c, cs, h1, h2, (ho i h3).1, by rw [(ho i h3).2]; exact h4, h5, h6.frame hi⟩
theorem Rd.to (h : Rd A S v L) (c : Ch k S S') (hk : Nat.beq k 0 = false := by rfl) : Rd A S' v L := by
  have hk : k ≠ 0 := fun e => by subst e; cases hk
  exact RO.to h (fz_ch c hk) (fz_ch c hk)
theorem Ow.to (h : Ow A S j v L) (c : Ch k S S') (hk : Nat.beq k 0 = false := by rfl) (hj : Nat.beq j k = false := by rfl) : Ow A S' j v L := by
  have hk : k ≠ 0 := fun e => by subst e; cases hk
  have hj : j ≠ k := fun e => by subst e; rw [show Nat.beq j j = true by simp] at hj; cases hj
  rcases h with h | ⟨b, c', cs, h1, h2, h3, h4, h5, h6, h7, h8⟩
  · exact .inl h
  · obtain ⟨h9, h10⟩ := c.ow b h3 (by omega)
    exact .inr ⟨b, c', cs, h1, h2, Nat.lt_of_lt_of_le h3 c.n, by omega, h5, by rw [h10]; exact h6, h7, h8.frame (fz_ch c hk)⟩
theorem Bk.to {a : α} (h : Bk A S j v a) (c : Ch k S S') (hk : Nat.beq k 0 = false := by rfl) (hj : Nat.beq j k = false := by rfl) : Bk A S' j v a := by
  have hk : k ≠ 0 := fun e => by subst e; cases hk
  have hj : j ≠ k := fun e => by subst e; rw [show Nat.beq j j = true by simp] at hj; cases hj
  obtain ⟨b, cs, h1, h2, h3, h4, h6, h8⟩ := h
  obtain ⟨h9, h10⟩ := c.ow b h3 (by omega)
  exact ⟨b, cs, h1, h2, Nat.lt_of_lt_of_le h3 c.n, by omega, by rw [h10]; exact h6, A.frame h8 (fz_ch c hk)⟩

/-- Whatever is in memory, as a callee reads it. -/
def Vw {α : Type} (A : Lay α) (n : Nat) (m : Mem) (v : SV) (L : List α) : Prop := RO A (fun i => i < n) (fun i => i < n) m v L
theorem Rd.vw (h : Rd A S v L) : Vw A S.n S.m v L := RO.to h (fun _ h => ⟨h.1, rfl⟩) (fun _ h => ⟨h.1, rfl⟩)
theorem Ow.ro (h : Ow A S k v L) : RO A (fun i => i < S.n) S.fz S.m v L := by
  rcases h with ⟨h1, h2⟩ | ⟨b, c, cs, h1, h2, h3, h4, h5, h6, h7, h8⟩
  · exact .inl ⟨.inl h1, h2⟩
  · exact .inr ⟨b, 0, c, cs, h1, h5, h3, h6, by rw [h7]; simpa using Nat.mul_le_mul_right _ h5, by simpa using h8⟩
theorem Rd.ro (h : Rd A S v L) : RO A (fun i => i < S.n) S.fz S.m v L := RO.to h (fun _ h => ⟨h.1, rfl⟩) (fun _ h => ⟨h, rfl⟩)
theorem Ow.vw (h : Ow A S k v L) : Vw A S.n S.m v L := RO.to h.ro (fun _ h => ⟨h, rfl⟩) (fun _ h => ⟨h.1, rfl⟩)
/-- A callee's view of its arguments. -/
theorem Vw.rd {n : Nat} (h : Vw A n m v L) : Rd A (⟨m, n, fun _ => 0, Nat.le_refl n⟩ : Cx n) v L := RO.to h (fun _ h => ⟨⟨h, rfl⟩, rfl⟩) (fun _ h => ⟨⟨h, rfl⟩, rfl⟩)
theorem Vw.rdS {n : Nat} {S : Cx n} (h : Vw A n m v L) (em : S.m = m) (hz : ∀ i, i < n → S.fz i) : Rd A S v L := by
  subst em
  exact RO.to h (fun i hi => ⟨hz i hi, rfl⟩) (fun i hi => ⟨hz i hi, rfl⟩)
theorem Vw.nil {n : Nat} : Vw A n m .nils ([] : List α) := .inl ⟨.inl rfl, rfl⟩
theorem Ow.nil : Ow A S k .nils ([] : List α) := .inl ⟨rfl, rfl⟩
theorem Rd.nil : Rd A S .nils ([] : List α) := .inl ⟨.inl rfl, rfl⟩

/-- The same, of blocks that were there at a time. -/
theorem Rd.oz (h : Rd A S v L) : RO A (fun i => i < S.n ∧ S.fz i) S.fz S.m v L := RO.to h (fun _ h => ⟨⟨h.1, h⟩, rfl⟩) (fun _ h => ⟨h, rfl⟩)
theorem RO.toz {n0 : Nat} (h : RO A (fun i => i < n0 ∧ S.fz i) S.fz S.m v L) (c : Ch k S S') (hk : Nat.beq k 0 = false := by rfl) : RO A (fun i => i < n0 ∧ S'.fz i) S'.fz S'.m v L := by
  have hk : k ≠ 0 := fun e => by subst e; cases hk
  exact RO.to h (fun i hi => ⟨⟨hi.1, (fz_ch c hk i hi.2).1⟩, (fz_ch c hk i hi.2).2⟩) (fz_ch c hk)
theorem Ow.oz (h : Ow A S j v L) : RO A (fun i => i < S.n ∧ i < S.n ∧ S.ow i = j) S.fz S.m v L := by
  rcases h with ⟨h1, h2⟩ | ⟨b, c, cs, h1, h2, h3, h4, h5, h6, h7, h8⟩
  · exact .inl ⟨.inl h1, h2⟩
  · exact .inr ⟨b, 0, c, cs, h1, h5, ⟨h3, h3, h4⟩, h6, by rw [h7]; simpa using Nat.mul_le_mul_right _ h5, by simpa using h8⟩
theorem RO.tow {n0 : Nat} (h : RO A (fun i => i < n0 ∧ i < S.n ∧ S.ow i = j) S.fz S.m v L) (c : Ch k S S') (hk : Nat.beq k 0 = false := by rfl) (hj : Nat.beq j k = false := by rfl) : RO A (fun i => i < n0 ∧ i < S'.n ∧ S'.ow i = j) S'.fz S'.m v L := by
  have hk : k ≠ 0 := fun e => by subst e; cases hk
  have hj : j ≠ k := fun e => by subst e; rw [show Nat.beq j j = true by simp] at hj; cases hj
  refine RO.to h (fun i hi => ?_) (fz_ch c hk)
  obtain ⟨h1, h2⟩ := c.ow i hi.2.1 (by omega)
  exact ⟨⟨hi.1, Nat.lt_of_lt_of_le hi.2.1 c.n, by rw [h1]; exact hi.2.2⟩, h2⟩

/-- What is k's is nobody's from now on. -/
def Cx.drop {fl : Nat} (S : Cx fl) (k : Nat) : Cx fl := ⟨S.m, S.n, fun i => if S.ow i = k then 0 else S.ow i, S.le⟩
theorem Rd.drop (h : Rd A S v L) (k : Nat) : Rd A (S.drop k) v L := by
  have : ∀ i, S.fz i → (S.drop k).fz i ∧ (S.drop k).m.get i = S.m.get i := fun i ⟨h1, h2⟩ => ⟨⟨h1, by simp only [Cx.drop]; split; rfl; exact h2⟩, rfl⟩
  exact RO.to h this this
theorem Ow.drop (h : Ow A S j v L) (k : Nat) (hj : Nat.beq j k = false := by rfl) : Ow A (S.drop k) j v L := by
  have hj : j ≠ k := fun e => by subst e; rw [show Nat.beq j j = true by simp] at hj; cases hj
  rcases h with h | ⟨b, c', cs, h1, h2, h3, h4, h5, h6, h7, h8⟩
  · exact .inl h
  · refine .inr ⟨b, c', cs, h1, h2, h3, by simp only [Cx.drop]; rw [if_neg (by omega)]; exact h4, h5, h6, h7, h8.frame fun i ⟨h1, h2⟩ => ⟨⟨h1, ?_⟩, rfl⟩⟩
    simp only [Cx.drop]; split; rfl; exact h2
theorem Bk.drop {a : α} (h : Bk A S j v a) (k : Nat) (hj : Nat.beq j k = false := by rfl) : Bk A (S.drop k) j v a := by
  have hj : j ≠ k := fun e => by subst e; rw [show Nat.beq j j = true by simp] at hj; cases hj
  obtain ⟨b, cs, h1, h2, h3, h4, h6, h8⟩ := h
  refine ⟨b, cs, h1, h2, h3, by simp only [Cx.drop]; rw [if_neg (by omega)]; exact h4, h6, A.frame h8 fun i ⟨h1, h2⟩ => ⟨⟨h1, ?_⟩, rfl⟩⟩
  simp only [Cx.drop]; split; rfl; exact h2
theorem Ow.freeze (h : Ow A S k v L) : Rd A (S.drop k) v L := by
  rcases h with ⟨h1, h2⟩ | ⟨b, c, cs, h1, h2, h3, h4, h5, h6, h7, h8⟩
  · exact .inl ⟨.inl h1, h2⟩
  · refine .inr ⟨b, 0, c, cs, h1, h5, ⟨h3, by simp only [Cx.drop]; rw [if_pos h4]⟩, h6, by rw [h7]; simpa using Nat.mul_le_mul_right _ h5, ?_⟩
    have h8 : RL A S.fz S.m L ((cs.drop 0).take (L.length * A.sz)) := by simpa using h8
    refine h8.frame fun i ⟨h1, h2⟩ => ⟨⟨h1, ?_⟩, rfl⟩
    simp only [Cx.drop]; split; rfl; exact h2

/-- What is k's is j's from now on; what was j's is waste (1). -/
def Cx.ren {fl : Nat} (S : Cx fl) (k j : Nat) : Cx fl := ⟨S.m, S.n, fun i => if S.ow i = k then j else if S.ow i = j then 1 else S.ow i, S.le⟩
theorem Rd.ren (h : Rd A S v L) (k j : Nat) (hk : Nat.beq k 0 = false := by rfl) (hj : Nat.beq j 0 = false := by rfl) : Rd A (S.ren k j) v L := by
  have hk : k ≠ 0 := fun e => by subst e; cases hk
  have hj : j ≠ 0 := fun e => by subst e; cases hj
  have : ∀ i, S.fz i → (S.ren k j).fz i ∧ (S.ren k j).m.get i = S.m.get i := fun i ⟨h1, h2⟩ => ⟨⟨h1, by simp only [Cx.ren]; rw [if_neg (by omega), if_neg (by omega)]; exact h2⟩, rfl⟩
  exact RO.to h this this
theorem fz_ren (k j : Nat) (hk : k ≠ 0) (hj : j ≠ 0) : ∀ i, S.fz i → (S.ren k j).fz i ∧ (S.ren k j).m.get i = S.m.get i := fun i ⟨h1, h2⟩ => ⟨⟨h1, by simp only [Cx.ren]; rw [if_neg (by omega), if_neg (by omega)]; exact h2⟩, rfl⟩
theorem Ow.ren (h : Ow A S k v L) (j : Nat) (hk : Nat.beq k 0 = false := by rfl) (hj : Nat.beq j 0 = false := by rfl) : Ow A (S.ren k j) j v L := by
  have hk : k ≠ 0 := fun e => by subst e; cases hk
  have hj : j ≠ 0 := fun e => by subst e; cases hj
  rcases h with h | ⟨b, c', cs, h1, h2, h3, h4, h5, h6, h7, h8⟩
  · exact .inl h
  · exact .inr ⟨b, c', cs, h1, h2, h3, by simp only [Cx.ren]; rw [if_pos h4], h5, h6, h7, h8.frame (fz_ren k j hk hj)⟩
theorem Ow.renO {i : Nat} (h : Ow A S i v L) (k j : Nat) (hk : Nat.beq k 0 = false := by rfl) (hj : Nat.beq j 0 = false := by rfl) (hik : Nat.beq i k = false := by rfl) (hij : Nat.beq i j = false := by rfl) : Ow A (S.ren k j) i v L := by
  have hk : k ≠ 0 := fun e => by subst e; cases hk
  have hj : j ≠ 0 := fun e => by subst e; cases hj
  have hik : i ≠ k := fun e => by subst e; rw [show Nat.beq i i = true by simp] at hik; cases hik
  have hij : i ≠ j := fun e => by subst e; rw [show Nat.beq i i = true by simp] at hij; cases hij
  rcases h with h | ⟨b, c', cs, h1, h2, h3, h4, h5, h6, h7, h8⟩
  · exact .inl h
  · exact .inr ⟨b, c', cs, h1, h2, h3, by simp only [Cx.ren]; rw [if_neg (by omega), if_neg (by omega)]; exact h4, h5, h6, h7, h8.frame (fz_ren k j hk hj)⟩
theorem Bk.renO {a : α} {i : Nat} (h : Bk A S i v a) (k j : Nat) (hk : Nat.beq k 0 = false := by rfl) (hj : Nat.beq j 0 = false := by rfl) (hik : Nat.beq i k = false := by rfl) (hij : Nat.beq i j = false := by rfl) : Bk A (S.ren k j) i v a := by
  have hk : k ≠ 0 := fun e => by subst e; cases hk
  have hj : j ≠ 0 := fun e => by subst e; cases hj
  have hik : i ≠ k := fun e => by subst e; rw [show Nat.beq i i = true by simp] at hik; cases hik
  have hij : i ≠ j := fun e => by subst e; rw [show Nat.beq i i = true by simp] at hij; cases hij
  obtain ⟨b, cs, h1, h2, h3, h4, h6, h8⟩ := h
  exact ⟨b, cs, h1, h2, h3, by simp only [Cx.ren]; rw [if_neg (by omega), if_neg (by omega)]; exact h4, h6, A.frame h8 (fz_ren k j hk hj)⟩
end cx

/-- Data that refer to nothing. -/
def Lay.Fl {α : Type} (A : Lay α) : Prop := ∀ z z' m m' a cs, A.R z m a cs → A.R z' m' a cs
theorem Lay.flat_fl {α : Type} {sz : Nat} {f : α → List SV} {hf : ∀ a, (f a).length = sz} : (Lay.flat sz f hf).Fl := fun _ _ _ _ _ _ h => h
theorem RL.fl {α : Type} {A : Lay α} (hA : A.Fl) {z z' : Nat → Prop} {m m' : Mem} : ∀ {L : List α} {cs : List SV}, RL A z m L cs → RL A z' m' L cs
  | [], _, h => h
  | _ :: _, _, ⟨c, r, e, h1, h2⟩ => ⟨c, r, e, hA _ _ _ _ _ _ h1, RL.fl hA h2⟩

/-- A NEW SLICE, as a call gives it. -/
def Fr {α : Type} (A : Lay α) (n : Nat) (m' : Mem) (n' : Nat) (v : SV) (L : List α) : Prop :=
  (v = .nils ∧ L = []) ∨ ∃ b c cs, v = .sl b 0 L.length c A.sz ∧ n ≤ b ∧ b < n' ∧ L.length ≤ c ∧ m'.get b = some cs ∧ cs.length = c * A.sz ∧ RL A (fun _ => False) m' L (cs.take (L.length * A.sz))
theorem Fr.nil {α : Type} {A : Lay α} {n : Nat} {m' : Mem} {n' : Nat} : Fr A n m' n' .nils ([] : List α) := .inl ⟨rfl, rfl⟩
theorem Ow.fr {α : Type} {A : Lay α} {n : Nat} {S : Cx n} {k : Nat} {v : SV} {L : List α} (h : Ow A S k v L) (hA : A.Fl) : Fr A n S.m S.n v L := by
  rcases h with h | ⟨b, c', cs, h1, h2, h3, h4, h5, h6, h7, h8⟩
  · exact .inl h
  · exact .inr ⟨b, c', cs, h1, h2, h3, h5, h6, h7, h8.fl hA⟩

end Go.Am

namespace Go.Am

/-- An address within a slice (or a block). -/
def ptrAt : SV → Nat → Nat → SV
  | .sl b o _ _ es, j, q => .ptr b (o + j * es + q)
  | .ptr b o, _, q => .ptr b (o + q)
  | _, _, _ => .undef

def slTs (E : Env) (t sz : Nat) : Bool := match E.ty t with
  | some y => y.kind == 4 && (match E.ty y.elem with
    | some e => e.size == sz && e.zero.length == sz && sz != 0 && decide (e.bytes ≤ 256)
    | none => false)
  | none => false
theorem slTs_ok {E : Env} {t sz : Nat} (h : slTs E t sz = true) : ∃ y e, E.ty t = some y ∧ y.kind = 4 ∧ E.ty y.elem = some e ∧ e.size = sz ∧ e.zero.length = sz ∧ sz ≠ 0 ∧ e.bytes ≤ 256 := by
  unfold slTs at h
  split at h
  · rename_i y hy
    simp only [Bool.and_eq_true, beq_iff_eq] at h
    obtain ⟨h1, h2⟩ := h
    split at h2
    · rename_i e he
      simp only [Bool.and_eq_true, beq_iff_eq, decide_eq_true_eq, bne_iff_ne] at h2
      exact ⟨y, e, hy, h1, he, h2.1.1.1, h2.1.1.2, h2.1.2, h2.2⟩
    · cases h2
  · cases h
def slZ (E : Env) (t : Nat) : List SV := match E.ty t with
  | some y => (match E.ty y.elem with
    | some e => e.zero
    | none => [])
  | none => []
/-- A type of one cell. -/
def oneT (E : Env) (t : Nat) : Bool := match E.ty t with
  | some y => y.kind != 5 && y.kind != 6 && y.size == 1
  | none => false
theorem oneT_ok {E : Env} {t : Nat} (h : oneT E t = true) : ∃ y, E.ty t = some y ∧ y.kind ≠ 5 ∧ y.kind ≠ 6 ∧ y.size = 1 := by
  unfold oneT at h
  split at h
  · rename_i y hy
    simp only [Bool.and_eq_true, beq_iff_eq, bne_iff_ne] at h
    exact ⟨y, hy, h.1.1, h.1.2, h.2⟩
  · cases h
/-- A struct or an array of sz cells. -/
def aggT (E : Env) (t sz : Nat) : Bool := match E.ty t with
  | some y => (y.kind == 5 || y.kind == 6) && y.size == sz && y.zero.length == sz
  | none => false
theorem aggT_ok {E : Env} {t sz : Nat} (h : aggT E t sz = true) : ∃ y, E.ty t = some y ∧ (y.kind = 5 ∨ y.kind = 6) ∧ y.size = sz ∧ y.zero.length = sz := by
  unfold aggT at h
  split at h
  · rename_i y hy
    simp only [Bool.and_eq_true, beq_iff_eq, Bool.or_eq_true] at h
    exact ⟨y, hy, h.1.1, h.1.2, h.2⟩
  · cases h
def arTs (E : Env) (t k sz : Nat) : Bool := match E.ty t with
  | some y => y.kind == 5 && y.len == k && (match E.ty y.elem with
    | some e => e.size == sz
    | none => false)
  | none => false
theorem arTs_ok {E : Env} {t k sz : Nat} (h : arTs E t k sz = true) : ∃ y e, E.ty t = some y ∧ y.kind = 5 ∧ y.len = k ∧ E.ty y.elem = some e ∧ e.size = sz := by
  unfold arTs at h
  split at h
  · rename_i y hy
    simp only [Bool.and_eq_true, beq_iff_eq] at h
    obtain ⟨h1, h2⟩ := h
    split at h2
    · rename_i e he
      simp only [beq_iff_eq] at h2
      exact ⟨y, e, hy, h1.1, h1.2, he, h2⟩
    · cases h2
  · cases h

def limLe (lim : Option Nat) (n : Nat) : Bool := match lim with
  | some q => decide (n ≤ q)
  | none => true
theorem limLe_self (n : Nat) : limLe (some n) n = true := by simp [limLe]
theorem limOk_of {lim : Option Nat} {b n0 : Nat} (h : limLe lim n0 = true) (hb : b < n0) : limOk lim b = true := by
  cases lim with
  | none => rfl
  | some q => simp [limLe] at h; simp [limOk]; omega

theorem RO.cell {α : Type} {A : Lay α} {zo zi : Nat → Prop} {m : Mem} {v : SV} {L : List α} (h : RO A zo zi m v L) {j : Nat} {a : α} (ha : L[j]? = some a) :
    ∃ i o c cs p, v = .sl i o L.length c A.sz ∧ zo i ∧ m.get i = some cs ∧ A.R zi m a p ∧ p.length = A.sz ∧ o + j * A.sz + A.sz ≤ cs.length ∧ (cs.drop (o + j * A.sz)).take A.sz = p := by
  have hj := (List.getElem?_eq_some_iff.1 ha).1
  rcases h with ⟨_, rfl⟩ | ⟨i, o, c, cs, h1, h2, h3, h4, h5, h6⟩
  · simp at hj
  · have hR := h6.get ha
    have hle : j * A.sz + A.sz ≤ L.length * A.sz := by
      have : (j + 1) * A.sz ≤ L.length * A.sz := Nat.mul_le_mul_right _ hj
      rwa [Nat.add_mul, Nat.one_mul] at this
    refine ⟨i, o, c, cs, _, h1, h3, h4, hR, A.len hR, by omega, ?_⟩
    rw [List.drop_take, List.take_take, List.drop_drop, Nat.min_eq_left (by omega)]

theorem cell_at {cs p : List SV} {o q sz : Nat} {s : SV} (h : (cs.drop o).take sz = p) (hs : p[q]? = some s) : cs[o + q]? = some s := by
  subst h
  have hq := (List.getElem?_eq_some_iff.1 hs).1
  rw [List.length_take] at hq
  rw [List.getElem?_take_of_lt (by omega), List.getElem?_drop] at hs
  exact hs

section rules
variable {E : Env} {lo : List Nat} {fl : Nat} {loose : Nat → Bool} {lim : Option Nat} {ops : Array Oper} {os : List Oper}
variable {l : LE} {m : Mem} {n : Nat} {K : LE → Mem → Nat → Prop} {Q : AE → LE → Mem → Nat → Prop}
variable {d : Nat} {ty t t1 : TypeId} {pos : String} {af : Array Edge} {x y i : Operand} {v w : SV} {k k' : IntKind} {a b : Int}

/-! #### Code -/
theorem WC.drawP {id : Nat} (hd : dynId lo id = false) (hp : plainOps ops = true) (h : WO E (tgt lo id) fl (some n) ops ops.toList l m n (Q .normal)) (hg : gId lo id = false := by rfl) : WC E lo fl (.region id ops true) l m n Q := WC.draw hd h hg
theorem WC.drawN {id : Nat} (hd : dynId lo id = false) (hp : plainOps ops = false) (h : WO E (tgt lo id) fl (some n) ops ops.toList l m n (Q .normal)) (hg : gId lo id = false := by rfl) : WC E lo fl (.region id ops true) l m n Q := WC.draw hd h hg

theorem Cov.trans {a b c : LE} (h : Cov a b) (k : Cov b c) : Cov a c := fun d v hv => h d v (k d v hv)
theorem resK_cov {l l' : LE} (h : Cov l l') : ∀ {rs : List ResultVar} {vs : List AV}, resK E l' m rs = some vs → resK E l m rs = some vs
  | [], _, hv => hv
  | .tmp t :: rs, vs, hv => by
    simp only [resK] at hv ⊢
    split at hv
    · rename_i v ws h1 h2
      rw [h _ _ h1, resK_cov h h2]; exact hv
    · cases hv
  | .cell a t :: rs, vs, hv => by
    simp only [resK] at hv ⊢
    split at hv
    · rename_i v ws h1 h2
      rw [h _ _ h1, resK_cov h h2]; exact hv
    · cases hv
theorem WC.start {n : Nat} {c : Code} (h : ∀ S : Cx n, S.m = m → S.n = n → (∀ i, i < n → S.fz i) → WC E lo n c l S.m S.n Q) : WC E lo n c l m n Q :=
  h ⟨m, n, fun _ => 0, Nat.le_refl n⟩ rfl rfl fun _ hi => ⟨hi, rfl⟩

/-- A LOOP, read as 'iter'. -/
theorem WC.loopD {σ β : Type} {body : Code} {step : σ → Option (Stp σ β)} {F : Nat} {s : σ} {b : β} (h : iter step F s = some b) (I : σ → LE → Mem → Nat → Prop) (P : β → AE → LE → Mem → Nat → Prop) (h0 : I s l m n)
    (round : ∀ s q l m n, I s l m n → step s = some q → WC E lo fl body l m n (thenL (fun l' m' n' => ∃ s', q = .more s' ∧ I s' l' m' n') (fun e l' m' n' => ∃ b', q = .stop b' ∧ P b' e l' m' n')))
    (fin : ∀ e l m n, P b e l m n → Q e l m n) : WC E lo fl (.loop body) l m n Q := by
  constructor
  intro t ht
  refine Runs.loop (fun (i : Nat × σ) st => ∃ l, Sees st.t l ∧ I i.2 l st.m st.n ∧ iter step i.1 i.2 = some b) (fun i => i.1) ?_ (F, s) ⟨t, m, n⟩ ⟨l, ht, h0, h⟩
  rintro ⟨f, s1⟩ ⟨t1, m1, n1⟩ ⟨l1, h1, h2, h3⟩
  cases f with
  | zero => cases h3
  | succ f =>
    simp only [iter] at h3
    split at h3
    · cases h3
    · rename_i s2 hq
      refine ((round s1 _ l1 m1 n1 h2 hq).ok t1 h1).mono ?_
      rintro e st ⟨l2, h4, h5⟩
      cases e with
      | normal =>
        obtain ⟨s3, e3, h6⟩ := h5
        cases e3
        exact ⟨(f, s2), ⟨l2, h4, h6, h3⟩, Nat.lt_succ_self f⟩
      | exit id => obtain ⟨b', e3, _⟩ := h5; cases e3
      | ret => obtain ⟨b', e3, _⟩ := h5; cases e3
    · rename_i b2 hq
      cases h3
      refine ((round s1 _ l1 m1 n1 h2 hq).ok t1 h1).mono ?_
      rintro e st ⟨l2, h4, h5⟩
      cases e with
      | normal => obtain ⟨s3, e3, _⟩ := h5; cases e3
      | exit id => obtain ⟨b', e3, h6⟩ := h5; cases e3; exact ⟨l2, h4, fin _ _ _ _ h6⟩
      | ret => obtain ⟨b', e3, h6⟩ := h5; cases e3; exact ⟨l2, h4, fin _ _ _ _ h6⟩

/-! #### Parts of a region -/
theorem Ops.app {loose : Nat → Bool} {lim : Option Nat} {ops : Array Oper} {o1 o2 : List Oper} {s : St} {Q' : St → Prop} (h : Ops E loose fl lim ops o1 s (fun s' => Ops E loose fl lim ops o2 s' Q')) : Ops E loose fl lim ops (o1 ++ o2) s Q' := by
  obtain ⟨k1, s1, h1, k2, s2, h2, h3⟩ := h
  refine ⟨k1 + k2, s2, ?_, h3⟩
  have e1 : opsA E (callD (callF E (k1 + k2)) loose) fl lim ops o1 s = some s1 := opsA_le (callD_le (callLe_more k1 k2) _) _ _ _ h1
  have e2 : opsA E (callD (callF E (k1 + k2)) loose) fl lim ops o2 s1 = some s2 := by rw [Nat.add_comm]; exact opsA_le (callD_le (callLe_more k2 k1) _) _ _ _ h2
  clear h1 h2
  generalize callD (callF E (k1 + k2)) loose = call at e1 e2
  revert s
  induction o1 with
  | nil => intro s e1; simp only [opsA] at e1; cases e1; exact e2
  | cons o r ih =>
    intro s e1
    simp only [opsA, List.cons_append] at e1 ⊢
    split at e1
    · rename_i s' e; exact ih e1
    · cases e1

theorem WO.cut (j : Nat) (J : LE → Mem → Nat → Prop) (h : WO E loose fl lim ops (os.take j) l m n J) (h' : ∀ l' m' n', J l' m' n' → WO E loose fl lim ops (os.drop j) l' m' n' K) : WO E loose fl lim ops os l m n K := by
  constructor
  intro tt ht
  have h1 := h.ok tt ht
  have : WOps E loose fl lim ops (os.take j ++ os.drop j) ⟨tt, m, n⟩ fun s => ∃ l', Sees s.t l' ∧ K l' s.m s.n := by
    refine Ops.app ?_
    obtain ⟨k1, s', h2, l', h3, h4⟩ := h1
    exact ⟨k1, s', h2, (h' l' s'.m s'.n h4).ok s'.t h3⟩
  rwa [List.take_append_drop] at this

theorem Cov.skip {l l' : LE} {d : Nat} {v : AV} (h : lk l' d = none) (c : Cov l l') : Cov ((d, v) :: l) l' := by
  intro j w hj
  simp only [lk]
  by_cases e : d = j
  · subst e; rw [h] at hj; cases hj
  · rw [show Nat.beq d j = false from beq_ne e]; exact c _ _ hj

/-- A truth value parts the ways. -/
theorem WO.sp {q : Bool} (h : q = true → WO E loose fl lim ops os ((d, .sc (.bool true)) :: l) m n K) (h' : q = false → WO E loose fl lim ops os ((d, .sc (.bool false)) :: l) m n K) : WO E loose fl lim ops os ((d, .sc (.bool q)) :: l) m n K := by
  cases q with
  | true => exact h rfl
  | false => exact h' rfl
theorem WO.pickB {c x y : Operand} {q : Bool} {r : AV} (hc : evK l c = some (.sc (.bool q))) {u u' : AV} (hx : evK l x = some u) (hy : evK l y = some u') (hr : (if q then u else u') = r) (h : WO E loose fl lim ops os ((d, r) :: l) m n K) :
    WO E loose fl lim ops (⟨some d, .pick c x y, ty, pos, af, none⟩ :: os) l m n K := by
  subst hr
  cases q with
  | true => exact WO.pickT hc hx h
  | false => exact WO.pickF hc hy h

/-! #### Numbers -/
theorem WO.quoD {t0 ty2 : TypeId} {e : Int} (hx : evK l x = some (.sc (.int k a))) (hy : evK l y = some (.sc (.int k b))) (hr : quo? k a b = some e) (h : WO E loose fl lim ops os ((d, .sc (.int k e)) :: l) m n K) :
    WO E loose fl lim ops (⟨some d, .binOp .quo t0 x y ty2, ty, pos, af, none⟩ :: os) l m n K := by
  refine WO.bin hx hy (by decide) (by decide) ?_ h
  unfold quo? at hr
  simp only [intOp]
  split at hr
  · cases hr
  · rename_i h0; cases hr; rw [if_neg h0]
theorem WO.remD {t0 ty2 : TypeId} {e : Int} (hx : evK l x = some (.sc (.int k a))) (hy : evK l y = some (.sc (.int k b))) (hr : rem? a b = some e) (h : WO E loose fl lim ops os ((d, .sc (.int k e)) :: l) m n K) :
    WO E loose fl lim ops (⟨some d, .binOp .rem t0 x y ty2, ty, pos, af, none⟩ :: os) l m n K := by
  refine WO.bin hx hy (by decide) (by decide) ?_ h
  unfold rem? at hr
  simp only [intOp]
  split at hr
  · cases hr
  · rename_i h0; cases hr; rw [if_neg h0]
theorem WO.shlD {t0 ty2 : TypeId} {e : Int} (hx : evK l x = some (.sc (.int k a))) (hy : evK l y = some (.sc (.int k' b))) (hr : shl? k a b = some e) (h : WO E loose fl lim ops os ((d, .sc (.int k e)) :: l) m n K) :
    WO E loose fl lim ops (⟨some d, .binOp .shl t0 x y ty2, ty, pos, af, none⟩ :: os) l m n K := by
  unfold shl? at hr
  split at hr
  · cases hr
  · cases hr; exact WO.shl hx hy (by omega) h
theorem WO.shrD {t0 ty2 : TypeId} {e : Int} (hx : evK l x = some (.sc (.int k a))) (hy : evK l y = some (.sc (.int k' b))) (hr : shr? k a b = some e) (h : WO E loose fl lim ops os ((d, .sc (.int k e)) :: l) m n K) :
    WO E loose fl lim ops (⟨some d, .binOp .shr t0 x y ty2, ty, pos, af, none⟩ :: os) l m n K := by
  unfold shr? at hr
  split at hr
  · cases hr
  · cases hr; exact WO.shr hx hy (by omega) h
theorem WO.bits {o : BinOp} {t0 ty2 : TypeId} (hx : evK l x = some (.sc (.int k a))) (hy : evK l y = some (.sc (.int k b))) (ho : (bits2 o k a b).isSome = true) (h1 : o ≠ .shl) (h2 : o ≠ .shr) (h3 : intOp o k a b = (bits2 o k a b).map (.int k)) (h : WO E loose fl lim ops os ((d, .sc (.int k (bit o k a b))) :: l) m n K) :
    WO E loose fl lim ops (⟨some d, .binOp o t0 x y ty2, ty, pos, af, none⟩ :: os) l m n K := by
  refine WO.bin hx hy h1 h2 ?_ h
  obtain ⟨r, hr⟩ := Option.isSome_iff_exists.1 ho
  rw [h3, bit, hr]; rfl

theorem WO.maxD {ats : Array TypeId} (hx : evK l x = some (.sc (.int k a))) (hy : evK l y = some (.sc (.int k' b))) (h : WO E loose fl lim ops os ((d, .sc (.int k (maxI a b))) :: l) m n K) :
    WO E loose fl lim ops (⟨some d, .call ⟨.builtin .max, #[x, y], ats⟩, ty, pos, af, none⟩ :: os) l m n K := ⟨fun tt ht =>
  W_op2 (by simp only [opA, callA, builtinA, List.map_cons, List.map_nil, evK_ev ht hx, evK_ev ht hy, foldMax, max2, if_true, Option.map_some, maxI]) (h.put ht)⟩
theorem WO.minD {ats : Array TypeId} (hx : evK l x = some (.sc (.int k a))) (hy : evK l y = some (.sc (.int k' b))) (h : WO E loose fl lim ops os ((d, .sc (.int k (minI a b))) :: l) m n K) :
    WO E loose fl lim ops (⟨some d, .call ⟨.builtin .min, #[x, y], ats⟩, ty, pos, af, none⟩ :: os) l m n K := ⟨fun tt ht =>
  W_op2 (by simp only [opA, callA, builtinA, List.map_cons, List.map_nil, evK_ev ht hx, evK_ev ht hy, foldMax, max2, Bool.false_eq_true, if_false, Option.map_some, minI]) (h.put ht)⟩

/-! #### Slices -/
theorem WO.lenS {sz len : Nat} (hx : evK l x = some (.sc v)) (hs : SlV v sz len) (hT : slTs E t sz = true) (h : WO E loose fl lim ops os ((d, .sc (.int .i64 (len : Int))) :: l) m n K) :
    WO E loose fl lim ops (⟨some d, .call ⟨.builtin .len, #[x], #[t]⟩, ty, pos, af, none⟩ :: os) l m n K := ⟨fun tt ht => by
  obtain ⟨y, e, h1, h2, _⟩ := slTs_ok hT
  refine W_op2 ?_ (h.put ht)
  rcases hs with ⟨h3 | h3, rfl⟩ | ⟨i, o, c, rfl, _⟩
  · subst h3; simp [opA, callA, builtinA, evK_ev ht hx, lenA, h1, h2]
  · subst h3; simp [opA, callA, builtinA, evK_ev ht hx, lenA, h1, h2]
  · simp [opA, callA, builtinA, evK_ev ht hx, lenA, h1, h2]⟩
theorem WO.lenT {s : List UInt8} {yt : Ty} (hx : evK l x = some (.sc (.str s))) (hT : E.ty t = some yt) (hk : yt.kind = 3) (h : WO E loose fl lim ops os ((d, .sc (.int .i64 (s.length : Int))) :: l) m n K) :
    WO E loose fl lim ops (⟨some d, .call ⟨.builtin .len, #[x], #[t]⟩, ty, pos, af, none⟩ :: os) l m n K := ⟨fun tt ht =>
  W_op2 (by simp [opA, callA, builtinA, evK_ev ht hx, lenA, hT, hk]) (h.put ht)⟩

theorem WO.ixS {sz len : Nat} (hx : evK l x = some (.sc v)) (hi : evK l i = some (.sc (.int k a))) (hs : SlV v sz len) (ha : 0 ≤ a ∧ a < len) (hT : slTs E t sz = true) (h : WO E loose fl lim ops os ((d, .sc (ptrAt v a.toNat 0)) :: l) m n K) :
    WO E loose fl lim ops (⟨some d, .indexAddr t x i, ty, pos, af, none⟩ :: os) l m n K := ⟨fun tt ht => by
  obtain ⟨y, e, h1, h2, h3, h4, _⟩ := slTs_ok hT
  refine W_op2 ?_ (h.put ht)
  rcases hs with ⟨_, rfl⟩ | ⟨b, o, c, rfl, _⟩
  · omega
  simp only [opA, evK_ev ht hx, evK_ev ht hi, indexAddrA, h1, h2, h3, h4, Option.map_some]
  simp [ha, ptrAt]⟩
/-- An element of an array in a block. -/
theorem WO.ixB {len sz : Nat} (hx : evK l x = some (.sc v)) (hv : ∃ b0, v = .ptr b0 0) (hi : evK l i = some (.sc (.int k a))) (ha : 0 ≤ a ∧ a < (len : Int)) (hT : arTs E t len sz = true) (h : WO E loose fl lim ops os ((d, .sc (ptrAt v 0 (a.toNat * sz))) :: l) m n K) :
    WO E loose fl lim ops (⟨some d, .indexAddr t x i, ty, pos, af, none⟩ :: os) l m n K := ⟨fun tt ht => by
  obtain ⟨y, e, h1, h2, h3, h4, h5⟩ := arTs_ok hT
  refine W_op2 ?_ (h.put ht)
  obtain ⟨b0, rfl⟩ := hv
  simp only [opA, evK_ev ht hx, evK_ev ht hi, indexAddrA, h1, h2, h3, h4, h5]
  simp [ha, ptrAt]⟩
theorem WO.fldS {j q f off ft s : Nat} {yt : Ty} {p : SV} (hx : evK l x = some (.sc p)) (hp : p = ptrAt v j q) (hv : ∃ b o, ptrAt v j 0 = .ptr b o) (hT : E.ty t = some yt) (hk : yt.kind = 6) (hf : yt.fields[f]? = some (off, ft, s)) (hs : s ≠ 0) (h : WO E loose fl lim ops os ((d, .sc (ptrAt v j (q + off))) :: l) m n K) :
    WO E loose fl lim ops (⟨some d, .fieldAddr t x f, ty, pos, af, none⟩ :: os) l m n K := ⟨fun tt ht => by
  subst hp
  refine W_op2 ?_ (h.put ht)
  obtain ⟨b, o, hv⟩ := hv
  cases v with
  | sl i o n c es =>
    simp only [ptrAt] at hx ⊢
    simp [opA, evK_ev ht hx, hT, hk, hf, hs, Nat.add_assoc]
  | ptr i o =>
    simp only [ptrAt] at hx ⊢
    simp [opA, evK_ev ht hx, hT, hk, hf, hs, Nat.add_assoc]
  | _ => simp [ptrAt] at hv⟩

section sl
variable {α : Type} {A : Lay α} {S : Cx fl} {L L' M : List α} {j q : Nat} {u : α} {s : SV} {id : Nat}

theorem SlV.ptr {sz len : Nat} (hs : SlV v sz len) {j : Nat} (hj : j < len) : ∃ b o, ptrAt v j 0 = .ptr b o := by
  rcases hs with ⟨_, rfl⟩ | ⟨b, o, c, rfl, _⟩
  · omega
  · exact ⟨_, _, rfl⟩

theorem WO.ldF {sz : Nat} {f : α → List SV} {hf : ∀ a, (f a).length = sz} {zo zi : Nat → Prop} {n0 : Nat} (hx : evK l x = some (.sc (ptrAt v j q))) (hs : RO (Lay.flat sz f hf) zo zi m v L) (hz : ∀ i, zo i → i < n0) (hu : L[j]? = some u) (hc : (f u)[q]? = some s) (hT : oneT E t = true) (hl : limLe lim n0 = true)
    (h : WO E loose fl lim ops os ((d, .sc s) :: l) m n K) : WO E loose fl lim ops (⟨some d, .load t x, ty, pos, af, none⟩ :: os) l m n K := ⟨fun tt ht => by
  obtain ⟨y, h1, h2, h3, _⟩ := oneT_ok hT
  refine W_op2 ?_ (h.put ht)
  obtain ⟨b, o, c, cs, p, rfl, h4, h5, h6, _, _, h7⟩ := hs.cell hu
  have h6 : p = f u := h6
  subst h6
  have hcell := cell_at h7 hc
  simp only [Lay.flat] at hcell
  simp only [opA, evK_ev ht hx, ptrAt, loadA, limOk_of hl (hz _ h4), if_true, h5, part, h1, h2, h3, or_self, if_false, Lay.flat, hcell, Option.map_some]⟩
theorem WO.ldA {sz : Nat} {f : α → List SV} {hf : ∀ a, (f a).length = sz} {zo zi : Nat → Prop} {n0 : Nat} (hx : evK l x = some (.sc (ptrAt v j 0))) (hs : RO (Lay.flat sz f hf) zo zi m v L) (hz : ∀ i, zo i → i < n0) (hu : L[j]? = some u) (hT : aggT E t sz = true) (hl : limLe lim n0 = true)
    (h : WO E loose fl lim ops os ((d, .agg (f u)) :: l) m n K) : WO E loose fl lim ops (⟨some d, .load t x, ty, pos, af, none⟩ :: os) l m n K := ⟨fun tt ht => by
  obtain ⟨y, h1, h2, h3, _⟩ := aggT_ok hT
  refine W_op2 ?_ (h.put ht)
  obtain ⟨b, o, c, cs, p, rfl, h4, h5, h6, _, h8, h7⟩ := hs.cell hu
  have h6 : p = f u := h6
  subst h6
  have h8 : o + j * sz + sz ≤ cs.length := h8
  have h7 : (cs.drop (o + j * sz)).take sz = f u := h7
  simp only [opA, evK_ev ht hx, ptrAt, loadA, limOk_of hl (hz _ h4), if_true, h5, part, h1, h2, h3, Lay.flat, Nat.add_zero, h8, h7, Option.map_some]⟩
theorem WO.ldS {α : Type} {A : Lay α} {LL : List (List α)} {L : List α} {zo zi : Nat → Prop} {n0 : Nat} (hx : evK l x = some (.sc (ptrAt v j 0))) (hs : RO (Lay.sl A) zo zi m v LL) (hz : ∀ i, zo i → i < n0) (hu : LL[j]? = some L) (hT : oneT E t = true) (hl : limLe lim n0 = true)
    (h : ∀ w, RO A zi zi m w L → WO E loose fl lim ops os ((d, .sc w) :: l) m n K) : WO E loose fl lim ops (⟨some d, .load t x, ty, pos, af, none⟩ :: os) l m n K := ⟨fun tt ht => by
  obtain ⟨y, h1, h2, h3, _⟩ := oneT_ok hT
  obtain ⟨b, o, c, cs, p, rfl, h4, h5, ⟨w, rfl, hw⟩, _, _, h7⟩ := hs.cell hu
  refine W_op2 ?_ ((h w hw).put ht)
  have hcell := cell_at (q := 0) h7 rfl
  simp only [Lay.sl, Nat.add_zero] at hcell
  simp only [opA, evK_ev ht hx, ptrAt, loadA, limOk_of hl (hz _ h4), if_true, h5, part, h1, h2, h3, or_self, if_false, Lay.sl, Nat.add_zero, hcell, Option.map_some]⟩

/-- Turning an element of an own slice. -/
theorem Ow.put {id : Nat} (h : Ow A S id v L) {j : Nat} {c : List SV} (hj : j < L.length) (hc : A.R S.fz S.m u c) (hid : id ≠ 0) :
    ∃ b cap cs, v = .sl b 0 L.length cap A.sz ∧ fl ≤ b ∧ S.m.get b = some cs ∧ j * A.sz + c.length ≤ cs.length ∧ ∃ S' : Cx fl, S'.m = S.m.set b (splice cs (j * A.sz) c) ∧ S'.n = S.n ∧ Ch id S S' ∧ Ow A S' id v (L.set j u) := by
  rcases h with ⟨_, rfl⟩ | ⟨b, cap, cs, h1, h2, h3, h4, h5, h6, h7, h8⟩
  · simp at hj
  · have hcl := A.len hc
    have hle : j * A.sz + A.sz ≤ L.length * A.sz := by
      have : (j + 1) * A.sz ≤ L.length * A.sz := Nat.mul_le_mul_right _ hj
      rwa [Nat.add_mul, Nat.one_mul] at this
    have hle2 : L.length * A.sz ≤ cap * A.sz := Nat.mul_le_mul_right _ h5
    have hch : Ch id S (⟨S.m.set b (splice cs (j * A.sz) c), S.n, S.ow, S.le⟩ : Cx fl) := ⟨Nat.le_refl _, fun i hi hk => ⟨rfl, Tr.get_set_ne _ _ (fun e => hk (by rw [e]; exact h4))⟩⟩
    refine ⟨b, cap, cs, h1, h2, h6, by omega, ⟨S.m.set b (splice cs (j * A.sz) c), S.n, S.ow, S.le⟩, rfl, rfl, hch, ?_⟩
    refine .inr ⟨b, cap, _, by rw [List.length_set]; exact h1, h2, h3, h4, by rw [List.length_set]; exact h5, Tr.get_set_same _ _ _, ?_, ?_⟩
    · simp only [splice, List.length_append, List.length_take, List.length_drop]; omega
    · have := (h8.set hj hc).frame (fz_ch hch hid)
      rw [List.length_set]
      have e : (splice cs (j * A.sz) c).take (L.length * A.sz) = splice (cs.take (L.length * A.sz)) (j * A.sz) c := by
        simp only [splice, List.append_assoc]
        rw [List.take_append, List.take_append, List.take_take, List.take_take, List.length_take, Nat.min_eq_left (by omega : j * A.sz ≤ cs.length), List.drop_take, Nat.min_eq_right (by omega), Nat.min_eq_left (by omega), List.take_of_length_le (l := c) (by omega)]
        congr 3; omega
      rw [e]; exact this

theorem WO.stF {sz : Nat} {f : α → List SV} {hf : ∀ a, (f a).length = sz} (hx : evK l x = some (.sc (ptrAt v j q))) (hy : evK l y = some (.sc s)) (hs : Ow (Lay.flat sz f hf) S id v L) (hu : L[j]? = some u) {u' : α} (hu' : (f u).set q s = f u') (hq : q < sz) (hT : oneT E t = true) (hid : Nat.beq id 0 = false)
    (h : ∀ S', Ch id S S' → Ow (Lay.flat sz f hf) S' id v (L.set j u') → WO E loose fl lim ops os l S'.m S'.n K) : WO E loose fl lim ops (⟨none, .store t x y, ty, pos, af, none⟩ :: os) l S.m S.n K := ⟨fun tt ht => by
  have hid : id ≠ 0 := fun e => by subst e; cases hid
  obtain ⟨z, h1, h2, h3, h4⟩ := oneT_ok hT
  have hj := (List.getElem?_eq_some_iff.1 hu).1
  obtain ⟨b, cap, cs, rfl, h5, h6, h7, S', e1, e2, h8, h9⟩ := hs.put (u := u') (c := f u') hj rfl hid
  refine W_op2 (v := .tup []) (m' := S'.m) (n' := S'.n) ?_ ((h S' h8 h9).ok tt ht)
  have h7 : j * sz + (f u').length ≤ cs.length := h7
  rw [hf] at h7
  obtain ⟨b', o', c', cs', p, e3, _, h10, h11, _, h12, h13⟩ := hs.ro.cell hu
  cases e3
  rw [h6] at h10; cases h10
  have h11 : p = f u := h11
  subst h11
  have h13 : (cs.drop (0 + j * sz)).take sz = f u := h13
  rw [Nat.zero_add] at h13
  have e4 : splice cs (j * sz) (f u') = splice cs (j * sz + q) [s] := by
    rw [← hu', ← h13]
    simp only [splice, List.length_set, List.length_take, List.length_drop, List.append_assoc, List.length_cons, List.length_nil]
    rw [Nat.min_eq_left (by omega)]
    apply List.ext_getElem?
    intro r
    by_cases r1 : r < j * sz
    · rw [List.getElem?_append_left (by simp; omega), List.getElem?_append_left (by simp; omega), List.getElem?_take_of_lt r1, List.getElem?_take_of_lt (by omega)]
    · rw [List.getElem?_append_right (by simp; omega), List.length_take, Nat.min_eq_left (by omega)]
      by_cases r2 : r < j * sz + sz
      · rw [List.getElem?_append_left (by simp; omega), List.getElem?_set, List.getElem?_take_of_lt (by omega), List.getElem?_drop, List.length_take, List.length_drop]
        by_cases r3 : q = r - j * sz
        · rw [if_pos r3, if_pos (by omega), List.getElem?_append_right (by simp; omega), List.length_take, Nat.min_eq_left (by omega)]
          rw [show r - (j * sz + q) = 0 from by omega]; rfl
        · rw [if_neg r3]
          by_cases r4 : r < j * sz + q
          · rw [List.getElem?_append_left (by simp; omega), List.getElem?_take_of_lt (by omega)]; congr 1; omega
          · rw [List.getElem?_append_right (by simp; omega), List.length_take, Nat.min_eq_left (by omega), List.getElem?_append_right (by simp; omega), List.getElem?_drop]; congr 1; simp; omega
      · rw [List.getElem?_append_right (by simp; omega), List.length_set, List.length_take, List.length_drop, Nat.min_eq_left (by omega), List.getElem?_drop, List.getElem?_append_right (by simp; omega), List.length_take, Nat.min_eq_left (by omega), List.getElem?_append_right (by simp; omega), List.getElem?_drop]
        congr 1; simp; omega
  simp only [opA, evK_ev ht hx, evK_ev ht hy, ptrAt, storeA, AV.cells?, h1, List.length_cons, List.length_nil, h4, h5, h6, true_and, Nat.zero_add, if_true]
  have hcond : j * sz + q + 1 ≤ cs.length := by omega
  simp only [Lay.flat] at e1 ⊢
  simp only [hcond, if_true]
  rw [← e4, ← e1, e2]; rfl⟩

theorem WO.st1 {g : α → SV} {u' : α} (hx : evK l x = some (.sc (ptrAt v j 0))) (hy : evK l y = some (.sc (g u'))) (hs : Ow (Lay.one g) S id v L) (hj : j < L.length) (hT : oneT E t = true) (hid : Nat.beq id 0 = false)
    (h : ∀ S', Ch id S S' → Ow (Lay.one g) S' id v (L.set j u') → WO E loose fl lim ops os l S'.m S'.n K) : WO E loose fl lim ops (⟨none, .store t x y, ty, pos, af, none⟩ :: os) l S.m S.n K :=
  WO.stF (q := 0) (u := L[j]) (u' := u') hx hy hs (List.getElem?_eq_getElem hj) rfl (by decide) hT hid h

theorem WO.stA {sz : Nat} {f : α → List SV} {hf : ∀ a, (f a).length = sz} {u' : α} (hx : evK l x = some (.sc (ptrAt v j 0))) (hy : evK l y = some (.agg (f u'))) (hs : Ow (Lay.flat sz f hf) S id v L) (hj : j < L.length) (hT : aggT E t sz = true) (hid : Nat.beq id 0 = false)
    (h : ∀ S', Ch id S S' → Ow (Lay.flat sz f hf) S' id v (L.set j u') → WO E loose fl lim ops os l S'.m S'.n K) : WO E loose fl lim ops (⟨none, .store t x y, ty, pos, af, none⟩ :: os) l S.m S.n K := ⟨fun tt ht => by
  have hid : id ≠ 0 := fun e => by subst e; cases hid
  obtain ⟨z, h1, h2, h3, h4⟩ := aggT_ok hT
  obtain ⟨b, cap, cs, rfl, h5, h6, h7, S', e1, e2, h8, h9⟩ := hs.put (u := u') (c := f u') hj rfl hid
  refine W_op2 (v := .tup []) (m' := S'.m) (n' := S'.n) ?_ ((h S' h8 h9).ok tt ht)
  have h7 : j * sz + (f u').length ≤ cs.length := h7
  simp only [opA, evK_ev ht hx, evK_ev ht hy, ptrAt, storeA, AV.cells?, h1, h3, hf, h5, h6, true_and, Nat.zero_add, Nat.add_zero, if_true, Lay.flat] at e1 ⊢
  rw [hf] at h7
  rw [if_pos h7, ← e1, e2]; rfl⟩

theorem WO.stS {α : Type} {A : Lay α} {LL : List (List α)} {L : List α} (hx : evK l x = some (.sc (ptrAt v j 0))) (hy : evK l y = some (.sc w)) (hs : Ow (Lay.sl A) S id v LL) (hj : j < LL.length) (hw : Rd A S w L) (hT : oneT E t = true) (hid : Nat.beq id 0 = false)
    (h : ∀ S', Ch id S S' → Ow (Lay.sl A) S' id v (LL.set j L) → WO E loose fl lim ops os l S'.m S'.n K) : WO E loose fl lim ops (⟨none, .store t x y, ty, pos, af, none⟩ :: os) l S.m S.n K := ⟨fun tt ht => by
  have hid : id ≠ 0 := fun e => by subst e; cases hid
  obtain ⟨z, h1, h2, h3, h4⟩ := oneT_ok hT
  obtain ⟨b, cap, cs, rfl, h5, h6, h7, S', e1, e2, h8, h9⟩ := hs.put (u := L) (c := [w]) hj ⟨w, rfl, hw⟩ hid
  refine W_op2 (v := .tup []) (m' := S'.m) (n' := S'.n) ?_ ((h S' h8 h9).ok tt ht)
  simp only [opA, evK_ev ht hx, evK_ev ht hy, ptrAt, storeA, AV.cells?, h1, List.length_cons, List.length_nil, h4, h5, h6, true_and, Nat.zero_add, Nat.add_zero, if_true, Lay.sl, Nat.mul_one] at e1 h7 ⊢
  rw [if_pos h7, ← e1, e2]; rfl⟩

theorem RO.elems {zo zi : Nat → Prop} (h : RO A zo zi m v L) : ∃ cs, elemsA m (.sc v) A.sz = some (cs, L.length) ∧ RL A zi m L cs := by
  rcases h with ⟨h | h, rfl⟩ | ⟨i, o, c, cs, rfl, h2, h3, h4, h5, h6⟩
  · subst h; exact ⟨[], rfl, rfl⟩
  · subst h; exact ⟨[], rfl, rfl⟩
  · exact ⟨_, by simp only [elemsA, h4]; rw [if_neg (by simp), if_pos h5], h6⟩

theorem Ow.app0 {e : Ty} {new : List SV} (hs : Ow A S id v L) (hid : id ≠ 0) (hn : RL A S.fz S.m L' new) (he : e.size = A.sz) (hby : (L.length + L'.length) * e.bytes ≤ 140737488355328) (hlen : L.length + L'.length ≤ 9223372036854775807) {old : List SV} (hold : RL A S.fz S.m L old) (holdc : ∀ b c, v = .sl b 0 L.length c A.sz → ∀ cs, S.m.get b = some cs → old = cs.take (L.length * A.sz)) :
    ∃ v' S', appendTo fl e (.sc v) old new L.length L'.length S.m S.n = some (.sc v', S'.m, S'.n) ∧ Ch id S S' ∧ Ow A S' id v' (L ++ L') := by
  have hnl := hn.length
  have hS := S.le
  unfold appendTo
  rw [if_neg (by omega)]
  rcases hs with ⟨rfl, rfl⟩ | ⟨b, c, cs, rfl, h2, h3, h4, h5, h6, h7, h8⟩
  · simp only
    by_cases h0 : L'.length = 0
    · rw [if_pos h0]
      have : L' = [] := List.eq_nil_of_length_eq_zero h0
      subst this
      exact ⟨_, S, rfl, Ch.refl _ _, .inl ⟨rfl, rfl⟩⟩
    · rw [if_neg h0]
      have hch : Ch id S (⟨S.m.set S.n new, S.n + 1, fun i => if i = S.n then id else S.ow i, by omega⟩ : Cx fl) := ⟨by simp, fun i hi hk => ⟨by simp only; rw [if_neg (by omega)], Tr.get_set_ne _ _ (by omega)⟩⟩
      refine ⟨_, ⟨S.m.set S.n new, S.n + 1, fun i => if i = S.n then id else S.ow i, by omega⟩, rfl, hch, ?_⟩
      refine .inr ⟨S.n, L'.length, new, by rw [List.nil_append, he], by omega, by simp, by simp, by simp, Tr.get_set_same _ _ _, hnl, ?_⟩
      rw [List.nil_append, ← hnl, List.take_length]
      exact hn.frame (fz_ch hch hid)
  · simp only
    rw [if_neg (by omega)]
    have hle2 : L.length * A.sz ≤ c * A.sz := Nat.mul_le_mul_right _ h5
    have holde := holdc b c rfl cs h6
    by_cases hc : L.length + L'.length ≤ c
    · rw [if_pos hc, h6]
      simp only
      rw [if_pos (by rw [h7]; simp)]
      have hle3 : (L.length + L'.length) * A.sz ≤ c * A.sz := Nat.mul_le_mul_right _ hc
      rw [Nat.add_mul] at hle3
      have hch : Ch id S (⟨S.m.set b (splice cs (0 + L.length * A.sz) new), S.n, S.ow, S.le⟩ : Cx fl) := ⟨Nat.le_refl _, fun i hi hk => ⟨rfl, Tr.get_set_ne _ _ (fun e => hk (by rw [e]; exact h4))⟩⟩
      refine ⟨_, ⟨S.m.set b (splice cs (0 + L.length * A.sz) new), S.n, S.ow, S.le⟩, rfl, hch, .inr ⟨b, c, _, by rw [List.length_append], h2, h3, h4, by rw [List.length_append]; exact hc, Tr.get_set_same _ _ _, ?_, ?_⟩⟩
      · simp only [splice, List.length_append, List.length_take, List.length_drop]; omega
      · have := (RL.append h8 hn).frame (fz_ch hch hid)
        have e : (splice cs (0 + L.length * A.sz) new).take ((L ++ L').length * A.sz) = cs.take (L.length * A.sz) ++ new := by
          simp only [splice, Nat.zero_add]
          rw [List.take_append_of_le_length (by simp only [List.length_append, List.length_take, Nat.add_mul]; omega), List.take_of_length_le (by simp only [List.length_append, List.length_take, Nat.add_mul]; omega)]
        rw [e]; exact this
    · rw [if_neg hc, if_neg (by decide)]
      have hch : Ch id S (⟨(S.m.upd b none).set S.n (old ++ new), S.n + 1, fun i => if i = S.n then id else if i = b then 1 else S.ow i, by omega⟩ : Cx fl) := ⟨by simp, fun i hi hk => by
        have hib : i ≠ b := fun e => hk (by rw [e]; exact h4)
        exact ⟨by simp only; rw [if_neg (by omega), if_neg hib], by rw [Tr.get_set_ne _ _ (by omega), Tr.get_upd_ne _ _ hib]⟩⟩
      refine ⟨_, ⟨(S.m.upd b none).set S.n (old ++ new), S.n + 1, fun i => if i = S.n then id else if i = b then 1 else S.ow i, by omega⟩, rfl, hch, .inr ⟨S.n, L.length + L'.length, old ++ new, by rw [List.length_append, ← he, he], by omega, by simp, by simp, by rw [List.length_append]; exact Nat.le_refl _, Tr.get_set_same _ _ _, ?_, ?_⟩⟩
      · rw [List.length_append, hold.length, hnl, Nat.add_mul]
      · have hRR := RL.append hold hn
        rw [← hRR.length, List.take_length]
        exact hRR.frame (fz_ch hch hid)

theorem Ow.app {e : Ty} {new : List SV} (hs : Ow A S id v L) (hid : id ≠ 0) (hn : RL A S.fz S.m L' new) (he : e.size = A.sz) (hb : e.bytes ≤ 256) (hlen : L.length + L'.length ≤ 549755813888) {old : List SV} (hold : RL A S.fz S.m L old) (holdc : ∀ b c, v = .sl b 0 L.length c A.sz → ∀ cs, S.m.get b = some cs → old = cs.take (L.length * A.sz)) :
    ∃ v' S', appendTo fl e (.sc v) old new L.length L'.length S.m S.n = some (.sc v', S'.m, S'.n) ∧ Ch id S S' ∧ Ow A S' id v' (L ++ L') := by
  exact hs.app0 hid hn he (Nat.le_trans (Nat.mul_le_mul hlen hb) (by decide)) (by omega) hold holdc

theorem WO.appS {y2 : Operand} {zo : Nat → Prop} (hx : evK l x = some (.sc v)) (hy : evK l y2 = some (.sc w)) (hs : Ow A S id v L) (hs2 : RO A zo S.fz S.m w L') (hM : app? L L' = some M) (hT : slTs E t A.sz = true) (hid : Nat.beq id 0 = false)
    (h : ∀ v' S', Ch id S S' → Ow A S' id v' M → WO E loose fl lim ops os ((d, .sc v') :: l) S'.m S'.n K) :
    WO E loose fl lim ops (⟨some d, .call ⟨.builtin .append, #[x, y2], #[t, t]⟩, ty, pos, af, none⟩ :: os) l S.m S.n K := ⟨fun tt ht => by
  have hid : id ≠ 0 := fun e => by subst e; cases hid
  obtain ⟨z, e, h1, h2, h3, h4, h5, h5', h6⟩ := slTs_ok hT
  obtain ⟨hlen, rfl⟩ := app?_some hM
  obtain ⟨new, q1, q2⟩ := hs2.elems
  obtain ⟨old, q3, q4⟩ := hs.ro.elems
  have holdc : ∀ b c, v = .sl b 0 L.length c A.sz → ∀ cs, S.m.get b = some cs → old = cs.take (L.length * A.sz) := by
    intro b c e cs hcs
    subst e
    simp only [elemsA, hcs] at q3
    rw [if_neg (by simp)] at q3
    split at q3
    · cases q3; rfl
    · cases q3
  obtain ⟨v', S', q5, q6, q7⟩ := hs.app hid q2 h4 h6 hlen q4 holdc
  refine W_op2 (m' := S'.m) (n' := S'.n) ?_ ((h v' S' q6 q7).put ht)
  simp only [opA, callA, builtinA, List.map_cons, List.map_nil, evK_ev ht hx, evK_ev ht hy]
  simp only [List.getElem?_toArray, List.getElem?_cons_zero, List.getElem?_cons_succ, if_true, appendA, h1, h2, h3, h4, h5]
  rw [q3, q1]
  simpa [h5'] using q5⟩

/-- A block that is new, id's. -/
theorem Ow.fresh {cs : List SV} {c : Nat} (hR : RL A S.fz S.m L (cs.take (L.length * A.sz))) (hid : id ≠ 0) (hc : L.length ≤ c) (hcs : cs.length = c * A.sz) :
    ∃ S' : Cx fl, S'.m = S.m.set S.n cs ∧ S'.n = S.n + 1 ∧ Ch id S S' ∧ Ow A S' id (.sl S.n 0 L.length c A.sz) L := by
  have hS := S.le
  have hch : Ch id S (⟨S.m.set S.n cs, S.n + 1, fun i => if i = S.n then id else S.ow i, by omega⟩ : Cx fl) := ⟨by simp, fun i hi hk => ⟨by simp only; rw [if_neg (by omega)], Tr.get_set_ne _ _ (by omega)⟩⟩
  exact ⟨_, rfl, rfl, hch, .inr ⟨S.n, c, cs, rfl, hS, by simp, by simp, hc, Tr.get_set_same _ _ _, hcs, hR.frame (fz_ch hch hid)⟩⟩
theorem Bk.fresh {cs : List SV} {u : α} (hR : A.R S.fz S.m u cs) (hid : id ≠ 0) :
    ∃ S' : Cx fl, S'.m = S.m.set S.n cs ∧ S'.n = S.n + 1 ∧ Ch id S S' ∧ Bk A S' id (.ptr S.n 0) u := by
  have hS := S.le
  have hch : Ch id S (⟨S.m.set S.n cs, S.n + 1, fun i => if i = S.n then id else S.ow i, by omega⟩ : Cx fl) := ⟨by simp, fun i hi hk => ⟨by simp only; rw [if_neg (by omega)], Tr.get_set_ne _ _ (by omega)⟩⟩
  exact ⟨_, rfl, rfl, hch, S.n, cs, rfl, hS, by simp, by simp, Tr.get_set_same _ _ _, A.frame hR (fz_ch hch hid)⟩

/-- make([]T, n) -/
theorem WO.mkS {z0 : α} {i2 : Operand} (id : Nat) (hi : evK l i = some (.sc (.int k a))) (hi2 : evK l i2 = some (.sc (.int k' a))) (hM : mk? a z0 = some M) (hz : A.R S.fz S.m z0 (slZ E t)) (hT : slTs E t A.sz = true) (hid : Nat.beq id 0 = false)
    (h : ∀ v' S', Ch id S S' → Ow A S' id v' M → WO E loose fl lim ops os ((d, .sc v') :: l) S'.m S'.n K) : WO E loose fl lim ops (⟨some d, .makeSlice t i i2, ty, pos, af, none⟩ :: os) l S.m S.n K := ⟨fun tt ht => by
  have hid : id ≠ 0 := fun e => by subst e; cases hid
  obtain ⟨y, e, h1, h2, h3, h4, h5, h5', h6⟩ := slTs_ok hT
  obtain ⟨ha, rfl⟩ := mk?_some hM
  have hz : A.R S.fz S.m z0 e.zero := by simpa [slZ, h1, h3] using hz
  have hR := RL.replicate hz a.toNat
  have hl := hR.length
  rw [List.length_replicate] at hl
  obtain ⟨S', e1, e2, h7, h8⟩ := Ow.fresh (S := S) (L := List.replicate a.toNat z0) (cs := (List.replicate a.toNat e.zero).flatten) (c := a.toNat) (by rw [List.length_replicate, ← hl, List.take_length]; exact hR) hid (by simp) hl
  refine W_op2 (m' := S'.m) (n' := S'.n) ?_ ((h _ S' h7 h8).put ht)
  have : a * (e.bytes : Int) ≤ 281474976710656 := by
    have h5 : a * (e.bytes : Int) ≤ a * 256 := Int.mul_le_mul_of_nonneg_left (by omega) (by omega)
    omega
  simp only [opA, evK_ev ht hi, evK_ev ht hi2, makeSliceA, h1, h2, h3]
  rw [e1, e2]
  simp [ha, this, h4, h5]
  omega⟩

/-- []T{..} -/
theorem WO.bsS {len : Nat} {ps : Array (Nat × Operand)} {cs : List SV} (id : Nat) (hin : allK l (.buildSlice t len ps) = true) (hop : opA E (fun _ _ _ _ _ => none) fl lim (evL l) S.m S.n (.buildSlice t len ps) = some (.sc (.sl S.n 0 len len A.sz), S.m.set S.n cs, S.n + 1)) (hL : M.length = len)
    (hR : RL A S.fz S.m M cs) (hid : Nat.beq id 0 = false)
    (h : ∀ v' S', Ch id S S' → Ow A S' id v' M → WO E loose fl lim ops os ((d, .sc v') :: l) S'.m S'.n K) : WO E loose fl lim ops (⟨some d, .buildSlice t len ps, ty, pos, af, none⟩ :: os) l S.m S.n K := by
  have hid : id ≠ 0 := fun e => by subst e; cases hid
  subst hL
  have hl := hR.length
  obtain ⟨S', e1, e2, h7, h8⟩ := Ow.fresh (S := S) (cs := cs) (c := M.length) (by rw [← hl, List.take_length]; exact hR) hid (by simp) hl
  refine WO.do hin hop ?_
  rw [← e1, ← e2]
  exact h _ S' h7 h8

/-- []byte(s) -/
theorem WO.cvB {tq : TypeId} {st : List UInt8} {N : List Int} {yt yq ye : Ty} (id : Nat) (hx : evK l x = some (.sc (.str st))) (hN : bytes? st = some N) (h1 : E.ty t = some yt) (h2 : yt.kind = 3) (h3 : E.ty tq = some yq) (h4 : yq.kind = 4) (h5 : E.ty yq.elem = some ye) (h6 : ye.kind = 1) (h7 : ye.ik = .u8) (h8 : ye.size = 1) (hid : Nat.beq id 0 = false)
    (h : ∀ v' S', Ch id S S' → Ow (Lay.one (SV.int .u8)) S' id v' N → WO E loose fl lim ops os ((d, .sc v') :: l) S'.m S'.n K) : WO E loose fl lim ops (⟨some d, .convert t tq x, ty, pos, af, none⟩ :: os) l S.m S.n K := ⟨fun tt ht => by
  have hid : id ≠ 0 := fun e => by subst e; cases hid
  unfold bytes? at hN
  split at hN
  · rename_i hl
    cases hN
    have hR : RL (Lay.one (SV.int .u8)) S.fz S.m (st.map fun b => (b.toNat : Int)) (byteCells st) := by
      have := RL.ofMap (g := SV.int .u8) (z := S.fz) (m := S.m) (st.map fun b => (b.toNat : Int))
      rwa [List.map_map] at this
    have hlen := hR.length
    obtain ⟨S', e1, e2, h9, h10⟩ := Ow.fresh (S := S) (cs := byteCells st) (c := st.length) (by rw [← hlen, List.take_length]; exact hR) hid (by simp) (by rw [hlen]; simp)
    refine W_op2 (m' := S'.m) (n' := S'.n) ?_ ((h _ S' h9 h10).put ht)
    simp only [opA, evK_ev ht hx, convA, h1, h3, h2, h4, h5, h6, h7, h8, hl, and_self, if_true, e1, e2, List.length_map, Lay.flat]
  · cases hN⟩

theorem WO.alS {z0 : α} {yt : Ty} (id : Nat) (hT : E.ty t = some yt) (hz : A.R S.fz S.m z0 yt.zero) (hid : Nat.beq id 0 = false)
    (h : ∀ v' S', Ch id S S' → Bk A S' id v' z0 → WO E loose fl lim ops os ((d, .sc v') :: l) S'.m S'.n K) : WO E loose fl lim ops (⟨some d, .alloc t, ty, pos, af, none⟩ :: os) l S.m S.n K := ⟨fun tt ht => by
  have hid : id ≠ 0 := fun e => by subst e; cases hid
  obtain ⟨S', e1, e2, h7, h8⟩ := Bk.fresh (S := S) hz hid
  exact W_op2 (m' := S'.m) (n' := S'.n) (by simp only [opA, hT, e1, e2]) ((h _ S' h7 h8).put ht)⟩
theorem WO.bxS {u : α} {av : AV} {cs : List SV} (id : Nat) (hx : evK l x = some av) (hc : av.cells? = some cs) (hz : A.R S.fz S.m u cs) (hid : Nat.beq id 0 = false)
    (h : ∀ v' S', Ch id S S' → Bk A S' id v' u → WO E loose fl lim ops os ((d, .sc v') :: l) S'.m S'.n K) : WO E loose fl lim ops (⟨some d, .box t x, ty, pos, af, none⟩ :: os) l S.m S.n K := ⟨fun tt ht => by
  have hid : id ≠ 0 := fun e => by subst e; cases hid
  obtain ⟨S', e1, e2, h7, h8⟩ := Bk.fresh (S := S) hz hid
  exact W_op2 (m' := S'.m) (n' := S'.n) (by simp only [opA, evK_ev ht hx, hc, e1, e2]) ((h _ S' h7 h8).put ht)⟩

theorem Bk.ptr {u : α} (h : Bk A S id v u) : ∃ b o, ptrAt v j 0 = .ptr b o := by
  obtain ⟨b, cs, rfl, _⟩ := h
  exact ⟨_, _, rfl⟩
theorem Bk.at0 {u : α} (h : Bk A S id v u) : v = ptrAt v 0 0 := by
  obtain ⟨b, cs, rfl, _⟩ := h
  rfl
theorem Bk.isp {u : α} (h : Bk A S id v u) : ∃ b, v = .ptr b 0 := by
  obtain ⟨b, cs, rfl, _⟩ := h
  exact ⟨b, rfl⟩

/-- A cell of a block. -/
theorem WO.ldB {sz : Nat} {f : α → List SV} {hf : ∀ a, (f a).length = sz} {p : SV} (hx : evK l x = some (.sc p)) (hp : p = ptrAt v j q) (hs : Bk (Lay.flat sz f hf) S id v u) (hc : (f u)[q]? = some s) (hT : oneT E t = true) (hl : limLe lim S.n = true)
    (h : WO E loose fl lim ops os ((d, .sc s) :: l) S.m S.n K) : WO E loose fl lim ops (⟨some d, .load t x, ty, pos, af, none⟩ :: os) l S.m S.n K := ⟨fun tt ht => by
  subst hp
  obtain ⟨y, h1, h2, h3, _⟩ := oneT_ok hT
  refine W_op2 ?_ (h.put ht)
  obtain ⟨b, cs, rfl, _, h4, _, h5, h6⟩ := hs
  have h6 : cs = f u := h6
  subst h6
  simp only [opA, evK_ev ht hx, ptrAt, loadA, limOk_of hl h4, if_true, h5, part, h1, h2, h3, or_self, if_false, Nat.zero_add, hc, Option.map_some]⟩
/-- All of a block. -/
theorem WO.ldBA {sz : Nat} {f : α → List SV} {hf : ∀ a, (f a).length = sz} {p : SV} (hx : evK l x = some (.sc p)) (hp : p = ptrAt v j 0) (hs : Bk (Lay.flat sz f hf) S id v u) (hT : aggT E t sz = true) (hl : limLe lim S.n = true)
    (h : WO E loose fl lim ops os ((d, .agg (f u)) :: l) S.m S.n K) : WO E loose fl lim ops (⟨some d, .load t x, ty, pos, af, none⟩ :: os) l S.m S.n K := ⟨fun tt ht => by
  subst hp
  obtain ⟨y, h1, h2, h3, _⟩ := aggT_ok hT
  refine W_op2 ?_ (h.put ht)
  obtain ⟨b, cs, rfl, _, h4, _, h5, h6⟩ := hs
  have h6 : cs = f u := h6
  subst h6
  have := hf u
  simp only [opA, evK_ev ht hx, ptrAt, loadA, limOk_of hl h4, if_true, h5, part, h1, h2, h3, Nat.zero_add, this, Nat.le_refl, List.drop_zero, Option.map_some]
  rw [List.take_of_length_le (by omega)]⟩

theorem resK_c1 {sz : Nat} {f : α → List SV} {hf : ∀ a, (f a).length = sz} {u : α} {a t : Nat} {l0 : LE} (hs : Bk (Lay.flat sz f hf) S id v u) (hc : Cov l l0) (h1 : lk l0 a = some (.sc v)) (hT : aggT E t sz = true) :
    resK E l S.m [.cell a t] = some [.agg (f u)] := by
  obtain ⟨y, q1, q2, q3, _⟩ := aggT_ok hT
  obtain ⟨b, cs, rfl, _, h4, _, h5, h6⟩ := hs
  have h6 : cs = f u := h6
  subst h6
  have := hf u
  simp only [resK, hc _ _ h1, loadA, limOk, if_true, h5, part, q1, q2, q3, Nat.zero_add, this, Nat.le_refl, List.drop_zero, Option.map_some]
  rw [List.take_of_length_le (by omega)]
theorem resK_c2 {sz : Nat} {f : α → List SV} {hf : ∀ a, (f a).length = sz} {u : α} {a t t' : Nat} {w' : AV} {l0 : LE} (hs : Bk (Lay.flat sz f hf) S id v u) (hc : Cov l l0) (h1 : lk l0 a = some (.sc v)) (hT : aggT E t sz = true) (h2 : lk l0 t' = some w') :
    resK E l S.m [.cell a t, .tmp t'] = some [.agg (f u), w'] := by
  obtain ⟨y, q1, q2, q3, _⟩ := aggT_ok hT
  obtain ⟨b, cs, rfl, _, h4, _, h5, h6⟩ := hs
  have h6 : cs = f u := h6
  subst h6
  have := hf u
  simp only [resK, hc _ _ h1, hc _ _ h2, loadA, limOk, if_true, h5, part, q1, q2, q3, Nat.zero_add, this, Nat.le_refl, List.drop_zero, Option.map_some]
  rw [List.take_of_length_le (by omega)]

theorem Bk.put {u' : α} {c : List SV} {u : α} (h : Bk A S id v u) (hc : A.R S.fz S.m u' c) (hid : id ≠ 0) :
    ∃ b cs, v = .ptr b 0 ∧ fl ≤ b ∧ S.m.get b = some cs ∧ A.R S.fz S.m u cs ∧ ∃ S' : Cx fl, S'.m = S.m.set b c ∧ S'.n = S.n ∧ Ch id S S' ∧ Bk A S' id v u' := by
  obtain ⟨b, cs, h1, h2, h3, h4, h6, h8⟩ := h
  have hch : Ch id S (⟨S.m.set b c, S.n, S.ow, S.le⟩ : Cx fl) := ⟨Nat.le_refl _, fun i hi hk => ⟨rfl, Tr.get_set_ne _ _ (fun e => hk (by rw [e]; exact h4))⟩⟩
  exact ⟨b, cs, h1, h2, h6, h8, ⟨S.m.set b c, S.n, S.ow, S.le⟩, rfl, rfl, hch, b, c, h1, h2, h3, h4, Tr.get_set_same _ _ _, A.frame hc (fz_ch hch hid)⟩

theorem splice_set {cs : List SV} {o : Nat} (ho : o < cs.length) : splice cs o [v] = cs.set o v := by
  unfold splice
  apply List.ext_getElem?
  intro q
  rw [List.getElem?_set]
  by_cases h : q < o
  · rw [List.append_assoc, List.getElem?_append_left (by simp; omega), List.getElem?_take_of_lt h, if_neg (by omega)]
  · by_cases h2 : o = q
    · subst h2
      rw [List.append_assoc, List.getElem?_append_right (by simp; omega)]
      simp [ho, Nat.min_eq_left (Nat.le_of_lt ho)]
    · rw [if_neg h2, List.getElem?_append_right (by simp; omega)]
      simp only [List.length_append, List.length_take, List.length_cons, List.length_nil, List.getElem?_drop]
      congr 1; omega

theorem WO.stB {sz : Nat} {f : α → List SV} {hf : ∀ a, (f a).length = sz} {p : SV} {u' : α} (hx : evK l x = some (.sc p)) (hp : p = ptrAt v j q) (hy : evK l y = some (.sc s)) (hs : Bk (Lay.flat sz f hf) S id v u) (hu' : (f u).set q s = f u') (hq : q < sz) (hT : oneT E t = true) (hid : Nat.beq id 0 = false)
    (h : ∀ S', Ch id S S' → Bk (Lay.flat sz f hf) S' id v u' → WO E loose fl lim ops os l S'.m S'.n K) : WO E loose fl lim ops (⟨none, .store t x y, ty, pos, af, none⟩ :: os) l S.m S.n K := ⟨fun tt ht => by
  have hid : id ≠ 0 := fun e => by subst e; cases hid
  subst hp
  obtain ⟨z, h1, h2, h3, h4⟩ := oneT_ok hT
  obtain ⟨b, cs, rfl, h5, h6, h7, S', e1, e2, h8, h9⟩ := hs.put (u' := u') (c := f u') rfl hid
  have h7 : cs = f u := h7
  subst h7
  refine W_op2 (v := .tup []) (m' := S'.m) (n' := S'.n) ?_ ((h S' h8 h9).ok tt ht)
  have hl := hf u
  simp only [opA, evK_ev ht hx, evK_ev ht hy, ptrAt, storeA, AV.cells?, h1, List.length_cons, List.length_nil, h4, h5, h6, true_and, Nat.zero_add, if_true]
  rw [if_pos (by omega), splice_set (by omega), hu', ← e1, e2]; rfl⟩
theorem WO.stBA {sz : Nat} {f : α → List SV} {hf : ∀ a, (f a).length = sz} {p : SV} {u' : α} (hx : evK l x = some (.sc p)) (hp : p = ptrAt v j 0) (hy : evK l y = some (.agg (f u'))) (hs : Bk (Lay.flat sz f hf) S id v u) (hT : aggT E t sz = true) (hid : Nat.beq id 0 = false)
    (h : ∀ S', Ch id S S' → Bk (Lay.flat sz f hf) S' id v u' → WO E loose fl lim ops os l S'.m S'.n K) : WO E loose fl lim ops (⟨none, .store t x y, ty, pos, af, none⟩ :: os) l S.m S.n K := ⟨fun tt ht => by
  have hid : id ≠ 0 := fun e => by subst e; cases hid
  subst hp
  obtain ⟨z, h1, h2, h3, h4⟩ := aggT_ok hT
  obtain ⟨b, cs, rfl, h5, h6, h7, S', e1, e2, h8, h9⟩ := hs.put (u' := u') (c := f u') rfl hid
  have h7 : cs = f u := h7
  subst h7
  refine W_op2 (v := .tup []) (m' := S'.m) (n' := S'.n) ?_ ((h S' h8 h9).ok tt ht)
  have hl := hf u
  have hl' := hf u'
  simp only [opA, evK_ev ht hx, evK_ev ht hy, ptrAt, storeA, AV.cells?, h1, h3, hl', h5, h6, true_and, Nat.zero_add, if_true]
  rw [if_pos (by omega)]
  have : splice (f u) 0 (f u') = f u' := by unfold splice; simp [hl', ← hl]
  rw [this, ← e1, e2]; rfl⟩

/-! #### Subslices -/
theorem RO.sub {zo zi : Nat → Prop} {lo' hi' : Int} (hs : RO A zo zi m v L) (hM : sub? L lo' hi' = some M) {yt : Ty} {e : Ty} (h1 : E.ty t = some yt) (h2 : yt.kind = 4) (h3 : E.ty yt.elem = some e) (h4 : e.size = A.sz) (lo1 hi1 : Option AV) (hlo : lo1 = some (.sc (.int k lo')) ∨ lo1 = none ∧ lo' = 0) (hhi : hi1 = some (.sc (.int k' hi')) ∨ hi1 = none ∧ hi' = L.length) :
    ∃ w, sliceA E t (.sc v) lo1 hi1 none = some (.sc w) ∧ RO A zo zi m w M := by
  obtain ⟨⟨b1, b2, b3⟩, rfl⟩ := sub?_some hM
  have hb : ∀ (o : Option AV) (k : IntKind), (o = some (.sc (.int k 0)) ∨ o = none) → boundA o 0 0 = some 0 := by
    rintro o k (rfl | rfl) <;> simp [boundA]
  rcases hs with ⟨h | h, rfl⟩ | ⟨i, o, c, cs, rfl, q2, q3, q4, q5, q6⟩
  · subst h
    simp at b3
    have e1 : lo' = 0 := by omega
    have e2 : hi' = 0 := by omega
    subst e1; subst e2
    refine ⟨.nils, ?_, .inl ⟨.inl rfl, by simp⟩⟩
    simp only [sliceA, h1, h2, h3]
    rw [hb hi1 k' (hhi.imp id (·.1)), hb lo1 k (hlo.imp id (·.1))]
    simp
  · subst h
    simp at b3
    have e1 : lo' = 0 := by omega
    have e2 : hi' = 0 := by omega
    subst e1; subst e2
    refine ⟨.emp, ?_, .inl ⟨.inr rfl, by simp⟩⟩
    simp only [sliceA, h1, h2, h3]
    rw [hb hi1 k' (hhi.imp id (·.1)), hb lo1 k (hlo.imp id (·.1))]
    simp
  · have hb1 : boundA hi1 L.length c = some hi'.toNat := by
      rcases hhi with rfl | ⟨rfl, rfl⟩
      · simp only [boundA]; rw [if_pos (by omega)]
      · simp [boundA]
    have hb2 : boundA lo1 0 hi'.toNat = some lo'.toNat := by
      rcases hlo with rfl | ⟨rfl, rfl⟩
      · simp only [boundA]; rw [if_pos (by omega)]
      · simp [boundA]
    have hml : ((L.take hi'.toNat).drop lo'.toNat).length = hi'.toNat - lo'.toNat := by rw [List.length_drop, List.length_take]; omega
    have hle : hi'.toNat * A.sz ≤ L.length * A.sz := Nat.mul_le_mul_right _ (by omega)
    have hle2 : lo'.toNat * A.sz ≤ hi'.toNat * A.sz := Nat.mul_le_mul_right _ (by omega)
    have hR := RL.drop lo'.toNat (RL.take hi'.toNat q6)
    simp only [sliceA, h1, h2, h3, h4, Option.map_some]
    have hb0 : boundA none c c = some c := rfl
    simp only [hb0]
    by_cases hlt : lo'.toNat < c ∨ lo'.toNat = 0
    · refine ⟨.sl i (o + lo'.toNat * A.sz) (hi'.toNat - lo'.toNat) (c - lo'.toNat) A.sz, by simp only [hb1, hb2]; rw [if_pos hlt]; simp, .inr ⟨i, _, _, cs, by rw [hml], by rw [hml]; omega, q3, q4, ?_, ?_⟩⟩
      · rw [hml, Nat.sub_mul]; omega
      · rw [hml]
        have e : (List.drop (o + lo'.toNat * A.sz) cs).take ((hi'.toNat - lo'.toNat) * A.sz) = (List.take (hi'.toNat * A.sz) (List.take (L.length * A.sz) (List.drop o cs))).drop (lo'.toNat * A.sz) := by
          rw [List.take_take, Nat.min_eq_left hle, List.drop_take, List.drop_drop, Nat.sub_mul]
        rw [e]; exact hR
    · refine ⟨.emp, by simp only [hb1, hb2]; rw [if_neg hlt]; simp, .inl ⟨.inr rfl, ?_⟩⟩
      · apply List.eq_nil_of_length_eq_zero; rw [hml]; omega

theorem WO.slc {zo zi : Nat → Prop} {lo' hi' : Int} {lo1 hi1 : Option Operand} (hx : evK l x = some (.sc v)) (hlo : (∃ y, lo1 = some y ∧ evK l y = some (.sc (.int k lo'))) ∨ lo1 = none ∧ lo' = 0) (hhi : (∃ y, hi1 = some y ∧ evK l y = some (.sc (.int k' hi'))) ∨ hi1 = none ∧ hi' = L.length)
    (hs : RO A zo zi m v L) (hM : sub? L lo' hi' = some M) (hT : slTs E t A.sz = true)
    (h : ∀ w, RO A zo zi m w M → WO E loose fl lim ops os ((d, .sc w) :: l) m n K) : WO E loose fl lim ops (⟨some d, .slice t x lo1 hi1 none, ty, pos, af, none⟩ :: os) l m n K := ⟨fun tt ht => by
  obtain ⟨yt, e, h1, h2, h3, h4, _⟩ := slTs_ok hT
  have hlo' : lo1.map (St.ev ⟨tt, m, n⟩) = some (.sc (.int k lo')) ∨ lo1.map (St.ev ⟨tt, m, n⟩) = none ∧ lo' = 0 := by
    rcases hlo with ⟨y, rfl, hy⟩ | ⟨rfl, h0⟩
    · exact .inl (by rw [Option.map_some, evK_ev ht hy])
    · exact .inr ⟨rfl, h0⟩
  have hhi' : hi1.map (St.ev ⟨tt, m, n⟩) = some (.sc (.int k' hi')) ∨ hi1.map (St.ev ⟨tt, m, n⟩) = none ∧ hi' = L.length := by
    rcases hhi with ⟨y, rfl, hy⟩ | ⟨rfl, h0⟩
    · exact .inl (by rw [Option.map_some, evK_ev ht hy])
    · exact .inr ⟨rfl, h0⟩
  obtain ⟨w, q1, q2⟩ := RO.sub (t := t) hs hM h1 h2 h3 h4 _ _ hlo' hhi'
  refine W_op2 ?_ ((h w q2).put ht)
  simp only [opA, evK_ev ht hx, Option.map_none, q1, Option.map_some, orA]⟩

/-! #### Short circuits -/
theorem WO.cutB (N : Nat) {tj : Nat} {q : Bool} (B : Bool) {l0 : LE} (h1 : q = true → WO E loose fl lim ops (os.take N) ((tj, .sc (.bool true)) :: l0) m n (fun l' m' n' => m' = m ∧ n' = n ∧ Cov l' ((d, .sc (.bool B)) :: l0)))
    (h2 : q = false → WO E loose fl lim ops (os.take N) ((tj, .sc (.bool false)) :: l0) m n (fun l' m' n' => m' = m ∧ n' = n ∧ Cov l' ((d, .sc (.bool B)) :: l0)))
    (h : WO E loose fl lim ops (os.drop N) ((d, .sc (.bool B)) :: l0) m n K) : WO E loose fl lim ops os ((tj, .sc (.bool q)) :: l0) m n K := by
  refine WO.cut N (fun l' m' n' => m' = m ∧ n' = n ∧ Cov l' ((d, .sc (.bool B)) :: l0)) (WO.sp h1 h2) ?_
  rintro l' m' n' ⟨rfl, rfl, hc⟩
  exact WO.cov hc h
theorem WO.cutS (N : Nat) {tj : Nat} {q : Bool} (B : Bool) {l0 : LE} {S : Cx fl} (h1 : q = true → WO E loose fl lim ops (os.take N) ((tj, .sc (.bool true)) :: l0) S.m S.n (fun l' m' n' => ∃ S' : Cx fl, S'.m = m' ∧ S'.n = n' ∧ Ch 1 S S' ∧ Cov l' ((d, .sc (.bool B)) :: l0)))
    (h2 : q = false → WO E loose fl lim ops (os.take N) ((tj, .sc (.bool false)) :: l0) S.m S.n (fun l' m' n' => ∃ S' : Cx fl, S'.m = m' ∧ S'.n = n' ∧ Ch 1 S S' ∧ Cov l' ((d, .sc (.bool B)) :: l0)))
    (h : ∀ S', Ch 1 S S' → WO E loose fl lim (ops) (os.drop N) ((d, .sc (.bool B)) :: l0) S'.m S'.n K) : WO E loose fl lim ops os ((tj, .sc (.bool q)) :: l0) S.m S.n K := by
  refine WO.cut N (fun l' m' n' => ∃ S' : Cx fl, S'.m = m' ∧ S'.n = n' ∧ Ch 1 S S' ∧ Cov l' ((d, .sc (.bool B)) :: l0)) (WO.sp h1 h2) ?_
  rintro l' m' n' ⟨S', rfl, rfl, hch, hc⟩
  exact WO.cov hc (h S' hch)
theorem WO.gskip0 {g q : Nat} {want : Bool} {op : Op} (hd : (ops[g]?).bind (·.dst) = some q) (hb : lk l q = some (.tup [])) (h : WO E loose fl lim ops os l m n K) :
    WO E loose fl lim ops (⟨none, op, ty, pos, af, some (g, want)⟩ :: os) l m n K := ⟨fun t ht => W_skip hd (ht _ _ hb) (h.ok t ht)⟩

/-! #### Calls -/
/-- What a call left: new blocks are nobody's, but b is id's. -/
theorem Cx.next (S : Cx fl) {m' : Mem} {n' : Nat} (hk : Keeps S.n S.n S.m m' n') (id b : Nat) (hb : S.n ≤ b) : ∃ S' : Cx fl, S'.m = m' ∧ S'.n = n' ∧ Ch id S S' ∧ S'.ow b = id ∧ ∀ i, S.n ≤ i → i ≠ b → S'.ow i = 0 := by
  have hS := S.le
  have h1 := hk.1
  exact ⟨⟨m', n', fun i => if i < S.n then S.ow i else if i = b then id else 0, by omega⟩, rfl, rfl,
    ⟨h1, fun i hi _ => ⟨by simp only; rw [if_pos hi], hk.2 i hi hi⟩⟩, by simp only; rw [if_neg (by omega)]; simp, fun i hi hb => by simp only; rw [if_neg (by omega), if_neg hb]⟩

theorem WO.callC {f : Operand} {xs : Array Operand} {ats : Array TypeId} {g : Nat} {caps : List (Nat × Nat)} {args : List AV} {R : AV → Mem → Nat → Prop} (hf : evK l f = some (.sc (.fn g caps))) (ha : xs.toList.mapM (evK l) = some args)
    (hr : Ret E S.n g (args ++ caps.map fun p => .sc (.ptr p.1 p.2)) S.m S.n R) (h : ∀ v S', Ch 1 S S' → R v S'.m S'.n → WO E loose fl lim ops os ((d, v) :: l) S'.m S'.n K) :
    WO E loose fl lim ops (⟨some d, .call ⟨.value f, xs, ats⟩, ty, pos, af, none⟩ :: os) l S.m S.n K := by
  have hS := S.le
  refine WO.call hf ha (Ret.use (by cases loose g <;> simp <;> omega) hr fun v m' n' hR hk => ?_)
  obtain ⟨S', rfl, rfl, hc, _⟩ := S.next hk 1 S.n (Nat.le_refl _)
  exact h v S' hc hR
theorem WO.callE {f : Operand} {xs : Array Operand} {ats : Array TypeId} {g : Nat} {caps : List (Nat × Nat)} {args : List AV} {r : AV} (hf : evK l f = some (.sc (.fn g caps))) (ha : xs.toList.mapM (evK l) = some args)
    (hr : Ret E S.n g (args ++ caps.map fun p => .sc (.ptr p.1 p.2)) S.m S.n (fun v _ _ => v = r)) (h : ∀ S', Ch 1 S S' → WO E loose fl lim ops os ((d, r) :: l) S'.m S'.n K) :
    WO E loose fl lim ops (⟨some d, .call ⟨.value f, xs, ats⟩, ty, pos, af, none⟩ :: os) l S.m S.n K :=
  WO.callC hf ha hr fun v S' hc e => by subst e; exact h S' hc
theorem Fr.own {n' : Nat} (h : Fr A S.n m n' v L) (hA : A.Fl) (hk : Keeps S.n S.n S.m m n') (id : Nat) : ∃ S' : Cx fl, S'.m = m ∧ S'.n = n' ∧ Ch id S S' ∧ Ow A S' id v L := by
  have hS := S.le
  rcases h with ⟨rfl, rfl⟩ | ⟨b, c, cs, h1, h2, h3, h5, h6, h7, h8⟩
  · obtain ⟨S', e1, e2, hc, _⟩ := S.next hk id S.n (Nat.le_refl _)
    exact ⟨S', e1, e2, hc, .inl ⟨rfl, rfl⟩⟩
  · obtain ⟨S', rfl, rfl, hc, hb, _⟩ := S.next hk id b h2
    exact ⟨S', rfl, rfl, hc, .inr ⟨b, c, cs, h1, by omega, h3, hb, h5, h6, h7, h8.fl hA⟩⟩
/-- A call that gives a new slice. -/
theorem WO.callF {f : Operand} {xs : Array Operand} {ats : Array TypeId} {g : Nat} {caps : List (Nat × Nat)} {args : List AV} {G : SV → AV} (id : Nat) (hf : evK l f = some (.sc (.fn g caps))) (ha : xs.toList.mapM (evK l) = some args)
    (hr : Ret E S.n g (args ++ caps.map fun p => .sc (.ptr p.1 p.2)) S.m S.n (fun v m' n' => ∃ w, v = G w ∧ Fr A S.n m' n' w L)) (hA : A.Fl)
    (h : ∀ w S', Ch id S S' → Ow A S' id w L → WO E loose fl lim ops os ((d, G w) :: l) S'.m S'.n K) :
    WO E loose fl lim ops (⟨some d, .call ⟨.value f, xs, ats⟩, ty, pos, af, none⟩ :: os) l S.m S.n K := by
  have hS := S.le
  refine WO.call hf ha (Ret.use (by cases loose g <;> simp <;> omega) hr fun v m' n' hR hk => ?_)
  obtain ⟨w, rfl, hw⟩ := hR
  obtain ⟨S', rfl, rfl, hc, ho⟩ := hw.own hA hk id
  exact h w S' hc ho

/-! #### Strings -/
theorem WO.ixT {s : List UInt8} {c : UInt8} {yt : Ty} (hx : evK l x = some (.sc (.str s))) (hi : evK l i = some (.sc (.int k a))) (hc : at? s a = some c) (hT : E.ty t = some yt) (hk : yt.kind = 3) (h : WO E loose fl lim ops os ((d, .sc (.int .u8 (c.toNat : Int))) :: l) m n K) :
    WO E loose fl lim ops (⟨some d, .index t x i, ty, pos, af, none⟩ :: os) l m n K := ⟨fun tt ht => by
  obtain ⟨h1, _, h2⟩ := at?_some hc
  exact W_op2 (by simp [opA, evK_ev ht hx, evK_ev ht hi, indexA, hT, hk, h1, h2]) (h.put ht)⟩
theorem WO.slcT {s r : List UInt8} {lo' hi' : Int} {lo1 hi1 : Option Operand} {yt : Ty} (hx : evK l x = some (.sc (.str s))) (hlo : (∃ y, lo1 = some y ∧ evK l y = some (.sc (.int k lo'))) ∨ lo1 = none ∧ lo' = 0) (hhi : (∃ y, hi1 = some y ∧ evK l y = some (.sc (.int k' hi'))) ∨ hi1 = none ∧ hi' = s.length)
    (hM : sub? s lo' hi' = some r) (hT : E.ty t = some yt) (hk : yt.kind = 3) (h : WO E loose fl lim ops os ((d, .sc (.str r)) :: l) m n K) : WO E loose fl lim ops (⟨some d, .slice t x lo1 hi1 none, ty, pos, af, none⟩ :: os) l m n K := ⟨fun tt ht => by
  obtain ⟨⟨b1, b2, b3⟩, rfl⟩ := sub?_some hM
  have hb1 : boundA (hi1.map (St.ev ⟨tt, m, n⟩)) s.length s.length = some hi'.toNat := by
    rcases hhi with ⟨y, rfl, hy⟩ | ⟨rfl, rfl⟩
    · rw [Option.map_some, evK_ev ht hy]; simp only [boundA]; rw [if_pos (by omega)]
    · simp [boundA]
  have hb2 : boundA (lo1.map (St.ev ⟨tt, m, n⟩)) 0 hi'.toNat = some lo'.toNat := by
    rcases hlo with ⟨y, rfl, hy⟩ | ⟨rfl, rfl⟩
    · rw [Option.map_some, evK_ev ht hy]; simp only [boundA]; rw [if_pos (by omega)]
    · simp [boundA]
  exact W_op2 (by simp [opA, evK_ev ht hx, sliceA, hT, hk, hb1, hb2, orA]) (h.put ht)⟩
theorem WO.cat {s r c : List UInt8} {t0 ty2 : TypeId} (hx : evK l x = some (.sc (.str s))) (hy : evK l y = some (.sc (.str r))) (hc : cat? s r = some c) (h : WO E loose fl lim ops os ((d, .sc (.str c)) :: l) m n K) :
    WO E loose fl lim ops (⟨some d, .binOp .add t0 x y ty2, ty, pos, af, none⟩ :: os) l m n K := ⟨fun tt ht => by
  unfold cat? at hc
  split at hc
  · cases hc
  · rename_i h0; cases hc
    exact W_op2 (by simp only [opA, evK_ev ht hx, evK_ev ht hy, binA, strOp]; rw [if_neg h0]; rfl) (h.put ht)⟩
theorem WO.nck (hx : evK l x = some (.sc v)) (hv : ∃ b, v = .ptr b 0) (h : WO E loose fl lim ops os ((d, .sc v) :: l) m n K) : WO E loose fl lim ops (⟨some d, .nilCheck x, ty, pos, af, none⟩ :: os) l m n K := ⟨fun tt ht => by
  obtain ⟨b, rfl⟩ := hv
  exact W_op2 (by simp only [opA, evK_ev ht hx]) (h.put ht)⟩
theorem WO.nck0 (hx : evK l x = some (.sc v)) (hv : ∃ b, v = .ptr b 0) (h : WO E loose fl lim ops os l m n K) : WO E loose fl lim ops (⟨none, .nilCheck x, ty, pos, af, none⟩ :: os) l m n K := ⟨fun tt ht => by
  obtain ⟨b, rfl⟩ := hv
  exact W_op2 (v := .sc (.ptr b 0)) (by simp only [opA, evK_ev ht hx]) (h.ok tt ht)⟩

/-! #### Structs -/
theorem eqFields_cons {o t1 s1 : Nat} {y1 : Ty} {fs : List (Nat × Nat × Nat)} {ca cb : List SV} {p q : SV} {r r' : Bool} (hy : E.ty t1 = some y1) (ha : ca[o]? = some p) (hb : cb[o]? = some q) (hc : eqC y1.kind p q = some r) (ht : eqFields E fs ca cb = some r') :
    eqFields E ((o, t1, s1) :: fs) ca cb = some (r && r') := by
  simp only [eqFields, hy, ha, hb, hc]
  cases r with
  | true => simpa using ht
  | false => rfl
theorem eqC_int {p q : Int} : eqC 1 (.int k p) (.int k q) = some (p == q) := by simp [eqC]
theorem WO.eqA {ty2 : TypeId} {yt : Ty} {ca cb : List SV} {r : Bool} (hx : evK l x = some (.agg ca)) (hy : evK l y = some (.agg cb)) (hT : E.ty t = some yt) (hk : yt.kind = 6) (he : eqFields E yt.fields ca cb = some r)
    (h : WO E loose fl lim ops os ((d, .sc (.bool r)) :: l) m n K) : WO E loose fl lim ops (⟨some d, .binOp .eql t x y ty2, ty, pos, af, none⟩ :: os) l m n K := ⟨fun tt ht =>
  W_op2 (by simp only [opA, evK_ev ht hx, evK_ev ht hy, binA, eqOp, hT, hk, if_true, he, notO, Option.map_some, Bool.false_eq_true, if_false]) (h.put ht)⟩
theorem WO.neA {ty2 : TypeId} {yt : Ty} {ca cb : List SV} {r : Bool} (hx : evK l x = some (.agg ca)) (hy : evK l y = some (.agg cb)) (hT : E.ty t = some yt) (hk : yt.kind = 6) (he : eqFields E yt.fields ca cb = some r)
    (h : WO E loose fl lim ops os ((d, .sc (.bool (!r))) :: l) m n K) : WO E loose fl lim ops (⟨some d, .binOp .neq t x y ty2, ty, pos, af, none⟩ :: os) l m n K := ⟨fun tt ht =>
  W_op2 (by simp only [opA, evK_ev ht hx, evK_ev ht hy, binA, eqOp, hT, hk, if_true, he, notO, Option.map_some]) (h.put ht)⟩

/-! #### Arrays in blocks -/
/-- n cells, each a datum of its own. -/
def Lay.arr {α : Type} (N : Nat) (g : α → SV) : Lay (List α) where
  sz := N
  R _ _ L cs := L.length = N ∧ cs = L.map g
  len := by rintro z m a cs ⟨h, rfl⟩; simpa using h
  frame h _ := h
theorem WO.ixR {α : Type} {N : Nat} {g : α → SV} {L : List α} (hx : evK l x = some (.sc v)) (hs : Bk (Lay.arr N g) S id v L) (hi : evK l i = some (.sc (.int k a))) (ha : 0 ≤ a ∧ a < L.length) (hT : arTs E t N 1 = true) (h : WO E loose fl lim ops os ((d, .sc (ptrAt v 0 a.toNat)) :: l) m n K) :
    WO E loose fl lim ops (⟨some d, .indexAddr t x i, ty, pos, af, none⟩ :: os) l m n K := by
  have hl : L.length = N := by obtain ⟨_, _, _, _, _, _, _, h, _⟩ := hs; exact h
  refine WO.ixB hx hs.isp hi (by omega) hT ?_
  rw [Nat.mul_one]; exact h
theorem WO.ldR {α : Type} {N : Nat} {g : α → SV} {L : List α} {u : α} {p : SV} (hx : evK l x = some (.sc p)) (hp : p = ptrAt v 0 q) (hs : Bk (Lay.arr N g) S id v L) (hu : L[q]? = some u) (hT : oneT E t = true) (hl : limLe lim S.n = true)
    (h : WO E loose fl lim ops os ((d, .sc (g u)) :: l) S.m S.n K) : WO E loose fl lim ops (⟨some d, .load t x, ty, pos, af, none⟩ :: os) l S.m S.n K := ⟨fun tt ht => by
  subst hp
  obtain ⟨y, h1, h2, h3, _⟩ := oneT_ok hT
  refine W_op2 ?_ (h.put ht)
  obtain ⟨b, cs, rfl, _, h4, _, h5, _, rfl⟩ := hs
  have hcell : (L.map g)[q]? = some (g u) := by rw [List.getElem?_map, hu]; rfl
  simp only [opA, evK_ev ht hx, ptrAt, loadA, limOk_of hl h4, if_true, h5, part, h1, h2, h3, or_self, if_false, Nat.zero_add, hcell, Option.map_some]⟩
theorem WO.stR {α : Type} {N : Nat} {g : α → SV} {L : List α} {u : α} {p : SV} (hx : evK l x = some (.sc p)) (hp : p = ptrAt v 0 q) (hy : evK l y = some (.sc (g u))) (hs : Bk (Lay.arr N g) S id v L) (hq : q < L.length) (hT : oneT E t = true) (hid : Nat.beq id 0 = false)
    (h : ∀ S', Ch id S S' → Bk (Lay.arr N g) S' id v (L.set q u) → WO E loose fl lim ops os l S'.m S'.n K) : WO E loose fl lim ops (⟨none, .store t x y, ty, pos, af, none⟩ :: os) l S.m S.n K := ⟨fun tt ht => by
  have hid : id ≠ 0 := fun e => by subst e; cases hid
  subst hp
  obtain ⟨z, h1, h2, h3, h4⟩ := oneT_ok hT
  obtain ⟨b, cs, rfl, h5, h6, ⟨h7, rfl⟩, S', e1, e2, h8, h9⟩ := hs.put (u' := L.set q u) (c := (L.set q u).map g) ⟨by simpa using (by obtain ⟨_, _, _, _, _, _, _, h, _⟩ := hs; exact h), rfl⟩ hid
  refine W_op2 (v := .tup []) (m' := S'.m) (n' := S'.n) ?_ ((h S' h8 h9).ok tt ht)
  simp only [opA, evK_ev ht hx, evK_ev ht hy, ptrAt, storeA, AV.cells?, h1, List.length_cons, List.length_nil, h4, h5, h6, true_and, Nat.zero_add, if_true, List.length_map]
  rw [if_pos (by omega), splice_set (by simpa using hq), ← List.map_set, ← e1, e2]; rfl⟩
end sl
end rules
end Go.Am


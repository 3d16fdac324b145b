/- What the abstract machine's states say of the model's worlds: relations, and how they go on. -/
import Derived.Test.YtcjdiakgckhkdaaAm1
namespace Go.Am
open Go.RowKit

/-! ### Two lists, one by one -/
def All2 {α β : Type} (R : α → β → Prop) : List α → List β → Prop
  | [], [] => True
  | x :: l, y :: r => R x y ∧ All2 R l r
  | _, _ => False

theorem All2.length {α β : Type} {R : α → β → Prop} : ∀ {l : List α} {r : List β}, All2 R l r → l.length = r.length
  | [], [], _ => rfl
  | _ :: _, _ :: _, h => by simp [All2.length h.2]
  | [], _ :: _, h => h.elim
  | _ :: _, [], h => h.elim

theorem All2.mono {α β : Type} {R S : α → β → Prop} (hr : ∀ x y, R x y → S x y) : ∀ {l : List α} {r : List β}, All2 R l r → All2 S l r
  | [], [], _ => trivial
  | _ :: _, _ :: _, h => ⟨hr _ _ h.1, All2.mono hr h.2⟩
  | [], _ :: _, h => h.elim
  | _ :: _, [], h => h.elim

theorem All2.append {α β : Type} {R : α → β → Prop} : ∀ {l : List α} {r : List β} {l' : List α} {r' : List β}, All2 R l r → All2 R l' r' → All2 R (l ++ l') (r ++ r')
  | [], [], _, _, _, h' => h'
  | _ :: _, _ :: _, _, _, h, h' => ⟨h.1, All2.append h.2 h'⟩
  | [], _ :: _, _, _, h, _ => h.elim
  | _ :: _, [], _, _, h, _ => h.elim

theorem All2.take {α β : Type} {R : α → β → Prop} : ∀ (n : Nat) {l : List α} {r : List β}, All2 R l r → All2 R (l.take n) (r.take n)
  | 0, _, _, _ => by simp [All2]
  | _ + 1, [], [], _ => by simp [All2]
  | n + 1, _ :: _, _ :: _, h => ⟨h.1, All2.take n h.2⟩
  | _ + 1, [], _ :: _, h => h.elim
  | _ + 1, _ :: _, [], h => h.elim

theorem All2.drop {α β : Type} {R : α → β → Prop} : ∀ (n : Nat) {l : List α} {r : List β}, All2 R l r → All2 R (l.drop n) (r.drop n)
  | 0, _, _, h => h
  | _ + 1, [], [], _ => by simp [All2]
  | n + 1, _ :: _, _ :: _, h => All2.drop n h.2
  | _ + 1, [], _ :: _, h => h.elim
  | _ + 1, _ :: _, [], h => h.elim

theorem All2.get {α β : Type} {R : α → β → Prop} : ∀ {l : List α} {r : List β}, All2 R l r → ∀ (k : Nat) (x : α), l[k]? = some x → ∃ y, r[k]? = some y ∧ R x y
  | [], [], _, _, _, h => by simp at h
  | _ :: _, _ :: _, h, 0, x, hx => by simp at hx; subst hx; exact ⟨_, rfl, h.1⟩
  | _ :: _, _ :: _, h, k + 1, x, hx => by simpa using All2.get h.2 k x (by simpa using hx)
  | [], _ :: _, h, _, _, _ => h.elim
  | _ :: _, [], h, _, _, _ => h.elim

theorem All2.of_get {α β : Type} {R : α → β → Prop} : ∀ {l : List α} {r : List β}, l.length = r.length → (∀ (k : Nat) (x : α) (y : β), l[k]? = some x → r[k]? = some y → R x y) → All2 R l r
  | [], [], _, _ => trivial
  | x :: l, y :: r, h, hg => ⟨hg 0 x y rfl rfl, All2.of_get (by simpa using h) fun k a b ha hb => hg (k + 1) a b (by simpa using ha) (by simpa using hb)⟩
  | [], _ :: _, h, _ => by simp at h
  | _ :: _, [], h, _ => by simp at h

theorem All2.map_left {α β γ : Type} {R : γ → β → Prop} (f : α → γ) : ∀ {l : List α} {r : List β}, All2 (fun x y => R (f x) y) l r → All2 R (l.map f) r
  | [], [], _ => trivial
  | _ :: _, _ :: _, h => ⟨h.1, All2.map_left f h.2⟩
  | [], _ :: _, h => h.elim
  | _ :: _, [], h => h.elim

theorem All2.map_self {α β γ : Type} {R : β → γ → Prop} (f : α → β) (g : α → γ) (h : ∀ x, R (f x) (g x)) : ∀ (l : List α), All2 R (l.map f) (l.map g)
  | [] => trivial
  | _ :: l => ⟨h _, All2.map_self f g h l⟩

theorem All2.replicate {α β : Type} {R : α → β → Prop} {x : α} {y : β} (h : R x y) : ∀ n, All2 R (List.replicate n x) (List.replicate n y)
  | 0 => trivial
  | n + 1 => by simp only [List.replicate_succ]; exact ⟨h, All2.replicate h n⟩

theorem All2.flatten {α β : Type} {R : α → β → Prop} : ∀ {l : List (List α)} {r : List (List β)}, All2 (All2 R) l r → All2 R l.flatten r.flatten
  | [], [], _ => trivial
  | _ :: _, _ :: _, h => by simp only [List.flatten_cons]; exact All2.append h.1 (All2.flatten h.2)
  | [], _ :: _, h => h.elim
  | _ :: _, [], h => h.elim

/-! ### Where an abstract block lies -/
structure Pl where
  b : Nat
  base : Nat
  cs : Nat

abbrev Rho := Nat → Option Pl

def Ext (ρ ρ' : Rho) : Prop := ∀ i p, ρ i = some p → ρ' i = some p
theorem Ext.refl (ρ : Rho) : Ext ρ ρ := fun _ _ h => h
theorem Ext.trans {a b c : Rho} (h : Ext a b) (k : Ext b c) : Ext a c := fun i p e => k i p (h i p e)

def ptrRel (ρ : Rho) (i o : Nat) (v : Value) : Prop := ∃ p, ρ i = some p ∧ v = .pointer (some ⟨p.b, p.base + o, none⟩)

def SV.rel (ρ : Rho) : SV → Value → Prop
  | .undef, v => v.oneCell' = true
  | .bool b, v => v = .bool b
  | .int k n, v => v = .int k n
  | .str l, v => v = .string ⟨l.toArray⟩
  | .ptr i o, v => ptrRel ρ i o v
  | .nilp, v => v = .pointer none
  | .sl i o n c es, v => ∃ p cc, ρ i = some p ∧ n ≤ c ∧ c ≤ cc ∧ cc ≤ maxLen ∧ p.base + o + cc * es ≤ p.cs ∧ v = .slice (some ⟨p.b, p.base + o, none⟩) n cc
  | .nils, v => v = .slice none 0 0
  | .emp, v => ∃ a c, v = .slice (some a) 0 c
  | .fn f caps, v => ∃ cs : Array Value, v = .func (.func f) #[] cs ∧ All2 (fun q u => ptrRel ρ q.1 q.2 u) caps cs.toList
  | .nilf, v => v = .nilFunc

theorem ptrRel.ext {ρ ρ' : Rho} (h : Ext ρ ρ') {i o : Nat} {v : Value} (hr : ptrRel ρ i o v) : ptrRel ρ' i o v :=
  let ⟨p, hp, hv⟩ := hr; ⟨p, h _ _ hp, hv⟩

theorem SV.rel_ext {ρ ρ' : Rho} (h : Ext ρ ρ') : ∀ {x : SV} {v : Value}, x.rel ρ v → x.rel ρ' v := by
  intro x v hr
  cases x with
  | ptr i o => exact ptrRel.ext h hr
  | sl i o n c es => obtain ⟨p, cc, hp, r⟩ := hr; exact ⟨p, cc, h _ _ hp, r⟩
  | fn f caps => obtain ⟨cs, hv, ha⟩ := hr; exact ⟨cs, hv, ha.mono fun _ _ => ptrRel.ext h⟩
  | _ => exact hr

theorem SV.rel_oneCell {ρ : Rho} {x : SV} {v : Value} (h : x.rel ρ v) : v.oneCell' = true := by
  cases x with
  | undef => exact h
  | ptr i o => obtain ⟨p, _, rfl⟩ := h; rfl
  | sl i o n c es => obtain ⟨p, cc, _, _, _, _, _, rfl⟩ := h; rfl
  | emp => obtain ⟨a, c, rfl⟩ := h; rfl
  | fn f caps => obtain ⟨cs, rfl, _⟩ := h; rfl
  | bool _ => obtain rfl := h; rfl
  | int _ _ => obtain rfl := h; rfl
  | str _ => obtain rfl := h; rfl
  | nilp => obtain rfl := h; rfl
  | nils => obtain rfl := h; rfl
  | nilf => obtain rfl := h; rfl

/-- A value in a temporary, no tuple. -/
def AV.rel1 (ρ : Rho) : AV → Value → Prop
  | .un, _ => True
  | .sc x, v => x.rel ρ v
  | .agg l, v => ∃ cs : Array Value, v = .agg cs ∧ All2 (SV.rel ρ) l cs.toList
  | .tup _, _ => False

def AV.rel (ρ : Rho) : AV → Value → Prop
  | .tup l, v => ∃ vs : Array Value, v = .tuple vs ∧ All2 (AV.rel1 ρ) l vs.toList
  | x, v => x.rel1 ρ v

theorem AV.rel1_ext {ρ ρ' : Rho} (h : Ext ρ ρ') : ∀ {x : AV} {v : Value}, x.rel1 ρ v → x.rel1 ρ' v := by
  intro x v hr
  cases x with
  | un => trivial
  | sc x => exact SV.rel_ext h hr
  | agg l => obtain ⟨cs, hv, ha⟩ := hr; exact ⟨cs, hv, ha.mono fun _ _ => SV.rel_ext h⟩
  | tup l => exact hr.elim

theorem AV.rel_ext {ρ ρ' : Rho} (h : Ext ρ ρ') : ∀ {x : AV} {v : Value}, x.rel ρ v → x.rel ρ' v := by
  intro x v hr
  cases x with
  | tup l => obtain ⟨vs, hv, ha⟩ := hr; exact ⟨vs, hv, ha.mono fun _ _ => AV.rel1_ext h⟩
  | un => trivial
  | sc x => exact SV.rel_ext h hr
  | agg l => exact AV.rel1_ext (x := .agg l) h hr

theorem AV.rel_of_rel1 {ρ : Rho} : ∀ {x : AV} {v : Value}, x.rel1 ρ v → x.rel ρ v := by
  intro x v h
  cases x with
  | tup l => exact h.elim
  | _ => exact h

theorem AV.rel_undef {ρ : Rho} : (AV.tup []).rel ρ undef := ⟨#[], rfl, trivial⟩

theorem oneCell_cells {v : Value} (h : v.oneCell' = true) : v.cells = #[v] := by cases v <;> first | rfl | simp [Value.oneCell'] at h

/-- The cells of a value. -/
theorem AV.cells_rel {ρ : Rho} {x : AV} {v : Value} {cs : List SV} (h : x.rel ρ v) (hc : x.cells? = some cs) : All2 (SV.rel ρ) cs v.cells.toList := by
  cases x with
  | un => simp [AV.cells?] at hc
  | tup l => simp [AV.cells?] at hc
  | sc x =>
    simp only [AV.cells?, Option.some.injEq] at hc; subst hc
    have h : x.rel ρ v := h
    rw [oneCell_cells (SV.rel_oneCell h)]
    exact ⟨h, trivial⟩
  | agg l =>
    simp only [AV.cells?, Option.some.injEq] at hc; subst hc
    obtain ⟨cs, rfl, ha⟩ := h
    exact ha

theorem scOf_rel (ρ : Rho) (v : Value) (h1 : v.oneCell' = true) : (scOf v).rel ρ v := by
  unfold scOf
  split <;> first | rfl | exact h1

theorem ofV_rel (ρ : Rho) (v : Value) : (ofV v).rel ρ v := by
  unfold ofV
  split
  · rename_i cs
    split
    · rename_i hall
      refine ⟨cs, rfl, ?_⟩
      have : ∀ l : List Value, (∀ c ∈ l, c.oneCell' = true) → All2 (SV.rel ρ) (l.map scOf) l := by
        intro l
        induction l with
        | nil => intro _; trivial
        | cons x l ih => intro h; exact ⟨scOf_rel ρ x (h x (by simp)), ih fun c hc => h c (by simp [hc])⟩
      exact this _ (fun c hc => by simp only [Array.all_eq_true] at hall; obtain ⟨i, hi, rfl⟩ := List.getElem_of_mem hc; exact hall i (by simpa using hi))
    · trivial
  · trivial
  · rename_i f fi ca
    split
    · rename_i h
      obtain ⟨h1, h2⟩ := h
      have e1 : fi = #[] := by simpa using h1
      have e2 : ca = #[] := by simpa using h2
      subst e1 e2
      exact ⟨#[], rfl, trivial⟩
    · trivial
  · rename_i h1 h2 h3
    have h0 : v.oneCell' = true := by
      cases v with
      | agg cs => exact (h1 _ rfl).elim
      | tuple cs => exact (h2 _ rfl).elim
      | _ => rfl
    have := scOf_rel ρ v h0
    split
    · trivial
    · exact this

/-! ### Memory -/
/-- An abstract block's cells at its place. -/
structure BlockAt (ρ : Rho) (own : Bool) (l : List SV) (p : Pl) (w : World) : Prop where
  at_ : ∃ arr T fz, w.heap[p.b]? = some (.cells arr T fz) ∧ arr.size = p.cs ∧ p.base + l.length ≤ p.cs ∧
    All2 (SV.rel ρ) l ((arr.toList.drop p.base).take l.length) ∧ (own = true → ∀ o, o < p.cs → ¬ (fz.1 ≤ o ∧ o < fz.2))

structure MemRel (B fl0 : Nat) (w0 : World) (ρ : Rho) (m : Mem) (w : World) : Prop where
  below : Below B w0 w
  big : B ≤ w0.heap.size
  mem : ∀ i l, m.get i = some l → ∃ p, ρ i = some p ∧ BlockAt ρ (decide (fl0 ≤ i)) l p w ∧ (fl0 ≤ i → B ≤ p.b)
  sep : ∀ i j l l' p q, fl0 ≤ i → i ≠ j → m.get i = some l → m.get j = some l' → ρ i = some p → ρ j = some q → p.b ≠ q.b

theorem BlockAt.ext {ρ ρ' : Rho} (h : Ext ρ ρ') {own : Bool} {l : List SV} {p : Pl} {w : World} (hb : BlockAt ρ own l p w) : BlockAt ρ' own l p w := by
  obtain ⟨arr, T, fz, h1, h2, h3, h4, h5⟩ := hb.at_
  exact ⟨arr, T, fz, h1, h2, h3, h4.mono fun _ _ => SV.rel_ext h, h5⟩

theorem BlockAt.world {ρ : Rho} {own : Bool} {l : List SV} {p : Pl} {w w' : World} (hb : BlockAt ρ own l p w) (h : w'.heap[p.b]? = w.heap[p.b]?) : BlockAt ρ own l p w' := by
  obtain ⟨arr, T, fz, h1, r⟩ := hb.at_
  exact ⟨arr, T, fz, by rw [h]; exact h1, r⟩

theorem MemRel.of_heap {B fl0 : Nat} {w0 : World} {ρ : Rho} {m : Mem} {w w' : World} (h : MemRel B fl0 w0 ρ m w) (hb : Below B w w') (hh : w'.heap = w.heap) : MemRel B fl0 w0 ρ m w' where
  below := h.below.trans hb
  big := h.big
  mem i l hi := let ⟨p, hp, ha, hB⟩ := h.mem i l hi; ⟨p, hp, ha.world (by rw [hh]), hB⟩
  sep := h.sep

theorem MemRel.drewn {B fl0 : Nat} {w0 : World} {ρ : Rho} {m : Mem} {w : World} (h : MemRel B fl0 w0 ρ m w) (d : Nat) : MemRel B fl0 w0 ρ m { w with drawn := d } :=
  h.of_heap ⟨rfl, rfl, rfl, Nat.le_refl _, fun _ _ => rfl⟩ rfl

def upR (ρ : Rho) (i : Nat) (p : Pl) : Rho := fun j => if j = i then some p else ρ j
theorem upR_ext {ρ : Rho} {i : Nat} {p : Pl} (h : ρ i = none) : Ext ρ (upR ρ i p) := by
  intro j q hj
  unfold upR
  by_cases e : j = i
  · subst e; rw [h] at hj; cases hj
  · rw [if_neg e]; exact hj

/-- A NEW BLOCK. -/
theorem MemRel.new {B fl0 : Nat} {w0 : World} {ρ : Rho} {m : Mem} {w : World} (h : MemRel B fl0 w0 ρ m w) {n : Nat} (hn : ρ n = none) (hfl : fl0 ≤ n)
    (l : List SV) (arr : Array Value) (T : TypeId) (hl : l.length ≤ arr.size) (ha : All2 (SV.rel ρ) l (arr.toList.take l.length)) (fz : Nat × Nat := (0, 0)) (hz : ∀ o, o < arr.size → ¬ (fz.1 ≤ o ∧ o < fz.2) := by simp) :
    MemRel B fl0 w0 (upR ρ n ⟨w.heap.size, 0, arr.size⟩) (m.set n l) { w with heap := w.heap.push (.cells arr T fz) } := by
  have hext : Ext ρ (upR ρ n ⟨w.heap.size, 0, arr.size⟩) := upR_ext hn
  have hB : B ≤ w.heap.size := Nat.le_trans h.big h.below.size
  have hold : ∀ k, k < w.heap.size → (w.heap.push (Obj.cells arr T fz))[k]? = w.heap[k]? := fun k hk => by rw [Array.getElem?_push]; rw [if_neg (by omega)]
  have hlt : ∀ i l' p, m.get i = some l' → ρ i = some p → p.b < w.heap.size := by
    intro i l' p hi hp
    obtain ⟨p', hp', hb, _⟩ := h.mem i l' hi
    rw [hp] at hp'; cases hp'
    obtain ⟨_, _, _, h1, _⟩ := hb.at_
    exact (Array.getElem?_eq_some_iff.1 h1).1
  constructor
  · exact h.below.trans ⟨rfl, rfl, rfl, by simp, fun k hk => hold k (by omega)⟩
  · exact h.big
  · intro i l' hi
    rw [Tr.get_set] at hi
    by_cases e : i = n
    · subst e
      rw [if_pos rfl] at hi; cases hi
      refine ⟨_, by unfold upR; rw [if_pos rfl], ⟨arr, T, fz, ?_, rfl, by simpa using hl, ?_, fun _ o ho => hz o ho⟩, fun _ => hB⟩
      · simp
      · simpa using ha.mono fun _ _ => SV.rel_ext hext
    · rw [if_neg e] at hi
      obtain ⟨p, hp, hb, hq⟩ := h.mem i l' hi
      exact ⟨p, hext _ _ hp, (hb.ext hext).world (hold _ (hlt i l' p hi hp)), hq⟩
  · intro i j li lj p q hi hij gi gj hp hq
    rw [Tr.get_set] at gi gj
    unfold upR at hp hq
    by_cases ei : i = n
    · subst ei
      rw [if_pos rfl] at hp; cases hp
      rw [if_neg (Ne.symm hij)] at gj hq
      have := hlt j lj q gj hq
      simp only; omega
    · rw [if_neg ei] at gi hp
      by_cases ej : j = n
      · subst ej
        rw [if_pos rfl] at hq; cases hq
        have := hlt i li p gi hp
        simp only; omega
      · rw [if_neg ej] at gj hq
        exact h.sep i j li lj p q hi hij gi gj hp hq

/-- A BLOCK DIES. -/
theorem MemRel.kill {B fl0 : Nat} {w0 : World} {ρ : Rho} {m : Mem} {w : World} (h : MemRel B fl0 w0 ρ m w) (n : Nat) : MemRel B fl0 w0 ρ (m.upd n none) w := by
  have hg : ∀ i l, (m.upd n none).get i = some l → m.get i = some l := by
    intro i l hi
    rw [Tr.get_upd] at hi
    by_cases e : i = n
    · rw [if_pos e] at hi; cases hi
    · rwa [if_neg e] at hi
  exact ⟨h.below, h.big, fun i l hi => h.mem i l (hg i l hi), fun i j li lj p q hi hij gi gj => h.sep i j li lj p q hi hij (hg _ _ gi) (hg _ _ gj)⟩

/-- AN OWN BLOCK's CELLS TURN: its array is another, of the same size. -/
theorem MemRel.turn {B fl0 : Nat} {w0 : World} {ρ : Rho} {m : Mem} {w w' : World} (h : MemRel B fl0 w0 ρ m w) {i : Nat} {l l' : List SV} {p : Pl} (hfl : fl0 ≤ i) (hi : m.get i = some l) (hp : ρ i = some p)
    (arr' : Array Value) (T : TypeId) (fz : Nat × Nat) (hw : w'.heap[p.b]? = some (.cells arr' T fz)) (hsz : arr'.size = p.cs) (hlen : p.base + l'.length ≤ p.cs)
    (hfz : ∀ o, o < p.cs → ¬ (fz.1 ≤ o ∧ o < fz.2)) (ha : All2 (SV.rel ρ) l' ((arr'.toList.drop p.base).take l'.length))
    (hos : w'.os = w.os) (htape : w'.tape = w.tape) (hout : w'.output = w.output) (hsize : w.heap.size ≤ w'.heap.size) (hother : ∀ k, k ≠ p.b → k < w.heap.size → w'.heap[k]? = w.heap[k]?) :
    MemRel B fl0 w0 ρ (m.set i l') w' := by
  obtain ⟨p', hp', hb, hB⟩ := h.mem i l hi
  rw [hp] at hp'; cases hp'
  have hB1 := hB hfl
  have hbig : B ≤ w.heap.size := Nat.le_trans h.big h.below.size
  have hlt : ∀ j l' p, m.get j = some l' → ρ j = some p → p.b < w.heap.size := by
    intro i l' p hi hp
    obtain ⟨p', hp', hb, _⟩ := h.mem i l' hi
    rw [hp] at hp'; cases hp'
    obtain ⟨_, _, _, h1, _⟩ := hb.at_
    exact (Array.getElem?_eq_some_iff.1 h1).1
  constructor
  · exact h.below.trans ⟨hos, htape, hout, hsize, fun k hk => hother k (by omega) (by omega)⟩
  · exact h.big
  · intro j lj hj
    rw [Tr.get_set] at hj
    by_cases e : j = i
    · subst e
      rw [if_pos rfl] at hj; cases hj
      exact ⟨p, hp, ⟨arr', T, fz, hw, hsz, hlen, ha, fun _ => hfz⟩, fun _ => hB1⟩
    · rw [if_neg e] at hj
      obtain ⟨q, hq, hbq, hBq⟩ := h.mem j lj hj
      exact ⟨q, hq, hbq.world (hother _ (fun e' => h.sep i j l lj p q hfl (Ne.symm e) hi hj hp hq e'.symm) (hlt j lj q hj hq)), hBq⟩
  · intro j k lj lk q r hj hjk gj gk hq hr
    have key : ∀ j lj, (m.set i l').get j = some lj → ∃ l0, m.get j = some l0 := by
      intro j lj hj
      rw [Tr.get_set] at hj
      by_cases e : j = i
      · subst e; exact ⟨l, hi⟩
      · rw [if_neg e] at hj; exact ⟨lj, hj⟩
    obtain ⟨_, gj⟩ := key _ _ gj
    obtain ⟨_, gk⟩ := key _ _ gk
    exact h.sep j k _ _ q r hj hjk gj gk hq hr

end Go.Am

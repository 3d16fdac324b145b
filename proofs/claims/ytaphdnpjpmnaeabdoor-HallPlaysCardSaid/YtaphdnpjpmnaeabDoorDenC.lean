/- Rules: A law's arguments, read as data. -/
import Derived.Test.YtaphdnpjpmnaeabDoorDenB
import Derived.Deep.Slices
import Derived.SizedLaws
namespace Go.Am
open Go.ChangeShapes Go.WideShapes Go.RowKit

/-- What has been read of a world. -/
structure Ab (W : World) where
  n : Nat
  m : Mem
  ρ : Rho
  fresh : ∀ i, n ≤ i → ρ i = none
  ok : ∀ i l, m.get i = some l → i < n ∧ ∃ p, ρ i = some p ∧ BlockAt ρ false l p W
def Ab.le {W : World} (X Y : Ab W) : Prop := X.n ≤ Y.n ∧ Ext X.ρ Y.ρ ∧ ∀ i, i < X.n → Y.m.get i = X.m.get i
theorem Ab.le.refl {W : World} (X : Ab W) : X.le X := ⟨Nat.le_refl _, Ext.refl _, fun _ _ => rfl⟩
theorem Ab.le.trans {W : World} {X Y Z : Ab W} (h : X.le Y) (k : Y.le Z) : X.le Z := ⟨Nat.le_trans h.1 k.1, Ext.trans h.2.1 k.2.1, fun i hi => (k.2.2 i (Nat.lt_of_lt_of_le hi h.1)).trans (h.2.2 i hi)⟩
theorem Ab.le.fr {W : World} {X Y : Ab W} (h : X.le Y) : ∀ i, i < X.n → i < Y.n ∧ Y.m.get i = X.m.get i := fun i hi => ⟨Nat.lt_of_lt_of_le hi h.1, h.2.2 i hi⟩
def Ab.nil (W : World) : Ab W := ⟨0, .nil, fun _ => none, fun _ _ => rfl, fun i l h => by simp [Tr.get] at h⟩

/-- A type's data are read as A's, and are V. -/
def Rdr {α : Type} (P : Program) (t : TypeId) (A : Lay α) (V : α → Prop) : Prop :=
  ∀ {H : Type} (enc : TypeId × Value → H) (W : World) (fuel : Nat) (cs : List Value) (x : DataW H × List MemPlace), DataW.trod enc P W 0 (fun _ => true) true fuel t cs = some x →
    ∀ X : Ab W, ∃ (Y : Ab W) (l : List SV) (a : α), X.le Y ∧ All2 (SV.rel Y.ρ) l cs ∧ A.R (fun i => i < Y.n) Y.m a l ∧ V a

section
variable {P : Program} {t e : TypeId} {α β : Type} {A : Lay α} {B : Lay β} {V V' : α → Prop} {U : β → Prop}

def inR (k : IntKind) (n : Int) : Prop := k.min ≤ n ∧ n ≤ k.max
theorem Rdr.int {k : IntKind} (ht : P.underlying t = some (.int k)) : Rdr P t (Lay.one (SV.int k)) (inR k) := by
  intro H enc W fuel cs x h X
  obtain ⟨n, rfl, _, hw⟩ := DataW.trod_int ht h
  refine ⟨X, [.int k n], n, Ab.le.refl X, ⟨rfl, trivial⟩, rfl, ?_⟩
  simpa [Lit.wf, inR] using hw
theorem Rdr.bool (ht : P.underlying t = some .bool) : Rdr P t (Lay.one SV.bool) (fun _ => True) := by
  intro H enc W fuel cs x h X
  obtain ⟨b, rfl, _⟩ := DataW.trod_bool ht h
  exact ⟨X, [.bool b], b, Ab.le.refl X, ⟨rfl, trivial⟩, rfl, trivial⟩
theorem Rdr.str (ht : P.underlying t = some .string) : Rdr P t (Lay.one SV.str) (fun s => s.length ≤ maxLen) := by
  intro H enc W fuel cs x h X
  obtain ⟨s, rfl, _, hs⟩ := DataW.trod_string ht h
  exact ⟨X, [.str s.data.toList], s.data.toList, Ab.le.refl X, ⟨rfl, trivial⟩, rfl, by simpa using hs⟩
theorem Rdr.mono (h : Rdr P t A V) (hv : ∀ a, V a → V' a) : Rdr P t A V' := by
  intro H enc W fuel cs x hx X
  obtain ⟨Y, l, a, h1, h2, h3, h4⟩ := h enc W fuel cs x hx X
  exact ⟨Y, l, a, h1, h2, h3, hv _ h4⟩

/-- Two data, one behind the other. -/
def Lay.prod (A : Lay α) (B : Lay β) : Lay (α × β) where
  sz := A.sz + B.sz
  R z m a cs := ∃ c1 c2, cs = c1 ++ c2 ∧ A.R z m a.1 c1 ∧ B.R z m a.2 c2
  len := by rintro z m a cs ⟨c1, c2, rfl, h1, h2⟩; rw [List.length_append, A.len h1, B.len h2]
  frame := by rintro z z' m m' a cs ⟨c1, c2, rfl, h1, h2⟩ k; exact ⟨c1, c2, rfl, A.frame h1 k, B.frame h2 k⟩

theorem Rdr.via {γ : Type} {C : Lay γ} {T : γ → Prop} (g : α → γ) (h : Rdr P t A V) (hr : ∀ z m a cs, A.R z m a cs → C.R z m (g a) cs) (hv : ∀ a, V a → T (g a)) : Rdr P t C T := by
  intro H enc W fuel cs x hx X
  obtain ⟨Y, l, a, h1, h2, h3, h4⟩ := h enc W fuel cs x hx X
  exact ⟨Y, l, g a, h1, h2, hr _ _ _ _ h3, hv _ h4⟩

/-- The fields from one on, as a row of cells. -/
def RdrF {α : Type} (P : Program) (fs : List Field) (o : Nat) (A : Lay α) (V : α → Prop) : Prop :=
  ∀ {H : Type} (enc : TypeId × Value → H) (W : World) (n : Nat) (cs : List Value) (xs : List (DataW H × List MemPlace)), (∀ (i : Nat) (f : Field), fs[i]? = some f → DataW.trod enc P W 0 (fun _ => true) true n f.type ((cs.drop f.offset).take (P.cellsOf f.type)) = xs[i]?) → xs.length = fs.length → o + A.sz = cs.length →
    ∀ X : Ab W, ∃ (Y : Ab W) (l : List SV) (a : α), X.le Y ∧ All2 (SV.rel Y.ρ) l (cs.drop o) ∧ A.R (fun i => i < Y.n) Y.m a l ∧ V a

theorem RdrF.one {f : Field} {o : Nat} (ho : f.offset = o) (hs : P.cellsOf f.type = A.sz) (h : Rdr P f.type A V) : RdrF P [f] o A V := by
  intro H enc W n cs xs hx hl hc X
  have h0 := hx 0 f rfl
  match xs, hl with
  | [y], _ =>
    obtain ⟨Y, l, a, h1, h2, h3, h4⟩ := h enc W n _ y (by simpa using h0) X
    rw [ho, hs, List.take_of_length_le (by rw [List.length_drop]; omega)] at h2
    exact ⟨Y, l, a, h1, h2, h3, h4⟩
theorem RdrF.cons {f : Field} {fs : List Field} {o : Nat} (ho : f.offset = o) (hs : P.cellsOf f.type = A.sz) (h : Rdr P f.type A V) (hr : RdrF P fs (o + A.sz) B U) : RdrF P (f :: fs) o (Lay.prod A B) (fun a => V a.1 ∧ U a.2) := by
  intro H enc W n cs xs hx hl hc X
  have hc : o + (A.sz + B.sz) = cs.length := hc
  match xs, hl with
  | y :: ys, hl =>
    have h0 := hx 0 f rfl
    obtain ⟨Y, l, a, h1, h2, h3, h4⟩ := h enc W n _ y (by simpa using h0) X
    obtain ⟨Z, l', b, k1, k2, k3, k4⟩ := hr enc W n cs ys (fun i g hg => by simpa using hx (i + 1) g (by simpa using hg)) (by simpa using hl) (by omega) Y
    refine ⟨Z, l ++ l', (a, b), h1.trans k1, ?_, ⟨l, l', rfl, A.frame h3 k1.fr, k3⟩, h4, k4⟩
    rw [ho, hs] at h2
    have := All2.append (h2.mono fun _ _ => SV.rel_ext k1.2.1) k2
    rwa [← List.drop_drop, List.take_append_drop] at this
theorem Rdr.struct {fs : Array Field} {l : List Field} (ht : P.underlying t = some (.struct fs)) (hl : fs.toList = l) (hs : P.cellsOf t = A.sz) (h : RdrF P l 0 A V) : Rdr P t A V := by
  intro H enc W fuel cs x hx X
  obtain ⟨xs, n, _, _, h1, h2, h3⟩ := DataW.trod_struct ht hx
  obtain ⟨Y, l', a, k1, k2, k3, k4⟩ := h enc W n cs xs (fun i f hf => h3 i f (by rw [← hl] at hf; simpa using hf)) (by rw [h2, ← hl]; simp) (by omega) X
  exact ⟨Y, l', a, k1, by simpa using k2, k3, k4⟩

theorem cell?_heap {W : World} {a : Addr} {v : Value} (h : W.cell? a = some v) : a.spot = none ∧ ∃ arr T fz, W.heap[a.block]? = some (.cells arr T fz) ∧ arr[a.off]? = some v := by
  refine ⟨World.cell?_spot h, ?_⟩
  unfold World.cell? at h
  split at h
  · rename_i c T fz hb
    split at h
    · cases h
    · exact ⟨c, T, fz, hb, h⟩
  · cases h

theorem Rdr.sl (ht : P.underlying t = some (.slice e)) (hs : P.cellsOf e = A.sz) (h0 : A.sz ≠ 0) (h : Rdr P e A V) : Rdr P t (Lay.sl A) (fun L => L.length ≤ maxLen ∧ ∀ a ∈ L, V a) := by
  intro H enc W fuel cs x hx X
  rcases Go.Deep.open_slice ht hx with ⟨rfl, _⟩ | ⟨a, len, cap, m, n, D, Plc, rfl, hb, hl, hm, hmm, _, hel⟩
  · exact ⟨X, [.nils], [], Ab.le.refl X, ⟨rfl, trivial⟩, ⟨.nils, rfl, .inl ⟨.inl rfl, rfl⟩⟩, by simp, by simp⟩
  simp only [if_true] at hmm
  subst hmm
  by_cases hlen : len = 0
  · subst hlen
    exact ⟨X, [.emp], [], Ab.le.refl X, ⟨⟨_, _, rfl⟩, trivial⟩, ⟨.emp, rfl, .inl ⟨.inr rfl, rfl⟩⟩, by simp, by simp⟩
  rw [hs] at hel
  -- where it lies
  have hcell : ∀ i, i < m → ∀ j, j < A.sz → ∃ v, W.cell? ((a.add (i * A.sz)).add j) = some v := by
    intro i hi j hj
    obtain ⟨cs', h1, _⟩ := hel i hi
    obtain ⟨_, h2, h3⟩ := World.cells?_some h1
    rw [h3 j hj]
    exact ⟨_, List.getElem?_eq_getElem (by omega)⟩
  obtain ⟨v0, hv0⟩ := hcell 0 (by omega) 0 (by omega)
  obtain ⟨hspot, arr, T, fz, hheap, _⟩ := cell?_heap (show W.cell? a = some v0 by simpa [Addr.add] using hv0)
  obtain ⟨ab, ao, asp⟩ := a
  simp only at hspot
  subst hspot
  simp only at hheap
  have hat : ∀ i, i < m → ∀ j, j < A.sz → ∀ v, W.cell? (((⟨ab, ao, none⟩ : Addr).add (i * A.sz)).add j) = some v → arr[ao + i * A.sz + j]? = some v := by
    intro i hi j hj v hv
    have e1 : ((⟨ab, ao, none⟩ : Addr).add (i * A.sz)).add j = ⟨ab, ao + i * A.sz + j, none⟩ := by
      unfold Addr.add
      by_cases q1 : i * A.sz = 0 <;> by_cases q2 : j = 0 <;> simp [q1, q2, Nat.add_assoc]
    rw [e1] at hv
    obtain ⟨_, arr', T', fz', g1, g2⟩ := cell?_heap hv
    simp only at g1 g2
    rw [hheap] at g1
    cases g1
    exact g2
  have hsize : ao + m * A.sz ≤ arr.size := by
    obtain ⟨v, hv⟩ := hcell (m - 1) (by omega) (A.sz - 1) (by omega)
    have := (Array.getElem?_eq_some_iff.1 (hat _ (by omega) _ (by omega) v hv)).1
    have e2 : (m - 1) * A.sz = m * A.sz - A.sz := by rw [Nat.sub_mul, Nat.one_mul]
    have e3 : A.sz ≤ m * A.sz := Nat.le_mul_of_pos_left _ (by omega)
    omega
  -- the elements, one by one
  have key : ∀ k, k ≤ len → ∃ (Y : Ab W) (l : List SV) (L : List α), X.le Y ∧ L.length = k ∧ RL A (fun i => i < Y.n) Y.m L l ∧ (∀ a ∈ L, V a) ∧ All2 (SV.rel Y.ρ) l ((arr.toList.drop ao).take (k * A.sz)) := by
    intro k
    induction k with
    | zero => intro _; exact ⟨X, [], [], Ab.le.refl X, rfl, rfl, by simp, by simp [All2]⟩
    | succ k ih =>
      intro hk
      obtain ⟨Y, l, L, h1, h2, h3, h4, h5⟩ := ih (by omega)
      obtain ⟨cs', g1, g2⟩ := hel k (by omega)
      obtain ⟨_, g3, g4⟩ := World.cells?_some g1
      obtain ⟨Z, l', a', k1, k2, k3, k4⟩ := h enc W n cs' _ g2 Y
      refine ⟨Z, l ++ l', L ++ [a'], h1.trans k1, by simp [h2], RL.append (h3.frame k1.fr) (RL.one k3), ?_, ?_⟩
      · intro b hb
        rcases List.mem_append.1 hb with hb | hb
        · exact h4 b hb
        · simp at hb; subst hb; exact k4
      · have hcs : cs' = (arr.toList.drop (ao + k * A.sz)).take A.sz := by
          apply List.ext_getElem?
          intro j
          by_cases hj : j < A.sz
          · obtain ⟨v, hv⟩ := hcell k (by omega) j hj
            rw [← g4 j hj, hv, List.getElem?_take_of_lt hj, List.getElem?_drop]
            have := hat k (by omega) j hj v hv
            rw [Array.getElem?_toList]; exact this.symm
          · rw [List.getElem?_eq_none (by omega), List.getElem?_eq_none (by rw [List.length_take]; omega)]
        rw [hcs] at k2
        have := All2.append (h5.mono fun _ _ => SV.rel_ext k1.2.1) k2
        rwa [Nat.add_mul, Nat.one_mul, List.take_add, List.drop_drop]
  obtain ⟨Y, l, L, h1, h2, h3, h4, h5⟩ := key len (Nat.le_refl _)
  have hll := h3.length
  have hmul : len * A.sz ≤ m * A.sz := Nat.mul_le_mul_right _ hl
  let p : Pl := ⟨ab, ao, arr.size⟩
  have hY : Y.ρ Y.n = none := Y.fresh _ (Nat.le_refl _)
  have hext : Ext Y.ρ (upR Y.ρ Y.n p) := upR_ext hY
  let Z : Ab W := ⟨Y.n + 1, Y.m.set Y.n l, upR Y.ρ Y.n p, fun i hi => by unfold upR; rw [if_neg (by omega)]; exact Y.fresh i (by omega), fun i l' hi => by
    rw [Tr.get_set] at hi
    by_cases e : i = Y.n
    · rw [if_pos e] at hi; cases hi; subst e
      refine ⟨by omega, p, by simp [upR], ⟨arr, T, fz, hheap, rfl, ?_, ?_, fun q => by cases q⟩⟩
      · show ao + l.length ≤ arr.size; rw [hll, h2]; omega
      · show All2 _ l ((arr.toList.drop ao).take l.length)
        rw [hll, h2]
        exact h5.mono fun _ _ => SV.rel_ext hext
    · rw [if_neg e] at hi
      obtain ⟨q1, q, q2, q3⟩ := Y.ok i l' hi
      exact ⟨by omega, q, by unfold upR; rw [if_neg e]; exact q2, q3.ext hext⟩⟩
  have hle : Y.le Z := ⟨Nat.le_succ _, hext, fun i hi => Tr.get_set_ne _ _ (by omega)⟩
  refine ⟨Z, [.sl Y.n 0 len len A.sz], L, h1.trans hle, ⟨⟨p, m, by simp [Z, upR], Nat.le_refl _, hl, hm, ?_, by simp [p]⟩, trivial⟩, ⟨_, rfl, .inr ⟨Y.n, 0, len, l, by rw [h2], by omega, Nat.lt_succ_self _, Tr.get_set_same _ _ _, by rw [hll]; simp, ?_⟩⟩, by rw [h2]; omega, h4⟩
  · show ao + 0 + m * A.sz ≤ arr.size; omega
  · rw [List.drop_zero, ← hll, List.take_length]
    exact h3.frame hle.fr

/-- An argument of one cell. -/
theorem Rdr.arg {H : Type} {enc : TypeId × Value → H} {W : World} {v : Value} {d : DataW H} {ps : List MemPlace} (h : Rdr P t A V) (hv : v.cells = #[v]) (hd : DataW.Trod enc P W 0 (fun _ => true) true t v d ps) (X : Ab W) :
    ∃ (Y : Ab W) (x : SV) (a : α), X.le Y ∧ AV.rel Y.ρ (.sc x) v ∧ A.R (fun i => i < Y.n) Y.m a [x] ∧ V a := by
  obtain ⟨fuel, hf⟩ := hd
  obtain ⟨Y, l, a, h1, h2, h3, h4⟩ := h enc W fuel _ _ hf X
  rw [hv] at h2
  match l, h2 with
  | [x], h2 => exact ⟨Y, x, a, h1, h2.1, h3, h4⟩
/-- An argument that is a struct. -/
theorem Rdr.argA {H : Type} {enc : TypeId × Value → H} {W : World} {cs : Array Value} {d : DataW H} {ps : List MemPlace} (h : Rdr P t A V) (hd : DataW.Trod enc P W 0 (fun _ => true) true t (.agg cs) d ps) (X : Ab W) :
    ∃ (Y : Ab W) (l : List SV) (a : α), X.le Y ∧ AV.rel Y.ρ (.agg l) (.agg cs) ∧ A.R (fun i => i < Y.n) Y.m a l ∧ V a := by
  obtain ⟨fuel, hf⟩ := hd
  obtain ⟨Y, l, a, h1, h2, h3, h4⟩ := h enc W fuel _ _ hf X
  exact ⟨Y, l, a, h1, ⟨cs, rfl, h2⟩, h3, h4⟩

/-- An argument that is a slice, and the reach: its bytes. -/
theorem arg_sized {P : Program} {t e : TypeId} {α : Type} {A : Lay α} {H : Type} {enc : TypeId × Value → H} {W : World} {z : Option Addr} {zl zc : Nat} {d : DataW H} {ps : List MemPlace} {ts : List TypeId} {ds : List (DataW H)} {j : Nat}
    (hs : (DataW.weightsEach P ts ds).all (· ≤ reachBytes) = true) (htj : ts[j]? = some t) (hdj : ds[j]? = some d) (ht : P.underlying t = some (.slice e)) (hd : DataW.Trod enc P W 0 (fun _ => true) true t (.slice z zl zc) d ps)
    {ρ : Rho} {w : SV} {zo zi : Nat → Prop} {m : Mem} {a : List α} (hr : AV.rel ρ (.sc w) (.slice z zl zc)) (hR : RO A zo zi m w a) : a.length * P.bytesOf e ≤ 140737488351232 := by
  rcases hR with ⟨_, rfl⟩ | ⟨i, o, c, cs, rfl, _⟩
  · simp
  · obtain ⟨p, cc, _, _, _, _, _, hv⟩ := hr
    injection hv with h1 h2 h3
    obtain ⟨fuel, hf⟩ := hd
    rcases Go.Deep.open_slice ht hf with ⟨e1, _⟩ | ⟨a', len, cap, m', n, D, Plc, e1, hb, hl, hm, hmm, e2, hel⟩
    · have e1 : Value.slice z zl zc = .slice none 0 0 := by simpa [Value.cells] using e1
      injection e1 with e1 _ _
      rw [h1] at e1; cases e1
    · have e1 : Value.slice z zl zc = .slice (some a') len cap := by simpa [Value.cells] using e1
      injection e1 with _ e1 _
      have hdd : d = .slice ((List.range len).map D) ((List.range (m' - len)).map fun j => D (len + j)) := congrArg Prod.fst e2
      rw [hdd] at hdj
      have := sized_slice hs htj hdj ht
      simp only [List.length_map, List.length_range] at this
      have hlen : len = a.length := by omega
      rw [hlen] at this
      have h5 : a.length * P.bytesOf e ≤ (a.length + (m' - a.length)) * P.bytesOf e := Nat.mul_le_mul_right _ (by omega)
      have : reachBytes = 140737488351232 := rfl
      omega

/-- THE LAW's CALL: the functional text says true. -/
theorem law_ret {E : Env} (hE : EnvOk P E) (hF : ∀ f fi, E.fn f = some fi → FnOk P f fi) {f : Nat} {args : List AV} {W : World} {vals : Array Value} {X : Ab W} (h : Ret E X.n f args X.m X.n (fun v _ _ => v = .sc (.bool true)))
    (ha : All2 (AV.rel X.ρ) args vals.toList) : Calls P f vals W fun e w' => e = .returned (.bool true) ∧ Below W.heap.size W w' := by
  obtain ⟨k, v, m', n', h1, rfl⟩ := h
  exact law_calls hE hF h1 (MemRel.init X.ok) ha X.fresh
end
end Go.Am


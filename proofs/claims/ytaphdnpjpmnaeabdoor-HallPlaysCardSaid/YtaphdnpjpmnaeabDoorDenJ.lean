/- Rules: More rules: views of own slices, copy, append of zeros, make with a capacity. More rules: cells that a function value refers to. More rules: functions that turn a slice of theirs in place. More rules: lists of rows whose rows are owned as well. More rules: blocks whose cells are known one by one; calls that turn what they are given. Regions in which an 'append' stands beside what reads: what is known of the blocks when they are over. Results that are read out of cells. Rules: an own slice by its raw header, cell by cell; what slices.Compact, CompactFunc and Grow ask. Rules: maps; regions in which a call turns what is old beside a load. Rules: maps as objects. Rules: results in flat cells, of the form S; three numbers' least; arrays read through pointers; beginnings that are own as well; appends and deletes by their bytes; clear. -/
import Derived.Test.YtaphdnpjpmnaeabDoorDenB
namespace Go.Am

def appZ? {α : Type} (L : List α) (k : Int) (z : α) : Option (List α) := if 0 ≤ k ∧ L.length + k.toNat ≤ 549755813888 then some (L ++ List.replicate k.toNat z) else none
def mkC? {α : Type} (n c : Int) (z : α) : Option (List α) := if 0 ≤ n ∧ n ≤ c ∧ c ≤ 1099511627776 then some (List.replicate n.toNat z) else none
/-- What 'copy' leaves in L. -/
def cpy {α : Type} (L M : List α) : List α := M.take L.length ++ L.drop M.length

/-- A view of what is k's. -/
def Wk {α : Type} {fl : Nat} (A : Lay α) (S : Cx fl) (k : Nat) (v : SV) (L : List α) : Prop := RO A (fun i => i < S.n ∧ S.ow i = k) S.fz S.m v L

section wk
variable {α : Type} {A : Lay α} {fl k j : Nat} {S S' : Cx fl} {v : SV} {L : List α}
theorem Ow.wk (h : Ow A S k v L) : Wk A S k v L := RO.to h.oz (fun _ h => ⟨h.2, rfl⟩) (fun _ h => ⟨h, rfl⟩)
theorem Wk.slv (h : Wk A S k v L) : SlV v A.sz L.length := RO.slv h
theorem Wk.ro (h : Wk A S k v L) : RO A (fun i => i < S.n) S.fz S.m v L := RO.to h (fun _ h => ⟨h.1, rfl⟩) (fun _ h => ⟨h, rfl⟩)
theorem Wk.oz (h : Wk A S k v L) : RO A (fun i => i < S.n ∧ i < S.n ∧ S.ow i = k) S.fz S.m v L := RO.to h (fun _ h => ⟨⟨h.1, h⟩, rfl⟩) (fun _ h => ⟨h, rfl⟩)
theorem Wk.vw (h : Wk A S k v L) : Vw A S.n S.m v L := RO.to h.ro (fun _ h => ⟨h, rfl⟩) (fun _ h => ⟨h.1, rfl⟩)
theorem Wk.to (h : Wk A S j v L) (c : Ch k S S') (hk : Nat.beq k 0 = false := by rfl) (hj : Nat.beq j k = false := by rfl) : Wk A S' j v L := by
  have hk : k ≠ 0 := fun e => by subst e; cases hk
  have hj : j ≠ k := fun e => by subst e; rw [show Nat.beq j j = true by simp] at hj; cases hj
  refine RO.to h (fun i hi => ?_) (fz_ch c hk)
  obtain ⟨h1, h2⟩ := c.ow i hi.1 (by omega)
  exact ⟨⟨Nat.lt_of_lt_of_le hi.1 c.n, by rw [h1]; exact hi.2⟩, h2⟩
theorem fz_drop (k : Nat) : ∀ i, S.fz i → (S.drop k).fz i ∧ (S.drop k).m.get i = S.m.get i := fun i ⟨h1, h2⟩ => ⟨⟨h1, by simp only [Cx.drop]; split; rfl; exact h2⟩, rfl⟩
theorem Wk.drop (h : Wk A S j v L) (k : Nat) (hj : Nat.beq j k = false := by rfl) : Wk A (S.drop k) j v L := by
  have hj : j ≠ k := fun e => by subst e; rw [show Nat.beq j j = true by simp] at hj; cases hj
  exact RO.to h (fun i hi => ⟨⟨hi.1, by simp only [Cx.drop]; rw [if_neg (by omega)]; exact hi.2⟩, rfl⟩) (fz_drop k)
theorem Wk.renO {i : Nat} (h : Wk A S i v L) (k j : Nat) (hk : Nat.beq k 0 = false := by rfl) (hj : Nat.beq j 0 = false := by rfl) (hik : Nat.beq i k = false := by rfl) (hij : Nat.beq i j = false := by rfl) : Wk A (S.ren k j) i v L := by
  have hk : k ≠ 0 := fun e => by subst e; cases hk
  have hj : j ≠ 0 := fun e => by subst e; cases hj
  have hik : i ≠ k := fun e => by subst e; rw [show Nat.beq i i = true by simp] at hik; cases hik
  have hij : i ≠ j := fun e => by subst e; rw [show Nat.beq i i = true by simp] at hij; cases hij
  exact RO.to h (fun q hq => ⟨⟨hq.1, by simp only [Cx.ren]; rw [if_neg (by omega), if_neg (by omega)]; exact hq.2⟩, rfl⟩) (fz_ren k j hk hj)
theorem Wk.freeze (h : Wk A S k v L) : Rd A (S.drop k) v L := RO.to h (fun i hi => ⟨⟨hi.1, by simp only [Cx.drop]; rw [if_pos hi.2]⟩, rfl⟩) (fz_drop k)
end wk

section rules
variable {E : Env} {lo : List Nat} {fl : Nat} {loose : Nat → Bool} {lim : Option Nat} {ops : Array Oper} {os : List Oper}
variable {l : LE} {m : Mem} {n : Nat} {K : LE → Mem → Nat → Prop}
variable {d : Nat} {ty t t1 : TypeId} {pos : String} {af : Array Edge} {x y i : Operand} {v w : SV} {k k' : IntKind} {a b : Int}
variable {α : Type} {A : Lay α} {S : Cx fl} {L L' M : List α} {j q : Nat} {u : α} {s : SV} {id : Nat}

/-- make([]T, n, c) -/
theorem WO.mkC {z0 : α} {i2 : Operand} (id : Nat) (hi : evK l i = some (.sc (.int k a))) (hi2 : evK l i2 = some (.sc (.int k' b))) (hM : mkC? a b z0 = some M) (hz : A.R S.fz S.m z0 (slZ E t)) (hT : slTs E t A.sz = true) (hid : Nat.beq id 0 = false)
    (h : ∀ v' S', Ch id S S' → Ow A S' id v' M → WO E loose fl lim ops os ((d, .sc v') :: l) S'.m S'.n K) : WO E loose fl lim ops (⟨some d, .makeSlice t i i2, ty, pos, af, none⟩ :: os) l S.m S.n K := ⟨fun tt ht => by
  have hid : id ≠ 0 := fun e => by subst e; cases hid
  obtain ⟨y, e, h1, h2, h3, h4, h5, h5', h6⟩ := slTs_ok hT
  unfold mkC? at hM
  split at hM
  · rename_i ha
    cases hM
    have hz : A.R S.fz S.m z0 e.zero := by simpa [slZ, h1, h3] using hz
    have hR := RL.replicate hz b.toNat
    have hl := hR.length
    rw [List.length_replicate] at hl
    have hR2 := RL.take a.toNat hR
    rw [List.take_replicate, Nat.min_eq_left (by omega)] at hR2
    obtain ⟨S', e1, e2, h7, h8⟩ := Ow.fresh (S := S) (L := List.replicate a.toNat z0) (cs := (List.replicate b.toNat e.zero).flatten) (c := b.toNat) (by rw [List.length_replicate]; exact hR2) hid (by simp; omega) hl
    refine W_op2 (m' := S'.m) (n' := S'.n) ?_ ((h _ S' h7 h8).put ht)
    have : b * (e.bytes : Int) ≤ 281474976710656 := by
      have h5 : b * (e.bytes : Int) ≤ b * 256 := Int.mul_le_mul_of_nonneg_left (by omega) (by omega)
      omega
    simp only [opA, evK_ev ht hi, evK_ev ht hi2, makeSliceA, h1, h2, h3]
    rw [e1, e2]
    simp [ha, this, h4, h5]
    omega
  · cases hM⟩

/-- append(s, make([]T, n)...) -/
theorem WO.appZ {y2 : Operand} {u : TypeId} {yu : Ty} {z0 : α} (hx : evK l x = some (.sc v)) (hy : evK l y2 = some (.sc (.int k a))) (hs : Ow A S id v L) (hz : A.R S.fz S.m z0 (slZ E t)) (hM : appZ? L a z0 = some M) (hT : slTs E t A.sz = true) (hu : E.ty u = some yu) (hk : yu.kind = 1) (hne : Nat.beq u t = false) (hid : Nat.beq id 0 = false)
    (h : ∀ v' S', Ch id S S' → Ow A S' id v' M → WO E loose fl lim ops os ((d, .sc v') :: l) S'.m S'.n K) :
    WO E loose fl lim ops (⟨some d, .call ⟨.builtin .append, #[x, y2], #[t, u]⟩, ty, pos, af, none⟩ :: os) l S.m S.n K := ⟨fun tt ht => by
  have hid : id ≠ 0 := fun e => by subst e; cases hid
  have hne : u ≠ t := fun e => by subst e; simp at hne
  obtain ⟨z, e, h1, h2, h3, h4, h5, h5', h6⟩ := slTs_ok hT
  unfold appZ? at hM
  split at hM
  · rename_i ha
    cases hM
    have hz : A.R S.fz S.m z0 e.zero := by simpa [slZ, h1, h3] using hz
    have hnew := RL.replicate hz a.toNat
    obtain ⟨old, q3, q4⟩ := hs.ro.elems
    have holdc : ∀ b c, v = .sl b 0 L.length c A.sz → ∀ cs, S.m.get b = some cs → old = cs.take (L.length * A.sz) := by
      intro b c e cs hcs
      subst e
      simp only [elemsA, hcs] at q3
      rw [if_neg (by simp)] at q3
      split at q3
      · cases q3; rfl
      · cases q3
    obtain ⟨v', S', q5, q6, q7⟩ := hs.app hid hnew h4 h6 (by rw [List.length_replicate]; exact ha.2) q4 holdc
    rw [List.length_replicate] at q5
    refine W_op2 (m' := S'.m) (n' := S'.n) ?_ ((h v' S' q6 q7).put ht)
    have hby : a * (e.bytes : Int) ≤ 281474976710656 := by
      have h5 : a * (e.bytes : Int) ≤ a * 256 := Int.mul_le_mul_of_nonneg_left (by omega) (by omega)
      omega
    simp only [opA, callA, builtinA, List.map_cons, List.map_nil, evK_ev ht hx, evK_ev ht hy]
    simp only [List.getElem?_toArray, List.getElem?_cons_zero, List.getElem?_cons_succ, Option.some.injEq, hne, if_false, appendZA, h1, h2, h3, hu, hk, h4, h5]
    rw [q3]
    have hcond : ¬ (A.sz = 0 ∨ A.sz ≠ A.sz ∨ a < 0 ∨ a > 9223372036854775807 ∨ a * (e.bytes : Int) > 281474976710656) := by
      intro hc
      rcases hc with hc | hc | hc | hc | hc
      · exact h5' hc
      · exact hc rfl
      · omega
      · omega
      · omega
    simp only [ne_eq, not_true_eq_false, or_self, if_false]
    rw [if_neg (by simpa using hcond)]
    exact q5
  · cases hM⟩

/-- copy(s, s2) -/
theorem WO.cpS {y2 : Operand} {zo : Nat → Prop} (hx : evK l x = some (.sc v)) (hy : evK l y2 = some (.sc w)) (hs : Ow A S id v L) (hs2 : RO A zo S.fz S.m w M) (hT : slTs E t A.sz = true) (hid : Nat.beq id 0 = false)
    (h : ∀ S', Ch id S S' → Ow A S' id v (cpy L M) → WO E loose fl lim ops os ((d, .sc (.int .i64 (minI (L.length : Int) (M.length : Int)))) :: l) S'.m S'.n K) :
    WO E loose fl lim ops (⟨some d, .call ⟨.builtin .copy, #[x, y2], #[t, t]⟩, ty, pos, af, none⟩ :: os) l S.m S.n K := ⟨fun tt ht => by
  have hid : id ≠ 0 := fun e => by subst e; cases hid
  obtain ⟨z, e, h1, h2, h3, h4, h5, h5', h6⟩ := slTs_ok hT
  obtain ⟨new, q1, q2⟩ := hs2.elems
  obtain ⟨old, q3, q4⟩ := hs.ro.elems
  have hnl := q2.length
  have hmin : (minI (L.length : Int) (M.length : Int)) = ((min M.length L.length : Nat) : Int) := by unfold minI; split <;> omega
  rw [hmin] at h
  rcases hs with ⟨rfl, rfl⟩ | ⟨bb, c, cs, rfl, p2, p3, p4, p5, p6, p7, p8⟩
  · refine W_op2 (m' := S.m) (n' := S.n) ?_ ((h S (Ch.refl _ _) (.inl ⟨rfl, by simp [cpy]⟩)).put ht)
    simp only [opA, callA, builtinA, List.map_cons, List.map_nil, evK_ev ht hx, evK_ev ht hy]
    simp only [List.getElem?_toArray, List.getElem?_cons_zero, List.getElem?_cons_succ, if_true, copyA, h1, h2, h3, h4]
    rw [q3, q1]
    simp
  · have hle2 : L.length * A.sz ≤ c * A.sz := Nat.mul_le_mul_right _ p5
    have hlen : (cpy L M).length = L.length := by simp only [cpy, List.length_append, List.length_take, List.length_drop]; omega
    have hmm : min M.length L.length * A.sz ≤ L.length * A.sz := Nat.mul_le_mul_right _ (Nat.min_le_right _ _)
    have hmm2 : min M.length L.length * A.sz ≤ M.length * A.sz := Nat.mul_le_mul_right _ (Nat.min_le_left _ _)
    have htl : (new.take (min M.length L.length * A.sz)).length = min M.length L.length * A.sz := by rw [List.length_take, hnl]; omega
    have hch : Ch id S (⟨S.m.set bb (splice cs 0 (new.take (min M.length L.length * A.sz))), S.n, S.ow, S.le⟩ : Cx fl) := ⟨Nat.le_refl _, fun i hi hk => ⟨rfl, Tr.get_set_ne _ _ (fun e => hk (by rw [e]; exact p4))⟩⟩
    refine W_op2 (m' := (⟨S.m.set bb (splice cs 0 (new.take (min M.length L.length * A.sz))), S.n, S.ow, S.le⟩ : Cx fl).m) (n' := S.n) ?_ ((h ⟨S.m.set bb (splice cs 0 (new.take (min M.length L.length * A.sz))), S.n, S.ow, S.le⟩ hch (.inr ⟨bb, c, _, by rw [hlen], p2, p3, p4, by rw [hlen]; exact p5, Tr.get_set_same _ _ _, ?_, ?_⟩)).put ht)
    · simp only [opA, callA, builtinA, List.map_cons, List.map_nil, evK_ev ht hx, evK_ev ht hy]
      simp only [List.getElem?_toArray, List.getElem?_cons_zero, List.getElem?_cons_succ, if_true, copyA, h1, h2, h3, h4]
      rw [q3, q1]
      simp only [p6]
      rw [if_neg (by simp), if_neg (by omega), if_pos (by omega)]
    · simp only [splice, List.length_append, List.length_take, List.length_drop, hnl]; omega
    · rw [hlen]
      have hR : RL A S.fz S.m (cpy L M) (new.take (min M.length L.length * A.sz) ++ (cs.take (L.length * A.sz)).drop (min M.length L.length * A.sz)) := by
        have r1 := RL.take (min M.length L.length) q2
        have r2 := RL.drop (min M.length L.length) p8
        have e1 : cpy L M = M.take (min M.length L.length) ++ L.drop (min M.length L.length) := by
          unfold cpy
          by_cases hml : M.length ≤ L.length
          · rw [Nat.min_eq_left hml, List.take_of_length_le hml, List.take_of_length_le (Nat.le_refl _)]
          · rw [Nat.min_eq_right (by omega), List.drop_of_length_le (by omega), List.drop_of_length_le (by omega)]
        rw [e1]; exact RL.append r1 r2
      have hR := hR.frame (fz_ch hch hid)
      have e2 : (splice cs 0 (new.take (min M.length L.length * A.sz))).take (L.length * A.sz) = new.take (min M.length L.length * A.sz) ++ (cs.take (L.length * A.sz)).drop (min M.length L.length * A.sz) := by
        simp only [splice, List.take_zero, List.nil_append, Nat.zero_add]
        rw [List.take_append, List.take_of_length_le (l := new.take _) (by rw [htl]; exact hmm), htl, List.drop_take]
      rw [e2]; exact hR⟩
end rules
end Go.Am

namespace Go.Am

/-- A cell that a callee reads. -/
def Pv {α : Type} (A : Lay α) (n : Nat) (m : Mem) (b : Nat) (u : α) : Prop := b < n ∧ ∃ cs, m.get b = some cs ∧ A.R (fun i => i < n) m u cs
/-- A cell that nobody writes. -/
def Rp {α : Type} {fl : Nat} (A : Lay α) (S : Cx fl) (v : SV) (u : α) : Prop := ∃ b cs, v = .ptr b 0 ∧ S.fz b ∧ S.m.get b = some cs ∧ A.R S.fz S.m u cs

section rp
variable {α : Type} {A : Lay α} {fl k j b : Nat} {S S' : Cx fl} {v : SV} {u : α} {m : Mem}
theorem Pv.rpS {n : Nat} {S : Cx n} (h : Pv A n m b u) (em : S.m = m) (hz : ∀ i, i < n → S.fz i) : Rp A S (.ptr b 0) u := by
  subst em
  obtain ⟨h1, cs, h2, h3⟩ := h
  exact ⟨b, cs, rfl, hz b h1, h2, A.frame h3 fun i hi => ⟨hz i hi, rfl⟩⟩
theorem Rp.pv (h : Rp A S (.ptr b 0) u) : Pv A S.n S.m b u := by
  obtain ⟨b', cs, e, h1, h2, h3⟩ := h
  cases e
  exact ⟨h1.1, cs, h2, A.frame h3 fun i hi => ⟨hi.1, rfl⟩⟩
theorem Bk.pv {id : Nat} (h : Bk A S id (.ptr b 0) u) : Pv A S.n S.m b u := by
  obtain ⟨b', cs, e, _, h1, _, h2, h3⟩ := h
  cases e
  exact ⟨h1, cs, h2, A.frame h3 fun i hi => ⟨hi.1, rfl⟩⟩
theorem Rp.to (h : Rp A S v u) (c : Ch k S S') (hk : Nat.beq k 0 = false := by rfl) : Rp A S' v u := by
  have hk : k ≠ 0 := fun e => by subst e; cases hk
  obtain ⟨b, cs, e, h1, h2, h3⟩ := h
  obtain ⟨q1, q2⟩ := fz_ch c hk b h1
  exact ⟨b, cs, e, q1, by rw [q2]; exact h2, A.frame h3 (fz_ch c hk)⟩
theorem Rp.drop (h : Rp A S v u) (k : Nat) : Rp A (S.drop k) v u := by
  obtain ⟨b, cs, e, h1, h2, h3⟩ := h
  exact ⟨b, cs, e, (fz_drop k b h1).1, h2, A.frame h3 (fz_drop k)⟩
theorem Rp.ren (h : Rp A S v u) (k j : Nat) (hk : Nat.beq k 0 = false := by rfl) (hj : Nat.beq j 0 = false := by rfl) : Rp A (S.ren k j) v u := by
  have hk : k ≠ 0 := fun e => by subst e; cases hk
  have hj : j ≠ 0 := fun e => by subst e; cases hj
  obtain ⟨b, cs, e, h1, h2, h3⟩ := h
  exact ⟨b, cs, e, (fz_ren k j hk hj b h1).1, h2, A.frame h3 (fz_ren k j hk hj)⟩
end rp

section rules
variable {E : Env} {lo : List Nat} {fl : Nat} {loose : Nat → Bool} {lim : Option Nat} {ops : Array Oper} {os : List Oper}
variable {l : LE} {m : Mem} {n : Nat} {K : LE → Mem → Nat → Prop}
variable {d : Nat} {ty t : TypeId} {pos : String} {af : Array Edge} {x : Operand} {v : SV}
variable {α : Type} {A : Lay α} {S : Cx fl} {L : List α} {u : α} {s : SV} {id : Nat}

theorem WO.ldP {sz : Nat} {f : α → List SV} {hf : ∀ a, (f a).length = sz} (hx : evK l x = some (.sc v)) (hs : Rp (Lay.flat sz f hf) S v u) (hc : (f u)[0]? = some s) (hT : oneT E t = true) (hl : limLe lim S.n = true)
    (h : WO E loose fl lim ops os ((d, .sc s) :: l) S.m S.n K) : WO E loose fl lim ops (⟨some d, .load t x, ty, pos, af, none⟩ :: os) l S.m S.n K := ⟨fun tt ht => by
  obtain ⟨y, h1, h2, h3, _⟩ := oneT_ok hT
  refine W_op2 ?_ (h.put ht)
  obtain ⟨b, cs, rfl, h4, h5, h6⟩ := hs
  have h6 : cs = f u := h6
  subst h6
  simp only [opA, evK_ev ht hx, loadA, limOk_of hl h4.1, if_true, h5, part, h1, h2, h3, or_self, if_false, hc, Option.map_some]⟩
theorem WO.ldPA {sz : Nat} {f : α → List SV} {hf : ∀ a, (f a).length = sz} (hx : evK l x = some (.sc v)) (hs : Rp (Lay.flat sz f hf) S v u) (hT : aggT E t sz = true) (hl : limLe lim S.n = true)
    (h : WO E loose fl lim ops os ((d, .agg (f u)) :: l) S.m S.n K) : WO E loose fl lim ops (⟨some d, .load t x, ty, pos, af, none⟩ :: os) l S.m S.n K := ⟨fun tt ht => by
  obtain ⟨y, h1, h2, h3, _⟩ := aggT_ok hT
  refine W_op2 ?_ (h.put ht)
  obtain ⟨b, cs, rfl, h4, h5, h6⟩ := hs
  have h6 : cs = f u := h6
  subst h6
  have := hf u
  simp only [opA, evK_ev ht hx, loadA, limOk_of hl h4.1, if_true, h5, part, h1, h2, h3, Nat.zero_add, this, Nat.le_refl, List.drop_zero, Option.map_some]
  rw [List.take_of_length_le (by omega)]⟩
theorem WO.ldPS (hx : evK l x = some (.sc v)) (hs : Rp (Lay.sl A) S v L) (hT : oneT E t = true) (hl : limLe lim S.n = true)
    (h : ∀ w, Rd A S w L → WO E loose fl lim ops os ((d, .sc w) :: l) S.m S.n K) : WO E loose fl lim ops (⟨some d, .load t x, ty, pos, af, none⟩ :: os) l S.m S.n K := ⟨fun tt ht => by
  obtain ⟨y, h1, h2, h3, _⟩ := oneT_ok hT
  obtain ⟨b, cs, rfl, h4, h5, ⟨w, rfl, hw⟩⟩ := hs
  refine W_op2 ?_ ((h w hw).put ht)
  simp [opA, evK_ev ht hx, loadA, limOk_of hl h4.1, h5, part, h1, h2, h3]⟩
theorem WO.ldBS {p : SV} (hx : evK l x = some (.sc p)) (hp : p = ptrAt v 0 0) (hs : Bk (Lay.sl A) S id v L) (hT : oneT E t = true) (hl : limLe lim S.n = true)
    (h : ∀ w, Rd A S w L → WO E loose fl lim ops os ((d, .sc w) :: l) S.m S.n K) : WO E loose fl lim ops (⟨some d, .load t x, ty, pos, af, none⟩ :: os) l S.m S.n K := ⟨fun tt ht => by
  subst hp
  obtain ⟨y, h1, h2, h3, _⟩ := oneT_ok hT
  obtain ⟨b, cs, rfl, _, h4, _, h5, ⟨w, rfl, hw⟩⟩ := hs
  refine W_op2 ?_ ((h w hw).put ht)
  simp [opA, evK_ev ht hx, ptrAt, loadA, limOk_of hl h4, h5, part, h1, h2, h3]⟩
/-- A variable that holds a slice. -/
theorem WO.stBS {y : Operand} {w : SV} {p : SV} {L' : List α} (hx : evK l x = some (.sc p)) (hp : p = ptrAt v 0 0) (hy : evK l y = some (.sc w)) (hs : Bk (Lay.sl A) S id v L) (hw : Rd A S w L') (hT : oneT E t = true) (hid : Nat.beq id 0 = false)
    (h : ∀ S', Ch id S S' → Bk (Lay.sl A) S' id v L' → WO E loose fl lim ops os l S'.m S'.n K) : WO E loose fl lim ops (⟨none, .store t x y, ty, pos, af, none⟩ :: os) l S.m S.n K := ⟨fun tt ht => by
  have hid : id ≠ 0 := fun e => by subst e; cases hid
  subst hp
  obtain ⟨z, h1, h2, h3, h4⟩ := oneT_ok hT
  obtain ⟨b, cs, rfl, h5, h6, h7, S', e1, e2, h8, h9⟩ := hs.put (u' := L') (c := [w]) ⟨w, rfl, hw⟩ hid
  obtain ⟨w0, rfl, _⟩ := h7
  refine W_op2 (v := .tup []) (m' := S'.m) (n' := S'.n) ?_ ((h S' h8 h9).ok tt ht)
  simp [opA, evK_ev ht hx, evK_ev ht hy, ptrAt, storeA, AV.cells?, h1, h4, h5, h6, e1, e2, splice]⟩
end rules
end Go.Am

set_option linter.unusedVariables false
set_option linter.unusedSimpArgs false
namespace Go.Am

/-- L with M from its lo-th on. -/
def putL {α : Type} (L : List α) (lo : Int) (M : List α) : List α := L.take lo.toNat ++ M ++ L.drop (lo.toNat + M.length)

/-- cs' is cs but for the w cells from the o-th on. -/
structure Sp (cs cs' : List SV) (o w : Nat) : Prop where
  len : cs'.length = cs.length
  le : o + w ≤ cs.length
  lo : cs'.take o = cs.take o
  hi : cs'.drop (o + w) = cs.drop (o + w)
theorem Sp.refl {cs : List SV} {o w : Nat} (h : o + w ≤ cs.length) : Sp cs cs o w := ⟨rfl, h, rfl, rfl⟩
theorem Sp.trans {a b c : List SV} {o w : Nat} (h : Sp a b o w) (k : Sp b c o w) : Sp a c o w := ⟨k.len.trans h.len, h.le, k.lo.trans h.lo, k.hi.trans h.hi⟩
theorem Sp.wide {a b : List SV} {o w p q : Nat} (h : Sp a b (o + p) q) (h1 : p + q ≤ w) (h2 : o + w ≤ a.length) : Sp a b o w where
  len := h.len
  le := h2
  lo := by
    have := congrArg (List.take o) h.lo
    rwa [List.take_take, List.take_take, Nat.min_eq_left (by omega)] at this
  hi := by
    have := congrArg (List.drop (o + w - (o + p + q))) h.hi
    rwa [List.drop_drop, List.drop_drop, show o + p + q + (o + w - (o + p + q)) = o + w from by omega] at this
theorem Sp.splice {cs c : List SV} {o : Nat} (h : o + c.length ≤ cs.length) : Sp cs (splice cs o c) o c.length where
  len := by simp only [Am.splice, List.length_append, List.length_take, List.length_drop]; omega
  le := h
  lo := by
    unfold Am.splice
    rw [List.append_assoc, List.take_append_of_le_length (by rw [List.length_take]; omega), List.take_take, Nat.min_self]
  hi := by
    unfold Am.splice
    rw [List.drop_append, List.drop_of_length_le (by simp; omega), List.nil_append, List.length_append, List.length_take, Nat.min_eq_left (by omega), Nat.sub_self, List.drop_zero]

/-- What a function is given that turns it: in block b (none: n). -/
def Iv {α : Type} (A : Lay α) (fl n b : Nat) (m : Mem) (v : SV) (L : List α) : Prop :=
  ((v = .nils ∨ v = .emp) ∧ L = [] ∧ b = n) ∨ ∃ o c cs, v = .sl b o L.length c A.sz ∧ L.length ≤ c ∧ fl ≤ b ∧ b < n ∧ m.get b = some cs ∧ o + L.length * A.sz ≤ cs.length ∧ RL A (fun i => i < n ∧ i ≠ b) m L ((cs.drop o).take (L.length * A.sz))
/-- What it leaves. -/
def Ip {α : Type} (A : Lay α) (n b : Nat) (m m' : Mem) (v : SV) (L : List α) : Prop :=
  (∀ i, i < n → i ≠ b → m'.get i = m.get i) ∧ (((v = .nils ∨ v = .emp) ∧ L = [] ∧ b = n) ∨ ∃ o c cs cs', v = .sl b o L.length c A.sz ∧ m.get b = some cs ∧ m'.get b = some cs' ∧ Sp cs cs' o (L.length * A.sz) ∧ RL A (fun i => i < n ∧ i ≠ b) m' L ((cs'.drop o).take (L.length * A.sz)))
/-- While it runs: object k, in block b; m: the memory at its beginning. -/
def Iw {α : Type} {fl : Nat} (A : Lay α) (S : Cx fl) (k n b : Nat) (m : Mem) (v : SV) (L : List α) : Prop :=
  (∀ i, i < n → i ≠ b → S.fz i ∧ S.m.get i = m.get i) ∧ n ≤ S.n ∧ (((v = .nils ∨ v = .emp) ∧ L = [] ∧ b = n) ∨ ∃ o c cs cs', v = .sl b o L.length c A.sz ∧ L.length ≤ c ∧ fl ≤ b ∧ b < n ∧ S.ow b = k ∧ m.get b = some cs ∧ S.m.get b = some cs' ∧ Sp cs cs' o (L.length * A.sz) ∧ RL A S.fz S.m L ((cs'.drop o).take (L.length * A.sz)))
/-- What else it is given. -/
def Vb {α : Type} (A : Lay α) (n b : Nat) (m : Mem) (v : SV) (L : List α) : Prop := RO A (fun i => i < n ∧ i ≠ b) (fun i => i < n ∧ i ≠ b) m v L

section iw
variable {α : Type} {A : Lay α} {fl k j n b : Nat} {S S' : Cx fl} {v : SV} {L : List α} {m : Mem}
theorem Vb.rdS (h : Vb A n b m v L) (em : S.m = m) (hz : ∀ i, i < n → i ≠ b → S.fz i) : Rd A S v L := by
  subst em
  exact RO.to h (fun i hi => ⟨hz i hi.1 hi.2, rfl⟩) (fun i hi => ⟨hz i hi.1 hi.2, rfl⟩)
theorem Iv.iw (h : Iv A fl n b m v L) (em : S.m = m) (en : S.n = n) (hz : ∀ i, i < n → i ≠ b → S.fz i) (hb : S.ow b = k) : Iw A S k n b m v L := by
  subst em; subst en
  refine ⟨fun i h1 h2 => ⟨hz i h1 h2, rfl⟩, Nat.le_refl _, ?_⟩
  rcases h with h | ⟨o, c, cs, h1, h2, h3, h4, h5, h6, h7⟩
  · exact .inl h
  · exact .inr ⟨o, c, cs, cs, h1, h2, h3, h4, hb, h5, h5, Sp.refl h6, h7.frame fun i hi => ⟨hz i hi.1 hi.2, rfl⟩⟩
theorem Rd.vb {id : Nat} (h : Rd A S v L) (hB : ∀ i, i < S.n → S.ow i ≠ id → i ≠ b) (hid : Nat.beq id 0 = false := by rfl) : Vb A S.n b S.m v L := by
  have hid : id ≠ 0 := fun e => by subst e; cases hid
  have : ∀ i, S.fz i → (i < S.n ∧ i ≠ b) ∧ S.m.get i = S.m.get i := fun i hi => ⟨⟨hi.1, hB i hi.1 (by rw [hi.2]; exact fun e => hid e.symm)⟩, rfl⟩
  exact RO.to h this this
theorem Wk.vb {id : Nat} (h : Wk A S k v L) (hB : ∀ i, i < S.n → S.ow i ≠ id → i ≠ b) (hid : Nat.beq id 0 = false := by rfl) (hk : Nat.beq k id = false := by rfl) : Vb A S.n b S.m v L := by
  have hid : id ≠ 0 := fun e => by subst e; cases hid
  have hk : k ≠ id := fun e => by subst e; rw [show Nat.beq k k = true by simp] at hk; cases hk
  exact RO.to h (fun i hi => ⟨⟨hi.1, hB i hi.1 (by rw [hi.2]; exact hk)⟩, rfl⟩) (fun i hi => ⟨⟨hi.1, hB i hi.1 (by rw [hi.2]; exact fun e => hid e.symm)⟩, rfl⟩)
theorem Iw.ip (h : Iw A S k n b m v L) (hA : A.Fl) : Ip A n b m S.m v L := by
  obtain ⟨h0, hn, h⟩ := h
  refine ⟨fun i h1 h2 => (h0 i h1 h2).2, ?_⟩
  rcases h with h | ⟨o, c, cs, cs', h1, h2, h3, h4, h5, h6, h7, h8, h9⟩
  · exact .inl h
  · exact .inr ⟨o, c, cs, cs', h1, h6, h7, h8, h9.fl hA⟩
theorem Iw.slv (h : Iw A S k n b m v L) : SlV v A.sz L.length := by
  rcases h.2.2 with ⟨h1, rfl, _⟩ | ⟨o, c, cs, cs', h1, h2, _⟩
  · exact .inl ⟨h1, rfl⟩
  · exact .inr ⟨b, o, c, h1, h2⟩
theorem Iw.wk (h : Iw A S k n b m v L) : Wk A S k v L := by
  obtain ⟨h0, hn, h⟩ := h
  rcases h with ⟨h1, h2, _⟩ | ⟨o, c, cs, cs', h1, h2, h3, h4, h5, h6, h7, h8, h9⟩
  · exact .inl ⟨h1, h2⟩
  · exact .inr ⟨b, o, c, cs', h1, h2, ⟨by omega, h5⟩, h7, by rw [h8.len]; exact h8.le, h9⟩
theorem Iw.ro (h : Iw A S k n b m v L) : RO A (fun i => i < S.n) S.fz S.m v L := h.wk.ro
theorem Iw.oz (h : Iw A S k n b m v L) : RO A (fun i => i < S.n ∧ i < S.n ∧ S.ow i = k) S.fz S.m v L := h.wk.oz
theorem Iw.vw (h : Iw A S k n b m v L) : Vw A S.n S.m v L := h.wk.vw
theorem Iw.to (h : Iw A S j n b m v L) (c : Ch k S S') (hk : Nat.beq k 0 = false := by rfl) (hj : Nat.beq j k = false := by rfl) : Iw A S' j n b m v L := by
  have hk : k ≠ 0 := fun e => by subst e; cases hk
  have hj : j ≠ k := fun e => by subst e; rw [show Nat.beq j j = true by simp] at hj; cases hj
  obtain ⟨h0, hn, h⟩ := h
  refine ⟨fun i h1 h2 => ?_, Nat.le_trans hn c.n, ?_⟩
  · obtain ⟨h3, h4⟩ := h0 i h1 h2
    obtain ⟨h5, h6⟩ := fz_ch c hk i h3
    exact ⟨h5, h6.trans h4⟩
  · rcases h with h | ⟨o, c', cs, cs', h1, h2, h3, h4, h5, h6, h7, h8, h9⟩
    · exact .inl h
    · obtain ⟨q1, q2⟩ := c.ow b (by omega) (by omega)
      exact .inr ⟨o, c', cs, cs', h1, h2, h3, h4, q1.trans h5, h6, q2.trans h7, h8, h9.frame (fz_ch c hk)⟩
theorem Iw.drop (h : Iw A S j n b m v L) (k : Nat) (hj : Nat.beq j k = false := by rfl) : Iw A (S.drop k) j n b m v L := by
  have hj : j ≠ k := fun e => by subst e; rw [show Nat.beq j j = true by simp] at hj; cases hj
  obtain ⟨h0, hn, h⟩ := h
  refine ⟨fun i h1 h2 => ⟨(fz_drop k i (h0 i h1 h2).1).1, (h0 i h1 h2).2⟩, hn, ?_⟩
  rcases h with h | ⟨o, c', cs, cs', h1, h2, h3, h4, h5, h6, h7, h8, h9⟩
  · exact .inl h
  · exact .inr ⟨o, c', cs, cs', h1, h2, h3, h4, by simp only [Cx.drop]; rw [if_neg (by omega)]; exact h5, h6, h7, h8, h9.frame (fz_drop k)⟩
theorem Iw.renO {i : Nat} (h : Iw A S i n b m v L) (k j : Nat) (hk : Nat.beq k 0 = false := by rfl) (hj : Nat.beq j 0 = false := by rfl) (hik : Nat.beq i k = false := by rfl) (hij : Nat.beq i j = false := by rfl) : Iw A (S.ren k j) i n b m v L := by
  have hk : k ≠ 0 := fun e => by subst e; cases hk
  have hj : j ≠ 0 := fun e => by subst e; cases hj
  have hik : i ≠ k := fun e => by subst e; rw [show Nat.beq i i = true by simp] at hik; cases hik
  have hij : i ≠ j := fun e => by subst e; rw [show Nat.beq i i = true by simp] at hij; cases hij
  obtain ⟨h0, hn, h⟩ := h
  refine ⟨fun q h1 h2 => ⟨(fz_ren k j hk hj q (h0 q h1 h2).1).1, (h0 q h1 h2).2⟩, hn, ?_⟩
  rcases h with h | ⟨o, c', cs, cs', h1, h2, h3, h4, h5, h6, h7, h8, h9⟩
  · exact .inl h
  · exact .inr ⟨o, c', cs, cs', h1, h2, h3, h4, by simp only [Cx.ren]; rw [if_neg (by omega), if_neg (by omega)]; exact h5, h6, h7, h8, h9.frame (fz_ren k j hk hj)⟩

theorem drop_splice {cs c : List SV} {o p : Nat} (h : o + p ≤ cs.length) : (splice cs (o + p) c).drop o = splice (cs.drop o) p c := by
  unfold splice
  rw [List.append_assoc, List.append_assoc, List.drop_append_of_le_length (by rw [List.length_take]; omega), List.drop_take, Nat.add_sub_cancel_left, List.drop_drop]
  congr 3; omega
theorem take_splice {cs c : List SV} {p w : Nat} (h : p + c.length ≤ cs.length) (hw : p + c.length ≤ w) : (splice cs p c).take w = splice (cs.take w) p c := by
  unfold splice
  rw [List.append_assoc, List.append_assoc, List.take_append, List.take_append, List.take_take, List.take_take, List.length_take, Nat.min_eq_left (by omega : p ≤ cs.length), List.drop_take, Nat.min_eq_right (by omega), Nat.min_eq_left (by omega), List.take_of_length_le (l := c) (by omega)]
  congr 3; omega
/-- RL of a splice within a window. -/
theorem RL.win {cs c : List SV} {o i : Nat} {u : α} {z : Nat → Prop} (h : RL A z m L ((cs.drop o).take (L.length * A.sz))) (hi : i < L.length) (hle : o + L.length * A.sz ≤ cs.length) (hc : A.R z m u c) :
    RL A z m (L.set i u) (((splice cs (o + i * A.sz) c).drop o).take (L.length * A.sz)) := by
  have hcl := A.len hc
  have h1 : i * A.sz + A.sz ≤ L.length * A.sz := by
    have : (i + 1) * A.sz ≤ L.length * A.sz := Nat.mul_le_mul_right _ hi
    rwa [Nat.add_mul, Nat.one_mul] at this
  have e : ((splice cs (o + i * A.sz) c).drop o).take (L.length * A.sz) = splice ((cs.drop o).take (L.length * A.sz)) (i * A.sz) c := by
    rw [drop_splice (by omega), take_splice (by rw [List.length_drop]; omega) (by omega)]
  rw [e]
  exact h.set hi hc
theorem Iw.put {u : α} {i : Nat} {c : List SV} (h : Iw A S k n b m v L) (hi : i < L.length) (hc : A.R S.fz S.m u c) (hk : k ≠ 0) :
    ∃ o cap cs, v = .sl b o L.length cap A.sz ∧ fl ≤ b ∧ S.m.get b = some cs ∧ o + i * A.sz + c.length ≤ cs.length ∧ ∃ S' : Cx fl, S'.m = S.m.set b (splice cs (o + i * A.sz) c) ∧ S'.n = S.n ∧ Ch k S S' ∧ Iw A S' k n b m v (L.set i u) := by
  obtain ⟨h0, hn, h⟩ := h
  rcases h with ⟨_, rfl, _⟩ | ⟨o, cap, cs, cs', h1, h2, h3, h4, h5, h6, h7, h8, h9⟩
  · simp at hi
  · have hcl := A.len hc
    have hle : i * A.sz + A.sz ≤ L.length * A.sz := by
      have : (i + 1) * A.sz ≤ L.length * A.sz := Nat.mul_le_mul_right _ hi
      rwa [Nat.add_mul, Nat.one_mul] at this
    have hlen := h8.len
    have hle2 := h8.le
    have hin : o + i * A.sz + c.length ≤ cs'.length := by omega
    have hch : Ch k S (⟨S.m.set b (splice cs' (o + i * A.sz) c), S.n, S.ow, S.le⟩ : Cx fl) := ⟨Nat.le_refl _, fun q hq hk => ⟨rfl, Tr.get_set_ne _ _ (fun e => hk (by rw [e]; exact h5))⟩⟩
    refine ⟨o, cap, cs', h1, h3, h7, hin, ⟨S.m.set b (splice cs' (o + i * A.sz) c), S.n, S.ow, S.le⟩, rfl, rfl, hch, fun q h1 h2 => ?_, hn, .inr ⟨o, cap, cs, _, by rw [List.length_set]; exact h1, by rw [List.length_set]; exact h2, h3, h4, h5, h6, Tr.get_set_same _ _ _, ?_, ?_⟩⟩
    · exact ⟨(h0 q h1 h2).1, by rw [← (h0 q h1 h2).2]; exact Tr.get_set_ne _ _ h2⟩
    · rw [List.length_set]
      refine h8.trans ((Sp.splice hin).wide ?_ (by rw [hlen]; exact hle2))
      omega
    · rw [List.length_set]
      exact (RL.win h9 hi (by rw [hlen]; exact hle2) hc).frame (fz_ch hch hk)
end iw

theorem WC.startI {E : Env} {lo : List Nat} {fl n b : Nat} {c : Code} {l : LE} {m : Mem} {Q : AE → LE → Mem → Nat → Prop} (hfl : fl ≤ n) (h : ∀ S : Cx fl, S.m = m → S.n = n → (∀ i, i < n → i ≠ b → S.fz i) → S.ow b = 2 → WC E lo fl c l S.m S.n Q) : WC E lo fl c l m n Q :=
  h ⟨m, n, fun i => if i = b then 2 else 0, hfl⟩ rfl rfl (fun i hi hb => ⟨hi, if_neg hb⟩) (if_pos rfl)

section rules
variable {E : Env} {lo : List Nat} {fl : Nat} {loose : Nat → Bool} {lim : Option Nat} {ops : Array Oper} {os : List Oper}
variable {l : LE} {m m0 : Mem} {n n0 : Nat} {K : LE → Mem → Nat → Prop}
variable {d : Nat} {ty t : TypeId} {pos : String} {af : Array Edge} {x y : Operand} {v w : SV} {k k' : IntKind}
variable {α : Type} {A : Lay α} {S : Cx fl} {L L' M : List α} {j b : Nat} {id : Nat}

theorem WO.stI {g : α → SV} {u' : α} (hx : evK l x = some (.sc (ptrAt v j 0))) (hy : evK l y = some (.sc (g u'))) (hs : Iw (Lay.one g) S id n0 b m0 v L) (hj : j < L.length) (hT : oneT E t = true) (hid : Nat.beq id 0 = false)
    (h : ∀ S', Ch id S S' → Iw (Lay.one g) S' id n0 b m0 v (L.set j u') → WO E loose fl lim ops os l S'.m S'.n K) : WO E loose fl lim ops (⟨none, .store t x y, ty, pos, af, none⟩ :: os) l S.m S.n K := ⟨fun tt ht => by
  have hid : id ≠ 0 := fun e => by subst e; cases hid
  obtain ⟨z, h1, h2, h3, h4⟩ := oneT_ok hT
  obtain ⟨o, cap, cs, rfl, h5, h6, h7, S', e1, e2, h8, h9⟩ := hs.put (u := u') (c := [g u']) hj rfl hid
  refine W_op2 (v := .tup []) (m' := S'.m) (n' := S'.n) ?_ ((h S' h8 h9).ok tt ht)
  have h7 : o + j * 1 + 1 ≤ cs.length := h7
  have hsz : (Lay.one g).sz = 1 := rfl
  simp only [opA, orA, evK_ev ht hx, evK_ev ht hy, ptrAt, storeA, AV.cells?, h1, List.length_cons, List.length_nil, h4, h5, h6, true_and, Nat.zero_add, Nat.add_zero, if_true, hsz]
  rw [if_pos h7, ← hsz, ← e1, e2]; rfl⟩

/-- A call that turns an own slice. -/
theorem WO.callI {f : Operand} {xs : Array Operand} {ats : Array TypeId} {g : Nat} {caps : List (Nat × Nat)} {args : List AV} {r : AV} (hs : Ow A S id v L) (hf : evK l f = some (.sc (.fn g caps))) (ha : xs.toList.mapM (evK l) = some args)
    (hr : ∀ b, Iv A fl S.n b S.m v L → (∀ i, i < S.n → S.ow i ≠ id → i ≠ b) → Ret E fl g (args ++ caps.map fun p => .sc (.ptr p.1 p.2)) S.m S.n (fun v' m' n' => v' = r ∧ Ip A S.n b S.m m' v L')) (hA : A.Fl)
    (h : ∀ S', Ch id S S' → Ow A S' id v L' → WO E loose fl lim ops os ((d, r) :: l) S'.m S'.n K) (hl : loose g = false := by rfl) :
    WO E loose fl lim ops (⟨some d, .call ⟨.value f, xs, ats⟩, ty, pos, af, none⟩ :: os) l S.m S.n K := by
  have hS := S.le
  refine WO.call hf ha ?_
  rw [hl]; simp only [Bool.false_eq_true, if_false]
  rcases hs with ⟨rfl, rfl⟩ | ⟨b, c, cs, rfl, h2, h3, h4, h5, h6, h7, h8⟩
  · refine (Ret.keeps (hr S.n (.inl ⟨.inl rfl, rfl, rfl⟩) (fun i hi _ => by omega))).mono ?_
    rintro v' m' n' ⟨⟨rfl, hp1, hp2⟩, hk⟩
    have hn := hk.1
    rcases hp2 with ⟨_, rfl, _⟩ | ⟨o, c, cs, cs', e, _⟩
    · exact h ⟨m', n', fun i => if i < S.n then S.ow i else 0, by omega⟩ ⟨hn, fun i hi _ => ⟨if_pos hi, hp1 i hi (by omega)⟩⟩ (.inl ⟨rfl, rfl⟩)
    · cases e
  · have hle : L.length * A.sz ≤ cs.length := by rw [h7]; exact Nat.mul_le_mul_right _ h5
    refine (Ret.keeps (hr b (.inr ⟨0, c, cs, rfl, h5, h2, h3, h6, by omega, by rw [List.drop_zero]; exact h8.fl hA⟩) (fun i _ hi e => hi (by rw [e]; exact h4)))).mono ?_
    rintro v' m' n' ⟨⟨rfl, hp1, hp2⟩, hk⟩
    have hn := hk.1
    rcases hp2 with ⟨e | e, _⟩ | ⟨o, c', cs1, cs', e, e1, e2, e3, e4⟩
    · cases e
    · cases e
    · have hl : L'.length = L.length := by injection e with _ _ a _ _; exact a.symm
      have ho : o = 0 := by injection e with _ a _ _ _; exact a.symm
      subst ho
      rw [h6] at e1; cases e1
      have hlen := e3.len
      refine h ⟨m', n', fun i => if i < S.n then S.ow i else 0, by omega⟩ ⟨hn, fun i hi hk => ⟨if_pos hi, hp1 i hi (fun e => hk (by rw [e]; exact h4))⟩⟩ (.inr ⟨b, c, cs', by rw [hl], h2, by simp only; omega, by simp only; rw [if_pos h3]; exact h4, by rw [hl]; exact h5, e2, by rw [hlen]; exact h7, ?_⟩)
      rw [List.drop_zero] at e4
      exact e4.fl hA

/-- A call that turns what the caller is given to turn. -/
theorem WO.callW {f : Operand} {xs : Array Operand} {ats : Array TypeId} {g : Nat} {caps : List (Nat × Nat)} {args : List AV} {r : AV} (hs : Iw A S id n0 b m0 v L) (hid : Nat.beq id 0 = false) (hf : evK l f = some (.sc (.fn g caps))) (ha : xs.toList.mapM (evK l) = some args)
    (hr : ∀ b, Iv A fl S.n b S.m v L → (∀ i, i < S.n → S.ow i ≠ id → i ≠ b) → Ret E fl g (args ++ caps.map fun p => .sc (.ptr p.1 p.2)) S.m S.n (fun v' m' n' => v' = r ∧ Ip A S.n b S.m m' v L')) (hA : A.Fl)
    (h : ∀ S', Ch id S S' → Iw A S' id n0 b m0 v L' → WO E loose fl lim ops os ((d, r) :: l) S'.m S'.n K) (hl : loose g = false := by rfl) :
    WO E loose fl lim ops (⟨some d, .call ⟨.value f, xs, ats⟩, ty, pos, af, none⟩ :: os) l S.m S.n K := by
  have hid : id ≠ 0 := fun e => by subst e; cases hid
  have hS := S.le
  refine WO.call hf ha ?_
  rw [hl]; simp only [Bool.false_eq_true, if_false]
  obtain ⟨h0, hn0, hs⟩ := hs
  rcases hs with ⟨hv, rfl, rfl⟩ | ⟨o, c, cs, cs', rfl, h2, h3, h4, h5, h6, h7, h8, h9⟩
  · refine (Ret.keeps (hr S.n (.inl ⟨hv, rfl, rfl⟩) (fun i hi _ => by omega))).mono ?_
    rintro v' m' n' ⟨⟨rfl, hp1, hp2⟩, hk⟩
    have hn := hk.1
    rcases hp2 with ⟨_, rfl, _⟩ | ⟨o, c, cs, cs', e, _⟩
    · have hch : Ch id S (⟨m', n', fun i => if i < S.n then S.ow i else 0, by omega⟩ : Cx fl) := ⟨hn, fun i hi _ => ⟨if_pos hi, hp1 i hi (by omega)⟩⟩
      refine h _ hch ⟨fun i h1 h2 => ?_, by simp only; omega, .inl ⟨hv, rfl, rfl⟩⟩
      obtain ⟨q1, q2⟩ := h0 i h1 h2
      obtain ⟨q3, q4⟩ := fz_ch hch hid i q1
      exact ⟨q3, q4.trans q2⟩
    · rcases hv with hv | hv <;> (rw [hv] at e; cases e)
  · have hlen := h8.len
    have hle := h8.le
    refine (Ret.keeps (hr b (.inr ⟨o, c, cs', rfl, h2, h3, by omega, h7, by omega, h9.fl hA⟩) (fun i _ hi e => hi (by rw [e]; exact h5)))).mono ?_
    rintro v' m' n' ⟨⟨rfl, hp1, hp2⟩, hk⟩
    have hn := hk.1
    rcases hp2 with ⟨e | e, _⟩ | ⟨o', c', cs1, cs2, e, e1, e2, e3, e4⟩
    · cases e
    · cases e
    · have hl : L'.length = L.length := by injection e with _ _ a _ _; exact a.symm
      have ho : o' = o := by injection e with _ a _ _ _; exact a.symm
      subst ho
      rw [h7] at e1; cases e1
      have hch : Ch id S (⟨m', n', fun i => if i < S.n then S.ow i else 0, by omega⟩ : Cx fl) := ⟨hn, fun i hi hk => ⟨if_pos hi, hp1 i hi (fun e => hk (by rw [e]; exact h5))⟩⟩
      refine h _ hch ⟨fun i h1 h2 => ?_, by simp only; omega, .inr ⟨o', c, cs, cs2, by rw [hl], by rw [hl]; exact h2, h3, h4, by simp only; rw [if_pos (by omega)]; exact h5, h6, e2, ?_, e4.fl hA⟩⟩
      · obtain ⟨q1, q2⟩ := h0 i h1 h2
        obtain ⟨q3, q4⟩ := fz_ch hch hid i q1
        exact ⟨q3, q4.trans q2⟩
      · rw [hl] at e3 ⊢
        exact h8.trans e3

/-- A header that is a part of another's. -/
def Sb (v w : SV) (sz lo k : Nat) : Prop := ((w = .nils ∨ w = .emp) ∧ k = 0) ∨ ∃ b o n c c', v = .sl b o n c sz ∧ w = .sl b (o + lo * sz) k c' sz ∧ lo + k ≤ n ∧ k ≤ c'
theorem WO.slcB {zo zi : Nat → Prop} {lo' hi' : Int} {lo1 hi1 : Option Operand} (hx : evK l x = some (.sc v)) (hlo : (∃ y, lo1 = some y ∧ evK l y = some (.sc (.int k lo'))) ∨ lo1 = none ∧ lo' = 0) (hhi : (∃ y, hi1 = some y ∧ evK l y = some (.sc (.int k' hi'))) ∨ hi1 = none ∧ hi' = L.length)
    (hs : RO A zo zi m v L) (hM : sub? L lo' hi' = some M) (hT : slTs E t A.sz = true)
    (h : ∀ w, RO A zo zi m w M → Sb v w A.sz lo'.toNat M.length → WO E loose fl lim ops os ((d, .sc w) :: l) m n K) : WO E loose fl lim ops (⟨some d, .slice t x lo1 hi1 none, ty, pos, af, none⟩ :: os) l m n K := ⟨fun tt ht => by
  obtain ⟨yt, e, h1, h2, h3, h4, _⟩ := slTs_ok hT
  have hlo' : lo1.map (St.ev ⟨tt, m, n⟩) = some (.sc (.int k lo')) ∨ lo1.map (St.ev ⟨tt, m, n⟩) = none ∧ lo' = 0 := by
    rcases hlo with ⟨y, rfl, hy⟩ | ⟨rfl, h0⟩
    · exact .inl (by rw [Option.map_some, evK_ev ht hy])
    · exact .inr ⟨rfl, h0⟩
  have hhi' : hi1.map (St.ev ⟨tt, m, n⟩) = some (.sc (.int k' hi')) ∨ hi1.map (St.ev ⟨tt, m, n⟩) = none ∧ hi' = L.length := by
    rcases hhi with ⟨y, rfl, hy⟩ | ⟨rfl, h0⟩
    · exact .inl (by rw [Option.map_some, evK_ev ht hy])
    · exact .inr ⟨rfl, h0⟩
  obtain ⟨w, q1, q2⟩ := RO.sub (t := t) hs hM h1 h2 h3 h4 _ _ hlo' hhi'
  have hsb : Sb v w A.sz lo'.toNat M.length := by
    obtain ⟨⟨b1, b2, b3⟩, hMe⟩ := sub?_some hM
    have hml : M.length = hi'.toNat - lo'.toNat := by rw [hMe, List.length_drop, List.length_take]; omega
    rcases q2 with ⟨q3, q4⟩ | ⟨i, o, c, cs, rfl, q3, q4, _⟩
    · exact .inl ⟨q3, by rw [q4]; rfl⟩
    · rcases hs with ⟨hv, rfl⟩ | ⟨i2, o2, c2, cs2, rfl, p2, p3, p4, p5, p6⟩
      · exfalso
        simp at b3
        have e1 : lo' = 0 := by omega
        have e2 : hi' = 0 := by omega
        subst e1; subst e2
        have hb : ∀ (o : Option AV) (k : IntKind), (o = some (.sc (.int k 0)) ∨ o = none) → boundA o 0 0 = some 0 := by
          rintro o k (rfl | rfl) <;> simp [boundA]
        rcases hv with hv | hv
        · subst hv
          simp only [sliceA, h1, h2, h3] at q1
          rw [hb _ k' (hhi'.imp id (·.1)), hb _ k (hlo'.imp id (·.1))] at q1
          simp at q1
        · subst hv
          simp only [sliceA, h1, h2, h3] at q1
          rw [hb _ k' (hhi'.imp id (·.1)), hb _ k (hlo'.imp id (·.1))] at q1
          simp at q1
      · right
        have hb1 : boundA (hi1.map (St.ev ⟨tt, m, n⟩)) L.length c2 = some hi'.toNat := by
          rcases hhi' with e | ⟨e, rfl⟩
          · rw [e]; simp only [boundA]; rw [if_pos (by omega)]
          · rw [e]; simp [boundA]
        have hb2 : boundA (lo1.map (St.ev ⟨tt, m, n⟩)) 0 hi'.toNat = some lo'.toNat := by
          rcases hlo' with e | ⟨e, rfl⟩
          · rw [e]; simp only [boundA]; rw [if_pos (by omega)]
          · rw [e]; simp [boundA]
        simp only [sliceA, h1, h2, h3, h4, Option.map_some] at q1
        have hb0 : boundA none c2 c2 = some c2 := rfl
        simp only [hb0, hb1, hb2] at q1
        split at q1
        · cases q1
        · split at q1
          · simp only [Option.some.injEq, AV.sc.injEq, SV.sl.injEq] at q1
            obtain ⟨r1, r2, r3, r4, r5⟩ := q1
            exact ⟨i, o2, L.length, c2, c, by rw [← r1], by rw [← r2], by omega, q3⟩
          · simp at q1
  refine W_op2 ?_ ((h w q2 hsb).put ht)
  simp only [opA, orA, evK_ev ht hx, Option.map_none, q1, Option.map_some]⟩

/-- A call that turns a part of an own slice. -/
theorem WO.callS {f : Operand} {xs : Array Operand} {ats : Array TypeId} {g : Nat} {caps : List (Nat × Nat)} {args : List AV} {r : AV} {lo' hi' : Int} (hs : Ow A S id v L) (hM : sub? L lo' hi' = some M) (hb : Sb v w A.sz lo'.toNat M.length) (hf : evK l f = some (.sc (.fn g caps))) (ha : xs.toList.mapM (evK l) = some args)
    (hr : ∀ b, Iv A fl S.n b S.m w M → (∀ i, i < S.n → S.ow i ≠ id → i ≠ b) → Ret E fl g (args ++ caps.map fun p => .sc (.ptr p.1 p.2)) S.m S.n (fun v' m' n' => v' = r ∧ Ip A S.n b S.m m' w L')) (hA : A.Fl)
    (h : ∀ S', Ch id S S' → Ow A S' id v (putL L lo' L') → WO E loose fl lim ops os ((d, r) :: l) S'.m S'.n K) (hl : loose g = false := by rfl) :
    WO E loose fl lim ops (⟨some d, .call ⟨.value f, xs, ats⟩, ty, pos, af, none⟩ :: os) l S.m S.n K := by
  have hS := S.le
  obtain ⟨⟨b1, b2, b3⟩, hMe⟩ := sub?_some hM
  have hml : M.length = hi'.toNat - lo'.toNat := by rw [hMe, List.length_drop, List.length_take]; omega
  refine WO.call hf ha ?_
  rw [hl]; simp only [Bool.false_eq_true, if_false]
  rcases hb with ⟨hw, hk0⟩ | ⟨b, o, ln, c, c', rfl, rfl, hle, hc'⟩
  · have hM0 : M = [] := List.eq_nil_of_length_eq_zero hk0
    subst hM0
    refine (Ret.keeps (hr S.n (.inl ⟨hw, rfl, rfl⟩) (fun i hi _ => by omega))).mono ?_
    rintro v' m' n' ⟨⟨rfl, hp1, hp2⟩, hk⟩
    have hn := hk.1
    rcases hp2 with ⟨_, rfl, _⟩ | ⟨o, c, cs, cs', e, _⟩
    · have hch : Ch (id + 1) S (⟨m', n', fun i => if i < S.n then S.ow i else 0, by omega⟩ : Cx fl) := ⟨hn, fun i hi _ => ⟨if_pos hi, hp1 i hi (by omega)⟩⟩
      have e1 : putL L lo' ([] : List α) = L := by unfold putL; simp
      have hch2 : Ch id S (⟨m', n', fun i => if i < S.n then S.ow i else 0, by omega⟩ : Cx fl) := ⟨hn, fun i hi _ => ⟨if_pos hi, hp1 i hi (by omega)⟩⟩
      refine h _ hch2 ?_
      rw [e1]
      have hb1 : Nat.beq id (id + 1) = false := by
        cases hq : Nat.beq id (id + 1) with
        | false => rfl
        | true => exact absurd (Nat.eq_of_beq_eq_true hq) (by omega)
      exact Ow.to hs hch rfl hb1
    · rcases hw with hw | hw <;> (rw [hw] at e; cases e)
  · rcases hs with ⟨e, _⟩ | ⟨b', cap, cs, e, h2, h3, h4, h5, h6, h7, h8⟩
    · cases e
    · cases e
      have hle0 : L.length * A.sz ≤ cs.length := by rw [h7]; exact Nat.mul_le_mul_right _ h5
      have hle1 : (lo'.toNat + M.length) * A.sz ≤ L.length * A.sz := Nat.mul_le_mul_right _ hle
      rw [Nat.add_mul] at hle1
      have hwin : RL A S.fz S.m M ((cs.drop (0 + lo'.toNat * A.sz)).take (M.length * A.sz)) := by
        have h10 := RL.drop lo'.toNat (RL.take hi'.toNat h8)
        rw [← hMe] at h10
        have e : ((cs.take (L.length * A.sz)).take (hi'.toNat * A.sz)).drop (lo'.toNat * A.sz) = (cs.drop (0 + lo'.toNat * A.sz)).take (M.length * A.sz) := by
          rw [List.take_take, Nat.min_eq_left (Nat.mul_le_mul_right _ (by omega)), List.drop_take, Nat.zero_add, hml, Nat.sub_mul]
        rwa [e] at h10
      refine (Ret.keeps (hr b (.inr ⟨_, c', cs, rfl, hc', h2, h3, h6, by omega, hwin.fl hA⟩) (fun i _ hi e => hi (by rw [e]; exact h4)))).mono ?_
      rintro v' m' n' ⟨⟨rfl, hp1, hp2⟩, hk⟩
      have hn := hk.1
      rcases hp2 with ⟨e | e, _⟩ | ⟨o', c'', cs1, cs', e, e1, e2, e3, e4⟩
      · cases e
      · cases e
      · have hl : L'.length = M.length := by injection e with _ _ a _ _; exact a.symm
        have ho : o' = 0 + lo'.toNat * A.sz := by injection e with _ a _ _ _; exact a.symm
        subst ho
        rw [h6] at e1; cases e1
        have hlen := e3.len
        rw [hl, Nat.zero_add] at e3
        rw [hl, Nat.zero_add] at e4
        have hpl : (putL L lo' L').length = L.length := by
          unfold putL; simp only [List.length_append, List.length_take, List.length_drop]; omega
        have hch : Ch id S (⟨m', n', fun i => if i < S.n then S.ow i else 0, by omega⟩ : Cx fl) := ⟨hn, fun i hi hk => ⟨if_pos hi, hp1 i hi (fun e => hk (by rw [e]; exact h4))⟩⟩
        refine h _ hch (.inr ⟨b, c, cs', by rw [hpl], h2, by simp only; omega, by simp only; rw [if_pos h3]; exact h4, by rw [hpl]; exact h5, e2, by rw [hlen]; exact h7, ?_⟩)
        rw [hpl]
        have r1 := RL.take lo'.toNat h8
        have r3 := RL.drop (lo'.toNat + M.length) h8
        have ee : cs'.take (L.length * A.sz) = (cs.take (L.length * A.sz)).take (lo'.toNat * A.sz) ++ (cs'.drop (lo'.toNat * A.sz)).take (M.length * A.sz) ++ (cs.take (L.length * A.sz)).drop ((lo'.toNat + M.length) * A.sz) := by
          rw [List.take_take, Nat.min_eq_left (by omega), ← e3.lo, List.drop_take, Nat.add_mul, ← e3.hi, ← List.take_add, ← List.take_add]
          congr 1; omega
        rw [ee]
        unfold putL
        rw [hl]
        exact RL.append (RL.append (r1.fl hA) (e4.fl hA)) (r3.fl hA)

/-! ### Headers known -/
variable {y1 y2 y3 : Operand} {k'' : IntKind} {o ln c sz q : Nat} {i jj hh : Int} {cs new : List SV}
theorem WO.slH3 (hx : evK l x = some (.sc (.sl b o ln c sz))) (hlo : evK l y1 = some (.sc (.int k i))) (hhi : evK l y2 = some (.sc (.int k' jj))) (hmx : evK l y3 = some (.sc (.int k'' hh))) (h1 : 0 ≤ i ∧ i ≤ jj ∧ jj ≤ hh ∧ hh ≤ c) (hT : slTs E t sz = true)
    (h : ∀ w, WO E loose fl lim ops os ((d, .sc w) :: l) m n K) : WO E loose fl lim ops (⟨some d, .slice t x (some y1) (some y2) (some y3), ty, pos, af, none⟩ :: os) l m n K := ⟨fun tt ht => by
  obtain ⟨yt, e, e1, e2, e3, e4, _⟩ := slTs_ok hT
  have key : ∃ w, sliceA E t (.sc (.sl b o ln c sz)) (some (.sc (.int k i))) (some (.sc (.int k' jj))) (some (.sc (.int k'' hh))) = some (.sc w) := by
    simp only [sliceA, e1, e2, e3, e4, Option.map_some, boundA]
    rw [if_pos (show 0 ≤ hh ∧ hh ≤ (c : Int) from by omega)]
    simp only
    rw [if_pos (show 0 ≤ jj ∧ jj ≤ ((hh.toNat : Nat) : Int) from by omega)]
    simp only
    rw [if_pos (show 0 ≤ i ∧ i ≤ ((jj.toNat : Nat) : Int) from by omega)]
    simp only
    by_cases hq : i.toNat < hh.toNat ∨ i.toNat = 0
    · rw [if_pos hq]; exact ⟨_, by simp; rfl⟩
    · rw [if_neg hq]; exact ⟨_, by simp; rfl⟩
  obtain ⟨w, hw⟩ := key
  refine W_op2 ?_ ((h w).put ht)
  simp only [opA, orA, evK_ev ht hx, evK_ev ht hlo, evK_ev ht hhi, evK_ev ht hmx, Option.map_some, hw]⟩
theorem WO.slHto (hx : evK l x = some (.sc (.sl b o ln c sz))) (hhi : evK l y2 = some (.sc (.int k' jj))) (h1 : 0 ≤ jj ∧ jj ≤ c) (hT : slTs E t sz = true)
    (h : WO E loose fl lim ops os ((d, .sc (.sl b o jj.toNat c sz)) :: l) m n K) : WO E loose fl lim ops (⟨some d, .slice t x none (some y2) none, ty, pos, af, none⟩ :: os) l m n K := ⟨fun tt ht => by
  obtain ⟨yt, e, e1, e2, e3, e4, _⟩ := slTs_ok hT
  refine W_op2 ?_ (h.put ht)
  have key : sliceA E t (.sc (.sl b o ln c sz)) none (some (.sc (.int k' jj))) none = some (.sc (.sl b o jj.toNat c sz)) := by
    simp only [sliceA, e1, e2, e3, e4, Option.map_some, boundA]
    rw [if_pos (show 0 ≤ jj ∧ jj ≤ (c : Int) from by omega)]
    simp
  simp only [opA, orA, evK_ev ht hx, evK_ev ht hhi, Option.map_some, Option.map_none, key]⟩
theorem WO.slHmid (hx : evK l x = some (.sc (.sl b o ln c sz))) (hlo : evK l y1 = some (.sc (.int k i))) (hhi : evK l y2 = some (.sc (.int k' jj))) (h1 : 0 ≤ i ∧ i ≤ jj ∧ jj ≤ c ∧ i < c) (hT : slTs E t sz = true)
    (h : WO E loose fl lim ops os ((d, .sc (.sl b (o + i.toNat * sz) (jj.toNat - i.toNat) (c - i.toNat) sz)) :: l) m n K) : WO E loose fl lim ops (⟨some d, .slice t x (some y1) (some y2) none, ty, pos, af, none⟩ :: os) l m n K := ⟨fun tt ht => by
  obtain ⟨yt, e, e1, e2, e3, e4, _⟩ := slTs_ok hT
  refine W_op2 ?_ (h.put ht)
  have key : sliceA E t (.sc (.sl b o ln c sz)) (some (.sc (.int k i))) (some (.sc (.int k' jj))) none = some (.sc (.sl b (o + i.toNat * sz) (jj.toNat - i.toNat) (c - i.toNat) sz)) := by
    simp only [sliceA, e1, e2, e3, e4, Option.map_some, boundA]
    rw [if_pos (show 0 ≤ jj ∧ jj ≤ (c : Int) from by omega)]
    simp only
    rw [if_pos (show 0 ≤ i ∧ i ≤ ((jj.toNat : Nat) : Int) from by omega)]
    simp only
    rw [if_pos (show i.toNat < c ∨ i.toNat = 0 from by omega)]
    simp
  simp only [opA, orA, evK_ev ht hx, evK_ev ht hlo, evK_ev ht hhi, Option.map_some, Option.map_none, key]⟩
theorem WO.slHfrom (hx : evK l x = some (.sc (.sl b o ln c sz))) (hlo : evK l y1 = some (.sc (.int k i))) (h1 : 0 ≤ i ∧ i ≤ ln ∧ ln ≤ c) (hm : m.get b = some cs) (hle : o + ln * sz ≤ cs.length) (hT : slTs E t sz = true)
    (h : ∀ w, elemsA m (.sc w) sz = some ((cs.drop (o + i.toNat * sz)).take ((ln - i.toNat) * sz), ln - i.toNat) → WO E loose fl lim ops os ((d, .sc w) :: l) m n K) : WO E loose fl lim ops (⟨some d, .slice t x (some y1) none none, ty, pos, af, none⟩ :: os) l m n K := ⟨fun tt ht => by
  obtain ⟨yt, e, e1, e2, e3, e4, _⟩ := slTs_ok hT
  have h2 : i.toNat * sz + (ln - i.toNat) * sz = ln * sz := by rw [← Nat.add_mul]; congr 1; omega
  have key : ∃ w, sliceA E t (.sc (.sl b o ln c sz)) (some (.sc (.int k i))) none none = some (.sc w) ∧ elemsA m (.sc w) sz = some ((cs.drop (o + i.toNat * sz)).take ((ln - i.toNat) * sz), ln - i.toNat) := by
    simp only [sliceA, e1, e2, e3, e4, Option.map_some, boundA]
    rw [if_pos (show 0 ≤ i ∧ i ≤ (ln : Int) from by omega)]
    simp only
    by_cases hq : i.toNat < c ∨ i.toNat = 0
    · rw [if_pos hq]
      refine ⟨.sl b (o + i.toNat * sz) (ln - i.toNat) (c - i.toNat) sz, by simp, ?_⟩
      simp only [elemsA, hm]
      rw [if_neg (by simp), if_pos (by omega)]
    · rw [if_neg hq]
      refine ⟨.emp, by simp, ?_⟩
      have : ln - i.toNat = 0 := by omega
      rw [this, Nat.zero_mul, List.take_zero]
      rfl
  obtain ⟨w, hw, hw2⟩ := key
  refine W_op2 ?_ ((h w hw2).put ht)
  simp only [opA, orA, evK_ev ht hx, evK_ev ht hlo, Option.map_some, Option.map_none, hw]⟩
theorem WO.appH (hx : evK l x = some (.sc (.sl b o ln c sz))) (hy : evK l y = some (.sc w)) (hw : elemsA m (.sc w) sz = some (new, q)) (hm : m.get b = some cs) (hle : o + c * sz ≤ cs.length) (hq : ln + q ≤ c) (hq2 : ln + q ≤ 549755813888) (hfl : fl ≤ b) (hT : slTs E t sz = true)
    (h : WO E loose fl lim ops os ((d, .sc (.sl b o (ln + q) c sz)) :: l) (m.set b (splice cs (o + ln * sz) new)) n K) : WO E loose fl lim ops (⟨some d, .call ⟨.builtin .append, #[x, y], #[t, t]⟩, ty, pos, af, none⟩ :: os) l m n K := ⟨fun tt ht => by
  obtain ⟨yt, e, e1, e2, e3, e4, e5, e6, e7⟩ := slTs_ok hT
  refine W_op2 ?_ (h.put ht)
  have h2 : ln * sz ≤ c * sz := Nat.mul_le_mul_right _ (by omega)
  have h3 : (ln + q) * e.bytes ≤ 549755813888 * 256 := Nat.mul_le_mul hq2 e7
  have hel : elemsA m (.sc (.sl b o ln c sz)) sz = some ((cs.drop o).take (ln * sz), ln) := by
    simp only [elemsA, hm]
    rw [if_neg (by simp), if_pos (by omega)]
  have key : appendA E fl t (.sc (.sl b o ln c sz)) (.sc w) m n = some (.sc (.sl b o (ln + q) c sz), m.set b (splice cs (o + ln * sz) new), n) := by
    simp only [appendA, e1, e2, e3, e4]
    rw [if_neg (by simp), if_neg (by rw [e5]; simp; omega), hel, hw]
    simp only [appendTo]
    rw [if_neg (by omega), if_neg (by omega), if_pos hq, hm]
    simp only
    rw [if_pos hle]
  simp only [opA, orA, callA, builtinA, List.map_cons, List.map_nil, evK_ev ht hx, evK_ev ht hy]
  simp [key]⟩
theorem WO.clrH (hx : evK l x = some (.sc (.sl b o ln c sz))) (hm : m.get b = some cs) (hle : o + ln * sz ≤ cs.length) (hfl : fl ≤ b) (hT : slTs E t sz = true)
    (h : ∀ z : List SV, z.length = ln * sz → WO E loose fl lim ops os l (m.set b (splice cs o z)) n K) : WO E loose fl lim ops (⟨none, .call ⟨.builtin .clear, #[x], #[t]⟩, ty, pos, af, none⟩ :: os) l m n K := ⟨fun tt ht => by
  obtain ⟨yt, e, e1, e2, e3, e4, e5, e6, e7⟩ := slTs_ok hT
  refine W_op2 (v := .tup []) (m' := m.set b (splice cs o (List.replicate ln e.zero).flatten)) (n' := n) ?_ ((h _ (by simp [e5])).ok tt ht)
  have key : clearA E fl t (.sc (.sl b o ln c sz)) m n = some (.tup [], m.set b (splice cs o (List.replicate ln e.zero).flatten), n) := by
    simp only [clearA, e1, e2, e3, e4]
    rw [if_neg (by simp), if_neg (by rw [e5]; simp)]
    rw [if_neg (by simp; omega), hm]
    try simp only
    rw [if_pos hle]
  simp only [opA, orA, callA, builtinA, List.map_cons, List.map_nil, evK_ev ht hx]
  simp [key]⟩

/-- What slices.Delete is given, and leaves. -/
def Ov {α : Type} (A : Lay α) (fl n b : Nat) (m : Mem) (v : SV) (L : List α) : Prop :=
  ∃ c cs, v = .sl b 0 L.length c A.sz ∧ L.length ≤ c ∧ fl ≤ b ∧ b < n ∧ m.get b = some cs ∧ cs.length = c * A.sz ∧ RL A (fun i => i < n ∧ i ≠ b) m L (cs.take (L.length * A.sz))
def Oq {α : Type} (A : Lay α) (n b : Nat) (m m' : Mem) (w : SV) (M : List α) : Prop :=
  (∀ i, i < n → i ≠ b → m'.get i = m.get i) ∧ ∃ c cs, w = .sl b 0 M.length c A.sz ∧ M.length ≤ c ∧ m'.get b = some cs ∧ cs.length = c * A.sz ∧ RL A (fun i => i < n ∧ i ≠ b) m' M (cs.take (M.length * A.sz))
def del? {α : Type} (L : List α) (i j : Int) : Option (List α) := if 0 ≤ i ∧ i ≤ j ∧ j ≤ L.length ∧ 0 < L.length ∧ L.length ≤ 549755813888 then some (L.take i.toNat ++ L.drop j.toNat) else none
theorem del?_ne {P : Prop} [Decidable P] {M : List α} {i j : Int} (h : (if P then del? L i j else none) = some M) : 0 < L.length := by
  split at h
  · unfold del? at h
    split at h
    · rename_i hq; exact hq.2.2.2.1
    · cases h
  · cases h
theorem del_cells {g : α → SV} {z : List SV} {p r lo : Nat} (h : cs.take (L.length * 1) = L.map g) (h1 : p ≤ r) (h2 : r ≤ L.length) (hl : L.length ≤ cs.length) (hlo : lo = p + (L.length - r)) :
    (splice (splice cs (0 + p * 1) ((cs.drop (0 + r * 1)).take ((L.length - r) * 1))) (0 + lo * 1) z).take ((L.take p ++ L.drop r).length * 1) = (L.take p ++ L.drop r).map g := by
  subst hlo
  simp only [Nat.mul_one, Nat.zero_add] at h ⊢
  have e1 : cs.take p = (L.take p).map g := by
    have := congrArg (List.take p) h
    rwa [List.take_take, Nat.min_eq_left (by omega), ← List.map_take] at this
  have e2 : (cs.drop r).take (L.length - r) = (L.drop r).map g := by
    have := congrArg (List.drop r) h
    rwa [List.drop_take, ← List.map_drop] at this
  have hlen : (L.take p ++ L.drop r).length = p + (L.length - r) := by simp; omega
  rw [hlen, e2]
  unfold splice
  rw [List.append_assoc, List.take_append_of_le_length (by simp; omega), List.take_take, Nat.min_self, List.take_append_of_le_length (by simp; omega), List.take_of_length_le (by simp; omega), e1, List.map_append]
/-- A call that takes an own slice and gives it back, shorter. -/
theorem WO.callO {f : Operand} {xs : Array Operand} {ats : Array TypeId} {g : Nat} {caps : List (Nat × Nat)} {args : List AV} (hs : Ow A S id v L) (hne : 0 < L.length) (hf : evK l f = some (.sc (.fn g caps))) (ha : xs.toList.mapM (evK l) = some args)
    (hr : ∀ b, Ov A fl S.n b S.m v L → Ret E fl g (args ++ caps.map fun p => .sc (.ptr p.1 p.2)) S.m S.n (fun v' m' n' => ∃ w, v' = .sc w ∧ Oq A S.n b S.m m' w M)) (hA : A.Fl)
    (h : ∀ w S', Ch id S S' → Ow A S' id w M → WO E loose fl lim ops os ((d, .sc w) :: l) S'.m S'.n K) (hl : loose g = false := by rfl) :
    WO E loose fl lim ops (⟨some d, .call ⟨.value f, xs, ats⟩, ty, pos, af, none⟩ :: os) l S.m S.n K := by
  have hS := S.le
  refine WO.call hf ha ?_
  rw [hl]; simp only [Bool.false_eq_true, if_false]
  rcases hs with ⟨rfl, rfl⟩ | ⟨b, c, cs, rfl, h2, h3, h4, h5, h6, h7, h8⟩
  · simp at hne
  · refine (Ret.keeps (hr b ⟨c, cs, rfl, h5, h2, h3, h6, h7, h8.fl hA⟩)).mono ?_
    rintro v' m' n' ⟨⟨w, rfl, hp1, c', cs', rfl, e1, e2, e3, e4⟩, hk⟩
    have hn := hk.1
    exact h _ ⟨m', n', fun i => if i < S.n then S.ow i else 0, by omega⟩ ⟨hn, fun i hi hk => ⟨if_pos hi, hp1 i hi (fun e => hk (by rw [e]; exact h4))⟩⟩ (.inr ⟨b, c', cs', rfl, h2, by simp only; omega, by simp only; rw [if_pos h3]; exact h4, e1, e2, e3, e4.fl hA⟩)
end rules
end Go.Am

set_option linter.unusedVariables false
namespace Go.Am

def SV.blk : SV → Option Nat
  | .sl b _ _ _ _ => some b
  | .ptr b _ => some b
  | _ => none
/-- The headers of rows. -/
abbrev LH : Lay SV := Lay.one id

/-- Rows that are object r's: their headers, and what they hold; but for the one in the hole. -/
structure Fam {α : Type} {fl : Nat} (A : Lay α) (S : Cx fl) (r : Nat) (H : List SV) (L : List (List α)) (hole : Option Nat) : Prop where
  len : H.length = L.length
  row : ∀ (i : Nat) (w : SV) (R : List α), hole ≠ some i → H[i]? = some w → L[i]? = some R → Ow A S r w R
  sep : ∀ (i j : Nat) (w w' : SV) (b : Nat), i ≠ j → hole ≠ some i → hole ≠ some j → H[i]? = some w → H[j]? = some w' → w.blk = some b → w'.blk ≠ some b

/-- What is j's is r's from now on. -/
def Cx.mg {fl : Nat} (S : Cx fl) (j r : Nat) : Cx fl := ⟨S.m, S.n, fun i => if S.ow i = j then r else S.ow i, S.le⟩

section fam
variable {α : Type} {A : Lay α} {fl k r j i : Nat} {S S' : Cx fl} {v w : SV} {H : List SV} {L : List (List α)} {R : List α} {hole : Option Nat}

theorem nb {a b : Nat} (h : Nat.beq a b = false) : a ≠ b := fun e => by subst e; rw [show Nat.beq a a = true by simp] at h; cases h

theorem Ow.blk_ow (h : Ow A S k v R) {b : Nat} (hb : v.blk = some b) : S.ow b = k ∧ b < S.n := by
  rcases h with ⟨rfl, _⟩ | ⟨b', c, cs, rfl, _, h3, h4, _⟩
  · cases hb
  · cases hb; exact ⟨h4, h3⟩
/-- An own slice under another map of owners. -/
theorem Ow.re {S' : Cx fl} (h : Ow A S k v R) (em : S'.m = S.m) (en : S'.n = S.n) (hb : ∀ b, v.blk = some b → S'.ow b = j) (hz : ∀ i, S.fz i → S'.fz i) : Ow A S' j v R := by
  rcases h with h | ⟨b, c, cs, rfl, h2, h3, h4, h5, h6, h7, h8⟩
  · exact .inl h
  · exact .inr ⟨b, c, cs, rfl, h2, by rw [en]; exact h3, hb b rfl, h5, by rw [em]; exact h6, h7, h8.frame fun i hi => ⟨hz i hi, by rw [em]⟩⟩

theorem Fam.nil : Fam A S r [] ([] : List (List α)) none := ⟨rfl, fun i w R _ h => by simp at h, fun i j w w' b _ _ _ h => by simp at h⟩
theorem Fam.to (h : Fam A S r H L hole) (c : Ch k S S') (hk : Nat.beq k 0 = false := by rfl) (hr : Nat.beq r k = false := by rfl) : Fam A S' r H L hole :=
  ⟨h.len, fun i w R h1 h2 h3 => (h.row i w R h1 h2 h3).to c hk hr, h.sep⟩
theorem Fam.drop (h : Fam A S r H L hole) (k : Nat) (hr : Nat.beq r k = false := by rfl) : Fam A (S.drop k) r H L hole :=
  ⟨h.len, fun i w R h1 h2 h3 => (h.row i w R h1 h2 h3).drop k hr, h.sep⟩
theorem Fam.renO (h : Fam A S r H L hole) (k j : Nat) (hk : Nat.beq k 0 = false := by rfl) (hj : Nat.beq j 0 = false := by rfl) (hik : Nat.beq r k = false := by rfl) (hij : Nat.beq r j = false := by rfl) : Fam A (S.ren k j) r H L hole :=
  ⟨h.len, fun i w R h1 h2 h3 => (h.row i w R h1 h2 h3).renO k j hk hj hik hij, h.sep⟩
theorem Fam.ren (h : Fam A S r H L hole) (j : Nat) (hk : Nat.beq r 0 = false := by rfl) (hj : Nat.beq j 0 = false := by rfl) : Fam A (S.ren r j) j H L hole :=
  ⟨h.len, fun i w R h1 h2 h3 => (h.row i w R h1 h2 h3).ren j hk hj, h.sep⟩

theorem Cx.mg_ch (S : Cx fl) (j r : Nat) : Ch j S (S.mg j r) := ⟨Nat.le_refl _, fun i _ hk => ⟨by simp only [Cx.mg]; rw [if_neg hk], rfl⟩⟩
theorem fz_mg (hj : j ≠ 0) : ∀ i, S.fz i → (S.mg j r).fz i := fun i ⟨h1, h2⟩ => ⟨h1, by simp only [Cx.mg]; rw [if_neg (by omega)]; exact h2⟩

/-- A row is taken out. -/
theorem Fam.open (h : Fam A S r H L none) (hw : H[i]? = some w) (hR : L[i]? = some R) (hr : r ≠ 0) (hj : j ≠ 0) :
    ∃ S1 : Cx fl, S1.m = S.m ∧ S1.n = S.n ∧ Ch r S S1 ∧ Ow A S1 j w R ∧ Fam A S1 r H L (some i) := by
  have hi := h.row i w R (by simp) hw hR
  have hz : ∀ q, S.fz q → (⟨S.m, S.n, fun q => if w.blk = some q then j else S.ow q, S.le⟩ : Cx fl).fz q := fun q ⟨h1, h2⟩ => ⟨h1, by
    simp only
    rw [if_neg (fun e => hr (by rw [← (hi.blk_ow e).1, h2]))]; exact h2⟩
  refine ⟨⟨S.m, S.n, fun q => if w.blk = some q then j else S.ow q, S.le⟩, rfl, rfl, ⟨Nat.le_refl _, fun q _ hk => ⟨by simp only; rw [if_neg (fun e => hk (hi.blk_ow e).1)], rfl⟩⟩, hi.re rfl rfl (fun b hb => by simp only; rw [if_pos hb]) hz, h.len, ?_, fun a c w w' b hac _ _ => h.sep a c w w' b hac (by simp) (by simp)⟩
  intro a w' R' ha hw' hR'
  have := h.row a w' R' (by simp) hw' hR'
  exact this.re rfl rfl (fun b hb => by simp only; rw [if_neg (fun e => h.sep i a w w' b (fun e => ha (by rw [e])) (by simp) (by simp) hw hw' e hb)]; exact (this.blk_ow hb).1) hz
/-- A row is put in. -/
theorem Fam.close (h : Fam A S r H L (some i)) (hw : Ow A S j w R) (hj : j ≠ 0) (hjr : j ≠ r) : Fam A (S.mg j r) r (H.set i w) (L.set i R) none := by
  have hz := fz_mg (S := S) (r := r) hj
  have hrow : ∀ (a : Nat) (w' : SV) (R' : List α), i ≠ a → H[a]? = some w' → L[a]? = some R' → Ow A (S.mg j r) r w' R' := fun a w' R' ha h1 h2 => by
    have := h.row a w' R' (by simpa using ha) h1 h2
    exact this.re rfl rfl (fun b hb => by simp only [Cx.mg]; rw [if_neg (by rw [(this.blk_ow hb).1]; exact Ne.symm hjr)]; exact (this.blk_ow hb).1) hz
  refine ⟨by rw [List.length_set, List.length_set]; exact h.len, ?_, ?_⟩
  · intro a w' R' _ h1 h2
    rw [List.getElem?_set] at h1 h2
    by_cases ha : i = a
    · rw [if_pos ha] at h1 h2
      split at h1 <;> split at h2 <;> first | (cases h1; done) | (cases h2; done) | skip
      cases h1; cases h2
      exact hw.re rfl rfl (fun b hb => by simp only [Cx.mg]; rw [if_pos (hw.blk_ow hb).1]) hz
    · rw [if_neg ha] at h1 h2
      exact hrow a w' R' ha h1 h2
  · intro a c w1 w2 b hac _ _ h1 h2 hb1 hb2
    rw [List.getElem?_set] at h1 h2
    have get : ∀ q (u : SV), i ≠ q → H[q]? = some u → ∃ R', L[q]? = some R' := fun q u _ hu => by
      have := (List.getElem?_eq_some_iff.1 hu).1
      rw [h.len] at this
      exact ⟨_, List.getElem?_eq_getElem this⟩
    by_cases ha : i = a
    · rw [if_pos ha] at h1
      rw [if_neg (by omega)] at h2
      split at h1
      · cases h1
        obtain ⟨R', hR'⟩ := get c w2 (by omega) h2
        exact hjr ((hw.blk_ow hb1).1.symm.trans ((h.row c w2 R' (by simp; omega) h2 hR').blk_ow hb2).1)
      · cases h1
    · rw [if_neg ha] at h1
      by_cases hc : i = c
      · rw [if_pos hc] at h2
        split at h2
        · cases h2
          obtain ⟨R', hR'⟩ := get a w1 ha h1
          exact hjr ((hw.blk_ow hb2).1.symm.trans ((h.row a w1 R' (by simpa using ha) h1 hR').blk_ow hb1).1)
        · cases h2
      · rw [if_neg hc] at h2
        exact h.sep a c w1 w2 b hac (by simpa using ha) (by simpa using hc) h1 h2 hb1 hb2
theorem Fam.any (h : Fam A S r H L none) (i : Nat) : Fam A S r H L (some i) := ⟨h.len, fun a w R _ => h.row a w R (by simp), fun a c w w' b hac _ _ => h.sep a c w w' b hac (by simp) (by simp)⟩
/-- A row more. -/
theorem Fam.snoc (h : Fam A S r H L none) (hw : Ow A S j w R) (hj : j ≠ 0) (hjr : j ≠ r) : Fam A (S.mg j r) r (H ++ [w]) (L ++ [R]) none := by
  have hz := fz_mg (S := S) (r := r) hj
  have hnew : Ow A (S.mg j r) r w R := hw.re rfl rfl (fun b hb => by simp only [Cx.mg]; rw [if_pos (hw.blk_ow hb).1]) hz
  have hlen := h.len
  refine ⟨by simp [hlen], ?_, ?_⟩
  · intro a w' R' _ h1 h2
    by_cases ha : a < H.length
    · rw [List.getElem?_append_left ha] at h1
      rw [List.getElem?_append_left (by omega)] at h2
      have := h.row a w' R' (by simp) h1 h2
      exact this.re rfl rfl (fun b hb => by simp only [Cx.mg]; rw [if_neg (by rw [(this.blk_ow hb).1]; exact Ne.symm hjr)]; exact (this.blk_ow hb).1) hz
    · rw [List.getElem?_append_right (by omega)] at h1 h2
      have e : a - H.length = 0 := by
        have := (List.getElem?_eq_some_iff.1 h1).1
        simpa using this
      rw [e] at h1; rw [← hlen, e] at h2
      cases h1; cases h2; exact hnew
  · intro a c w1 w2 b hac _ _ h1 h2 hb1 hb2
    have get : ∀ q (u : SV), q < H.length → (H ++ [w])[q]? = some u → ∃ R', Ow A S r u R' ∧ H[q]? = some u := fun q u hq hu => by
      rw [List.getElem?_append_left hq] at hu
      exact ⟨_, h.row q u _ (by simp) hu (List.getElem?_eq_getElem (by omega)), hu⟩
    have last : ∀ q (u : SV), ¬ q < H.length → (H ++ [w])[q]? = some u → u = w ∧ q = H.length := fun q u hq hu => by
      rw [List.getElem?_append_right (by omega)] at hu
      have e : q - H.length = 0 := by
        have := (List.getElem?_eq_some_iff.1 hu).1
        simpa using this
      rw [e] at hu; cases hu; exact ⟨rfl, by omega⟩
    by_cases ha : a < H.length
    · obtain ⟨R1, g1, g2⟩ := get a w1 ha h1
      by_cases hc : c < H.length
      · obtain ⟨R2, g3, g4⟩ := get c w2 hc h2
        exact h.sep a c w1 w2 b hac (by simp) (by simp) g2 g4 hb1 hb2
      · obtain ⟨rfl, _⟩ := last c w2 hc h2
        exact hjr ((hw.blk_ow hb2).1.symm.trans (g1.blk_ow hb1).1)
    · obtain ⟨rfl, e1⟩ := last a w1 ha h1
      by_cases hc : c < H.length
      · obtain ⟨R2, g3, g4⟩ := get c w2 hc h2
        exact hjr ((hw.blk_ow hb1).1.symm.trans (g3.blk_ow hb2).1)
      · obtain ⟨_, e2⟩ := last c w2 hc h2
        omega
theorem Fam.nils (n : Nat) : Fam A S r (List.replicate n .nils) (List.replicate n ([] : List α)) none := by
  refine ⟨by simp, ?_, ?_⟩
  · intro i w R _ h1 h2
    rw [List.getElem?_replicate] at h1 h2
    split at h1
    · rename_i h; rw [if_pos h] at h2; cases h1; cases h2; exact Ow.nil
    · cases h1
  · intro i j w w' b _ _ _ h1 _ hb
    rw [List.getElem?_replicate] at h1
    split at h1
    · cases h1; cases hb
    · cases h1
end fam

/-- Rows that are k's, their rows r's. -/
def Tw {α : Type} {fl : Nat} (A : Lay α) (S : Cx fl) (k r : Nat) (v : SV) (L : List (List α)) : Prop := ∃ H, Ow LH S k v H ∧ Fam A S r H L none
/-- The i-th is out; there stands w. -/
def Th {α : Type} {fl : Nat} (A : Lay α) (S : Cx fl) (k r : Nat) (v : SV) (L : List (List α)) (i : Nat) (w : SV) : Prop := ∃ H, Ow LH S k v H ∧ Fam A S r H L (some i) ∧ H[i]? = some w

section tw
variable {α : Type} {A : Lay α} {fl k r j i n0 : Nat} {S S' : Cx fl} {v w : SV} {H : List SV} {L M : List (List α)} {R : List α}

theorem Tw.nil : Tw A S k r .nils ([] : List (List α)) := ⟨[], .inl ⟨rfl, rfl⟩, Fam.nil⟩
theorem Tw.to (h : Tw A S k r v L) (c : Ch j S S') (hj : Nat.beq j 0 = false := by rfl) (hk : Nat.beq k j = false := by rfl) (hr : Nat.beq r j = false := by rfl) : Tw A S' k r v L := by
  obtain ⟨H, h1, h2⟩ := h; exact ⟨H, h1.to c hj hk, h2.to c hj hr⟩
theorem Th.to (h : Th A S k r v L i w) (c : Ch j S S') (hj : Nat.beq j 0 = false := by rfl) (hk : Nat.beq k j = false := by rfl) (hr : Nat.beq r j = false := by rfl) : Th A S' k r v L i w := by
  obtain ⟨H, h1, h2, h3⟩ := h; exact ⟨H, h1.to c hj hk, h2.to c hj hr, h3⟩
theorem Tw.drop (h : Tw A S k r v L) (j : Nat) (hk : Nat.beq k j = false := by rfl) (hr : Nat.beq r j = false := by rfl) : Tw A (S.drop j) k r v L := by
  obtain ⟨H, h1, h2⟩ := h; exact ⟨H, h1.drop j hk, h2.drop j hr⟩
theorem Th.drop (h : Th A S k r v L i w) (j : Nat) (hk : Nat.beq k j = false := by rfl) (hr : Nat.beq r j = false := by rfl) : Th A (S.drop j) k r v L i w := by
  obtain ⟨H, h1, h2, h3⟩ := h; exact ⟨H, h1.drop j hk, h2.drop j hr, h3⟩
theorem Tw.renO (h : Tw A S k r v L) (p q : Nat) (hp : Nat.beq p 0 = false := by rfl) (hq : Nat.beq q 0 = false := by rfl) (h1 : Nat.beq k p = false := by rfl) (h2 : Nat.beq k q = false := by rfl) (h3 : Nat.beq r p = false := by rfl) (h4 : Nat.beq r q = false := by rfl) : Tw A (S.ren p q) k r v L := by
  obtain ⟨H, g1, g2⟩ := h; exact ⟨H, g1.renO p q hp hq h1 h2, g2.renO p q hp hq h3 h4⟩
theorem Th.renO (h : Th A S k r v L i w) (p q : Nat) (hp : Nat.beq p 0 = false := by rfl) (hq : Nat.beq q 0 = false := by rfl) (h1 : Nat.beq k p = false := by rfl) (h2 : Nat.beq k q = false := by rfl) (h3 : Nat.beq r p = false := by rfl) (h4 : Nat.beq r q = false := by rfl) : Th A (S.ren p q) k r v L i w := by
  obtain ⟨H, g1, g2, g3⟩ := h; exact ⟨H, g1.renO p q hp hq h1 h2, g2.renO p q hp hq h3 h4, g3⟩
/-- Other numbers for both. -/
theorem Tw.ren (h : Tw A S k r v L) (k' r' : Nat) (e1 : Nat.beq k 0 = false := by rfl) (e2 : Nat.beq r 0 = false := by rfl) (e3 : Nat.beq k' 0 = false := by rfl) (e4 : Nat.beq r' 0 = false := by rfl)
    (e5 : Nat.beq r k = false := by rfl) (e6 : Nat.beq r k' = false := by rfl) (e7 : Nat.beq k' r = false := by rfl) (e8 : Nat.beq k' r' = false := by rfl) : Tw A ((S.ren k k').ren r r') k' r' v L := by
  obtain ⟨H, g1, g2⟩ := h; exact ⟨H, (g1.ren k' e1 e3).renO r r' e2 e4 e7 e8, (g2.renO k k' e1 e3 e5 e6).ren r' e2 e4⟩

theorem Tw.slv (h : Tw A S k r v L) : SlV v 1 L.length := by
  obtain ⟨H, h1, h2⟩ := h
  have := h1.slv; rwa [h2.len] at this
theorem Th.slv (h : Th A S k r v L i w) : SlV v 1 L.length := by
  obtain ⟨H, h1, h2, _⟩ := h
  have := h1.slv; rwa [h2.len] at this
/-- The number of its block. -/
def Lt (v : SV) (n : Nat) : Prop := ∀ b, v.blk = some b → b < n
theorem Tw.lt (h : Tw A S k r v L) : Lt v S.n := by
  obtain ⟨H, h1, h2⟩ := h; exact fun b hb => (h1.blk_ow hb).2
theorem Th.lt (h : Th A S k r v L i w) : Lt v S.n := by
  obtain ⟨H, h1, h2, _⟩ := h; exact fun b hb => (h1.blk_ow hb).2
theorem Ow.lt {β : Type} {B : Lay β} {Q : List β} (h : Ow B S k v Q) : Lt v S.n := fun b hb => (h.blk_ow hb).2

/-- The row that is out is put back, as it is. -/
theorem Th.back (h : Th A S k r v L i w) (hw : Ow A S j w R) (hj : Nat.beq j 0 = false := by rfl) (hjr : Nat.beq j r = false := by rfl) (hkj : Nat.beq k j = false := by rfl) : Tw A (S.mg j r) k r v (L.set i R) := by
  obtain ⟨H, h1, h2, h3⟩ := h
  refine ⟨H, h1.to (S.mg_ch j r) hj hkj, ?_⟩
  have := h2.close hw (nb hj) (nb hjr)
  have e : H.set i w = H := by
    apply List.ext_getElem?
    intro q
    rw [List.getElem?_set]
    split
    · rename_i hq; subst hq
      have := (List.getElem?_eq_some_iff.1 h3).1
      rw [if_pos this, h3]
    · rfl
  rwa [e] at this
/-- A row is taken out. -/
theorem Tw.take (h : Tw A S k r v L) (hR : L[i]? = some R) (j : Nat) (hr : Nat.beq r 0 = false := by rfl) (hj : Nat.beq j 0 = false := by rfl) (hkr : Nat.beq k r = false := by rfl) :
    ∃ w, ∃ S1 : Cx fl, S1.m = S.m ∧ S1.n = S.n ∧ Ch r S S1 ∧ Ow A S1 j w R ∧ Th A S1 k r v L i w := by
  obtain ⟨H, h1, h2⟩ := h
  have hi := (List.getElem?_eq_some_iff.1 hR).1
  have hw : H[i]? = some (H[i]'(by rw [h2.len]; exact hi)) := List.getElem?_eq_getElem _
  obtain ⟨S1, e1, e2, hc, ho, hf⟩ := h2.open hw hR (nb hr) (nb hj)
  exact ⟨_, S1, e1, e2, hc, ho, H, h1.to hc hr hkr, hf, hw⟩

theorem Tw.rl (h : Fam A S r H L none) : ∀ {z : Nat → Prop}, (∀ i, i < S.n ∧ (S.ow i = r ∨ S.ow i = 0) → z i) → RL (Lay.sl A) z S.m L (H.map id) := by
  intro z hz
  obtain ⟨hlen, hrow, hsep⟩ := h
  clear hsep
  induction H generalizing L with
  | nil => cases L with
    | nil => rfl
    | cons => simp at hlen
  | cons w H ih => cases L with
    | nil => simp at hlen
    | cons R L =>
      refine ⟨[w], H.map id, rfl, ⟨w, rfl, ?_⟩, ih (by simpa using hlen) fun i w R h0 h1 h2 => hrow (i + 1) w R (by simp) (by simpa using h1) (by simpa using h2)⟩
      have h0 := hrow 0 w R (by simp) rfl rfl
      rcases h0 with ⟨h1, h2⟩ | ⟨b, c, cs, h1, h2, h3, h4, h5, h6, h7, h8⟩
      · exact .inl ⟨.inl h1, h2⟩
      · refine .inr ⟨b, 0, c, cs, h1, h5, hz b ⟨h3, .inl h4⟩, h6, by rw [h7]; simpa using Nat.mul_le_mul_right _ h5, ?_⟩
        have : RL A S.fz S.m R ((cs.drop 0).take (R.length * A.sz)) := by simpa using h8
        exact this.frame fun i hi => ⟨hz i ⟨hi.1, .inr hi.2⟩, rfl⟩
theorem Tw.ro (h : Tw A S k r v L) {zo zi : Nat → Prop} (ho : ∀ b, b < S.n ∧ S.ow b = k → zo b) (hi : ∀ i, i < S.n ∧ (S.ow i = r ∨ S.ow i = 0) → zi i) : RO (Lay.sl A) zo zi S.m v L := by
  obtain ⟨H, h1, h2⟩ := h
  have hR := Tw.rl h2 hi
  have hlen := h2.len
  rcases h1 with ⟨h3, rfl⟩ | ⟨b, c, cs, h3, h4, h5, h6, h7, h8, h9, h10⟩
  · refine .inl ⟨.inl h3, ?_⟩
    apply List.eq_nil_of_length_eq_zero; rw [← hlen]; rfl
  · have e := h10.flat1
    refine .inr ⟨b, 0, c, cs, by rw [h3, hlen]; rfl, by rw [← hlen]; exact h7, ho b ⟨h5, h6⟩, h8, ?_, ?_⟩
    · show 0 + L.length * 1 ≤ cs.length
      have h9 : cs.length = c * 1 := h9
      omega
    · have e2 : List.take (L.length * (Lay.sl A).sz) (List.drop 0 cs) = H.map id := by
        rw [List.drop_zero, ← hlen]; exact e
      rw [e2]; exact hR
theorem Tw.vw (h : Tw A S k r v L) : Vw (Lay.sl A) S.n S.m v L := h.ro (fun _ h => h.1) (fun _ h => h.1)
/-- All is nobody's from now on. -/
theorem Tw.freeze (h : Tw A S k r v L) : Rd (Lay.sl A) ((S.drop k).drop r) v L := by
  have := h.ro (zo := ((S.drop k).drop r).fz) (zi := ((S.drop k).drop r).fz) (fun b hb => ⟨hb.1, by show (if (if S.ow b = k then 0 else S.ow b) = r then 0 else (if S.ow b = k then 0 else S.ow b)) = 0; simp [hb.2]⟩) (fun i hi => ⟨hi.1, by
    show (if (if S.ow i = k then 0 else S.ow i) = r then 0 else (if S.ow i = k then 0 else S.ow i)) = 0
    rcases hi.2 with h | h
    · rw [h]; by_cases e : r = k <;> simp [e]
    · rw [h]; simp⟩)
  exact this
/-- A row, to look at. -/
theorem Tw.row (h : Tw A S k r v L) (hR : L[i]? = some R) : ∃ H : List SV, ∃ w, Ow LH S k v H ∧ H[i]? = some w ∧ Wk A S r w R := by
  obtain ⟨H, h1, h2⟩ := h
  have hi := (List.getElem?_eq_some_iff.1 hR).1
  have hw : H[i]? = some (H[i]'(by rw [h2.len]; exact hi)) := List.getElem?_eq_getElem _
  exact ⟨H, _, h1, hw, (h2.row i _ R (by simp) hw hR).wk⟩
theorem RO.dropz {β : Type} {B : Lay β} {Q : List β} (h : RO B (fun i => i < n0 ∧ S.fz i) S.fz S.m v Q) (k : Nat) : RO B (fun i => i < n0 ∧ (S.drop k).fz i) (S.drop k).fz (S.drop k).m v Q := RO.to h (fun i hi => ⟨⟨hi.1, (fz_drop k i hi.2).1⟩, rfl⟩) (fz_drop k)
theorem RO.dropw {β : Type} {B : Lay β} {Q : List β} (h : RO B (fun i => i < n0 ∧ i < S.n ∧ S.ow i = j) S.fz S.m v Q) (k : Nat) (hj : Nat.beq j k = false := by rfl) : RO B (fun i => i < n0 ∧ i < (S.drop k).n ∧ (S.drop k).ow i = j) (S.drop k).fz (S.drop k).m v Q :=
  RO.to h (fun i hi => ⟨⟨hi.1, hi.2.1, by show (if S.ow i = k then 0 else S.ow i) = j; rw [if_neg (by rw [hi.2.2]; exact nb hj)]; exact hi.2.2⟩, rfl⟩) (fz_drop k)
theorem RO.frz {β : Type} {B : Lay β} {Q : List β} (h : RO B (fun i => i < n0 ∧ i < S.n ∧ S.ow i = k) S.fz S.m v Q) : RO B (fun i => i < n0 ∧ (S.drop k).fz i) (S.drop k).fz (S.drop k).m v Q :=
  RO.to h (fun i hi => ⟨⟨hi.1, hi.2.1, by show (if S.ow i = k then 0 else S.ow i) = 0; rw [if_pos hi.2.2]⟩, rfl⟩) (fz_drop k)
theorem Lt.lim {lim : Option Nat} (h : Lt v n0) (hl : limLe lim n0 = true) {b : Nat} (hb : v.blk = some b) : limOk lim b = true := limOk_of hl (h b hb)
end tw

section rules
variable {E : Env} {lo : List Nat} {fl : Nat} {loose : Nat → Bool} {lim : Option Nat} {ops : Array Oper} {os : List Oper}
variable {l : LE} {m : Mem} {n n0 : Nat} {K : LE → Mem → Nat → Prop}
variable {d : Nat} {ty t : TypeId} {pos : String} {af : Array Edge} {x y : Operand} {v w : SV} {k k' : IntKind}
variable {α : Type} {A : Lay α} {S : Cx fl} {L M : List (List α)} {R : List α} {i j : Nat} {id r : Nat} {H : List SV}

/-- A header is read. -/
theorem WO.ldH (hx : evK l x = some (.sc (ptrAt v i 0))) (hs : Ow LH S id v H) (hw : H[i]? = some w) (hT : oneT E t = true) (hv : Lt v n0) (hl : limLe lim n0 = true)
    (h : WO E loose fl lim ops os ((d, .sc w) :: l) S.m S.n K) : WO E loose fl lim ops (⟨some d, .load t x, ty, pos, af, none⟩ :: os) l S.m S.n K := ⟨fun tt ht => by
  obtain ⟨y, h1, h2, h3, _⟩ := oneT_ok hT
  refine W_op2 ?_ (h.put ht)
  obtain ⟨b, o, c, cs, p, rfl, h4, h5, h6, _, _, h7⟩ := hs.ro.cell hw
  have h6 : p = [w] := h6
  subst h6
  have hcell := cell_at (q := 0) h7 rfl
  have e : (LH).sz = 1 := rfl
  rw [e, Nat.add_zero] at hcell
  simp only [opA, evK_ev ht hx, ptrAt, loadA, hv.lim hl rfl, if_true, h5, part, h1, h2, h3, or_self, if_false, Nat.add_zero, hcell, Option.map_some, e]⟩
/-- A row is read, to look at it. -/
theorem WO.ldTv (hx : evK l x = some (.sc (ptrAt v i 0))) (hs : Tw A S id r v L) (hR : L[i]? = some R) (hT : oneT E t = true) (hv : Lt v n0) (hl : limLe lim n0 = true)
    (h : ∀ w, Wk A S r w R → WO E loose fl lim ops os ((d, .sc w) :: l) S.m S.n K) : WO E loose fl lim ops (⟨some d, .load t x, ty, pos, af, none⟩ :: os) l S.m S.n K := by
  obtain ⟨H, w, h1, h2, h3⟩ := hs.row hR
  exact WO.ldH hx h1 h2 hT hv hl (h w h3)
/-- A row is taken out. -/
theorem WO.ldT (j : Nat) (hx : evK l x = some (.sc (ptrAt v i 0))) (hs : Tw A S id r v L) (hR : L[i]? = some R) (hT : oneT E t = true) (hv : Lt v n0) (hl : limLe lim n0 = true) (h1 : Nat.beq r 0 = false) (h2 : Nat.beq j 0 = false) (h3 : Nat.beq id r = false)
    (h : ∀ w S1, Ch r S S1 → Th A S1 id r v L i w → Ow A S1 j w R → WO E loose fl lim ops os ((d, .sc w) :: l) S1.m S1.n K) : WO E loose fl lim ops (⟨some d, .load t x, ty, pos, af, none⟩ :: os) l S.m S.n K := by
  obtain ⟨w, S1, e1, e2, hc, ho, hh⟩ := hs.take hR j h1 h2 h3
  have hn := h w S1 hc hh ho
  obtain ⟨H, g1, g2, g3⟩ := hh
  rw [← e1, ← e2]
  exact WO.ldH hx g1 g3 hT hv hl hn
/-- The row that is out, again. -/
theorem WO.ldTh (hx : evK l x = some (.sc (ptrAt v i 0))) (hs : Th A S id r v L i w) (hT : oneT E t = true) (hv : Lt v n0) (hl : limLe lim n0 = true)
    (h : WO E loose fl lim ops os ((d, .sc w) :: l) S.m S.n K) : WO E loose fl lim ops (⟨some d, .load t x, ty, pos, af, none⟩ :: os) l S.m S.n K := by
  obtain ⟨H, g1, g2, g3⟩ := hs
  exact WO.ldH hx g1 g3 hT hv hl h
/-- A row is put in. -/
theorem WO.stT {w0 : SV} (hx : evK l x = some (.sc (ptrAt v i 0))) (hy : evK l y = some (.sc w)) (hs : Th A S id r v L i w0) (hi : i < L.length) (hw : Ow A S j w R) (hT : oneT E t = true) (h1 : Nat.beq id 0 = false) (h2 : Nat.beq j 0 = false) (h3 : Nat.beq j r = false) (h4 : Nat.beq id j = false) (h5 : Nat.beq r id = false) (h6 : Nat.beq j id = false)
    (h : ∀ S1 S2, Ch id S S1 → Ch j S1 S2 → Tw A S2 id r v (L.set i R) → WO E loose fl lim ops os l S2.m S2.n K) : WO E loose fl lim ops (⟨none, .store t x y, ty, pos, af, none⟩ :: os) l S.m S.n K := by
  obtain ⟨H, g1, g2, g3⟩ := hs
  refine WO.st1 (g := fun s => s) (u' := w) hx hy g1 (by rw [g2.len]; exact hi) hT h1 (fun S1 c1 ho => ?_)
  have hw1 := hw.to c1 h1 h6
  have hf1 := g2.to c1 h1 h5
  exact h S1 (S1.mg j r) c1 (S1.mg_ch j r) ⟨_, ho.to (S1.mg_ch j r) h2 h4, hf1.close hw1 (nb h2) (nb h3)⟩
theorem Tw.th (h : Tw A S id r v L) (hR : L[i]? = some R) : ∃ w, Th A S id r v L i w := by
  obtain ⟨H, h1, h2⟩ := h
  have hi := (List.getElem?_eq_some_iff.1 hR).1
  exact ⟨_, H, h1, h2.any i, List.getElem?_eq_getElem (by rw [h2.len]; exact hi)⟩
theorem WO.stT0 (hx : evK l x = some (.sc (ptrAt v i 0))) (hy : evK l y = some (.sc w)) (hs : Tw A S id r v L) (hi : i < L.length) (hw : Ow A S j w R) (hT : oneT E t = true) (h1 : Nat.beq id 0 = false) (h2 : Nat.beq j 0 = false) (h3 : Nat.beq j r = false) (h4 : Nat.beq id j = false) (h5 : Nat.beq r id = false) (h6 : Nat.beq j id = false)
    (h : ∀ S1 S2, Ch id S S1 → Ch j S1 S2 → Tw A S2 id r v (L.set i R) → WO E loose fl lim ops os l S2.m S2.n K) : WO E loose fl lim ops (⟨none, .store t x y, ty, pos, af, none⟩ :: os) l S.m S.n K := by
  obtain ⟨w0, ht⟩ := hs.th (List.getElem?_eq_getElem hi)
  exact WO.stT hx hy ht hi hw hT h1 h2 h3 h4 h5 h6 h
/-- A row more. -/
theorem WO.appT {y2 : Operand} {w2 : SV} {zo : Nat → Prop} (hx : evK l x = some (.sc v)) (hy : evK l y2 = some (.sc w2)) (hs : Tw A S id r v L) (hs2 : RO LH zo S.fz S.m w2 [w]) (hw : Ow A S j w R) (hM : app? L [R] = some M) (hT : slTs E t 1 = true) (h1 : Nat.beq id 0 = false) (h2 : Nat.beq j 0 = false) (h3 : Nat.beq j r = false) (h4 : Nat.beq id j = false) (h5 : Nat.beq r id = false) (h6 : Nat.beq j id = false)
    (h : ∀ v' S1 S2, Ch id S S1 → Ch j S1 S2 → Tw A S2 id r v' M → WO E loose fl lim ops os ((d, .sc v') :: l) S2.m S2.n K) :
    WO E loose fl lim ops (⟨some d, .call ⟨.builtin .append, #[x, y2], #[t, t]⟩, ty, pos, af, none⟩ :: os) l S.m S.n K := by
  obtain ⟨H, g1, g2⟩ := hs
  obtain ⟨hlen, rfl⟩ := app?_some hM
  refine WO.appS (A := LH) (M := H ++ [w]) hx hy g1 hs2 (by unfold app?; rw [if_pos (by rw [g2.len]; exact hlen)]) hT h1 (fun v' S1 c1 ho => ?_)
  have hw1 := hw.to c1 h1 h6
  have hf1 := g2.to c1 h1 h5
  exact h v' S1 (S1.mg j r) c1 (S1.mg_ch j r) ⟨_, ho.to (S1.mg_ch j r) h2 h4, hf1.snoc hw1 (nb h2) (nb h3)⟩
/-- []T{w} of a header -/
theorem WO.bsH {ps : Array (Nat × Operand)} (id : Nat) (hin : allK l (.buildSlice t 1 ps) = true) (hop : opA E (fun _ _ _ _ _ => none) fl lim (evL l) S.m S.n (.buildSlice t 1 ps) = some (.sc (.sl S.n 0 1 1 1), S.m.set S.n [w], S.n + 1)) (hid : Nat.beq id 0 = false)
    (h : ∀ v' S', Ch id S S' → Ow LH S' id v' [w] → WO E loose fl lim ops os ((d, .sc v') :: l) S'.m S'.n K) : WO E loose fl lim ops (⟨some d, .buildSlice t 1 ps, ty, pos, af, none⟩ :: os) l S.m S.n K :=
  WO.bsS (A := LH) (M := [w]) (cs := [w]) id hin hop rfl (RL.one rfl) hid h
/-- make of rows -/
theorem WO.mkT {i1 i2 : Operand} {a : Int} (id r : Nat) (hi : evK l i1 = some (.sc (.int k a))) (hi2 : evK l i2 = some (.sc (.int k' a))) (hM : mk? a ([] : List α) = some M) (hz : slZ E t = [.nils]) (hT : slTs E t 1 = true) (h1 : Nat.beq id 0 = false)
    (h : ∀ v' S', Ch id S S' → Tw A S' id r v' M → WO E loose fl lim ops os ((d, .sc v') :: l) S'.m S'.n K) : WO E loose fl lim ops (⟨some d, .makeSlice t i1 i2, ty, pos, af, none⟩ :: os) l S.m S.n K := by
  obtain ⟨ha, rfl⟩ := mk?_some hM
  exact WO.mkS (A := LH) (z0 := .nils) id hi hi2 (by unfold mk?; rw [if_pos ha]) hz hT h1 (fun v' S' c ho => h v' S' c ⟨_, ho, Fam.nils _⟩)
end rules
end Go.Am

set_option linter.unusedVariables false
namespace Go.Am

/-- A block that is k's: its cells. -/
def Bw {fl : Nat} (S : Cx fl) (k : Nat) (v : SV) (cs : List SV) : Prop := ∃ b, v = .ptr b 0 ∧ fl ≤ b ∧ b < S.n ∧ S.ow b = k ∧ S.m.get b = some cs
/-- A block that nobody writes: its cells. -/
def Rw {fl : Nat} (S : Cx fl) (v : SV) (cs : List SV) : Prop := ∃ b, v = .ptr b 0 ∧ S.fz b ∧ S.m.get b = some cs
/-- The same, as a callee is given it. -/
def Pw (n : Nat) (m : Mem) (v : SV) (cs : List SV) : Prop := ∃ b, v = .ptr b 0 ∧ b < n ∧ m.get b = some cs

section bw
variable {fl k j : Nat} {S S' : Cx fl} {v : SV} {cs : List SV}
theorem Bw.to (h : Bw S j v cs) (c : Ch k S S') (hk : Nat.beq k 0 = false := by rfl) (hj : Nat.beq j k = false := by rfl) : Bw S' j v cs := by
  obtain ⟨b, h1, h2, h3, h4, h5⟩ := h
  obtain ⟨q1, q2⟩ := c.ow b h3 (by rw [h4]; exact nb hj)
  exact ⟨b, h1, h2, Nat.lt_of_lt_of_le h3 c.n, by rw [q1]; exact h4, by rw [q2]; exact h5⟩
theorem Bw.drop (h : Bw S j v cs) (k : Nat) (hj : Nat.beq j k = false := by rfl) : Bw (S.drop k) j v cs := by
  obtain ⟨b, h1, h2, h3, h4, h5⟩ := h
  exact ⟨b, h1, h2, h3, by simp only [Cx.drop]; rw [if_neg (by rw [h4]; exact nb hj)]; exact h4, h5⟩
theorem Bw.renO {i : Nat} (h : Bw S i v cs) (k j : Nat) (hk : Nat.beq k 0 = false := by rfl) (hj : Nat.beq j 0 = false := by rfl) (hik : Nat.beq i k = false := by rfl) (hij : Nat.beq i j = false := by rfl) : Bw (S.ren k j) i v cs := by
  obtain ⟨b, h1, h2, h3, h4, h5⟩ := h
  exact ⟨b, h1, h2, h3, by simp only [Cx.ren]; rw [if_neg (by rw [h4]; exact nb hik), if_neg (by rw [h4]; exact nb hij)]; exact h4, h5⟩
theorem Bw.ren (h : Bw S k v cs) (j : Nat) (hk : Nat.beq k 0 = false := by rfl) (hj : Nat.beq j 0 = false := by rfl) : Bw (S.ren k j) j v cs := by
  obtain ⟨b, h1, h2, h3, h4, h5⟩ := h
  exact ⟨b, h1, h2, h3, by simp only [Cx.ren]; rw [if_pos h4], h5⟩
theorem Bw.freeze (h : Bw S k v cs) : Rw (S.drop k) v cs := by
  obtain ⟨b, h1, h2, h3, h4, h5⟩ := h
  exact ⟨b, h1, ⟨h3, by simp only [Cx.drop]; rw [if_pos h4]⟩, h5⟩
theorem Rw.to (h : Rw S v cs) (c : Ch k S S') (hk : Nat.beq k 0 = false := by rfl) : Rw S' v cs := by
  obtain ⟨b, h1, h2, h5⟩ := h
  obtain ⟨q1, q2⟩ := fz_ch c (nb hk) b h2
  exact ⟨b, h1, q1, by rw [q2]; exact h5⟩
theorem Rw.drop (h : Rw S v cs) (k : Nat) : Rw (S.drop k) v cs := by
  obtain ⟨b, h1, h2, h5⟩ := h
  exact ⟨b, h1, (fz_drop k b h2).1, h5⟩
theorem Rw.ren (h : Rw S v cs) (k j : Nat) (hk : Nat.beq k 0 = false := by rfl) (hj : Nat.beq j 0 = false := by rfl) : Rw (S.ren k j) v cs := by
  obtain ⟨b, h1, h2, h5⟩ := h
  exact ⟨b, h1, (fz_ren k j (nb hk) (nb hj) b h2).1, h5⟩
theorem Bw.isp (h : Bw S k v cs) : ∃ b, v = .ptr b 0 := by obtain ⟨b, h, _⟩ := h; exact ⟨b, h⟩
theorem Rw.isp (h : Rw S v cs) : ∃ b, v = .ptr b 0 := by obtain ⟨b, h, _⟩ := h; exact ⟨b, h⟩
theorem Bw.at0 (h : Bw S k v cs) : v = ptrAt v 0 0 := by obtain ⟨b, rfl, _⟩ := h; rfl
theorem Rw.at0 (h : Rw S v cs) : v = ptrAt v 0 0 := by obtain ⟨b, rfl, _⟩ := h; rfl
theorem Bw.ptr {j : Nat} (h : Bw S k v cs) : ∃ b o, ptrAt v j 0 = .ptr b o := by obtain ⟨b, rfl, _⟩ := h; exact ⟨_, _, rfl⟩
theorem Rw.ptr {j : Nat} (h : Rw S v cs) : ∃ b o, ptrAt v j 0 = .ptr b o := by obtain ⟨b, rfl, _⟩ := h; exact ⟨_, _, rfl⟩
theorem Bw.lt (h : Bw S k v cs) : Lt v S.n := by obtain ⟨b, rfl, _, h, _⟩ := h; intro c hc; cases hc; exact h
theorem Rw.lt (h : Rw S v cs) : Lt v S.n := by obtain ⟨b, rfl, h, _⟩ := h; intro c hc; cases hc; exact h.1
theorem Rd.lt {α : Type} {A : Lay α} {L : List α} (h : Rd A S v L) : Lt v S.n := by
  rcases h with ⟨h | h, _⟩ | ⟨i, o, c, cs, rfl, _, h, _⟩
  · subst h; intro c hc; cases hc
  · subst h; intro c hc; cases hc
  · intro c hc; cases hc; exact h.1
theorem Bw.pw (h : Bw S k v cs) : Pw S.n S.m v cs := by obtain ⟨b, h1, _, h3, _, h5⟩ := h; exact ⟨b, h1, h3, h5⟩
theorem Rw.pw (h : Rw S v cs) : Pw S.n S.m v cs := by obtain ⟨b, h1, h3, h5⟩ := h; exact ⟨b, h1, h3.1, h5⟩
theorem Pw.rwS {n : Nat} {m : Mem} {S : Cx n} (h : Pw n m v cs) (em : S.m = m) (hz : ∀ i, i < n → S.fz i) : Rw S v cs := by
  subst em
  obtain ⟨b, h1, h3, h5⟩ := h
  exact ⟨b, h1, hz b h3, h5⟩
end bw

section rules
variable {E : Env} {lo : List Nat} {fl : Nat} {loose : Nat → Bool} {lim : Option Nat} {ops : Array Oper} {os : List Oper}
variable {l : LE} {m : Mem} {n n0 : Nat} {K : LE → Mem → Nat → Prop}
variable {d : Nat} {ty t : TypeId} {pos : String} {af : Array Edge} {x y : Operand} {v w : SV} {k k' : IntKind}
variable {S : Cx fl} {q : Nat} {s : SV} {cs : List SV} {id : Nat} {p : SV}

theorem WO.ld0 {b : Nat} (hx : evK l x = some (.sc (.ptr b q))) (hb : m.get b = some cs) (hc : cs[q]? = some s) (hT : oneT E t = true) (hl : limOk lim b = true)
    (h : WO E loose fl lim ops os ((d, .sc s) :: l) m n K) : WO E loose fl lim ops (⟨some d, .load t x, ty, pos, af, none⟩ :: os) l m n K := ⟨fun tt ht => by
  obtain ⟨y, h1, h2, h3, _⟩ := oneT_ok hT
  refine W_op2 ?_ (h.put ht)
  simp only [opA, evK_ev ht hx, loadA, hl, if_true, hb, part, h1, h2, h3, or_self, if_false, hc, Option.map_some]⟩
theorem WO.ld0A {b sz : Nat} (hx : evK l x = some (.sc (.ptr b q))) (hb : m.get b = some cs) (hc : q + sz ≤ cs.length) (hT : aggT E t sz = true) (hl : limOk lim b = true)
    (h : WO E loose fl lim ops os ((d, .agg ((cs.drop q).take sz)) :: l) m n K) : WO E loose fl lim ops (⟨some d, .load t x, ty, pos, af, none⟩ :: os) l m n K := ⟨fun tt ht => by
  obtain ⟨y, h1, h2, h3, _⟩ := aggT_ok hT
  refine W_op2 ?_ (h.put ht)
  simp only [opA, evK_ev ht hx, loadA, hl, if_true, hb, part, h1, h2, h3, hc, Option.map_some]⟩
/-- A cell. -/
theorem WO.ldW (hx : evK l x = some (.sc p)) (hp : p = ptrAt v 0 q) (hs : Bw S id v cs) (hc : cs[q]? = some s) (hT : oneT E t = true) (hv : Lt v n0) (hl : limLe lim n0 = true)
    (h : WO E loose fl lim ops os ((d, .sc s) :: l) S.m S.n K) : WO E loose fl lim ops (⟨some d, .load t x, ty, pos, af, none⟩ :: os) l S.m S.n K := by
  subst hp
  obtain ⟨b, rfl, _, h4, _, h5⟩ := hs
  exact WO.ld0 (by simpa [ptrAt] using hx) h5 hc hT (hv.lim hl rfl) h
theorem WO.ldRw (hx : evK l x = some (.sc p)) (hp : p = ptrAt v 0 q) (hs : Rw S v cs) (hc : cs[q]? = some s) (hT : oneT E t = true) (hv : Lt v n0) (hl : limLe lim n0 = true)
    (h : WO E loose fl lim ops os ((d, .sc s) :: l) S.m S.n K) : WO E loose fl lim ops (⟨some d, .load t x, ty, pos, af, none⟩ :: os) l S.m S.n K := by
  subst hp
  obtain ⟨b, rfl, h4, h5⟩ := hs
  exact WO.ld0 (by simpa [ptrAt] using hx) h5 hc hT (hv.lim hl rfl) h
/-- A struct within. -/
theorem WO.ldWA {sz : Nat} {r : List SV} (hx : evK l x = some (.sc p)) (hp : p = ptrAt v 0 q) (hs : Bw S id v cs) (hr : (cs.drop q).take sz = r) (hc : Nat.ble (q + sz) cs.length = true) (hT : aggT E t sz = true) (hv : Lt v n0) (hl : limLe lim n0 = true)
    (h : WO E loose fl lim ops os ((d, .agg r) :: l) S.m S.n K) : WO E loose fl lim ops (⟨some d, .load t x, ty, pos, af, none⟩ :: os) l S.m S.n K := by
  subst hp; subst hr
  obtain ⟨b, rfl, _, h4, _, h5⟩ := hs
  exact WO.ld0A (by simpa [ptrAt] using hx) h5 (Nat.le_of_ble_eq_true hc) hT (hv.lim hl rfl) h
theorem WO.ldRwA {sz : Nat} {r : List SV} (hx : evK l x = some (.sc p)) (hp : p = ptrAt v 0 q) (hs : Rw S v cs) (hr : (cs.drop q).take sz = r) (hc : Nat.ble (q + sz) cs.length = true) (hT : aggT E t sz = true) (hv : Lt v n0) (hl : limLe lim n0 = true)
    (h : WO E loose fl lim ops os ((d, .agg r) :: l) S.m S.n K) : WO E loose fl lim ops (⟨some d, .load t x, ty, pos, af, none⟩ :: os) l S.m S.n K := by
  subst hp; subst hr
  obtain ⟨b, rfl, h4, h5⟩ := hs
  exact WO.ld0A (by simpa [ptrAt] using hx) h5 (Nat.le_of_ble_eq_true hc) hT (hv.lim hl rfl) h
/-- A store of cells. -/
theorem WO.stW {av : AV} {vc r : List SV} {yt : Ty} (hx : evK l x = some (.sc p)) (hp : p = ptrAt v 0 q) (hy : evK l y = some av) (hc : av.cells? = some vc) (hs : Bw S id v cs) (hT : E.ty t = some yt) (hz : Nat.beq vc.length yt.size = true) (hle : Nat.ble (q + vc.length) cs.length = true) (hr : splice cs q vc = r) (hid : Nat.beq id 0 = false)
    (h : ∀ S', Ch id S S' → Bw S' id v r → WO E loose fl lim ops os l S'.m S'.n K) : WO E loose fl lim ops (⟨none, .store t x y, ty, pos, af, none⟩ :: os) l S.m S.n K := ⟨fun tt ht => by
  subst hp; subst hr
  obtain ⟨b, rfl, h1, h2, h3, h4⟩ := hs
  have hch : Ch id S (⟨S.m.set b (splice cs q vc), S.n, S.ow, S.le⟩ : Cx fl) := ⟨Nat.le_refl _, fun i hi hk => ⟨rfl, Tr.get_set_ne _ _ (fun e => hk (by rw [e]; exact h3))⟩⟩
  refine W_op2 (v := .tup []) (m' := S.m.set b (splice cs q vc)) (n' := S.n) ?_ ((h ⟨S.m.set b (splice cs q vc), S.n, S.ow, S.le⟩ hch ⟨b, rfl, h1, h2, h3, Tr.get_set_same _ _ _⟩).ok tt ht)
  have e : evK l x = some (.sc (.ptr b q)) := by simpa [ptrAt] using hx
  simp only [opA, evK_ev ht e, evK_ev ht hy, storeA, hc, hT]
  rw [if_pos ⟨h1, Nat.eq_of_beq_eq_true hz⟩, h4]
  simp only
  rw [if_pos (Nat.le_of_ble_eq_true hle)]; rfl⟩
/-- A new block. -/
theorem Bw.fresh (hid : id ≠ 0) : ∃ S' : Cx fl, S'.m = S.m.set S.n cs ∧ S'.n = S.n + 1 ∧ Ch id S S' ∧ Bw S' id (.ptr S.n 0) cs := by
  have hS := S.le
  exact ⟨⟨S.m.set S.n cs, S.n + 1, fun i => if i = S.n then id else S.ow i, by omega⟩, rfl, rfl, ⟨by simp, fun i hi hk => ⟨by simp only; rw [if_neg (by omega)], Tr.get_set_ne _ _ (by omega)⟩⟩, S.n, rfl, hS, by simp, by simp, Tr.get_set_same _ _ _⟩
theorem WO.alW {yt : Ty} (id : Nat) (hT : E.ty t = some yt) (hz : yt.zero = cs) (hid : Nat.beq id 0 = false)
    (h : ∀ b S', Ch id S S' → Bw S' id (.ptr b 0) cs → WO E loose fl lim ops os ((d, .sc (.ptr b 0)) :: l) S'.m S'.n K) : WO E loose fl lim ops (⟨some d, .alloc t, ty, pos, af, none⟩ :: os) l S.m S.n K := ⟨fun tt ht => by
  subst hz
  obtain ⟨S', e1, e2, h7, h8⟩ := Bw.fresh (S := S) (cs := yt.zero) (nb hid)
  exact W_op2 (m' := S'.m) (n' := S'.n) (by simp only [opA, hT, e1, e2]) ((h _ S' h7 h8).put ht)⟩
theorem WO.bxW {av : AV} (id : Nat) (hx : evK l x = some av) (hc : av.cells? = some cs) (hid : Nat.beq id 0 = false)
    (h : ∀ b S', Ch id S S' → Bw S' id (.ptr b 0) cs → WO E loose fl lim ops os ((d, .sc (.ptr b 0)) :: l) S'.m S'.n K) : WO E loose fl lim ops (⟨some d, .box t x, ty, pos, af, none⟩ :: os) l S.m S.n K := ⟨fun tt ht => by
  obtain ⟨S', e1, e2, h7, h8⟩ := Bw.fresh (S := S) (cs := cs) (nb hid)
  exact W_op2 (m' := S'.m) (n' := S'.n) (by simp only [opA, evK_ev ht hx, hc, e1, e2]) ((h _ S' h7 h8).put ht)⟩
theorem WO.nckB {b : Nat} (hx : evK l x = some (.sc (.ptr b q))) (h : WO E loose fl lim ops os ((d, .sc (.ptr b q)) :: l) m n K) : WO E loose fl lim ops (⟨some d, .nilCheck x, ty, pos, af, none⟩ :: os) l m n K := ⟨fun tt ht =>
  W_op2 (by simp only [opA, evK_ev ht hx]) (h.put ht)⟩
theorem WO.nckB0 {b : Nat} (hx : evK l x = some (.sc (.ptr b q))) (h : WO E loose fl lim ops os l m n K) : WO E loose fl lim ops (⟨none, .nilCheck x, ty, pos, af, none⟩ :: os) l m n K := ⟨fun tt ht =>
  W_op2 (v := .sc (.ptr b q)) (by simp only [opA, evK_ev ht hx]) (h.ok tt ht)⟩
end rules

/-! ### Calls that turn what they are given -/
/-- From S0 to S what was not given has not turned. -/
structure ChM {fl : Nat} (S S' : Cx fl) : Prop where
  n : S.n ≤ S'.n
  ow : ∀ i, i < S.n → (S.ow i = 0 ∨ 1000 ≤ S.ow i) → S'.ow i = S.ow i ∧ S'.m.get i = S.m.get i
/-- The caller's numbers as the callee sees them. -/
def lkp : List (Nat × Nat) → Nat → Option Nat
  | [], _ => none
  | (a, b) :: r, o => if Nat.beq a o then some b else lkp r o
def sg (l : List (Nat × Nat)) (o : Nat) : Nat := if Nat.beq o 0 then 0 else (lkp l o).getD (o + 1000)
def tk (l : List (Nat × Nat)) (o : Nat) : Nat := if Nat.beq o 0 then 0 else (lkp l o).getD 1
def Cx.mp {fl : Nat} (S : Cx fl) (l : List (Nat × Nat)) : Cx fl := ⟨S.m, S.n, fun i => sg l (S.ow i), S.le⟩
/-- None becomes nobody's. -/
def Strict (l : List (Nat × Nat)) : Bool := l.all fun p => p.2 != 0

section chm
variable {fl k j : Nat} {S S0 S1 S' : Cx fl} {v : SV} {l q : List (Nat × Nat)}
theorem ChM.refl (S : Cx fl) : ChM S S := ⟨Nat.le_refl _, fun _ _ _ => ⟨rfl, rfl⟩⟩
theorem ChM.to (h : ChM S0 S) (c : Ch k S S') (hk : Nat.beq k 0 = false := by rfl) (hk2 : Nat.blt k 1000 = true := by rfl) : ChM S0 S' :=
  ⟨Nat.le_trans h.n c.n, fun i hi ho => by
    obtain ⟨h1, h2⟩ := h.ow i hi ho
    have hlt : k < 1000 := Nat.le_of_ble_eq_true hk2
    obtain ⟨h3, h4⟩ := c.ow i (Nat.lt_of_lt_of_le hi h.n) (by rw [h1]; have := nb hk; omega)
    exact ⟨h3.trans h1, h4.trans h2⟩⟩
theorem ChM.drop (h : ChM S0 S) (k : Nat) (hk : Nat.beq k 0 = false := by rfl) (hk2 : Nat.blt k 1000 = true := by rfl) : ChM S0 (S.drop k) :=
  ⟨h.n, fun i hi ho => by
    obtain ⟨h1, h2⟩ := h.ow i hi ho
    have hlt : k < 1000 := Nat.le_of_ble_eq_true hk2
    refine ⟨?_, h2⟩
    show (if S.ow i = k then 0 else S.ow i) = _
    rw [if_neg (by rw [h1]; have := nb hk; omega)]; exact h1⟩
theorem ChM.renO (h : ChM S0 S) (k j : Nat) (hk : Nat.beq k 0 = false := by rfl) (hj : Nat.beq j 0 = false := by rfl) (hk2 : Nat.blt k 1000 = true := by rfl) (hj2 : Nat.blt j 1000 = true := by rfl) : ChM S0 (S.ren k j) :=
  ⟨h.n, fun i hi ho => by
    obtain ⟨h1, h2⟩ := h.ow i hi ho
    have hlt : k < 1000 := Nat.le_of_ble_eq_true hk2
    have hlt2 : j < 1000 := Nat.le_of_ble_eq_true hj2
    refine ⟨?_, h2⟩
    show (if S.ow i = k then j else if S.ow i = j then 1 else S.ow i) = _
    rw [if_neg (by rw [h1]; have := nb hk; omega), if_neg (by rw [h1]; have := nb hj; omega)]; exact h1⟩

theorem fz_mp : ∀ i, S.fz i → (S.mp l).fz i ∧ (S.mp l).m.get i = S.m.get i := fun i ⟨h1, h2⟩ => ⟨⟨h1, by show sg l (S.ow i) = 0; rw [h2]; rfl⟩, rfl⟩
variable {α : Type} {A : Lay α} {L : List α} {LL : List (List α)} {cs : List SV}
theorem Rd.mp (h : Rd A S v L) : Rd A (S.mp l) v L := RO.to h fz_mp fz_mp
theorem Ow.mp (h : Ow A S k v L) (e : sg l k = j) : Ow A (S.mp l) j v L := by
  rcases h with h | ⟨b, c', cs, h1, h2, h3, h4, h5, h6, h7, h8⟩
  · exact .inl h
  · exact .inr ⟨b, c', cs, h1, h2, h3, by show sg l (S.ow b) = j; rw [h4]; exact e, h5, h6, h7, h8.frame fz_mp⟩
theorem Wk.mp0 (h : Wk A S k v L) (e : sg l k = 0) : Rd A (S.mp l) v L := RO.to h (fun i hi => ⟨⟨hi.1, by show sg l (S.ow i) = 0; rw [hi.2]; exact e⟩, rfl⟩) fz_mp
theorem Ow.mp0 (h : Ow A S k v L) (e : sg l k = 0) : Rd A (S.mp l) v L := h.wk.mp0 e
theorem Iw.mp0 {n b : Nat} {m : Mem} (h : Iw A S k n b m v L) (e : sg l k = 0) : Rd A (S.mp l) v L := h.wk.mp0 e
theorem Tw.mp {r r' : Nat} (h : Tw A S k r v LL) (e : sg l k = j) (e' : sg l r = r') : Tw A (S.mp l) j r' v LL := by
  obtain ⟨H, h1, h2⟩ := h
  exact ⟨H, h1.mp e, h2.len, fun i w R a b c => (h2.row i w R a b c).mp e', h2.sep⟩
theorem Tw.mp0 {r : Nat} (h : Tw A S k r v LL) (e : sg l k = 0) (e' : sg l r = 0) : Rd (Lay.sl A) (S.mp l) v LL :=
  h.ro (zo := (S.mp l).fz) (zi := (S.mp l).fz) (fun b hb => ⟨hb.1, by show sg l (S.ow b) = 0; rw [hb.2]; exact e⟩) (fun i hi => ⟨hi.1, by
    show sg l (S.ow i) = 0
    rcases hi.2 with h | h
    · rw [h]; exact e'
    · rw [h]; rfl⟩)
theorem Bw.mp (h : Bw S k v cs) (e : sg l k = j) : Bw (S.mp l) j v cs := by
  obtain ⟨b, h1, h2, h3, h4, h5⟩ := h
  exact ⟨b, h1, h2, h3, by show sg l (S.ow b) = j; rw [h4]; exact e, h5⟩
theorem Bw.mp0 (h : Bw S k v cs) (e : sg l k = 0) : Rw (S.mp l) v cs := by
  obtain ⟨b, h1, h2, h3, h4, h5⟩ := h
  exact ⟨b, h1, ⟨h3, by show sg l (S.ow b) = 0; rw [h4]; exact e⟩, h5⟩
theorem Rw.mp (h : Rw S v cs) : Rw (S.mp l) v cs := by
  obtain ⟨b, h1, h2, h5⟩ := h
  exact ⟨b, h1, (fz_mp b h2).1, h5⟩
theorem Bk.mp {u : α} (h : Bk A S k v u) (e : sg l k = j) : Bk A (S.mp l) j v u := by
  obtain ⟨b, cs, h1, h2, h3, h4, h6, h8⟩ := h
  exact ⟨b, cs, h1, h2, h3, by show sg l (S.ow b) = j; rw [h4]; exact e, h6, A.frame h8 fz_mp⟩
theorem Bk.mp0 {u : α} (h : Bk A S k v u) (e : sg l k = 0) : Rp A (S.mp l) v u := by
  obtain ⟨b, cs, h1, h2, h3, h4, h6, h8⟩ := h
  exact ⟨b, cs, h1, ⟨h3, by show sg l (S.ow b) = 0; rw [h4]; exact e⟩, h6, A.frame h8 fz_mp⟩
theorem Rp.mp {u : α} (h : Rp A S v u) : Rp A (S.mp l) v u := by
  obtain ⟨b, cs, e, h1, h2, h3⟩ := h
  exact ⟨b, cs, e, (fz_mp b h1).1, h2, A.frame h3 fz_mp⟩

/-- The caller's state again. -/
structure Bak (l q : List (Nat × Nat)) (S S' S1 : Cx fl) : Prop where
  m : S1.m = S'.m
  n : S1.n = S'.n
  le : S.n ≤ S'.n
  old : ∀ i, i < S.n → (sg l (S.ow i) = 0 ∨ 1000 ≤ sg l (S.ow i)) → S1.ow i = S.ow i ∧ S'.ow i = sg l (S.ow i) ∧ S'.m.get i = S.m.get i
  new : ∀ i, ¬ (i < S.n ∧ (sg l (S.ow i) = 0 ∨ 1000 ≤ sg l (S.ow i))) → S1.ow i = tk q (S'.ow i)
theorem Bak.mk' (l q : List (Nat × Nat)) (h : ChM (S.mp l) S') : ∃ S1 : Cx fl, Bak l q S S' S1 := by
  refine ⟨⟨S'.m, S'.n, fun i => if i < S.n ∧ (sg l (S.ow i) = 0 ∨ 1000 ≤ sg l (S.ow i)) then S.ow i else tk q (S'.ow i), S'.le⟩, rfl, rfl, h.n, fun i h1 h2 => ⟨if_pos ⟨h1, h2⟩, h.ow i h1 h2⟩, fun i hi => if_neg hi⟩
/-- A block that the callee has as its own, under 1000. -/
theorem Bak.own (hb : Bak l q S S' S1) {b : Nat} (h1 : S'.ow b = j) (hj : Nat.beq j 0 = false) (hj2 : Nat.blt j 1000 = true) : S1.ow b = tk q j := by
  have hlt : j < 1000 := Nat.le_of_ble_eq_true hj2
  rw [← h1]
  refine hb.new b fun ⟨h2, h3⟩ => ?_
  have := (hb.old b h2 h3).2.1
  have := nb hj
  omega
theorem Bak.fz (hb : Bak l q S S' S1) (hs : Strict l = true) : ∀ i, S'.fz i → S1.fz i ∧ S1.m.get i = S'.m.get i := fun i ⟨h1, h2⟩ => by
  refine ⟨⟨by rw [hb.n]; exact h1, ?_⟩, by rw [hb.m]⟩
  by_cases hc : i < S.n ∧ (sg l (S.ow i) = 0 ∨ 1000 ≤ sg l (S.ow i))
  · obtain ⟨e1, e2, _⟩ := hb.old i hc.1 hc.2
    rw [e1]
    rw [h2] at e2
    -- strict: only 0 goes to 0
    have key : ∀ (l : List (Nat × Nat)) (o : Nat), Strict l = true → 0 = sg l o → o = 0 := by
      intro l o hs h
      unfold sg at h
      by_cases h0 : Nat.beq o 0 = true
      · exact Nat.eq_of_beq_eq_true h0
      · rw [if_neg h0] at h
        exfalso
        induction l with
        | nil => simp [lkp] at h
        | cons p r ih =>
          obtain ⟨a, b⟩ := p
          simp only [Strict, List.all_cons, Bool.and_eq_true, bne_iff_ne, ne_eq] at hs
          simp only [lkp] at h
          split at h
          · simp only [Option.getD_some] at h; exact hs.1 h.symm
          · exact ih (by simpa [Strict] using hs.2) h
    exact key l _ hs e2
  · rw [hb.new i hc, h2]; rfl
theorem Ow.bkF (h : Ow A S' j v L) (hb : Bak l q S S' S1) (e : tk q j = k) (hA : A.Fl) (hj : Nat.beq j 0 = false := by rfl) (hj2 : Nat.blt j 1000 = true := by rfl) : Ow A S1 k v L := by
  rcases h with h | ⟨b, c', cs, h1, h2, h3, h4, h5, h6, h7, h8⟩
  · exact .inl h
  · exact .inr ⟨b, c', cs, h1, h2, by rw [hb.n]; exact h3, by rw [hb.own h4 hj hj2]; exact e, h5, by rw [hb.m]; exact h6, h7, h8.fl hA⟩
theorem Ow.bkS (h : Ow A S' j v L) (hb : Bak l q S S' S1) (e : tk q j = k) (hs : Strict l = true) (hj : Nat.beq j 0 = false := by rfl) (hj2 : Nat.blt j 1000 = true := by rfl) : Ow A S1 k v L := by
  rcases h with h | ⟨b, c', cs, h1, h2, h3, h4, h5, h6, h7, h8⟩
  · exact .inl h
  · exact .inr ⟨b, c', cs, h1, h2, by rw [hb.n]; exact h3, by rw [hb.own h4 hj hj2]; exact e, h5, by rw [hb.m]; exact h6, h7, h8.frame (hb.fz hs)⟩
theorem Rd.bkS (h : Rd A S' v L) (hb : Bak l q S S' S1) (hs : Strict l = true) : Rd A S1 v L := RO.to h (hb.fz hs) (hb.fz hs)
theorem Tw.bkF {r r' : Nat} (h : Tw A S' j r' v LL) (hb : Bak l q S S' S1) (e : tk q j = k) (e' : tk q r' = r) (hA : A.Fl) (hj : Nat.beq j 0 = false := by rfl) (hj2 : Nat.blt j 1000 = true := by rfl) (hr : Nat.beq r' 0 = false := by rfl) (hr2 : Nat.blt r' 1000 = true := by rfl) : Tw A S1 k r v LL := by
  obtain ⟨H, h1, h2⟩ := h
  exact ⟨H, h1.bkF hb e Lay.flat_fl hj hj2, h2.len, fun i w R a b c => (h2.row i w R a b c).bkF hb e' hA hr hr2, h2.sep⟩
theorem Bw.bk (h : Bw S' j v cs) (hb : Bak l q S S' S1) (e : tk q j = k) (hj : Nat.beq j 0 = false := by rfl) (hj2 : Nat.blt j 1000 = true := by rfl) : Bw S1 k v cs := by
  obtain ⟨b, h1, h2, h3, h4, h5⟩ := h
  exact ⟨b, h1, h2, by rw [hb.n]; exact h3, by rw [hb.own h4 hj hj2]; exact e, by rw [hb.m]; exact h5⟩
theorem Bk.bkF {u : α} (h : Bk A S' j v u) (hb : Bak l q S S' S1) (e : tk q j = k) (hA : A.Fl) (hj : Nat.beq j 0 = false := by rfl) (hj2 : Nat.blt j 1000 = true := by rfl) : Bk A S1 k v u := by
  obtain ⟨b, cs, h1, h2, h3, h4, h6, h8⟩ := h
  exact ⟨b, cs, h1, h2, by rw [hb.n]; exact h3, by rw [hb.own h4 hj hj2]; exact e, by rw [hb.m]; exact h6, hA _ _ _ _ _ _ h8⟩
theorem Bk.bkS {u : α} (h : Bk A S' j v u) (hb : Bak l q S S' S1) (e : tk q j = k) (hs : Strict l = true) (hj : Nat.beq j 0 = false := by rfl) (hj2 : Nat.blt j 1000 = true := by rfl) : Bk A S1 k v u := by
  obtain ⟨b, cs, h1, h2, h3, h4, h6, h8⟩ := h
  exact ⟨b, cs, h1, h2, by rw [hb.n]; exact h3, by rw [hb.own h4 hj hj2]; exact e, by rw [hb.m]; exact h6, A.frame h8 (hb.fz hs)⟩

/-- All of ks become k0's. -/
def Cx.mgs : List Nat → Nat → Cx fl → Cx fl
  | [], _, S => S
  | j :: r, k0, S => Cx.mgs r k0 (S.mg j k0)
theorem Cx.mgs_mn (k0 : Nat) : ∀ (ks : List Nat) (S : Cx fl), (Cx.mgs ks k0 S).m = S.m ∧ (Cx.mgs ks k0 S).n = S.n
  | [], S => ⟨rfl, rfl⟩
  | j :: r, S => Cx.mgs_mn k0 r (S.mg j k0)
theorem Cx.mgs_ow (k0 : Nat) : ∀ (ks : List Nat) (S : Cx fl) (i : Nat), (Cx.mgs ks k0 S).ow i ≠ k0 → (Cx.mgs ks k0 S).ow i = S.ow i ∧ S.ow i ≠ k0 ∧ S.ow i ∉ ks
  | [], S, i, h => ⟨rfl, h, by simp⟩
  | j :: r, S, i, h => by
    obtain ⟨h1, h2, h3⟩ := Cx.mgs_ow k0 r (S.mg j k0) i h
    have e : (S.mg j k0).ow i = if S.ow i = j then k0 else S.ow i := rfl
    by_cases hj : S.ow i = j
    · rw [e, if_pos hj] at h2; exact (h2 rfl).elim
    · rw [e, if_neg hj] at h1 h2 h3
      exact ⟨h1, h2, by simp [hj, h3]⟩
def mgOk (l : List (Nat × Nat)) (ks : List Nat) (k0 : Nat) : Bool := l.all fun p => p.2 == 0 || p.1 == k0 || ks.contains p.1
theorem Bak.ch (hb : Bak l q S S' S1) (ks : List Nat) (k0 : Nat) (h : mgOk l ks k0 = true := by rfl) : Ch k0 (Cx.mgs ks k0 S) S1 := by
  obtain ⟨e1, e2⟩ := Cx.mgs_mn k0 ks S
  refine ⟨by rw [e2, hb.n]; exact hb.le, fun i hi hk => ?_⟩
  rw [e2] at hi
  obtain ⟨h1, h2, h3⟩ := Cx.mgs_ow k0 ks S i hk
  have key : ∀ (l : List (Nat × Nat)) (o : Nat), mgOk l ks k0 = true → o ≠ k0 → o ∉ ks → sg l o = 0 ∨ 1000 ≤ sg l o := by
    intro l o hm h2 h3
    unfold sg
    by_cases h0 : Nat.beq o 0 = true
    · rw [if_pos h0]; exact .inl rfl
    · rw [if_neg h0]
      induction l with
      | nil => right; simp [lkp]
      | cons p r ih =>
        obtain ⟨a, b⟩ := p
        simp only [mgOk, List.all_cons, Bool.and_eq_true, Bool.or_eq_true, beq_iff_eq] at hm
        simp only [lkp]
        split
        · rename_i e
          have e : a = o := Nat.eq_of_beq_eq_true e
          subst e
          rcases hm.1 with (h | h) | h
          · left; simpa using h
          · exact (h2 h).elim
          · exact (h3 (by simpa using h)).elim
        · exact ih (by simpa [mgOk] using hm.2)
  obtain ⟨g1, _, g3⟩ := hb.old i hi (key l _ h h2 h3)
  exact ⟨by rw [g1, h1], by rw [hb.m, e1]; exact g3⟩
end chm

section rules
variable {E : Env} {lo : List Nat} {fl : Nat} {loose : Nat → Bool} {lim : Option Nat} {ops : Array Oper} {os : List Oper}
variable {l : LE} {m : Mem} {n n0 : Nat} {K : LE → Mem → Nat → Prop}
variable {d : Nat} {ty t : TypeId} {pos : String} {af : Array Edge} {S : Cx fl}
/-- A call that turns what it is given. -/
theorem WO.callG {f : Operand} {xs : Array Operand} {ats : Array TypeId} {g : Nat} {caps : List (Nat × Nat)} {args : List AV} {R : AV → Cx fl → Prop} (p q : List (Nat × Nat)) (hf : evK l f = some (.sc (.fn g caps))) (ha : xs.toList.mapM (evK l) = some args)
    (hr : Ret E fl g (args ++ caps.map fun p => .sc (.ptr p.1 p.2)) S.m S.n (fun v m' n' => ∃ S' : Cx fl, S'.m = m' ∧ S'.n = n' ∧ ChM (S.mp p) S' ∧ R v S'))
    (h : ∀ v S' S1, Bak p q S S' S1 → R v S' → WO E loose fl lim ops os ((d, v) :: l) S1.m S1.n K) (hl : loose g = false := by rfl) :
    WO E loose fl lim ops (⟨some d, .call ⟨.value f, xs, ats⟩, ty, pos, af, none⟩ :: os) l S.m S.n K := by
  refine WO.call hf ha ?_
  rw [hl]; simp only [Bool.false_eq_true, if_false]
  refine hr.mono ?_
  rintro v m' n' ⟨S', rfl, rfl, hM, hR⟩
  obtain ⟨S1, hb⟩ := Bak.mk' p q hM
  have := h v S' S1 hb hR
  rw [hb.m, hb.n] at this
  exact this
end rules
end Go.Am

set_option linter.unusedVariables false
namespace Go.Am

theorem SV.mem_blks {v : SV} {i : Nat} : i ∈ v.blks ↔ v.blk = some i := by
  cases v <;> simp [SV.blks, SV.blk, eq_comm]
/-- Its block is k's. -/
def BK {fl : Nat} (S : Cx fl) (k : Nat) (v : SV) : Prop := ∀ b, v.blk = some b → b < S.n ∧ S.ow b = k
/-- Different blocks. -/
def NB (v w : SV) : Prop := ∀ b, v.blk = some b → w.blk ≠ some b
/-- Its block is new. -/
def GE (n : Nat) (v : SV) : Prop := ∀ b, v.blk = some b → n ≤ b

section bk
variable {α : Type} {A : Lay α} {fl k j : Nat} {S S' : Cx fl} {v w : SV} {L : List α}
theorem Ow.bko (h : Ow A S k v L) : BK S k v := fun b hb => ⟨(h.blk_ow hb).2, (h.blk_ow hb).1⟩
theorem RO.bkz {zi : Nat → Prop} {m : Mem} (h : RO A (fun i => i < S.n ∧ S.ow i = k) zi m v L) : BK S k v := by
  intro b hb
  rcases h with ⟨h1, _⟩ | ⟨i, o, c, cs, h1, _, h3, _⟩
  · rcases h1 with rfl | rfl
    · cases hb
    · cases hb
  · subst h1; cases hb; exact h3
theorem Rd.bko (h : Rd A S v L) : BK S 0 v := RO.bkz h
theorem Wk.bko (h : Wk A S k v L) : BK S k v := RO.bkz h
theorem Bk.bko {a : α} (h : Bk A S k v a) : BK S k v := by
  obtain ⟨b, cs, rfl, _, h2, h3, _⟩ := h
  intro b' hb; cases hb; exact ⟨h2, h3⟩
theorem Rp.bko {a : α} (h : Rp A S v a) : BK S 0 v := by
  obtain ⟨b, cs, rfl, h2, _⟩ := h
  intro b' hb; cases hb; exact h2
theorem Bw.bko {cs : List SV} (h : Bw S k v cs) : BK S k v := by
  obtain ⟨b, rfl, _, h2, h3, _⟩ := h
  intro b' hb; cases hb; exact ⟨h2, h3⟩
theorem Rw.bko {cs : List SV} (h : Rw S v cs) : BK S 0 v := by
  obtain ⟨b, rfl, h2, _⟩ := h
  intro b' hb; cases hb; exact h2
theorem Tw.bko {r : Nat} {Q : List (List α)} (h : Tw A S k r v Q) : BK S k v := by
  obtain ⟨H, h1, _⟩ := h; exact h1.bko
theorem Th.bko {r i : Nat} {Q : List (List α)} (h : Th A S k r v Q i w) : BK S k v := by
  obtain ⟨H, h1, _⟩ := h; exact h1.bko
theorem BK.nb (h : BK S k v) (g : BK S j w) (hkj : Nat.beq k j = false := by rfl) : NB v w := fun b hb hw => Go.Am.nb hkj ((h b hb).2.symm.trans (g b hw).2)
theorem BK.ge {n : Nat} (h : BK S k v) (g : GE n w) (hn : S.n ≤ n) : NB v w := fun b hb hw => by
  have := (h b hb).1; have := g b hw; omega
theorem NB.symm (h : NB v w) : NB w v := fun b hb hw => h b hw hb
theorem ptrAt_blk {i q b : Nat} (h : (ptrAt v i q).blk = some b) : v.blk = some b := by
  cases v <;> simp [ptrAt, SV.blk] at h ⊢ <;> exact h
theorem NB.pt {i q : Nat} (h : NB v w) : NB (ptrAt v i q) w := fun b hb => h b (ptrAt_blk hb)
theorem NB.none (h : v.blk = .none) : NB v w := fun b hb => by rw [h] at hb; cases hb
theorem NB.noneR (h : w.blk = .none) : NB v w := fun b _ hb => by rw [h] at hb; cases hb
end bk

/-- The values of operands. -/
def valsL (l : LE) : List Operand → Option (List SV)
  | [] => some []
  | x :: r => match evK l x with
    | none => none
    | some (.sc v) => match valsL l r with
      | some vs => some (v :: vs)
      | none => none
    | some _ => valsL l r
def rdOps : Op → List Operand
  | .load _ a => [a]
  | .store _ a _ => [a]
  | .call { callee := .builtin .append, args := xs, .. } => xs.toList
  | _ => []
def wrOps : Op → List Operand
  | .store _ a _ => [a]
  | .call { callee := .builtin .append, args := xs, .. } => match xs.toList with
    | x :: _ => [x]
    | [] => []
  | _ => []
def dsOps : Option Nat → List Operand
  | some d => [.tmp d]
  | none => []
theorem valsL_blks {t : Tr AV} {l : LE} (hs : Sees t l) : ∀ {xs : List Operand} {vs : List SV}, valsL l xs = some vs → ∀ x ∈ xs, ∀ i ∈ (evT t x).blks, ∃ v ∈ vs, v.blk = some i
  | [], _, _, x, hx, _, _ => by simp at hx
  | y :: r, vs, h, x, hx, i, hi => by
    simp only [valsL] at h
    have he : ∀ {v : AV}, evK l y = some v → evT t y = v := fun h => evK_ev (m := .nil) (n := 0) hs h
    split at h
    · cases h
    · rename_i v hv
      split at h
      · rename_i ws hw
        cases h
        rcases List.mem_cons.1 hx with rfl | hx
        · rw [he hv] at hi
          exact ⟨v, by simp, SV.mem_blks.1 hi⟩
        · obtain ⟨u, h1, h2⟩ := valsL_blks hs hw x hx i hi
          exact ⟨u, by simp [h1], h2⟩
      · cases h
    · rename_i v hno hv
      rcases List.mem_cons.1 hx with rfl | hx
      · rw [he hv] at hi
        cases v with
        | sc u => exact (hno u rfl).elim
        | _ => simp [AV.blks] at hi
      · exact valsL_blks hs h x hx i hi
def NB1 (v : SV) : List SV → Prop
  | [] => True
  | w :: ws => NB v w ∧ NB1 v ws
def NBs : List SV → List SV → Prop
  | [], _ => True
  | v :: vs, ws => NB1 v ws ∧ NBs vs ws
theorem NB1.mem {v : SV} : ∀ {ws : List SV}, NB1 v ws → ∀ w ∈ ws, NB v w
  | w :: ws, h, u, hu => by
    rcases List.mem_cons.1 hu with rfl | hu
    · exact h.1
    · exact NB1.mem h.2 u hu
theorem NBs.mem : ∀ {vs ws : List SV}, NBs vs ws → ∀ v ∈ vs, ∀ w ∈ ws, NB v w
  | v :: vs, ws, h, u, hu => by
    rcases List.mem_cons.1 hu with rfl | hu
    · exact NB1.mem h.1
    · exact NBs.mem h.2 u hu
theorem readsV_ops (ev : Operand → AV) (op : Op) : readsV ev op = (rdOps op).flatMap fun x => (ev x).blks := by
  unfold readsV rdOps
  split <;> simp
theorem writesV_ops (ev : Operand → AV) (op : Op) : writesV ev op = (wrOps op).flatMap fun x => (ev x).blks := by
  unfold writesV wrOps
  split
  · simp
  · split <;> simp_all
  · simp
theorem dstB_ops (t : Tr AV) (o : Oper) : dstB t o = (dsOps o.dst).flatMap fun x => (evT t x).blks := by
  unfold dstB
  cases o.dst with
  | none => rfl
  | some d => simp [dsOps, evT, St.ev]
theorem djT_of {t : Tr AV} {l : LE} (hs : Sees t l) {a b : Oper} {ra wa da rb wb : List SV} (h1 : valsL l (rdOps a.op) = some ra) (h2 : valsL l (wrOps a.op) = some wa) (h3 : valsL l (dsOps a.dst) = some da) (h4 : valsL l (rdOps b.op) = some rb) (h5 : valsL l (wrOps b.op) = some wb)
    (n1 : NBs wa rb) (n2 : NBs da rb) (n3 : NBs wb ra) : djT t a b = true := by
  unfold djT
  rw [readsV_ops, writesV_ops, readsV_ops, writesV_ops, dstB_ops]
  simp only [Bool.and_eq_true, List.all_eq_true, Bool.not_eq_true', List.contains_eq_mem, decide_eq_false_iff_not, List.mem_flatMap]
  have key : ∀ {xs ys : List Operand} {vs ws : List SV}, valsL l xs = some vs → valsL l ys = some ws → NBs vs ws → ∀ i, (∃ y ∈ ys, i ∈ (evT t y).blks) → ¬ ∃ x ∈ xs, i ∈ (evT t x).blks := by
    rintro xs ys vs ws g1 g2 g3 i ⟨y, hy, hi⟩ ⟨x, hx, hj⟩
    obtain ⟨v, hv, ev⟩ := valsL_blks hs g1 x hx i hj
    obtain ⟨w, hw, ew⟩ := valsL_blks hs g2 y hy i hi
    exact g3.mem v hv w hw i ev ew
  exact ⟨fun i hi => ⟨key h2 h4 n1 i hi, key h3 h4 n2 i hi⟩, fun i hi => fun hj => key h5 h1 n3 i hj hi⟩

def coverD (lo : List Nat) (ops : Array Oper) (loose : Bool) (ps : List (Nat × Nat)) : Bool :=
  ops.toList.zipIdx.all fun (o, j) => ops.toList.zipIdx.all fun (p, i) => !decide (i < j) || ((Region.before ops).getD j 0).testBit i || pairOkL lo ops loose p o || ps.contains (i, j)
def DJ (t : Tr AV) : Option Oper → Option Oper → Prop
  | some a, some b => djT t a b = true
  | _, _ => True
def PD (t : Tr AV) (ops : Array Oper) : List (Nat × Nat) → Prop
  | [] => True
  | q :: r => DJ t ops[q.1]? ops[q.2]? ∧ PD t ops r
theorem PD.mem {t : Tr AV} {ops : Array Oper} {i j : Nat} {a b : Oper} (h1 : ops[i]? = some a) (h2 : ops[j]? = some b) : ∀ (ps : List (Nat × Nat)), PD t ops ps → (i, j) ∈ ps → djT t a b = true := by
  intro ps
  induction ps with
  | nil => intro _ hm; cases hm
  | cons q r ih =>
    intro h hm
    rcases List.mem_cons.1 hm with e | hm
    · subst e
      have h0 : DJ t ops[i]? ops[j]? := h.1
      rw [h1, h2] at h0
      exact h0
    · exact ih h.2 hm
theorem dynOk_of {t : Tr AV} {lo : List Nat} {ops : Array Oper} {loose : Bool} (ps : List (Nat × Nat)) (hp : coverD lo ops loose ps = true) (h : PD t ops ps) : dynOk lo ops loose t = true := by
  unfold coverD at hp
  unfold dynOk
  rw [List.all_eq_true] at hp ⊢
  intro q1 h1
  have hp1 := hp q1 h1
  rw [List.all_eq_true] at hp1 ⊢
  intro q2 h2
  have hp2 := hp1 q2 h2
  obtain ⟨o, j⟩ := q1
  obtain ⟨p, i⟩ := q2
  simp only [Bool.or_eq_true] at hp2 ⊢
  rcases hp2 with g | g
  · exact .inl g
  · right
    rw [List.mem_zipIdx_iff_getElem?] at h1 h2
    simp only [Array.getElem?_toList] at h1 h2
    exact PD.mem h2 h1 ps h (List.contains_iff_mem.1 g)

section rules
variable {E : Env} {lo : List Nat} {fl : Nat} {loose : Nat → Bool} {lim : Option Nat} {ops : Array Oper} {os : List Oper}
variable {l : LE} {m : Mem} {n n0 : Nat} {K : LE → Mem → Nat → Prop} {Q : AE → LE → Mem → Nat → Prop}
variable {α : Type} {A : Lay α} {L M : List α} {d : Nat} {ty t : TypeId} {pos : String} {af : Array Edge} {S : Cx fl}
theorem WC.drawDN {id : Nat} (hp : plainOps ops = false) (h : WO E (tgt lo id) fl (some n) ops ops.toList l m n (fun l' m' n' => (∀ t, Sees t l' → dynOk lo ops (lo.contains id) t = true) ∧ Q .normal l' m' n')) (hg : gId lo id = false := by rfl) : WC E lo fl (.region id ops true) l m n Q := WC.drawD h hg
/-- []T{..}, and that its block is new -/
theorem WO.bsD {len : Nat} {ps : Array (Nat × Operand)} {cs : List SV} (id : Nat) (hin : allK l (.buildSlice t len ps) = true) (hop : opA E (fun _ _ _ _ _ => none) fl lim (evL l) S.m S.n (.buildSlice t len ps) = some (.sc (.sl S.n 0 len len A.sz), S.m.set S.n cs, S.n + 1)) (hL : M.length = len)
    (hR : RL A S.fz S.m M cs) (hid : Nat.beq id 0 = false)
    (h : ∀ v' S', GE S.n v' → Ch id S S' → Ow A S' id v' M → WO E loose fl lim ops os ((d, .sc v') :: l) S'.m S'.n K) : WO E loose fl lim ops (⟨some d, .buildSlice t len ps, ty, pos, af, none⟩ :: os) l S.m S.n K := by
  have hid : id ≠ 0 := fun e => by subst e; cases hid
  subst hL
  have hl := hR.length
  obtain ⟨S', e1, e2, h7, h8⟩ := Ow.fresh (S := S) (cs := cs) (c := M.length) (by rw [← hl, List.take_length]; exact hR) hid (by simp) hl
  refine WO.do hin hop ?_
  rw [← e1, ← e2]
  exact h _ S' (fun b hb => by cases hb; exact Nat.le_refl _) h7 h8
end rules
end Go.Am

set_option linter.unusedVariables false
set_option linter.unusedSimpArgs false
namespace Go.Am

section resc
variable {E : Env} {l l0 : LE} {m : Mem} {rs : List ResultVar} {vs : List AV} {fl id : Nat} {S : Cx fl} {v : SV} {cs : List SV}
theorem resK_t {t : Nat} {w : AV} (hc : Cov l l0) (h : lk l0 t = some w) (r : resK E l m rs = some vs) : resK E l m (.tmp t :: rs) = some (w :: vs) := by
  simp only [resK, hc _ _ h, r]
theorem resK_w {a t sz : Nat} (hs : Bw S id v cs) (hc : Cov l l0) (h1 : lk l0 a = some (.sc v)) (hT : aggT E t sz = true) (hl : Nat.beq sz cs.length = true) (r : resK E l S.m rs = some vs) : resK E l S.m (.cell a t :: rs) = some (.agg cs :: vs) := by
  obtain ⟨y, q1, q2, q3, _⟩ := aggT_ok hT
  obtain ⟨b, rfl, _, _, _, h5⟩ := hs
  have hl := Nat.eq_of_beq_eq_true hl
  simp only [resK, hc _ _ h1, r, loadA, limOk, if_true, h5, part, q1, q2, q3, Nat.zero_add, hl, Nat.le_refl, List.drop_zero, Option.map_some]
  rw [List.take_of_length_le (by omega)]
theorem resK_w1 {a t : Nat} {s : SV} (hs : Bw S id v [s]) (hc : Cov l l0) (h1 : lk l0 a = some (.sc v)) (hT : oneT E t = true) (r : resK E l S.m rs = some vs) : resK E l S.m (.cell a t :: rs) = some (.sc s :: vs) := by
  obtain ⟨y, q1, q2, q3, _⟩ := oneT_ok hT
  obtain ⟨b, rfl, _, _, _, h5⟩ := hs
  have q : ¬ (y.kind = 5 ∨ y.kind = 6) := fun h => h.elim q2 q3
  simp only [resK, hc _ _ h1, r, loadA, limOk, if_true, h5, part, q1]
  rw [if_neg q]; rfl
end resc

theorem splice_field {cs f : List SV} {p q sz : Nat} {s : SV} (h13 : (cs.drop p).take sz = f) (hp : p + sz ≤ cs.length) (hq : q < sz) : splice cs p (f.set q s) = splice cs (p + q) [s] := by
  rw [← h13]
  simp only [splice, List.length_set, List.length_take, List.length_drop, List.append_assoc, List.length_cons, List.length_nil]
  rw [Nat.min_eq_left (by omega)]
  apply List.ext_getElem?
  intro r
  by_cases r1 : r < p
  · rw [List.getElem?_append_left (by simp; omega), List.getElem?_append_left (by simp; omega), List.getElem?_take_of_lt r1, List.getElem?_take_of_lt (by omega)]
  · rw [List.getElem?_append_right (by simp; omega), List.length_take, Nat.min_eq_left (by omega)]
    by_cases r2 : r < p + sz
    · rw [List.getElem?_append_left (by simp; omega), List.getElem?_set, List.getElem?_take_of_lt (by omega), List.getElem?_drop, List.length_take, List.length_drop]
      by_cases r3 : q = r - p
      · rw [if_pos r3, if_pos (by omega), List.getElem?_append_right (by simp; omega), List.length_take, Nat.min_eq_left (by omega)]
        rw [show r - (p + q) = 0 from by omega]; rfl
      · rw [if_neg r3]
        by_cases r4 : r < p + q
        · rw [List.getElem?_append_left (by simp; omega), List.getElem?_take_of_lt (by omega)]; congr 1; omega
        · rw [List.getElem?_append_right (by simp; omega), List.length_take, Nat.min_eq_left (by omega), List.getElem?_append_right (by simp; omega), List.getElem?_drop]; congr 1; simp; omega
    · rw [List.getElem?_append_right (by simp; omega), List.length_set, List.length_take, List.length_drop, Nat.min_eq_left (by omega), List.getElem?_drop, List.getElem?_append_right (by simp; omega), List.length_take, Nat.min_eq_left (by omega), List.getElem?_append_right (by simp; omega), List.getElem?_drop]
      congr 1; simp; omega

section rules
variable {E : Env} {lo : List Nat} {fl : Nat} {loose : Nat → Bool} {lim : Option Nat} {ops : Array Oper} {os : List Oper}
variable {l : LE} {m m0 : Mem} {n n0 : Nat} {K : LE → Mem → Nat → Prop}
variable {d : Nat} {ty t : TypeId} {pos : String} {af : Array Edge} {x y : Operand} {v w : SV} {k k' : IntKind} {s : SV}
variable {α : Type} {A : Lay α} {S : Cx fl} {L L' M : List α} {u : α} {j b q : Nat} {id : Nat}

/-- A field of an element, in place. -/
theorem WO.stIF {sz : Nat} {f : α → List SV} {hf : ∀ a, (f a).length = sz} (hx : evK l x = some (.sc (ptrAt v j q))) (hy : evK l y = some (.sc s)) (hs : Iw (Lay.flat sz f hf) S id n0 b m0 v L) (hu : L[j]? = some u) {u' : α} (hu' : (f u).set q s = f u') (hq : q < sz) (hT : oneT E t = true) (hid : Nat.beq id 0 = false)
    (h : ∀ S', Ch id S S' → Iw (Lay.flat sz f hf) S' id n0 b m0 v (L.set j u') → WO E loose fl lim ops os l S'.m S'.n K) : WO E loose fl lim ops (⟨none, .store t x y, ty, pos, af, none⟩ :: os) l S.m S.n K := ⟨fun tt ht => by
  have hid : id ≠ 0 := fun e => by subst e; cases hid
  obtain ⟨z, h1, h2, h3, h4⟩ := oneT_ok hT
  have hj := (List.getElem?_eq_some_iff.1 hu).1
  obtain ⟨o, cap, cs, rfl, h5, h6, h7, S', e1, e2, h8, h9⟩ := hs.put (u := u') (c := f u') hj rfl hid
  refine W_op2 (v := .tup []) (m' := S'.m) (n' := S'.n) ?_ ((h S' h8 h9).ok tt ht)
  have h7 : o + j * sz + (f u').length ≤ cs.length := h7
  rw [hf] at h7
  obtain ⟨b', o', c', cs', p, e3, _, h10, h11, _, h12, h13⟩ := hs.ro.cell hu
  cases e3
  rw [h6] at h10; cases h10
  have h11 : p = f u := h11
  subst h11
  have h13 : (cs.drop (o + j * sz)).take sz = f u := h13
  have e4 : splice cs (o + j * sz) (f u') = splice cs (o + j * sz + q) [s] := by
    rw [← hu']; exact splice_field h13 h7 hq
  simp only [opA, orA, evK_ev ht hx, evK_ev ht hy, ptrAt, storeA, AV.cells?, h1, List.length_cons, List.length_nil, h4, h5, h6, true_and, Nat.zero_add, if_true]
  have hcond : o + j * sz + q + 1 ≤ cs.length := by omega
  simp only [Lay.flat] at e1 ⊢
  simp only [hcond, if_true]
  rw [← e4, ← e1, e2]; rfl⟩
/-- An element that is a struct, in place. -/
theorem WO.stIA {sz : Nat} {f : α → List SV} {hf : ∀ a, (f a).length = sz} {u' : α} (hx : evK l x = some (.sc (ptrAt v j 0))) (hy : evK l y = some (.agg (f u'))) (hs : Iw (Lay.flat sz f hf) S id n0 b m0 v L) (hj : j < L.length) (hT : aggT E t sz = true) (hid : Nat.beq id 0 = false)
    (h : ∀ S', Ch id S S' → Iw (Lay.flat sz f hf) S' id n0 b m0 v (L.set j u') → WO E loose fl lim ops os l S'.m S'.n K) : WO E loose fl lim ops (⟨none, .store t x y, ty, pos, af, none⟩ :: os) l S.m S.n K := ⟨fun tt ht => by
  have hid : id ≠ 0 := fun e => by subst e; cases hid
  obtain ⟨z, h1, h2, h3, h4⟩ := aggT_ok hT
  obtain ⟨o, cap, cs, rfl, h5, h6, h7, S', e1, e2, h8, h9⟩ := hs.put (u := u') (c := f u') hj rfl hid
  refine W_op2 (v := .tup []) (m' := S'.m) (n' := S'.n) ?_ ((h S' h8 h9).ok tt ht)
  have h7 : o + j * sz + (f u').length ≤ cs.length := h7
  simp only [opA, orA, evK_ev ht hx, evK_ev ht hy, ptrAt, storeA, AV.cells?, h1, h3, hf, h5, h6, true_and, Nat.zero_add, Nat.add_zero, if_true, Lay.flat] at e1 ⊢
  rw [hf] at h7
  rw [if_pos h7, ← e1, e2]; rfl⟩
/-- A pointer to an element is none that is nil. -/
theorem WO.nckE {v : SV} {j q : Nat} (hx : evK l x = some (.sc (ptrAt v j q))) (hv : ∃ b o, ptrAt v j q = .ptr b o) (h : WO E loose fl lim ops os ((d, .sc (ptrAt v j q)) :: l) m n K) : WO E loose fl lim ops (⟨some d, .nilCheck x, ty, pos, af, none⟩ :: os) l m n K := by
  obtain ⟨b, o, e⟩ := hv
  rw [e] at hx h
  exact WO.nckB hx h
theorem WO.nckE0 {v : SV} {j q : Nat} (hx : evK l x = some (.sc (ptrAt v j q))) (hv : ∃ b o, ptrAt v j q = .ptr b o) (h : WO E loose fl lim ops os l m n K) : WO E loose fl lim ops (⟨none, .nilCheck x, ty, pos, af, none⟩ :: os) l m n K := by
  obtain ⟨b, o, e⟩ := hv
  rw [e] at hx
  exact WO.nckB0 hx h
/-- The beginning of an own slice is own. -/
theorem WO.slcO {hi' : Int} {y2 : Operand} (hx : evK l x = some (.sc v)) (hhi : evK l y2 = some (.sc (.int k hi'))) (hs : Ow A S id v L) (hM : sub? L 0 hi' = some M) (hT : slTs E t A.sz = true)
    (h : ∀ w, Ow A S id w M → WO E loose fl lim ops os ((d, .sc w) :: l) S.m S.n K) : WO E loose fl lim ops (⟨some d, .slice t x none (some y2) none, ty, pos, af, none⟩ :: os) l S.m S.n K := by
  obtain ⟨⟨_, q1, q2⟩, rfl⟩ := sub?_some hM
  rcases hs with ⟨rfl, rfl⟩ | ⟨b, c, cs, rfl, h2, h3, h4, h5, h6, h7, h8⟩
  · simp only [List.length_nil] at q2
    have e0 : hi' = 0 := by omega
    subst e0
    obtain ⟨yt, e, e1, e2, e3, e4, _⟩ := slTs_ok hT
    refine ⟨fun tt ht => W_op2 ?_ ((h .nils (.inl ⟨rfl, by simp⟩)).put ht)⟩
    simp only [opA, orA, evK_ev ht hx, evK_ev ht hhi, Option.map_some, Option.map_none, sliceA, e1, e2, e3, e4, boundA]
    simp
  · refine WO.slHto hx hhi ⟨q1, by omega⟩ hT (h _ (.inr ⟨b, c, cs, ?_, h2, h3, h4, ?_, h6, h7, ?_⟩))
    · simp only [Int.toNat_zero, List.drop_zero, List.length_take]
      rw [Nat.min_eq_left (by omega)]
    · simp only [Int.toNat_zero, List.drop_zero, List.length_take]; omega
    · have := RL.take hi'.toNat h8
      rw [List.take_take, Nat.min_eq_left (Nat.mul_le_mul_right _ (by omega))] at this
      simp only [Int.toNat_zero, List.drop_zero, List.length_take]
      rw [Nat.min_eq_left (by omega)]
      exact this
/-! ### Loads in a drawn region, of blocks that stood at its beginning -/
theorem Bk.lt (h : Bk A S id v u) : Lt v S.n := by obtain ⟨b, cs, rfl, _, h4, _⟩ := h; intro c hc; cases hc; exact h4
theorem Rp.lt (h : Rp A S v u) : Lt v S.n := by obtain ⟨b, cs, rfl, h4, _⟩ := h; intro c hc; cases hc; exact h4.1
theorem WO.ldBz {sz : Nat} {f : α → List SV} {hf : ∀ a, (f a).length = sz} {p : SV} (hx : evK l x = some (.sc p)) (hp : p = ptrAt v j q) (hs : Bk (Lay.flat sz f hf) S id v u) (hc : (f u)[q]? = some s) (hT : oneT E t = true) (hv : Lt v n0) (hl : limLe lim n0 = true)
    (h : WO E loose fl lim ops os ((d, .sc s) :: l) S.m S.n K) : WO E loose fl lim ops (⟨some d, .load t x, ty, pos, af, none⟩ :: os) l S.m S.n K := ⟨fun tt ht => by
  subst hp
  obtain ⟨y, h1, h2, h3, _⟩ := oneT_ok hT
  refine W_op2 ?_ (h.put ht)
  obtain ⟨b, cs, rfl, _, h4, _, h5, h6⟩ := hs
  have h6 : cs = f u := h6
  subst h6
  simp only [opA, orA, evK_ev ht hx, ptrAt, loadA, hv.lim hl rfl, if_true, h5, part, h1, h2, h3, or_self, if_false, Nat.zero_add, hc, Option.map_some]⟩
theorem WO.ldBAz {sz : Nat} {f : α → List SV} {hf : ∀ a, (f a).length = sz} {p : SV} (hx : evK l x = some (.sc p)) (hp : p = ptrAt v j 0) (hs : Bk (Lay.flat sz f hf) S id v u) (hT : aggT E t sz = true) (hv : Lt v n0) (hl : limLe lim n0 = true)
    (h : WO E loose fl lim ops os ((d, .agg (f u)) :: l) S.m S.n K) : WO E loose fl lim ops (⟨some d, .load t x, ty, pos, af, none⟩ :: os) l S.m S.n K := ⟨fun tt ht => by
  subst hp
  obtain ⟨y, h1, h2, h3, _⟩ := aggT_ok hT
  refine W_op2 ?_ (h.put ht)
  obtain ⟨b, cs, rfl, _, h4, _, h5, h6⟩ := hs
  have h6 : cs = f u := h6
  subst h6
  have := hf u
  simp only [opA, orA, evK_ev ht hx, ptrAt, loadA, hv.lim hl rfl, if_true, h5, part, h1, h2, h3, Nat.zero_add, this, Nat.le_refl, List.drop_zero, Option.map_some]
  rw [List.take_of_length_le (by omega)]⟩
theorem WO.ldPz {sz : Nat} {f : α → List SV} {hf : ∀ a, (f a).length = sz} (hx : evK l x = some (.sc v)) (hs : Rp (Lay.flat sz f hf) S v u) (hc : (f u)[0]? = some s) (hT : oneT E t = true) (hv : Lt v n0) (hl : limLe lim n0 = true)
    (h : WO E loose fl lim ops os ((d, .sc s) :: l) S.m S.n K) : WO E loose fl lim ops (⟨some d, .load t x, ty, pos, af, none⟩ :: os) l S.m S.n K := ⟨fun tt ht => by
  obtain ⟨y, h1, h2, h3, _⟩ := oneT_ok hT
  refine W_op2 ?_ (h.put ht)
  obtain ⟨b, cs, rfl, h4, h5, h6⟩ := hs
  have h6 : cs = f u := h6
  subst h6
  simp only [opA, orA, evK_ev ht hx, loadA, hv.lim hl rfl, if_true, h5, part, h1, h2, h3, or_self, if_false, hc, Option.map_some]⟩
theorem WO.ldPAz {sz : Nat} {f : α → List SV} {hf : ∀ a, (f a).length = sz} (hx : evK l x = some (.sc v)) (hs : Rp (Lay.flat sz f hf) S v u) (hT : aggT E t sz = true) (hv : Lt v n0) (hl : limLe lim n0 = true)
    (h : WO E loose fl lim ops os ((d, .agg (f u)) :: l) S.m S.n K) : WO E loose fl lim ops (⟨some d, .load t x, ty, pos, af, none⟩ :: os) l S.m S.n K := ⟨fun tt ht => by
  obtain ⟨y, h1, h2, h3, _⟩ := aggT_ok hT
  refine W_op2 ?_ (h.put ht)
  obtain ⟨b, cs, rfl, h4, h5, h6⟩ := hs
  have h6 : cs = f u := h6
  subst h6
  have := hf u
  simp only [opA, orA, evK_ev ht hx, loadA, hv.lim hl rfl, if_true, h5, part, h1, h2, h3, Nat.zero_add, this, Nat.le_refl, List.drop_zero, Option.map_some]
  rw [List.take_of_length_le (by omega)]⟩

/-! ### A call that turns nothing, in a loose region -/
/-- The caller's numbers as the callee sees them; all that is there lies under the floor. -/
def Cx.up {fl : Nat} (S : Cx fl) (l : List (Nat × Nat)) : Cx S.n := ⟨S.m, S.n, fun i => sg l (S.ow i), Nat.le_refl _⟩
/-- A lower floor. -/
def Cx.low {f f' : Nat} (S : Cx f) (h : f' ≤ f) : Cx f' := ⟨S.m, S.n, S.ow, Nat.le_trans h S.le⟩
section up
variable {lq : List (Nat × Nat)}
theorem fz_up : ∀ i, S.fz i → (S.up lq).fz i ∧ (S.up lq).m.get i = S.m.get i := fun i ⟨h1, h2⟩ => ⟨⟨h1, by show sg lq (S.ow i) = 0; rw [h2]; rfl⟩, rfl⟩
theorem Rd.up (h : Rd A S v L) : Rd A (S.up lq) v L := RO.to h fz_up fz_up
theorem Wk.up0 (h : Wk A S id v L) (e : sg lq id = 0) : Rd A (S.up lq) v L := RO.to h (fun i hi => ⟨⟨hi.1, by show sg lq (S.ow i) = 0; rw [hi.2]; exact e⟩, rfl⟩) fz_up
theorem Ow.up0 (h : Ow A S id v L) (e : sg lq id = 0) : Rd A (S.up lq) v L := h.wk.up0 e
theorem Tw.up0 {r : Nat} {LL : List (List α)} (h : Tw A S id r v LL) (e : sg lq id = 0) (e' : sg lq r = 0) : Rd (Lay.sl A) (S.up lq) v LL :=
  h.ro (zo := (S.up lq).fz) (zi := (S.up lq).fz) (fun b hb => ⟨hb.1, by show sg lq (S.ow b) = 0; rw [hb.2]; exact e⟩) (fun i hi => ⟨hi.1, by
    show sg lq (S.ow i) = 0
    rcases hi.2 with h | h
    · rw [h]; exact e'
    · rw [h]; rfl⟩)
theorem Ow.low {f f' : Nat} {S' : Cx f} {hf : f' ≤ f} (h : Ow A S' id v L) : Ow A (S'.low hf) id v L := by
  rcases h with h | ⟨b, c', cs, h1, h2, h3, h4, h5, h6, h7, h8⟩
  · exact .inl h
  · exact .inr ⟨b, c', cs, h1, Nat.le_trans hf h2, h3, h4, h5, h6, h7, h8⟩
theorem Rd.low {f f' : Nat} {S' : Cx f} {hf : f' ≤ f} (h : Rd A S' v L) : Rd A (S'.low hf) v L := h
theorem Tw.low {f f' r : Nat} {S' : Cx f} {hf : f' ≤ f} {LL : List (List α)} (h : Tw A S' id r v LL) : Tw A (S'.low hf) id r v LL := by
  obtain ⟨H, h1, h2⟩ := h
  exact ⟨H, h1.low, h2.len, fun i w R a b e => (h2.row i w R a b e).low, h2.sep⟩
end up
theorem WO.callG0 {f : Operand} {xs : Array Operand} {ats : Array TypeId} {g : Nat} {caps : List (Nat × Nat)} {args : List AV} {R : AV → Cx S.n → Prop} (p q : List (Nat × Nat)) (hf : evK l f = some (.sc (.fn g caps))) (ha : xs.toList.mapM (evK l) = some args)
    (hr : Ret E S.n g (args ++ caps.map fun p => .sc (.ptr p.1 p.2)) S.m S.n (fun v m' n' => ∃ S' : Cx S.n, S'.m = m' ∧ S'.n = n' ∧ ChM (S.up p) S' ∧ R v S'))
    (h : ∀ v (S' : Cx S.n) (S1 : Cx fl), Bak p q S (S'.low S.le) S1 → R v S' → WO E loose fl lim ops os ((d, v) :: l) S1.m S1.n K) :
    WO E loose fl lim ops (⟨some d, .call ⟨.value f, xs, ats⟩, ty, pos, af, none⟩ :: os) l S.m S.n K := by
  have hS := S.le
  refine WO.call hf ha (Ret.use (by cases loose g <;> simp <;> omega) hr fun v m' n' hR _ => ?_)
  obtain ⟨S', rfl, rfl, hM, hR⟩ := hR
  have hC : ChM (S.mp p) (S'.low hS) := ⟨hM.n, hM.ow⟩
  obtain ⟨S1, hb⟩ := Bak.mk' p q hC
  have := h v S' S1 hb hR
  rw [hb.m, hb.n] at this
  exact this
theorem Bk.ren (h : Bk A S id v u) (j : Nat) (hk : Nat.beq id 0 = false := by rfl) (hj : Nat.beq j 0 = false := by rfl) : Bk A (S.ren id j) j v u := by
  have hk : id ≠ 0 := fun e => by subst e; cases hk
  have hj : j ≠ 0 := fun e => by subst e; cases hj
  obtain ⟨b, cs, h1, h2, h3, h4, h6, h8⟩ := h
  exact ⟨b, cs, h1, h2, h3, by simp only [Cx.ren]; rw [if_pos h4], h6, A.frame h8 (fz_ren id j hk hj)⟩
/-- A row is taken out in a drawn region, in which nothing is new as yet. -/
theorem WO.ldTn {r i : Nat} {R : List α} {LL : List (List α)} (j : Nat) (hx : evK l x = some (.sc (ptrAt v i 0))) (hs : Tw A S id r v LL) (hR : LL[i]? = some R) (hT : oneT E t = true) (hv : Lt v n0) (hl : limLe lim n0 = true) (hn : S.n = n0) (h1 : Nat.beq r 0 = false) (h2 : Nat.beq j 0 = false) (h3 : Nat.beq id r = false)
    (h : ∀ w S1, Ch r S S1 → Th A S1 id r v LL i w → Ow A S1 j w R → S1.n = n0 → RO A (fun i => i < n0 ∧ i < S1.n ∧ S1.ow i = j) S1.fz S1.m w R → WO E loose fl lim ops os ((d, .sc w) :: l) S1.m S1.n K) : WO E loose fl lim ops (⟨some d, .load t x, ty, pos, af, none⟩ :: os) l S.m S.n K := by
  obtain ⟨w, S1, e1, e2, hc, ho, hh⟩ := hs.take hR j h1 h2 h3
  have hn1 : S1.n = n0 := e2.trans hn
  have hz := ho.oz
  rw [hn1] at hz
  have hn := h w S1 hc hh ho hn1 (by rw [hn1]; exact hz)
  obtain ⟨H, g1, g2, g3⟩ := hh
  rw [← e1, ← e2]
  exact WO.ldH hx g1 g3 hT hv hl hn
end rules
end Go.Am

set_option linter.unusedSimpArgs false
namespace Go.Am

theorem wrapA_in {a : Int} (h1 : -9223372036854775808 ≤ a) (h2 : a ≤ 9223372036854775807) : wrapA .i64 a = a := if_pos ⟨h1, h2⟩
theorem wrapA_id {a : Int} (h1 : 0 ≤ a) (h2 : a ≤ 549755813888) : wrapA .i64 a = a := wrapA_in (by omega) (by omega)
theorem wrapA_zero : wrapA .i64 (0 - 0) = 0 := rfl
theorem wrapA_succ {a : Nat} (h : a ≤ 1152921504606846976) : wrapA .i64 ((a : Int) + 1) = ((a + 1 : Nat) : Int) := by
  rw [wrapA_in (by omega) (by omega)]; rfl
theorem wrapA_pred {a : Nat} (h0 : 0 < a) (h : a ≤ 1152921504606846976) : wrapA .i64 ((a : Int) - 1) = ((a - 1 : Nat) : Int) := by
  rw [wrapA_in (by omega) (by omega)]; omega
theorem appZ?_nil {α : Type} {z : α} {k : Int} (h1 : 0 ≤ k) (h2 : k ≤ 549755813888) : appZ? [] k z = some (List.replicate k.toNat z) := by
  unfold appZ?
  rw [if_pos ⟨h1, by simp; omega⟩]; rfl
theorem sub?_zero {α : Type} (L : List α) : sub? L 0 0 = some [] := by
  unfold sub?
  rw [if_pos ⟨by omega, by omega, by omega⟩]; rfl

/-! ### What Compact leaves -/
/-- p stands ahead of the list: what is left of it. -/
def ddF {α : Type} (eq : α → α → Option Bool) : α → List α → Option (List α)
  | _, [] => some []
  | p, x :: r => (eq x p).bind fun q => (ddF eq x r).bind fun M => some (if q then M else x :: M)
def compF? {α : Type} (eq : α → α → Option Bool) : List α → Option (List α)
  | [] => some []
  | a :: r => if (a :: r).length ≤ 1152921504606846976 then (ddF eq a r).bind fun M => some (a :: M) else none
def DD {α : Type} (eq : α → α → Option Bool) (T r L : List α) (k i : Nat) : Prop := ∃ p R, T[i - 1]? = some p ∧ ddF eq p (T.drop i) = some R ∧ r = L.take k ++ R
section dd
variable {α : Type} {eq : α → α → Option Bool} {T r L : List α} {k i : Nat}
theorem compF?_short (h : compF? eq T = some r) (hl : T.length < 2) : r = T := by
  match T, h, hl with
  | [], h, _ => cases h; rfl
  | [a], h, _ =>
    simp only [compF?, ddF] at h
    rw [if_pos (by simp)] at h
    cases h; rfl
  | _ :: _ :: _, _, hl => simp at hl; omega
theorem DD.start (h : compF? eq T = some r) (hl : 0 < T.length) : T.length ≤ 1152921504606846976 ∧ DD eq T r T 1 1 := by
  match T, h, hl with
  | a :: R, h, _ =>
    simp only [compF?] at h
    split at h
    · rename_i hb
      obtain ⟨M, e, h⟩ := bindS h
      cases h
      exact ⟨hb, a, M, rfl, e, rfl⟩
    · cases h
theorem DD.step (h : DD eq T r L k i) (hi : i < T.length) : ∃ x p q, T[i]? = some x ∧ T[i - 1]? = some p ∧ eq x p = some q ∧ (q = true → DD eq T r L k (i + 1)) ∧ (q = false → k < L.length → DD eq T r (L.set k x) (k + 1) (i + 1)) := by
  obtain ⟨p, R, h1, h2, h3⟩ := h
  rw [List.drop_eq_getElem_cons hi] at h2
  unfold ddF at h2
  obtain ⟨q, e1, h2⟩ := bindS h2
  obtain ⟨M, e2, h2⟩ := bindS h2
  have hx : T[i]? = some T[i] := List.getElem?_eq_getElem hi
  refine ⟨T[i], p, q, hx, h1, e1, fun hq => ?_, fun hq hk => ?_⟩
  · subst hq
    cases h2
    exact ⟨T[i], M, by rw [Nat.add_sub_cancel]; exact hx, e2, h3⟩
  · subst hq
    cases h2
    refine ⟨T[i], M, by rw [Nat.add_sub_cancel]; exact hx, e2, ?_⟩
    rw [h3]
    have : (L.set k T[i]).take (k + 1) = L.take k ++ [T[i]] := by
      rw [List.take_add_one, List.take_set_of_le (Nat.le_refl k), List.getElem?_set_self hk]; rfl
    rw [this]; simp
theorem DD.fin (h : DD eq T r L k T.length) : r = L.take k := by
  obtain ⟨p, R, h1, h2, h3⟩ := h
  rw [List.drop_of_length_le (Nat.le_refl _)] at h2
  cases h2
  rw [h3]; simp
theorem DD.same {x : α} (h : DD eq T r (T.set i x) (i + 1) (i + 1)) (hx : T[i]? = some x) : DD eq T r T (i + 1) (i + 1) := by
  have : T.set i x = T := by
    obtain ⟨hi, rfl⟩ := List.getElem?_eq_some_iff.1 hx
    exact List.set_getElem_self hi
  rwa [this] at h
theorem ddF_mono {eq' : α → α → Option Bool} (h : ∀ x y q, eq x y = some q → eq' x y = some q) : ∀ {p : α} {L M : List α}, ddF eq p L = some M → ddF eq' p L = some M
  | _, [], _, hm => hm
  | p, x :: r, M, hm => by
    unfold ddF at hm ⊢
    obtain ⟨q, e1, hm⟩ := bindS hm
    obtain ⟨M', e2, hm⟩ := bindS hm
    rw [h _ _ _ e1, Option.bind_some, ddF_mono h e2]; exact hm
theorem compF?_mono {eq' : α → α → Option Bool} (h : ∀ x y q, eq x y = some q → eq' x y = some q) {M : List α} (hm : compF? eq T = some M) : compF? eq' T = some M := by
  match T, hm with
  | [], hm => exact hm
  | a :: r, hm =>
    simp only [compF?] at hm ⊢
    split at hm
    · rename_i hb
      obtain ⟨M', e2, hm⟩ := bindS hm
      rw [if_pos hb, ddF_mono h e2]; exact hm
    · cases hm
end dd

section rules
variable {E : Env} {lo : List Nat} {fl : Nat} {loose : Nat → Bool} {lim : Option Nat} {ops : Array Oper} {os : List Oper}
variable {l : LE} {m : Mem} {n : Nat} {K : LE → Mem → Nat → Prop}
variable {d : Nat} {ty t t1 : TypeId} {pos : String} {af : Array Edge} {x y i : Operand} {v w : SV} {k k' : IntKind} {a b : Int}
variable {α : Type} {A : Lay α} {S : Cx fl} {L L' M : List α} {j q : Nat} {u : α} {s : SV} {id : Nat}

theorem Ow.hdr {k : Nat} (h : Ow A S k v L) (hl : 0 < L.length) : ∃ b c, v = .sl b 0 L.length c A.sz ∧ L.length ≤ c ∧ fl ≤ b := by
  rcases h with ⟨_, rfl⟩ | ⟨b, c, cs, h1, h2, h3, h4, h5, _⟩
  · simp at hl
  · exact ⟨b, c, h1, h5, h2⟩
theorem Ow.raw {k b n c : Nat} (h : Ow A S k (.sl b 0 n c A.sz) L) : ∃ cs, L.length = n ∧ fl ≤ b ∧ b < S.n ∧ S.ow b = k ∧ n ≤ c ∧ S.m.get b = some cs ∧ cs.length = c * A.sz ∧ RL A S.fz S.m L (cs.take (L.length * A.sz)) := by
  rcases h with ⟨e, _⟩ | ⟨b', c', cs, e, h2, h3, h4, h5, h6, h7, h8⟩
  · cases e
  · cases e; exact ⟨cs, rfl, h2, h3, h4, h5, h6, h7, h8⟩
theorem WO.ixK {b o ln c q : Nat} (hx : evK l x = some (.sc (.sl b o ln c 1))) (hi : evK l i = some (.sc (.int k (q : Int)))) (hq : q < ln) (hc : ln ≤ c) (hT : slTs E t 1 = true) (h : WO E loose fl lim ops os ((d, .sc (.ptr b (o + q))) :: l) m n K) :
    WO E loose fl lim ops (⟨some d, .indexAddr t x i, ty, pos, af, none⟩ :: os) l m n K :=
  WO.ixS hx hi (.inr ⟨b, o, c, rfl, hc⟩) ⟨by omega, by omega⟩ hT (by simpa [ptrAt] using h)
theorem WO.ldK {b n c q : Nat} (hA : A.sz = 1) (hx : evK l x = some (.sc (.ptr b q))) (hs : Ow A S id (.sl b 0 n c A.sz) L) (hu : L[q]? = some u) (hT : oneT E t = true) (hl : limLe lim S.n = true)
    (h : ∀ s, A.R S.fz S.m u [s] → WO E loose fl lim ops os ((d, .sc s) :: l) S.m S.n K) : WO E loose fl lim ops (⟨some d, .load t x, ty, pos, af, none⟩ :: os) l S.m S.n K := ⟨fun tt ht => by
  obtain ⟨y, h1, h2, h3, _⟩ := oneT_ok hT
  obtain ⟨b', o, c', cs, p, e, h4, h5, h6, hp, h8, h7⟩ := hs.ro.cell hu
  obtain ⟨s, rfl⟩ : ∃ s, p = [s] := by
    rw [hA] at hp
    match p, hp with
    | [s], _ => exact ⟨s, rfl⟩
  cases e
  refine W_op2 ?_ ((h s h6).put ht)
  have hcell := cell_at (q := 0) h7 rfl
  rw [hA] at hcell
  simp only [Nat.zero_add, Nat.mul_one, Nat.add_zero] at hcell
  simp only [opA, orA, evK_ev ht hx, loadA, limOk_of hl h4, if_true, h5, part, h1, h2, h3, or_self, if_false, hcell, Option.map_some]⟩
theorem WO.stK {b n c q : Nat} (hA : A.sz = 1) (hx : evK l x = some (.sc (.ptr b q))) (hy : evK l y = some (.sc s)) (hs : Ow A S id (.sl b 0 n c A.sz) L) (hq : q < L.length) (hu : A.R S.fz S.m u [s]) (hT : oneT E t = true) (hid : Nat.beq id 0 = false)
    (h : ∀ S', Ch id S S' → Ow A S' id (.sl b 0 n c A.sz) (L.set q u) → WO E loose fl lim ops os l S'.m S'.n K) : WO E loose fl lim ops (⟨none, .store t x y, ty, pos, af, none⟩ :: os) l S.m S.n K := ⟨fun tt ht => by
  have hid : id ≠ 0 := fun e => by subst e; cases hid
  obtain ⟨z, h1, h2, h3, h4⟩ := oneT_ok hT
  obtain ⟨b', cap, cs, e, h5, h6, h7, S', e1, e2, h8, h9⟩ := hs.put hq hu hid
  cases e
  refine W_op2 (v := .tup []) (m' := S'.m) (n' := S'.n) ?_ ((h S' h8 h9).ok tt ht)
  simp only [opA, orA, evK_ev ht hx, evK_ev ht hy, storeA, AV.cells?, h1, List.length_cons, List.length_nil, h4, h5, h6, true_and, Nat.zero_add, if_true, hA, Nat.mul_one] at e1 h7 ⊢
  rw [if_pos h7, ← e1, e2]; rfl⟩
theorem WO.slK {y1 : Operand} {b ln c q : Nat} (hx : evK l x = some (.sc (.sl b 0 ln c 1))) (hlo : evK l y1 = some (.sc (.int k (q : Int)))) (hq : q < ln) (hc : ln ≤ c) (hT : slTs E t 1 = true)
    (h : WO E loose fl lim ops os ((d, .sc (.sl b q (ln - q) (c - q) 1)) :: l) m n K) : WO E loose fl lim ops (⟨some d, .slice t x (some y1) none none, ty, pos, af, none⟩ :: os) l m n K := ⟨fun tt ht => by
  obtain ⟨yt, e, e1, e2, e3, e4, _⟩ := slTs_ok hT
  refine W_op2 ?_ (h.put ht)
  have key : sliceA E t (.sc (.sl b 0 ln c 1)) (some (.sc (.int k (q : Int)))) none none = some (.sc (.sl b q (ln - q) (c - q) 1)) := by
    simp only [sliceA, e1, e2, e3, e4, Option.map_some, boundA]
    rw [if_pos (show 0 ≤ (q : Int) ∧ (q : Int) ≤ (ln : Int) from by omega)]
    simp only
    rw [if_pos (show (q : Int).toNat < c ∨ (q : Int).toNat = 0 from by omega)]
    simp
  simp only [opA, orA, evK_ev ht hx, evK_ev ht hlo, Option.map_some, Option.map_none, key]⟩
theorem WO.clK {b n c q : Nat} (hA : A.sz = 1) (hx : evK l x = some (.sc (.sl b q (n - q) (c - q) 1))) (hs : Ow A S id (.sl b 0 n c A.sz) L) (hq : q ≤ n) (hT : slTs E t 1 = true) (hid : Nat.beq id 0 = false)
    (h : ∀ S', Ch id S S' → Ow A S' id (.sl b 0 q c A.sz) (L.take q) → WO E loose fl lim ops os l S'.m S'.n K) : WO E loose fl lim ops (⟨none, .call ⟨.builtin .clear, #[x], #[t]⟩, ty, pos, af, none⟩ :: os) l S.m S.n K := by
  have hid : id ≠ 0 := fun e => by subst e; cases hid
  obtain ⟨cs, h0, h1, h2, h3, h4, h5, h6, h7⟩ := hs.raw
  rw [hA, Nat.mul_one] at h6 h7
  refine WO.clrH hx h5 (by omega) h1 hT (fun z hz => ?_)
  have hch : Ch id S (⟨S.m.set b (splice cs q z), S.n, S.ow, S.le⟩ : Cx fl) := ⟨Nat.le_refl _, fun i hi hk => ⟨rfl, Tr.get_set_ne _ _ (fun e => hk (by rw [e]; exact h3))⟩⟩
  have hlt : (L.take q).length = q := by rw [List.length_take]; omega
  refine h ⟨S.m.set b (splice cs q z), S.n, S.ow, S.le⟩ hch (.inr ⟨b, c, _, by rw [hlt], h1, h2, h3, by omega, Tr.get_set_same _ _ _, ?_, ?_⟩)
  · simp only [splice, List.length_append, List.length_take, List.length_drop, hz, hA, Nat.mul_one]; omega
  · have r := (RL.take q h7).frame (fz_ch hch hid)
    rw [hA, Nat.mul_one, List.take_take, Nat.min_eq_left (by omega)] at r
    rw [hA, Nat.mul_one, hlt]
    have : (splice cs q z).take q = cs.take q := by
      simp only [splice, List.append_assoc]
      rw [List.take_append_of_le_length (by rw [List.length_take]; omega), List.take_take, Nat.min_self]
    rw [this]; exact r
/-- The elements are so small that bnd of them fit. -/
def slTb (E : Env) (t sz bnd : Nat) : Bool := slTs E t sz && (match E.ty t with
  | some y => (match E.ty y.elem with
    | some e => decide (bnd * e.bytes ≤ 140737488355328)
    | none => false)
  | none => false)
/-- append of many to what is empty: their bytes alone count. -/
theorem WO.appN {y2 : Operand} {zo : Nat → Prop} {bnd : Nat} (hx : evK l x = some (.sc v)) (hy : evK l y2 = some (.sc w)) (hs : Ow A S id v []) (hs2 : RO A zo S.fz S.m w L') (hM : L'.length ≤ bnd) (hb : bnd ≤ 9223372036854775807) (hT : slTb E t A.sz bnd = true) (hid : Nat.beq id 0 = false)
    (h : ∀ v' S', Ch id S S' → Ow A S' id v' L' → WO E loose fl lim ops os ((d, .sc v') :: l) S'.m S'.n K) :
    WO E loose fl lim ops (⟨some d, .call ⟨.builtin .append, #[x, y2], #[t, t]⟩, ty, pos, af, none⟩ :: os) l S.m S.n K := ⟨fun tt ht => by
  have hid : id ≠ 0 := fun e => by subst e; cases hid
  unfold slTb at hT
  simp only [Bool.and_eq_true] at hT
  obtain ⟨hT, hT2⟩ := hT
  obtain ⟨z, e, h1, h2, h3, h4, h5, h5', h6⟩ := slTs_ok hT
  simp only [h1, h3, decide_eq_true_eq] at hT2
  obtain ⟨new, q1, q2⟩ := hs2.elems
  obtain ⟨old, q3, q4⟩ := hs.ro.elems
  have holdc : ∀ b c, v = .sl b 0 ([] : List α).length c A.sz → ∀ cs, S.m.get b = some cs → old = cs.take (([] : List α).length * A.sz) := by
    intro b c e cs hcs
    subst e
    simp only [elemsA, hcs] at q3
    rw [if_neg (by simp)] at q3
    split at q3
    · cases q3; rfl
    · cases q3
  have hby : (([] : List α).length + L'.length) * e.bytes ≤ 140737488355328 := by
    rw [List.length_nil, Nat.zero_add]; exact Nat.le_trans (Nat.mul_le_mul_right _ hM) hT2
  obtain ⟨v', S', q5, q6, q7⟩ := hs.app0 hid q2 h4 hby (by simp; omega) q4 holdc
  refine W_op2 (m' := S'.m) (n' := S'.n) ?_ ((h v' S' q6 q7).put ht)
  simp only [opA, orA, callA, builtinA, List.map_cons, List.map_nil, evK_ev ht hx, evK_ev ht hy]
  simp only [List.getElem?_toArray, List.getElem?_cons_zero, List.getElem?_cons_succ, if_true, appendA, h1, h2, h3, h4, h5]
  rw [q3, q1]
  simpa [h5'] using q5⟩
end rules
end Go.Am

namespace Go.Am

/-! ### Regions of the kind G -/
section g
variable {E : Env} {lo : List Nat} {fl : Nat} {loose : Nat → Bool} {lim : Option Nat} {ops : Array Oper} {os o1 o2 : List Oper} {R : List Nat}

theorem opA_nocall {c c' : CallF} {lim : Option Nat} {ev : Operand → AV} {m : Mem} {n : Nat} {op : Op} (h : cls op ≠ 3) : opA E c fl lim ev m n op = opA E c' fl lim ev m n op := by
  cases op with
  | call q =>
    obtain ⟨callee, xs, ats⟩ := q
    cases callee with
    | value f => exact (h rfl).elim
    | _ => rfl
  | _ => rfl
theorem opsA_nocall {c c' : CallF} : ∀ (os : List Oper) (s : St), (os.all fun o => cls o.op != 3) = true → opsA E c fl lim ops os s = opsA E c' fl lim ops os s
  | [], _, _ => rfl
  | o :: os, s, h => by
    simp only [List.all_cons, Bool.and_eq_true, bne_iff_ne] at h
    have h1 : stepA E c fl lim ops o s = stepA E c' fl lim ops o s := by
      unfold stepA
      rw [opA_nocall h.1]
    simp only [opsA, h1]
    split
    · exact opsA_nocall os _ h.2
    · rfl
theorem opsA_app {c : CallF} : ∀ (o1 : List Oper) {o2 : List Oper} {s s1 s2 : St}, opsA E c fl lim ops o1 s = some s1 → opsA E c fl lim ops o2 s1 = some s2 → opsA E c fl lim ops (o1 ++ o2) s = some s2
  | [], _, _, _, _, h1, h2 => by simp only [opsA] at h1; cases h1; exact h2
  | o :: r, o2, s, s1, s2, h1, h2 => by
    simp only [opsA, List.cons_append] at h1 ⊢
    split at h1
    · exact opsA_app r h1 h2
    · cases h1
theorem callG_le {c c' : CallF} (h : CallLe c c') (R : List Nat) : CallLe (callG R c) (callG R c') := by
  intro fl f args m n r hc
  obtain ⟨h1, h2⟩ := callG_some hc
  exact callG_mk (h _ _ _ _ _ _ h1) h2
theorem callG_sub {c : CallF} {R R' : List Nat} (h : ∀ q ∈ R', q ∈ R) : CallLe (callG R c) (callG R' c) := by
  intro fl f args m n r hc
  obtain ⟨h1, h2⟩ := callG_some hc
  exact callG_mk h1 fun q hq => h2 q (h q hq)

def OpsG (E : Env) (R : List Nat) (loose : Nat → Bool) (fl : Nat) (lim : Option Nat) (ops : Array Oper) (os : List Oper) (s : St) (Q : St → Prop) : Prop := ∃ k s', opsA E (callG R (callD (callF E k) loose)) fl lim ops os s = some s' ∧ Q s'
theorem OpsG.pre {s : St} {Q : St → Prop} (hc : (o1.all fun o => cls o.op != 3) = true) (h : Ops E loose fl lim ops o1 s fun s' => OpsG E R loose fl lim ops o2 s' Q) : OpsG E R loose fl lim ops (o1 ++ o2) s Q := by
  obtain ⟨k1, s1, h1, k2, s2, h2, h3⟩ := h
  exact ⟨k2, s2, opsA_app o1 ((opsA_nocall o1 s hc).trans h1) h2, h3⟩
theorem OpsG.nil {s : St} {Q : St → Prop} (h : Q s) : OpsG E R loose fl lim ops [] s Q := ⟨0, s, rfl, h⟩
theorem OpsG.call {o : Oper} {s : St} {Q : St → Prop} {f : Operand} {xs : Array Operand} {ats : Array TypeId} {g : Nat} {caps : List (Nat × Nat)} (hop : o.op = .call ⟨.value f, xs, ats⟩) (hw : wantedA ops s o = some true)
    (hf : s.ev f = .sc (.fn g caps)) (h : Ret E (if loose g then max fl s.n else fl) g (xs.toList.map s.ev ++ caps.map fun p => .sc (.ptr p.1 p.2)) s.m s.n (fun v m' n' => (∀ q ∈ R, m'.get q = s.m.get q) ∧ OpsG E R loose fl lim ops os (s.put o.dst v m' n') Q)) :
    OpsG E R loose fl lim ops (o :: os) s Q := by
  obtain ⟨k1, v, m', n', h1, hR, k2, s', h2, h3⟩ := h
  refine ⟨k1 + k2, s', ?_, h3⟩
  have hstep : stepA E (callG R (callD (callF E (k1 + k2)) loose)) fl lim ops o s = some (s.put o.dst v m' n') := by
    unfold stepA
    rw [hw]
    have := callG_mk (R := R) (call := callD (callF E (k1 + k2)) loose) (fl := fl) (f := g) (args := xs.toList.map s.ev ++ caps.map fun p => .sc (.ptr p.1 p.2)) (m := s.m) (n := s.n) (r := (v, m', n')) (callLe_more k1 k2 _ _ _ _ _ _ h1) hR
    simp only [hop, opA, callA, hf, this]
  simp only [opsA, hstep]
  rw [Nat.add_comm]
  exact opsA_le (callG_le (callD_le (callLe_more k2 k1) _) _) _ _ _ h2
theorem Runs.drawG {id : Nat} {s : St} {Q : AE → St → Prop} (hg : gId lo id = true) (hd : dynId lo id = false) (hR : ∀ q ∈ rdB s.t ops, q ∈ R) (h : OpsG E R (tgt lo id) fl (some s.n) ops ops.toList s (Q .normal)) : Runs E lo fl (.region id ops true) s Q := by
  obtain ⟨k, s', h1, h2⟩ := h
  refine ⟨k + 1, .normal, s', ?_, h2⟩
  rw [run_region]
  simp only [if_true]
  have : callR lo id ops s.t (callF E k) = callG (rdB s.t ops) (callD (callF E k) (tgt lo id)) := by unfold callR; rw [hg]; rfl
  rw [this, opsA_le (callG_sub hR) _ _ _ h1, Option.bind_some, chkD, hd]; rfl

structure WOG (E : Env) (R : List Nat) (loose : Nat → Bool) (fl : Nat) (lim : Option Nat) (ops : Array Oper) (os : List Oper) (l : LE) (m : Mem) (n : Nat) (K : LE → Mem → Nat → Prop) : Prop where
  ok : ∀ t, Sees t l → OpsG E R loose fl lim ops os ⟨t, m, n⟩ fun s => ∃ l', Sees s.t l' ∧ K l' s.m s.n
variable {l : LE} {m : Mem} {n : Nat} {K : LE → Mem → Nat → Prop} {Q : AE → LE → Mem → Nat → Prop} {d : Nat} {ty : TypeId} {pos : String} {af : Array Edge}
theorem WOG.nil (h : K l m n) : WOG E R loose fl lim ops [] l m n K := ⟨fun _ ht => OpsG.nil ⟨l, ht, h⟩⟩
theorem WOG.pre (hc : (o1.all fun o => cls o.op != 3) = true) (h : WO E loose fl lim ops o1 l m n fun l' m' n' => WOG E R loose fl lim ops o2 l' m' n' K) : WOG E R loose fl lim ops (o1 ++ o2) l m n K := by
  constructor
  intro t ht
  refine OpsG.pre hc ?_
  obtain ⟨k, s', h1, l', h2, h3⟩ := h.ok t ht
  exact ⟨k, s', h1, h3.ok _ h2⟩
theorem WOG.call {f : Operand} {xs : Array Operand} {ats : Array TypeId} {g : Nat} {caps : List (Nat × Nat)} {args : List AV} (hf : evK l f = some (.sc (.fn g caps))) (ha : xs.toList.mapM (evK l) = some args)
    (h : Ret E (if loose g then max fl n else fl) g (args ++ caps.map fun p => .sc (.ptr p.1 p.2)) m n (fun v m' n' => (∀ q ∈ R, m'.get q = m.get q) ∧ WOG E R loose fl lim ops os ((d, v) :: l) m' n' K)) :
    WOG E R loose fl lim ops (⟨some d, .call ⟨.value f, xs, ats⟩, ty, pos, af, none⟩ :: os) l m n K := by
  constructor
  intro t ht
  have hm : ∀ (ys : List Operand) (args : List AV), ys.mapM (evK l) = some args → ys.map (St.ev ⟨t, m, n⟩) = args := by
    intro ys
    induction ys with
    | nil => intro args h; cases h; rfl
    | cons y ys ih =>
      intro args h
      rw [List.mapM_cons] at h
      obtain ⟨v, h1, h2⟩ := Option.bind_eq_some_iff.1 h
      obtain ⟨vs, h3, h4⟩ := Option.bind_eq_some_iff.1 h2
      cases h4
      rw [List.map_cons, ih vs h3, evK_ev ht h1]
  refine OpsG.call rfl rfl (evK_ev ht hf) ?_
  rw [hm _ _ ha]
  exact h.mono fun v m' n' h' => ⟨h'.1, h'.2.ok _ (ht.set d v)⟩
theorem WOG.split (k : Nat) (hc : ((os.take k).all fun o => cls o.op != 3) = true) (h : WO E loose fl lim ops (os.take k) l m n fun l' m' n' => WOG E R loose fl lim ops (os.drop k) l' m' n' K) : WOG E R loose fl lim ops os l m n K := by
  rw [← List.take_append_drop k os]
  exact WOG.pre hc h
theorem WC.drawG {id : Nat} (R : List Nat) (hg : gId lo id = true) (hd : dynId lo id = false) (hp : plainOps ops = false) (hR : ∀ t, Sees t l → ∀ q ∈ rdB t ops, q ∈ R) (h : WOG E R (tgt lo id) fl (some n) ops ops.toList l m n (Q .normal)) : WC E lo fl (.region id ops true) l m n Q :=
  ⟨fun t ht => Runs.drawG (R := R) hg hd (hR t ht) (h.ok t ht)⟩
end g

/-! ### Arrays of many cells as values -/
section vec
variable {E : Env} {lo : List Nat} {fl : Nat} {loose : Nat → Bool} {lim : Option Nat} {ops : Array Oper} {os : List Oper} {l : LE} {m : Mem} {n id : Nat} {K : LE → Mem → Nat → Prop} {d : Nat} {ty t : TypeId} {pos : String} {af : Array Edge} {x i : Operand} {v : SV} {S : Cx fl} {k : IntKind} {a : Int}
def arT1 (E : Env) (t N : Nat) : Bool := match E.ty t with
  | some y => y.kind == 5 && y.len == N && (match E.ty y.elem with
    | some e => e.size == 1 && e.kind != 5 && e.kind != 6
    | none => false)
  | none => false
theorem arT1_ok {t N : Nat} (h : arT1 E t N = true) : ∃ y e, E.ty t = some y ∧ y.kind = 5 ∧ y.len = N ∧ E.ty y.elem = some e ∧ e.size = 1 ∧ e.kind ≠ 5 ∧ e.kind ≠ 6 := by
  unfold arT1 at h
  split at h
  · rename_i y hy
    simp only [Bool.and_eq_true, beq_iff_eq] at h
    obtain ⟨h1, h2⟩ := h
    split at h2
    · rename_i e he
      simp only [Bool.and_eq_true, beq_iff_eq, bne_iff_ne] at h2
      exact ⟨y, e, hy, h1.1, h1.2, he, h2.1.1, h2.1.2, h2.2⟩
    · cases h2
  · cases h
/-- A whole array, read. -/
theorem WO.ldV {α : Type} {N j : Nat} {g : α → SV} {L : List α} {p : SV} (hx : evK l x = some (.sc p)) (hp : p = ptrAt v j 0) (hs : Bk (Lay.arr N g) S id v L) (hT : aggT E t N = true) (hl : limLe lim S.n = true)
    (h : L.length = N → WO E loose fl lim ops os ((d, .agg (L.map g)) :: l) S.m S.n K) : WO E loose fl lim ops (⟨some d, .load t x, ty, pos, af, none⟩ :: os) l S.m S.n K := ⟨fun tt ht => by
  subst hp
  obtain ⟨y, h1, h2, h3, _⟩ := aggT_ok hT
  obtain ⟨b, cs, rfl, _, h4, _, h5, h6, rfl⟩ := hs
  refine W_op2 ?_ ((h h6).put ht)
  simp only [opA, evK_ev ht hx, ptrAt, loadA, limOk_of hl h4, if_true, h5, part, h1, h2, h3, Nat.zero_add, List.length_map, h6, Nat.le_refl, List.drop_zero, Option.map_some]
  rw [List.take_of_length_le (by rw [List.length_map]; omega)]⟩
/-- An element of it. -/
theorem WO.ixV {α : Type} {N : Nat} {g : α → SV} {L : List α} {u : α} (hx : evK l x = some (.agg (L.map g))) (hn : L.length = N) (hi : evK l i = some (.sc (.int k a))) (ha : at? L a = some u) (hT : arT1 E t N = true)
    (h : WO E loose fl lim ops os ((d, .sc (g u)) :: l) m n K) : WO E loose fl lim ops (⟨some d, .index t x i, ty, pos, af, none⟩ :: os) l m n K := ⟨fun tt ht => by
  obtain ⟨y, e, h1, h2, h3, h4, h5, h6, h7⟩ := arT1_ok hT
  obtain ⟨a1, a2, a3⟩ := at?_some ha
  refine W_op2 ?_ (h.put ht)
  have hc : (L.map g)[a.toNat * 1]? = some (g u) := by rw [Nat.mul_one, List.getElem?_map, a3]; rfl
  simp only [opA, evK_ev ht hx, evK_ev ht hi, indexA, h1, h2, h4, h5, part, h6, h7, or_self, if_false, ne_eq, not_true_eq_false]
  rw [if_pos ⟨a1, by omega⟩, hc]; rfl⟩
end vec

/-! ### Maps, by their entries -/
theorem lookR_flat {y : Mt} {ents : List Ent} {kc : List SV} (h : ∀ e ∈ ents, e.1.length = y.ks) (ok : Bool) :
    (∃ e ∈ ents, e.1 = kc ∧ lookR y ok kc (flatE ents) = if ok then .tup [.sc e.2, .sc (.bool true)] else .sc e.2) ∨
    ((∀ e ∈ ents, e.1 ≠ kc) ∧ lookR y ok kc (flatE ents) = if ok then .tup [.sc y.zero, .sc (.bool false)] else .sc y.zero) := by
  rcases findE_flat (ents := ents) (ks := y.ks) (kc := kc) (flatE ents).length h (by rw [flatE_len h]; exact Nat.le_mul_of_pos_right _ (by omega)) with ⟨f1, f2⟩ | ⟨j, e, f1, f2, f3⟩
  · right
    exact ⟨f2, by unfold lookR; rw [f1]⟩
  · left
    refine ⟨e, List.mem_of_getElem? f2, f3, ?_⟩
    unfold lookR
    rw [f1]
    simp only
    rw [flatE_get j h f2, Option.getD_some]
theorem putR_flat {y : Mt} {ents : List Ent} {kc : List SV} (h : ∀ e ∈ ents, e.1.length = y.ks) (s : SV) : ∃ ents', putR y kc (flatE ents) s = flatE ents' ∧ ∀ e ∈ ents', e ∈ ents ∨ e = (kc, s) := by
  rcases findE_flat (ents := ents) (ks := y.ks) (kc := kc) (flatE ents).length h (by rw [flatE_len h]; exact Nat.le_mul_of_pos_right _ (by omega)) with ⟨f1, f2⟩ | ⟨j, e, f1, f2, f3⟩
  · refine ⟨ents ++ [(kc, s)], by unfold putR; rw [f1, flatE_app], fun e he => ?_⟩
    rcases List.mem_append.1 he with q | q
    · exact .inl q
    · exact .inr (List.mem_singleton.1 q)
  · refine ⟨ents.set j (e.1, s), by unfold putR; rw [f1]; exact flatE_set j s h f2, fun e' he => ?_⟩
    rcases List.mem_or_eq_of_mem_set he with q | q
    · exact .inl q
    · exact .inr (by rw [q, f3])
section mp
variable {E : Env} {fl : Nat} {loose : Nat → Bool} {lim : Option Nat} {ops : Array Oper} {os : List Oper} {l : LE} {m : Mem} {n : Nat} {K : LE → Mem → Nat → Prop} {d : Nat} {ty t : TypeId} {pos : String} {af : Array Edge} {x i z : Operand} {y : Mt} {b : Nat}
theorem WO.lkM {ok : Bool} {kv : AV} {kc r : List SV} {v : AV} (hx : evK l x = some (.sc (.mp b))) (hi : evK l i = some kv) (hT : E.mp t = some y) (hk : keyA y kv = some kc) (hb : m.get b = some (mhd y :: r)) (hv : lookR y ok kc r = v)
    (h : WO E loose fl lim ops os ((d, v) :: l) m n K) : WO E loose fl lim ops (⟨some d, .lookup t x i ok, ty, pos, af, none⟩ :: os) l m n K := ⟨fun tt ht => by
  refine W_op2 ?_ (h.put ht)
  simp only [opA, evK_ev ht hx, evK_ev ht hi, lookupA, hT, hk, hb, if_true, hv, Option.map_some]⟩
theorem WO.upM {kv : AV} {kc r : List SV} {s : SV} (hx : evK l x = some (.sc (.mp b))) (hi : evK l i = some kv) (hz : evK l z = some (.sc s)) (hT : E.mp t = some y) (hk : keyA y kv = some kc) (hb : m.get b = some (mhd y :: r)) (hfl : fl ≤ b)
    (h : WO E loose fl lim ops os l (m.set b (mhd y :: putR y kc r s)) n K) : WO E loose fl lim ops (⟨none, .mapUpdate t x i z, ty, pos, af, none⟩ :: os) l m n K := ⟨fun tt ht => by
  refine W_op2 (v := .tup []) (n' := n) ?_ (h.ok tt ht)
  simp only [opA, evK_ev ht hx, evK_ev ht hi, evK_ev ht hz, updateA, hT, hk, hb, hfl, true_and, if_true, Option.map_some]⟩
theorem WO.inM {kv : AV} {kc r : List SV} {s : SV} (hx : evK l x = some (.sc (.mp b))) (hi : evK l i = some kv) (hz : evK l z = some (.sc s)) (hT : E.mp t = some y) (hk : keyA y kv = some kc) (hb : m.get b = some (mhd y :: r)) (hfl : fl ≤ b)
    (h : WO E loose fl lim ops os l (m.set b (mhd y :: putR y kc r s)) n K) : WO E loose fl lim ops (⟨none, .insert t x i z, ty, pos, af, none⟩ :: os) l m n K := ⟨fun tt ht => by
  refine W_op2 (v := .tup []) (n' := n) ?_ (h.ok tt ht)
  simp only [opA, evK_ev ht hx, evK_ev ht hi, evK_ev ht hz, updateA, hT, hk, hb, hfl, true_and, if_true, Option.map_some]⟩
theorem WO.mkM (hT : E.mp t = some y) (h : WO E loose fl lim ops os ((d, .sc (.mp n)) :: l) (m.set n [mhd y]) (n + 1) K) : WO E loose fl lim ops (⟨some d, .makeMap t none, ty, pos, af, none⟩ :: os) l m n K := ⟨fun tt ht => by
  refine W_op2 ?_ (h.put ht)
  simp only [opA, makeMapA, hT, Option.map_none]⟩
/-- A load of a one-cell block, by the memory alone. -/
theorem WO.ldc {c : Nat} {s : SV} {yt : Ty} (hx : evK l x = some (.sc (.ptr c 0))) (hT : E.ty t = some yt) (hk : yt.kind ≠ 5 ∧ yt.kind ≠ 6) (hb : m.get c = some [s]) (hl : limOk lim c = true)
    (h : WO E loose fl lim ops os ((d, .sc s) :: l) m n K) : WO E loose fl lim ops (⟨some d, .load t x, ty, pos, af, none⟩ :: os) l m n K := ⟨fun tt ht => by
  refine W_op2 ?_ (h.put ht)
  simp only [opA, evK_ev ht hx, loadA, hl, if_true, hb, part, hT, hk.1, hk.2, or_self, if_false]
  rfl⟩
theorem WO.stc {c : Nat} {s s0 : SV} {yt : Ty} (hx : evK l x = some (.sc (.ptr c 0))) (hz : evK l z = some (.sc s)) (hT : E.ty t = some yt) (hk : yt.size = 1) (hb : m.get c = some [s0]) (hfl : fl ≤ c)
    (h : WO E loose fl lim ops os l (m.set c [s]) n K) : WO E loose fl lim ops (⟨none, .store t x z, ty, pos, af, none⟩ :: os) l m n K := ⟨fun tt ht => by
  refine W_op2 (v := .tup []) (n' := n) ?_ (h.ok tt ht)
  simp only [opA, evK_ev ht hx, evK_ev ht hz, storeA, AV.cells?, hT, hfl, hk, List.length_cons, List.length_nil, hb, splice, true_and, if_true, Nat.zero_add, Nat.le_refl, List.take_zero, List.nil_append, List.drop_one, List.tail_cons, List.append_nil, Option.map_some]⟩
end mp
/-! ### A count of sums, as castref.SumsOf makes it -/
def cntW : Nat → Nat → Nat → Int
  | 0, _, _ => 0
  | f + 1, n, k => if n = 0 then 1 else if k = 0 then 0 else wrapA .i64 ((if n < k then 0 else cntW f (n - k) k) + cntW f n (k - 1))
theorem cntW_more : ∀ (f g n k : Nat), n + k < f → n + k < g → cntW f n k = cntW g n k
  | 0, _, _, _, h, _ => by omega
  | _ + 1, 0, _, _, _, h => by omega
  | f + 1, g + 1, n, k, h1, h2 => by
    unfold cntW
    by_cases h3 : n = 0
    · rw [if_pos h3, if_pos h3]
    · rw [if_neg h3, if_neg h3]
      by_cases h4 : k = 0
      · rw [if_pos h4, if_pos h4]
      · rw [if_neg h4, if_neg h4, cntW_more f g n (k - 1) (by omega) (by omega)]
        by_cases h5 : n < k
        · rw [if_pos h5, if_pos h5]
        · rw [if_neg h5, if_neg h5, cntW_more f g (n - k) k (by omega) (by omega)]
def cntI (a : Int) (k : Nat) : Int := if a < 0 then 0 else cntW (a.toNat + k + 1) a.toNat k
theorem cntI_zero (k : Nat) : cntI 0 k = 1 := by simp [cntI, cntW]
theorem cntI_none {a : Int} {k : Nat} (h : a ≠ 0) (h2 : a < 0 ∨ k = 0) : cntI a k = 0 := by
  unfold cntI
  split
  · rfl
  · unfold cntW
    rw [if_neg (by omega), if_pos (by omega)]
theorem cntI_pos {a : Int} {k : Nat} (h : 0 ≤ a) : cntI a k = cntW (a.toNat + k + 1) a.toNat k := if_neg (by omega)
theorem cntI_step {a : Int} {k : Nat} (h : 0 < a) (hk : 0 < k) : cntI a k = wrapA .i64 (cntI (a - k) k + cntI a (k - 1)) := by
  have e1 : cntI a (k - 1) = cntW (a.toNat + k) a.toNat (k - 1) := by
    rw [cntI_pos (by omega)]; exact cntW_more _ _ _ _ (by omega) (by omega)
  have e2 : cntI (a - k) k = if a.toNat < k then 0 else cntW (a.toNat + k) (a.toNat - k) k := by
    by_cases h5 : a.toNat < k
    · rw [if_pos h5]; exact if_pos (by omega)
    · rw [if_neg h5, cntI_pos (by omega), show (a - k).toNat = a.toNat - k from by omega]
      exact cntW_more _ _ _ _ (by omega) (by omega)
  rw [e1, e2, cntI_pos (by omega), cntW, if_neg (by omega), if_neg (by omega)]

end Go.Am

set_option linter.unusedSectionVars false
namespace Go.Am

/-- How a map's keys and values lie in cells. -/
structure ML (κ ν : Type) where
  y : Mt
  ek : κ → List SV
  ev : ν → SV
  dz : ν
  hz : y.zero = ev dz
  inj : ∀ a b, ek a = ek b → a = b
def ML.enc {κ ν : Type} (A : ML κ ν) (e : κ × ν) : Ent := (A.ek e.1, A.ev e.2)
def mget {κ ν : Type} [DecidableEq κ] : List (κ × ν) → κ → Option ν
  | [], _ => none
  | e :: r, k => if e.1 = k then some e.2 else mget r k
def mput {κ ν : Type} [DecidableEq κ] : List (κ × ν) → κ → ν → List (κ × ν)
  | [], k, v => [(k, v)]
  | e :: r, k, v => if e.1 = k then (e.1, v) :: r else e :: mput r k v
def keyI? (N : Nat) (L : List Int) : Option Unit := if (L.length == N && L.all fun a => decide (-9223372036854775808 ≤ a) && decide (a ≤ 9223372036854775807)) then some () else none
def keyS? (s : List UInt8) : Option Unit := if s.length ≤ 9223372036854775807 then some () else none
theorem keyI?_ok {N : Nat} {L : List Int} {u : Unit} {z : SV} (h : keyI? N L = some u) : keyA ⟨5, .i64, N, z⟩ (.agg (L.map (SV.int .i64))) = some (L.map (SV.int .i64)) := by
  unfold keyI? at h
  split at h
  · rename_i hq
    simp only [Bool.and_eq_true, beq_iff_eq, List.all_eq_true, decide_eq_true_eq] at hq
    have h2 : (L.map (SV.int .i64)).all (keyCellOk ⟨5, .i64, N, z⟩) = true := by
      rw [List.all_eq_true]
      intro c hc
      obtain ⟨a, ha, rfl⟩ := List.mem_map.1 hc
      have := hq.2 a ha
      show ((5 == 1 || 5 == 5) && IntKind.i64 == IntKind.i64 && decide (IntKind.min .i64 ≤ a ∧ a ≤ IntKind.max .i64)) = true
      have e : IntKind.min .i64 ≤ a ∧ a ≤ IntKind.max .i64 := by
        rw [show IntKind.min .i64 = -9223372036854775808 from rfl, show IntKind.max .i64 = 9223372036854775807 from rfl]; exact this
      rw [decide_eq_true e]; rfl
    simp only [keyA, List.length_map, hq.1, h2, beq_self_eq_true, Bool.and_self, if_true]
  · cases h
theorem keyS?_ok {s : List UInt8} {u : Unit} {z : SV} (h : keyS? s = some u) : keyA ⟨3, .i64, 1, z⟩ (.sc (.str s)) = some [.str s] := by
  unfold keyS? at h
  split at h
  · rename_i hq
    have h2 : keyCellOk ⟨3, .i64, 1, z⟩ (.str s) = true := by
      show (3 == 3 && decide (s.length ≤ 9223372036854775807)) = true
      rw [decide_eq_true hq]; rfl
    simp only [keyA, h2]; rfl
  · cases h
theorem intKey_inj (a b : List Int) (h : a.map (SV.int .i64) = b.map (SV.int .i64)) : a = b := by
  induction a generalizing b with
  | nil => cases b with
    | nil => rfl
    | cons => cases h
  | cons x r ih => cases b with
    | nil => cases h
    | cons y s =>
      rw [List.map_cons, List.map_cons] at h
      injection h with h1 h2
      injection h1 with h3 h4
      rw [h4, ih _ h2]
theorem strKey_inj (a b : List UInt8) (h : [SV.str a] = [SV.str b]) : a = b := by injection h with h _; injection h
/-- Numbers by arrays of numbers; numbers by strings. -/
def mlI (N : Nat) : ML (List Int) Int := ⟨⟨5, .i64, N, .int .i64 0⟩, List.map (SV.int .i64), SV.int .i64, 0, rfl, intKey_inj⟩
def mlS : ML (List UInt8) Int := ⟨⟨3, .i64, 1, .int .i64 0⟩, fun s => [.str s], SV.int .i64, 0, rfl, strKey_inj⟩

section find
variable {κ ν : Type} [DecidableEq κ] {A : ML κ ν}
theorem lookM : ∀ {L : List (κ × ν)} {k : κ} (f : Nat), (∀ e ∈ L, (A.ek e.1).length = A.y.ks) → L.length ≤ f →
    (findE A.y.ks (A.ek k) f (flatE (L.map A.enc)) = none ∧ mget L k = none ∧ ∀ v, mput L k v = L ++ [(k, v)]) ∨
    ∃ (j : Nat) (e : κ × ν), findE A.y.ks (A.ek k) f (flatE (L.map A.enc)) = some j ∧ L[j]? = some e ∧ mget L k = some e.2 ∧ ∀ v, mput L k v = L.set j (e.1, v)
  | [], k, f, _, _ => by
    left
    refine ⟨?_, rfl, fun _ => rfl⟩
    cases f <;> simp [findE, flatE]
  | e :: r, k, f, h, hf => by
    obtain ⟨f, rfl⟩ : ∃ q, f = q + 1 := ⟨f - 1, by simp at hf; omega⟩
    have he : (A.enc e).1.length = A.y.ks := h e (by simp)
    have hl : ¬ (flatE ((A.enc e) :: r.map A.enc)).length < A.y.ks + 1 := by
      rw [flatE_cons, List.length_append, List.length_cons, he]; omega
    simp only [findE, List.map_cons]
    rw [if_neg hl, flatE_take he, flatE_drop he]
    by_cases q : e.1 = k
    · right
      refine ⟨0, e, by rw [if_pos (show (A.enc e).1 = A.ek k from by rw [← q]; rfl)], rfl, by simp [mget, q], fun v => by simp [mput, q]⟩
    · rw [if_neg (show ¬ (A.enc e).1 = A.ek k from fun e2 => q (A.inj _ _ e2))]
      rcases lookM (L := r) (k := k) f (fun x hx => h x (by simp [hx])) (by simpa using hf) with ⟨h1, h2, h3⟩ | ⟨j, x, h1, h2, h3, h4⟩
      · left
        exact ⟨by rw [h1]; rfl, by simp [mget, q, h2], fun v => by simp [mput, q, h3]⟩
      · right
        exact ⟨j + 1, x, by rw [h1]; rfl, by simpa using h2, by simp [mget, q, h3], fun v => by simp [mput, q, h4]⟩
theorem entsLen {L : List (κ × ν)} (h : ∀ e ∈ L, (A.ek e.1).length = A.y.ks) : ∀ e ∈ L.map A.enc, e.1.length = A.y.ks := by
  intro e he
  obtain ⟨x, hx, rfl⟩ := List.mem_map.1 he
  exact h x hx
theorem lookR_m {L : List (κ × ν)} {k : κ} (h : ∀ e ∈ L, (A.ek e.1).length = A.y.ks) (ok : Bool) :
    lookR A.y ok (A.ek k) (flatE (L.map A.enc)) = if ok then .tup [.sc (A.ev ((mget L k).getD A.dz)), .sc (.bool (mget L k).isSome)] else .sc (A.ev ((mget L k).getD A.dz)) := by
  have hen := entsLen h
  rcases lookM (k := k) (flatE (L.map A.enc)).length h (by rw [flatE_len hen, List.length_map]; exact Nat.le_mul_of_pos_right _ (by omega)) with ⟨h1, h2, _⟩ | ⟨j, e, h1, h2, h3, _⟩
  · unfold lookR; rw [h1, h2]; simp only [A.hz, Option.getD_none, Option.isSome_none]
  · unfold lookR
    rw [h1, h3]
    simp only
    rw [flatE_get j (e := A.enc e) hen (by rw [List.getElem?_map, h2]; rfl)]
    rfl
theorem putR_m {L : List (κ × ν)} {k : κ} {v : ν} (h : ∀ e ∈ L, (A.ek e.1).length = A.y.ks) : putR A.y (A.ek k) (flatE (L.map A.enc)) (A.ev v) = flatE ((mput L k v).map A.enc) := by
  have hen := entsLen h
  rcases lookM (k := k) (flatE (L.map A.enc)).length h (by rw [flatE_len hen, List.length_map]; exact Nat.le_mul_of_pos_right _ (by omega)) with ⟨h1, _, h2⟩ | ⟨j, e, h1, h2, _, h3⟩
  · unfold putR; rw [h1, h2]; simp only [List.map_append, List.map_cons, List.map_nil]; rw [flatE_app]; rfl
  · unfold putR
    rw [h1, h3]
    simp only
    rw [flatE_set j (e := A.enc e) (A.ev v) hen (by rw [List.getElem?_map, h2]; rfl), List.map_set]; rfl
theorem mput_mem {L : List (κ × ν)} {k : κ} {v : ν} : ∀ e ∈ mput L k v, e.1 = k ∨ ∃ x ∈ L, x.1 = e.1 := by
  induction L with
  | nil => intro e he; simp [mput] at he; exact .inl (by rw [he])
  | cons x r ih =>
    intro e he
    unfold mput at he
    split at he
    · rcases List.mem_cons.1 he with rfl | h
      · exact .inr ⟨x, by simp, rfl⟩
      · exact .inr ⟨e, by simp [h], rfl⟩
    · rcases List.mem_cons.1 he with rfl | h
      · exact .inr ⟨e, by simp, rfl⟩
      · rcases ih e h with h | ⟨y, h1, h2⟩
        · exact .inl h
        · exact .inr ⟨y, by simp [h1], h2⟩
theorem mget_mput {L : List (κ × ν)} {k k' : κ} {v : ν} : mget (mput L k v) k' = if k = k' then some v else mget L k' := by
  induction L with
  | nil => simp [mput, mget]
  | cons x r ih =>
    unfold mput
    by_cases h : x.1 = k
    · rw [if_pos h]; subst h
      simp only [mget]
      by_cases h2 : x.1 = k' <;> simp [h2]
    · rw [if_neg h]
      simp only [mget, ih]
      by_cases h2 : x.1 = k'
      · subst h2; rw [if_pos rfl, if_pos rfl, if_neg (fun e => h e.symm)]
      · rw [if_neg h2, if_neg h2]
end find

/-- A map that is object k's. -/
def Mp {κ ν : Type} {fl : Nat} (A : ML κ ν) (S : Cx fl) (k : Nat) (v : SV) (L : List (κ × ν)) : Prop :=
  ∃ b, v = .mp b ∧ Bw S k (.ptr b 0) (mhd A.y :: flatE (L.map A.enc)) ∧ ∀ e ∈ L, (A.ek e.1).length = A.y.ks
section mp
variable {κ ν : Type} {A : ML κ ν} {fl k j : Nat} {S S' : Cx fl} {v : SV} {L : List (κ × ν)}
theorem Mp.to (h : Mp A S j v L) (c : Ch k S S') (hk : Nat.beq k 0 = false := by rfl) (hj : Nat.beq j k = false := by rfl) : Mp A S' j v L := by
  obtain ⟨b, h1, h2, h3⟩ := h; exact ⟨b, h1, h2.to c hk hj, h3⟩
theorem Mp.drop (h : Mp A S j v L) (k : Nat) (hj : Nat.beq j k = false := by rfl) : Mp A (S.drop k) j v L := by
  obtain ⟨b, h1, h2, h3⟩ := h; exact ⟨b, h1, h2.drop k hj, h3⟩
theorem Mp.renO {i : Nat} (h : Mp A S i v L) (k j : Nat) (hk : Nat.beq k 0 = false := by rfl) (hj : Nat.beq j 0 = false := by rfl) (hik : Nat.beq i k = false := by rfl) (hij : Nat.beq i j = false := by rfl) : Mp A (S.ren k j) i v L := by
  obtain ⟨b, h1, h2, h3⟩ := h; exact ⟨b, h1, h2.renO k j hk hj hik hij, h3⟩
theorem Mp.ren (h : Mp A S k v L) (j : Nat) (hk : Nat.beq k 0 = false := by rfl) (hj : Nat.beq j 0 = false := by rfl) : Mp A (S.ren k j) j v L := by
  obtain ⟨b, h1, h2, h3⟩ := h; exact ⟨b, h1, h2.ren j hk hj, h3⟩
theorem Mp.lt (h : Mp A S k v L) : Lt v S.n := by
  obtain ⟨b, rfl, h2, _⟩ := h
  obtain ⟨b', e, _, h3, _⟩ := h2
  cases e; intro c hc; cases hc <;> exact h3
variable {E : Env} {loose : Nat → Bool} {lim : Option Nat} {ops : Array Oper} {os : List Oper} {l : LE} {id : Nat} {K : LE → Mem → Nat → Prop} {d : Nat} {ty t : TypeId} {pos : String} {af : Array Edge} {x i z : Operand} [DecidableEq κ]
theorem WO.mkMp (A : ML κ ν) (id : Nat) (hT : E.mp t = some A.y) (hid : Nat.beq id 0 = false)
    (h : ∀ v' S', Ch id S S' → Mp A S' id v' [] → WO E loose fl lim ops os ((d, .sc v') :: l) S'.m S'.n K) : WO E loose fl lim ops (⟨some d, .makeMap t none, ty, pos, af, none⟩ :: os) l S.m S.n K := ⟨fun tt ht => by
  have hid : id ≠ 0 := fun e => by subst e; cases hid
  obtain ⟨S', e1, e2, h7, h8⟩ := Bw.fresh (S := S) (cs := [mhd A.y]) hid
  exact W_op2 (m' := S'.m) (n' := S'.n) (by simp only [opA, makeMapA, hT, Option.map_none, e1, e2]) ((h _ S' h7 ⟨_, rfl, h8, fun e he => by cases he⟩).put ht)⟩
theorem WO.mkMpN (A : ML κ ν) (id : Nat) {r : Operand} {k : IntKind} {a : Int} (hT : E.mp t = some A.y) (hr : evK l r = some (.sc (.int k a))) (hid : Nat.beq id 0 = false)
    (h : ∀ v' S', Ch id S S' → Mp A S' id v' [] → WO E loose fl lim ops os ((d, .sc v') :: l) S'.m S'.n K) : WO E loose fl lim ops (⟨some d, .makeMap t (some r), ty, pos, af, none⟩ :: os) l S.m S.n K := ⟨fun tt ht => by
  have hid : id ≠ 0 := fun e => by subst e; cases hid
  obtain ⟨S', e1, e2, h7, h8⟩ := Bw.fresh (S := S) (cs := [mhd A.y]) hid
  exact W_op2 (m' := S'.m) (n' := S'.n) (by simp only [opA, makeMapA, hT, Option.map_some, evK_ev ht hr, e1, e2]) ((h _ S' h7 ⟨_, rfl, h8, fun e he => by cases he⟩).put ht)⟩
theorem WO.lkMp {q : κ} {kv : AV} (hx : evK l x = some (.sc v)) (hs : Mp A S id v L) (hi : evK l i = some kv) (hT : E.mp t = some A.y) (hk : keyA A.y kv = some (A.ek q))
    (h : WO E loose fl lim ops os ((d, .sc (A.ev ((mget L q).getD A.dz))) :: l) S.m S.n K) : WO E loose fl lim ops (⟨some d, .lookup t x i false, ty, pos, af, none⟩ :: os) l S.m S.n K := by
  obtain ⟨b, rfl, ⟨b', e, _, _, _, hm⟩, h2⟩ := hs
  cases e
  exact WO.lkM hx hi hT hk hm ((lookR_m h2 false).trans (if_neg (by decide))) h
theorem WO.lkMq {q : κ} {kv : AV} (hx : evK l x = some (.sc v)) (hs : Mp A S id v L) (hi : evK l i = some kv) (hT : E.mp t = some A.y) (hk : keyA A.y kv = some (A.ek q))
    (h : WO E loose fl lim ops os ((d, .tup [.sc (A.ev ((mget L q).getD A.dz)), .sc (.bool (mget L q).isSome)]) :: l) S.m S.n K) : WO E loose fl lim ops (⟨some d, .lookup t x i true, ty, pos, af, none⟩ :: os) l S.m S.n K := by
  obtain ⟨b, rfl, ⟨b', e, _, _, _, hm⟩, h2⟩ := hs
  cases e
  exact WO.lkM hx hi hT hk hm ((lookR_m h2 true).trans (if_pos rfl)) h
theorem Mp.put {q : κ} {u : ν} (hs : Mp A S id v L) (hid : id ≠ 0) (hk : (A.ek q).length = A.y.ks) :
    ∃ b, v = .mp b ∧ fl ≤ b ∧ S.m.get b = some (mhd A.y :: flatE (L.map A.enc)) ∧ ∃ S' : Cx fl, S'.m = S.m.set b (mhd A.y :: putR A.y (A.ek q) (flatE (L.map A.enc)) (A.ev u)) ∧ S'.n = S.n ∧ Ch id S S' ∧ Mp A S' id v (mput L q u) := by
  obtain ⟨b, rfl, ⟨b', e, h1, h3, h4, hm⟩, h2⟩ := hs
  cases e
  have hch : Ch id S (⟨S.m.set b (mhd A.y :: putR A.y (A.ek q) (flatE (L.map A.enc)) (A.ev u)), S.n, S.ow, S.le⟩ : Cx fl) := ⟨Nat.le_refl _, fun i hi hk => ⟨rfl, Tr.get_set_ne _ _ (fun e => hk (by rw [e]; exact h4))⟩⟩
  refine ⟨b, rfl, h1, hm, ⟨S.m.set b (mhd A.y :: putR A.y (A.ek q) (flatE (L.map A.enc)) (A.ev u)), S.n, S.ow, S.le⟩, rfl, rfl, hch, b, rfl, ⟨b, rfl, h1, h3, h4, ?_⟩, fun e he => ?_⟩
  · rw [← putR_m h2]; exact Tr.get_set_same _ _ _
  · rcases mput_mem e he with h | ⟨x, hx, h⟩
    · rw [h]; exact hk
    · rw [← h]; exact h2 x hx
theorem keyA_len {y : Mt} {kv : AV} {kc : List SV} (h : keyA y kv = some kc) : kc.length = y.ks := by
  unfold keyA at h
  split at h
  · split at h
    · rename_i hq
      cases h
      simp only [Bool.and_eq_true, beq_iff_eq] at hq
      exact hq.1.2.symm
    · cases h
  · split at h
    · rename_i hq
      cases h
      simp only [Bool.and_eq_true, beq_iff_eq] at hq
      exact hq.1.2
    · cases h
  · cases h
theorem WO.upMp {q : κ} {u : ν} {kv : AV} (hx : evK l x = some (.sc v)) (hs : Mp A S id v L) (hi : evK l i = some kv) (hz : evK l z = some (.sc (A.ev u))) (hT : E.mp t = some A.y) (hk : keyA A.y kv = some (A.ek q)) (hid : Nat.beq id 0 = false)
    (h : ∀ S', Ch id S S' → Mp A S' id v (mput L q u) → WO E loose fl lim ops os l S'.m S'.n K) : WO E loose fl lim ops (⟨none, .mapUpdate t x i z, ty, pos, af, none⟩ :: os) l S.m S.n K := by
  obtain ⟨b, rfl, h1, hm, S', e1, e2, hch, h3⟩ := hs.put (q := q) (u := u) (nb hid) (keyA_len hk)
  have := h S' hch h3
  rw [e1, e2] at this
  exact WO.upM hx hi hz hT hk hm h1 this
theorem WO.inMp {q : κ} {u : ν} {kv : AV} (hx : evK l x = some (.sc v)) (hs : Mp A S id v L) (hi : evK l i = some kv) (hz : evK l z = some (.sc (A.ev u))) (hT : E.mp t = some A.y) (hk : keyA A.y kv = some (A.ek q)) (hid : Nat.beq id 0 = false)
    (h : ∀ S', Ch id S S' → Mp A S' id v (mput L q u) → WO E loose fl lim ops os l S'.m S'.n K) : WO E loose fl lim ops (⟨none, .insert t x i z, ty, pos, af, none⟩ :: os) l S.m S.n K := by
  obtain ⟨b, rfl, h1, hm, S', e1, e2, hch, h3⟩ := hs.put (q := q) (u := u) (nb hid) (keyA_len hk)
  have := h S' hch h3
  rw [e1, e2] at this
  exact WO.inM hx hi hz hT hk hm h1 this
end mp

section mpn
variable {fl : Nat} {S S' : Cx fl} {v : SV} {E : Env} {loose : Nat → Bool} {lim : Option Nat} {ops : Array Oper} {os : List Oper} {l : LE} {id N : Nat} {K : LE → Mem → Nat → Prop} {d : Nat} {ty t : TypeId} {pos : String} {af : Array Edge} {x i z : Operand} {kv : AV} {u : Int}
theorem WO.lkI {L : List (List Int × Int)} {q : List Int} (hx : evK l x = some (.sc v)) (hs : Mp (mlI N) S id v L) (hi : evK l i = some kv) (hT : E.mp t = some (mlI N).y) (hk : keyA (mlI N).y kv = some ((mlI N).ek q))
    (h : WO E loose fl lim ops os ((d, .sc (.int .i64 ((mget L q).getD 0))) :: l) S.m S.n K) : WO E loose fl lim ops (⟨some d, .lookup t x i false, ty, pos, af, none⟩ :: os) l S.m S.n K := WO.lkMp hx hs hi hT hk h
theorem WO.lkIq {L : List (List Int × Int)} {q : List Int} (hx : evK l x = some (.sc v)) (hs : Mp (mlI N) S id v L) (hi : evK l i = some kv) (hT : E.mp t = some (mlI N).y) (hk : keyA (mlI N).y kv = some ((mlI N).ek q))
    (h : WO E loose fl lim ops os ((d, .tup [.sc (.int .i64 ((mget L q).getD 0)), .sc (.bool (mget L q).isSome)]) :: l) S.m S.n K) : WO E loose fl lim ops (⟨some d, .lookup t x i true, ty, pos, af, none⟩ :: os) l S.m S.n K := WO.lkMq hx hs hi hT hk h
theorem WO.upI {L : List (List Int × Int)} {q : List Int} (hx : evK l x = some (.sc v)) (hs : Mp (mlI N) S id v L) (hi : evK l i = some kv) (hz : evK l z = some (.sc (.int .i64 u))) (hT : E.mp t = some (mlI N).y) (hk : keyA (mlI N).y kv = some ((mlI N).ek q)) (hid : Nat.beq id 0 = false)
    (h : ∀ S', Ch id S S' → Mp (mlI N) S' id v (mput L q u) → WO E loose fl lim ops os l S'.m S'.n K) : WO E loose fl lim ops (⟨none, .mapUpdate t x i z, ty, pos, af, none⟩ :: os) l S.m S.n K := WO.upMp hx hs hi hz hT hk hid h
theorem WO.inI {L : List (List Int × Int)} {q : List Int} (hx : evK l x = some (.sc v)) (hs : Mp (mlI N) S id v L) (hi : evK l i = some kv) (hz : evK l z = some (.sc (.int .i64 u))) (hT : E.mp t = some (mlI N).y) (hk : keyA (mlI N).y kv = some ((mlI N).ek q)) (hid : Nat.beq id 0 = false)
    (h : ∀ S', Ch id S S' → Mp (mlI N) S' id v (mput L q u) → WO E loose fl lim ops os l S'.m S'.n K) : WO E loose fl lim ops (⟨none, .insert t x i z, ty, pos, af, none⟩ :: os) l S.m S.n K := WO.inMp hx hs hi hz hT hk hid h
theorem WO.lkS {L : List (List UInt8 × Int)} {q : List UInt8} (hx : evK l x = some (.sc v)) (hs : Mp (mlS) S id v L) (hi : evK l i = some kv) (hT : E.mp t = some (mlS).y) (hk : keyA (mlS).y kv = some ((mlS).ek q))
    (h : WO E loose fl lim ops os ((d, .sc (.int .i64 ((mget L q).getD 0))) :: l) S.m S.n K) : WO E loose fl lim ops (⟨some d, .lookup t x i false, ty, pos, af, none⟩ :: os) l S.m S.n K := WO.lkMp hx hs hi hT hk h
theorem WO.lkSq {L : List (List UInt8 × Int)} {q : List UInt8} (hx : evK l x = some (.sc v)) (hs : Mp (mlS) S id v L) (hi : evK l i = some kv) (hT : E.mp t = some (mlS).y) (hk : keyA (mlS).y kv = some ((mlS).ek q))
    (h : WO E loose fl lim ops os ((d, .tup [.sc (.int .i64 ((mget L q).getD 0)), .sc (.bool (mget L q).isSome)]) :: l) S.m S.n K) : WO E loose fl lim ops (⟨some d, .lookup t x i true, ty, pos, af, none⟩ :: os) l S.m S.n K := WO.lkMq hx hs hi hT hk h
theorem WO.upS {L : List (List UInt8 × Int)} {q : List UInt8} (hx : evK l x = some (.sc v)) (hs : Mp (mlS) S id v L) (hi : evK l i = some kv) (hz : evK l z = some (.sc (.int .i64 u))) (hT : E.mp t = some (mlS).y) (hk : keyA (mlS).y kv = some ((mlS).ek q)) (hid : Nat.beq id 0 = false)
    (h : ∀ S', Ch id S S' → Mp (mlS) S' id v (mput L q u) → WO E loose fl lim ops os l S'.m S'.n K) : WO E loose fl lim ops (⟨none, .mapUpdate t x i z, ty, pos, af, none⟩ :: os) l S.m S.n K := WO.upMp hx hs hi hz hT hk hid h
theorem WO.inS {L : List (List UInt8 × Int)} {q : List UInt8} (hx : evK l x = some (.sc v)) (hs : Mp (mlS) S id v L) (hi : evK l i = some kv) (hz : evK l z = some (.sc (.int .i64 u))) (hT : E.mp t = some (mlS).y) (hk : keyA (mlS).y kv = some ((mlS).ek q)) (hid : Nat.beq id 0 = false)
    (h : ∀ S', Ch id S S' → Mp (mlS) S' id v (mput L q u) → WO E loose fl lim ops os l S'.m S'.n K) : WO E loose fl lim ops (⟨none, .insert t x i z, ty, pos, af, none⟩ :: os) l S.m S.n K := WO.inMp hx hs hi hz hT hk hid h
end mpn

/-! ### Arrays: parts as slices, wholes written, results -/
section arr
variable {α : Type} {N : Nat} {g : α → SV} {L M : List α} {fl : Nat} {S S' : Cx fl} {v w : SV} {E : Env} {loose : Nat → Bool} {lim : Option Nat} {ops : Array Oper} {os : List Oper} {l l0 : LE} {id : Nat} {K : LE → Mem → Nat → Prop} {d : Nat} {ty t : TypeId} {pos : String} {af : Array Edge} {x y : Operand}
/-- All of an array, as a slice. -/
theorem WO.slA0 (hx : evK l x = some (.sc v)) (hs : Bk (Lay.arr N g) S id v L) (hT : arT1 E t N = true) (hN : Nat.ble N 4096 = true)
    (h : ∀ v', Ow (Lay.one g) S id v' L → (∀ (S' : Cx fl) (M : List α), Ow (Lay.one g) S' id v' M → Bk (Lay.arr N g) S' id v M) → WO E loose fl none ops os ((d, .sc v') :: l) S.m S.n K) :
    WO E loose fl none ops (⟨some d, .slice t x none none none, ty, pos, af, none⟩ :: os) l S.m S.n K := ⟨fun tt ht => by
  obtain ⟨y, e, h1, h2, h3, h4, h5, _⟩ := arT1_ok hT
  obtain ⟨b, cs, rfl, q1, q2, q3, q4, q5, rfl⟩ := hs
  have hN : N ≤ 4096 := Nat.le_of_ble_eq_true hN
  refine W_op2 (v := .sc (.sl b 0 N N 1)) (m' := S.m) (n' := S.n) ?_ ((h _ ?_ ?_).put ht)
  · simp only [opA, evK_ev ht hx, Option.map_none, sliceA, h1, slicePA, h4, q4, orA, boundA, h2, h3, h5, true_and, Nat.mul_one, Nat.zero_add, List.length_map, q5, hN, Nat.le_refl, if_true, Nat.sub_zero, or_true]
  · refine .inr ⟨b, N, L.map g, by rw [q5]; rfl, q1, q2, q3, Nat.le_of_eq q5, q4, by rw [List.length_map, q5]; exact (Nat.mul_one _).symm, ?_⟩
    rw [List.take_of_length_le (by rw [List.length_map]; exact Nat.le_of_eq (Nat.mul_one _).symm)]
    exact RL.ofMap _
  · intro S' M hM
    rcases hM with ⟨hv, _⟩ | ⟨b', c, cs, hv, p1, p2, p3, p4, p5, p6, p7⟩
    · cases hv
    · injection hv with e1 _ e2 e3 _
      subst e1 e3
      have p6 : cs.length = N * 1 := p6
      have p7 := p7.flat1
      refine ⟨b, cs, rfl, p1, p2, p3, p5, e2.symm, ?_⟩
      rw [← p7]
      exact (List.take_of_length_le (by rw [p6, ← e2]; exact Nat.le_refl _)).symm⟩
/-- A whole array, written. -/
theorem WO.stV {p : SV} (hx : evK l x = some (.sc p)) (hp : p = ptrAt v 0 0) (hy : evK l y = some (.agg (M.map g))) (hs : Bk (Lay.arr N g) S id v L) (hM : M.length = N) (hT : aggT E t N = true) (hid : Nat.beq id 0 = false)
    (h : ∀ S', Ch id S S' → Bk (Lay.arr N g) S' id v M → WO E loose fl lim ops os l S'.m S'.n K) : WO E loose fl lim ops (⟨none, .store t x y, ty, pos, af, none⟩ :: os) l S.m S.n K := ⟨fun tt ht => by
  have hid : id ≠ 0 := fun e => by subst e; cases hid
  subst hp
  obtain ⟨z, h1, h2, h3, h4⟩ := aggT_ok hT
  obtain ⟨b, cs, rfl, h5, h6, ⟨h7, rfl⟩, S', e1, e2, h8, h9⟩ := hs.put (u' := M) (c := M.map g) ⟨hM, rfl⟩ hid
  refine W_op2 (v := .tup []) (m' := S'.m) (n' := S'.n) ?_ ((h S' h8 h9).ok tt ht)
  simp only [opA, evK_ev ht hx, evK_ev ht hy, ptrAt, storeA, AV.cells?, h1, h3, List.length_map, hM, h5, h6, h7, true_and, Nat.zero_add, Nat.le_refl, if_true]
  rw [e2, e1]
  simp only [splice, List.take_zero, List.nil_append, Nat.zero_add, List.length_map, hM]
  rw [List.drop_of_length_le (by rw [List.length_map, h7]; exact Nat.le_refl _), List.append_nil]; rfl⟩
theorem resK_ar {a t : Nat} {rs : List ResultVar} {vs : List AV} (hs : Bk (Lay.arr N g) S id v L) (hc : Cov l l0) (h1 : lk l0 a = some (.sc v)) (hT : aggT E t N = true) (r : resK E l S.m rs = some vs) : resK E l S.m (.cell a t :: rs) = some (.agg (L.map g) :: vs) := by
  obtain ⟨y, q1, q2, q3, _⟩ := aggT_ok hT
  obtain ⟨b, cs, rfl, _, _, _, h5, h6, rfl⟩ := hs
  simp only [resK, hc _ _ h1, r, loadA, limOk, if_true, h5, part, q1, q2, q3, Nat.zero_add, List.length_map, h6, Nat.le_refl, List.drop_zero, Option.map_some]
  rw [List.take_of_length_le (by rw [List.length_map]; omega)]
end arr

end Go.Am

set_option linter.unusedSimpArgs false
set_option linter.unusedVariables false
namespace Go.Am

def ckN? {α : Type} (N : Nat) (L : List α) : Option Unit := if L.length = N then some () else none
theorem ckN?_ok {α : Type} {N : Nat} {L : List α} {u : Unit} (h : ckN? N L = some u) : L.length = N := by
  unfold ckN? at h
  split at h
  · assumption
  · cases h
def appB? {α : Type} (bnd : Nat) (L L' : List α) : Option (List α) := if L.length + L'.length ≤ bnd then some (L ++ L') else none
theorem appB?_some {α : Type} {bnd : Nat} {L L' M : List α} (h : appB? bnd L L' = some M) : L.length + L'.length ≤ bnd ∧ M = L ++ L' := by
  unfold appB? at h
  split at h
  · cases h; exact ⟨by assumption, rfl⟩
  · cases h
theorem appB?_ok {α : Type} {bnd : Nat} {L L' : List α} (h : L.length + L'.length ≤ bnd) : appB? bnd L L' = some (L ++ L') := if_pos h
def delB? {α : Type} (bnd : Nat) (L : List α) (i j : Int) : Option (List α) := if 0 ≤ i ∧ i ≤ j ∧ j ≤ L.length ∧ 0 < L.length ∧ L.length ≤ bnd then some (L.take i.toNat ++ L.drop j.toNat) else none
theorem delB?_some {α : Type} {bnd : Nat} {L M : List α} {i j : Int} (h : delB? bnd L i j = some M) : (0 ≤ i ∧ i ≤ j ∧ j ≤ L.length ∧ 0 < L.length ∧ L.length ≤ bnd) ∧ M = L.take i.toNat ++ L.drop j.toNat := by
  unfold delB? at h
  split at h
  · cases h; exact ⟨by assumption, rfl⟩
  · cases h
theorem delB?_ne {P : Prop} [Decidable P] {α : Type} {bnd : Nat} {L M : List α} {i j : Int} (h : (if P then delB? bnd L i j else none) = some M) : 0 < L.length := by
  split at h
  · exact (delB?_some h).1.2.2.2.1
  · cases h

section resk
variable {E : Env} {fl : Nat} {S : Cx fl} {v : SV} {id : Nat} {l l0 : LE} {rs : List ResultVar} {vs : List AV} {α : Type}
theorem resK_b {sz : Nat} {f : α → List SV} {hf : ∀ a, (f a).length = sz} {u : α} {a t : Nat} (hs : Bk (Lay.flat sz f hf) S id v u) (hc : Cov l l0) (h1 : lk l0 a = some (.sc v)) (hT : aggT E t sz = true) (r : resK E l S.m rs = some vs) :
    resK E l S.m (.cell a t :: rs) = some (.agg (f u) :: vs) := by
  obtain ⟨y, q1, q2, q3, _⟩ := aggT_ok hT
  obtain ⟨b, cs, rfl, _, h4, _, h5, h6⟩ := hs
  have h6 : cs = f u := h6
  subst h6
  have := hf u
  simp only [resK, hc _ _ h1, r, loadA, limOk, if_true, h5, part, q1, q2, q3, Nat.zero_add, this, Nat.le_refl, List.drop_zero, Option.map_some]
  rw [List.take_of_length_le (by omega)]
theorem resK_b1 {g : α → SV} {u : α} {a t : Nat} (hs : Bk (Lay.one g) S id v u) (hc : Cov l l0) (h1 : lk l0 a = some (.sc v)) (hT : oneT E t = true) (r : resK E l S.m rs = some vs) :
    resK E l S.m (.cell a t :: rs) = some (.sc (g u) :: vs) := by
  obtain ⟨y, q1, q2, q3, _⟩ := oneT_ok hT
  obtain ⟨b, cs, rfl, _, h4, _, h5, h6⟩ := hs
  have h6 : cs = [g u] := h6
  subst h6
  simp only [resK, hc _ _ h1, r, loadA, limOk, if_true, h5, part, q1, q2, q3, or_self, if_false, List.getElem?_cons_zero, Option.map_some]
end resk

theorem Rp.isp {α : Type} {A : Lay α} {fl : Nat} {S : Cx fl} {v : SV} {u : α} (h : Rp A S v u) : ∃ b, v = .ptr b 0 := by obtain ⟨b, cs, h, _⟩ := h; exact ⟨b, h⟩
section rules
variable {E : Env} {fl : Nat} {loose : Nat → Bool} {lim : Option Nat} {ops : Array Oper} {os : List Oper} {l : LE} {m : Mem} {n : Nat} {K : LE → Mem → Nat → Prop} {d : Nat} {ty t : TypeId} {pos : String} {af : Array Edge} {x y z i : Operand} {v w : SV} {k k' k'' : IntKind} {a b c : Int} {S : Cx fl} {id q : Nat} {α : Type} {A : Lay α} {L L' M : List α} {u : α}
theorem WO.max3 {ats : Array TypeId} (hx : evK l x = some (.sc (.int k a))) (hy : evK l y = some (.sc (.int k' b))) (hz : evK l z = some (.sc (.int k'' c))) (e1 : k' = k) (e2 : k'' = k) (h : WO E loose fl lim ops os ((d, .sc (.int k (maxI (maxI a b) c))) :: l) m n K) :
    WO E loose fl lim ops (⟨some d, .call ⟨.builtin .max, #[x, y, z], ats⟩, ty, pos, af, none⟩ :: os) l m n K := ⟨fun tt ht => by
  subst e1 e2
  exact W_op2 (by simp only [opA, callA, builtinA, List.map_cons, List.map_nil, evK_ev ht hx, evK_ev ht hy, evK_ev ht hz, foldMax, max2, if_true, Option.map_some, maxI]; rfl) (h.put ht)⟩
theorem WO.min3 {ats : Array TypeId} (hx : evK l x = some (.sc (.int k a))) (hy : evK l y = some (.sc (.int k' b))) (hz : evK l z = some (.sc (.int k'' c))) (e1 : k' = k) (e2 : k'' = k) (h : WO E loose fl lim ops os ((d, .sc (.int k (minI (minI a b) c))) :: l) m n K) :
    WO E loose fl lim ops (⟨some d, .call ⟨.builtin .min, #[x, y, z], ats⟩, ty, pos, af, none⟩ :: os) l m n K := ⟨fun tt ht => by
  subst e1 e2
  exact W_op2 (by simp only [opA, callA, builtinA, List.map_cons, List.map_nil, evK_ev ht hx, evK_ev ht hy, evK_ev ht hz, foldMax, max2, Bool.false_eq_true, if_false, Option.map_some, minI]; rfl) (h.put ht)⟩
/-- An array behind a pointer that is only read. -/
theorem WO.ixRp {N : Nat} {g : α → SV} (hx : evK l x = some (.sc v)) (hs : Rp (Lay.arr N g) S v L) (hi : evK l i = some (.sc (.int k a))) (ha : 0 ≤ a ∧ a < L.length) (hT : arTs E t N 1 = true) (h : WO E loose fl lim ops os ((d, .sc (ptrAt v 0 a.toNat)) :: l) m n K) :
    WO E loose fl lim ops (⟨some d, .indexAddr t x i, ty, pos, af, none⟩ :: os) l m n K := by
  obtain ⟨b, cs, rfl, _, _, hl, _⟩ := hs
  have hl : L.length = N := hl
  refine WO.ixB hx ⟨b, rfl⟩ hi (by omega) hT ?_
  rw [Nat.mul_one]; exact h
theorem WO.ldRp {N : Nat} {g : α → SV} {p : SV} (hx : evK l x = some (.sc p)) (hp : p = ptrAt v 0 q) (hs : Rp (Lay.arr N g) S v L) (hu : L[q]? = some u) (hT : oneT E t = true) (hl : limLe lim S.n = true)
    (h : WO E loose fl lim ops os ((d, .sc (g u)) :: l) S.m S.n K) : WO E loose fl lim ops (⟨some d, .load t x, ty, pos, af, none⟩ :: os) l S.m S.n K := ⟨fun tt ht => by
  subst hp
  obtain ⟨y, h1, h2, h3, _⟩ := oneT_ok hT
  refine W_op2 ?_ (h.put ht)
  obtain ⟨b, cs, rfl, h4, h5, _, rfl⟩ := hs
  have hcell : (L.map g)[q]? = some (g u) := by rw [List.getElem?_map, hu]; rfl
  simp only [opA, evK_ev ht hx, ptrAt, loadA, limOk_of hl h4.1, if_true, h5, part, h1, h2, h3, or_self, if_false, Nat.zero_add, hcell, Option.map_some]⟩
/-- The beginning of an own slice: a view, and own as well. -/
theorem WO.slcP {hi' : Int} {y2 : Operand} (hx : evK l x = some (.sc v)) (hhi : evK l y2 = some (.sc (.int k hi'))) (hs : Ow A S id v L) (hM : sub? L 0 hi' = some M) (hT : slTs E t A.sz = true)
    (h : ∀ w, Wk A S id w M → Ow A S id w M → WO E loose fl lim ops os ((d, .sc w) :: l) S.m S.n K) : WO E loose fl lim ops (⟨some d, .slice t x none (some y2) none, ty, pos, af, none⟩ :: os) l S.m S.n K :=
  WO.slcO hx hhi hs hM hT fun w hw => h w hw.wk hw
/-- append, by the bytes. -/
theorem WO.appSB {y2 : Operand} {zo : Nat → Prop} {bnd : Nat} (hx : evK l x = some (.sc v)) (hy : evK l y2 = some (.sc w)) (hs : Ow A S id v L) (hs2 : RO A zo S.fz S.m w L') (hM : appB? bnd L L' = some M) (hb : Nat.ble bnd 9223372036854775807 = true) (hT : slTb E t A.sz bnd = true) (hid : Nat.beq id 0 = false)
    (h : ∀ v' S', Ch id S S' → Ow A S' id v' M → WO E loose fl lim ops os ((d, .sc v') :: l) S'.m S'.n K) :
    WO E loose fl lim ops (⟨some d, .call ⟨.builtin .append, #[x, y2], #[t, t]⟩, ty, pos, af, none⟩ :: os) l S.m S.n K := ⟨fun tt ht => by
  have hid : id ≠ 0 := fun e => by subst e; cases hid
  have hb : bnd ≤ 9223372036854775807 := Nat.le_of_ble_eq_true hb
  obtain ⟨hMl, rfl⟩ := appB?_some hM
  unfold slTb at hT
  simp only [Bool.and_eq_true] at hT
  obtain ⟨hT, hT2⟩ := hT
  obtain ⟨z, e, h1, h2, h3, h4, h5, h5', h6⟩ := slTs_ok hT
  simp only [h1, h3, decide_eq_true_eq] at hT2
  obtain ⟨new, q1, q2⟩ := hs2.elems
  obtain ⟨old, q3, q4⟩ := hs.ro.elems
  have holdc : ∀ b c, v = .sl b 0 L.length c A.sz → ∀ cs, S.m.get b = some cs → old = cs.take (L.length * A.sz) := by
    intro b c e cs hcs
    subst e
    simp only [elemsA, hcs] at q3
    rw [if_neg (by simp)] at q3
    split at q3
    · simp only [List.drop_zero, Option.some.injEq, Prod.mk.injEq] at q3; exact q3.1.symm
    · cases q3
  have hby : (L.length + L'.length) * e.bytes ≤ 140737488355328 := Nat.le_trans (Nat.mul_le_mul_right _ hMl) hT2
  obtain ⟨v', S', q5, q6, q7⟩ := hs.app0 hid q2 h4 hby (by omega) q4 holdc
  refine W_op2 (m' := S'.m) (n' := S'.n) ?_ ((h v' S' q6 q7).put ht)
  simp only [opA, callA, builtinA, List.map_cons, List.map_nil, evK_ev ht hx, evK_ev ht hy]
  simp only [List.getElem?_toArray, List.getElem?_cons_zero, List.getElem?_cons_succ, if_true, appendA, h1, h2, h3, h4, h5]
  rw [q3, q1]
  simp [h5', q5]⟩
theorem WO.appHB {o ln c sz q b bnd : Nat} {cs new : List SV} (hx : evK l x = some (.sc (.sl b o ln c sz))) (hy : evK l y = some (.sc w)) (hw : elemsA m (.sc w) sz = some (new, q)) (hm : m.get b = some cs) (hle : o + c * sz ≤ cs.length) (hq : ln + q ≤ c) (hq2 : ln + q ≤ bnd) (hb : Nat.ble bnd 9223372036854775807 = true) (hfl : fl ≤ b) (hT : slTb E t sz bnd = true)
    (h : WO E loose fl lim ops os ((d, .sc (.sl b o (ln + q) c sz)) :: l) (m.set b (splice cs (o + ln * sz) new)) n K) : WO E loose fl lim ops (⟨some d, .call ⟨.builtin .append, #[x, y], #[t, t]⟩, ty, pos, af, none⟩ :: os) l m n K := ⟨fun tt ht => by
  have hb : bnd ≤ 9223372036854775807 := Nat.le_of_ble_eq_true hb
  unfold slTb at hT
  simp only [Bool.and_eq_true] at hT
  obtain ⟨hT, hT2⟩ := hT
  obtain ⟨yt, e, e1, e2, e3, e4, e5, e6, e7⟩ := slTs_ok hT
  simp only [e1, e3, decide_eq_true_eq] at hT2
  refine W_op2 ?_ (h.put ht)
  have h2 : ln * sz ≤ c * sz := Nat.mul_le_mul_right _ (by omega)
  have h3 : (ln + q) * e.bytes ≤ 140737488355328 := Nat.le_trans (Nat.mul_le_mul_right _ hq2) hT2
  have hel : elemsA m (.sc (.sl b o ln c sz)) sz = some ((cs.drop o).take (ln * sz), ln) := by
    simp only [elemsA, hm]
    rw [if_neg (by simp), if_pos (by omega)]
  have key : appendA E fl t (.sc (.sl b o ln c sz)) (.sc w) m n = some (.sc (.sl b o (ln + q) c sz), m.set b (splice cs (o + ln * sz) new), n) := by
    simp only [appendA, e1, e2, e3, e4]
    rw [if_neg (by simp), if_neg (by rw [e5]; simp; omega), hel, hw]
    simp only [appendTo]
    rw [if_neg (by omega), if_neg (by omega), if_pos hq, hm]
    simp only
    rw [if_pos hle]
  simp only [opA, callA, builtinA, List.map_cons, List.map_nil, evK_ev ht hx, evK_ev ht hy]
  simp [key]⟩
/-- What is left when a middle part is struck. -/
theorem del_RL {cs zz : List SV} {p r lo : Nat} {zf : Nat → Prop} (h : RL A zf m L (cs.take (L.length * A.sz))) (h1 : p ≤ r) (h2 : r ≤ L.length) (hl : L.length * A.sz ≤ cs.length) (hlo : lo = p + (L.length - r)) :
    RL A zf m (L.take p ++ L.drop r) ((splice (splice cs (0 + p * A.sz) ((cs.drop (0 + r * A.sz)).take ((L.length - r) * A.sz))) (0 + lo * A.sz) zz).take ((L.take p ++ L.drop r).length * A.sz)) := by
  subst hlo
  simp only [Nat.zero_add]
  have hlen : (L.take p ++ L.drop r).length = p + (L.length - r) := by simp; omega
  have e0 : p * A.sz ≤ r * A.sz := Nat.mul_le_mul_right _ h1
  have e1 : r * A.sz ≤ L.length * A.sz := Nat.mul_le_mul_right _ h2
  have e2 : (L.length - r) * A.sz = L.length * A.sz - r * A.sz := Nat.sub_mul _ _ _
  have e3 : (p + (L.length - r)) * A.sz = p * A.sz + (L.length - r) * A.sz := Nat.add_mul _ _ _
  have r1 := RL.append (RL.take p h) (RL.drop r h)
  have ee : (splice (splice cs (p * A.sz) ((cs.drop (r * A.sz)).take ((L.length - r) * A.sz))) ((p + (L.length - r)) * A.sz) zz).take ((p + (L.length - r)) * A.sz) = (cs.take (L.length * A.sz)).take (p * A.sz) ++ (cs.take (L.length * A.sz)).drop (r * A.sz) := by
    have hX : (splice cs (p * A.sz) ((cs.drop (r * A.sz)).take ((L.length - r) * A.sz))).take ((p + (L.length - r)) * A.sz) = cs.take (p * A.sz) ++ (cs.drop (r * A.sz)).take ((L.length - r) * A.sz) := by
      unfold splice
      rw [List.take_append_of_le_length (by simp only [List.length_append, List.length_take, List.length_drop]; omega), List.take_of_length_le (by simp only [List.length_append, List.length_take, List.length_drop]; omega)]
    have hY : ∀ X : List SV, (p + (L.length - r)) * A.sz ≤ X.length → (splice X ((p + (L.length - r)) * A.sz) zz).take ((p + (L.length - r)) * A.sz) = X.take ((p + (L.length - r)) * A.sz) := by
      intro X hX
      unfold splice
      rw [List.append_assoc, List.take_append_of_le_length (by rw [List.length_take]; omega), List.take_take, Nat.min_self]
    rw [hY _ (by simp only [splice, List.length_append, List.length_take, List.length_drop]; omega), hX, List.take_take, Nat.min_eq_left (by omega), List.drop_take, e2]
  rw [hlen, ee]
  exact r1
/-- clear of an end of an own slice. -/
theorem WO.clrB {z0 : α} {lo' : Int} (hs : Ow A S id v L) (hM : sub? L lo' L.length = some M) (hb : Sb v w A.sz lo'.toNat M.length) (hx : evK l x = some (.sc w)) (hz : A.R S.fz S.m z0 (slZ E t)) (hT : slTs E t A.sz = true) (hid : Nat.beq id 0 = false)
    (h : ∀ S', Ch id S S' → Ow A S' id v (L.take lo'.toNat ++ List.replicate M.length z0) → WO E loose fl lim ops os l S'.m S'.n K) : WO E loose fl lim ops (⟨none, .call ⟨.builtin .clear, #[x], #[t]⟩, ty, pos, af, none⟩ :: os) l S.m S.n K := ⟨fun tt ht => by
  have hid : id ≠ 0 := fun e => by subst e; cases hid
  obtain ⟨⟨b1, b2, b3⟩, hMe⟩ := sub?_some hM
  have hml : M.length = L.length - lo'.toNat := by rw [hMe, List.length_drop, List.length_take]; omega
  obtain ⟨yt, e, e1, e2, e3, e4, e5, e6, e7⟩ := slTs_ok hT
  have hzz : slZ E t = e.zero := by unfold slZ; rw [e1]; simp only [e3]
  rcases hb with ⟨hw, hk0⟩ | ⟨b, o, ln, c, c', rfl, rfl, hle, hc'⟩
  · have e0 : L.take lo'.toNat ++ List.replicate M.length z0 = L := by
      rw [hk0, List.replicate_zero, List.append_nil, List.take_of_length_le (by omega)]
    have hh := h S (Ch.refl _ _) (by rw [e0]; exact hs)
    refine W_op2 (v := .tup []) (m' := S.m) (n' := S.n) ?_ (hh.ok tt ht)
    have key : ∀ w0, w0 = SV.nils ∨ w0 = SV.emp → clearA E fl t (.sc w0) S.m S.n = some (.tup [], S.m, S.n) := by
      intro w0 hw0
      simp only [clearA, e1, e3]
      rw [if_neg (by simp [e2]), if_neg (by rw [e4, e5]; simp)]
      rcases hw0 with rfl | rfl <;> rfl
    simp only [opA, callA, builtinA, List.map_cons, List.map_nil, evK_ev ht hx]
    exact key w hw
  · rcases hs with ⟨hv, _⟩ | ⟨b', c2, cs, hv, h2, h3, h4, h5, h6, h7, h8⟩
    · cases hv
    · cases hv
      have g1 : lo'.toNat * A.sz ≤ L.length * A.sz := Nat.mul_le_mul_right _ (by omega)
      have g2 : L.length * A.sz ≤ c * A.sz := Nat.mul_le_mul_right _ h5
      have g3 : M.length * A.sz = L.length * A.sz - lo'.toNat * A.sz := by rw [hml, Nat.sub_mul]
      have hzl : (List.replicate M.length e.zero).flatten.length = M.length * A.sz := by simp [e5]
      have hch : Ch id S (⟨S.m.set b (splice cs (0 + lo'.toNat * A.sz) (List.replicate M.length e.zero).flatten), S.n, S.ow, S.le⟩ : Cx fl) := ⟨Nat.le_refl _, fun i hi hk => ⟨rfl, Tr.get_set_ne _ _ (fun e => hk (by rw [e]; exact h4))⟩⟩
      have hlen : (L.take lo'.toNat ++ List.replicate M.length z0).length = L.length := by simp; omega
      refine W_op2 (v := .tup []) (m' := S.m.set b (splice cs (0 + lo'.toNat * A.sz) (List.replicate M.length e.zero).flatten)) (n' := S.n) ?_ ((h _ hch (.inr ⟨b, c, _, by rw [hlen], h2, h3, h4, by rw [hlen]; exact h5, Tr.get_set_same _ _ _, ?_, ?_⟩)).ok tt ht)
      · have key : clearA E fl t (.sc (.sl b (0 + lo'.toNat * A.sz) M.length c' A.sz)) S.m S.n = some (.tup [], S.m.set b (splice cs (0 + lo'.toNat * A.sz) (List.replicate M.length e.zero).flatten), S.n) := by
          simp only [clearA, e1, e2, e3, e4]
          rw [if_neg (by simp), if_neg (by rw [e5]; simp), if_neg (by simp; omega), h6]
          try simp only
          rw [if_pos (by omega)]
        simp only [opA, callA, builtinA, List.map_cons, List.map_nil, evK_ev ht hx]
        exact key
      · simp only [splice, List.length_append, List.length_take, List.length_drop, hzl]; omega
      · rw [hlen]
        have r1 := RL.append (RL.take lo'.toNat h8) (RL.replicate hz M.length)
        rw [hzz] at r1
        have ee : (splice cs (0 + lo'.toNat * A.sz) (List.replicate M.length e.zero).flatten).take (L.length * A.sz) = (cs.take (L.length * A.sz)).take (lo'.toNat * A.sz) ++ (List.replicate M.length e.zero).flatten := by
          unfold splice
          rw [Nat.zero_add, List.take_append_of_le_length (by simp only [List.length_append, List.length_take, hzl]; omega), List.take_of_length_le (by simp only [List.length_append, List.length_take, hzl]; omega), List.take_take, Nat.min_eq_left g1]
        rw [ee]
        exact r1.frame (fz_ch hch hid)⟩
end rules
/-! ### Regions of the kind G, for calls of the form S -/
theorem eqC_str {p q : List UInt8} : eqC 3 (.str p) (.str q) = some (p == q) := rfl
section wog
variable {E : Env} {fl : Nat} {loose : Nat → Bool} {lim : Option Nat} {ops : Array Oper} {os : List Oper} {l : LE} {K : LE → Mem → Nat → Prop} {d : Nat} {ty : TypeId} {pos : String} {af : Array Edge} {S : Cx fl} {R : List Nat}
/-- Blocks that a call does not meet. -/
def Apt {fl : Nat} (S : Cx fl) (p : List (Nat × Nat)) : List Nat → Prop
  | [] => True
  | b :: r => (b < S.n ∧ (sg p (S.ow b) = 0 ∨ 1000 ≤ sg p (S.ow b))) ∧ Apt S p r
theorem Apt.mem {p : List (Nat × Nat)} : ∀ {R : List Nat}, Apt S p R → ∀ b ∈ R, b < S.n ∧ (sg p (S.ow b) = 0 ∨ 1000 ≤ sg p (S.ow b))
  | _ :: _, h, b, hb => by
    rcases List.mem_cons.1 hb with rfl | hb
    · exact h.1
    · exact Apt.mem h.2 b hb
theorem Bk.apt {α : Type} {A : Lay α} {id b : Nat} {u : α} {p : List (Nat × Nat)} (h : Bk A S id (.ptr b 0) u) (e : Nat.ble 1000 (sg p id) = true) : b < S.n ∧ (sg p (S.ow b) = 0 ∨ 1000 ≤ sg p (S.ow b)) := by
  obtain ⟨b', cs, e1, _, h3, h4, _⟩ := h
  cases e1
  exact ⟨h3, .inr (by rw [h4]; exact Nat.le_of_ble_eq_true e)⟩
theorem Bw.apt {id b : Nat} {cs : List SV} {p : List (Nat × Nat)} (h : Bw S id (.ptr b 0) cs) (e : Nat.ble 1000 (sg p id) = true) : b < S.n ∧ (sg p (S.ow b) = 0 ∨ 1000 ≤ sg p (S.ow b)) := by
  obtain ⟨b', e1, _, h3, h4, _⟩ := h
  cases e1
  exact ⟨h3, .inr (by rw [h4]; exact Nat.le_of_ble_eq_true e)⟩
theorem WOG.callG {f : Operand} {xs : Array Operand} {ats : Array TypeId} {g : Nat} {caps : List (Nat × Nat)} {args : List AV} {Q : AV → Cx fl → Prop} (p q : List (Nat × Nat)) (hA : Apt S p R) (hf : evK l f = some (.sc (.fn g caps))) (ha : xs.toList.mapM (evK l) = some args)
    (hr : Ret E fl g (args ++ caps.map fun p => .sc (.ptr p.1 p.2)) S.m S.n (fun v m' n' => ∃ S' : Cx fl, S'.m = m' ∧ S'.n = n' ∧ ChM (S.mp p) S' ∧ Q v S'))
    (h : ∀ v S' S1, Bak p q S S' S1 → Q v S' → WOG E R loose fl lim ops os ((d, v) :: l) S1.m S1.n K) (hl : loose g = false := by rfl) :
    WOG E R loose fl lim ops (⟨some d, .call ⟨.value f, xs, ats⟩, ty, pos, af, none⟩ :: os) l S.m S.n K := by
  refine WOG.call hf ha ?_
  rw [hl]; simp only [Bool.false_eq_true, if_false]
  refine hr.mono ?_
  rintro v m' n' ⟨S', rfl, rfl, hM, hR⟩
  obtain ⟨S1, hb⟩ := Bak.mk' p q hM
  refine ⟨fun i hi => ?_, ?_⟩
  · obtain ⟨h1, h2⟩ := hA.mem i hi
    exact (hb.old i h1 h2).2.2
  · have := h v S' S1 hb hR
    rw [hb.m, hb.n] at this
    exact this
/-- What a region's loads read: their operands' blocks. -/
def ldOs : Op → List Operand
  | .load _ a => [a]
  | _ => []
def rdOs : List Oper → List Operand
  | [] => []
  | o :: r => ldOs o.op ++ rdOs r
theorem ldB_os (t : Tr AV) (o : Oper) : ldB t o = (ldOs o.op).flatMap fun x => (evT t x).blks := by
  obtain ⟨dst, op, _, _, _, _⟩ := o
  cases op <;> first | rfl | simp [ldB, ldOs]
theorem rdB_os {t : Tr AV} {ops : Array Oper} : rdB t ops = (rdOs ops.toList).flatMap fun x => (evT t x).blks := by
  unfold rdB
  generalize ops.toList = L
  induction L with
  | nil => rfl
  | cons o r ih => rw [List.flatMap_cons, ih, ldB_os, rdOs, List.flatMap_append]
theorem rdB_in {t : Tr AV} {l : LE} {ops : Array Oper} {vs : List SV} (hs : Sees t l) (hv : valsL l (rdOs ops.toList) = some vs) (hR : vs.all (fun v => match v.blk with | some b => R.contains b | none => true) = true) : ∀ q ∈ rdB t ops, q ∈ R := by
  intro q hq
  rw [rdB_os] at hq
  obtain ⟨x, hx, hq⟩ := List.mem_flatMap.1 hq
  obtain ⟨v, h1, h2⟩ := valsL_blks hs hv x hx q hq
  have := List.all_eq_true.1 hR v h1
  rw [h2] at this
  simpa using this
end wog

end Go.Am


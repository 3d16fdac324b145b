/- More rules: views of own slices, copy, append of zeros, make with a capacity. -/
import Derived.Test.YtihmliblbhjlaaaDenB
namespace Go.Am

def appZ? {α : Type} (L : List α) (k : Int) (z : α) : Option (List α) := if 0 ≤ k ∧ L.length + k.toNat ≤ 549755813888 then some (L ++ List.replicate k.toNat z) else none
def mkC? {α : Type} (n c : Int) (z : α) : Option (List α) := if 0 ≤ n ∧ n ≤ c ∧ c ≤ 1099511627776 then some (List.replicate n.toNat z) else none
/-- What 'copy' leaves in L. -/
def cpy {α : Type} (L M : List α) : List α := M.take L.length ++ L.drop M.length

/-- A view of what is k's. -/
def Wk {α : Type} {fl : Nat} (A : Lay α) (S : Cx fl) (k : Nat) (v : SV) (L : List α) : Prop := RO A (fun i => i < S.n ∧ S.ow i = k) S.fz S.m v L

section wk
variable {α : Type} {A : Lay α} {fl k j : Nat} {S S' : Cx fl} {v : SV} {L : List α}
theorem Ow.wk (h : Ow A S k v L) : Wk A S k v L := RO.to h.oz (fun _ h => ⟨h.2, rfl⟩) (fun _ h => ⟨h, rfl⟩)
theorem Wk.slv (h : Wk A S k v L) : SlV v A.sz L.length := RO.slv h
theorem Wk.ro (h : Wk A S k v L) : RO A (fun i => i < S.n) S.fz S.m v L := RO.to h (fun _ h => ⟨h.1, rfl⟩) (fun _ h => ⟨h, rfl⟩)
theorem Wk.oz (h : Wk A S k v L) : RO A (fun i => i < S.n ∧ i < S.n ∧ S.ow i = k) S.fz S.m v L := RO.to h (fun _ h => ⟨⟨h.1, h⟩, rfl⟩) (fun _ h => ⟨h, rfl⟩)
theorem Wk.vw (h : Wk A S k v L) : Vw A S.n S.m v L := RO.to h.ro (fun _ h => ⟨h, rfl⟩) (fun _ h => ⟨h.1, rfl⟩)
theorem Wk.to (h : Wk A S j v L) (c : Ch k S S') (hk : Nat.beq k 0 = false := by rfl) (hj : Nat.beq j k = false := by rfl) : Wk A S' j v L := by
  have hk : k ≠ 0 := fun e => by subst e; cases hk
  have hj : j ≠ k := fun e => by subst e; rw [show Nat.beq j j = true by simp] at hj; cases hj
  refine RO.to h (fun i hi => ?_) (fz_ch c hk)
  obtain ⟨h1, h2⟩ := c.ow i hi.1 (by omega)
  exact ⟨⟨Nat.lt_of_lt_of_le hi.1 c.n, by rw [h1]; exact hi.2⟩, h2⟩
theorem fz_drop (k : Nat) : ∀ i, S.fz i → (S.drop k).fz i ∧ (S.drop k).m.get i = S.m.get i := fun i ⟨h1, h2⟩ => ⟨⟨h1, by simp only [Cx.drop]; split; rfl; exact h2⟩, rfl⟩
theorem Wk.drop (h : Wk A S j v L) (k : Nat) (hj : Nat.beq j k = false := by rfl) : Wk A (S.drop k) j v L := by
  have hj : j ≠ k := fun e => by subst e; rw [show Nat.beq j j = true by simp] at hj; cases hj
  exact RO.to h (fun i hi => ⟨⟨hi.1, by simp only [Cx.drop]; rw [if_neg (by omega)]; exact hi.2⟩, rfl⟩) (fz_drop k)
theorem Wk.renO {i : Nat} (h : Wk A S i v L) (k j : Nat) (hk : Nat.beq k 0 = false := by rfl) (hj : Nat.beq j 0 = false := by rfl) (hik : Nat.beq i k = false := by rfl) (hij : Nat.beq i j = false := by rfl) : Wk A (S.ren k j) i v L := by
  have hk : k ≠ 0 := fun e => by subst e; cases hk
  have hj : j ≠ 0 := fun e => by subst e; cases hj
  have hik : i ≠ k := fun e => by subst e; rw [show Nat.beq i i = true by simp] at hik; cases hik
  have hij : i ≠ j := fun e => by subst e; rw [show Nat.beq i i = true by simp] at hij; cases hij
  exact RO.to h (fun q hq => ⟨⟨hq.1, by simp only [Cx.ren]; rw [if_neg (by omega), if_neg (by omega)]; exact hq.2⟩, rfl⟩) (fz_ren k j hk hj)
theorem Wk.freeze (h : Wk A S k v L) : Rd A (S.drop k) v L := RO.to h (fun i hi => ⟨⟨hi.1, by simp only [Cx.drop]; rw [if_pos hi.2]⟩, rfl⟩) (fz_drop k)
end wk

section rules
variable {E : Env} {lo : List Nat} {fl : Nat} {loose : Nat → Bool} {lim : Option Nat} {ops : Array Oper} {os : List Oper}
variable {l : LE} {m : Mem} {n : Nat} {K : LE → Mem → Nat → Prop}
variable {d : Nat} {ty t t1 : TypeId} {pos : String} {af : Array Edge} {x y i : Operand} {v w : SV} {k k' : IntKind} {a b : Int}
variable {α : Type} {A : Lay α} {S : Cx fl} {L L' M : List α} {j q : Nat} {u : α} {s : SV} {id : Nat}

/-- make([]T, n, c) -/
theorem WO.mkC {z0 : α} {i2 : Operand} (id : Nat) (hi : evK l i = some (.sc (.int k a))) (hi2 : evK l i2 = some (.sc (.int k' b))) (hM : mkC? a b z0 = some M) (hz : A.R S.fz S.m z0 (slZ E t)) (hT : slTs E t A.sz = true) (hid : Nat.beq id 0 = false)
    (h : ∀ v' S', Ch id S S' → Ow A S' id v' M → WO E loose fl lim ops os ((d, .sc v') :: l) S'.m S'.n K) : WO E loose fl lim ops (⟨some d, .makeSlice t i i2, ty, pos, af, none⟩ :: os) l S.m S.n K := ⟨fun tt ht => by
  have hid : id ≠ 0 := fun e => by subst e; cases hid
  obtain ⟨y, e, h1, h2, h3, h4, h5, h5', h6⟩ := slTs_ok hT
  unfold mkC? at hM
  split at hM
  · rename_i ha
    cases hM
    have hz : A.R S.fz S.m z0 e.zero := by simpa [slZ, h1, h3] using hz
    have hR := RL.replicate hz b.toNat
    have hl := hR.length
    rw [List.length_replicate] at hl
    have hR2 := RL.take a.toNat hR
    rw [List.take_replicate, Nat.min_eq_left (by omega)] at hR2
    obtain ⟨S', e1, e2, h7, h8⟩ := Ow.fresh (S := S) (L := List.replicate a.toNat z0) (cs := (List.replicate b.toNat e.zero).flatten) (c := b.toNat) (by rw [List.length_replicate]; exact hR2) hid (by simp; omega) hl
    refine W_op2 (m' := S'.m) (n' := S'.n) ?_ ((h _ S' h7 h8).put ht)
    have : b * (e.bytes : Int) ≤ 281474976710656 := by
      have h5 : b * (e.bytes : Int) ≤ b * 256 := Int.mul_le_mul_of_nonneg_left (by omega) (by omega)
      omega
    simp only [opA, evK_ev ht hi, evK_ev ht hi2, makeSliceA, h1, h2, h3]
    rw [e1, e2]
    simp [ha, this, h4, h5]
    omega
  · cases hM⟩

/-- append(s, make([]T, n)...) -/
theorem WO.appZ {y2 : Operand} {u : TypeId} {yu : Ty} {z0 : α} (hx : evK l x = some (.sc v)) (hy : evK l y2 = some (.sc (.int k a))) (hs : Ow A S id v L) (hz : A.R S.fz S.m z0 (slZ E t)) (hM : appZ? L a z0 = some M) (hT : slTs E t A.sz = true) (hu : E.ty u = some yu) (hk : yu.kind = 1) (hne : Nat.beq u t = false) (hid : Nat.beq id 0 = false)
    (h : ∀ v' S', Ch id S S' → Ow A S' id v' M → WO E loose fl lim ops os ((d, .sc v') :: l) S'.m S'.n K) :
    WO E loose fl lim ops (⟨some d, .call ⟨.builtin .append, #[x, y2], #[t, u]⟩, ty, pos, af, none⟩ :: os) l S.m S.n K := ⟨fun tt ht => by
  have hid : id ≠ 0 := fun e => by subst e; cases hid
  have hne : u ≠ t := fun e => by subst e; simp at hne
  obtain ⟨z, e, h1, h2, h3, h4, h5, h5', h6⟩ := slTs_ok hT
  unfold appZ? at hM
  split at hM
  · rename_i ha
    cases hM
    have hz : A.R S.fz S.m z0 e.zero := by simpa [slZ, h1, h3] using hz
    have hnew := RL.replicate hz a.toNat
    obtain ⟨old, q3, q4⟩ := hs.ro.elems
    have holdc : ∀ b c, v = .sl b 0 L.length c A.sz → ∀ cs, S.m.get b = some cs → old = cs.take (L.length * A.sz) := by
      intro b c e cs hcs
      subst e
      simp only [elemsA, hcs] at q3
      rw [if_neg (by simp)] at q3
      split at q3
      · cases q3; rfl
      · cases q3
    obtain ⟨v', S', q5, q6, q7⟩ := hs.app hid hnew h4 h6 (by rw [List.length_replicate]; exact ha.2) q4 holdc
    rw [List.length_replicate] at q5
    refine W_op2 (m' := S'.m) (n' := S'.n) ?_ ((h v' S' q6 q7).put ht)
    have hby : a * (e.bytes : Int) ≤ 281474976710656 := by
      have h5 : a * (e.bytes : Int) ≤ a * 256 := Int.mul_le_mul_of_nonneg_left (by omega) (by omega)
      omega
    simp only [opA, callA, builtinA, List.map_cons, List.map_nil, evK_ev ht hx, evK_ev ht hy]
    simp only [List.getElem?_toArray, List.getElem?_cons_zero, List.getElem?_cons_succ, Option.some.injEq, hne, if_false, appendZA, h1, h2, h3, hu, hk, h4, h5]
    rw [q3]
    have hcond : ¬ (A.sz = 0 ∨ A.sz ≠ A.sz ∨ a < 0 ∨ a > 9223372036854775807 ∨ a * (e.bytes : Int) > 281474976710656) := by
      intro hc
      rcases hc with hc | hc | hc | hc | hc
      · exact h5' hc
      · exact hc rfl
      · omega
      · omega
      · omega
    simp only [ne_eq, not_true_eq_false, or_self, if_false]
    rw [if_neg (by simpa using hcond)]
    exact q5
  · cases hM⟩

/-- copy(s, s2) -/
theorem WO.cpS {y2 : Operand} {zo : Nat → Prop} (hx : evK l x = some (.sc v)) (hy : evK l y2 = some (.sc w)) (hs : Ow A S id v L) (hs2 : RO A zo S.fz S.m w M) (hT : slTs E t A.sz = true) (hid : Nat.beq id 0 = false)
    (h : ∀ S', Ch id S S' → Ow A S' id v (cpy L M) → WO E loose fl lim ops os ((d, .sc (.int .i64 (minI (L.length : Int) (M.length : Int)))) :: l) S'.m S'.n K) :
    WO E loose fl lim ops (⟨some d, .call ⟨.builtin .copy, #[x, y2], #[t, t]⟩, ty, pos, af, none⟩ :: os) l S.m S.n K := ⟨fun tt ht => by
  have hid : id ≠ 0 := fun e => by subst e; cases hid
  obtain ⟨z, e, h1, h2, h3, h4, h5, h5', h6⟩ := slTs_ok hT
  obtain ⟨new, q1, q2⟩ := hs2.elems
  obtain ⟨old, q3, q4⟩ := hs.ro.elems
  have hnl := q2.length
  have hmin : (minI (L.length : Int) (M.length : Int)) = ((min M.length L.length : Nat) : Int) := by unfold minI; split <;> omega
  rw [hmin] at h
  rcases hs with ⟨rfl, rfl⟩ | ⟨bb, c, cs, rfl, p2, p3, p4, p5, p6, p7, p8⟩
  · refine W_op2 (m' := S.m) (n' := S.n) ?_ ((h S (Ch.refl _ _) (.inl ⟨rfl, by simp [cpy]⟩)).put ht)
    simp only [opA, callA, builtinA, List.map_cons, List.map_nil, evK_ev ht hx, evK_ev ht hy]
    simp only [List.getElem?_toArray, List.getElem?_cons_zero, List.getElem?_cons_succ, if_true, copyA, h1, h2, h3, h4]
    rw [q3, q1]
    simp
  · have hle2 : L.length * A.sz ≤ c * A.sz := Nat.mul_le_mul_right _ p5
    have hlen : (cpy L M).length = L.length := by simp only [cpy, List.length_append, List.length_take, List.length_drop]; omega
    have hmm : min M.length L.length * A.sz ≤ L.length * A.sz := Nat.mul_le_mul_right _ (Nat.min_le_right _ _)
    have hmm2 : min M.length L.length * A.sz ≤ M.length * A.sz := Nat.mul_le_mul_right _ (Nat.min_le_left _ _)
    have htl : (new.take (min M.length L.length * A.sz)).length = min M.length L.length * A.sz := by rw [List.length_take, hnl]; omega
    have hch : Ch id S (⟨S.m.set bb (splice cs 0 (new.take (min M.length L.length * A.sz))), S.n, S.ow, S.le⟩ : Cx fl) := ⟨Nat.le_refl _, fun i hi hk => ⟨rfl, Tr.get_set_ne _ _ (fun e => hk (by rw [e]; exact p4))⟩⟩
    refine W_op2 (m' := (⟨S.m.set bb (splice cs 0 (new.take (min M.length L.length * A.sz))), S.n, S.ow, S.le⟩ : Cx fl).m) (n' := S.n) ?_ ((h ⟨S.m.set bb (splice cs 0 (new.take (min M.length L.length * A.sz))), S.n, S.ow, S.le⟩ hch (.inr ⟨bb, c, _, by rw [hlen], p2, p3, p4, by rw [hlen]; exact p5, Tr.get_set_same _ _ _, ?_, ?_⟩)).put ht)
    · simp only [opA, callA, builtinA, List.map_cons, List.map_nil, evK_ev ht hx, evK_ev ht hy]
      simp only [List.getElem?_toArray, List.getElem?_cons_zero, List.getElem?_cons_succ, if_true, copyA, h1, h2, h3, h4]
      rw [q3, q1]
      simp only [p6]
      rw [if_neg (by simp), if_neg (by omega), if_pos (by omega)]
    · simp only [splice, List.length_append, List.length_take, List.length_drop, hnl]; omega
    · rw [hlen]
      have hR : RL A S.fz S.m (cpy L M) (new.take (min M.length L.length * A.sz) ++ (cs.take (L.length * A.sz)).drop (min M.length L.length * A.sz)) := by
        have r1 := RL.take (min M.length L.length) q2
        have r2 := RL.drop (min M.length L.length) p8
        have e1 : cpy L M = M.take (min M.length L.length) ++ L.drop (min M.length L.length) := by
          unfold cpy
          by_cases hml : M.length ≤ L.length
          · rw [Nat.min_eq_left hml, List.take_of_length_le hml, List.take_of_length_le (Nat.le_refl _)]
          · rw [Nat.min_eq_right (by omega), List.drop_of_length_le (by omega), List.drop_of_length_le (by omega)]
        rw [e1]; exact RL.append r1 r2
      have hR := hR.frame (fz_ch hch hid)
      have e2 : (splice cs 0 (new.take (min M.length L.length * A.sz))).take (L.length * A.sz) = new.take (min M.length L.length * A.sz) ++ (cs.take (L.length * A.sz)).drop (min M.length L.length * A.sz) := by
        simp only [splice, List.take_zero, List.nil_append, Nat.zero_add]
        rw [List.take_append, List.take_of_length_le (l := new.take _) (by rw [htl]; exact hmm), htl, List.drop_take]
      rw [e2]; exact hR⟩
end rules
end Go.Am

/- The abstract machine's operations that write: store, append, copy, clear; and those that make memory. -/
import Derived.Test.YtcjdiakgckhkdaaAm3
namespace Go.Am
open Go.RowKit

section writes
variable {P : Program}

/-- What a write into block b leaves: its array is another of the same size, all else is as it was. -/
structure Turned (w w' : World) (b : Nat) (arr' : Array Value) (T : TypeId) (fz : Nat × Nat) : Prop where
  os : w'.os = w.os
  tape : w'.tape = w.tape
  output : w'.output = w.output
  size : w'.heap.size = w.heap.size
  here : w'.heap[b]? = some (.cells arr' T fz)
  other : ∀ k, k ≠ b → w'.heap[k]? = w.heap[k]?

theorem turned_setCell (w : World) {b : Nat} {arr : Array Value} {T : TypeId} {fz : Nat × Nat} (h : w.heap[b]? = some (.cells arr T fz)) (o : Nat) (v : Value) :
    Turned w (w.setCell ⟨b, o, none⟩ v) b (arr.setIfInBounds o v) T fz := by
  refine ⟨rfl, rfl, rfl, by simp [World.setCell], ?_, ?_⟩
  · simp [World.setCell, Array.getElem?_modify, h]
  · intro k hk
    simp [World.setCell, Array.getElem?_modify]
    intro e; exact (hk e.symm).elim

def spl (l : List Value) (o : Nat) (v : List Value) : List Value := l.take o ++ v ++ l.drop (o + v.length)

theorem spl_nil (l : List Value) (o : Nat) : spl l o [] = l := by simp [spl]

theorem spl_cons (l : List Value) (o : Nat) (v : Value) (r : List Value) (h : o + r.length < l.length) : spl (l.set o v) (o + 1) r = spl l o (v :: r) := by
  unfold spl
  rw [List.take_set, List.drop_set, if_pos (by omega)]
  have e : (l.take (o + 1)).set o v = l.take o ++ [v] := by
    rw [List.take_add_one]
    have : l[o]? = some l[o] := by simp
    rw [this]
    rw [List.set_append]
    simp [Nat.min_eq_left (show o ≤ l.length by omega)]
  rw [e]
  simp [Nat.add_assoc, Nat.add_comm 1]

theorem run_storeCells_arr (b o : Nat) (T : TypeId) (fz : Nat × Nat) : ∀ (vs : List Value) (i : Nat) (arr : Array Value) (w : World), w.heap[b]? = some (.cells arr T fz) → o + i + vs.length ≤ arr.size →
    (∀ j, o + i ≤ j → j < o + i + vs.length → ¬ (fz.1 ≤ j ∧ j < fz.2)) → (∀ v ∈ vs, v.oneCell' = true) →
    ∃ w' arr', (storeCells ⟨b, o, none⟩ vs i).run P w = .ok () w' ∧ Turned w w' b arr' T fz ∧ arr'.toList = spl arr.toList (o + i) vs
  | [], i, arr, w, h, _, _, _ => ⟨w, arr, by simp [storeCells], ⟨rfl, rfl, rfl, rfl, h, fun _ _ => rfl⟩, (spl_nil _ _).symm⟩
  | v :: r, i, arr, w, h, hl, hz, h1 => by
    simp only [List.length_cons] at hl hz
    have hT := turned_setCell w h (o + i) v
    obtain ⟨w', arr', hr, ht, he⟩ := run_storeCells_arr b o T fz r (i + 1) (arr.setIfInBounds (o + i) v) (w.setCell ⟨b, o + i, none⟩ v) hT.here (by simp; omega)
      (fun j h1 h2 => hz j (by omega) (by omega)) (fun u hu => h1 u (by simp [hu]))
    refine ⟨w', arr', ?_, ⟨ht.os.trans hT.os, ht.tape.trans hT.tape, ht.output.trans hT.output, ht.size.trans hT.size, ht.here, fun k hk => (ht.other k hk).trans (hT.other k hk)⟩, ?_⟩
    · unfold storeCells
      rw [Addr.add_mid, Sem.run_bind, run_store P w _ v _ (h1 v (by simp))]
      have hc : w.cell? ⟨b, o + i, none⟩ = some (arr[o + i]'(by omega)) := by rw [cell?_of h]; simp
      have hf : w.frozen? ⟨b, o + i, none⟩ = false := by
        have := hz (o + i) (by omega) (by omega)
        simp only [World.frozen?, h]
        simp only [Bool.and_eq_false_iff, decide_eq_false_iff_not]
        omega
      simp only [hc, hf]
      simpa using hr
    · rw [he, Array.toList_setIfInBounds]
      rw [show o + (i + 1) = o + i + 1 from by omega]
      exact spl_cons _ _ _ _ (by simp; omega)

theorem All2.splice {ρ : Rho} {l : List SV} {r : List Value} (h : All2 (SV.rel ρ) l r) (o : Nat) {v : List SV} {u : List Value} (hv : All2 (SV.rel ρ) v u) : All2 (SV.rel ρ) (splice l o v) (spl r o u) := by
  unfold Am.splice spl
  rw [hv.length]
  exact ((h.take o).append hv).append (h.drop _)

theorem splice_length (l : List SV) (o : Nat) (v : List SV) (h : o + v.length ≤ l.length) : (splice l o v).length = l.length := by
  simp [splice]; omega

theorem spl_drop (r : List Value) (b o : Nat) (u : List Value) (h : b + o ≤ r.length) : (spl r (b + o) u).drop b = spl (r.drop b) o u := by
  unfold spl
  rw [List.append_assoc, List.drop_append_of_le_length (by simp; omega), List.drop_take, show b + o - b = o from by omega, List.drop_drop, List.append_assoc, Nat.add_assoc]

theorem spl_take (r : List Value) (n o : Nat) (u : List Value) (h : o + u.length ≤ n) (hn : n ≤ r.length) : (spl r o u).take n = spl (r.take n) o u := by
  unfold spl
  have hX : (r.take o ++ u).length = o + u.length := by simp; omega
  rw [List.take_append, hX, List.take_of_length_le (by omega), List.take_take, Nat.min_eq_left (by omega), List.drop_take]

/-- CELLS ARE STORED INTO AN OWN BLOCK. -/
theorem MemRel.storeAt {B fl0 : Nat} {w0 : World} {ρ : Rho} {m : Mem} {w : World} (hm : MemRel B fl0 w0 ρ m w) {i o : Nat} {cs vc : List SV} {vals : List Value} {p : Pl} (hfl : fl0 ≤ i) (hi : m.get i = some cs) (hp : ρ i = some p)
    (hlen : o + vc.length ≤ cs.length) (hv : All2 (SV.rel ρ) vc vals) :
    ∃ w', (storeCells ⟨p.b, p.base + o, none⟩ vals 0).run P w = .ok () w' ∧ MemRel B fl0 w0 ρ (m.set i (splice cs o vc)) w' := by
  obtain ⟨q, hq, hb, _⟩ := hm.mem i cs hi
  rw [hp] at hq; cases hq
  obtain ⟨arr, T, fz, h1, h2, h3, h4, h5⟩ := hb.at_
  have h5 := h5 (by simpa using hfl)
  have hvl := hv.length
  have hone : ∀ v ∈ vals, v.oneCell' = true := by
    intro v hvm
    obtain ⟨k, hk, e⟩ := List.getElem_of_mem hvm
    have hk' : k < vc.length := by omega
    obtain ⟨y, hy, hr⟩ := hv.get k _ (List.getElem?_eq_getElem hk')
    rw [List.getElem?_eq_getElem hk] at hy
    cases hy
    rw [← e]; exact SV.rel_oneCell hr
  obtain ⟨w', arr', hr, ht, he⟩ := run_storeCells_arr (P := P) p.b (p.base + o) T fz vals 0 arr w h1 (by omega) (fun j _ hj => h5 j (by omega)) hone
  simp only [Nat.add_zero] at he
  have hsz : arr'.size = p.cs := by
    rw [← h2, ← Array.length_toList, he]
    simp [spl]; omega
  refine ⟨w', hr, hm.turn hfl hi hp arr' T fz ht.here hsz (by rw [splice_length _ _ _ hlen]; exact h3) h5 ?_ ht.os ht.tape ht.output (by rw [ht.size]; exact Nat.le_refl _) (fun k hk _ => ht.other k hk)⟩
  rw [splice_length _ _ _ hlen, he, spl_drop _ _ _ _ (by simp; omega), spl_take _ _ _ _ (by omega) (by simp; omega)]
  exact h4.splice o hv

theorem run_storeA {E : Env} (hty : ∀ t y, E.ty t = some y → TyOk P t y) {B fl0 fl : Nat} {w0 : World} {ρ : Rho} {m m' : Mem} {w : World} (hm : MemRel B fl0 w0 ρ m w) (hfl : fl0 ≤ fl) {t : Nat} {x v : AV} (h : storeA E fl t m x v = some m') {X V : Value} (hx : x.rel ρ X) (hv : v.rel ρ V) :
    ∃ w', (Instr.storeAt t X V).run P w = .ok () w' ∧ MemRel B fl0 w0 ρ m' w' := by
  unfold storeA at h
  split at h
  · rename_i i o vc y hvc hy
    split at h
    · rename_i hc
      split at h
      · rename_i cs hcs
        split at h
        · rename_i hlen
          cases h
          obtain ⟨p, hp, rfl⟩ := hx
          obtain ⟨w', hr, hm'⟩ := hm.storeAt (P := P) (by omega : fl0 ≤ i) hcs hp hlen (AV.cells_rel hv hvc)
          obtain ⟨i', d, z, hi, hd, _, hsz, _⟩ := (hty t y hy).info
          have hsize : V.cells.size = i'.size := by
            have := (AV.cells_rel hv hvc).length
            simp only [Array.length_toList] at this
            omega
          refine ⟨w', ?_, hm'⟩
          simp [Instr.storeAt, Instr.sureAddr, storeVar, sizeOf, typeInfo, hi, hsize, hr]
        · cases h
      · cases h
    · cases h
  · cases h

end writes
end Go.Am

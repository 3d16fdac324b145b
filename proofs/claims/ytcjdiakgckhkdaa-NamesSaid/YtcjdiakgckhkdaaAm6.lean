/- The abstract machine's builtin functions that read rows of cells: append, copy, clear; conversions; and the operations all together. -/
import Derived.Test.YtcjdiakgckhkdaaAm5
namespace Go.Am
open Go.RowKit

section rows
variable {P : Program} {B fl0 : Nat} {w0 : World} {ρ : Rho} {m : Mem} {w : World}

/-- The elements of a slice, read (whatever has been drawn). -/
theorem run_elems (hm : MemRel B fl0 w0 ρ m w) {x : AV} {X : Value} {es k : Nat} {l : List SV} (h : elemsA m x es = some (l, k)) (hx : x.rel ρ X) :
    (Builtin.lenOf X).run P w = .ok k w ∧ l.length = k * es ∧
      (∀ q, q ≤ k → ∃ vals : Array Value, (∀ d, (Builtin.firstCells es q X).run P { w with drawn := d } = .ok vals { w with drawn := d }) ∧ All2 (SV.rel ρ) (l.take (q * es)) vals.toList) ∧ (∃ a n c, X = .slice a n c) := by
  unfold elemsA at h
  split at h
  · cases h
    obtain rfl := hx
    refine ⟨by simp [Builtin.lenOf], by simp, fun q hq => ⟨#[], ?_, by simp [All2]⟩, ⟨_, _, _, rfl⟩⟩
    simp [Builtin.firstCells]
  · cases h
    obtain ⟨a, c, rfl⟩ := hx
    refine ⟨by simp [Builtin.lenOf], by simp, fun q hq => ⟨#[], fun d => ?_, by simp [All2]⟩, ⟨_, _, _, rfl⟩⟩
    obtain rfl : q = 0 := by omega
    simp only [Builtin.firstCells, Nat.zero_mul]
    exact run_loadCells_list (P := P) _ a [] (fun j v hv => by simp at hv)
  · rename_i i o n c es'
    split at h
    · cases h
    · rename_i hes
      simp only [ne_eq, Decidable.not_not] at hes
      split at h
      · rename_i cs hcs
        split at h
        · rename_i hlen
          simp only [Option.some.injEq, Prod.mk.injEq] at h
          obtain ⟨rfl, rfl⟩ := h
          obtain ⟨p, cc, hp, hnc, hcc, hmax, hfit, rfl⟩ := hx
          obtain ⟨q, hq, hb, _⟩ := hm.mem i cs hcs
          rw [hp] at hq; cases hq
          obtain ⟨arr, T, fz, h1, h2, h3, h4, h5⟩ := hb.at_
          have hseg : ∀ q : Nat, q ≤ n → All2 (SV.rel ρ) (((cs.drop o).take (n * es)).take (q * es)) ((arr.toList.drop (p.base + o)).take (q * es)) := by
            intro q hq
            have hqn : q * es ≤ n * es := Nat.mul_le_mul_right _ hq
            rw [List.take_take, Nat.min_eq_left hqn]
            have := (h4.drop o).take (q * es)
            have e : ((arr.toList.drop p.base).take cs.length).drop o = (arr.toList.drop (p.base + o)).take (cs.length - o) := by
              rw [List.drop_take, List.drop_drop]
            rw [e, List.take_take, Nat.min_eq_left (by omega)] at this
            exact this
          have hload : ∀ q : Nat, q ≤ n → ∀ d, (Builtin.firstCells es q (.slice (some ⟨p.b, p.base + o, none⟩) n cc)).run P { w with drawn := d } = .ok ((arr.toList.drop (p.base + o)).take (q * es)).toArray { w with drawn := d } := by
            intro q hq d
            have hqn : q * es ≤ n * es := Nat.mul_le_mul_right _ hq
            have hl : ((arr.toList.drop (p.base + o)).take (q * es)).length = q * es := by simp; omega
            simp only [Builtin.firstCells]
            have := run_loadCells_list (P := P) { w with drawn := d } ⟨p.b, p.base + o, none⟩ ((arr.toList.drop (p.base + o)).take (q * es)) (fun j v hv => by
              rw [Addr.add_mid, cell?_of (w := { w with drawn := d }) h1]
              rw [List.getElem?_take, List.getElem?_drop] at hv
              split at hv
              · simpa using hv
              · cases hv)
            rw [hl] at this
            exact this
          exact ⟨by simp [Builtin.lenOf], by simp; omega, fun q hq => ⟨_, hload q hq, by simpa using hseg q hq⟩, ⟨_, _, _, rfl⟩⟩
        · cases h
      · cases h
  · cases h

theorem run_append_room' {t ty e : TypeId} {i : TypeInfo} (hd : P.underlying t = some (.slice e)) (hi : P.info? e = some i) {a : Addr} {k cc j : Nat} {X : Value} {new : Array Value} {w' : World}
    (hl : (Builtin.lenOf X).run P w = .ok j w) (hf : (Builtin.firstCells i.size j X).run P w = .ok new w) (hle : k + j ≤ cc) (hst : (storeCells (a.add (k * i.size)) new.toList).run P w = .ok () w') :
    (Builtin.append_ #[t, t] ty #[.slice (some a) k cc, X]).run P w = .ok (.slice (some a) (k + j) cc) w' := by
  simp [Builtin.append_, run_underlying hd, sizeOf, typeInfo, hi, hl, hf, hle, hst]

theorem run_append_none' {t ty e : TypeId} {i : TypeInfo} (hd : P.underlying t = some (.slice e)) (hi : P.info? e = some i) {X : Value} {new : Array Value}
    (hl : (Builtin.lenOf X).run P w = .ok 0 w) (hf : (Builtin.firstCells i.size 0 X).run P w = .ok new w) :
    (Builtin.append_ #[t, t] ty #[.slice none 0 0, X]).run P w = .ok (.slice none 0 0) w := by
  simp [Builtin.append_, run_underlying hd, sizeOf, typeInfo, hi, hl, hf]

theorem run_append_grow' {t ty e : TypeId} {i : TypeInfo} {z : Value} (hd : P.underlying t = some (.slice e)) (hi : P.info? e = some i) (hz : i.zero = some z) {base : Option Addr} {k cc j : Nat} {X : Value} {old new : Array Value}
    (hl : (Builtin.lenOf X).run P w = .ok j w) (hf : ∀ d, (Builtin.firstCells i.size j X).run P { w with drawn := d } = .ok new { w with drawn := d })
    (hold : ∀ d, (Builtin.firstCells i.size k (.slice base k cc)).run P { w with drawn := d } = .ok old { w with drawn := d }) (hgt : cc < k + j) (hb : (k + j) * i.bytes ≤ 140737488355328) (h63 : k + j ≤ 9223372036854775807) :
    (Builtin.append_ #[t, t] ty #[.slice base k cc, X]).run P w = .ok (.slice (some ⟨w.heap.size, 0, none⟩) (k + j) (grownCap w (k + j) cc e))
        { w with heap := w.heap.push (.cells (old ++ new ++ Builtin.zeroCells z.cells (grownCap w (k + j) cc e - (k + j))) e (0, 0)), drawn := w.drawn + 1 } := by
  have hn : ¬ (k + j ≤ cc) := by omega
  have h63' : ¬ (9223372036854775807 < ((k : Int) + (j : Int))) := by omega
  have h48' : ¬ (281474976710656 < Builtin.nextslicecap (k + j) cc * i.bytes) := by have := growslice_fits hgt hb; omega
  have hf1 : (Builtin.firstCells i.size j X).run P w.drew = .ok new w.drew := hf (w.drawn + 1)
  have ho1 : (Builtin.firstCells i.size k (.slice base k cc)).run P w.drew = .ok old w.drew := hold (w.drawn + 1)
  simp [Builtin.append_, run_underlying hd, sizeOf, typeInfo, zeroValue, hi, hz, hl, hn, h63', h48', Question.forced, hf1, ho1, newRow, grownCap]
  rfl

/-- What an append needs of its second operand: its cells, whatever has been drawn, and how its three ways run. -/
structure AppRuns (P : Program) (w : World) (t u ty e : TypeId) (i : TypeInfo) (z : Value) (j : Nat) (X : Value) (new : Array Value) : Prop where
  room : ∀ (a : Addr) (k cc : Nat) (w' : World), k + j ≤ cc → (storeCells (a.add (k * i.size)) new.toList).run P w = .ok () w' → (Builtin.append_ #[t, u] ty #[.slice (some a) k cc, X]).run P w = .ok (.slice (some a) (k + j) cc) w'
  none' : j = 0 → (Builtin.append_ #[t, u] ty #[.slice none 0 0, X]).run P w = .ok (.slice none 0 0) w
  grow : ∀ (base : Option Addr) (k cc : Nat) (old : Array Value), (∀ d, (Builtin.firstCells i.size k (.slice base k cc)).run P { w with drawn := d } = .ok old { w with drawn := d }) → cc < k + j → (k + j) * i.bytes ≤ 140737488355328 → k + j ≤ 9223372036854775807 →
    (Builtin.append_ #[t, u] ty #[.slice base k cc, X]).run P w = .ok (.slice (some ⟨w.heap.size, 0, none⟩) (k + j) (grownCap w (k + j) cc e))
        { w with heap := w.heap.push (.cells (old ++ new ++ Builtin.zeroCells z.cells (grownCap w (k + j) cc e - (k + j))) e (0, 0)), drawn := w.drawn + 1 }

theorem size_zeroCells' (z : Array Value) (n : Nat) : (Builtin.zeroCells z n).size = n * z.size := by simp [Builtin.zeroCells]

theorem Gives.grown {t u ty e : TypeId} {i : TypeInfo} {z : Value} {j : Nat} {X : Value} {newv : Array Value} (hm : MemRel B fl0 w0 ρ m w) {n : Nat} (hn : ρ n = none) (hfl : fl0 ≤ n) {base : Option Addr} {k cc : Nat} {oldv : Array Value}
    (hr : (Builtin.append_ #[t, u] ty #[.slice base k cc, X]).run P w = .ok (.slice (some ⟨w.heap.size, 0, none⟩) (k + j) (grownCap w (k + j) cc e))
        { w with heap := w.heap.push (.cells (oldv ++ newv ++ Builtin.zeroCells z.cells (grownCap w (k + j) cc e - (k + j))) e (0, 0)), drawn := w.drawn + 1 })
    {old new : List SV} (ho : All2 (SV.rel ρ) old oldv.toList) (hnw : All2 (SV.rel ρ) new newv.toList) (hol : old.length = k * i.size) (hnl : new.length = j * i.size) (hz : z.cells.size = i.size) (h63 : k + j ≤ 9223372036854775807) (dead : Option Nat) :
    Gives P B fl0 w0 ρ n (n + 1) (Builtin.append_ #[t, u] ty #[.slice base k cc, X]) (.sc (.sl n 0 (k + j) (k + j) i.size)) ((match dead with | some d => m.upd d none | none => m).set n (old ++ new)) w := by
  have hge := grownCap_ge w (k + j) cc e
  have hmax : grownCap w (k + j) cc e ≤ maxLen := grownCap_le_maxLen w (k + j) cc e (by unfold maxLen; omega)
  have hm' : MemRel B fl0 w0 ρ (match dead with | some d => m.upd d none | none => m) w := by
    cases dead with
    | none => exact hm
    | some d => exact hm.kill d
  have hov := ho.length
  have hnv := hnw.length
  simp only [Array.length_toList] at hov hnv
  have hsz : (oldv ++ newv ++ Builtin.zeroCells z.cells (grownCap w (k + j) cc e - (k + j))).size = grownCap w (k + j) cc e * i.size := by
    rw [Array.size_append, Array.size_append, size_zeroCells', hz, ← hov, ← hnv, hol, hnl, ← Nat.add_mul, ← Nat.add_mul]
    congr 1; omega
  have hlen : (old ++ new).length = oldv.size + newv.size := by rw [List.length_append]; omega
  refine Gives.newSl hm' hn hfl ⟨w.drawn + 1, hr⟩ ?_ ?_ (Nat.le_refl _) hge hmax (Nat.le_of_eq hsz.symm)
  · rw [hlen, Array.size_append, Array.size_append]; omega
  · rw [Array.toList_append, Array.toList_append, List.take_append_of_le_length (by simp; omega), List.take_of_length_le (by simp; omega)]
    exact ho.append hnw

/-- A BLOCK GOES ON UNDER ANOTHER NUMBER: what an append in place leaves. -/
theorem MemRel.moved (h : MemRel B fl0 w0 ρ m w) {i n : Nat} {l l' : List SV} {p : Pl} (hfl : fl0 ≤ i) (hi : m.get i = some l) (hp : ρ i = some p) (hn : ρ n = none) (hn0 : fl0 ≤ n)
    {w' : World} {arr' : Array Value} {T : TypeId} {fz : Nat × Nat} (hT : Turned w w' p.b arr' T fz) (hsz : arr'.size = p.cs) (hlen : p.base + l'.length ≤ p.cs)
    (hfz : ∀ o, o < p.cs → ¬ (fz.1 ≤ o ∧ o < fz.2)) (ha : All2 (SV.rel ρ) l' ((arr'.toList.drop p.base).take l'.length)) : MemRel B fl0 w0 (upR ρ n p) ((m.upd i none).set n l') w' := by
  have hext : Ext ρ (upR ρ n p) := upR_ext hn
  obtain ⟨p', hp', _, hB⟩ := h.mem i l hi
  rw [hp] at hp'; cases hp'
  have hB1 := hB hfl
  have hg : ∀ j lj, ((m.upd i none).set n l').get j = some lj → (j = n ∧ lj = l') ∨ (j ≠ n ∧ j ≠ i ∧ m.get j = some lj) := by
    intro j lj hj
    rw [Tr.get_set] at hj
    by_cases e : j = n
    · rw [if_pos e] at hj; cases hj; exact .inl ⟨e, rfl⟩
    · rw [if_neg e, Tr.get_upd] at hj
      by_cases e2 : j = i
      · rw [if_pos e2] at hj; cases hj
      · rw [if_neg e2] at hj; exact .inr ⟨e, e2, hj⟩
  have hup : ∀ j, j ≠ n → upR ρ n p j = ρ j := fun j hj => by simp [upR, hj]
  constructor
  · exact h.below.trans ⟨hT.os, hT.tape, hT.output, by rw [hT.size]; exact Nat.le_refl _, fun k hk => hT.other k (by omega)⟩
  · exact h.big
  · intro j lj hj
    rcases hg j lj hj with ⟨rfl, rfl⟩ | ⟨h1, h2, h3⟩
    · exact ⟨p, by simp [upR], ⟨arr', T, fz, hT.here, hsz, hlen, ha.mono fun _ _ => SV.rel_ext hext, fun _ => hfz⟩, fun _ => hB1⟩
    · obtain ⟨q, hq, hbq, hBq⟩ := h.mem j lj h3
      exact ⟨q, hext _ _ hq, (hbq.ext hext).world (hT.other _ (fun e => h.sep i j l lj p q hfl (Ne.symm h2) hi h3 hp hq e.symm)), hBq⟩
  · intro a b la lb pa pb ha0 hab ga gb hpa hpb
    rcases hg a la ga with ⟨rfl, rfl⟩ | ⟨a1, a2, a3⟩
    · rcases hg b lb gb with ⟨rfl, rfl⟩ | ⟨b1, b2, b3⟩
      · exact (hab rfl).elim
      · have e1 : pa = p := by simpa [upR] using hpa.symm
        rw [hup b b1] at hpb
        rw [e1]
        exact h.sep i b l lb p pb hfl (Ne.symm b2) hi b3 hp hpb
    · rcases hg b lb gb with ⟨rfl, rfl⟩ | ⟨b1, b2, b3⟩
      · have e1 : pb = p := by simpa [upR] using hpb.symm
        rw [hup a a1] at hpa
        rw [e1]
        exact fun e => h.sep i a l la p pa hfl (Ne.symm a2) hi a3 hp hpa e.symm
      · rw [hup a a1] at hpa
        rw [hup b b1] at hpb
        exact h.sep a b la lb pa pb ha0 hab a3 b3 hpa hpb

theorem gives_append {t u ty fl n n' j k : Nat} {y e : Ty} {s v : AV} {S X : Value} {old new : List SV} {newv : Array Value} {m' : Mem} {i : TypeInfo} {z : Value}
    (hm : MemRel B fl0 w0 ρ m w) (hfl : fl0 ≤ fl) (hn0 : fl0 ≤ n) (hs : s.rel ρ S) (hes : elemsA m s e.size = some (old, k)) (hi : i.size = e.size) (hib : i.bytes = e.bytes) (hz : z.cells.size = e.size)
    (hruns : AppRuns P w t u ty y.elem i z j X newv) (hnew : All2 (SV.rel ρ) new newv.toList) (hnl : new.length = j * e.size)
    (h : appendTo fl e s old new k j m n = some (v, m', n')) (hfresh : ∀ q, n ≤ q → q < n' → ρ q = none) :
    Gives P B fl0 w0 ρ n n' (Builtin.append_ #[t, u] ty #[S, X]) v m' w := by
  obtain ⟨hlS, hol, hfS, _⟩ := run_elems (P := P) hm hes hs
  obtain ⟨oldv, hoc, hor⟩ := hfS k (Nat.le_refl _)
  rw [List.take_of_length_le (by omega)] at hor
  unfold appendTo at h
  split at h
  · cases h
  · rename_i hb
    simp only [not_or, gt_iff_lt, Nat.not_lt] at hb
    obtain ⟨hb1, hb2⟩ := hb
    split at h
    · rename_i id o kk c es
      -- the slice's own facts
      unfold elemsA at hes
      simp only at hes
      split at hes
      · cases hes
      · rename_i hee
        simp only [ne_eq, Decidable.not_not] at hee
        subst hee
        split at hes
        · rename_i cs hcs
          split at hes
          · rename_i hlen
            simp only [Option.some.injEq, Prod.mk.injEq] at hes
            obtain ⟨rfl, rfl⟩ := hes
            obtain ⟨p, cc, hp, hnc, hcc, hmax, hfit, rfl⟩ := hs
            split at h
            · cases h
            · rename_i hlow
              have hidfl : fl0 ≤ id := by omega
              split at h
              · rename_i hroom
                rw [hcs] at h
                simp only at h
                split at h
                · rename_i hcl
                  simp only [Option.some.injEq, Prod.mk.injEq] at h
                  obtain ⟨rfl, rfl, rfl⟩ := h
                  have hmul : (kk + j) * e.size ≤ c * e.size := Nat.mul_le_mul_right _ hroom
                  rw [Nat.add_mul] at hmul
                  obtain ⟨w', hst, hm'⟩ := hm.storeAt (P := P) (o := o + kk * e.size) hidfl hcs hp (by omega) hnew
                  have hr := hruns.room ⟨p.b, p.base + o, none⟩ kk cc w' (by omega) (by rw [Addr.add_mid, hi, Nat.add_assoc]; exact hst)
                  exact ⟨_, w', ρ, hr, Ext.refl _, fun _ h => .inl h, hm', p, cc, hp, hroom, hcc, hmax, hfit, rfl⟩
                · cases h
              · rename_i hroom
                split at h
                · cases h
                · rename_i ho0
                  simp only [ne_eq, Decidable.not_not] at ho0
                  subst ho0
                  simp only [Option.some.injEq, Prod.mk.injEq] at h
                  obtain ⟨rfl, rfl, rfl⟩ := h
                  have hnone : ρ n = none := hfresh n (Nat.le_refl _) (Nat.lt_succ_self _)
                  by_cases hcap : kk + j ≤ cc
                  · obtain ⟨q, hq, hbk, _⟩ := hm.mem id cs hcs
                    rw [hp] at hq; cases hq
                    obtain ⟨arr, T, fz, h1, h2, h3, h4, h5⟩ := hbk.at_
                    have h5 := h5 (by simpa using hidfl)
                    have hnv := hnew.length
                    have hmul : (kk + j) * e.size ≤ cc * e.size := Nat.mul_le_mul_right _ hcap
                    rw [Nat.add_mul] at hmul
                    have hnv' : newv.size = j * e.size := by rw [← Array.length_toList, ← hnv, hnl]
                    have hone : ∀ v ∈ newv.toList, v.oneCell' = true := by
                      intro v hvm
                      obtain ⟨q, hq, eq⟩ := List.getElem_of_mem hvm
                      obtain ⟨yv, hyv, hrr⟩ := hnew.get q _ (List.getElem?_eq_getElem (by omega : q < new.length))
                      rw [List.getElem?_eq_getElem hq] at hyv
                      cases hyv
                      rw [← eq]; exact SV.rel_oneCell hrr
                    obtain ⟨w', arr', hst, hT, harr⟩ := run_storeCells_arr (P := P) p.b (p.base + kk * e.size) T fz newv.toList 0 arr w h1 (by omega) (fun q _ hq => h5 q (by omega)) hone
                    simp only [Nat.add_zero] at harr
                    have hsz : arr'.size = p.cs := by
                      rw [← h2, ← Array.length_toList, harr]
                      simp [spl]; omega
                    have hr := hruns.room ⟨p.b, p.base + 0, none⟩ kk cc w' hcap (by rw [Addr.add_mid, hi, Nat.add_zero]; exact hst)
                    have hlen' : (List.take (kk * e.size) (List.drop 0 cs) ++ new).length = kk * e.size + j * e.size := by simp; omega
                    refine ⟨_, w', upR ρ n p, hr, upR_ext hnone, upR_dom (Nat.lt_succ_self n), hm.moved hidfl hcs hp hnone hn0 hT hsz (by rw [hlen']; omega) h5 ?_, p, cc, by simp [upR], Nat.le_refl _, hcap, hmax, by simpa using hfit, rfl⟩
                    rw [hlen', harr, spl_drop _ _ _ _ (by simp; omega), spl_take _ _ _ _ (by omega) (by simp; omega)]
                    unfold spl
                    have hd0 : List.drop (kk * e.size + newv.toList.length) (List.take (kk * e.size + j * e.size) (List.drop p.base arr.toList)) = [] := List.drop_eq_nil_of_le (by rw [List.length_take, Array.length_toList]; omega)
                    rw [List.take_take, Nat.min_eq_left (by omega), hd0, List.append_nil]
                    refine All2.append ?_ hnew
                    have := h4.take (kk * e.size)
                    rw [List.take_take, Nat.min_eq_left (by omega)] at this
                    simpa using this
                  · have hr := hruns.grow (some ⟨p.b, p.base + 0, none⟩) kk cc oldv (by rw [hi]; exact hoc) (by omega) (by rw [hib]; exact hb1) hb2
                    have := Gives.grown hm hnone hn0 hr hor hnew (by rw [hi]; exact hol) (by rw [hi]; exact hnl) (by rw [hi]; exact hz) hb2 (some id)
                    rw [hi] at this
                    exact this
          · cases hes
        · cases hes
    · simp only [elemsA, Option.some.injEq, Prod.mk.injEq] at hes
      obtain ⟨rfl, rfl⟩ := hes
      obtain rfl := hs
      split at h
      · rename_i hj
        simp only [Option.some.injEq, Prod.mk.injEq] at h
        obtain ⟨rfl, rfl, rfl⟩ := h
        exact Gives.pure hm (hruns.none' hj) rfl
      · rename_i hj
        simp only [Option.some.injEq, Prod.mk.injEq] at h
        obtain ⟨rfl, rfl, rfl⟩ := h
        have hnone : ρ n = none := hfresh n (Nat.le_refl _) (Nat.lt_succ_self _)
        have hr := hruns.grow none 0 0 oldv (by rw [hi]; exact hoc) (by omega) (by rw [hib]; exact hb1) hb2
        have := Gives.grown hm hnone hn0 hr hor hnew (by simp) (by rw [hi]; exact hnl) (by rw [hi]; exact hz) hb2 none
        rw [hi] at this
        simpa using this
    · cases h

theorem appRuns_slice {t ty e es : Nat} {i : TypeInfo} {z : Value} (hd : P.underlying t = some (.slice e)) (hi : P.info? e = some i) (hz : i.zero = some z) (hm : MemRel B fl0 w0 ρ m w) {x : AV} {X : Value} {j : Nat} {new : List SV}
    (h : elemsA m x es = some (new, j)) (hx : x.rel ρ X) (hes : i.size = es) : ∃ newv : Array Value, AppRuns P w t t ty e i z j X newv ∧ All2 (SV.rel ρ) new newv.toList ∧ new.length = j * es := by
  obtain ⟨hl, hlen, hf, _⟩ := run_elems (P := P) hm h hx
  obtain ⟨newv, hc, hr⟩ := hf j (Nat.le_refl _)
  rw [List.take_of_length_le (by omega)] at hr
  subst hes
  have hc0 : (Builtin.firstCells i.size j X).run P w = .ok newv w := hc w.drawn
  refine ⟨newv, ⟨fun a k cc w' hle hst => run_append_room' hd hi hl hc0 hle hst, fun h0 => ?_, fun base k cc old hold hgt hb h63 => run_append_grow' hd hi hz hl hc hold hgt hb h63⟩, hr, hlen⟩
  subst h0
  exact run_append_none' hd hi hl hc0

theorem zeroCells_list (z : Array Value) (n : Nat) (hz : 0 < z.size) : (Builtin.zeroCells z n).toList = (List.replicate n z.toList).flatten := range_mod z hz n

theorem appRuns_zeros {t u ty e : Nat} {k k' : IntKind} {i : TypeInfo} {z : Value} (hd : P.underlying t = some (.slice e)) (hu : P.underlying u = some (.int k)) (hi : P.info? e = some i) (hz : i.zero = some z) (hpos : i.size ≠ 0)
    {j : Nat} (hj : (j : Int) ≤ 9223372036854775807) (hjb : j * i.bytes ≤ 281474976710656) : AppRuns P w t u ty e i z j (.int k' j) (Builtin.zeroCells z.cells j) := by
  have hw : IntKind.i64.wrap (j : Int) = j := IntWalk.i64_in _ ⟨by omega, by omega⟩
  have hb' : ¬ (281474976710656 : Int) < (j : Int) * (i.bytes : Int) := by
    have : ((j * i.bytes : Nat) : Int) = (j : Int) * (i.bytes : Int) := by simp
    omega
  have hj0 : ¬ (j : Int) < 0 := by omega
  have hz0 : j * i.size = 0 → Builtin.zeroCells z.cells j = #[] := by
    intro h
    rcases Nat.mul_eq_zero.1 h with h | h
    · subst h; simp [Builtin.zeroCells, Array.range]
    · exact (hpos h).elim
  have happ : ∀ W : World, ((if j * i.size = 0 then pure #[] else do pure (Builtin.zeroCells (← zeroValue e).cells j)) : Sem (Array Value)).run P W = .ok (Builtin.zeroCells z.cells j) W := by
    intro W
    split
    · rename_i h; rw [hz0 h]; simp
    · simp [zeroValue_run hi hz]
  refine ⟨fun a k cc w' hle hst => ?_, fun h0 => ?_, fun base k cc old hold hgt hb h63 => ?_⟩
  · by_cases h0 : j * i.size = 0
    · rw [hz0 h0] at hst
      simp [Builtin.append_, run_underlying hd, run_underlying hu, sizeOf, typeInfo, hi, asInt, asIntOf, hw, hb', hj0, hle, h0, hst]
    · simp [Builtin.append_, run_underlying hd, run_underlying hu, sizeOf, typeInfo, hi, asInt, asIntOf, hw, hb', hj0, hle, h0, zeroValue, hz, hst]
  · subst h0
    have hw0 : IntKind.i64.wrap 0 = 0 := by decide
    simp [Builtin.append_, run_underlying hd, run_underlying hu, sizeOf, typeInfo, hi, asInt, asIntOf, hw0]
  · have hn : ¬ (k + j ≤ cc) := by omega
    have h63' : ¬ (9223372036854775807 < ((k : Int) + (j : Int))) := by omega
    have h48' : ¬ (281474976710656 < Builtin.nextslicecap (k + j) cc * i.bytes) := by have := growslice_fits hgt hb; omega
    have ho1 : (Builtin.firstCells i.size k (.slice base k cc)).run P w.drew = .ok old w.drew := hold (w.drawn + 1)
    by_cases h0 : j * i.size = 0
    · simp [Builtin.append_, run_underlying hd, run_underlying hu, sizeOf, typeInfo, zeroValue, hi, hz, hn, h63', h48', Question.forced, asInt, asIntOf, hw, hb', hj0, hz0 h0, h0, ho1, newRow, grownCap]
      rfl
    · simp [Builtin.append_, run_underlying hd, run_underlying hu, sizeOf, typeInfo, zeroValue, hi, hz, hn, h63', h48', Question.forced, asInt, asIntOf, hw, hb', hj0, h0, ho1, newRow, grownCap]
      rfl

theorem gives_copy {E : Env} (hty : ∀ t y, E.ty t = some y → TyOk P t y) {t ty fl n n' : Nat} {d s v : AV} {D S : Value} {m' : Mem} (hm : MemRel B fl0 w0 ρ m w) (hfl : fl0 ≤ fl) (hd : d.rel ρ D) (hs : s.rel ρ S)
    (h : copyA E fl t d s m n = some (v, m', n')) : Gives P B fl0 w0 ρ n n' (Builtin.copy_ #[t, t] ty #[D, S]) v m' w := by
  unfold copyA at h
  split at h
  · cases h
  · rename_i y hy
    split at h
    · cases h
    · rename_i hk
      simp only [ne_eq, Decidable.not_not] at hk
      split at h
      · cases h
      · rename_i e he
        split at h
        · rename_i k new j hed hes
          obtain ⟨i, du, z, hi, hdu, hz, hsz, hby, hcs, hzr, k1, k2, k3, k4, k5, k7, k6, kn⟩ := (hty t y hy).info
          obtain ⟨ie, _, ze, hie, _, hze, hies, hieb, hiec, hier, _⟩ := (hty _ e he).info
          rw [k4 hk] at hdu
          obtain ⟨hlS, hlenS, hfS, aS, nS, cS, rfl⟩ := run_elems (P := P) hm hes hs
          simp only at h
          split at h
          · rename_i id o kk c es
            obtain ⟨hlD, _, _, _⟩ := run_elems (P := P) hm hed hd
            unfold elemsA at hed
            simp only at hed
            split at hed
            · cases hed
            · rename_i hee
              simp only [ne_eq, Decidable.not_not] at hee
              subst hee
              split at hed
              · rename_i cs hcs'
                split at hed
                · simp only [Option.some.injEq, Prod.mk.injEq] at hed
                  obtain ⟨_, rfl⟩ := hed
                  split at h
                  · cases h
                  · rename_i hlow
                    rw [hcs'] at h
                    simp only at h
                    by_cases hlen : o + kk * e.size ≤ cs.length
                    · rw [if_pos hlen] at h
                      simp only [Option.some.injEq, Prod.mk.injEq] at h
                      obtain ⟨rfl, rfl, rfl⟩ := h
                      obtain ⟨p, cc, hp, hnc, hcc, hmax, hfit, rfl⟩ := hd
                      obtain ⟨vals, hcv, hrv⟩ := hfS (min j kk) (Nat.min_le_left _ _)
                      have hq : (min j kk) * e.size ≤ kk * e.size := Nat.mul_le_mul_right _ (Nat.min_le_right _ _)
                      obtain ⟨w', hst, hm'⟩ := hm.storeAt (P := P) (o := o) (by omega) hcs' hp (by simp only [List.length_take]; omega) hrv
                      have hcv0 : (Builtin.firstCells e.size (min j kk) (.slice aS nS cS)).run P w = .ok vals w := hcv w.drawn
                      refine ⟨.int .i64 (min j kk : Nat), w', ρ, ?_, Ext.refl _, fun _ h => .inl h, hm', rfl⟩
                      have hmn : Nat.min j kk = min j kk := rfl
                      simp [Builtin.copy_, run_underlying hdu, hlS, sizeOf_run hie, hies, hmn, hcv0, hst, goInt]
                    · rw [if_neg hlen] at h; cases h
                · cases hed
              · cases hed
          · rename_i hns
            simp only [Option.some.injEq, Prod.mk.injEq] at h
            obtain ⟨rfl, rfl, rfl⟩ := h
            obtain ⟨vals, hcv, hrv⟩ := hfS 0 (Nat.zero_le _)
            have hcv0 : (Builtin.firstCells e.size 0 (.slice aS nS cS)).run P w = .ok vals w := hcv w.drawn
            have hv0 : vals.toList = [] := by
              have := hrv.length
              simp at this
              rw [← List.length_eq_zero_iff, Array.length_toList]; omega
            have hD : ∃ a c, D = .slice a 0 c := by
              cases d with
              | un => simp [elemsA] at hed
              | agg l => simp [elemsA] at hed
              | tup l => simp [elemsA] at hed
              | sc q =>
                cases q <;> simp [elemsA] at hed
                · exact (hns _ _ _ _ _ rfl).elim
                · obtain rfl := hd; exact ⟨_, _, rfl⟩
                · obtain ⟨a, c, rfl⟩ := hd; exact ⟨_, _, rfl⟩
            obtain ⟨a, c, rfl⟩ := hD
            refine Gives.pure hm (val := .int .i64 0) ?_ rfl
            cases a with
            | none => simp [Builtin.copy_, run_underlying hdu, hlS, sizeOf_run hie, hies, hcv0, goInt]
            | some a => simp [Builtin.copy_, run_underlying hdu, hlS, sizeOf_run hie, hies, hcv0, goInt, hv0, storeCells]
        · cases h

theorem gives_clear {E : Env} (hty : ∀ t y, E.ty t = some y → TyOk P t y) {t ty fl n n' : Nat} {x v : AV} {X : Value} {m' : Mem} (hm : MemRel B fl0 w0 ρ m w) (hfl : fl0 ≤ fl) (hx : x.rel ρ X)
    (h : clearA E fl t x m n = some (v, m', n')) : Gives P B fl0 w0 ρ n n' (Builtin.clear_ #[t] ty #[X]) v m' w := by
  unfold clearA at h
  split at h
  · cases h
  · rename_i y hy
    split at h
    · cases h
    · rename_i hk
      simp only [ne_eq, Decidable.not_not] at hk
      split at h
      · cases h
      · rename_i e he
        obtain ⟨i, du, z, hi, hdu, hz, hsz, hby, hcs, hzr, k1, k2, k3, k4, k5, k7, k6, kn⟩ := (hty t y hy).info
        obtain ⟨ie, _, ze, hie, _, hze, hies, hieb, hiec, hier, _⟩ := (hty _ e he).info
        rw [k4 hk] at hdu
        split at h
        · cases h
        · rename_i hzl
          simp only [ne_eq, Decidable.not_not] at hzl
          split at h
          · rename_i id o kk c es
            split at h
            · cases h
            · rename_i hlow
              simp only [not_or, ne_eq, Decidable.not_not, Nat.not_lt] at hlow
              obtain ⟨rfl, hlow⟩ := hlow
              split at h
              · rename_i cs hcs'
                split at h
                · rename_i hlen
                  simp only [Option.some.injEq, Prod.mk.injEq] at h
                  obtain ⟨rfl, rfl, rfl⟩ := h
                  obtain ⟨p, cc, hp, hnc, hcc, hmax, hfit, rfl⟩ := hx
                  by_cases h0 : kk = 0
                  · subst h0
                    have : splice cs o (List.replicate 0 e.zero).flatten = cs := by simp [splice]
                    rw [this]
                    have hsame : ∀ q, (m.set id cs).get q = m.get q := by
                      intro q; rw [Tr.get_set]; split
                      · rename_i e1; rw [e1, hcs']
                      · rfl
                    refine ⟨.tuple #[], w, ρ, by simp [Builtin.clear_, run_underlying hdu], Ext.refl _, fun _ h => .inl h, ⟨hm.below, hm.big, fun q l hq => hm.mem q l (by rwa [hsame] at hq), fun a b la lb pa pb h1 h2 h3 h4 => hm.sep a b la lb pa pb h1 h2 (by rwa [hsame] at h3) (by rwa [hsame] at h4)⟩, ⟨#[], rfl, trivial⟩⟩
                  · have hpos : e.size ≠ 0 ∨ e.size = 0 := by omega
                    have hzl' : ze.cells.toList.length = e.size := by simpa using hiec
                    have hval : All2 (SV.rel ρ) (List.replicate kk e.zero).flatten (Builtin.zeroCells ze.cells kk).toList := by
                      rcases Nat.eq_zero_or_pos e.size with h | h
                      · have e1 : e.zero = [] := by rw [← List.length_eq_zero_iff]; omega
                        have e2 : (Builtin.zeroCells ze.cells kk).toList = [] := by
                          rw [← List.length_eq_zero_iff, Array.length_toList, size_zeroCells', hiec, h, Nat.mul_zero]
                        rw [e1, e2]; simp [All2]
                      · rw [zeroCells_list _ _ (by omega)]
                        exact All2.flatten (All2.replicate (hier ρ) kk)
                    obtain ⟨w', hst, hm'⟩ := hm.storeAt (P := P) (o := o) (by omega) hcs' hp (by simp [hzl]; omega) hval
                    obtain ⟨q, rfl⟩ : ∃ q, kk = q + 1 := ⟨kk - 1, by omega⟩
                    refine ⟨.tuple #[], w', ρ, ?_, Ext.refl _, fun _ h => .inl h, hm', ⟨#[], rfl, trivial⟩⟩
                    simp [Builtin.clear_, run_underlying hdu, zeroValue_run hie hze, hst]
                · cases h
              · cases h
          · simp only [Option.some.injEq, Prod.mk.injEq] at h
            obtain ⟨rfl, rfl, rfl⟩ := h
            obtain rfl := hx
            exact Gives.pure hm (by simp [Builtin.clear_, run_underlying hdu]) ⟨#[], rfl, trivial⟩
          · simp only [Option.some.injEq, Prod.mk.injEq] at h
            obtain ⟨rfl, rfl, rfl⟩ := h
            obtain ⟨a, c, rfl⟩ := hx
            exact Gives.pure hm (by simp [Builtin.clear_, run_underlying hdu]) ⟨#[], rfl, trivial⟩
          · cases h

theorem run_foldMax {ty : Nat} (mx : Bool) : ∀ (r : List AV) (vs : List Value) (x v : AV) (X : Value), foldMax mx x r = some v → x.rel ρ X → All2 (AV.rel ρ) r vs →
    ∃ val, (vs.foldlM (if mx then Builtin.max2 else Builtin.min2) X).run P w = .ok val w ∧ v.rel ρ val
  | [], [], x, v, X, h, hx, _ => by simp [foldMax] at h; subst h; exact ⟨X, by simp, hx⟩
  | y :: r, Y :: vs, x, v, X, h, hx, hr => by
    simp only [foldMax] at h
    split at h
    · rename_i z hz
      unfold max2 at hz
      split at hz
      · rename_i k a k' b
        cases hz
        obtain rfl := hx
        obtain rfl := hr.1
        obtain ⟨val, h1, h2⟩ := run_foldMax (ty := ty) mx r vs _ v (.int k (if mx then (if b > a then b else a) else (if b < a then b else a))) h rfl hr.2
        refine ⟨val, ?_, h2⟩
        cases mx <;> simpa [List.foldlM_cons, Builtin.max2, Builtin.min2] using h1
      · cases hz
    · cases h
  | [], _ :: _, _, _, _, _, _, hr => hr.elim
  | _ :: _, [], _, _, _, _, _, hr => hr.elim

end rows
end Go.Am

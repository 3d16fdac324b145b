/- The abstract machine's operations that make memory, and the slices' own. -/
import Derived.Test.YtcjdiakgckhkdaaAm4
namespace Go.Am
open Go.RowKit

section makes
variable {P : Program}

theorem zipIdx_fold (off : Nat) : ∀ (vs : List Value) (k : Nat) (arr : Array Value), off + k + vs.length ≤ arr.size →
    ((vs.zipIdx k).foldl (fun (cs : Array Value) (x : Value × Nat) => cs.setIfInBounds (off + x.2) x.1) arr).toList = spl arr.toList (off + k) vs
  | [], k, arr, _ => by simp [spl_nil]
  | v :: r, k, arr, h => by
    simp only [List.length_cons] at h
    simp only [List.zipIdx_cons, List.foldl_cons]
    rw [zipIdx_fold off r (k + 1) _ (by simp; omega), Array.toList_setIfInBounds, show off + (k + 1) = off + k + 1 from by omega]
    exact spl_cons _ _ _ _ (by simp; omega)

theorem fill_rel {ρ : Rho} (place : Nat → Option (Nat × Nat)) : ∀ (parts : List (Nat × AV)) (vals : List (Nat × Value)) (cells out : List SV) (arr : Array Value),
    All2 (fun a b => a.1 = b.1 ∧ a.2.rel ρ b.2) parts vals → All2 (SV.rel ρ) cells arr.toList → fillA place cells parts = some out →
    ∃ arr', Instr.fill place arr vals = some arr' ∧ All2 (SV.rel ρ) out arr'.toList ∧ out.length = cells.length
  | [], [], cells, out, arr, _, hc, h => by simp [fillA] at h; subst h; exact ⟨arr, rfl, hc, rfl⟩
  | (i, v) :: r, (j, V) :: r', cells, out, arr, hp, hc, h => by
    obtain ⟨⟨e, hv⟩, hr⟩ := hp
    simp only at e hv
    subst e
    simp only [fillA] at h
    split at h
    · rename_i off size vc hpl hvc
      split at h
      · cases h
      · rename_i hb
        simp only [not_or, Nat.not_lt] at hb
        have hrel := AV.cells_rel hv hvc
        have hlen := hrel.length
        have hcl := hc.length
        simp only [Array.length_toList] at hlen hcl
        have hlist : ((V.cells.zipIdx.foldl (fun cs (c, j) => cs.setIfInBounds (off + j) c) arr : Array Value)).toList = spl arr.toList off V.cells.toList := by
          have := zipIdx_fold off V.cells.toList 0 arr (by simp; omega)
          simp only [Nat.add_zero] at this
          rw [← this, ← Array.foldl_toList]
          simp
        obtain ⟨arr', h1, h2, h3⟩ := fill_rel place r r' _ out (V.cells.zipIdx.foldl (fun cs (c, j) => cs.setIfInBounds (off + j) c) arr) hr (by rw [hlist]; exact hc.splice off hrel) h
        refine ⟨arr', ?_, h2, ?_⟩
        · simp only [Instr.fill, hpl]
          rw [if_neg (by simp; omega)]
          exact h1
        · rw [h3, splice_length _ _ _ (by omega)]
    · cases h
  | [], _ :: _, _, _, _, hp, _, _ => hp.elim
  | _ :: _, [], _, _, _, hp, _, _ => hp.elim

theorem range_mod (z : Array Value) (hz : 0 < z.size) : ∀ n, ((Array.range (n * z.size)).map (fun i => z[i % z.size]!)).toList = (List.replicate n z.toList).flatten
  | 0 => by simp
  | n + 1 => by
    have ih := range_mod z hz n
    simp only [Array.toList_map, Array.toList_range] at ih ⊢
    rw [List.replicate_succ', List.flatten_append, ← ih, Nat.succ_mul, List.range_add, List.map_append, List.map_map]
    congr 1
    simp only [List.flatten_cons, List.flatten_nil, List.append_nil]
    apply List.ext_getElem
    · simp
    · intro i h1 h2
      simp at h1 h2 ⊢
      rw [Nat.mod_eq_of_lt h1, getElem!_pos z i h1]

/-- A NEW BLOCK, by newRow. -/
theorem run_newRow (e : TypeId) (arr : Array Value) (w : World) : (newRow e arr).run P w = .ok ⟨w.heap.size, 0, none⟩ { w with heap := w.heap.push (.cells arr e (0, 0)) } := by
  simp [newRow, newObj, Sem.run]

/-- A run that gives a value, and the state goes on. -/
def Gives (P : Program) (B fl0 : Nat) (w0 : World) (ρ : Rho) (n n' : Nat) (e : Sem Value) (v : AV) (m' : Mem) (w : World) : Prop :=
  ∃ val w' ρ', e.run P w = .ok val w' ∧ Ext ρ ρ' ∧ (∀ i, ρ' i ≠ none → ρ i ≠ none ∨ (n ≤ i ∧ i < n')) ∧ MemRel B fl0 w0 ρ' m' w' ∧ v.rel ρ' val

variable {B fl0 : Nat} {w0 : World} {ρ : Rho} {m : Mem} {w : World}

theorem Gives.pure {n n' : Nat} {e : Sem Value} {v : AV} {val : Value} (hm : MemRel B fl0 w0 ρ m w) (h : e.run P w = .ok val w) (hv : v.rel ρ val) : Gives P B fl0 w0 ρ n n' e v m w :=
  ⟨val, w, ρ, h, Ext.refl _, fun _ h => .inl h, hm, hv⟩

theorem upR_dom {n n' : Nat} {p : Pl} (h : n < n') : ∀ i, upR ρ n p i ≠ none → ρ i ≠ none ∨ (n ≤ i ∧ i < n') := by
  intro i hi
  unfold upR at hi
  by_cases e : i = n
  · exact .inr ⟨by omega, by omega⟩
  · rw [if_neg e] at hi; exact .inl hi

/-- What a new block's pointer, or slice, is. -/
theorem Gives.newPtr {n : Nat} {e : Sem Value} {l : List SV} {arr : Array Value} {T : TypeId} (hm : MemRel B fl0 w0 ρ m w) (hn : ρ n = none) (hfl : fl0 ≤ n)
    (hr : e.run P w = .ok (.pointer (some ⟨w.heap.size, 0, none⟩)) { w with heap := w.heap.push (.cells arr T (0, 0)) }) (ha : All2 (SV.rel ρ) l arr.toList) :
    Gives P B fl0 w0 ρ n (n + 1) e (.sc (.ptr n 0)) (m.set n l) w := by
  have hl : l.length = arr.size := by simpa using ha.length
  refine ⟨_, _, upR ρ n ⟨w.heap.size, 0, arr.size⟩, hr, upR_ext hn, upR_dom (Nat.lt_succ_self n), hm.new hn hfl l arr T (by omega) ?_, ⟨⟨w.heap.size, 0, arr.size⟩, by simp [upR], by simp⟩⟩
  rw [List.take_of_length_le (by simp; omega)]
  exact ha

theorem Gives.newSl {n : Nat} {e : Sem Value} {l : List SV} {arr : Array Value} {T : TypeId} {len c cc es : Nat} (hm : MemRel B fl0 w0 ρ m w) (hn : ρ n = none) (hfl : fl0 ≤ n)
    (hr : ∃ d, e.run P w = .ok (.slice (some ⟨w.heap.size, 0, none⟩) len cc) { w with heap := w.heap.push (.cells arr T (0, 0)), drawn := d }) (hl : l.length ≤ arr.size) (ha : All2 (SV.rel ρ) l (arr.toList.take l.length))
    (h1 : len ≤ c) (h2 : c ≤ cc) (h3 : cc ≤ maxLen) (h4 : cc * es ≤ arr.size) :
    Gives P B fl0 w0 ρ n (n + 1) e (.sc (.sl n 0 len c es)) (m.set n l) w := by
  obtain ⟨d, hr⟩ := hr
  exact ⟨_, _, upR ρ n ⟨w.heap.size, 0, arr.size⟩, hr, upR_ext hn, upR_dom (Nat.lt_succ_self n), (hm.new hn hfl l arr T hl ha).drewn d,
    ⟨⟨w.heap.size, 0, arr.size⟩, cc, by simp [upR], h1, h2, h3, by simpa using h4, by simp⟩⟩

theorem zeroValue_run {t : TypeId} {i : TypeInfo} {z : Value} (hi : P.info? t = some i) (hz : i.zero = some z) (w : World) : (zeroValue t).run P w = .ok z w := by
  simp [zeroValue, typeInfo, hi, hz]

theorem sizeOf_run {t : TypeId} {i : TypeInfo} (hi : P.info? t = some i) (w : World) : (sizeOf t).run P w = .ok i.size w := by
  simp [sizeOf, typeInfo, hi]

variable {E : Env} (hty : ∀ t y, E.ty t = some y → TyOk P t y)
include hty

theorem gives_alloc {t n : Nat} {y : Ty} (hm : MemRel B fl0 w0 ρ m w) (hy : E.ty t = some y) (hn : ρ n = none) (hfl : fl0 ≤ n) :
    Gives P B fl0 w0 ρ n (n + 1) (Instr.alloc t true (.tuple #[])) (.sc (.ptr n 0)) (m.set n y.zero) w := by
  obtain ⟨i, d, z, hi, hd, hz, hsz, hby, hcs, hzr, _⟩ := (hty t y hy).info
  refine Gives.newPtr (T := t) hm hn hfl ?_ (hzr ρ)
  simp [Instr.alloc, zeroValue_run hi hz, newVar, run_newRow]

omit hty in
theorem gives_box {t n : Nat} {x : AV} {X : Value} {cs : List SV} (hm : MemRel B fl0 w0 ρ m w) (hx : x.rel ρ X) (hc : x.cells? = some cs) (hn : ρ n = none) (hfl : fl0 ≤ n) :
    Gives P B fl0 w0 ρ n (n + 1) (Instr.box t X) (.sc (.ptr n 0)) (m.set n cs) w := by
  refine Gives.newPtr (T := t) hm hn hfl ?_ (AV.cells_rel hx hc)
  simp [Instr.box, newVar, run_newRow]

theorem run_build6 {t : Nat} {y : Ty} {ps : List (Nat × AV)} {vals : Array (Nat × Value)} {c : List SV} (hy : E.ty t = some y) (hk : y.kind = 6)
    (hp : All2 (fun a b => a.1 = b.1 ∧ a.2.rel ρ b.2) ps vals.toList) (h : fillA (fun i => (y.fields[i]?).map fun f => (f.1, f.2.2)) y.zero ps = some c) :
    ∃ val, (Instr.build t vals).run P w = .ok val w ∧ (AV.agg c).rel ρ val := by
  obtain ⟨i, d, z, hi, hd, hz, hsz, hby, hcs, hzr, k1, k2, k3, k4, k5, k7, k6, kn⟩ := (hty t y hy).info
  obtain ⟨fs, rfl, hf, hfs, hst, hgd⟩ := k6 hk
  obtain ⟨arr', h1, h2, _⟩ := fill_rel _ ps vals.toList y.zero c z.cells hp (hzr ρ) h
  have hpl : ∀ l : List Field, (∀ f ∈ l, (P.info? f.type).isSome = true) → (l.mapM fun (f : Field) => (do pure (f.offset, ← sizeOf f.type) : Sem (Nat × Nat))).run P w = .ok (l.map fun f => (f.offset, ((P.info? f.type).map (·.size)).getD 0)) w := by
    intro l
    induction l with
    | nil => intro _; simp
    | cons f l ih =>
      intro hl
      have hf0 := hl f (by simp)
      obtain ⟨j, hj⟩ := Option.isSome_iff_exists.1 hf0
      simp only [List.mapM_cons, Sem.run_bind, sizeOf_run hj, Result.andThen_ok, Sem.run_pure, ih (fun g hg => hl g (by simp [hg]))]
      simp [hj]
  have hpl' : (fs.mapM fun (f : Field) => (do pure (f.offset, ← sizeOf f.type) : Sem (Nat × Nat))).run P w = .ok (fs.map fun f => (f.offset, ((P.info? f.type).map (·.size)).getD 0)) w := by
    have key : ∀ l : List Field, (∀ f ∈ l, (P.info? f.type).isSome = true) → (l.toArray.mapM fun (f : Field) => (do pure (f.offset, ← sizeOf f.type) : Sem (Nat × Nat))).run P w = .ok (l.map fun f => (f.offset, ((P.info? f.type).map (·.size)).getD 0)).toArray w := by
      intro l hl
      rw [List.mapM_toArray, map_eq_pure_bind, Sem.run_bind, hpl l hl]
      rfl
    have := key fs.toList (fun f hm => (hf f hm).1)
    rw [Array.toArray_toList] at this
    rw [this, ← Array.toList_map]
  have hplace : (fun (k : Nat) => (fs.map fun f => (f.offset, ((P.info? f.type).map (·.size)).getD 0))[k]?) = (fun (i : Nat) => (y.fields[i]?).map fun (f : Nat × Nat × Nat) => (f.1, f.2.2)) := by
    funext k
    rw [hfs]
    simp only [List.getElem?_map, Array.getElem?_map, Option.map_map]
    rw [← Array.getElem?_toList]
    rfl
  refine ⟨.agg arr', ?_, ⟨arr', rfl, h2⟩⟩
  rw [← hplace] at h1
  simp only [Instr.build, Sem.run_bind, zeroValue_run hi hz, run_underlying hd, Result.andThen_ok, hpl', h1, Sem.run_pure]

theorem run_build5 {t : Nat} {y e : Ty} {ps : List (Nat × AV)} {vals : Array (Nat × Value)} {c : List SV} (hy : E.ty t = some y) (hk : y.kind = 5) (he : E.ty y.elem = some e)
    (hp : All2 (fun a b => a.1 = b.1 ∧ a.2.rel ρ b.2) ps vals.toList) (h : fillA (fun i => some (i * e.size, e.size)) y.zero ps = some c) :
    ∃ val, (Instr.build t vals).run P w = .ok val w ∧ (AV.agg c).rel ρ val := by
  obtain ⟨i, d, z, hi, hd, hz, hsz, hby, hcs, hzr, k1, k2, k3, k4, k5, k7, k6, kn⟩ := (hty t y hy).info
  obtain ⟨j, _, _, hj, _, _, hjs, _⟩ := (hty _ e he).info
  obtain ⟨arr', h1, h2, _⟩ := fill_rel _ ps vals.toList y.zero c z.cells hp (hzr ρ) h
  refine ⟨.agg arr', ?_, ⟨arr', rfl, h2⟩⟩
  rw [k5 hk] at hd
  simp only [Instr.build, Sem.run_bind, zeroValue_run hi hz, run_underlying hd, Result.andThen_ok, sizeOf_run hj, hjs]
  simp [h1]

theorem gives_buildSlice {t n len : Nat} {y e : Ty} {ps : List (Nat × AV)} {vals : Array (Nat × Value)} {c : List SV} (hm : MemRel B fl0 w0 ρ m w) (hy : E.ty t = some y) (hk : y.kind = 4) (he : E.ty y.elem = some e)
    (h0 : e.size ≠ 0) (hz0 : e.zero.length = e.size) (hlen : len * e.size ≤ 16777216)
    (hp : All2 (fun a b => a.1 = b.1 ∧ a.2.rel ρ b.2) ps vals.toList) (h : fillA (fun i => some (i * e.size, e.size)) ((List.replicate len e.zero).flatten) ps = some c) (hn : ρ n = none) (hfl : fl0 ≤ n) :
    Gives P B fl0 w0 ρ n (n + 1) (Instr.buildSlice t len vals) (.sc (.sl n 0 len len e.size)) (m.set n c) w := by
  obtain ⟨i, d, z, hi, hd, hz, hsz, hby, hcs, hzr, k1, k2, k3, k4, k5, k7, k6, kn⟩ := (hty t y hy).info
  obtain ⟨j, _, zj, hj, _, hzj, hjs, _, hjc, hjr, _⟩ := (hty _ e he).info
  rw [k4 hk] at hd
  have hzero : All2 (SV.rel ρ) ((List.replicate len e.zero).flatten) ((Array.range (len * e.size)).map (fun i => zj.cells[i % zj.cells.size]!)).toList := by
    have hpos : 0 < zj.cells.size := by rw [hjc]; exact Nat.pos_of_ne_zero h0
    have := range_mod zj.cells hpos len
    rw [hjc] at this ⊢
    rw [this]
    exact All2.flatten (All2.replicate (hjr ρ) len)
  obtain ⟨arr', h1, h2, h3⟩ := fill_rel _ ps vals.toList _ c _ hp hzero h
  have hcl : c.length = arr'.size := by simpa using h2.length
  have hl : c.length = len * e.size := by
    rw [h3]; simp [hz0]
  have hpos : 0 < e.size := Nat.pos_of_ne_zero h0
  have hmax : len ≤ maxLen := Nat.le_trans (Nat.le_trans (Nat.le_mul_of_pos_right len hpos) hlen) (by simp [maxLen])
  have hle : ¬ 2 ^ 24 < len * e.size := Nat.not_lt.2 (Nat.le_trans hlen (by simp))
  clear hlen
  have hrun : (Instr.buildSlice t len vals).run P w = .ok (.slice (some ⟨w.heap.size, 0, none⟩) len len) { w with heap := w.heap.push (.cells arr' y.elem (0, 0)) } := by
    by_cases hl0 : len * e.size = 0
    · have : len = 0 := by rcases Nat.mul_eq_zero.1 hl0 with h | h <;> omega
      subst this
      have e0 : ∀ f : Nat → Value, (Array.range 0).map f = #[] := fun f => by simp [Array.range]
      rw [Nat.zero_mul, e0] at h1
      unfold Instr.buildSlice
      simp only [Sem.run_bind, run_underlying hd, sizeOf_run hj, hjs, Result.andThen_ok, gt_iff_lt, Nat.not_lt_zero, if_false, if_true, Sem.run_pure, Nat.zero_mul, e0, h1, run_newRow]
    · unfold Instr.buildSlice
      simp only [Sem.run_bind, run_underlying hd, sizeOf_run hj, hjs, Result.andThen_ok, gt_iff_lt, hle, if_false, hl0, zeroValue_run hj hzj, Sem.run_pure, h1, run_newRow]
  have hc' : All2 (SV.rel ρ) c (arr'.toList.take c.length) := by rw [List.take_of_length_le (by simp; omega)]; exact h2
  exact Gives.newSl hm hn hfl ⟨w.drawn, hrun⟩ (Nat.le_of_eq hcl) hc' (Nat.le_refl _) (Nat.le_refl _) hmax (by omega)

theorem gives_makeSlice {t n n' : Nat} {l c v : AV} {L C : Value} {m' : Mem} (hm : MemRel B fl0 w0 ρ m w) (h : makeSliceA E t l c m n = some (v, m', n')) (hl : l.rel ρ L) (hc : c.rel ρ C) (hfresh : ∀ q, n ≤ q → q < n' → ρ q = none) (hfl : fl0 ≤ n) :
    Gives P B fl0 w0 ρ n n' (Instr.makeSlice t L C) v m' w := by
  unfold makeSliceA at h
  split at h
  · rename_i y _ li _ ci hy
    split at h
    · cases h
    · rename_i hk
      simp only [ne_eq, Decidable.not_not] at hk
      split at h
      · cases h
      · rename_i e he
        split at h
        · rename_i hb
          obtain ⟨b1, b2, b3, b4, b5⟩ := hb
          simp only [Option.some.injEq, Prod.mk.injEq] at h
          obtain ⟨rfl, rfl, rfl⟩ := h
          obtain rfl := hl
          obtain rfl := hc
          have hn : ρ n = none := hfresh n (Nat.le_refl _) (Nat.lt_succ_self _)
          obtain ⟨i, d, z, hi, hd, hz, hsz, hby, hcs, hzr, k1, k2, k3, k4, k5, k7, k6, kn⟩ := (hty t y hy).info
          obtain ⟨j, _, zj, hj, _, hzj, hjs, hjb, hjc, hjr, _⟩ := (hty _ e he).info
          rw [k4 hk] at hd
          obtain ⟨lq, rfl⟩ := Int.eq_ofNat_of_zero_le b1
          obtain ⟨cq, rfl⟩ := Int.eq_ofNat_of_zero_le (Int.le_trans b1 b2)
          have hwl : IntKind.i64.wrap (lq : Int) = lq := IntWalk.i64_in _ ⟨by omega, by omega⟩
          have hwc : IntKind.i64.wrap (cq : Int) = cq := IntWalk.i64_in _ ⟨by omega, by omega⟩
          have hle : lq ≤ cq := by omega
          have hmaxc : cq ≤ maxLen := by unfold maxLen; omega
          have hby' : ¬ (281474976710656 : Int) < (j.bytes : Int) * (cq : Int) := by rw [hjb, Int.mul_comm]; omega
          have hbl : ¬ (281474976710656 : Int) < (j.bytes : Int) * (lq : Int) := by
            have : (j.bytes : Int) * (lq : Int) ≤ (j.bytes : Int) * (cq : Int) := Int.mul_le_mul_of_nonneg_left (by omega) (by omega)
            omega
          clear b3 b4
          have hrun : ∃ arr : Array Value, arr.toList = (List.replicate cq zj.cells.toList).flatten ∧ (Instr.makeSlice t (.int .i64 lq) (.int .i64 cq)).run P w = .ok (.slice (some ⟨w.heap.size, 0, none⟩) lq cq) { w with heap := w.heap.push (.cells arr y.elem (0, 0)) } := by
            have hc0 : ¬ (cq : Int) < 0 := by omega
            have hl0 : ¬ (lq : Int) < 0 := by omega
            have hle' : ¬ (cq : Int) < lq := by omega
            have hrows : (if cq * j.size = 0 then (pure #[] : Sem (Array Value)) else do pure (← zeroValue y.elem).cells).run P w = .ok (if cq * j.size = 0 then #[] else zj.cells) w := by
              split <;> simp [zeroValue_run hj hzj]
            refine ⟨(Array.range (cq * j.size)).map (fun x => (if cq * j.size = 0 then #[] else zj.cells)[x % (if cq * j.size = 0 then (#[] : Array Value) else zj.cells).size]!), ?_, ?_⟩
            · by_cases h0 : cq * j.size = 0
              · rw [h0]
                rcases Nat.mul_eq_zero.1 h0 with h | h
                · subst h; simp [Array.range]
                · have : zj.cells.toList = [] := by
                    rw [← List.length_eq_zero_iff, Array.length_toList, hjc, ← hjs, h]
                  rw [this]; simp [Array.range]
              · simp only [h0, if_false]
                have hz' : 0 < zj.cells.size := by
                  rcases Nat.eq_zero_or_pos zj.cells.size with h | h
                  · exfalso; apply h0; rw [hjs, ← hjc, h, Nat.mul_zero]
                  · exact h
                have := range_mod zj.cells hz' cq
                rw [hjc, ← hjs] at this
                rw [← hjs] at hjc
                rw [hjc]
                exact this
            · unfold Instr.makeSlice
              simp only [Sem.run_bind, run_underlying hd, asInt, asIntOf, typeInfo, Sem.run_pure, Result.andThen_ok, run_program, hj, hwl, hwc, Int.toNat_natCast]
              rw [show ((2 : Int) ^ 48) = 281474976710656 from by decide]
              simp only [hc0, hby', hl0, hle', Bool.or_eq_true, decide_eq_true_eq, or_self, if_false, Sem.run_bind, Result.andThen_ok, run_askRoom, sizeOf_run hj]
              by_cases h0 : cq * j.size = 0
              · simp only [h0, if_true, Sem.run_bind, Sem.run_pure, Result.andThen_ok, run_newRow]
              · simp only [h0, if_false, Sem.run_bind, Sem.run_pure, Result.andThen_ok, run_newRow, zeroValue_run hj hzj]
          obtain ⟨arr, harr, hrun⟩ := hrun
          have hlen : (List.replicate cq e.zero).flatten.length = arr.size := by
            rw [← Array.length_toList, harr]; simp [b5, hjc]
          have hasz : arr.size = cq * e.size := by
            rw [← hlen]; simp [b5]
          simp only [Int.toNat_natCast]
          refine Gives.newSl hm hn hfl ⟨w.drawn, hrun⟩ (Nat.le_of_eq hlen) ?_ hle (Nat.le_refl _) hmaxc (by omega)
          rw [List.take_of_length_le (by rw [Array.length_toList]; exact Nat.le_of_eq hlen.symm), harr]
          exact All2.flatten (All2.replicate (hjr ρ) cq)
        · cases h
  · cases h

/-! ### Slices, addresses -/
omit hty in
theorem ba_get (l : List UInt8) (i : Nat) : (ByteArray.mk l.toArray)[i]? = l[i]? := by
  by_cases h : i < l.length
  · rw [getElem?_pos (ByteArray.mk l.toArray) i h, List.getElem?_eq_getElem h]
    rfl
  · rw [getElem?_neg (ByteArray.mk l.toArray) i h, List.getElem?_eq_none (by omega)]

theorem run_indexAddrA {t : Nat} {x i v : AV} {X I : Value} (h : indexAddrA E t x i = some v) (hx : x.rel ρ X) (hi : i.rel ρ I) : ∃ val, (Instr.indexAt t X I).run P w = .ok val w ∧ v.rel ρ val := by
  unfold indexAddrA at h
  split at h
  · rename_i y b o _ ix hy
    split at h
    · cases h
    · rename_i hk
      simp only [ne_eq, Decidable.not_not] at hk
      split at h
      · rename_i e he
        split at h
        · rename_i hb
          cases h
          obtain ⟨_, d, _, _, hd, _, _, _, _, _, _, _, _, _, k5, _⟩ := (hty t y hy).info
          obtain ⟨j, _, _, hj, _, _, hjs, _⟩ := (hty _ e he).info
          rw [k5 hk] at hd
          obtain ⟨p, hp, rfl⟩ := hx
          obtain rfl := hi
          refine ⟨.pointer (some ⟨p.b, p.base + (o + ix.toNat * e.size), none⟩), ?_, p, hp, rfl⟩
          simp [Instr.indexAt, Sem.run_bind, asIntOf, run_underlying hd, Instr.sureAddr, hb, sizeOf_run hj, hjs, Addr.add_mid, Nat.add_assoc]
        · cases h
      · cases h
  · rename_i y b o n c es _ ix hy
    split at h
    · cases h
    · rename_i hk
      simp only [not_or, ne_eq, Decidable.not_not] at hk
      obtain ⟨hk, hes⟩ := hk
      split at h
      · rename_i hb
        cases h
        cases he : E.ty y.elem with
        | none => simp [he] at hes
        | some e =>
          simp [he] at hes
          obtain ⟨_, d, _, _, hd, _, _, _, _, _, _, _, _, k4, _⟩ := (hty t y hy).info
          obtain ⟨j, _, _, hj, _, _, hjs, _⟩ := (hty _ e he).info
          rw [k4 hk] at hd
          obtain ⟨p, cc, hp, _, _, _, _, rfl⟩ := hx
          obtain rfl := hi
          refine ⟨.pointer (some ⟨p.b, p.base + (o + ix.toNat * es), none⟩), ?_, p, hp, rfl⟩
          simp [Instr.indexAt, Sem.run_bind, asIntOf, run_underlying hd, hb, sizeOf_run hj, hjs, hes, Addr.add_mid, Nat.add_assoc]
      · cases h
  · cases h

theorem run_fieldAddrA {t f i o off ft s : Nat} {y : Ty} {X : Value} (hy : E.ty t = some y) (hk : y.kind = 6) (hf : y.fields[f]? = some (off, ft, s)) (hs : s ≠ 0) (hx : (SV.ptr i o).rel ρ X) :
    ∃ val, (Instr.fieldAt t X f).run P w = .ok val w ∧ (SV.ptr i (o + off)).rel ρ val := by
  obtain ⟨_, d, _, _, hd, _, _, _, _, _, _, _, _, _, _, _, k6, _⟩ := (hty t y hy).info
  obtain ⟨fs, rfl, hf', hfs, _⟩ := k6 hk
  obtain ⟨p, hp, rfl⟩ := hx
  rw [hfs, List.getElem?_map] at hf
  cases hg : fs.toList[f]? with
  | none => simp [hg] at hf
  | some g =>
    simp [hg, fieldSz] at hf
    obtain ⟨rfl, rfl, hs'⟩ := hf
    have hg' : fs[f]? = some g := by simpa using hg
    obtain ⟨j, hj⟩ := Option.isSome_iff_exists.1 (hf' g (List.mem_of_getElem? hg)).1
    simp [hj] at hs'
    refine ⟨.pointer (some ⟨p.b, p.base + (o + g.offset), none⟩), ?_, p, hp, rfl⟩
    simp [Instr.fieldAt, Sem.run_bind, run_underlying hd, hg', Instr.sureAddr, fieldPlace, sizeOf_run hj, hs', hs, Addr.add_mid, Nat.add_assoc]

theorem run_fieldA {t f off ft s : Nat} {y : Ty} {cs : List SV} {v : AV} {X : Value} (hy : E.ty t = some y) (hk : y.kind = 6) (hf : y.fields[f]? = some (off, ft, s)) (h : part E ft cs off = some v) (hx : (AV.agg cs).rel ρ X) :
    ∃ val, (Instr.field t X f).run P w = .ok val w ∧ v.rel ρ val := by
  obtain ⟨_, d, _, _, hd, _, _, _, _, _, _, _, _, _, _, _, k6, _⟩ := (hty t y hy).info
  obtain ⟨fs, rfl, hf', hfs, _⟩ := k6 hk
  obtain ⟨arr, rfl, ha⟩ := hx
  rw [hfs, List.getElem?_map] at hf
  cases hg : fs.toList[f]? with
  | none => simp [hg] at hf
  | some g =>
    simp [hg, fieldSz] at hf
    obtain ⟨rfl, rfl, hs'⟩ := hf
    have hg' : fs[f]? = some g := by simpa using hg
    obtain ⟨val, h1, h2⟩ := part_rel (P := P) (w := w) hty h ha
    exact ⟨val, by simp [Instr.field, Sem.run_bind, run_underlying hd, hg', asAgg, h1], h2⟩

theorem run_indexA {t : Nat} {x i v : AV} {X I : Value} (h : indexA E t x i = some v) (hx : x.rel ρ X) (hi : i.rel ρ I) : ∃ val, (Instr.index t X I).run P w = .ok val w ∧ v.rel ρ val := by
  unfold indexA at h
  split at h
  · rename_i y cs _ ix hy
    split at h
    · cases h
    · rename_i hk
      simp only [ne_eq, Decidable.not_not] at hk
      split at h
      · rename_i e he
        split at h
        · rename_i hb
          obtain ⟨_, d, _, _, hd, _, _, _, _, _, _, _, _, _, k5, _⟩ := (hty t y hy).info
          obtain ⟨j, _, _, hj, _, _, hjs, _⟩ := (hty _ e he).info
          rw [k5 hk] at hd
          obtain ⟨arr, rfl, ha⟩ := hx
          obtain rfl := hi
          obtain ⟨val, h1, h2⟩ := part_rel (P := P) (w := w) hty h ha
          exact ⟨val, by simp [Instr.index, Sem.run_bind, asIntOf, run_underlying hd, hb, sizeOf_run hj, hjs, h1], h2⟩
        · cases h
      · cases h
  · rename_i y s _ ix hy
    split at h
    · cases h
    · rename_i hk
      simp only [ne_eq, Decidable.not_not] at hk
      split at h
      · rename_i hb
        obtain ⟨u, hu, rfl⟩ := Option.map_eq_some_iff.1 h
        obtain ⟨_, d, _, _, hd, _, _, _, _, _, _, _, k3, _⟩ := (hty t y hy).info
        rw [k3 hk] at hd
        obtain rfl := hx
        obtain rfl := hi
        refine ⟨.int .u8 u.toNat, ?_, rfl⟩
        have : (ByteArray.mk s.toArray)[ix.toNat]? = some u := by rw [ba_get]; exact hu
        simp [Instr.index, Sem.run_bind, asIntOf, run_underlying hd, hb, this]
      · cases h
  · cases h

theorem run_lenA {t ty : Nat} {x v : AV} {X : Value} (h : lenA E t x = some v) (hx : x.rel ρ X) : ∃ val, (Builtin.len_ #[t] ty #[X]).run P w = .ok val w ∧ v.rel ρ val := by
  unfold lenA at h
  split at h
  · rename_i y s hy
    obtain ⟨_, d, _, _, hd, _, _, _, _, _, _, _, k3, k4, k5, _⟩ := (hty t y hy).info
    split at h
    · rename_i hk
      cases h
      rw [k3 hk] at hd
      obtain rfl := hx
      exact ⟨.int .i64 s.length, by simp [Builtin.len_, Sem.run_bind, run_underlying hd, goInt]; rfl, rfl⟩
    · cases h
  · rename_i y _ _ n _ _ hy
    obtain ⟨_, d, _, _, hd, _, _, _, _, _, _, _, k3, k4, k5, _⟩ := (hty t y hy).info
    split at h
    · rename_i hk
      cases h
      rw [k4 hk] at hd
      obtain ⟨p, cc, hp, _, _, _, _, rfl⟩ := hx
      exact ⟨.int .i64 n, by simp [Builtin.len_, Sem.run_bind, run_underlying hd, goInt], rfl⟩
    · cases h
  · rename_i y hy
    obtain ⟨_, d, _, _, hd, _, _, _, _, _, _, _, k3, k4, k5, _⟩ := (hty t y hy).info
    split at h
    · rename_i hk
      cases h
      rw [k4 hk] at hd
      obtain rfl := hx
      exact ⟨.int .i64 0, by simp [Builtin.len_, Sem.run_bind, run_underlying hd, goInt], rfl⟩
    · cases h
  · rename_i y hy
    obtain ⟨_, d, _, _, hd, _, _, _, _, _, _, _, k3, k4, k5, _⟩ := (hty t y hy).info
    split at h
    · rename_i hk
      cases h
      rw [k4 hk] at hd
      obtain ⟨p, c, rfl⟩ := hx
      exact ⟨.int .i64 0, by simp [Builtin.len_, Sem.run_bind, run_underlying hd, goInt], rfl⟩
    · cases h
  · rename_i y _ hy
    obtain ⟨_, d, _, _, hd, _, _, _, _, _, _, _, k3, k4, k5, _⟩ := (hty t y hy).info
    split at h
    · rename_i hk
      cases h
      rw [k5 hk] at hd
      obtain ⟨arr, rfl, _⟩ := hx
      exact ⟨.int .i64 y.len, by simp [Builtin.len_, Sem.run_bind, run_underlying hd, goInt], rfl⟩
    · cases h
  · cases h

omit hty in
theorem run_boundA {x : Option AV} {X : Option Value} {d hi r : Nat} (h : boundA x d hi = some r) (hx : ∀ a, x = some a → ∃ b, X = some b ∧ a.rel ρ b) (hn : x = none → X = none) (y : Nat) (hy : hi ≤ y) (code : BoundsCode) :
    (x = none ∧ X = none ∧ r = d) ∨ (∃ b, X = some b ∧ r ≤ hi ∧ (Instr.sliceBound b y code).run P w = .ok r w) := by
  unfold boundA at h
  split at h
  · cases h; exact .inl ⟨rfl, hn rfl, rfl⟩
  · rename_i i
    split at h
    · rename_i hb
      cases h
      obtain ⟨b, rfl, hr⟩ := hx _ rfl
      obtain rfl := hr
      refine .inr ⟨_, rfl, by omega, ?_⟩
      have : 0 ≤ i ∧ i ≤ (y : Int) := ⟨hb.1, by omega⟩
      simp [Instr.sliceBound, asIntOf, this]
    · cases h
  · cases h

theorem run_sliceA {t : Nat} {x v : AV} {X : Value} {lo hi mx : Option AV} {LO HI MX : Option Value} (h : sliceA E t x lo hi mx = some v) (hx : x.rel ρ X)
    (h1 : ∀ a, lo = some a → ∃ b, LO = some b ∧ a.rel ρ b) (h1n : lo = none → LO = none) (h2 : ∀ a, hi = some a → ∃ b, HI = some b ∧ a.rel ρ b) (h2n : hi = none → HI = none)
    (h3 : ∀ a, mx = some a → ∃ b, MX = some b ∧ a.rel ρ b) (h3n : mx = none → MX = none) :
    ∃ val, (Instr.sliceAt t X LO HI MX).run P w = .ok val w ∧ v.rel ρ val := by
  unfold sliceA at h
  split at h
  · rename_i y s hy
    obtain ⟨_, d, _, _, hd, _, _, _, _, _, _, _, k3, k4, k5, _⟩ := (hty t y hy).info
    split at h
    · cases h
    · rename_i hk
      simp only [not_or, ne_eq, Decidable.not_not, Bool.not_eq_true, Option.isSome_eq_false_iff, Option.isNone_iff_eq_none] at hk
      obtain ⟨hk, hmx⟩ := hk
      have hMX := h3n hmx
      subst hMX
      rw [k3 hk] at hd
      obtain rfl := hx
      split at h
      · rename_i hh eh
        split at h
        · rename_i ll el
          cases h
          refine ⟨.string ((ByteArray.mk s.toArray).extract ll hh), ?_, ?_⟩
          · have hsz : (ByteArray.mk s.toArray).size = s.length := rfl
            have hb : (Instr.sliceBounds false s.length s.length LO HI none).run P w = .ok (ll, hh, s.length) w := by
              rcases run_boundA (P := P) (w := w) eh h2 h2n s.length (Nat.le_refl _) .sliceAlen with ⟨_, rfl, rfl⟩ | ⟨b, rfl, _, hr⟩ <;>
              rcases run_boundA (P := P) (w := w) el h1 h1n _ (Nat.le_refl _) .sliceB with ⟨_, rfl, rfl⟩ | ⟨b2, rfl, _, hr2⟩ <;>
              simp_all [Instr.sliceBounds]
            simp [Instr.sliceAt, Instr.slice, Sem.run_bind, run_underlying hd, hsz, hb]
          · show Value.string _ = Value.string _
            congr 1
            apply ByteArray.ext
            rw [ByteArray.data_extract]
            show s.toArray.extract ll hh = _
            rw [List.extract_toArray, List.extract_eq_take_drop, List.drop_take]
        · cases h
      · cases h
  · rename_i y i o n c es hy
    obtain ⟨_, d, _, _, hd, _, _, _, _, _, _, _, k3, k4, k5, _⟩ := (hty t y hy).info
    split at h
    · cases h
    · rename_i hk
      simp only [not_or, not_and, ne_eq, Decidable.not_not] at hk
      obtain ⟨hk, hes, hmh⟩ := hk
      rw [k4 hk] at hd
      obtain ⟨p, cc, hp, hnc, hcc, hmax, hfit, rfl⟩ := hx
      cases he : E.ty y.elem with
      | none => simp [he] at hes
      | some e =>
        simp [he] at hes
        obtain ⟨j, _, _, hj, _, _, hjs, _⟩ := (hty _ e he).info
        split at h
        · rename_i mm em
          split at h
          · rename_i hh eh
            split at h
            · rename_i ll el
              have hb : ∃ mq, mm ≤ mq ∧ mq ≤ cc ∧ hh ≤ mm ∧ ll ≤ hh ∧ (Instr.sliceBounds true n cc LO HI MX).run P w = .ok (ll, hh, mq) w := by
                rcases run_boundA (P := P) (w := w) em h3 h3n cc hcc .slice3Acap with ⟨rfl, rfl, rfl⟩ | ⟨b, rfl, hle, hr⟩
                · refine ⟨cc, hcc, Nat.le_refl _, ?_⟩
                  rcases run_boundA (P := P) (w := w) eh h2 h2n cc hcc .sliceAcap with ⟨_, rfl, rfl⟩ | ⟨b2, rfl, hle2, hr2⟩ <;>
                  rcases run_boundA (P := P) (w := w) el h1 h1n _ (Nat.le_refl _) .sliceB with ⟨_, rfl, rfl⟩ | ⟨b3, rfl, hle3, hr3⟩ <;>
                  simp_all [Instr.sliceBounds]
                · refine ⟨mm, Nat.le_refl _, by omega, ?_⟩
                  rcases run_boundA (P := P) (w := w) eh h2 h2n mm (Nat.le_refl _) .slice3B with ⟨hi0, rfl, rfl⟩ | ⟨b2, rfl, hle2, hr2⟩
                  · exfalso
                    subst hi0
                    cases mx with
                    | none => obtain ⟨_, hb, _⟩ := (⟨b, rfl, trivial⟩ : ∃ b', some b = some b' ∧ True); have := h3n rfl; cases this
                    | some q => simp at hmh
                  · rcases run_boundA (P := P) (w := w) el h1 h1n _ (Nat.le_refl _) .slice3C with ⟨_, rfl, rfl⟩ | ⟨b3, rfl, hle3, hr3⟩ <;>
                    simp_all [Instr.sliceBounds]
              obtain ⟨mq, hm1, hm2, hm3, hm4, hr⟩ := hb
              have hrun : (Instr.sliceAt t (.slice (some ⟨p.b, p.base + o, none⟩) n cc) LO HI MX).run P w = .ok (.slice (some (if mq = ll then ⟨p.b, p.base + o, none⟩ else ⟨p.b, p.base + o + ll * es, none⟩)) (hh - ll) (mq - ll)) w := by
                simp only [Instr.sliceAt, Sem.run_bind, run_underlying hd, Result.andThen_ok, Instr.slice, hr, sizeOf_run hj, hjs, hes, Sem.run_pure]
                split <;> simp [Addr.add_mid]
              have hmul : mq * es ≤ cc * es := Nat.mul_le_mul_right _ hm2
              have hsub : (mq - ll) * es = mq * es - ll * es := Nat.sub_mul _ _ _
              have hll : ll * es ≤ mq * es := Nat.mul_le_mul_right _ (by omega)
              split at h
              · rename_i hc
                cases h
                refine ⟨_, hrun, p, mq - ll, hp, by omega, by omega, by omega, by omega, ?_⟩
                by_cases e0 : mq = ll
                · have : ll = 0 := by omega
                  subst this
                  simp [e0]
                · simp [e0, Nat.add_assoc]
              · rename_i hc
                cases h
                have : hh - ll = 0 := by omega
                rw [this] at hrun
                exact ⟨_, hrun, _, _, rfl⟩
            · cases h
          · cases h
        · cases h
  · rename_i y hy
    obtain ⟨_, d, _, _, hd, _, _, _, _, _, _, _, k3, k4, k5, _⟩ := (hty t y hy).info
    split at h
    · cases h
    · rename_i hk
      simp only [not_or, ne_eq, Decidable.not_not, Bool.not_eq_true, Option.isSome_eq_false_iff, Option.isNone_iff_eq_none] at hk
      obtain ⟨hk, hes, hmx⟩ := hk
      have hMX := h3n hmx
      subst hMX
      rw [k4 hk] at hd
      obtain rfl := hx
      cases he : E.ty y.elem with
      | none => simp [he] at hes
      | some e =>
        obtain ⟨j, _, _, hj, _, _, hjs, _⟩ := (hty _ e he).info
        split at h
        · rename_i hh eh
          split at h
          · rename_i ll el
            cases h
            refine ⟨.slice none 0 0, ?_, rfl⟩
            have hb : (Instr.sliceBounds true 0 0 LO HI none).run P w = .ok (0, 0, 0) w := by
              rcases run_boundA (P := P) (w := w) eh h2 h2n 0 (Nat.le_refl _) .sliceAcap with ⟨_, rfl, rfl⟩ | ⟨b2, rfl, hle2, hr2⟩ <;>
              rcases run_boundA (P := P) (w := w) el h1 h1n 0 (Nat.le_refl _) .sliceB with ⟨_, rfl, rfl⟩ | ⟨b3, rfl, hle3, hr3⟩ <;>
              simp_all [Instr.sliceBounds]
            simp [Instr.sliceAt, Instr.slice, Sem.run_bind, run_underlying hd, hb, sizeOf_run hj]
          · cases h
        · cases h
  · cases h

end makes
end Go.Am

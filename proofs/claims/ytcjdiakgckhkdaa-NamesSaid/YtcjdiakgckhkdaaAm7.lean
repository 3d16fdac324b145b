/- The abstract machine's operations, all together. -/
import Derived.Test.YtcjdiakgckhkdaaAm6
namespace Go.Am
open Go.RowKit

section all
variable {P : Program} {B fl0 : Nat} {w0 : World} {ρ : Rho} {m : Mem} {w : World} {E : Env} (hty : ∀ t y, E.ty t = some y → TyOk P t y)
include hty

omit hty in
theorem run_markStringish (w : World) (arr : Array Value) (e : TypeId) : (markStringish ⟨w.heap.size, 0, none⟩).run P { w with heap := w.heap.push (.cells arr e (0, 0)) } = .ok () { w with heap := w.heap.push (.cells arr e (arr.size, arr.size + 1)) } := by
  have h1 : ({ w with heap := w.heap.push (.cells arr e (0, 0)) } : World).shape? w.heap.size = some (e, arr.size) := by simp [World.shape?]
  have h2 : ({ w with heap := w.heap.push (.cells arr e (0, 0)) } : World).freeze ⟨w.heap.size, arr.size, none⟩ 1 = { w with heap := w.heap.push (.cells arr e (arr.size, arr.size + 1)) } := by
    simp only [World.freeze, Nat.one_ne_zero, if_false]
    congr 1
    apply Array.ext_getElem?
    intro i
    rw [Array.getElem?_modify, Array.getElem?_push, Array.getElem?_push]
    by_cases hi : i = w.heap.size
    · subst hi; simp
    · rw [if_neg hi, if_neg hi, if_neg (fun e => hi e.symm)]
  simp only [markStringish, Sem.run_bind, shape, Sem.run, h1, Result.andThen_ok, freeze, h2]

theorem gives_conv {src dst n n' : Nat} {x v : AV} {X : Value} {m' : Mem} (hm : MemRel B fl0 w0 ρ m w) (hn0 : fl0 ≤ n) (hx : x.rel ρ X) (h : convA E src dst x m n = some (v, m', n')) (hfresh : ∀ q, n ≤ q → q < n' → ρ q = none) :
    Gives P B fl0 w0 ρ n n' (Go.convert src dst X) v m' w := by
  unfold convA at h
  split at h
  · rename_i ys yd k a hs hd
    obtain ⟨_, ds, _, _, hds, _⟩ := (hty _ _ hs).info
    obtain ⟨_, dd, _, _, hdd, _, _, _, _, _, k1, _⟩ := (hty _ _ hd).info
    split at h
    · rename_i hk
      simp only [Option.some.injEq, Prod.mk.injEq] at h
      obtain ⟨rfl, rfl, rfl⟩ := h
      obtain rfl := hx
      rw [k1 hk] at hdd
      refine Gives.pure hm (val := .int yd.ik (yd.ik.wrap a)) ?_ rfl
      simp [Go.convert, run_underlying hds, run_underlying hdd, Conv.intToInt]
    · cases h
  · rename_i ys yd l hs hd
    obtain ⟨_, ds, _, _, hds, _, _, _, _, _, _, _, k3, _⟩ := (hty _ _ hs).info
    obtain ⟨_, dd, _, _, hdd, _, _, _, _, _, _, _, _, k4, _⟩ := (hty _ _ hd).info
    split at h
    · rename_i hk
      rw [k3 hk.1] at hds
      rw [k4 hk.2] at hdd
      split at h
      · rename_i e he
        split at h
        · rename_i hek
          simp only [Option.some.injEq, Prod.mk.injEq] at h
          obtain ⟨rfl, rfl, rfl⟩ := h
          obtain rfl := hx
          obtain ⟨ie, de, ze, hie, hde, _, hies, _, _, _, e1, _⟩ := (hty _ _ he).info
          rw [e1 hek.1, hek.2.1] at hde
          have hn : ρ n = none := hfresh n (Nat.le_refl _) (Nat.lt_succ_self _)
          have hrun : ∃ (arr : Array Value) (cap : Nat), arr.toList = (l.map fun b => Value.int .u8 (b.toNat : Int)) ++ List.replicate (cap - l.length) (.int .u8 0) ∧ l.length ≤ cap ∧ cap ≤ maxLen ∧
              (Go.convert src dst (.string ⟨l.toArray⟩)).run P w = .ok (.slice (some ⟨w.heap.size, 0, none⟩) l.length cap) { w with heap := w.heap.push (.cells arr yd.elem (arr.size, arr.size + 1)), drawn := w.drawn + 1 } := by
            have hge := grownCap_ge w l.length 0 yd.elem
            have hmx := grownCap_le_maxLen w l.length 0 yd.elem (by unfold maxLen; omega)
            refine ⟨(l.map fun b => Value.int .u8 (b.toNat : Int)).toArray ++ Array.replicate (grownCap w l.length 0 yd.elem - l.length) (.int .u8 0), grownCap w l.length 0 yd.elem, by simp, hge, hmx, ?_⟩
            have hch : (choose (.appendCap l.length 0 yd.elem)).run P w = .ok (grownCap w l.length 0 yd.elem) { w with drawn := w.drawn + 1 } := by
              simp [choose, Sem.run, Question.forced, grownCap]
            have hsz : (ByteArray.mk l.toArray).size = l.length := rfl
            have hmap : (ByteArray.mk l.toArray).data.map (fun b => Value.int .u8 (b.toNat : Int)) = (l.map fun b => Value.int .u8 (b.toNat : Int)).toArray := by simp
            unfold Go.convert
            simp only [Sem.run_bind, run_underlying hds, run_underlying hdd, Result.andThen_ok, run_underlying hde, Conv.stringToBytes, hsz, hch, hmap, run_newRow]
            rw [run_markStringish { w with drawn := w.drawn + 1 }]
            simp only [Result.andThen_ok, Sem.run_pure]
          obtain ⟨arr, cap, harr, hcap, hmax, hrun⟩ := hrun
          have hrel : All2 (SV.rel ρ) (byteCells l) (arr.toList.take (byteCells l).length) := by
            rw [harr, List.take_append_of_le_length (by simp [byteCells]), List.take_of_length_le (by simp [byteCells])]
            exact All2.map_self (R := SV.rel ρ) (fun b : UInt8 => SV.int .u8 (b.toNat : Int)) (fun b : UInt8 => Value.int .u8 (b.toNat : Int)) (fun b => rfl) l
          have hsz : arr.size = cap := by
            rw [← Array.length_toList, harr]; simp; omega
          exact ⟨_, _, upR ρ n ⟨w.heap.size, 0, arr.size⟩, hrun, upR_ext hn, upR_dom (Nat.lt_succ_self n),
            (hm.new hn hn0 (byteCells l) arr yd.elem (by simp [byteCells]; omega) hrel (arr.size, arr.size + 1) (by simp; omega)).drewn _,
            ⟨⟨w.heap.size, 0, arr.size⟩, cap, by simp [upR], Nat.le_refl _, hcap, hmax, by simp; omega, by simp⟩⟩
        · cases h
      · cases h
    · cases h
  · cases h

/-- An operation that is no call of a function: it runs to its end. -/
def OpGives (P : Program) (B fl0 : Nat) (w0 : World) (ρ : Rho) (n n' : Nat) (e : Sem Next) (v : AV) (m' : Mem) (w : World) : Prop :=
  ∃ r w' ρ' val, e.run P w = .ok r w' ∧ (r = .value val ∨ (r = .skip ∧ val = undef)) ∧ Ext ρ ρ' ∧ (∀ i, ρ' i ≠ none → ρ i ≠ none ∨ (n ≤ i ∧ i < n')) ∧ MemRel B fl0 w0 ρ' m' w' ∧ v.rel ρ' val

omit hty in
theorem OpGives.of {n n' : Nat} {e : Sem Value} {v : AV} {m' : Mem} (h : Gives P B fl0 w0 ρ n n' e v m' w) : OpGives P B fl0 w0 ρ n n' (do pure (.value (← e))) v m' w := by
  obtain ⟨val, w', ρ', hr, h1, h2, h3, h4⟩ := h
  exact ⟨.value val, w', ρ', val, by simp [hr], .inl rfl, h1, h2, h3, h4⟩

omit hty in
theorem OpGives.pure {n n' : Nat} {e : Sem Value} {v : AV} {val : Value} (hm : MemRel B fl0 w0 ρ m w) (h : e.run P w = .ok val w) (hv : v.rel ρ val) : OpGives P B fl0 w0 ρ n n' (do Pure.pure (.value (← e))) v m w :=
  OpGives.of (Gives.pure hm h hv)

/-- Is it a call of a Go function? -/
def isCall : Op → Bool
  | .call { callee := .value _, .. } => true
  | _ => false

omit hty in
theorem parts_rel {ev : Operand → AV} {a : Act} (hev : ∀ x, (ev x).rel ρ (a.eval x)) (ps : Array (Nat × Operand)) :
    All2 (fun (a : Nat × AV) (b : Nat × Value) => a.1 = b.1 ∧ a.2.rel ρ b.2) (ps.toList.map fun p => (p.1, ev p.2)) (ps.map fun (i, x) => (i, a.eval x)).toList := by
  rw [Array.toList_map]
  exact All2.map_self _ _ (fun p => ⟨rfl, hev _⟩) _

omit hty in
theorem capsOf_rel {ev : Operand → AV} {a : Act} (hev : ∀ x, (ev x).rel ρ (a.eval x)) : ∀ (l : List Operand) {cs : List (Nat × Nat)}, capsOf (l.map ev) = some cs → All2 (fun (q : Nat × Nat) u => ptrRel ρ q.1 q.2 u) cs (l.map a.eval)
  | [], cs, h => by simp [capsOf] at h; subst h; trivial
  | x :: l, cs, h => by
    simp only [List.map_cons] at h
    unfold capsOf at h
    split at h
    · rename_i e; simp at e
    · rename_i i o r e
      simp only [List.cons.injEq] at e
      obtain ⟨e1, rfl⟩ := e
      obtain ⟨cs', h1, rfl⟩ := Option.map_eq_some_iff.1 h
      have hx := hev x
      rw [e1] at hx
      exact ⟨hx, capsOf_rel hev l h1⟩
    · cases h

omit hty in
theorem append_types {ts : Array TypeId} {t u ty : TypeId} (h0 : ts[0]? = some t) (h1 : ts[1]? = some u) (args : Array Value) : Builtin.append_ ts ty args = Builtin.append_ #[t, u] ty args := by
  unfold Builtin.append_; simp only [h0, h1]; rfl
omit hty in
theorem copy_types {ts : Array TypeId} {t u ty : TypeId} (h0 : ts[0]? = some t) (args : Array Value) : Builtin.copy_ ts ty args = Builtin.copy_ #[t, u] ty args := by
  unfold Builtin.copy_; simp only [h0]; rfl
omit hty in
theorem len_types {ts : Array TypeId} {t ty : TypeId} (h0 : ts[0]? = some t) (args : Array Value) : Builtin.len_ ts ty args = Builtin.len_ #[t] ty args := by
  unfold Builtin.len_; simp only [h0]; rfl
omit hty in
theorem clear_types {ts : Array TypeId} {t ty : TypeId} (h0 : ts[0]? = some t) (args : Array Value) : Builtin.clear_ ts ty args = Builtin.clear_ #[t] ty args := by
  unfold Builtin.clear_; simp only [h0]; rfl

omit hty in
theorem execOp_builtin' (ρc : Operand → Value) (dst : Option Tmp) (b : Builtin) (xs : Array Operand) (ats : Array TypeId) (ty : TypeId) (pos : String) (after : Array Edge) (g : Option (Nat × Bool)) :
    ∃ cs, execOp ρc ⟨dst, .call ⟨.builtin b, xs, ats⟩, ty, pos, after, g⟩ = builtin b ats ty cs (xs.map ρc) := by
  exact ⟨_, rfl⟩

omit hty in
theorem args1 {ev : Operand → AV} {xs : Array Operand} {x : AV} (hx : xs.toList.map ev = [x]) : ∃ xo, xs = #[xo] ∧ ev xo = x := by
  obtain ⟨l⟩ := xs
  match l, hx with
  | [y], hx => exact ⟨y, rfl, by simpa using hx⟩
omit hty in
theorem args2 {ev : Operand → AV} {xs : Array Operand} {x y : AV} (hx : xs.toList.map ev = [x, y]) : ∃ xo yo, xs = #[xo, yo] ∧ ev xo = x ∧ ev yo = y := by
  obtain ⟨l⟩ := xs
  match l, hx with
  | [a, b], hx => simp at hx; exact ⟨a, b, rfl, hx.1, hx.2⟩
omit hty in
theorem argsN {ev : Operand → AV} {xs : Array Operand} {x : AV} {r : List AV} (hx : xs.toList.map ev = x :: r) : ∃ xo l, xs = (xo :: l).toArray ∧ ev xo = x ∧ l.map ev = r := by
  obtain ⟨l⟩ := xs
  match l, hx with
  | a :: l, hx => simp at hx; exact ⟨a, l, rfl, hx.1, hx.2⟩

theorem builtin_gives {b : Builtin} {ats : Array TypeId} {ty : TypeId} {cs : Array Bool} {fl n n' : Nat} {ev : Operand → AV} {a : Act} {xs : Array Operand} {v : AV} {m' : Mem} (hm : MemRel B fl0 w0 ρ m w) (hfl : fl0 ≤ fl) (hn0 : fl0 ≤ n)
    (hev : ∀ x, (ev x).rel ρ (a.eval x)) (h : builtinA E fl b ats (xs.toList.map ev) m n = some (v, m', n')) (hfresh : ∀ q, n ≤ q → q < n' → ρ q = none) :
    OpGives P B fl0 w0 ρ n n' (Go.builtin b ats ty cs (xs.map a.eval)) v m' w := by
  unfold builtinA at h
  split at h
  · rename_i x t hx ht
    obtain ⟨u, hu, hh⟩ := Option.map_eq_some_iff.1 h
    simp only [Prod.mk.injEq] at hh; obtain ⟨rfl, rfl, rfl⟩ := hh
    obtain ⟨xo, rfl, rfl⟩ := args1 hx
    rw [show (#[xo] : Array Operand).map a.eval = #[a.eval xo] from by simp]
    obtain ⟨val, h1, h2⟩ := run_lenA (P := P) (w := w) (ty := ty) hty hu (hev xo)
    rw [← len_types ht] at h1
    exact OpGives.pure hm h1 h2
  · rename_i x y t hx ht
    obtain ⟨xo, yo, rfl, rfl, rfl⟩ := args2 hx
    rw [show (#[xo, yo] : Array Operand).map a.eval = #[a.eval xo, a.eval yo] from by simp]
    split at h
    · rename_i h1
      unfold appendA at h
      split at h
      · cases h
      · rename_i yt hy
        split at h
        · cases h
        · rename_i hk
          simp only [ne_eq, Decidable.not_not] at hk
          split at h
          · cases h
          · rename_i e he
            split at h
            · cases h
            · rename_i hc
              simp only [not_or, ne_eq, Decidable.not_not] at hc
              obtain ⟨i, du, z, hi, hdu, hz, hsz, hby, hcs, hzr, k1, k2, k3, k4, k5, k7, k6, kn⟩ := (hty t yt hy).info
              obtain ⟨ie, _, ze, hie, _, hze, hies, hieb, hiec, hier, _⟩ := (hty _ e he).info
              rw [k4 hk] at hdu
              split at h
              · rename_i old k new j hes hex
                obtain ⟨newv, hruns, hnew, hnl⟩ := appRuns_slice (P := P) (ty := ty) hdu hie hze hm hex (hev yo) hies
                have := gives_append (u := t) (ty := ty) hm hfl hn0 (hev xo) hes hies hieb (by rw [hiec]) hruns hnew hnl h hfresh
                have h2 := OpGives.of this
                rw [← append_types ht h1] at h2
                exact h2
              · cases h
    · split at h
      · rename_i u h1
        unfold appendZA at h
        split at h
        · rename_i yt yu kq ji hy hyu hyo
          split at h
          · cases h
          · rename_i hk
            simp only [not_or, ne_eq, Decidable.not_not] at hk
            split at h
            · cases h
            · rename_i e he
              split at h
              · cases h
              · rename_i hc
                simp only [not_or, ne_eq, Decidable.not_not, gt_iff_lt, Int.not_lt] at hc
                obtain ⟨c1, c2, c3, c4, c5⟩ := hc
                obtain ⟨jn, rfl⟩ := Int.eq_ofNat_of_zero_le c3
                obtain ⟨i, du, z, hi, hdu, hz, hsz, hby, hcs, hzr, k1, k2, k3, k4, k5, k7, k6, kn⟩ := (hty t yt hy).info
                obtain ⟨_, uu, _, _, huu, _, _, _, _, _, ku1, _⟩ := (hty u yu hyu).info
                obtain ⟨ie, _, ze, hie, _, hze, hies, hieb, hiec, hier, _⟩ := (hty _ e he).info
                rw [k4 hk.1] at hdu
                rw [ku1 hk.2] at huu
                split at h
                · rename_i old k hes
                  have hY := hev yo
                  rw [hyo] at hY
                  have hY : a.eval yo = .int kq _ := hY
                  have hjb : jn * ie.bytes ≤ 281474976710656 := by
                    rw [hieb]
                    have : ((jn * e.bytes : Nat) : Int) ≤ 281474976710656 := by simpa using c5
                    omega
                  have hruns := appRuns_zeros (P := P) (w := w) (ty := ty) (k' := kq) hdu huu hie hze (by rw [hies]; exact c1) c4 hjb
                  simp only [Int.toNat_natCast] at h
                  have hnew : All2 (SV.rel ρ) ((List.replicate jn e.zero).flatten) (Builtin.zeroCells ze.cells jn).toList := by
                    rw [zeroCells_list ze.cells jn (by rw [hiec]; exact Nat.pos_of_ne_zero c1)]
                    exact All2.flatten (All2.replicate (hier ρ) jn)
                  have := gives_append (u := u) (ty := ty) hm hfl hn0 (hev xo) hes hies hieb (by rw [hiec]) hruns hnew (by simp [c2]) h hfresh
                  have h2 := OpGives.of this
                  rw [← append_types ht h1, ← hY] at h2
                  exact h2
                · cases h
        · cases h
      · cases h
  · rename_i x y t hx ht
    obtain ⟨xo, yo, rfl, rfl, rfl⟩ := args2 hx
    rw [show (#[xo, yo] : Array Operand).map a.eval = #[a.eval xo, a.eval yo] from by simp]
    split at h
    · rename_i h1
      have h2 := OpGives.of (gives_copy (ty := ty) hty hm hfl (hev xo) (hev yo) h)
      rw [← copy_types ht] at h2
      exact h2
    · cases h
  · rename_i x t hx ht
    obtain ⟨xo, rfl, rfl⟩ := args1 hx
    rw [show (#[xo] : Array Operand).map a.eval = #[a.eval xo] from by simp]
    have h2 := OpGives.of (gives_clear (ty := ty) hty hm hfl (hev xo) h)
    rw [← clear_types ht] at h2
    exact h2
  · rename_i t hx ht
    obtain ⟨xo, rfl, hxo⟩ := args1 hx
    rw [show (#[xo] : Array Operand).map a.eval = #[a.eval xo] from by simp]
    split at h
    · rename_i hk
      obtain ⟨yt, hy, hk⟩ := tyKind hk
      simp only [Option.some.injEq, Prod.mk.injEq] at h; obtain ⟨rfl, rfl, rfl⟩ := h
      obtain ⟨i, du, z, hi, hdu, hz, hsz, hby, hcs, hzr, k1, k2, k3, k4, k5, k7, k6, kn⟩ := (hty t yt hy).info
      rw [k4 hk] at hdu
      have hX := hev xo
      rw [hxo] at hX
      have hX : a.eval xo = .slice none 0 0 := hX
      refine OpGives.pure hm (val := .int .i64 0) ?_ rfl
      simp [Builtin.cap_, ht, hX, run_underlying hdu, goInt]
    · cases h
  · rename_i x r hx
    obtain ⟨u, hu, hh⟩ := Option.map_eq_some_iff.1 h
    simp only [Prod.mk.injEq] at hh; obtain ⟨rfl, rfl, rfl⟩ := hh
    obtain ⟨xo, l, rfl, rfl, rfl⟩ := argsN hx
    rw [show ((xo :: l).toArray).map a.eval = (a.eval xo :: l.map a.eval).toArray from by simp]
    obtain ⟨val, h1, h2⟩ := run_foldMax (P := P) (w := w) (ty := ty) true (l.map ev) (l.map a.eval) (ev xo) _ _ hu (hev xo) (All2.map_self _ _ hev l)
    exact OpGives.pure hm (by simpa [Builtin.max_] using h1) h2
  · rename_i x r hx
    obtain ⟨u, hu, hh⟩ := Option.map_eq_some_iff.1 h
    simp only [Prod.mk.injEq] at hh; obtain ⟨rfl, rfl, rfl⟩ := hh
    obtain ⟨xo, l, rfl, rfl, rfl⟩ := argsN hx
    rw [show ((xo :: l).toArray).map a.eval = (a.eval xo :: l.map a.eval).toArray from by simp]
    obtain ⟨val, h1, h2⟩ := run_foldMax (P := P) (w := w) (ty := ty) false (l.map ev) (l.map a.eval) (ev xo) _ _ hu (hev xo) (All2.map_self _ _ hev l)
    exact OpGives.pure hm (by simpa [Builtin.min_] using h1) h2
  · cases h

theorem op_gives {call : CallF} {fl n n' : Nat} {lim : Option Nat} {ev : Operand → AV} {a : Act} {o : Oper} {v : AV} {m' : Mem} (hm : MemRel B fl0 w0 ρ m w) (hfl : fl0 ≤ fl) (hn0 : fl0 ≤ n)
    (hev : ∀ x, (ev x).rel ρ (a.eval x)) (hnc : isCall o.op = false) (h : opA E call fl lim ev m n o.op = some (v, m', n')) (hfresh : ∀ q, n ≤ q → q < n' → ρ q = none) :
    OpGives P B fl0 w0 ρ n n' (execOp a.eval o) v m' w := by
  obtain ⟨dst, op, typ, pos, after, guard⟩ := o
  simp only at h hnc
  cases op with
  | move x => simp only [opA, Option.some.injEq, Prod.mk.injEq] at h; obtain ⟨rfl, rfl, rfl⟩ := h; exact ⟨_, w, ρ, _, by simp [execOp], .inl rfl, Ext.refl _, fun _ h => .inl h, hm, hev x⟩
  | assign x => simp only [opA, Option.some.injEq, Prod.mk.injEq] at h; obtain ⟨rfl, rfl, rfl⟩ := h; exact ⟨_, w, ρ, _, by simp [execOp], .inl rfl, Ext.refl _, fun _ h => .inl h, hm, hev x⟩
  | pick c x y =>
    simp only [opA] at h
    split at h
    · rename_i t ht
      simp only [Option.some.injEq, Prod.mk.injEq] at h; obtain ⟨rfl, rfl, rfl⟩ := h
      have hc := hev c
      rw [ht] at hc
      have hc : a.eval c = .bool t := hc
      refine ⟨.value (if t then a.eval x else a.eval y), w, ρ, _, by simp [execOp, hc, asBool], .inl rfl, Ext.refl _, fun _ h => .inl h, hm, ?_⟩
      cases t <;> simp [hev]
    · cases h
  | alloc e =>
    simp only [opA] at h
    split at h
    · rename_i y hy
      simp only [Option.some.injEq, Prod.mk.injEq] at h; obtain ⟨rfl, rfl, rfl⟩ := h
      exact OpGives.of (gives_alloc hty hm hy (hfresh n (Nat.le_refl _) (Nat.lt_succ_self _)) hn0)
    · cases h
  | box e x =>
    simp only [opA] at h
    split at h
    · rename_i cs hcs
      simp only [Option.some.injEq, Prod.mk.injEq] at h; obtain ⟨rfl, rfl, rfl⟩ := h
      exact OpGives.of (gives_box hm (hev x) hcs (hfresh n (Nat.le_refl _) (Nat.lt_succ_self _)) hn0)
    · cases h
  | build t ps =>
    simp only [opA] at h
    split at h
    · rename_i y hy
      split at h
      · rename_i hk
        obtain ⟨c, hc, hh⟩ := Option.map_eq_some_iff.1 h
        simp only [Prod.mk.injEq] at hh; obtain ⟨rfl, rfl, rfl⟩ := hh
        obtain ⟨val, h1, h2⟩ := run_build6 (P := P) (w := w) hty hy hk (parts_rel hev ps) hc
        exact OpGives.pure hm h1 h2
      · split at h
        · rename_i hk
          split at h
          · rename_i e he
            obtain ⟨c, hc, hh⟩ := Option.map_eq_some_iff.1 h
            simp only [Prod.mk.injEq] at hh; obtain ⟨rfl, rfl, rfl⟩ := hh
            obtain ⟨val, h1, h2⟩ := run_build5 (P := P) (w := w) hty hy hk he (parts_rel hev ps) hc
            exact OpGives.pure hm h1 h2
          · cases h
        · cases h
    · cases h
  | buildSlice t len ps =>
    simp only [opA] at h
    split at h
    · rename_i y hy
      split at h
      · cases h
      · rename_i hk
        simp only [ne_eq, Decidable.not_not] at hk
        split at h
        · rename_i e he
          split at h
          · cases h
          · rename_i hc
            simp only [not_or, ne_eq, Decidable.not_not, gt_iff_lt, Nat.not_lt] at hc
            split at h
            · rename_i cs hcs
              simp only [Option.some.injEq, Prod.mk.injEq] at h; obtain ⟨rfl, rfl, rfl⟩ := h
              exact OpGives.of (gives_buildSlice hty hm hy hk he hc.1 hc.2.1 hc.2.2 (parts_rel hev ps) hcs (hfresh n (Nat.le_refl _) (Nat.lt_succ_self _)) hn0)
            · cases h
        · cases h
    · cases h
  | load t x =>
    obtain ⟨u, hu, hh⟩ := Option.map_eq_some_iff.1 h
    simp only [Prod.mk.injEq] at hh; obtain ⟨rfl, rfl, rfl⟩ := hh
    obtain ⟨val, h1, h2⟩ := run_loadA (P := P) hty hm hu (hev x)
    exact OpGives.pure hm h1 h2
  | store t x y =>
    obtain ⟨u, hu, hh⟩ := Option.map_eq_some_iff.1 h
    simp only [Prod.mk.injEq] at hh; obtain ⟨rfl, rfl, rfl⟩ := hh
    obtain ⟨w', h1, h2⟩ := run_storeA (P := P) hty hm hfl hu (hev x) (hev y)
    exact ⟨.skip, w', ρ, undef, by simp [execOp, h1], .inr ⟨rfl, rfl⟩, Ext.refl _, fun _ h => .inl h, h2, AV.rel_undef⟩
  | nilCheck x =>
    simp only [opA] at h
    split at h
    · rename_i i q hq
      simp only [Option.some.injEq, Prod.mk.injEq] at h; obtain ⟨rfl, rfl, rfl⟩ := h
      have hx := hev x
      rw [hq] at hx
      obtain ⟨p, hp, hX⟩ := hx
      exact ⟨.value (a.eval x), w, ρ, _, by simp [execOp, hX], .inl rfl, Ext.refl _, fun _ h => .inl h, hm, p, hp, hX⟩
    · rename_i f c hq
      simp only [Option.some.injEq, Prod.mk.injEq] at h; obtain ⟨rfl, rfl, rfl⟩ := h
      have hx := hev x
      rw [hq] at hx
      obtain ⟨cs, hX, hcs⟩ := hx
      exact ⟨.value (a.eval x), w, ρ, _, by simp [execOp, hX], .inl rfl, Ext.refl _, fun _ h => .inl h, hm, cs, hX, hcs⟩
    · cases h
  | binOp op t x y u =>
    obtain ⟨r, hu, hh⟩ := Option.map_eq_some_iff.1 h
    simp only [Prod.mk.injEq] at hh; obtain ⟨rfl, rfl, rfl⟩ := hh
    obtain ⟨val, h1, h2, h3⟩ := run_binA (P := P) (w := w) hty hu (hev x) (hev y) x y
    exact ⟨.value val, w, ρ, val, by simp [execOp, h1, h2], .inl rfl, Ext.refl _, fun _ h => .inl h, hm, h3⟩
  | unOp op t x =>
    obtain ⟨r, hu, hh⟩ := Option.map_eq_some_iff.1 h
    simp only [Prod.mk.injEq] at hh; obtain ⟨rfl, rfl, rfl⟩ := hh
    obtain ⟨val, h1, h2⟩ := run_unA (P := P) (w := w) hu (hev x)
    exact OpGives.pure hm h1 h2
  | convert s d x => exact OpGives.of (gives_conv hty hm hn0 (hev x) h hfresh)
  | makeFunc fn first caps =>
    simp only [opA] at h
    split at h
    · rename_i f cs hcs
      split at h
      · rename_i hf
        simp only [Option.some.injEq, Prod.mk.injEq] at h; obtain ⟨rfl, rfl, rfl⟩ := h
        have hf0 : first = #[] := by simpa using hf
        subst hf0
        refine ⟨.value (.func (.func f) #[] (caps.map a.eval)), w, ρ, _, by simp [execOp, Instr.makeFunc], .inl rfl, Ext.refl _, fun _ h => .inl h, hm, caps.map a.eval, rfl, ?_⟩
        rw [Array.toList_map]
        exact capsOf_rel hev caps.toList hcs
      · cases h
    · cases h
  | makeSlice t l c =>
    exact OpGives.of (gives_makeSlice hty hm h (hev l) (hev c) hfresh hn0)
  | slice t x lo hi mx =>
    obtain ⟨u, hu, hh⟩ := Option.map_eq_some_iff.1 h
    simp only [Prod.mk.injEq] at hh; obtain ⟨rfl, rfl, rfl⟩ := hh
    have ho : ∀ q : Option Operand, (∀ b, q.map ev = some b → ∃ c, q.map a.eval = some c ∧ b.rel ρ c) ∧ (q.map ev = none → q.map a.eval = none) := by
      intro q
      cases q with
      | none => simp
      | some q => simp [hev]
    obtain ⟨val, h1, h2⟩ := run_sliceA (P := P) (w := w) hty hu (hev x) (ho lo).1 (ho lo).2 (ho hi).1 (ho hi).2 (ho mx).1 (ho mx).2
    exact OpGives.pure hm h1 h2
  | fieldAddr t x f =>
    simp only [opA] at h
    split at h
    · rename_i y i q hy hq
      split at h
      · cases h
      · rename_i hk
        simp only [ne_eq, Decidable.not_not] at hk
        split at h
        · rename_i off ft s hf
          split at h
          · cases h
          · rename_i hs
            simp only [Option.some.injEq, Prod.mk.injEq] at h; obtain ⟨rfl, rfl, rfl⟩ := h
            have hx := hev x
            rw [hq] at hx
            obtain ⟨val, h1, h2⟩ := run_fieldAddrA (P := P) (w := w) hty hy hk hf hs hx
            exact OpGives.pure hm h1 h2
        · cases h
    · cases h
  | field t x f =>
    simp only [opA] at h
    split at h
    · rename_i y cs hy hq
      split at h
      · cases h
      · rename_i hk
        simp only [ne_eq, Decidable.not_not] at hk
        split at h
        · rename_i off ft s hf
          obtain ⟨u, hu, hh⟩ := Option.map_eq_some_iff.1 h
          simp only [Prod.mk.injEq] at hh; obtain ⟨rfl, rfl, rfl⟩ := hh
          have hx := hev x
          rw [hq] at hx
          obtain ⟨val, h1, h2⟩ := run_fieldA (P := P) (w := w) hty hy hk hf hu hx
          exact OpGives.pure hm h1 h2
        · cases h
    · cases h
  | indexAddr t x i =>
    obtain ⟨u, hu, hh⟩ := Option.map_eq_some_iff.1 h
    simp only [Prod.mk.injEq] at hh; obtain ⟨rfl, rfl, rfl⟩ := hh
    obtain ⟨val, h1, h2⟩ := run_indexAddrA (P := P) (w := w) hty hu (hev x) (hev i)
    exact OpGives.pure hm h1 h2
  | index t x i =>
    obtain ⟨u, hu, hh⟩ := Option.map_eq_some_iff.1 h
    simp only [Prod.mk.injEq] at hh; obtain ⟨rfl, rfl, rfl⟩ := hh
    obtain ⟨val, h1, h2⟩ := run_indexA (P := P) (w := w) hty hu (hev x) (hev i)
    exact OpGives.pure hm h1 h2
  | extract x i =>
    simp only [opA] at h
    split at h
    · rename_i l hl
      obtain ⟨u, hu, hh⟩ := Option.map_eq_some_iff.1 h
      simp only [Prod.mk.injEq] at hh; obtain ⟨rfl, rfl, rfl⟩ := hh
      have hx := hev x
      rw [hl] at hx
      obtain ⟨vs, hX, ha⟩ := hx
      obtain ⟨val, h1, h2⟩ := ha.get i u hu
      have : vs[i]? = some val := by simpa using h1
      exact OpGives.pure hm (by rw [hX]; simp [Instr.extract, this]) (AV.rel_of_rel1 h2)
    · cases h
  | call c =>
    obtain ⟨callee, xs, ats⟩ := c
    cases callee with
    | value f => simp [isCall] at hnc
    | invoke r mm => simp [opA, callA] at h
    | builtin b =>
      simp only [opA, callA] at h
      obtain ⟨cs, hcs⟩ := execOp_builtin' a.eval dst b xs ats typ pos after guard
      rw [hcs]
      exact builtin_gives hty hm hfl hn0 hev h hfresh
  | _ => simp [opA] at h

end all
end Go.Am

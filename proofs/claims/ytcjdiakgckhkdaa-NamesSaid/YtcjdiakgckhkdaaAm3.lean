/- The abstract machine's operations, one by one: what each gives, the model's operation gives too. -/
import Derived.Test.YtcjdiakgckhkdaaAm2
import Derived.LaidEql
import Derived.Laws.StructEq
import Derived.Deep.MidRow
import Derived.ChangeKeysEq
namespace Go.Am
open Go.RowKit

/-- What a row of the machine's table of types says of the program's type. -/
structure TyOk (P : Program) (t : TypeId) (y : Ty) : Prop where
  info : ∃ i d z, P.info? t = some i ∧ P.underlying t = some d ∧ i.zero = some z ∧ i.size = y.size ∧ i.bytes = y.bytes ∧ z.cells.size = y.size ∧ (∀ ρ, All2 (SV.rel ρ) y.zero z.cells.toList) ∧
    (y.kind = 1 → d = .int y.ik) ∧ (y.kind = 2 → d = .bool) ∧ (y.kind = 3 → d = .string) ∧ (y.kind = 4 → d = .slice y.elem) ∧ (y.kind = 5 → d = .array y.len y.elem) ∧ (y.kind = 7 → d = .pointer y.elem) ∧
    (y.kind = 6 → ∃ fs, d = .struct fs ∧ (∀ f ∈ fs.toList, (P.info? f.type).isSome = true ∧ f.name ≠ "_") ∧ y.fields = fs.toList.map (fieldSz P) ∧ P.stoodInHeld t = false ∧ P.eqGuardType P.depth t = false) ∧
    (y.kind ≠ 5 → y.kind ≠ 6 → ∀ fs n e, d ≠ .struct fs ∧ d ≠ .array n e)

theorem tyOk_of_mkTy {P : Program} {t : TypeId} {y : Ty} (h : mkTy P t = some y) : TyOk P t y := by
  unfold mkTy at h
  split at h
  · rename_i i d hi hd
    split at h
    · cases h
    · rename_i z hz
      split at h
      · cases h
      · rename_i hc
        simp only [Bool.or_eq_true, Bool.not_eq_true', decide_eq_true_eq, not_or, ne_eq, Decidable.not_not, Bool.not_eq_false] at hc
        obtain ⟨hc1, hc2⟩ := hc
        have hzr : ∀ ρ, All2 (SV.rel ρ) (z.cells.toList.map scOf) z.cells.toList := by
          intro ρ
          have : ∀ l : List Value, (∀ c ∈ l, c.oneCell' = true) → All2 (SV.rel ρ) (l.map scOf) l := by
            intro l
            induction l with
            | nil => intro _; trivial
            | cons x l ih => intro h; exact ⟨scOf_rel ρ x (h x (by simp)), ih fun c hc => h c (by simp [hc])⟩
          exact this _ (fun c hc => by simp only [Array.all_eq_true] at hc1; obtain ⟨i, hi, rfl⟩ := List.getElem_of_mem hc; exact hc1 i (by simpa using hi))
        cases d <;> simp only [] at h
        all_goals first
          | (injection h with h; subst h; exact ⟨i, _, z, hi, hd, hz, rfl, rfl, hc2, hzr, by simp, by simp, by simp, by simp, by simp, by simp, by simp, by simp⟩)
          | skip
        rename_i fs
        split at h
        · rename_i hf
          injection h with h; subst h
          refine ⟨i, _, z, hi, hd, hz, rfl, rfl, hc2, hzr, by simp, by simp, by simp, by simp, by simp, by simp, ?_, by simp⟩
          intro _
          simp only [Bool.and_eq_true, Array.all_eq_true', Bool.not_eq_true'] at hf
          exact ⟨fs, rfl, fun f hm => by simpa using hf.1.1 f (by simpa using hm), rfl, hf.1.2, hf.2⟩
        · cases h
  · cases h

section ops
variable {P : Program} {w : World} {ρ : Rho}

theorem run_intOp {op : BinOp} {k : IntKind} {a b : Int} {r : SV} (h : intOp op k a b = some r) (t : TypeId) :
    ∃ v, (binOp op t (.int k a) (.int k b)).run P w = .ok v w ∧ r.rel ρ v := by
  cases op <;> simp only [intOp, bits2, Option.some.injEq, Option.map_some, reduceCtorEq] at h
  case quo =>
    split at h
    · cases h
    · rename_i h0; cases h; exact ⟨_, by simp [binOp, Op.intDiv, h0, go_sem], rfl⟩
  case rem =>
    split at h
    · cases h
    · rename_i h0; cases h; exact ⟨_, by simp [binOp, Op.intDiv, h0, go_sem], rfl⟩
  all_goals (subst h; exact ⟨_, by simp [binOp, Op.intArith, Op.intBits, Op.intCmp, go_sem], rfl⟩)

theorem run_shOp {op : BinOp} {k k' : IntKind} {a b : Int} {r : SV} (h : shOp op k a b = some r) (t : TypeId) :
    ∃ v, (binOp op t (.int k a) (.int k' b)).run P w = .ok v w ∧ r.rel ρ v := by
  unfold shOp at h
  split at h
  · cases h
  · rename_i hb
    cases op <;> simp only [Option.some.injEq, reduceCtorEq] at h
    all_goals (subst h; exact ⟨_, by simp [binOp, Op.shift, hb, go_sem], rfl⟩)

theorem bytesLt_eq : ∀ (a b : List UInt8), bytesLt a b = Op.bytesLess a b
  | _, [] => by cases ‹List UInt8› <;> simp [bytesLt, Op.bytesLess]
  | [], _ :: _ => rfl
  | a :: x, b :: y => by simp [bytesLt, Op.bytesLess, bytesLt_eq x y]

theorem run_strOp {op : BinOp} {a b : List UInt8} {r : SV} (h : strOp op a b = some r) (t : TypeId) :
    ∃ v, (binOp op t (.string ⟨a.toArray⟩) (.string ⟨b.toArray⟩)).run P w = .ok v w ∧ r.rel ρ v := by
  have h1 : (ByteArray.mk a.toArray).size = a.length := rfl
  have h2 : (ByteArray.mk b.toArray).size = b.length := rfl
  cases op <;> simp only [strOp, Option.some.injEq, reduceCtorEq] at h
  case add =>
    split at h
    · cases h
    · rename_i h0
      cases h
      refine ⟨.string (ByteArray.mk a.toArray ++ ByteArray.mk b.toArray), ?_, ?_⟩
      · have h3 : ¬ (((ByteArray.mk a.toArray).size + (ByteArray.mk b.toArray).size : Nat) : Int) > IntKind.i64.max := by
          rw [h1, h2]; simp [IntKind.max, IntKind.signed, IntKind.bits]; omega
        simp only [binOp, Op.stringOp, if_neg h3, Sem.run_pure]
      · show Value.string _ = _
        congr 1
  all_goals (subst h; exact ⟨_, by simp [binOp, Op.stringOp, bytesLt_eq, go_sem], rfl⟩)

theorem tyKind {E : Env} {t k : Nat} (h : ((E.ty t).map (·.kind)) = some k) : ∃ y, E.ty t = some y ∧ y.kind = k := by
  cases e : E.ty t with
  | none => simp [e] at h
  | some y => simp [e] at h; exact ⟨y, rfl, h⟩

theorem notO_some {neg b : Bool} {v : AV} (h : notO neg (some b) = some v) : v = .sc (.bool (if neg then !b else b)) := by
  simp [notO] at h; exact h.symm

theorem part_rel {E : Env} (hty : ∀ t y, E.ty t = some y → TyOk P t y) {t o : Nat} {cs : List SV} {arr : Array Value} {v : AV} (h : part E t cs o = some v) (hr : All2 (SV.rel ρ) cs arr.toList) :
    ∃ val, (Go.part t arr o).run P w = .ok val w ∧ v.rel ρ val := by
  unfold part at h
  split at h
  · cases h
  · rename_i y hy
    obtain ⟨i, d, z, hi, hd, _, hsz, _, _, _, _, _, _, _, k5, _, k6, kn⟩ := (hty t y hy).info
    split at h
    · rename_i hk
      split at h
      · rename_i hlen
        cases h
        have hagg : (isAgg t).run P w = .ok true w := by
          unfold isAgg
          rw [Sem.run_bind, run_underlying hd w]
          rcases hk with hk | hk
          · rw [k5 hk]; simp
          · obtain ⟨fs, e, _⟩ := k6 hk; rw [e]; simp
        refine ⟨.agg (arr.extract o (o + y.size)), ?_, ⟨_, rfl, ?_⟩⟩
        · simp [Go.part, Sem.run_bind, hagg, sizeOf, typeInfo, hi, hsz]
        · rw [Array.toList_extract, List.extract_eq_take_drop]
          rw [show o + y.size - o = y.size from by omega]
          exact (hr.drop o).take _
      · cases h
    · rename_i hk
      have hk : y.kind ≠ 5 ∧ y.kind ≠ 6 := by constructor <;> (intro e; exact hk (by simp [e]))
      have hagg : (isAgg t).run P w = .ok false w := by
        unfold isAgg
        rw [Sem.run_bind, run_underlying hd w]
        have := kn hk.1 hk.2
        cases d <;> simp_all
      cases e : cs[o]? with
      | none => simp [e] at h
      | some x =>
        simp [e] at h; subst h
        obtain ⟨val, hv, hx⟩ := hr.get o x e
        refine ⟨val, ?_, hx⟩
        have : arr[o]? = some val := by simpa using hv
        simp [Go.part, Sem.run_bind, hagg, this]

theorem eqC_kind {k : Nat} {u v : SV} {r : Bool} (h : eqC k u v = some r) : k ≠ 5 ∧ k ≠ 6 := by
  unfold eqC at h
  split at h <;> first | (constructor <;> omega) | cases h

theorem run_eqC {k : Nat} {u v : SV} {r : Bool} {t : TypeId} {y : Ty} (hy : TyOk P t y) (h : eqC y.kind u v = some r) {U V : Value} (hu : u.rel ρ U) (hv : v.rel ρ V) :
    (Op.equalIn (k + 1) t U V).run P w = .ok r w := by
  obtain ⟨i, d, z, hi, hd, _, hsz, _, _, _, k1, k2, k3, _⟩ := hy.info
  unfold eqC at h
  split at h
  · rename_i e
    split at h
    · rename_i e2
      subst e2
      cases h
      obtain rfl := hu
      obtain rfl := hv
      rw [k1 e] at hd
      exact run_equalIn_int w k t _ _ _ _ hd
    · cases h
  · rename_i e
    cases h
    obtain rfl := hu
    obtain rfl := hv
    rw [k2 e] at hd
    exact run_equalIn_bool' w k t _ _ hd
  · rename_i e
    cases h
    obtain rfl := hu
    obtain rfl := hv
    rw [k3 e] at hd
    rw [run_equalIn_string w k t _ _ hd]; simp
  · cases h

theorem run_part_one {E : Env} (hty : ∀ t y, E.ty t = some y → TyOk P t y) {t o : Nat} {y : Ty} (hy : E.ty t = some y) (h5 : y.kind ≠ 5) (h6 : y.kind ≠ 6) {cs : List SV} {arr : Array Value} {x : SV}
    (hx : cs[o]? = some x) (hr : All2 (SV.rel ρ) cs arr.toList) : ∃ val, (Go.part t arr o).run P w = .ok val w ∧ x.rel ρ val := by
  have : part E t cs o = some (.sc x) := by simp [part, hy, h5, h6, hx]
  exact part_rel hty this hr

theorem run_eqFields {E : Env} (hty : ∀ t y, E.ty t = some y → TyOk P t y) (d : Nat) {a b : List SV} {xs ys : Array Value} (ha : All2 (SV.rel ρ) a xs.toList) (hb : All2 (SV.rel ρ) b ys.toList) :
    ∀ (fs : List Field) (r : Bool), (∀ f ∈ fs, f.name ≠ "_") → eqFields E (fs.map (fieldSz P)) a b = some r → (Op.eqFields (d + 1) xs ys fs).run P w = .ok r w
  | [], r, _, h => by simp [eqFields] at h; subst h; simp [Op.eqFields]
  | f :: fs, r, hf, h => by
    simp only [List.map_cons, eqFields, fieldSz] at h
    split at h
    · rename_i y u v hy hu hv
      have hne := hf f (by simp)
      cases e : eqC y.kind u v with
      | none => simp [e] at h
      | some q =>
        have hk := eqC_kind e
        obtain ⟨U, hU, rU⟩ := run_part_one (P := P) (w := w) hty hy hk.1 hk.2 hu ha
        obtain ⟨V, hV, rV⟩ := run_part_one (P := P) (w := w) hty hy hk.1 hk.2 hv hb
        have hq := run_eqC (P := P) (w := w) (k := d) (hty _ _ hy) e rU rV
        simp only [Op.eqFields, if_pos hne, Sem.run_bind, hU, hV, hq, Result.andThen_ok, Sem.run_ite]
        cases q with
        | true => simp only [e] at h; simpa using run_eqFields hty d ha hb fs r (fun g hg => hf g (by simp [hg])) h
        | false => simp only [e, Option.some.injEq] at h; subst h; simp
    · cases h

theorem run_eqGuard_sc (op : BinOp) (t : TypeId) (x y : Operand) {X Y : Value} (h : (X = .nilIface → False)) (h2 : ∀ c, X ≠ .agg c) : (eqGuard op t x y X Y).run P w = .ok () w := by
  cases X with
  | nilIface => exact (h rfl).elim
  | agg c => exact (h2 c rfl).elim
  | _ => cases op <;> simp [eqGuard]

theorem run_eqOp {E : Env} (hty : ∀ t y, E.ty t = some y → TyOk P t y) {neg : Bool} {t : Nat} {x y v : AV} (h : eqOp E neg t x y = some v) {X Y : Value} (hx : x.rel ρ X) (hy : y.rel ρ Y) (xo yo : Operand) :
    ∃ val, (eqGuard (if neg then .neq else .eql) t xo yo X Y).run P w = .ok () w ∧ (binOp (if neg then .neq else .eql) t X Y).run P w = .ok val w ∧ v.rel ρ val := by
  have ptr : ∀ (p : Option Addr) (ty : Ty), E.ty t = some ty → ty.kind = 7 → (binOp (if neg then .neq else .eql) t (.pointer p) (.pointer none)).run P w = .ok (.bool (if neg then !p.isNone else p.isNone)) w := by
    intro p ty e hk
    obtain ⟨i, d, z, hi, hd, _, hsz, _, _, _, k1, k2, k3, k4, k5, k7, k6, kn⟩ := (hty _ _ e).info
    rw [k7 hk] at hd
    have : P.underlying t = some (.pointer (P.pointee t)) := by simp [Program.pointee, hd]
    cases neg
    · exact run_eql_pointer_nil w t p this
    · exact run_neq_pointer_nil w t p this
  have sl : ∀ (p : Option Addr) (n c : Nat) (ty : Ty), E.ty t = some ty → ty.kind = 4 → (binOp (if neg then .neq else .eql) t (.slice p n c) (.slice none 0 0)).run P w = .ok (.bool (if neg then !p.isNone else p.isNone)) w := by
    intro p n c ty e hk
    obtain ⟨i, d, z, hi, hd, _, hsz, _, _, _, k1, k2, k3, k4, k5, k7, k6, kn⟩ := (hty _ _ e).info
    rw [k4 hk] at hd
    cases neg
    · simp [binOp, Op.equal, Op.maxDepth]; rw [Op.equalIn]; simp [run_underlying hd, Sem.run_bind]; cases p <;> simp
    · simp [binOp, Op.equal, Op.maxDepth]; rw [Op.equalIn]; simp [run_underlying hd, Sem.run_bind]; cases p <;> simp
  unfold eqOp at h
  split at h
  · split at h
    · rename_i hk
      obtain ⟨ty, e, hk⟩ := tyKind hk
      obtain ⟨i, d, z, hi, hd, _, hsz, _, _, _, k1, k2, k3, k4, k5, k7, k6, kn⟩ := (hty _ _ e).info
      rw [k2 hk] at hd
      obtain rfl := notO_some h
      obtain rfl := hx
      obtain rfl := hy
      refine ⟨_, run_eqGuard_sc _ _ _ _ (by simp) (by simp), ?_, rfl⟩
      cases neg
      · exact run_eql_bool w t _ _ hd
      · exact run_neq_bool w t _ _ hd
    · cases h
  · split at h
    · rename_i hk
      obtain ⟨ty, e, hk⟩ := tyKind hk
      obtain rfl := notO_some h
      obtain rfl := hx
      obtain rfl := hy
      exact ⟨_, run_eqGuard_sc _ _ _ _ (by simp) (by simp), ptr _ ty e hk, rfl⟩
    · cases h
  · split at h
    · rename_i hk
      obtain ⟨ty, e, hk⟩ := tyKind hk
      obtain rfl := notO_some h
      obtain ⟨p, _, rfl⟩ := hx
      obtain rfl := hy
      exact ⟨_, run_eqGuard_sc _ _ _ _ (by simp) (by simp), ptr _ ty e hk, rfl⟩
    · cases h
  · split at h
    · rename_i hk
      obtain ⟨ty, e, hk⟩ := tyKind hk
      obtain rfl := notO_some h
      obtain rfl := hx
      obtain rfl := hy
      exact ⟨_, run_eqGuard_sc _ _ _ _ (by simp) (by simp), sl _ _ _ ty e hk, rfl⟩
    · cases h
  · split at h
    · rename_i hk
      obtain ⟨ty, e, hk⟩ := tyKind hk
      obtain rfl := notO_some h
      obtain ⟨p, cc, _, _, _, _, _, rfl⟩ := hx
      obtain rfl := hy
      exact ⟨_, run_eqGuard_sc _ _ _ _ (by simp) (by simp), sl _ _ _ ty e hk, rfl⟩
    · cases h
  · split at h
    · rename_i hk
      obtain ⟨ty, e, hk⟩ := tyKind hk
      obtain rfl := notO_some h
      obtain ⟨p, c, rfl⟩ := hx
      obtain rfl := hy
      exact ⟨_, run_eqGuard_sc _ _ _ _ (by simp) (by simp), sl _ _ _ ty e hk, rfl⟩
    · cases h
  · split at h
    · rename_i ty e
      split at h
      · rename_i hk
        obtain ⟨i, d, z, hi, hd, _, hsz, _, _, _, k1, k2, k3, k4, k5, k7, k6, kn⟩ := (hty _ _ e).info
        obtain ⟨fs, rfl, hf, hfs, hst, hgd⟩ := k6 hk
        obtain ⟨xs, rfl, ha⟩ := hx
        obtain ⟨ys, rfl, hb⟩ := hy
        have hfo : P.fieldsOf t = fs := by simp [Program.fieldsOf, hd]
        rw [hfs] at h
        cases q : eqFields E (fs.toList.map (fieldSz P)) _ _ with
        | none => rw [q] at h; simp [notO] at h
        | some r =>
          rw [q] at h
          obtain rfl := notO_some h
          have hr := run_eqFields (P := P) (w := w) hty 9998 ha hb fs.toList r (fun f hm => (hf f hm).2) q
          have hE : (Op.equalIn 10000 t (.agg xs) (.agg ys)).run P w = .ok r w := by
            rw [run_equalIn_struct w 9999 t xs ys (by rw [hfo]; exact hd) hst, hfo]; exact hr
          refine ⟨_, run_eqGuard_agg w _ t xo yo xs ys hgd, ?_, rfl⟩
          cases neg
          · rw [if_neg (by simp), run_eql_struct w t xs ys, hE]; rfl
          · rw [if_pos rfl, run_neq_struct w t xs ys, hE]; rfl
      · cases h
    · cases h
  · cases h

theorem run_binA {E : Env} (hty : ∀ t y, E.ty t = some y → TyOk P t y) {op : BinOp} {t : Nat} {x y v : AV} (h : binA E op t x y = some v) {X Y : Value} (hx : x.rel ρ X) (hy : y.rel ρ Y) (xo yo : Operand) :
    ∃ val, (eqGuard op t xo yo X Y).run P w = .ok () w ∧ (binOp op t X Y).run P w = .ok val w ∧ v.rel ρ val := by
  unfold binA at h
  split at h
  · obtain ⟨r, hr, rfl⟩ := Option.map_eq_some_iff.1 h
    obtain rfl := hx
    obtain rfl := hy
    obtain ⟨val, h1, h2⟩ := run_shOp (P := P) (w := w) (ρ := ρ) hr t
    exact ⟨val, run_eqGuard_sc _ _ _ _ (by simp) (by simp), h1, h2⟩
  · obtain ⟨r, hr, rfl⟩ := Option.map_eq_some_iff.1 h
    obtain rfl := hx
    obtain rfl := hy
    obtain ⟨val, h1, h2⟩ := run_shOp (P := P) (w := w) (ρ := ρ) hr t
    exact ⟨val, run_eqGuard_sc _ _ _ _ (by simp) (by simp), h1, h2⟩
  · split at h
    · rename_i e
      subst e
      obtain ⟨r, hr, rfl⟩ := Option.map_eq_some_iff.1 h
      obtain rfl := hx
      obtain rfl := hy
      obtain ⟨val, h1, h2⟩ := run_intOp (P := P) (w := w) (ρ := ρ) hr t
      exact ⟨val, run_eqGuard_sc _ _ _ _ (by simp) (by simp), h1, h2⟩
    · cases h
  · obtain ⟨r, hr, rfl⟩ := Option.map_eq_some_iff.1 h
    obtain rfl := hx
    obtain rfl := hy
    obtain ⟨val, h1, h2⟩ := run_strOp (P := P) (w := w) (ρ := ρ) hr t
    exact ⟨val, run_eqGuard_sc _ _ _ _ (by simp) (by simp), h1, h2⟩
  · exact run_eqOp hty (neg := false) h hx hy xo yo
  · exact run_eqOp hty (neg := true) h hx hy xo yo
  · cases h

theorem run_unA {op : UnOp} {x v : AV} (h : unA op x = some v) {X : Value} (hx : x.rel ρ X) : ∃ val, (Op.unary op X).run P w = .ok val w ∧ v.rel ρ val := by
  unfold unA at h
  split at h
  · cases h; obtain rfl := hx
    exact ⟨_, by simp [Op.unary, Op.intArith], rfl⟩
  · cases h; obtain rfl := hx
    exact ⟨_, by simp [Op.unary], rfl⟩
  · cases h

theorem add_mid (b o j : Nat) : (⟨b, o, none⟩ : Addr).add j = ⟨b, o + j, none⟩ := Addr.add_mid b o j

theorem cell?_of {b : Nat} {arr : Array Value} {T : TypeId} {fz : Nat × Nat} (h : w.heap[b]? = some (.cells arr T fz)) (o : Nat) : w.cell? ⟨b, o, none⟩ = arr[o]? := by
  simp [World.cell?, h]

theorem run_loadA {E : Env} (hty : ∀ t y, E.ty t = some y → TyOk P t y) {B fl0 : Nat} {w0 : World} {m : Mem} (hm : MemRel B fl0 w0 ρ m w) {lim : Option Nat} {t : Nat} {x v : AV} (h : loadA E lim t m x = some v) {X : Value} (hx : x.rel ρ X) :
    ∃ val, (Instr.loadAt t X).run P w = .ok val w ∧ v.rel ρ val := by
  unfold loadA at h
  split at h
  · rename_i i o
    split at h
    · split at h
      · rename_i cs hcs
        obtain ⟨p, hp, rfl⟩ := hx
        obtain ⟨q, hq, hb, _⟩ := hm.mem i cs hcs
        rw [hp] at hq; cases hq
        obtain ⟨arr, T, fz, h1, h2, h3, h4, h5⟩ := hb.at_
        have hcell : ∀ k u, cs[k]? = some u → ∃ val, w.cell? ⟨p.b, p.base + k, none⟩ = some val ∧ u.rel ρ val := by
          intro k u hu
          obtain ⟨val, hv, hr⟩ := h4.get k u hu
          refine ⟨val, ?_, hr⟩
          rw [cell?_of h1]
          rw [List.getElem?_take, List.getElem?_drop] at hv
          split at hv
          · simpa using hv
          · cases hv
        unfold part at h
        split at h
        · cases h
        · rename_i y hy
          obtain ⟨i', d, z, hi, hd, _, hsz, _, _, _, _, _, _, _, k5, _, k6, kn⟩ := (hty t y hy).info
          split at h
          · rename_i hk
            split at h
            · rename_i hlen
              cases h
              have hrow : d.isRow = true := by
                rcases hk with hk | hk
                · rw [k5 hk]
                · obtain ⟨fs, e, _⟩ := k6 hk; rw [e]
              have hseg : All2 (SV.rel ρ) ((cs.drop o).take y.size) ((arr.toList.drop (p.base + o)).take y.size) := by
                have := (h4.drop o).take y.size
                have e : ((arr.toList.drop p.base).take cs.length).drop o = (arr.toList.drop (p.base + o)).take (cs.length - o) := by
                  rw [List.drop_take, List.drop_drop]
                rw [e, List.take_take, Nat.min_eq_left (by omega)] at this
                exact this
              refine ⟨.agg ((arr.toList.drop (p.base + o)).take y.size).toArray, ?_, ⟨_, rfl, hseg⟩⟩
              refine run_loadAt_mid w p.b (p.base + o) t ((arr.toList.drop (p.base + o)).take y.size) d ?_ hd hrow ?_
              · intro j u hu
                rw [cell?_of h1]
                rw [List.getElem?_take, List.getElem?_drop] at hu
                split at hu
                · simpa using hu
                · cases hu
              · simp [hi, hsz]; omega
            · cases h
          · rename_i hk
            have hk : y.kind ≠ 5 ∧ y.kind ≠ 6 := by constructor <;> (intro e; exact hk (by simp [e]))
            have hagg : (isAgg t).run P w = .ok false w := by
              unfold isAgg
              rw [Sem.run_bind, run_underlying hd w]
              have := kn hk.1 hk.2
              cases d <;> simp_all
            cases e : cs[o]? with
            | none => simp [e] at h
            | some u =>
              simp [e] at h; subst h
              obtain ⟨val, hv, hr⟩ := hcell o u e
              refine ⟨val, ?_, hr⟩
              simp [Instr.loadAt, Instr.sureAddr, loadVar, Sem.run_bind, hagg, run_load, hv]
      · cases h
    · cases h
  · cases h

end ops
end Go.Am

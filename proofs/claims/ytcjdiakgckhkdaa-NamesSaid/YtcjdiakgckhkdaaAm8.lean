/- One step of the abstract machine, and plain regions. -/
import Derived.Test.YtcjdiakgckhkdaaAm7
namespace Go.Am
open Go.RowKit

/-- What every run keeps: numbers only grow; blocks that are old and below the floor stay. -/
def Keeps (fl n : Nat) (m m' : Mem) (n' : Nat) : Prop := n ≤ n' ∧ ∀ i, i < fl → i < n → m'.get i = m.get i

theorem Keeps.refl (fl n : Nat) (m : Mem) : Keeps fl n m m n := ⟨Nat.le_refl _, fun _ _ _ => rfl⟩
theorem Keeps.trans {fl n n1 n2 : Nat} {m m1 m2 : Mem} (h : Keeps fl n m m1 n1) (k : Keeps fl n1 m1 m2 n2) : Keeps fl n m m2 n2 :=
  ⟨Nat.le_trans h.1 k.1, fun i hi hn => (k.2 i hi (Nat.lt_of_lt_of_le hn h.1)).trans (h.2 i hi hn)⟩
theorem Keeps.low {fl fl' n n' : Nat} {m m' : Mem} (h : Keeps fl n m m' n') (hle : fl' ≤ fl) : Keeps fl' n m m' n' :=
  ⟨h.1, fun i hi hn => h.2 i (Nat.lt_of_lt_of_le hi hle) hn⟩
theorem Keeps.new {fl n : Nat} {m : Mem} (l : List SV) : Keeps fl n m (m.set n l) (n + 1) :=
  ⟨Nat.le_succ n, fun i _ hn => Tr.get_set_ne _ _ (by omega)⟩
theorem Keeps.set {fl n i : Nat} {m : Mem} (h : fl ≤ i) (l : List SV) : Keeps fl n m (m.set i l) n :=
  ⟨Nat.le_refl _, fun j hj _ => Tr.get_set_ne _ _ (by omega)⟩
theorem Keeps.killNew {fl n i : Nat} {m : Mem} (h : fl ≤ i) (l : List SV) : Keeps fl n m ((m.upd i none).set n l) (n + 1) :=
  ⟨Nat.le_succ n, fun j hj hn => by rw [Tr.get_set_ne _ _ (by omega), Tr.get_upd_ne _ _ (by omega)]⟩

def CallKeeps (call : CallF) : Prop := ∀ fl f args m n v m' n', call fl f args m n = some (v, m', n') → Keeps fl n m m' n'

theorem appendTo_keeps {fl n n' k j : Nat} {e : Ty} {s v : AV} {old new : List SV} {m m' : Mem} (h : appendTo fl e s old new k j m n = some (v, m', n')) : Keeps fl n m m' n' := by
  unfold appendTo at h
  split at h
  · cases h
  · split at h
    · split at h
      · cases h
      · split at h
        · split at h
          · split at h
            · cases h; exact Keeps.set (by omega) _
            · cases h
          · cases h
        · split at h
          · cases h
          · cases h; exact Keeps.killNew (by omega) _
    · split at h
      · cases h; exact Keeps.refl _ _ _
      · cases h; exact Keeps.new _
    · cases h

theorem map_keeps {fl n n' : Nat} {α : Type} {o : Option α} {g : α → AV} {v : AV} {m m' : Mem} (h : (o.map fun a => (g a, m, n)) = some (v, m', n')) : Keeps fl n m m' n' := by
  obtain ⟨u, _, hh⟩ := Option.map_eq_some_iff.1 h
  simp only [Prod.mk.injEq] at hh; obtain ⟨_, rfl, rfl⟩ := hh
  exact Keeps.refl _ _ _

theorem builtinA_keeps {E : Env} {fl n n' : Nat} {b : Builtin} {ts : Array TypeId} {args : List AV} {v : AV} {m m' : Mem} (h : builtinA E fl b ts args m n = some (v, m', n')) : Keeps fl n m m' n' := by
  unfold builtinA at h
  split at h
  · exact map_keeps h
  · split at h
    · unfold appendA at h
      repeat' split at h
      all_goals first | exact appendTo_keeps h | cases h
    · split at h
      · unfold appendZA at h
        repeat' split at h
        all_goals first | exact appendTo_keeps h | cases h
      · cases h
  · split at h
    · unfold copyA at h
      repeat' split at h
      all_goals first
        | (cases h; done)
        | (simp only [] at h; repeat' split at h)
      all_goals first
        | (cases h; done)
        | (cases h; exact Keeps.set (by omega) _)
        | (cases h; exact Keeps.refl _ _ _)
    · cases h
  · unfold clearA at h
    repeat' split at h
    all_goals first
      | (cases h; done)
      | (cases h; exact Keeps.set (by omega) _)
      | (cases h; exact Keeps.refl _ _ _)
  · split at h
    · cases h; exact Keeps.refl _ _ _
    · cases h
  · exact map_keeps h
  · exact map_keeps h
  · cases h

theorem opA_keeps {E : Env} {call : CallF} (hcall : CallKeeps call) {fl n n' : Nat} {lim : Option Nat} {ev : Operand → AV} {op : Op} {v : AV} {m m' : Mem} (h : opA E call fl lim ev m n op = some (v, m', n')) : Keeps fl n m m' n' := by
  cases op with
  | move x => simp only [opA, Option.some.injEq, Prod.mk.injEq] at h; obtain ⟨_, rfl, rfl⟩ := h; exact Keeps.refl _ _ _
  | assign x => simp only [opA, Option.some.injEq, Prod.mk.injEq] at h; obtain ⟨_, rfl, rfl⟩ := h; exact Keeps.refl _ _ _
  | pick c x y =>
    simp only [opA] at h; split at h
    · cases h; exact Keeps.refl _ _ _
    · cases h
  | alloc e => simp only [opA] at h; split at h <;> cases h; exact Keeps.new _
  | box e x => simp only [opA] at h; split at h <;> cases h; exact Keeps.new _
  | build t ps =>
    simp only [opA] at h
    split at h
    · split at h
      · exact map_keeps h
      · split at h
        · split at h
          · exact map_keeps h
          · cases h
        · cases h
    · cases h
  | buildSlice t len ps =>
    simp only [opA] at h
    repeat' split at h
    all_goals first
      | (cases h; done)
      | (cases h; exact Keeps.new _)
  | load t x => exact map_keeps h
  | store t x y =>
    obtain ⟨u, hu, hh⟩ := Option.map_eq_some_iff.1 h
    simp only [Prod.mk.injEq] at hh; obtain ⟨_, rfl, rfl⟩ := hh
    unfold storeA at hu
    repeat' split at hu
    all_goals first
      | (cases hu; done)
      | (cases hu; exact Keeps.set (by omega) _)
  | nilCheck x =>
    simp only [opA] at h
    split at h <;> cases h <;> exact Keeps.refl _ _ _
  | binOp op t x y u => exact map_keeps h
  | unOp op t x => exact map_keeps h
  | convert s d x =>
    simp only [opA, convA] at h
    repeat' split at h
    all_goals first
      | (cases h; done)
      | (cases h; exact Keeps.new _)
      | (cases h; exact Keeps.refl _ _ _)
  | makeFunc fn first caps =>
    simp only [opA] at h
    repeat' split at h
    all_goals first
      | (cases h; done)
      | (cases h; exact Keeps.refl _ _ _)
  | makeSlice t l c =>
    simp only [opA, makeSliceA] at h
    repeat' split at h
    all_goals first
      | (cases h; done)
      | (cases h; exact Keeps.new _)
  | slice t x lo hi mx => exact map_keeps h
  | fieldAddr t x f =>
    simp only [opA] at h
    repeat' split at h
    all_goals first
      | (cases h; done)
      | (cases h; exact Keeps.refl _ _ _)
  | field t x f =>
    simp only [opA] at h
    repeat' split at h
    all_goals first
      | (cases h; done)
      | exact map_keeps h
  | indexAddr t x i => exact map_keeps h
  | index t x i => exact map_keeps h
  | extract x i =>
    simp only [opA] at h
    split at h
    · exact map_keeps h
    · cases h
  | call c =>
    simp only [opA, callA] at h
    split at h
    · exact builtinA_keeps h
    · split at h
      · exact hcall _ _ _ _ _ _ _ _ h
      · cases h
    · cases h
  | _ => simp [opA] at h

section step
variable {P : Program} {B fl0 : Nat} {w0 : World} {E : Env}

/-- What the machine's tables say of the program. -/
structure EnvOk (P : Program) (E : Env) : Prop where
  ty : ∀ t y, E.ty t = some y → TyOk P t y
  mixed : P.follows .mixedOrders = true

/-- A state of the machine, and the model's. -/
structure StRel (B fl0 : Nat) (w0 : World) (N : Nat) (ρ : Rho) (s : St) (a : Act) (w : World) : Prop where
  mem : MemRel B fl0 w0 ρ s.m w
  tmps : ∀ d, ((s.t.get d).getD (.tup [])).rel ρ (a.tmps.getD d undef)
  size : N ≤ a.tmps.size
  defers : a.defers = []
  low : fl0 ≤ s.n

theorem StRel.ev {N : Nat} {ρ : Rho} {s : St} {a : Act} {w : World} (h : StRel B fl0 w0 N ρ s a w) (x : Operand) : (s.ev x).rel ρ (a.eval x) := by
  cases x with
  | tmp t => exact h.tmps t
  | const v => exact ofV_rel ρ v
  | global g => trivial
  | func f => exact ⟨#[], rfl, trivial⟩

theorem put_tmps {ρ : Rho} {t : Tr AV} {a : Act} {v : AV} {val : Value} {d : Nat} (hd : d < a.tmps.size) (h : ∀ d, ((t.get d).getD (.tup [])).rel ρ (a.tmps.getD d undef)) (hv : v.rel ρ val) :
    ∀ q, (((t.set d v).get q).getD (.tup [])).rel ρ ((a.tmps.setIfInBounds d val).getD q undef) := by
  intro q
  rw [Tr.get_set]
  by_cases e : q = d
  · subst e
    rw [if_pos rfl]
    simp only [Option.getD_some]
    rw [Array.getD_eq_getD_getElem?, Array.getElem?_setIfInBounds]
    simpa [hd] using hv
  · rw [if_neg e]
    have := h q
    rw [Array.getD_eq_getD_getElem?] at this ⊢
    rw [Array.getElem?_setIfInBounds, if_neg (fun e' => e e'.symm)]
    exact this

theorem StRel.put {N : Nat} {ρ ρ' : Rho} {s : St} {a : Act} {w w' : World} (h : StRel B fl0 w0 N ρ s a w) {dst : Option Nat} (hd : ∀ d, dst = some d → d < N) {v : AV} {val : Value} {m' : Mem} {n' : Nat} (hext : Ext ρ ρ')
    (hm : MemRel B fl0 w0 ρ' m' w') (hv : v.rel ρ' val) (hn : fl0 ≤ n') : StRel B fl0 w0 N ρ' (s.put dst v m' n') (a.put dst val) w' := by
  have ht : ∀ d, ((s.t.get d).getD (.tup [])).rel ρ' (a.tmps.getD d undef) := fun d => AV.rel_ext hext (h.tmps d)
  cases dst with
  | none => exact ⟨hm, ht, h.size, h.defers, hn⟩
  | some d =>
    have hdN := hd d rfl
    exact ⟨hm, put_tmps (Nat.lt_of_lt_of_le hdN h.size) ht hv, by simpa [Act.put] using h.size, h.defers, hn⟩

theorem wanted_of {N : Nat} {ρ : Rho} {s : St} {a : Act} {w : World} (h : StRel B fl0 w0 N ρ s a w) {ops : Array Oper} {o : Oper} {b : Bool} (hw : wantedA ops s o = some b) : Region.wanted o (yielded ops a.tmps) = b := by
  unfold wantedA at hw
  unfold Region.wanted
  split at hw
  · rename_i e; rw [e]; simpa using hw
  · rename_i j want e
    rw [e]
    simp only
    split at hw
    · cases hw
    · rename_i d hd
      have hr := h.tmps d
      unfold yielded
      rw [hd]
      simp only [Option.bind_some]
      split at hw
      · rename_i q hq
        rw [hq] at hr
        simp only [Option.getD_some] at hr
        have hr : a.tmps.getD d undef = .bool q := hr
        rw [Array.getD_eq_getD_getElem?] at hr
        cases e2 : a.tmps[d]? with
        | none => rw [e2] at hr; simp [undef] at hr
        | some x =>
          rw [e2] at hr
          simp only [Option.getD_some] at hr
          subst hr
          simp only [Option.some.injEq] at hw
          rw [← hw]
          simp
      · rename_i hq
        rw [hq] at hr
        simp only [Option.getD_some] at hr
        obtain ⟨vs, hv, _⟩ := hr
        simp only [Option.some.injEq] at hw
        rw [← hw]
        rw [Array.getD_eq_getD_getElem?] at hv
        cases e2 : a.tmps[d]? with
        | none => simp
        | some x =>
          rw [e2] at hv
          simp only [Option.getD_some] at hv
          subst hv
          simp
      · cases hw

/-- A function's machine runs as the function does. -/
def CallOk (P : Program) (B fl0 : Nat) (w0 : World) (call : CallF) : Prop :=
  ∀ fl f args m n v m' n', fl0 ≤ fl → fl0 ≤ n → call fl f args m n = some (v, m', n') → ∀ ρ w (vals : Array Value), MemRel B fl0 w0 ρ m w → All2 (AV.rel ρ) args vals.toList → (∀ i, n ≤ i → i < n' → ρ i = none) →
    (∃ fn, P.funcs[f]? = some fn ∧ (fn.name == "runtime.NumGoroutine") = false ∧ fn.body.isNone = false) ∧
    Calls P f vals w fun e w' => ∃ val ρ', e = .returned val ∧ Ext ρ ρ' ∧ (∀ i, ρ' i ≠ none → ρ i ≠ none ∨ (n ≤ i ∧ i < n')) ∧ MemRel B fl0 w0 ρ' m' w' ∧ v.rel ρ' val

theorem step_sound (hE : EnvOk P E) {call : CallF} (hcall : CallOk P B fl0 w0 call) {fl N i : Nat} (hfl : fl0 ≤ fl) {lim : Option Nat} {ops : Array Oper} {o : Oper} {s s' : St} {ρ : Rho} {a : Act} {w : World} {Q : Exit → Act → World → Prop} {K : Act → World → Prop}
    (hck : CallKeeps call) (h : StRel B fl0 w0 N ρ s a w) (ho : ops[i]? = some o) (hd : ∀ d, o.dst = some d → d < N) (hs : stepA E call fl lim ops o s = some s') (hfresh : ∀ q, s.n ≤ q → q < s'.n → ρ q = none)
    (hK : ∀ ρ' a' w', Ext ρ ρ' → (∀ q, ρ' q ≠ none → ρ q ≠ none ∨ (s.n ≤ q ∧ q < s'.n)) → StRel B fl0 w0 N ρ' s' a' w' → K a' w') : wpOp P ops Q i K a w := by
  unfold stepA at hs
  unfold wpOp
  rw [ho]
  simp only
  split at hs
  · rename_i hw
    rw [wanted_of h hw]
    simp only [if_true]
    left
    split at hs
    · rename_i v m' n' hop
      simp only [Option.some.injEq] at hs
      subst hs
      have hn' : (s.put o.dst v m' n').n = n' := by cases o.dst <;> rfl
      rw [hn'] at hfresh hK
      have hkeep := opA_keeps hck hop
      have hlow : fl0 ≤ n' := Nat.le_trans h.low hkeep.1
      by_cases hc : isCall o.op = false
      · obtain ⟨r, w', ρ', val, hr, hrv, hext, hdom, hm, hv⟩ := op_gives (P := P) (a := a) hE.ty h.mem hfl h.low h.ev hc hop hfresh
        unfold Oper.wp
        rw [hr]
        have := hK ρ' (a.put o.dst val) w' hext hdom (h.put hd hext hm hv hlow)
        rcases hrv with rfl | ⟨rfl, rfl⟩
        · exact this
        · exact this
      · obtain ⟨dst, op, typ, pos, after, guard⟩ := o
        simp only at hop hc hd hK ⊢
        cases op <;> try (simp [isCall] at hc; done)
        rename_i c
        obtain ⟨callee, xs, ats⟩ := c
        cases callee <;> try (simp [isCall] at hc; done)
        rename_i f
        simp only [opA, callA] at hop
        split at hop
        · rename_i g caps hg
          have hf := h.ev f
          rw [hg] at hf
          obtain ⟨cs, hF, hcs⟩ := hf
          have hargs : All2 (AV.rel ρ) (xs.toList.map s.ev ++ caps.map fun p => .sc (.ptr p.1 p.2)) (xs.map a.eval ++ cs).toList := by
            rw [Array.toList_append, Array.toList_map]
            refine All2.append (All2.map_self _ _ h.ev _) ?_
            exact All2.map_left (R := AV.rel ρ) (fun p : Nat × Nat => AV.sc (.ptr p.1 p.2)) hcs
          obtain ⟨⟨fn, hfn, hname, hbody⟩, hC⟩ := hcall fl g _ s.m s.n v m' n' hfl h.low hop ρ w _ h.mem hargs hfresh
          have hrun : (execOp a.eval ⟨dst, .call ⟨.value f, xs, ats⟩, typ, pos, after, guard⟩).run P w = .ok (.enter g (xs.map a.eval ++ cs)) w := by
            have hname' : fn.name ≠ "runtime.NumGoroutine" := by simpa using hname
            have hbody' : fn.body ≠ none := by intro e; simp [e] at hbody
            simp [execOp, resolve, Deferred.ofValue, hF, invoke, callFunc, hfn, hname', hbody']
          unfold Oper.wp
          rw [hrun]
          refine Calls.mono hC ?_
          rintro e w' ⟨val, ρ', rfl, hext, hdom, hm, hv⟩
          exact hK ρ' _ w' hext hdom (h.put hd hext hm hv hlow)
        · cases hop
    · cases hs
  · rename_i hw
    rw [wanted_of h hw]
    simp only [Bool.false_eq_true, if_false]
    simp only [Option.some.injEq] at hs
    subst hs
    have hn' : (s.put o.dst (.tup []) s.m s.n).n = s.n := by cases o.dst <;> rfl
    exact hK ρ _ w (Ext.refl _) (fun _ hq => .inl hq) (h.put hd (Ext.refl _) h.mem AV.rel_undef h.low)
  · cases hs

end step
end Go.Am

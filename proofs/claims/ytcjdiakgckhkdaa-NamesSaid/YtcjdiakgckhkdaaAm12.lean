/- The machine's runs are the model's: code, calls. -/
import Derived.Test.YtcjdiakgckhkdaaAm11
import Derived.LoopN
namespace Go.Am
open Go.RowKit

def dstOk (N : Nat) : Code → Bool
  | .region _ ops _ => ops.toList.all fun o => match o.dst with
    | some d => decide (d < N)
    | none => true
  | .seq a b => dstOk N a && dstOk N b
  | .cond _ a b => dstOk N a && dstOk N b
  | .block _ b => dstOk N b
  | .loop b => dstOk N b
  | _ => true

/-- A row of the machine's table of functions says what the program's function is. -/
structure FnOk (P : Program) (f : FuncId) (fi : Fi) : Prop where
  h : ∃ fn, P.funcs[f]? = some fn ∧ fn.body = some fi.body ∧ fn.ntmps = fi.ntmps ∧ fn.results.toList = fi.results ∧ (fn.name == "runtime.NumGoroutine") = false ∧ codeOk fi.loose fi.body = true ∧ dstOk fi.ntmps fi.body = true

def AE.toExit : AE → Exit
  | .normal => .normal
  | .exit id => .exit id
  | .ret => .ret

section code
variable {P : Program} {B fl0 : Nat} {w0 : World} {E : Env}

theorem opsA_keeps {call : CallF} (hck : CallKeeps call) {fl : Nat} {lim : Option Nat} {ops : Array Oper} : ∀ (os : List Oper) (s s' : St), opsA E call fl lim ops os s = some s' → Keeps fl s.n s.m s'.m s'.n
  | [], s, s', h => by simp only [opsA, Option.some.injEq] at h; subst h; exact Keeps.refl _ _ _
  | o :: os, s, s', h => by
    simp only [opsA] at h
    split at h
    · rename_i s1 h1
      rw [stepA_eq] at h1
      obtain ⟨⟨v, m1, k1⟩, hw, hs1⟩ := Option.map_eq_some_iff.1 h1
      rw [put_eq] at hs1
      subst hs1
      refine Keeps.trans ?_ (opsA_keeps hck os _ s' h)
      unfold opW at hw
      split at hw
      · exact opA_keeps hck hw
      · simp only [Option.some.injEq, Prod.mk.injEq] at hw
        obtain ⟨_, rfl, rfl⟩ := hw
        exact Keeps.refl _ _ _
      · cases hw
    · cases h

theorem ops_sound (hE : EnvOk P E) {call : CallF} (hcall : CallOk P B fl0 w0 call) (hck : CallKeeps call) {fl N : Nat} (hfl : fl0 ≤ fl) {lim : Option Nat} {ops : Array Oper} {Q : Exit → Act → World → Prop} :
    ∀ (os : List Oper) (j : Nat) (s s' : St) (ρ : Rho) (a : Act) (w : World), (∀ q o, os[q]? = some o → ops[j + q]? = some o) → (∀ o ∈ os, ∀ d, o.dst = some d → d < N) → opsA E call fl lim ops os s = some s' →
      StRel B fl0 w0 N ρ s a w → (∀ q, s.n ≤ q → q < s'.n → ρ q = none) →
      (∀ ρ' a' w', Ext ρ ρ' → (∀ q, ρ' q ≠ none → ρ q ≠ none ∨ (s.n ≤ q ∧ q < s'.n)) → StRel B fl0 w0 N ρ' s' a' w' → Q .normal a' w') → wpOps P ops Q (List.range' j os.length) a w
  | [], j, s, s', ρ, a, w, _, _, h, hrel, _, hQ => by
    simp only [opsA, Option.some.injEq] at h
    subst h
    exact hQ ρ a w (Ext.refl _) (fun _ h => .inl h) hrel
  | o :: os, j, s, s', ρ, a, w, ho, hd, h, hrel, hfresh, hQ => by
    simp only [opsA] at h
    split at h
    · rename_i s1 h1
      rw [List.length_cons, List.range'_succ, wpOps_cons]
      have k1 : Keeps fl s.n s.m s1.m s1.n := opsA_keeps (E := E) (call := call) (lim := lim) (ops := ops) hck [o] s s1 (by simp only [opsA, h1])
      have k2 := opsA_keeps hck os s1 s' h
      refine step_sound hE hcall hfl hck hrel (by simpa using ho 0 o rfl) (hd o (by simp)) h1 (fun q h1 h2 => hfresh q h1 (by have := k2.1; omega)) ?_
      intro ρ' a' w' hext hdom hrel'
      refine ops_sound hE hcall hck hfl os (j + 1) s1 s' ρ' a' w' (fun q o' hq => by have := ho (q + 1) o' (by simpa using hq); rw [← this]; congr 1; omega) (fun o' ho' => hd o' (by simp [ho'])) h hrel' ?_ ?_
      · intro q h1 h2
        by_cases hn : ρ' q = none
        · exact hn
        · exfalso
          rcases hdom q hn with h | ⟨_, h4⟩
          · exact h (hfresh q (by have := k1.1; omega) h2)
          · omega
      · intro ρ'' a'' w'' hext2 hdom2 hrel2
        refine hQ ρ'' a'' w'' (hext.trans hext2) (fun q hq => ?_) hrel2
        rcases hdom2 q hq with h | h
        · rcases hdom q h with h | h
          · exact .inl h
          · exact .inr ⟨h.1, by have := k2.1; omega⟩
        · exact .inr ⟨by have := k1.1; omega, h.2⟩
    · cases h

theorem callF_tight {call : CallF} (hck : CallKeeps call) : CallTight (fun fl' f args m n => call (max fl' n) f args m n) := by
  intro fl f args m n v m' n' h
  have := hck _ _ _ _ _ _ _ _ h
  exact ⟨this.1, fun i hi => this.2 i (by omega) hi⟩

/-- The calls of a region that draws. -/
def callD (call : CallF) (loose : Bool) : CallF := fun fl' f args m n => call (if loose then max fl' n else fl') f args m n

theorem callD_keeps {call : CallF} (hck : CallKeeps call) (loose : Bool) : CallKeeps (callD call loose) := by
  intro fl f args m n v m' n' h
  unfold callD at h
  have := hck _ _ _ _ _ _ _ _ h
  exact this.low (by split <;> omega)

theorem callD_ok {call : CallF} (h : CallOk P B fl0 w0 call) (loose : Bool) : CallOk P B fl0 w0 (callD call loose) := by
  intro fl f args m n v m' n' h1 h2 h3
  exact h _ f args m n v m' n' (by split <;> omega) h2 h3

theorem callD_tight {call : CallF} (hck : CallKeeps call) {loose : Bool} (hl : loose = true) : CallTight (callD call loose) := by
  subst hl
  exact callF_tight hck

theorem region_sound (hE : EnvOk P E) {call : CallF} (hcall : CallOk P B fl0 w0 call) (hck : CallKeeps call) {fl N : Nat} (hfl : fl0 ≤ fl) {id : Nat} {ops : Array Oper} {draw loose : Bool} (hok : draw = true → drawOk ops loose = true)
    (hd : ∀ o ∈ ops.toList, ∀ d, o.dst = some d → d < N) {s s' : St}
    (h : (if draw then opsA E (callD call loose) fl (if plainOps ops then none else some s.n) ops ops.toList s else opsA E call fl none ops ops.toList s) = some s') {Q : Exit → Act → World → Prop} {ρ : Rho} {a : Act} {w : World}
    (hrel : StRel B fl0 w0 N ρ s a w) (hfresh : ∀ q, s.n ≤ q → q < s'.n → ρ q = none)
    (hQ : ∀ ρ' a' w', Ext ρ ρ' → (∀ q, ρ' q ≠ none → ρ q ≠ none ∨ (s.n ≤ q ∧ q < s'.n)) → StRel B fl0 w0 N ρ' s' a' w' → Q .normal a' w') : (Code.region id ops draw).wp P Q a w := by
  cases draw with
  | false =>
    simp only [Bool.false_eq_true, if_false] at h
    refine wp_region ?_
    have := ops_sound hE hcall hck hfl (Q := Q) ops.toList 0 s s' ρ a w (fun q o hq => by simpa using hq) hd h hrel hfresh hQ
    rw [Array.length_toList, ← List.range_eq_range'] at this
    exact this
  | true =>
    simp only [if_true] at h
    have hck' := callD_keeps hck loose
    obtain ⟨asg, a1, a2, a3, a4⟩ := asg_of_opsA hck' ops.toList 0 s s' (fun q o hq => by simpa using hq) h
    refine wp_region_any hE.mixed ?_
    have hrel' : StRel B fl0 w0 N ρ ⟨s.t, s.m, s.n⟩ a { w with drawn := w.drawn + 1 } := ⟨hrel.mem.drewn _, hrel.tmps, hrel.size, hrel.defers, hrel.low⟩
    have hk := (opsA_keeps hck' ops.toList s s' h).1
    have hlen : asg.length = ops.size := by
      have := congrArg List.length a2
      simpa using this
    have hidx : ∀ e ∈ asg, e.i < ops.size := by
      intro e he
      have : e.i ∈ asg.map (·.i) := List.mem_map_of_mem he
      rw [a2] at this
      simpa using this
    have hun : ∀ i, i < ops.size → (Array.replicate ops.size false).getD i true = false := by
      intro i hi
      rw [Array.getD_eq_getD_getElem?, Array.getElem?_eq_getElem (by simpa using hi)]
      simp
    refine drawn_sound hE (callD_ok hcall loose) hck' (fun hl => callD_tight hck hl) hfl (hok rfl) hd ?_ (Nat.le_trans hrel.low hk) ops.size asg _ s.t s.m s.n s.n ρ a _ (by omega) (by simp) ?_ ?_ ?_ ?_ a4 hrel.low ?_ ?_ hrel' a1 hQ
    · intro hl
      cases hp : plainOps ops with
      | true => rfl
      | false => rw [hp] at hl; simp at hl
    · intro e he
      exact ⟨hidx e he, hun _ (hidx e he), (a3 e he).1⟩
    · intro i hi _
      have : i ∈ asg.map (·.i) := by rw [a2]; simp [hi]
      obtain ⟨e, he, rfl⟩ := List.mem_map.1 this
      exact ⟨e, he, rfl⟩
    · rw [← List.pairwise_map, a2]
      exact List.pairwise_lt_range'
    · intro q hq hl
      rw [hun q hq] at hl; cases hl
    · intro l hl
      cases hp : plainOps ops with
      | true => rw [hp] at hl; simp at hl
      | false => rw [hp] at hl; simp at hl; omega
    · intro e he q h1 h2
      obtain ⟨b1, b2, b3⟩ := Asc.mem _ _ a4 e he
      exact hfresh q (by omega) (by omega)

theorem resA_rel (hE : EnvOk P E) {N : Nat} {ρ : Rho} {s : St} {a : Act} {w : World} (hrel : StRel B fl0 w0 N ρ s a w) : ∀ (rs : List ResultVar) (vs : List AV), resultsA E s rs = some vs →
    ∃ vals : List Value, (rs.mapM fun (r : ResultVar) => (match r with | .tmp t => Pure.pure (a.tmps.getD t undef) | .cell q t => do loadVar t (← asAddr (a.tmps.getD q undef)) : Sem Value)).run P w = .ok vals w ∧ All2 (AV.rel ρ) vs vals
  | [], vs, h => by simp only [resultsA, Option.some.injEq] at h; subst h; exact ⟨[], by simp, trivial⟩
  | r :: rs, vs, h => by
    simp only [resultsA] at h
    split at h
    · rename_i v vs' h1 h2
      cases h
      obtain ⟨vals, hr, hv⟩ := resA_rel hE hrel rs vs' h2
      have : ∃ val, (match r with | .tmp t => Pure.pure (a.tmps.getD t undef) | .cell q t => do loadVar t (← asAddr (a.tmps.getD q undef)) : Sem Value).run P w = .ok val w ∧ v.rel ρ val := by
        cases r with
        | tmp t =>
          simp only [resA, Option.some.injEq] at h1
          subst h1
          exact ⟨_, by simp, hrel.tmps t⟩
        | cell q t =>
          simp only [resA] at h1
          obtain ⟨val, h3, h4⟩ := run_loadA (P := P) hE.ty hrel.mem h1 (hrel.tmps q)
          refine ⟨val, ?_, h4⟩
          show (do loadVar t (← asAddr (a.tmps.getD q undef)) : Sem Value).run P w = .ok val w
          generalize a.tmps.getD q undef = X at h3 ⊢
          have hX : ∃ ad, X = .pointer (some ad) := by
            cases X with
            | pointer p => cases p with
              | none => simp [Instr.loadAt, Instr.sureAddr, stuck, Sem.run] at h3
              | some ad => exact ⟨ad, rfl⟩
            | _ => simp [Instr.loadAt, Instr.sureAddr, stuck, Sem.run] at h3
          obtain ⟨ad, rfl⟩ := hX
          simp only [Instr.loadAt, Instr.sureAddr, Sem.run_bind, Sem.run_pure, Result.andThen_ok] at h3
          simp only [asAddr, Sem.run_bind, Sem.run_pure, Result.andThen_ok]
          exact h3
      obtain ⟨val, h3, h4⟩ := this
      refine ⟨val :: vals, ?_, h4, hv⟩
      rw [List.mapM_cons, Sem.run_bind]
      simp only [h3, Result.andThen_ok, Sem.run_bind, hr, Sem.run_pure]
    · cases h

theorem results_rel (hE : EnvOk P E) {N : Nat} {ρ : Rho} {s : St} {a : Act} {w : World} (hrel : StRel B fl0 w0 N ρ s a w) {fn : Func} {vs : List AV} {v : AV} (h : resultsA E s fn.results.toList = some vs) (hv : tupA vs = some v) :
    ∃ val, (results fn a.tmps).run P w = .ok val w ∧ v.rel ρ val := by
  obtain ⟨vals, hr, ha⟩ := resA_rel hE hrel _ _ h
  have hrun : ∀ g : ResultVar → Sem Value, (∀ r, g r = (match r with | .tmp t => Pure.pure (a.tmps.getD t undef) | .cell q t => do loadVar t (← asAddr (a.tmps.getD q undef)) : Sem Value)) → (fn.results.mapM g).run P w = .ok vals.toArray w := by
    intro g hg
    obtain rfl : g = _ := funext hg
    have key : ∀ l : List ResultVar, (l.toArray.mapM fun (r : ResultVar) => (match r with | .tmp t => Pure.pure (a.tmps.getD t undef) | .cell q t => do loadVar t (← asAddr (a.tmps.getD q undef)) : Sem Value)) = List.toArray <$> l.mapM fun (r : ResultVar) => (match r with | .tmp t => Pure.pure (a.tmps.getD t undef) | .cell q t => do loadVar t (← asAddr (a.tmps.getD q undef)) : Sem Value) := fun l => List.mapM_toArray ..
    have := key fn.results.toList
    rw [Array.toArray_toList] at this
    rw [this, map_eq_pure_bind, Sem.run_bind, hr]
    rfl
  unfold results
  rw [Sem.run_bind, hrun _ (fun r => by cases r <;> rfl)]
  simp only [Result.andThen_ok, Sem.run_pure]
  match vs, vals, ha, hv with
  | [x], [y], ha, hv => simp only [tupA, Option.some.injEq] at hv; subst hv; exact ⟨y, rfl, ha.1⟩
  | [], [], ha, hv => simp [tupA] at hv; subst hv; exact ⟨.tuple #[], rfl, #[], rfl, trivial⟩
  | x :: x2 :: r, y :: y2 :: r', ha, hv =>
    have hlen := ha.length
    simp only [tupA] at hv
    split at hv
    · cases hv
    · rename_i hnt
      cases hv
      refine ⟨.tuple (y :: y2 :: r').toArray, by simp, _, rfl, ?_⟩
      refine All2.of_get hlen fun k p q hp hq => ?_
      obtain ⟨q', hq', hr'⟩ := ha.get k p hp
      rw [show ((y :: y2 :: r').toArray.toList) = y :: y2 :: r' from rfl] at hq
      rw [hq] at hq'; cases hq'
      have hpn : isTup p = false := by
        cases e : isTup p with
        | false => rfl
        | true =>
          exfalso; apply hnt
          rw [List.any_eq_true]
          exact ⟨p, List.mem_of_getElem? hp, e⟩
      cases p with
      | tup l => simp [isTup] at hpn
      | _ => exact hr'
  | [], _ :: _, ha, _ => exact ha.elim
  | _ :: _, [], ha, _ => exact ha.elim
  | [_], _ :: _ :: _, ha, _ => exact ha.2.elim
  | _ :: _ :: _, [_], ha, _ => exact ha.2.elim

theorem fresh_after {ρ ρ1 : Rho} {n n1 n2 : Nat} (hf : ∀ q, n ≤ q → q < n2 → ρ q = none) (hd : ∀ q, ρ1 q ≠ none → ρ q ≠ none ∨ (n ≤ q ∧ q < n1)) (h : n ≤ n1) : ∀ q, n1 ≤ q → q < n2 → ρ1 q = none := by
  intro q h1 h2
  by_cases hn : ρ1 q = none
  · exact hn
  · exfalso
    rcases hd q hn with h3 | h3
    · exact h3 (hf q (by omega) h2)
    · omega

theorem dom_after {ρ ρ1 ρ2 : Rho} {n n1 n2 : Nat} (hd : ∀ q, ρ1 q ≠ none → ρ q ≠ none ∨ (n ≤ q ∧ q < n1)) (hd2 : ∀ q, ρ2 q ≠ none → ρ1 q ≠ none ∨ (n1 ≤ q ∧ q < n2)) (h1 : n ≤ n1) (h2 : n1 ≤ n2) :
    ∀ q, ρ2 q ≠ none → ρ q ≠ none ∨ (n ≤ q ∧ q < n2) := by
  intro q hq
  rcases hd2 q hq with h | h
  · rcases hd q h with h | h
    · exact .inl h
    · exact .inr ⟨h.1, by omega⟩
  · exact .inr ⟨by omega, h.2⟩

theorem rounds_mono {c : Code} {Q Q' : Exit → Act → World → Prop} (hq : ∀ e a w, Q e a w → Q' e a w) : ∀ (n : Nat) (a : Act) (w : World), Code.rounds P c Q n a w → Code.rounds P c Q' n a w
  | 0, _, _, h => h
  | n + 1, a, w, h => by
    rw [rounds_succ] at h ⊢
    refine wp_mono h ?_
    intro e a1 w1 h1
    cases e with
    | normal => exact rounds_mono hq n a1 w1 h1
    | exit id => exact hq _ _ _ h1
    | goto l => exact hq _ _ _ h1
    | ret => exact hq _ _ _ h1
    | panic ch => exact hq _ _ _ h1
    | outgrown => exact hq _ _ _ h1

def Post (B fl0 : Nat) (w0 : World) (N : Nat) (ρ : Rho) (n : Nat) (e : AE) (s' : St) : Exit → Act → World → Prop :=
  fun ex a' w' => ex = e.toExit ∧ ∃ ρ', Ext ρ ρ' ∧ (∀ q, ρ' q ≠ none → ρ q ≠ none ∨ (n ≤ q ∧ q < s'.n)) ∧ StRel B fl0 w0 N ρ' s' a' w'

/-- What a run of code is worth. -/
def RunOk (P : Program) (B fl0 : Nat) (w0 : World) (E : Env) (k : Nat) : Prop :=
  (∀ lo fl c s e s', run E k lo fl c s = some (e, s') → Keeps fl s.n s.m s'.m s'.n) ∧
  (∀ N lo fl c s e s', run E k lo fl c s = some (e, s') → codeOk lo c = true → dstOk N c = true → fl0 ≤ fl → ∀ ρ a w, StRel B fl0 w0 N ρ s a w → (∀ q, s.n ≤ q → q < s'.n → ρ q = none) →
    c.wp P (Post B fl0 w0 N ρ s.n e s') a w) ∧
  (∀ N lo fl c s e s', run E k lo fl (.loop c) s = some (e, s') → codeOk lo c = true → dstOk N c = true → fl0 ≤ fl → ∀ ρ a w, StRel B fl0 w0 N ρ s a w → (∀ q, s.n ≤ q → q < s'.n → ρ q = none) →
    Code.rounds P c (Post B fl0 w0 N ρ s.n e s') k a w)

theorem callF_keeps {k : Nat} (h : RunOk P B fl0 w0 E k) : CallKeeps (callF E k) := by
  intro fl f args m n v m' n' hc
  unfold callF at hc
  split at hc
  · cases hc
  · split at hc
    · rename_i e s hr
      split at hc
      · split at hc
        · obtain ⟨u, _, hh⟩ := Option.map_eq_some_iff.1 hc
          simp only [Prod.mk.injEq] at hh; obtain ⟨_, rfl, rfl⟩ := hh
          exact h.1 _ _ _ _ _ _ hr
        · cases hc
      · cases hc
    · cases hc

theorem callF_ok (hE : EnvOk P E) (hF : ∀ f fi, E.fn f = some fi → FnOk P f fi) {k : Nat} (h : RunOk P B fl0 w0 E k) : CallOk P B fl0 w0 (callF E k) := by
  intro fl f args m n v m' n' hfl hn hc ρ w vals hm ha hfresh
  unfold callF at hc
  split at hc
  · cases hc
  · rename_i fi hfi
    obtain ⟨fn, hfn, hb, hnt, hres, hname, hco, hdo⟩ := (hF f fi hfi).h
    refine ⟨⟨fn, hfn, hname, by rw [hb]; rfl⟩, ?_⟩
    split at hc
    · rename_i e s hr
      split at hc
      · rename_i he
        split at hc
        · rename_i vs hvs
          obtain ⟨u, hu, hh⟩ := Option.map_eq_some_iff.1 hc
          simp only [Prod.mk.injEq] at hh; obtain ⟨rfl, rfl, rfl⟩ := hh
          refine calls_of_wp hfn hb ?_
          have hrel : StRel B fl0 w0 fi.ntmps ρ ⟨Tr.ofList 0 args .nil, m, n⟩ { tmps := vals ++ Array.replicate (fn.ntmps - vals.size) undef, defers := [] } w := by
            refine ⟨hm, fun d => ?_, by simp; omega, rfl, hn⟩
            simp only [Tr.get_ofList, Tr.get_nil]
            have hlen := ha.length
            rw [Array.getD_eq_getD_getElem?, Array.getElem?_append]
            by_cases hd : d < vals.size
            · have hd' : d < args.length := by simp at hlen; omega
              rw [if_pos hd, if_pos (by omega)]
              simp only [Nat.sub_zero]
              obtain ⟨y, hy, hr⟩ := ha.get d _ (List.getElem?_eq_getElem hd')
              have : vals[d]? = some y := by simpa using hy
              rw [this, List.getElem?_eq_getElem hd']
              exact hr
            · rw [if_neg hd, if_neg (by simp at hlen; omega)]
              have : ((Array.replicate (fn.ntmps - vals.size) undef)[d - vals.size]?).getD undef = undef := by
                rw [Array.getElem?_replicate]; split <;> rfl
              rw [this]
              exact AV.rel_undef
          refine wp_mono (h.2.1 fi.ntmps fi.loose fl fi.body _ e s hr hco hdo hfl ρ _ w hrel hfresh) ?_
          rintro ex a' w' ⟨rfl, ρ', hext, hdom, hrel'⟩
          rw [← hres] at hvs
          obtain ⟨val, hv1, hv2⟩ := results_rel hE hrel' hvs hu
          have hgoal : a'.defers = [] ∧ ∃ v, (results fn a'.tmps).run P w' = .ok v w' ∧ ∃ val ρ', Ending.returned v = .returned val ∧ Ext ρ ρ' ∧ (∀ i, ρ' i ≠ none → ρ i ≠ none ∨ (n ≤ i ∧ i < s.n)) ∧ MemRel B fl0 w0 ρ' s.m w' ∧ u.rel ρ' val :=
            ⟨hrel'.defers, val, hv1, val, ρ', rfl, hext, hdom, hrel'.mem, hv2⟩
          rcases he with rfl | rfl
          · exact hgoal
          · exact hgoal
        · cases hc
      · cases hc
    · cases hc

theorem runOk (hE : EnvOk P E) (hF : ∀ f fi, E.fn f = some fi → FnOk P f fi) : ∀ k, RunOk P B fl0 w0 E k := by
  intro k
  induction k with
  | zero => exact ⟨fun _ _ _ _ _ _ h => by simp [run] at h, fun _ _ _ _ _ _ _ h => by simp [run] at h, fun _ _ _ _ _ _ _ h => by simp [run] at h⟩
  | succ k ih =>
    have hck := callF_keeps ih
    have hco := callF_ok hE hF ih
    have hreg : ∀ lo fl id ops draw s, run E (k + 1) lo fl (.region id ops draw) s = (if draw then opsA E (callD (callF E k) (lo.contains id)) fl (if plainOps ops then none else some s.n) ops ops.toList s else opsA E (callF E k) fl none ops ops.toList s).map fun s' => (.normal, s') := by
      intro lo fl id ops draw s
      cases draw <;> rfl
    have loops : ∀ N lo fl b s e s', run E (k + 1) lo fl (.loop b) s = some (e, s') → codeOk lo b = true → dstOk N b = true → fl0 ≤ fl → ∀ ρ a w, StRel B fl0 w0 N ρ s a w → (∀ q, s.n ≤ q → q < s'.n → ρ q = none) →
        Code.rounds P b (Post B fl0 w0 N ρ s.n e s') (k + 1) a w := by
      intro N lo fl b s e s' h hcode hdst hfl ρ a w hrel hfresh
      simp only [run] at h
      rw [rounds_succ]
      split at h
      · rename_i s1 h1
        have k1 := ih.1 _ _ _ _ _ _ h1
        have k2 := ih.1 _ _ _ _ _ _ h
        refine wp_mono (ih.2.1 N lo fl b s .normal s1 h1 hcode hdst hfl ρ a w hrel (fun q h2 h3 => hfresh q h2 (by have := k2.1; omega))) ?_
        rintro ex a1 w1 ⟨rfl, ρ1, hext, hdom, hrel1⟩
        show Code.rounds P b _ k a1 w1
        refine rounds_mono ?_ k a1 w1 (ih.2.2 N lo fl b s1 e s' h hcode hdst hfl ρ1 a1 w1 hrel1 (fresh_after hfresh hdom k1.1))
        rintro ex a2 w2 ⟨rfl, ρ2, hext2, hdom2, hrel2⟩
        exact ⟨rfl, ρ2, hext.trans hext2, dom_after hdom hdom2 k1.1 k2.1, hrel2⟩
      · rename_i hno
        refine wp_mono (ih.2.1 N lo fl b s e s' h hcode hdst hfl ρ a w hrel hfresh) ?_
        rintro ex a1 w1 ⟨rfl, hrest⟩
        cases e with
        | normal => exact (hno s' h).elim
        | exit id => exact ⟨rfl, hrest⟩
        | ret => exact ⟨rfl, hrest⟩
    refine ⟨?_, ?_, loops⟩
    · intro lo fl c s e s' h
      cases c with
      | skip => simp only [run, Option.some.injEq, Prod.mk.injEq] at h; obtain ⟨_, rfl⟩ := h; exact Keeps.refl _ _ _
      | label l => simp only [run, Option.some.injEq, Prod.mk.injEq] at h; obtain ⟨_, rfl⟩ := h; exact Keeps.refl _ _ _
      | exit l => simp only [run, Option.some.injEq, Prod.mk.injEq] at h; obtain ⟨_, rfl⟩ := h; exact Keeps.refl _ _ _
      | ret => simp only [run, Option.some.injEq, Prod.mk.injEq] at h; obtain ⟨_, rfl⟩ := h; exact Keeps.refl _ _ _
      | region id ops draw =>
        rw [hreg] at h
        obtain ⟨s1, h1, hh⟩ := Option.map_eq_some_iff.1 h
        simp only [Prod.mk.injEq] at hh; obtain ⟨_, rfl⟩ := hh
        cases draw with
        | false => exact opsA_keeps hck _ _ _ h1
        | true => exact opsA_keeps (callD_keeps hck _) _ _ _ h1
      | seq x y =>
        simp only [run] at h
        split at h
        · rename_i s1 h1
          exact (ih.1 _ _ _ _ _ _ h1).trans (ih.1 _ _ _ _ _ _ h)
        · exact ih.1 _ _ _ _ _ _ h
      | cond q x y =>
        simp only [run] at h
        split at h
        · exact ih.1 _ _ _ _ _ _ h
        · cases h
      | block id b =>
        simp only [run] at h
        split at h
        · rename_i id' s1 h1
          have := ih.1 _ _ _ _ _ _ h1
          split at h <;> (simp only [Option.some.injEq, Prod.mk.injEq] at h; obtain ⟨_, rfl⟩ := h; exact this)
        · exact ih.1 _ _ _ _ _ _ h
      | loop b =>
        simp only [run] at h
        split at h
        · rename_i s1 h1
          exact (ih.1 _ _ _ _ _ _ h1).trans (ih.1 _ _ _ _ _ _ h)
        · exact ih.1 _ _ _ _ _ _ h
      | _ => simp [run] at h
    · intro N lo fl c s e s' h hcode hdst hfl ρ a w hrel hfresh
      have one : ∀ ex, some (ex, s) = some (e, s') → ex.toExit = e.toExit ∧ ∃ ρ', Ext ρ ρ' ∧ (∀ q, ρ' q ≠ none → ρ q ≠ none ∨ (s.n ≤ q ∧ q < s'.n)) ∧ StRel B fl0 w0 N ρ' s' a w := by
        intro ex hx
        simp only [Option.some.injEq, Prod.mk.injEq] at hx
        obtain ⟨rfl, rfl⟩ := hx
        exact ⟨rfl, ρ, Ext.refl _, fun _ h => .inl h, hrel⟩
      cases c with
      | skip => exact wp_skip (one .normal h)
      | label l => exact wp_label (one .normal h)
      | exit l => exact wp_exit (one (.exit l) h)
      | ret => exact wp_ret (one .ret h)
      | region id ops draw =>
        rw [hreg] at h
        obtain ⟨s1, h1, hh⟩ := Option.map_eq_some_iff.1 h
        simp only [Prod.mk.injEq] at hh; obtain ⟨rfl, rfl⟩ := hh
        simp only [codeOk, Bool.or_eq_true, Bool.not_eq_true'] at hcode
        simp only [dstOk, List.all_eq_true] at hdst
        refine region_sound hE hco hck hfl (loose := lo.contains id) (fun hd => by subst hd; simpa using hcode) (fun o ho d hd => by have := hdst o ho; rw [hd] at this; simpa using this) h1 hrel hfresh ?_
        intro ρ' a' w' hext hdom hrel'
        exact ⟨rfl, ρ', hext, hdom, hrel'⟩
      | seq x y =>
        simp only [codeOk, Bool.and_eq_true] at hcode
        simp only [dstOk, Bool.and_eq_true] at hdst
        simp only [run] at h
        refine wp_seq ?_
        split at h
        · rename_i s1 h1
          have k1 := ih.1 _ _ _ _ _ _ h1
          have k2 := ih.1 _ _ _ _ _ _ h
          refine wp_mono (ih.2.1 N lo fl x s .normal s1 h1 hcode.1 hdst.1 hfl ρ a w hrel (fun q h2 h3 => hfresh q h2 (by have := k2.1; omega))) ?_
          rintro ex a1 w1 ⟨rfl, ρ1, hext, hdom, hrel1⟩
          show y.wp P _ a1 w1
          refine wp_mono (ih.2.1 N lo fl y s1 e s' h hcode.2 hdst.2 hfl ρ1 a1 w1 hrel1 (fresh_after hfresh hdom k1.1)) ?_
          rintro ex a2 w2 ⟨rfl, ρ2, hext2, hdom2, hrel2⟩
          exact ⟨rfl, ρ2, hext.trans hext2, dom_after hdom hdom2 k1.1 k2.1, hrel2⟩
        · rename_i hno
          refine wp_mono (ih.2.1 N lo fl x s e s' h hcode.1 hdst.1 hfl ρ a w hrel hfresh) ?_
          rintro ex a1 w1 ⟨rfl, hrest⟩
          cases e with
          | normal => exact (hno s' h).elim
          | exit id => exact ⟨rfl, hrest⟩
          | ret => exact ⟨rfl, hrest⟩
      | cond q x y =>
        simp only [codeOk, Bool.and_eq_true] at hcode
        simp only [dstOk, Bool.and_eq_true] at hdst
        simp only [run] at h
        split at h
        · rename_i t ht
          have hq := hrel.ev q
          rw [ht] at hq
          have hq : a.eval q = .bool t := hq
          refine wp_cond hq ?_
          cases t with
          | true => exact ih.2.1 N lo fl x s e s' h hcode.1 hdst.1 hfl ρ a w hrel hfresh
          | false => exact ih.2.1 N lo fl y s e s' h hcode.2 hdst.2 hfl ρ a w hrel hfresh
        · cases h
      | block id b =>
        simp only [codeOk] at hcode
        simp only [dstOk] at hdst
        simp only [run] at h
        refine wp_block ?_
        split at h
        · rename_i id' s1 h1
          have hs1 : s1 = s' := by split at h <;> (simp only [Option.some.injEq, Prod.mk.injEq] at h; exact h.2)
          subst hs1
          refine wp_mono (ih.2.1 N lo fl b s (.exit id') s1 h1 hcode hdst hfl ρ a w hrel hfresh) ?_
          rintro ex a1 w1 ⟨rfl, hrest⟩
          simp only [AE.toExit, Exit.inBlock]
          split at h
          · rename_i he
            simp only [Option.some.injEq, Prod.mk.injEq] at h
            obtain ⟨rfl, _⟩ := h
            rw [if_pos he]
            exact ⟨rfl, hrest⟩
          · rename_i he
            simp only [Option.some.injEq, Prod.mk.injEq] at h
            obtain ⟨rfl, _⟩ := h
            rw [if_neg he]
            exact ⟨rfl, hrest⟩
        · rename_i hno
          refine wp_mono (ih.2.1 N lo fl b s e s' h hcode hdst hfl ρ a w hrel hfresh) ?_
          rintro ex a1 w1 ⟨rfl, hrest⟩
          cases e with
          | normal => exact ⟨rfl, hrest⟩
          | exit id' => exact (hno id' s' h).elim
          | ret => exact ⟨rfl, hrest⟩
      | loop b =>
        simp only [codeOk] at hcode
        simp only [dstOk] at hdst
        exact wp_loop_rounds (k + 1) (loops N lo fl b s e s' h hcode hdst hfl ρ a w hrel hfresh)
      | _ => simp [run] at h

end code
end Go.Am

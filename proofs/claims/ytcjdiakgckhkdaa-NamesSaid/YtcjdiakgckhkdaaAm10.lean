/- Regions that draw their order, whole. -/
import Derived.Test.YtcjdiakgckhkdaaAm9
namespace Go.Am
open Go.RowKit

section swap
variable {E : Env} {call : CallF}

/-- An operation, wanted or not: what it gives. -/
def opW (E : Env) (call : CallF) (fl : Nat) (lim : Option Nat) (ops : Array Oper) (o : Oper) (s : St) : Out :=
  match wantedA ops s o with
  | some true => opA E call fl lim s.ev s.m s.n o.op
  | some false => some (.tup [], s.m, s.n)
  | none => none

theorem stepA_eq (fl : Nat) (lim : Option Nat) (ops : Array Oper) (o : Oper) (s : St) : stepA E call fl lim ops o s = (opW E call fl lim ops o s).map fun r => s.put o.dst r.1 r.2.1 r.2.2 := by
  unfold stepA opW
  cases wantedA ops s o with
  | none => rfl
  | some b => cases b with
    | false => rfl
    | true =>
      simp only
      cases opA E call fl lim s.ev s.m s.n o.op with
      | none => rfl
      | some r => obtain ⟨v, m, n⟩ := r; rfl

def putT (t : Tr AV) (d : Option Nat) (v : AV) : Tr AV :=
  match d with
  | some d => t.set d v
  | none => t

theorem put_eq (s : St) (d : Option Nat) (v : AV) (m : Mem) (n : Nat) : s.put d v m n = ⟨putT s.t d v, m, n⟩ := by cases d <;> rfl

theorem wanted_congr {ops : Array Oper} {o : Oper} {t t' : Tr AV} {m m' : Mem} {n n' : Nat} (h : ∀ d ∈ looksAt ops o, t.get d = t'.get d) : wantedA ops ⟨t, m, n⟩ o = wantedA ops ⟨t', m', n'⟩ o := by
  unfold wantedA
  cases hg : o.guard with
  | none => rfl
  | some g =>
    obtain ⟨j, want⟩ := g
    simp only
    cases hd : (ops[j]?).bind (·.dst) with
    | none => rfl
    | some d =>
      have : d ∈ looksAt ops o := by unfold looksAt; rw [hg]; simp [hd]
      simp only [h d this]

theorem opW_congr {fl n : Nat} {lim : Option Nat} {ops : Array Oper} {o : Oper} {t t' : Tr AV} {m : Mem} (h : ∀ d ∈ looksAt ops o, t.get d = t'.get d) : opW E call fl lim ops o ⟨t, m, n⟩ = opW E call fl lim ops o ⟨t', m, n⟩ := by
  unfold opW
  rw [wanted_congr (m' := m) (n' := n) h]
  have : opA E call fl lim (St.ev ⟨t, m, n⟩) m n o.op = opA E call fl lim (St.ev ⟨t', m, n⟩) m n o.op := by
    refine opA_congr fun x hx => ?_
    cases x with
    | tmp d =>
      have hd : d ∈ looksAt ops o := by
        unfold looksAt tmpsOf
        refine List.mem_append_left _ (List.mem_filterMap.2 ⟨.tmp d, by simpa using hx, rfl⟩)
      simp only [St.ev, h d hd]
    | const v => rfl
    | global g => rfl
    | func f => rfl
  simp only [this]

theorem opW_pure2 {fl n n' : Nat} {lim : Option Nat} {ops : Array Oper} {o : Oper} {t : Tr AV} {m m' : Mem} {v : AV} (hc : cls o.op ≤ 2) (h : opW E call fl lim ops o ⟨t, m, n⟩ = some (v, m', n')) :
    ∃ g : Mem → Mem, m' = g m ∧ (∀ m2 : Mem, (cls o.op = 1 → ∀ i, limOk lim i = true → m2.get i = m.get i) → opW E call fl lim ops o ⟨t, m2, n⟩ = some (v, g m2, n')) ∧
      (cls o.op ≤ 1 → ∀ (k : Nat) (m2 : Mem), (cls o.op = 1 → ∀ i, limOk lim i = true → m2.get i = m.get i) → opW E call fl lim ops o ⟨t, m2, k⟩ = some (v, m2, k)) ∧
      (g = id ∨ (∃ b, g = fun q => q.set n b) ∧ n' = n + 1) ∧ (cls o.op ≤ 1 → g = id ∧ n' = n) := by
  unfold opW at h
  have hw : ∀ (m2 : Mem) (k : Nat), wantedA ops ⟨t, m2, k⟩ o = wantedA ops ⟨t, m, n⟩ o := fun m2 k => wanted_congr fun _ _ => rfl
  cases e : wantedA ops ⟨t, m, n⟩ o with
  | none => rw [e] at h; cases h
  | some b =>
    rw [e] at h
    cases b with
    | false =>
      simp only [Option.some.injEq, Prod.mk.injEq] at h
      obtain ⟨rfl, rfl, rfl⟩ := h
      exact ⟨id, rfl, fun m2 _ => by unfold opW; rw [hw, e]; rfl, fun _ k m2 _ => by unfold opW; rw [hw, e], .inl rfl, fun _ => ⟨rfl, rfl⟩⟩
    | true =>
      simp only at h
      obtain ⟨g, hg, h1, h2, h3, h4⟩ := opA_pure2 hc h
      refine ⟨g, hg, fun m2 hm2 => ?_, fun hc1 k m2 hm2 => ?_, h3, h4⟩
      · unfold opW; rw [hw, e]; exact h1 m2 hm2
      · unfold opW; rw [hw, e]; exact h2 hc1 k m2 hm2

/-- A call in a loose region leaves all that is old. -/
def CallTight (call : CallF) : Prop := ∀ fl f args m n v m' n', call fl f args m n = some (v, m', n') → n ≤ n' ∧ ∀ i, i < n → m'.get i = m.get i

theorem opW_call {fl n n' : Nat} {lim : Option Nat} {ops : Array Oper} {o : Oper} {t : Tr AV} {m m' : Mem} {v : AV} (ht : CallTight call) (hc : cls o.op = 3) (h : opW E call fl lim ops o ⟨t, m, n⟩ = some (v, m', n')) : ∀ i, i < n → m'.get i = m.get i := by
  unfold opW at h
  split at h
  · rename_i hw
    clear hw
    obtain ⟨dst, op, typ, pos, after, guard⟩ := o
    simp only at hc h
    cases op <;> try (simp [cls] at hc; done)
    rename_i c
    obtain ⟨callee, xs, ats⟩ := c
    cases callee with
    | value f =>
      simp only [opA, callA] at h
      split at h
      · exact (ht _ _ _ _ _ _ _ _ h).2
      · cases h
    | invoke r mm => simp [cls] at hc
    | builtin b => cases b <;> simp [cls] at hc
  · simp only [Option.some.injEq, Prod.mk.injEq] at h
    obtain ⟨_, rfl, _⟩ := h
    intro _ _; rfl
  · cases h

theorem swap {fl : Nat} {lim : Option Nat} {ops : Array Oper} {loose : Bool} {a b : Oper} (hp : pairOk ops loose a b = true) (ht : loose = true → CallTight call) {t : Tr AV} {m ma mb : Mem} {ka ka' kb kb' : Nat} {va vb : AV}
    (ha : opW E call fl lim ops a ⟨t, m, ka⟩ = some (va, ma, ka')) (hb : opW E call fl lim ops b ⟨putT t a.dst va, ma, kb⟩ = some (vb, mb, kb')) (hk : ka ≤ ka') (hk2 : ka' ≤ kb)
    (hlim : (∃ l, lim = some l ∧ l ≤ ka) ∨ (cls a.op ≤ 1 ∧ cls b.op ≤ 1)) :
    ∃ m1, opW E call fl lim ops b ⟨t, m, kb⟩ = some (vb, m1, kb') ∧ opW E call fl lim ops a ⟨putT t b.dst vb, m1, ka⟩ = some (va, mb, ka') ∧ putT (putT t a.dst va) b.dst vb = putT (putT t b.dst vb) a.dst va := by
  unfold pairOk at hp
  simp only [Bool.and_eq_true] at hp
  obtain ⟨hap, hcl⟩ := hp
  unfold apartA at hap
  simp only [Bool.and_eq_true] at hap
  obtain ⟨hap1, hap2⟩ := hap
  -- the temporaries do not meet
  have hb1 : ∀ d ∈ looksAt ops b, (putT t a.dst va).get d = t.get d := by
    intro d hd
    cases e : a.dst with
    | none => rfl
    | some q =>
      rw [e] at hap1
      simp only [Bool.and_eq_true, Bool.not_eq_true', List.contains_eq_mem, decide_eq_false_iff_not] at hap1
      exact Tr.get_set_ne _ _ (fun e' => hap1.1 (e' ▸ hd))
  have ha1 : ∀ d ∈ looksAt ops a, (putT t b.dst vb).get d = t.get d := by
    intro d hd
    cases e : b.dst with
    | none => rfl
    | some q =>
      rw [e] at hap2
      simp only [Bool.not_eq_true', List.contains_eq_mem, decide_eq_false_iff_not] at hap2
      exact Tr.get_set_ne _ _ (fun e' => hap2 (e' ▸ hd))
  have hput : putT (putT t a.dst va) b.dst vb = putT (putT t b.dst vb) a.dst va := by
    cases ea : a.dst with
    | none => rfl
    | some qa =>
      cases eb : b.dst with
      | none => rfl
      | some qb =>
        rw [ea] at hap1
        simp only [eb, Bool.and_eq_true] at hap1
        have hne : qa ≠ qb := by
          intro e
          have := hap1.2
          simp [e] at this
        exact Tr.set_comm _ _ _ hne
  rw [opW_congr hb1] at hb
  have hac : ∀ (m1 : Mem), opW E call fl lim ops a ⟨putT t b.dst vb, m1, ka⟩ = opW E call fl lim ops a ⟨t, m1, ka⟩ := fun m1 => opW_congr ha1
  suffices hs : ∃ m1, opW E call fl lim ops b ⟨t, m, kb⟩ = some (vb, m1, kb') ∧ opW E call fl lim ops a ⟨t, m1, ka⟩ = some (va, mb, ka') by
    obtain ⟨m1, h1, h2⟩ := hs
    exact ⟨m1, h1, by rw [hac]; exact h2, hput⟩
  simp only [Bool.or_eq_true, Bool.and_eq_true, beq_iff_eq, decide_eq_true_eq] at hcl
  rcases hcl with ((h0 | h0) | ⟨hx, hy⟩) | ⟨hl, ⟨hx, hy⟩ | ⟨hx, hy⟩⟩
  · obtain ⟨g, rfl, _, h2, _, h4⟩ := opW_pure2 (by omega) ha
    obtain ⟨rfl, rfl⟩ := h4 (by omega)
    exact ⟨mb, hb, h2 (by omega) _ mb (fun e => by omega)⟩
  · obtain ⟨g, rfl, h1, h2, _, h4⟩ := opW_pure2 (by omega) hb
    obtain ⟨rfl, rfl⟩ := h4 (by omega)
    exact ⟨m, h2 (by omega) kb' m (fun e => by omega), ha⟩
  · obtain ⟨ga, rfl, a1, _, a3, a4⟩ := opW_pure2 hx ha
    obtain ⟨gb, rfl, b1, _, b3, b4⟩ := opW_pure2 hy hb
    have hga : ∀ i, limOk lim i = true → ∀ q : Mem, (ga q).get i = q.get i := by
      intro i hi q
      rcases a3 with rfl | ⟨⟨bb, rfl⟩, _⟩
      · rfl
      · rcases hlim with ⟨l, rfl, hl⟩ | ⟨h1, _⟩
        · simp only [limOk, decide_eq_true_eq] at hi
          exact Tr.get_set_ne _ _ (by omega)
        · have := (a4 h1).2; omega
    have hgb : ∀ i, limOk lim i = true → ∀ q : Mem, (gb q).get i = q.get i := by
      intro i hi q
      rcases b3 with rfl | ⟨⟨bb, rfl⟩, _⟩
      · rfl
      · rcases hlim with ⟨l, rfl, hl⟩ | ⟨_, h1⟩
        · simp only [limOk, decide_eq_true_eq] at hi
          exact Tr.get_set_ne _ _ (by omega)
        · have := (b4 h1).2; omega
    have hcomm : ga (gb m) = gb (ga m) := by
      rcases a3 with rfl | ⟨⟨ba, rfl⟩, ea⟩
      · rfl
      · rcases b3 with rfl | ⟨⟨bb, rfl⟩, _⟩
        · rfl
        · exact Tr.set_comm _ _ _ (by omega)
    refine ⟨gb m, b1 m (fun _ i hi => (hga i hi m).symm), ?_⟩
    rw [← hcomm]
    exact a1 (gb m) (fun _ i hi => hgb i hi m)
  · obtain ⟨g, rfl, _, h2, _, h4⟩ := opW_pure2 (by omega) ha
    obtain ⟨rfl, rfl⟩ := h4 (by omega)
    have hkeep := opW_call (ht hl) hy hb
    refine ⟨mb, hb, h2 (by omega) _ mb (fun _ i hi => ?_)⟩
    rcases hlim with ⟨l, rfl, hl'⟩ | ⟨_, h1⟩
    · simp only [limOk, decide_eq_true_eq] at hi
      exact hkeep i (by omega)
    · omega
  · have hkeep := opW_call (ht hl) hx ha
    obtain ⟨g, rfl, h1, h2, _, h4⟩ := opW_pure2 (by omega) hb
    obtain ⟨rfl, rfl⟩ := h4 (by omega)
    refine ⟨m, h2 (by omega) kb' m (fun _ i hi => ?_), ha⟩
    rcases hlim with ⟨l, rfl, hl'⟩ | ⟨h1, _⟩
    · simp only [limOk, decide_eq_true_eq] at hi
      exact (hkeep i (by omega)).symm
    · omega

/-- An operation with the numbers that it may give. -/
structure El where
  i : Nat
  o : Oper
  k : Nat
  k' : Nat

def runAsg (E : Env) (call : CallF) (fl : Nat) (lim : Option Nat) (ops : Array Oper) : List El → Tr AV → Mem → Option (Tr AV × Mem)
  | [], t, m => some (t, m)
  | e :: r, t, m => match opW E call fl lim ops e.o ⟨t, m, e.k⟩ with
    | some (v, m1, k1) => if k1 = e.k' then runAsg E call fl lim ops r (putT t e.o.dst v) m1 else none
    | none => none

theorem runAsg_cons {fl : Nat} {lim : Option Nat} {ops : Array Oper} {e : El} {r : List El} {t : Tr AV} {m : Mem} {res : Tr AV × Mem} (h : runAsg E call fl lim ops (e :: r) t m = some res) :
    ∃ v m1, opW E call fl lim ops e.o ⟨t, m, e.k⟩ = some (v, m1, e.k') ∧ runAsg E call fl lim ops r (putT t e.o.dst v) m1 = some res := by
  unfold runAsg at h
  split at h
  · rename_i v m1 k1 e1
    split at h
    · rename_i hk; subst hk; exact ⟨v, m1, e1, h⟩
    · cases h
  · cases h

theorem runAsg_mk {fl : Nat} {lim : Option Nat} {ops : Array Oper} {e : El} {r : List El} {t : Tr AV} {m m1 : Mem} {v : AV} {res : Tr AV × Mem} (h1 : opW E call fl lim ops e.o ⟨t, m, e.k⟩ = some (v, m1, e.k'))
    (h2 : runAsg E call fl lim ops r (putT t e.o.dst v) m1 = some res) : runAsg E call fl lim ops (e :: r) t m = some res := by
  unfold runAsg; rw [h1]; simp [h2]

theorem front {fl : Nat} {lim : Option Nat} {ops : Array Oper} {loose : Bool} (ht : loose = true → CallTight call) {e : El} {l2 : List El} {res : Tr AV × Mem} : ∀ (l1 : List El) (t : Tr AV) (m : Mem),
    (∀ x ∈ l1, pairOk ops loose x.o e.o = true ∧ x.k ≤ x.k' ∧ x.k' ≤ e.k ∧ ((∃ l, lim = some l ∧ l ≤ x.k) ∨ (cls x.o.op ≤ 1 ∧ cls e.o.op ≤ 1))) →
    runAsg E call fl lim ops (l1 ++ e :: l2) t m = some res → runAsg E call fl lim ops (e :: (l1 ++ l2)) t m = some res
  | [], _, _, _, h => h
  | x :: l1, t, m, hx, h => by
    obtain ⟨va, ma, ha, hr⟩ := runAsg_cons (r := l1 ++ e :: l2) h
    have := front ht l1 _ _ (fun y hy => hx y (by simp [hy])) hr
    obtain ⟨vb, mb, hb, hr2⟩ := runAsg_cons this
    obtain ⟨hp, h1, h2, h3⟩ := hx x (by simp)
    obtain ⟨m1, s1, s2, s3⟩ := swap hp ht ha hb h1 h2 h3
    rw [s3] at hr2
    exact runAsg_mk s1 (runAsg_mk (r := l1 ++ l2) s2 hr2)

def Asc : Nat → List El → Nat → Prop
  | k0, [], kf => k0 ≤ kf
  | k0, e :: r, kf => k0 ≤ e.k ∧ e.k ≤ e.k' ∧ Asc e.k' r kf

theorem Asc.low {kf : Nat} : ∀ {l : List El} {k0 k1 : Nat}, k1 ≤ k0 → Asc k0 l kf → Asc k1 l kf
  | [], _, _, h, ha => Nat.le_trans h ha
  | _ :: _, _, _, h, ha => ⟨Nat.le_trans h ha.1, ha.2⟩

theorem Asc.le {kf : Nat} : ∀ {l : List El} {k0 : Nat}, Asc k0 l kf → k0 ≤ kf
  | [], _, ha => ha
  | _ :: _, _, ha => Nat.le_trans ha.1 (Nat.le_trans ha.2.1 (Asc.le ha.2.2))

theorem Asc.mem {kf : Nat} (l : List El) : ∀ (k0 : Nat), Asc k0 l kf → ∀ x ∈ l, k0 ≤ x.k ∧ x.k ≤ x.k' ∧ x.k' ≤ kf := by
  induction l with
  | nil => intro _ _ x hx; simp at hx
  | cons y l ih =>
    intro k0 ha x hx
    obtain ⟨h1, h2, h3⟩ := ha
    rcases List.mem_cons.1 hx with e | hx
    · subst e; exact ⟨h1, h2, h3.le⟩
    · obtain ⟨i1, i2, i3⟩ := ih _ h3 x hx
      exact ⟨by omega, i2, i3⟩

theorem Asc.split {kf : Nat} {e : El} {l2 : List El} : ∀ {l1 : List El} {k0 : Nat}, Asc k0 (l1 ++ e :: l2) kf → (∀ x ∈ l1, x.k ≤ x.k' ∧ x.k' ≤ e.k) ∧ e.k ≤ e.k' ∧ (∀ x ∈ l2, e.k' ≤ x.k) ∧ Asc k0 (l1 ++ l2) kf
  | [], _, ha => ⟨by simp, ha.2.1, fun x hx => (Asc.mem _ _ ha.2.2 x hx).1, Asc.low (Nat.le_trans ha.1 ha.2.1) ha.2.2⟩
  | y :: l1, _, ha => by
    obtain ⟨h1, h2, h3, h4⟩ := Asc.split ha.2.2
    refine ⟨fun x hx => ?_, h2, h3, ha.1, ha.2.1, h4⟩
    rcases List.mem_cons.1 hx with rfl | hx
    · exact ⟨ha.2.1, (Asc.mem _ _ ha.2.2 e (by simp)).1⟩
    · exact h1 x hx

/-- The run in the text's order gives the list. -/
theorem asg_of_opsA {fl : Nat} {lim : Option Nat} {ops : Array Oper} (hck : CallKeeps call) : ∀ (os : List Oper) (j : Nat) (s s' : St), (∀ q o, os[q]? = some o → ops[j + q]? = some o) → opsA E call fl lim ops os s = some s' →
    ∃ asg : List El, runAsg E call fl lim ops asg s.t s.m = some (s'.t, s'.m) ∧ asg.map (·.i) = List.range' j os.length ∧ (∀ e ∈ asg, ops[e.i]? = some e.o ∧ e.o ∈ os) ∧ Asc s.n asg s'.n
  | [], j, s, s', _, h => by
    simp only [opsA, Option.some.injEq] at h
    subst h
    exact ⟨[], rfl, rfl, by simp, Nat.le_refl _⟩
  | o :: os, j, s, s', ho, h => by
    simp only [opsA] at h
    split at h
    · rename_i s1 h1
      rw [stepA_eq] at h1
      obtain ⟨⟨v, m1, k1⟩, hw, hs1⟩ := Option.map_eq_some_iff.1 h1
      rw [put_eq] at hs1
      subst hs1
      obtain ⟨asg, a1, a2, a3, a4⟩ := asg_of_opsA hck os (j + 1) _ s' (fun q o' hq => by have := ho (q + 1) o' (by simpa using hq); rw [← this]; congr 1; omega) h
      have hk : s.n ≤ k1 := by
        unfold opW at hw
        split at hw
        · exact (opA_keeps hck hw).1
        · cases hw; exact Nat.le_refl _
        · cases hw
      refine ⟨⟨j, o, s.n, k1⟩ :: asg, runAsg_mk (e := ⟨j, o, s.n, k1⟩) hw a1, by simp [a2, List.range'_succ], ?_, Nat.le_refl _, hk, a4⟩
      intro e he
      rcases List.mem_cons.1 he with rfl | he
      · exact ⟨by simpa using ho 0 o rfl, by simp⟩
      · exact ⟨(a3 e he).1, by simp [(a3 e he).2]⟩
    · cases h

end swap
end Go.Am

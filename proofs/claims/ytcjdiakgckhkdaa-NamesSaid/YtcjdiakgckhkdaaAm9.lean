/- Regions that draw their order: what is unordered commutes. -/
import Derived.Test.YtcjdiakgckhkdaaAm8
namespace Go.Am
open Go.RowKit

namespace Tr
variable {α : Type}
theorem updF_comm (x y : Option α) : ∀ (f : Nat) (t : Tr α) (i j : Nat), i < f → j < f → i ≠ j → updF f (updF f t i x) j y = updF f (updF f t j y) i x := by
  intro f
  induction f with
  | zero => intro t i j h; omega
  | succ f ih =>
    intro t i j hi hj hij
    cases t with
    | nil =>
      by_cases i0 : i = 0
      · subst i0
        have j0 : j ≠ 0 := fun e => hij e.symm
        by_cases jo : j % 2 = 1
        · simp [updF, j0, jo]
        · simp [updF, j0, jo]
      · by_cases j0 : j = 0
        · subst j0
          by_cases io : i % 2 = 1
          · simp [updF, i0, io]
          · simp [updF, i0, io]
        · by_cases io : i % 2 = 1 <;> by_cases jo : j % 2 = 1
          · simp only [updF, i0, j0, io, jo, if_true, if_false]
            rw [ih _ _ _ (by omega) (by omega) (by omega)]
          · simp [updF, i0, j0, io, jo]
          · simp [updF, i0, j0, io, jo]
          · simp only [updF, i0, j0, io, jo, if_false]
            rw [ih _ _ _ (by omega) (by omega) (by omega)]
    | node v l r =>
      by_cases i0 : i = 0
      · subst i0
        have j0 : j ≠ 0 := fun e => hij e.symm
        by_cases jo : j % 2 = 1
        · simp [updF, j0, jo]
        · simp [updF, j0, jo]
      · by_cases j0 : j = 0
        · subst j0
          by_cases io : i % 2 = 1
          · simp [updF, i0, io]
          · simp [updF, i0, io]
        · by_cases io : i % 2 = 1 <;> by_cases jo : j % 2 = 1
          · simp only [updF, i0, j0, io, jo, if_true, if_false]
            rw [ih _ _ _ (by omega) (by omega) (by omega)]
          · simp [updF, i0, j0, io, jo]
          · simp [updF, i0, j0, io, jo]
          · simp only [updF, i0, j0, io, jo, if_false]
            rw [ih _ _ _ (by omega) (by omega) (by omega)]

/-- More fuel changes nothing. -/
theorem updF_fuel (x : Option α) : ∀ (f g : Nat) (t : Tr α) (i : Nat), i < f → i < g → updF f t i x = updF g t i x := by
  intro f
  induction f with
  | zero => intro g t i h; omega
  | succ f ih =>
    intro g t i hf hg
    obtain ⟨g, rfl⟩ : ∃ q, g = q + 1 := ⟨g - 1, by omega⟩
    cases t with
    | nil =>
      by_cases i0 : i = 0
      · simp [updF, i0]
      · by_cases io : i % 2 = 1
        · simp only [updF, i0, io, if_true, if_false]; rw [ih g _ _ (by omega) (by omega)]
        · simp only [updF, i0, io, if_false]; rw [ih g _ _ (by omega) (by omega)]
    | node v l r =>
      by_cases i0 : i = 0
      · simp [updF, i0]
      · by_cases io : i % 2 = 1
        · simp only [updF, i0, io, if_true, if_false]; rw [ih g _ _ (by omega) (by omega)]
        · simp only [updF, i0, io, if_false]; rw [ih g _ _ (by omega) (by omega)]

theorem upd_comm (t : Tr α) {i j : Nat} (x y : Option α) (h : i ≠ j) : (t.upd i x).upd j y = (t.upd j y).upd i x := by
  unfold upd
  rw [updF_fuel x (i + 1) (i + j + 1) _ _ (by omega) (by omega), updF_fuel y (j + 1) (i + j + 1) _ _ (by omega) (by omega), updF_fuel y (j + 1) (i + j + 1) _ _ (by omega) (by omega), updF_fuel x (i + 1) (i + j + 1) _ _ (by omega) (by omega)]
  exact updF_comm x y (i + j + 1) t i j (by omega) (by omega) h
theorem set_comm (t : Tr α) {i j : Nat} (x y : α) (h : i ≠ j) : (t.set i x).set j y = (t.set j y).set i x := upd_comm t _ _ h
end Tr

section congr
variable {E : Env} {call : CallF}

/-- An operation looks at its operands alone. -/
theorem opA_congr {fl n : Nat} {lim : Option Nat} {ev ev' : Operand → AV} {m : Mem} {op : Op} (h : ∀ x ∈ op.operands, ev x = ev' x) : opA E call fl lim ev m n op = opA E call fl lim ev' m n op := by
  have hmap : ∀ xs : Array Operand, (∀ x ∈ xs, ev x = ev' x) → xs.toList.map ev = xs.toList.map ev' := fun xs hx => List.map_congr_left fun x hm => hx x (by simpa using hm)
  have hopt : ∀ q : Option Operand, (∀ x ∈ q.toArray, ev x = ev' x) → q.map ev = q.map ev' := by
    intro q hq
    cases q with
    | none => rfl
    | some x => simp [hq x (by simp)]
  have hps : ∀ ps : Array (Nat × Operand), (∀ x ∈ (ps.toList.map (·.2)).toArray, ev x = ev' x) → (ps.toList.map fun p => (p.1, ev p.2)) = (ps.toList.map fun p => (p.1, ev' p.2)) := by
    intro ps hp
    refine List.map_congr_left fun p hm => ?_
    rw [hp p.2 (by simp; exact ⟨p.1, by simpa using hm⟩)]
  cases op with
  | call c =>
    obtain ⟨callee, xs, ats⟩ := c
    simp only [Op.operands, Call.operands] at h
    cases callee with
    | value f =>
      simp only [opA, callA]
      rw [h f (by simp), hmap xs (fun x hx => h x (by simp [hx]))]
    | invoke r mm => rfl
    | builtin b =>
      simp only [opA, callA]
      rw [hmap xs (fun x hx => h x (by simp [hx]))]
  | build t ps => simp only [opA]; rw [hps ps h]
  | buildSlice t l ps => simp only [opA]; rw [hps ps h]
  | makeFunc f a b => simp only [opA]; rw [hmap b (fun x hx => h x (by simp [Op.operands, hx]))]
  | slice t x l hh mx =>
    simp only [Op.operands] at h
    simp only [opA]
    rw [h x (by simp), hopt l (fun y hy => h y (by simp [hy])), hopt hh (fun y hy => h y (by simp [hy])), hopt mx (fun y hy => h y (by simp [hy]))]
  | move x => simp only [opA]; rw [h x (by simp [Op.operands])]
  | assign x => simp only [opA]; rw [h x (by simp [Op.operands])]
  | pick a b c => simp only [opA]; rw [h a (by simp [Op.operands]), h b (by simp [Op.operands]), h c (by simp [Op.operands])]
  | box t x => simp only [opA]; rw [h x (by simp [Op.operands])]
  | load t x => simp only [opA]; rw [h x (by simp [Op.operands])]
  | store t x y => simp only [opA]; rw [h x (by simp [Op.operands]), h y (by simp [Op.operands])]
  | nilCheck x => simp only [opA]; rw [h x (by simp [Op.operands])]
  | binOp o t x y u => simp only [opA]; rw [h x (by simp [Op.operands]), h y (by simp [Op.operands])]
  | unOp o t x => simp only [opA]; rw [h x (by simp [Op.operands])]
  | convert s d x => simp only [opA]; rw [h x (by simp [Op.operands])]
  | makeSlice t x y => simp only [opA]; rw [h x (by simp [Op.operands]), h y (by simp [Op.operands])]
  | fieldAddr t x f => simp only [opA]; rw [h x (by simp [Op.operands])]
  | field t x f => simp only [opA]; rw [h x (by simp [Op.operands])]
  | indexAddr t x y => simp only [opA]; rw [h x (by simp [Op.operands]), h y (by simp [Op.operands])]
  | index t x y => simp only [opA]; rw [h x (by simp [Op.operands]), h y (by simp [Op.operands])]
  | extract x i => simp only [opA]; rw [h x (by simp [Op.operands])]
  | _ => rfl

/-- WHAT AN OPERATION THAT DOES NOT WRITE DOES: its value, and at most a new block; it hangs on the memory below the limit alone. -/
def Pure2 (E : Env) (call : CallF) (fl : Nat) (lim : Option Nat) (ev : Operand → AV) (op : Op) (n n' : Nat) (v : AV) (g : Mem → Mem) (c : Nat) (m : Mem) : Prop :=
  (∀ m2, (c = 1 → ∀ i, limOk lim i = true → m2.get i = m.get i) → opA E call fl lim ev m2 n op = some (v, g m2, n')) ∧ (c ≤ 1 → ∀ k m2, (c = 1 → ∀ i, limOk lim i = true → m2.get i = m.get i) → opA E call fl lim ev m2 k op = some (v, m2, k)) ∧
  (g = id ∨ (∃ b, g = fun q => q.set n b) ∧ n' = n + 1) ∧ (c ≤ 1 → g = id ∧ n' = n)

theorem mapv {α : Type} {o : Option α} {f : α → AV} {v : AV} {m m' : Mem} {n n' : Nat} (h : (o.map fun a => (f a, m, n)) = some (v, m', n')) : (∀ (m2 : Mem) (k : Nat), (o.map fun a => (f a, m2, k)) = some (v, m2, k)) ∧ m' = m ∧ n' = n := by
  obtain ⟨u, hu, hh⟩ := Option.map_eq_some_iff.1 h
  simp only [Prod.mk.injEq] at hh; obtain ⟨rfl, rfl, rfl⟩ := hh
  exact ⟨fun m2 k => by rw [hu]; rfl, rfl, rfl⟩

theorem pure0 {fl n n' : Nat} {lim : Option Nat} {ev : Operand → AV} {m m' : Mem} {op : Op} {v : AV} {c : Nat} (h : ∀ (m2 : Mem) (k : Nat), opA E call fl lim ev m2 k op = some (v, m2, k)) (hm : m' = m) (hn : n' = n) :
    ∃ g, m' = g m ∧ Pure2 E call fl lim ev op n n' v g c m := by
  subst hm hn
  exact ⟨id, rfl, fun m2 _ => h m2 _, fun _ k m2 _ => h m2 k, .inl rfl, fun _ => ⟨rfl, rfl⟩⟩

theorem builtin_pure {b : Builtin} (hb : b = .len ∨ b = .max ∨ b = .min) {fl n n' : Nat} {ts : Array TypeId} {args : List AV} {m m' : Mem} {v : AV} (h : builtinA E fl b ts args m n = some (v, m', n')) :
    (∀ (m2 : Mem) (k : Nat), builtinA E fl b ts args m2 k = some (v, m2, k)) ∧ m' = m ∧ n' = n := by
  rcases hb with rfl | rfl | rfl
  · match args, h0 : ts[0]?, h with
    | [x], some t, h =>
      simp only [builtinA, h0] at h ⊢
      exact mapv h
    | [], _, h => simp [builtinA] at h
    | [_], none, h => simp [builtinA, h0] at h
    | _ :: _ :: _, _, h => simp [builtinA] at h
  · match args, h with
    | x :: r, h =>
      simp only [builtinA] at h ⊢
      exact mapv h
    | [], h => simp [builtinA] at h
  · match args, h with
    | x :: r, h =>
      simp only [builtinA] at h ⊢
      exact mapv h
    | [], h => simp [builtinA] at h

theorem opA_pure2 {fl n n' : Nat} {lim : Option Nat} {ev : Operand → AV} {m m' : Mem} {op : Op} {v : AV} (hc : cls op ≤ 2) (h : opA E call fl lim ev m n op = some (v, m', n')) :
    ∃ g, m' = g m ∧ Pure2 E call fl lim ev op n n' v g (cls op) m := by
  cases op with
  | move x => simp only [opA, Option.some.injEq, Prod.mk.injEq] at h; obtain ⟨rfl, rfl, rfl⟩ := h; exact pure0 (fun _ _ => rfl) rfl rfl
  | assign x => simp only [opA, Option.some.injEq, Prod.mk.injEq] at h; obtain ⟨rfl, rfl, rfl⟩ := h; exact pure0 (fun _ _ => rfl) rfl rfl
  | pick c x y =>
    simp only [opA] at h; split at h
    · rename_i t e; cases h; exact pure0 (fun _ _ => by simp [opA, e]) rfl rfl
    · cases h
  | build t ps =>
    simp only [opA] at h
    split at h
    · rename_i y hy
      split at h
      · rename_i hk
        obtain ⟨h1, h2, h3⟩ := mapv h
        exact pure0 (fun m2 k => by simp only [opA, hy]; rw [if_pos hk]; exact h1 m2 k) h2 h3
      · rename_i hk6
        split at h
        · rename_i hk
          split at h
          · rename_i e he
            obtain ⟨h1, h2, h3⟩ := mapv h
            exact pure0 (fun m2 k => by simp only [opA, hy]; rw [if_neg hk6, if_pos hk]; simp only [he]; exact h1 m2 k) h2 h3
          · cases h
        · cases h
    · cases h
  | nilCheck x =>
    simp only [opA] at h
    split at h <;> cases h <;> (rename_i e; exact pure0 (fun _ _ => by simp [opA, e]) rfl rfl)
  | binOp op t x y u => obtain ⟨h1, h2, h3⟩ := mapv h; exact pure0 h1 h2 h3
  | unOp op t x => obtain ⟨h1, h2, h3⟩ := mapv h; exact pure0 h1 h2 h3
  | slice t x lo hi mx => obtain ⟨h1, h2, h3⟩ := mapv h; exact pure0 h1 h2 h3
  | indexAddr t x i => obtain ⟨h1, h2, h3⟩ := mapv h; exact pure0 h1 h2 h3
  | index t x i => obtain ⟨h1, h2, h3⟩ := mapv h; exact pure0 h1 h2 h3
  | extract x i =>
    simp only [opA] at h; split at h
    · rename_i l e; obtain ⟨h1, h2, h3⟩ := mapv h; exact pure0 (fun m2 k => by simp only [opA, e]; exact h1 m2 k) h2 h3
    · cases h
  | fieldAddr t x f =>
    simp only [opA] at h
    repeat' split at h
    all_goals first
      | (cases h; done)
      | (cases h; refine pure0 (fun _ _ => ?_) rfl rfl; simp_all [opA])
  | field t x f =>
    simp only [opA] at h
    split at h
    · rename_i y cs hy hx
      split at h
      · cases h
      · rename_i hk
        split at h
        · rename_i off ft s hf
          obtain ⟨h1, h2, h3⟩ := mapv h
          exact pure0 (fun m2 k => by simp only [opA, hy, hx]; rw [if_neg hk]; simp only [hf]; exact h1 m2 k) h2 h3
        · cases h
    · cases h
  | makeFunc fn first caps =>
    simp only [opA] at h
    repeat' split at h
    all_goals first
      | (cases h; done)
      | (cases h; refine pure0 (fun _ _ => ?_) rfl rfl; simp_all [opA])
  | load t x =>
    obtain ⟨u, hu, hh⟩ := Option.map_eq_some_iff.1 h
    simp only [Prod.mk.injEq] at hh; obtain ⟨rfl, rfl, rfl⟩ := hh
    have key : ∀ (m2 : Mem), (∀ i, limOk lim i = true → m2.get i = m.get i) → loadA E lim t m2 (ev x) = some u := by
      intro m2 hm2
      unfold loadA at hu ⊢
      split at hu
      · rename_i i o _
        by_cases hl : limOk lim i = true
        · rw [if_pos hl] at hu ⊢
          rw [hm2 i hl]; exact hu
        · rw [if_neg hl] at hu; cases hu
      · cases hu
    exact ⟨id, rfl, fun m2 h2 => by simp only [opA, key m2 (h2 rfl)]; rfl, fun _ k m2 h2 => by simp only [opA, key m2 (h2 rfl)]; rfl, .inl rfl, fun _ => ⟨rfl, rfl⟩⟩
  | alloc e =>
    simp only [opA] at h
    split at h <;> cases h
    rename_i y hy
    exact ⟨fun q => q.set n y.zero, rfl, fun m2 _ => by simp [opA, hy], fun hc => by simp [cls] at hc, .inr ⟨⟨_, rfl⟩, rfl⟩, fun hc => by simp [cls] at hc⟩
  | box e x =>
    simp only [opA] at h
    split at h <;> cases h
    rename_i y hy
    exact ⟨fun q => q.set n y, rfl, fun m2 _ => by simp [opA, hy], fun hc => by simp [cls] at hc, .inr ⟨⟨_, rfl⟩, rfl⟩, fun hc => by simp [cls] at hc⟩
  | buildSlice t len ps =>
    simp only [opA] at h
    split at h
    · rename_i y hy
      split at h
      · cases h
      · rename_i hk
        split at h
        · rename_i e he
          split at h
          · cases h
          · rename_i hc'
            split at h
            · rename_i cs hcs
              cases h
              exact ⟨fun q => q.set n cs, rfl, fun m2 _ => by simp only [opA, hy]; rw [if_neg hk]; simp only [he]; rw [if_neg hc']; simp only [hcs], fun hc => by simp [cls] at hc, .inr ⟨⟨_, rfl⟩, rfl⟩, fun hc => by simp [cls] at hc⟩
            · cases h
        · cases h
    · cases h
  | makeSlice t l c =>
    simp only [opA, makeSliceA] at h
    split at h
    · rename_i y _ li _ ci hy hl hcq
      split at h
      · cases h
      · rename_i hk
        split at h
        · cases h
        · rename_i e he
          split at h
          · rename_i hb
            cases h
            exact ⟨fun q => q.set n _, rfl, fun m2 _ => by simp only [opA, makeSliceA, hy, hl, hcq]; rw [if_neg hk]; simp only [he]; rw [if_pos hb], fun hc => by simp [cls] at hc, .inr ⟨⟨_, rfl⟩, rfl⟩, fun hc => by simp [cls] at hc⟩
          · cases h
    · cases h
  | convert s d x =>
    simp only [opA, convA] at h
    split at h
    · rename_i y1 y2 k v1 h1 h2 h3
      split at h
      · rename_i hk
        cases h
        exact ⟨id, rfl, fun m2 _ => by simp only [opA, convA, h1, h2, h3]; rw [if_pos hk]; rfl, fun hc => by simp [cls] at hc, .inl rfl, fun hc => by simp [cls] at hc⟩
      · cases h
    · rename_i y1 y2 l h1 h2 h3
      split at h
      · rename_i hk
        split at h
        · rename_i e he
          split at h
          · rename_i hq
            cases h
            exact ⟨fun q => q.set n _, rfl, fun m2 _ => by simp only [opA, convA, h1, h2, h3]; rw [if_pos hk]; simp only [he]; rw [if_pos hq], fun hc => by simp [cls] at hc, .inr ⟨⟨_, rfl⟩, rfl⟩, fun hc => by simp [cls] at hc⟩
          · cases h
        · cases h
      · cases h
    · cases h
  | call c =>
    obtain ⟨callee, xs, ats⟩ := c
    cases callee with
    | value f => simp [cls] at hc
    | invoke r mm => simp [cls] at hc
    | builtin b =>
      have hb : b = .len ∨ b = .max ∨ b = .min := by
        cases b <;> first | exact .inl rfl | exact .inr (.inl rfl) | exact .inr (.inr rfl) | (simp [cls] at hc; done)
      obtain ⟨h1, h2, h3⟩ := builtin_pure hb (args := xs.toList.map ev) h
      exact pure0 (fun m2 k => h1 m2 k) h2 h3
  | _ => simp [cls] at hc

end congr
end Go.Am

/- From the machine's run of a law to the law's statement. -/
import Derived.Test.YtcjdiakgckhkdaaAm12
import Derived.ProofKit
import Derived.OpenShut
namespace Go.Am
open Go.RowKit

/-- Every entry of a finite map meets Q. 'g': the key's way so far. -/
def TrAll {α : Type} (Q : Nat → α → Prop) : Tr α → (Nat → Nat) → Prop
  | .nil, _ => True
  | .node v l r, g => (∀ x, v = some x → Q (g 0) x) ∧ TrAll Q l (fun k => g (2 * k + 1)) ∧ TrAll Q r (fun k => g (2 * k + 2))

theorem TrAll.get {α : Type} {Q : Nat → α → Prop} : ∀ {t : Tr α} {g : Nat → Nat}, TrAll Q t g → ∀ k x, t.get k = some x → Q (g k) x
  | .nil, _, _, _, _, h => by simp [Tr.get] at h
  | .node v l r, g, ha, k, x, h => by
    simp only [Tr.get] at h
    by_cases h0 : k = 0
    · rw [if_pos h0] at h; subst h0; exact ha.1 x h
    · rw [if_neg h0] at h
      by_cases h1 : k % 2 = 1
      · rw [if_pos h1] at h
        have := TrAll.get ha.2.1 (k / 2) x h
        rwa [show 2 * (k / 2) + 1 = k from by omega] at this
      · rw [if_neg h1] at h
        have := TrAll.get ha.2.2 (k / 2 - 1) x h
        rwa [show 2 * (k / 2 - 1) + 2 = k from by omega] at this

theorem TrAll.none {α : Type} {Q : Nat → α → Prop} {l r : Tr α} {g : Nat → Nat} (h1 : TrAll Q l (fun k => g (2 * k + 1))) (h2 : TrAll Q r (fun k => g (2 * k + 2))) : TrAll Q (.node Option.none l r) g := ⟨fun _ h => (by cases h), h1, h2⟩
theorem TrAll.some {α : Type} {Q : Nat → α → Prop} {x : α} {l r : Tr α} {g : Nat → Nat} (h0 : Q (g 0) x) (h1 : TrAll Q l (fun k => g (2 * k + 1))) (h2 : TrAll Q r (fun k => g (2 * k + 2))) : TrAll Q (.node (Option.some x) l r) g :=
  ⟨fun _ h => (by cases h; exact h0), h1, h2⟩
theorem TrAll.nil {α : Type} {Q : Nat → α → Prop} {g : Nat → Nat} : TrAll Q (.nil : Tr α) g := trivial

/-- Where a law's arguments lie. -/
theorem MemRel.init {fl0 : Nat} {W : World} {ρ : Rho} {m : Mem} (h : ∀ i l, m.get i = some l → i < fl0 ∧ ∃ p, ρ i = some p ∧ BlockAt ρ false l p W) : MemRel W.heap.size fl0 W ρ m W where
  below := Below.refl _ _
  big := Nat.le_refl _
  mem i l hi := by
    obtain ⟨hlt, p, hp, hb⟩ := h i l hi
    refine ⟨p, hp, ?_, fun hle => by omega⟩
    rw [show decide (fl0 ≤ i) = false from by simp; omega]
    exact hb
  sep i j l l' p q hi _ gi := by have := (h i l gi).1; omega

/-- THE LAW's CALL: the machine says true. -/
theorem law_calls {P : Program} {E : Env} (hE : EnvOk P E) (hF : ∀ f fi, E.fn f = some fi → FnOk P f fi) {k f n n' : Nat} {args : List AV} {m m' : Mem} (h : callF E k n f args m n = some (.sc (.bool true), m', n')) {W : World} {ρ : Rho} {vals : Array Value}
    (hm : MemRel W.heap.size n W ρ m W) (ha : All2 (AV.rel ρ) args vals.toList) (hρ : ∀ i, n ≤ i → ρ i = none) : Calls P f vals W fun e w' => e = .returned (.bool true) ∧ Below W.heap.size W w' := by
  refine Calls.mono ((callF_ok hE hF (runOk hE hF k)) n f args m n _ m' n' (Nat.le_refl _) (Nat.le_refl _) h ρ W vals hm ha (fun i hi _ => hρ i hi)).2 ?_
  rintro e w' ⟨val, ρ', rfl, _, _, hm', hv⟩
  obtain rfl := hv
  exact ⟨rfl, hm'.below⟩

section post
open Go.ChangeShapes Go.WideShapes Go.ChangeAt
variable {H : Type} {enc : TypeId × Value → H} {P : Program} {W W' : World}

theorem below_trodAll (hl : laidOutB P = true) (hb : Below W.heap.size W W') : ∀ (ts : List TypeId) (vs : List Value) (ds : List (DataW H)) (ps : List MemPlace), (ts.all fun t => P.readableRec t && decide (t < P.types.size)) = true →
    (∀ x ∈ ps, x.block < W.heap.size) → DataW.TrodAll enc P W 0 (fun _ => true) true ts vs ds ps → DataW.TrodAll enc P W' 0 (fun b => decide (b < W.heap.size)) true ts vs ds ps
  | [], [], [], _, _, _, h => h
  | t :: ts, v :: vs, d :: ds, ps, hr, hlt, h => by
    obtain ⟨p, q, h1, h2, rfl⟩ := h
    simp only [List.all_cons, Bool.and_eq_true, decide_eq_true_eq] at hr
    exact ⟨p, q, Below.trod hl hr.1.1 hr.1.2 h1 hb (fun x hx => hlt x (by simp [hx])), below_trodAll hl hb ts vs ds q hr.2 (fun x hx => hlt x (by simp [hx])) h2, rfl⟩
  | [], _ :: _, _, _, _, _, h => by cases ‹List (DataW H)› <;> exact h.elim
  | [], [], _ :: _, _, _, _, h => h.elim
  | _ :: _, [], _, _, _, _, h => by cases ‹List (DataW H)› <;> exact h.elim
  | _ :: _, _ :: _, [], _, _, _, h => h.elim

/-- A LAW's POST: it said true, and nothing that was there has turned. -/
theorem law_post {f : Func} {s : ChangeSpec} {args : Array Value} {ds gs : List (DataW H)} {before : List MemPlace} (hW : DataW.Whole enc P f.params.toList s.vars false W args.toList ds gs before) (hb : Below W.heap.size W W')
    (hvars : s.vars = []) (hres : (s.fn H (ds ++ gs)).results = [.lit (.bool true)]) (harg : (s.fn H (ds ++ gs)).args = ds) (hvs : (s.fn H (ds ++ gs)).vars = gs)
    (hl : laidOutB P = true) (hr : (f.params.toList.all fun t => P.readableRec t && decide (t < P.types.size)) = true) {tb : TypeId} (hrt : f.resultTypes.toList = [tb]) (htb : P.underlying tb = some .bool) :
    s.post enc P f false true false false W args (.bool true) W' := by
  have hlt := hW.lt
  obtain ⟨p, q, hA, hV, rfl, hfz, hnd⟩ := hW
  have hp : ∀ x ∈ p, x.block < W.heap.size := fun x hx => hlt x (by simp [hx])
  have hrs : f.resultTypes.size = 1 := by rw [← Array.length_toList, hrt]; rfl
  refine ⟨ds, gs, p ++ q, [], p, q, ⟨p, q, hA, hV, rfl, hfz, hnd⟩, ?_, ?_, ?_, hb.frame _, fun h => by cases h⟩
  · rw [hres, hrt, hrs]
    exact trodAll_cons_mk (shut_bool htb _) trodAll_mk0
  · rw [harg]
    exact below_trodAll hl hb _ _ _ _ hr hp hA
  · rw [hvs]
    rw [hvars] at hV ⊢
    cases gs with
    | nil => exact hV
    | cons g gs => exact hV.elim

end post
end Go.Am

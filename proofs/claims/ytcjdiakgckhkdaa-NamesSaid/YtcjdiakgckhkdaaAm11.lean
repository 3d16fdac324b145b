/- Code and calls: whatever the abstract machine runs to its end, the model runs. -/
import Derived.Test.YtcjdiakgckhkdaaAm10
namespace Go.Am
open Go.RowKit

section drawn
variable {P : Program} {B fl0 : Nat} {w0 : World} {E : Env}

theorem ready_iff {ops : Array Oper} {listed : Array Bool} {i : Nat} : i ∈ Region.ready .any ops listed ↔ i < ops.size ∧ listed.getD i true = false ∧ ∀ o, ops[i]? = some o → ∀ e ∈ o.after.toList, Region.binds .any e = true → listed.getD e.on false = true := by
  unfold Region.ready
  rw [List.mem_filter]
  constructor
  · rintro ⟨h1, h2⟩
    simp only [Bool.and_eq_true, Bool.not_eq_true'] at h2
    refine ⟨by simpa using h1, h2.1, fun o ho e he hb => ?_⟩
    have h3 := h2.2
    rw [ho] at h3
    simp only [Option.map_some, Option.getD_some, Array.all_eq_true] at h3
    obtain ⟨k, hk, rfl⟩ := List.getElem_of_mem he
    have := h3 k (by simpa using hk)
    simp only [Array.getElem_toList] at hb ⊢
    simpa [hb] using this
  · rintro ⟨h1, h2, h3⟩
    refine ⟨by simpa using h1, ?_⟩
    simp only [h2, Bool.not_false, Bool.true_and]
    rw [Array.getElem?_eq_getElem h1]
    simp only [Option.map_some, Option.getD_some, Array.all_eq_true]
    intro k hk
    have := h3 _ (Array.getElem?_eq_getElem h1) (ops[i].after[k]) (by simp)
    cases hb : Region.binds .any ops[i].after[k] with
    | false => simp
    | true => simpa using this hb

theorem drawn_sound (hE : EnvOk P E) {call : CallF} (hcall : CallOk P B fl0 w0 call) (hck : CallKeeps call) {loose : Bool} (htight : loose = true → CallTight call) {fl N : Nat} (hfl : fl0 ≤ fl) {lim : Option Nat} {ops : Array Oper} {Q : Exit → Act → World → Prop}
    (hdraw : drawOk ops loose = true) (hdst : ∀ o ∈ ops.toList, ∀ d, o.dst = some d → d < N) (hplain : lim = none → plainOps ops = true) {tf : Tr AV} {mf : Mem} {kf : Nat} (hkf : fl0 ≤ kf) :
    ∀ (fuel : Nat) (asg : List El) (listed : Array Bool) (t : Tr AV) (m : Mem) (k0 n0 : Nat) (ρ : Rho) (a : Act) (w : World), asg.length ≤ fuel → listed.size = ops.size →
      (∀ e ∈ asg, e.i < ops.size ∧ listed.getD e.i true = false ∧ ops[e.i]? = some e.o) → (∀ i, i < ops.size → listed.getD i true = false → ∃ e ∈ asg, e.i = i) → asg.Pairwise (fun x y => x.i < y.i) →
      (∀ q, q < ops.size → listed.getD q true = true → ∀ p, p < q → ((Region.before ops).getD q 0).testBit p = true → listed.getD p true = true) →
      Asc k0 asg kf → fl0 ≤ k0 → (∀ l, lim = some l → l ≤ k0) → (∀ e ∈ asg, ∀ q, e.k ≤ q → q < e.k' → ρ q = none) → StRel B fl0 w0 N ρ ⟨t, m, n0⟩ a w → runAsg E call fl lim ops asg t m = some (tf, mf) →
      (∀ ρ' a' w', Ext ρ ρ' → (∀ q, ρ' q ≠ none → ρ q ≠ none ∨ (k0 ≤ q ∧ q < kf)) → StRel B fl0 w0 N ρ' ⟨tf, mf, kf⟩ a' w' → Q .normal a' w') →
      wpAny P .any ops Q fuel listed a w := by
  have hpre : ∀ (j : Nat) (o : Oper), ops[j]? = some o → (∀ e ∈ o.after.toList, Region.binds .any e = true → e.on < j) ∧ bitsOk (Region.before ops) j o = true ∧
      (∀ (i : Nat) (p : Oper), ops[i]? = some p → i < j → ((Region.before ops).getD j 0).testBit i = true ∨ pairOk ops loose p o = true) := by
    intro j o ho
    unfold drawOk at hdraw
    simp only [List.all_eq_true, Bool.and_eq_true, Prod.forall] at hdraw
    have hm : (o, j) ∈ ops.toList.zipIdx := by
      rw [List.mem_zipIdx_iff_getElem?]; simpa using ho
    obtain ⟨⟨h1, h2⟩, h3⟩ := hdraw o j hm
    refine ⟨fun e he hb => ?_, h2, fun i p hp hi => ?_⟩
    · have := h1 e he
      simpa [hb] using this
    · have := h3 p i (by rw [List.mem_zipIdx_iff_getElem?]; simpa using hp)
      simpa [hi] using this
  -- whoever is ahead of a ready one, in the bits, is listed
  have hbits : ∀ (listed : Array Bool) (i p : Nat) (o : Oper), ops[i]? = some o → listed.size = ops.size → (∀ e ∈ o.after.toList, Region.binds .any e = true → listed.getD e.on false = true) →
      (∀ q, q < ops.size → listed.getD q true = true → ∀ p, p < q → ((Region.before ops).getD q 0).testBit p = true → listed.getD p true = true) → p < i → ((Region.before ops).getD i 0).testBit p = true → listed.getD p true = true := by
    intro listed i p o ho hsz hl hcl hp hb
    have h2 := (hpre i o ho).2.1
    unfold bitsOk at h2
    simp only [List.all_eq_true, List.mem_range] at h2
    have h3 := h2 p hp
    simp only [hb, Bool.not_true, Bool.false_or, List.any_eq_true, Bool.and_eq_true, Bool.or_eq_true, beq_iff_eq, decide_eq_true_eq] at h3
    obtain ⟨e, he, heb, h4⟩ := h3
    have hon := hl e he heb
    have honlt : e.on < listed.size := by
      rcases Nat.lt_or_ge e.on listed.size with h | h
      · exact h
      · rw [Array.getD_eq_getD_getElem?, Array.getElem?_eq_none h] at hon; simp at hon
    have hon' : listed.getD e.on true = true := by
      rw [Array.getD_eq_getD_getElem?, Array.getElem?_eq_getElem honlt] at hon ⊢
      simpa using hon
    rcases h4 with h4 | ⟨h4, h5⟩
    · rw [← h4]; exact hon'
    · exact hcl e.on (by omega) hon' p h4 h5
  intro fuel
  induction fuel with
  | zero =>
    intro asg listed t m k0 n0 ρ a w hlen hsz hin hall hpw hcl hasc hk0 hlim hfresh hrel hrun hQ
    have : asg = [] := List.eq_nil_of_length_eq_zero (by omega)
    subst this
    simp only [runAsg, Option.some.injEq, Prod.mk.injEq] at hrun
    obtain ⟨rfl, rfl⟩ := hrun
    refine ⟨?_, hQ ρ a w (Ext.refl _) (fun _ h => .inl h) ⟨hrel.mem, hrel.tmps, hrel.size, hrel.defers, hkf⟩⟩
    rw [List.eq_nil_iff_forall_not_mem]
    intro i hi
    obtain ⟨h1, h2, _⟩ := ready_iff.1 hi
    obtain ⟨e, he, _⟩ := hall i h1 h2
    simp at he
  | succ fuel ih =>
    intro asg listed t m k0 n0 ρ a w hlen hsz hin hall hpw hcl hasc hk0 hlim hfresh hrel hrun hQ
    constructor
    · intro hre
      cases asg with
      | nil =>
        simp only [runAsg, Option.some.injEq, Prod.mk.injEq] at hrun
        obtain ⟨rfl, rfl⟩ := hrun
        exact hQ ρ a w (Ext.refl _) (fun _ h => .inl h) ⟨hrel.mem, hrel.tmps, hrel.size, hrel.defers, hkf⟩
      | cons e r =>
        exfalso
        obtain ⟨h1, h2, h3⟩ := hin e (by simp)
        have : e.i ∈ Region.ready .any ops listed := by
          refine ready_iff.2 ⟨h1, h2, fun o ho ed hed hb => ?_⟩
          rw [h3] at ho; cases ho
          have hlt := (hpre e.i e.o h3).1 ed hed hb
          by_cases hl : listed.getD ed.on true = true
          · rw [Array.getD_eq_getD_getElem?, Array.getElem?_eq_getElem (by omega)] at hl ⊢
            simpa using hl
          · exfalso
            obtain ⟨x, hx, hxi⟩ := hall ed.on (by omega) (by simpa using hl)
            rcases List.mem_cons.1 hx with rfl | hx
            · omega
            · have := (List.pairwise_cons.1 hpw).1 x hx
              omega
        rw [hre] at this
        simp at this
    · intro i hi
      obtain ⟨hi1, hi2, hi3⟩ := ready_iff.1 hi
      obtain ⟨e, he, rfl⟩ := hall i hi1 hi2
      obtain ⟨l1, l2, rfl⟩ := List.append_of_mem he
      obtain ⟨_, _, heo⟩ := hin e he
      have hpw' := List.pairwise_append.1 hpw
      obtain ⟨s1, s2, s3, s4⟩ := Asc.split hasc
      have hfront := front htight l1 t m (fun x hx => by
        have hxi : x.i < e.i := hpw'.2.2 x hx e (by simp)
        obtain ⟨hx1, hx2, hx3⟩ := hin x (by simp [hx])
        refine ⟨?_, (s1 x hx).1, (s1 x hx).2, ?_⟩
        · rcases (hpre e.i e.o heo).2.2 x.i x.o hx3 hxi with h | h
          · have := hbits listed e.i x.i e.o heo hsz (hi3 e.o heo) hcl hxi h
            rw [hx2] at this; cases this
          · exact h
        · cases hl : lim with
          | none =>
            right
            have hp := hplain hl
            unfold plainOps at hp
            simp only [List.all_eq_true, decide_eq_true_eq] at hp
            exact ⟨hp x.o (by simpa using Array.mem_of_getElem? hx3), hp e.o (by simpa using Array.mem_of_getElem? heo)⟩
          | some l =>
            left
            exact ⟨l, rfl, Nat.le_trans (hlim l hl) (Asc.mem _ _ hasc x (by simp [hx])).1⟩) hrun
      obtain ⟨v, m1, hw, hrest⟩ := runAsg_cons hfront
      have hek : k0 ≤ e.k := (Asc.mem _ _ hasc e he).1
      have hst : stepA E call fl lim ops e.o ⟨t, m, e.k⟩ = some ⟨putT t e.o.dst v, m1, e.k'⟩ := by
        rw [stepA_eq, hw]; simp [put_eq]
      have hrel' : StRel B fl0 w0 N ρ ⟨t, m, e.k⟩ a w := ⟨hrel.mem, hrel.tmps, hrel.size, hrel.defers, Nat.le_trans hk0 hek⟩
      refine step_sound hE hcall hfl hck hrel' heo (hdst e.o (by simpa using Array.mem_of_getElem? heo)) hst (fun q h1 h2 => hfresh e he q h1 h2) ?_
      intro ρ' a' w' hext hdom hrel2
      refine ih (l1 ++ l2) (listed.setIfInBounds e.i true) _ m1 k0 e.k' ρ' a' w' (by simp at hlen ⊢; omega) (by simpa using hsz) ?_ ?_ ?_ ?_ s4 hk0 hlim ?_ hrel2 hrest ?_
      · intro x hx
        have hx' : x ∈ l1 ++ e :: l2 := by
          rcases List.mem_append.1 hx with h | h <;> simp [h]
        obtain ⟨h1, h2, h3⟩ := hin x hx'
        refine ⟨h1, ?_, h3⟩
        have hne : e.i ≠ x.i := by
          rcases List.mem_append.1 hx with h | h
          · have := hpw'.2.2 x h e (by simp); omega
          · have := (List.pairwise_cons.1 hpw'.2.1).1 x h; omega
        rw [Array.getD_eq_getD_getElem?] at h2 ⊢
        rw [Array.getElem?_setIfInBounds, if_neg hne]
        exact h2
      · intro j hj hl
        rw [Array.getD_eq_getD_getElem?, Array.getElem?_setIfInBounds] at hl
        by_cases hje : e.i = j
        · rw [if_pos hje, if_pos (by omega)] at hl; simp at hl
        · rw [if_neg hje] at hl
          obtain ⟨x, hx, hxi⟩ := hall j hj (by rw [Array.getD_eq_getD_getElem?]; exact hl)
          refine ⟨x, ?_, hxi⟩
          rcases List.mem_append.1 hx with h | h
          · simp [h]
          · rcases List.mem_cons.1 h with rfl | h
            · exact (hje hxi).elim
            · simp [h]
      · refine List.pairwise_append.2 ⟨hpw'.1, (List.pairwise_cons.1 hpw'.2.1).2, fun x hx y hy => hpw'.2.2 x hx y (by simp [hy])⟩
      · have hget : ∀ q, (listed.setIfInBounds e.i true).getD q true = true ↔ (q = e.i ∨ listed.getD q true = true) := by
          intro q
          rw [Array.getD_eq_getD_getElem?, Array.getD_eq_getD_getElem?, Array.getElem?_setIfInBounds]
          by_cases hq : e.i = q
          · rw [if_pos hq]
            by_cases hs : e.i < listed.size
            · rw [if_pos hs]; simp [hq]
            · rw [if_neg hs]; simp [hq]
          · rw [if_neg hq]
            constructor
            · exact .inr
            · rintro (h | h)
              · exact (hq h.symm).elim
              · exact h
        intro q hq hl p hp hb
        rw [hget] at hl ⊢
        right
        rcases hl with rfl | hl
        · exact hbits listed e.i p e.o heo hsz (hi3 e.o heo) hcl hp hb
        · exact hcl q hq hl p hp hb
      · intro x hx q h1 h2
        have hx' : x ∈ l1 ++ e :: l2 := by
          rcases List.mem_append.1 hx with h | h <;> simp [h]
        by_cases hn : ρ' q = none
        · exact hn
        · exfalso
          rcases hdom q hn with h | ⟨h3, h4⟩
          · exact h (hfresh x hx' q h1 h2)
          · simp only at h3 h4
            rcases List.mem_append.1 hx with h | h
            · have := (s1 x h).2; omega
            · have := s3 x h; omega
      · intro ρ'' a'' w'' hext2 hdom2 hrel3
        refine hQ ρ'' a'' w'' (hext.trans hext2) (fun q hq => ?_) hrel3
        rcases hdom2 q hq with h | h
        · rcases hdom q h with h | ⟨h3, h4⟩
          · exact .inl h
          · have := (Asc.mem _ _ hasc e he).2.2
            simp only at h3 h4
            exact .inr ⟨by omega, by omega⟩
        · exact .inr h

end drawn
end Go.Am

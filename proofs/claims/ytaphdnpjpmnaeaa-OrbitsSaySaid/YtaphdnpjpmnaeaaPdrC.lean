/- Sorting by a comparison: the partition. -/
import Derived.Test.YtaphdnpjpmnaeaaPdrB
set_option linter.unusedVariables false
set_option linter.unusedSimpArgs false
namespace Go.Proofs.Ytaphdnpjpmnaeaa.pdqR
open Go.Am Go.Proofs.Ytaphdnpjpmnaeaa.pdqN

section
variable {P : E → Prop} {cv : E → E → Int} {F0 F : Nat} {L : List E} {a b : Nat}
structure PT (cv : E → E → Int) (a b : Nat) (L : List E) (pv : E) (i jj : Nat) (L2 : List E) : Prop where
  ai : a < i
  ij : i ≤ jj
  jb : jj ≤ b
  mv : Mv a b L L2
  pa : nx e0 L2 a = pv
  lo : ∀ k, a < k → k < i → cv (nx e0 L2 k) pv < 0
  hi : ∀ k, jj ≤ k → k < b → ¬ cv (nx e0 L2 k) pv < 0
structure PQ (cv : E → E → Int) (a b : Nat) (L : List E) (pv : E) (m : Nat) (L' : List E) : Prop where
  am : a ≤ m
  mb : m < b
  mv : Mv a b L L'
  pm : nx e0 L' m = pv
  lo : ∀ k, a ≤ k → k < m → cv (nx e0 L' k) pv < 0
  hi : ∀ k, m < k → k < b → ¬ cv (nx e0 L' k) pv < 0
theorem PT.fin {pv : E} {i : Nat} {L2 : List E} (h : PT cv a b L pv i i L2) (hb : b ≤ L.length) : PQ cv a b L pv (i - 1) (swp L2 (i - 1) a) := by
  have h1 := h.ai; have h2 := h.jb
  have hl := h.mv.len
  have hs := nx_swp (L := L2) (i := i - 1) (j := a) (by omega) (by omega)
  refine ⟨by omega, by omega, h.mv.trans (Mv.swap (by omega) (by omega) (by omega)), ?_, fun k k1 k2 => ?_, fun k k1 k2 => ?_⟩
  · rw [hs]
    by_cases q : i - 1 = a
    · rw [if_pos q, q]; exact h.pa
    · rw [if_neg q, if_pos rfl]; exact h.pa
  · rw [hs]
    by_cases q : k = a
    · rw [if_pos q]; exact h.lo (i - 1) (by omega) (by omega)
    · rw [if_neg q, if_neg (by omega)]; exact h.lo k (by omega) (by omega)
  · rw [hs, if_neg (by omega), if_neg (by omega)]; exact h.hi k (by omega) k2
/-- The two searches of a round. -/
theorem PT.seek {pv : E} {i jj : Nat} {L2 : List E} (h : PT cv a b L pv i jj L2) {x1 y1 : Nat} (a1 : i ≤ x1) (a2 : x1 ≤ jj) (a3 : ∀ k, i ≤ k → k < x1 → cv (nx e0 L2 k) pv < 0) (b1 : x1 ≤ y1) (b2 : y1 ≤ jj) (b3 : ∀ k, y1 ≤ k → k < jj → ¬ cv (nx e0 L2 k) pv < 0) : PT cv a b L pv x1 y1 L2 :=
  ⟨by have := h.ai; omega, b1, by have := h.jb; omega, h.mv, h.pa, fun k k1 k2 => by
    by_cases q : k < i
    · exact h.lo k k1 q
    · exact a3 k (by omega) k2, fun k k1 k2 => by
    by_cases q : k < jj
    · exact b3 k k1 q
    · exact h.hi k (by omega) k2⟩
theorem PT.next {pv : E} {x1 y1 : Nat} {L2 : List E} (h : PT cv a b L pv x1 y1 L2) (hb : b ≤ L.length) (hx : ¬ cv (nx e0 L2 x1) pv < 0) (hy : cv (nx e0 L2 (y1 - 1)) pv < 0) (hxy : x1 < y1) : PT cv a b L pv (x1 + 1) (y1 - 1) (swp L2 x1 (y1 - 1)) := by
  have h1 := h.ai; have h2 := h.jb
  have hl := h.mv.len
  have hne : x1 ≠ y1 - 1 := fun e => hx (e ▸ hy)
  have hs := nx_swp (L := L2) (i := x1) (j := y1 - 1) (by omega) (by omega)
  refine ⟨by omega, by omega, by omega, h.mv.trans (Mv.swap (by omega) (by omega) (by omega)), ?_, fun k k1 k2 => ?_, fun k k1 k2 => ?_⟩
  · rw [hs, if_neg (by omega), if_neg (by omega)]; exact h.pa
  · rw [hs, if_neg (by omega)]
    by_cases q : k = x1
    · rw [if_pos q]; exact hy
    · rw [if_neg q]; exact h.lo k k1 (by omega)
  · rw [hs]
    by_cases q : k = y1 - 1
    · rw [if_pos q]; exact hx
    · rw [if_neg q, if_neg (by omega)]; exact h.hi k (by omega) k2

theorem part_loop (hC : Cmp P cv F0) (hF : F0 ≤ F) (hR : Rng L a b) (hP : AP P L) (hG : b - a + 5 ≤ F) (pv : E) (i jj : Nat) (L2 : List E) (h0 : PT cv a b L pv i jj L2) :
    ∃ (m : Nat) (L3 : List E), iter (F44_17_l4 F (a : Int)) F ((i : Int), (jj : Int) - 1, L2) = some ((m : Int) - 1, L3) ∧ PT cv a b L pv m m L3 := by
  have h1 := hR.ab; have h2 := hR.bl; have h3 := hR.sm
  obtain ⟨x, e, hQ⟩ := iter_inv (step := F44_17_l4 F (a : Int)) (I := fun s : Int × Int × List E => ∃ i jj : Nat, s.1 = (i : Int) ∧ s.2.1 = (jj : Int) - 1 ∧ PT cv a b L pv i jj s.2.2) (μ := fun s => (s.2.1 + 1 - s.1).toNat) (Q := fun r : Int × List E => ∃ m : Nat, r.1 = (m : Int) - 1 ∧ PT cv a b L pv m m r.2) (by
    rintro ⟨s, t, L2⟩ ⟨i, jj, rfl, rfl, h⟩
    simp only at h
    have i1 := h.ai; have i2 := h.ij; have i3 := h.jb; have i5 := h.pa
    have hl := h.mv.len
    have hP2 := hP.mv h2 h.mv
    have hpa := hP2 a (by omega)
    unfold F44_17_l4
    simp only
    obtain ⟨x1, e1, a1, a2, a3, a4⟩ := adv_loop (step := F44_17_l2 F (a : Int) ((i : Int), (jj : Int) - 1, L2)) (fun k => decide (cv (nx e0 L2 k) pv < 0)) jj (jj - i) i F (Nat.le_refl _) (by omega) i2 (fun k k1 k2 => by
      unfold F44_17_l2
      simp only
      rw [if_pos (decide_eq_true (by omega)), nx_get (d := e0) (by omega : a < L2.length), nx_get (d := e0) (by omega : k < L2.length)]
      simp only [Option.bind_some]
      rw [hC.ok F hF _ _ (hP2 k (by omega)) hpa, i5, wsuc (by omega)]
      simp only [Option.bind_some]
      exact ite_some _ _) (by
      unfold F44_17_l2
      simp only
      rw [if_neg (by rw [decide_eq_true_eq]; omega)]
      rfl)
    rw [e1, Option.bind_some]
    obtain ⟨y1, f1, b1, b2, b3, b4⟩ := dec_loop (step := F44_17_l3 F (a : Int) ((i : Int), (jj : Int) - 1, L2) (x1 : Int)) (fun k => !decide (cv (nx e0 L2 k) pv < 0)) x1 (jj - x1) jj F (Nat.le_refl _) (by omega) a2 (fun k k1 k2 => by
      unfold F44_17_l3
      simp only
      rw [if_pos (decide_eq_true (by omega)), nx_get (d := e0) (by omega : a < L2.length), nx_get (d := e0) (by omega : k < L2.length)]
      simp only [Option.bind_some]
      rw [hC.ok F hF _ _ (hP2 k (by omega)) hpa, i5, w64 (by omega) (by omega)]
      simp only [Option.bind_some]
      exact ite_some _ _) (by
      unfold F44_17_l3
      simp only
      rw [if_neg (by rw [decide_eq_true_eq]; omega)]
      rfl)
    rw [f1, Option.bind_some]
    have hs := h.seek a1 a2 (fun k k1 k2 => by have := a3 k k1 k2; simpa using this) b1 b2 (fun k k1 k2 => by have := b3 k k1 k2; simpa using this)
    by_cases hxy : y1 ≤ x1
    · right
      have : y1 = x1 := by omega
      subst this
      rw [if_pos (decide_eq_true (by omega))]
      exact ⟨_, rfl, y1, rfl, hs⟩
    · left
      have hx : ¬ cv (nx e0 L2 x1) pv < 0 := by have := a4 (by omega); simpa using this
      have hy : cv (nx e0 L2 (y1 - 1)) pv < 0 := by have := b4 (by omega); simpa using this
      rw [if_neg (by rw [decide_eq_true_eq]; omega), show (y1 : Int) - 1 = ((y1 - 1 : Nat) : Int) from by omega, nx_get (d := e0) (by omega : y1 - 1 < L2.length), nx_get (d := e0) (by omega : x1 < L2.length)]
      simp only [Option.bind_some]
      rw [ck_ok (by omega : x1 < L2.length), Option.bind_some]
      simp only [Int.toNat_natCast]
      rw [ck_ok (by simp; omega), Option.bind_some, wsuc (by omega), w64 (by omega) (by omega)]
      exact ⟨_, rfl, ⟨x1 + 1, y1 - 1, rfl, rfl, hs.next h2 hx hy (by omega)⟩, by simp only; omega⟩) F ((i : Int), (jj : Int) - 1, L2) ⟨i, jj, rfl, rfl, h0⟩ (by have := h0.ai; have := h0.jb; simp only; omega)
  obtain ⟨m, hm, hp⟩ := hQ
  exact ⟨m, x.2, by rw [e, ← hm], hp⟩
theorem part_eq (hC : Cmp P cv F0) (hF : F0 ≤ F) (hR : Rng L a b) (hP : AP P L) (hG : b - a + 5 ≤ F) (v : Nat) (hv : a ≤ v) (hvb : v < b) : ∃ (m : Nat) (al : Bool) (L' : List E), F44_17 F L (a : Int) (b : Int) (v : Int) = some ((m : Int), al, L') ∧ PQ cv a b L (nx e0 L v) m L' := by
  have h1 := hR.ab; have h2 := hR.bl; have h3 := hR.sm
  have hpv := hP v (by omega)
  have hM : Mv a b L (swp L a v) := Mv.swap (by omega) (by omega) (by omega)
  have hP2 := hP.mv h2 hM
  have hl := hM.len
  have i5 : nx e0 (swp L a v) a = nx e0 L v := by
    rw [nx_swp (by omega) (by omega)]
    by_cases q : a = v
    · rw [if_pos q, q]
    · rw [if_neg q, if_pos rfl]
  have hpa := hP2 a (by omega)
  have h0 : PT cv a b L (nx e0 L v) (a + 1) b (swp L a v) := ⟨by omega, by omega, Nat.le_refl _, hM, i5, fun k k1 k2 => by omega, fun k k1 k2 => by omega⟩
  unfold F44_17
  rw [nx_get (d := e0) (by omega : v < L.length), nx_get (d := e0) (by omega : a < L.length), Option.bind_some, Option.bind_some, ck_ok (by omega : a < L.length), Option.bind_some]
  simp only [Int.toNat_natCast]
  rw [ck_ok (by simp; omega), Option.bind_some, wsuc (by omega)]
  rw [show (L.set a (nx e0 L v)).set v (nx e0 L a) = swp L a v from rfl]
  obtain ⟨x1, e1, a1, a2, a3, a4⟩ := adv_loop (step := F44_17_l0 F L (a : Int) (b : Int) (v : Int) (nx e0 L v) (nx e0 L a)) (fun k => decide (cv (nx e0 (swp L a v) k) (nx e0 L v) < 0)) b (b - (a + 1)) (a + 1) F (Nat.le_refl _) (by omega) (by omega) (fun k k1 k2 => by
    unfold F44_17_l0
    simp only [Int.toNat_natCast]
    rw [show (L.set a (nx e0 L v)).set v (nx e0 L a) = swp L a v from rfl, wpred (by omega) (by omega), if_pos (decide_eq_true (by omega)), nx_get (d := e0) (by omega : a < (swp L a v).length), nx_get (d := e0) (by omega : k < (swp L a v).length)]
    simp only [Option.bind_some]
    rw [hC.ok F hF _ _ (hP2 k (by omega)) hpa, i5, wsuc (by omega)]
    simp only [Option.bind_some]
    exact ite_some _ _) (by
    unfold F44_17_l0
    rw [wpred (by omega) (by omega), if_neg (by rw [decide_eq_true_eq]; omega)]
    rfl)
  rw [e1, Option.bind_some]
  obtain ⟨y1, f1, b1, b2, b3, b4⟩ := dec_loop (step := F44_17_l1 F L (a : Int) (v : Int) (nx e0 L v) (nx e0 L a) (x1 : Int)) (fun k => !decide (cv (nx e0 (swp L a v) k) (nx e0 L v) < 0)) x1 (b - x1) b F (Nat.le_refl _) (by omega) a2 (fun k k1 k2 => by
    unfold F44_17_l1
    simp only [Int.toNat_natCast]
    rw [show (L.set a (nx e0 L v)).set v (nx e0 L a) = swp L a v from rfl, if_pos (decide_eq_true (by omega)), nx_get (d := e0) (by omega : a < (swp L a v).length), nx_get (d := e0) (by omega : k < (swp L a v).length)]
    simp only [Option.bind_some]
    rw [hC.ok F hF _ _ (hP2 k (by omega)) hpa, i5, w64 (by omega) (by omega)]
    simp only [Option.bind_some]
    exact ite_some _ _) (by
    unfold F44_17_l1
    rw [if_neg (by rw [decide_eq_true_eq]; omega)]
    rfl)
  rw [w64 (a := (b : Int) - 1) (by omega) (by omega), f1, Option.bind_some]
  have hs := h0.seek a1 a2 (fun k k1 k2 => by have := a3 k k1 k2; simpa using this) b1 b2 (fun k k1 k2 => by have := b3 k k1 k2; simpa using this)
  have ty : (y1 : Int) - 1 = ((y1 - 1 : Nat) : Int) := by omega
  rw [ty]
  by_cases hxy : y1 ≤ x1
  · have : y1 = x1 := by omega
    subst this
    rw [if_pos (decide_eq_true (by omega)), nx_get (d := e0) (by omega : a < (swp L a v).length), nx_get (d := e0) (by omega : y1 - 1 < (swp L a v).length)]
    simp only [Option.bind_some]
    rw [ck_ok (by omega : y1 - 1 < (swp L a v).length), Option.bind_some]
    simp only [Int.toNat_natCast]
    rw [ck_ok (by simp; omega), Option.bind_some]
    exact ⟨y1 - 1, true, swp (swp L a v) (y1 - 1) a, rfl, hs.fin h2⟩
  · have hx : ¬ cv (nx e0 (swp L a v) x1) (nx e0 L v) < 0 := by have := a4 (by omega); simpa using this
    have hy : cv (nx e0 (swp L a v) (y1 - 1)) (nx e0 L v) < 0 := by have := b4 (by omega); simpa using this
    have hn := hs.next h2 hx hy (by omega)
    rw [if_neg (by rw [decide_eq_true_eq]; omega), nx_get (d := e0) (by omega : y1 - 1 < (swp L a v).length), nx_get (d := e0) (by omega : x1 < (swp L a v).length)]
    simp only [Option.bind_some]
    rw [ck_ok (by omega : x1 < (swp L a v).length), Option.bind_some]
    simp only [Int.toNat_natCast]
    rw [ck_ok (by simp; omega), Option.bind_some, wsuc (by omega), w64 (by omega) (by omega)]
    obtain ⟨m, L3, e3, hf⟩ := part_loop hC hF hR hP hG (nx e0 L v) (x1 + 1) (y1 - 1) (swp (swp L a v) x1 (y1 - 1)) hn
    have e3' : iter (F44_17_l4 F (a : Int)) F (((x1 + 1 : Nat) : Int), ((y1 - 1 : Nat) : Int) - 1, ((swp L a v).set x1 (nx e0 (swp L a v) (y1 - 1))).set (y1 - 1) (nx e0 (swp L a v) x1)) = some ((m : Int) - 1, L3) := e3
    rw [e3', Option.bind_some]
    simp only
    have hm1 := hf.ai; have hm2 := hf.jb; have hl3 := hf.mv.len
    rw [show (m : Int) - 1 = ((m - 1 : Nat) : Int) from by omega, nx_get (d := e0) (by omega : a < L3.length), nx_get (d := e0) (by omega : m - 1 < L3.length)]
    simp only [Option.bind_some]
    rw [ck_ok (by omega : m - 1 < L3.length), Option.bind_some]
    simp only [Int.toNat_natCast]
    rw [ck_ok (by simp; omega), Option.bind_some]
    exact ⟨m - 1, false, swp L3 (m - 1) a, rfl, hf.fin h2⟩
end
end Go.Proofs.Ytaphdnpjpmnaeaa.pdqR

/- orbits.Group and castref.GroupOf: all that some orders make, in order. -/
import Derived.Test.YtaphdnpjpmnaeaaOrbB
set_option linter.unusedVariables false
set_option linter.unusedSimpArgs false
namespace Go.Proofs.Ytaphdnpjpmnaeaa.orb
open Go.Am

abbrev keyP (x : List Int) : List Int := cpy (List.replicate 6 0) x
section
variable {n : Nat} {l : List (List Int)}
theorem keyP_eq {x : List Int} (hx : x.length ≤ 6) : keyP x = x ++ List.replicate (6 - x.length) 0 := by
  unfold keyP cpy
  rw [List.take_of_length_le (by simp; omega), List.drop_replicate]
theorem keyP_len {x : List Int} (hx : x.length ≤ 6) : (keyP x).length = 6 := by
  rw [keyP_eq hx]; simp; omega
theorem keyP_inj {x y : List Int} (hx : x.length ≤ 6) (h : x.length = y.length) (e : keyP x = keyP y) : x = y := by
  rw [keyP_eq hx, keyP_eq (by omega)] at e
  exact (List.append_inj e h).1
theorem keyI_ok (hn : n ≤ 6) {x : List Int} (h : Od n x) : keyI? 6 (keyP x) = some () := by
  unfold keyI?
  rw [if_pos]
  have hl := h.ln
  simp only [Bool.and_eq_true, beq_iff_eq, List.all_eq_true, decide_eq_true_eq]
  refine ⟨keyP_len (by omega), fun a ha => ?_⟩
  rw [keyP_eq (by omega)] at ha
  rcases List.mem_append.1 ha with q | q
  · have := h.gd.2 a q; omega
  · have := (List.mem_replicate.1 q).2; omega

theorem od_perm (hn : n ≤ 6) {p : List Int} (h : Od n p) : permE p = 0 := permE_good h.gd (by have := h.ln; omega)
theorem times_od (F : Nat) (hF : 40 ≤ F) (hn : n ≤ 6) {p q : List Int} (h : Od n p) (g : Od n q) : F15 F p q = some (mulP p q, 0) :=
  times_eq F p q hF (od_perm hn h) (od_perm hn g) (by rw [h.ln, g.ln])
theorem after_od (F : Nat) (hF : 40 ≤ F) (hn : n ≤ 6) {p q : List Int} (h : Od n p) (g : Od n q) : F24 F p q = some (mulP p q) :=
  after_eq F p q (by omega) h.gd (by have := h.ln; omega) (fun x hx => by have := g.gd.2 x hx; rw [g.ln] at this; rw [h.ln]; exact this) (by have := g.ln; omega)

/-! ### Group -/
structure Inv (n : Nat) (l out : List (List Int)) (seen : List (List Int × Int)) : Prop where
  nd : out.Nodup
  rc : ∀ x ∈ out, Rch n l x
  sn : ∀ x, Od n x → (x ∈ out → (mget seen (keyP x)).getD 0 = 1) ∧ (x ∉ out → (mget seen (keyP x)).getD 0 = 0)
theorem Inv.few (hn : n ≤ 6) (hl : ∀ p ∈ l, Od n p) {out : List (List Int)} {seen : List (List Int × Int)} (h : Inv n l out seen) : out.length ≤ 46656 := orb.few hn h.nd fun x hx => (h.rc x hx).od hl
theorem Inv.add (hn : n ≤ 6) {out : List (List Int)} {seen : List (List Int × Int)} (h : Inv n l out seen) {x : List Int} (hx : x ∉ out) (hr : Rch n l x) (ho : Od n x) : Inv n l (out ++ [x]) (mput seen (keyP x) 1) := by
  refine ⟨?_, fun y hy => ?_, fun y hy => ?_⟩
  · rw [List.nodup_append]
    refine ⟨h.nd, by simp, fun a ha b hb => ?_⟩
    rw [List.mem_singleton] at hb
    exact fun e => hx (by rw [← hb, ← e]; exact ha)
  · rcases List.mem_append.1 hy with q | q
    · exact h.rc y q
    · rw [List.mem_singleton.1 q]; exact hr
  · rw [mget_mput]
    have hl1 := ho.ln
    have hl2 := hy.ln
    by_cases e : x = y
    · subst e
      rw [if_pos rfl]
      exact ⟨fun _ => rfl, fun q => absurd (List.mem_append.2 (.inr (by simp))) q⟩
    · rw [if_neg (fun q => e (keyP_inj (by omega) (by omega) q))]
      obtain ⟨h1, h2⟩ := h.sn y hy
      refine ⟨fun q => ?_, fun q => h2 fun w => q (List.mem_append.2 (.inl w))⟩
      rcases List.mem_append.1 q with q | q
      · exact h1 q
      · exact absurd (List.mem_singleton.1 q).symm e
theorem group_in (F : Nat) (hF : 1000 ≤ F) (hn : n ≤ 6) (hl : ∀ p ∈ l, Od n p) (hll : l.length ≤ 6) {out : List (List Int)} {seen : List (List Int × Int)} {k : Nat} (hk : k < out.length) (h : Inv n l out seen) :
    ∃ out' seen', iter (F4_l1 F l (out, (k : Int), seen)) F (out, 0, seen) = some (out', seen') ∧ Inv n l out' seen' ∧ (∃ e, out' = out ++ e) ∧ ∀ p ∈ l, mulP p out[k] ∈ out' := by
  have hg : Rch n l out[k] := h.rc _ (List.getElem_mem hk)
  obtain ⟨⟨o', s'⟩, hb, hQ⟩ := iter_inv (step := F4_l1 F l (out, (k : Int), seen)) (I := fun s => ∃ (i : Nat) (o' : List (List Int)) (s' : List (List Int × Int)), s = (o', (i : Int), s') ∧ i ≤ l.length ∧ Inv n l o' s' ∧ (∃ e, o' = out ++ e) ∧ ∀ (j : Nat) (hj : j < l.length), j < i → mulP l[j] out[k] ∈ o') (μ := fun s => l.length - s.2.1.toNat)
    (Q := fun b => Inv n l b.1 b.2 ∧ (∃ e, b.1 = out ++ e) ∧ ∀ p ∈ l, mulP p out[k] ∈ b.1) (by
      rintro _ ⟨i, o', s', rfl, hi, hI, ⟨e, he⟩, hm⟩
      unfold F4_l1
      simp only
      by_cases hlt : i < l.length
      · left
        have hp := hl _ (List.getElem_mem hlt)
        have hko : k < o'.length := by rw [he, List.length_append]; omega
        have hok : o'[k] = out[k] := by subst he; exact List.getElem_append_left hk
        have hx : Od n (mulP l[i] out[k]) := hp.mul (hg.od hl)
        have hxr : Rch n l (mulP l[i] out[k]) := .mul _ _ (List.getElem_mem hlt) hg
        have hfew := hI.few hn hl
        rw [if_pos (decide_eq_true (by omega)), at?_in hlt, Option.bind_some, at?_in hko, Option.bind_some, hok, times_od F (by omega) hn hp (hg.od hl), Option.bind_some]
        simp only [F14, Option.bind_some]
        rw [show keyI? 6 (cpy (List.replicate 6 0) (mulP l[i] out[k])) = some () from keyI_ok hn hx, Option.bind_some]
        obtain ⟨g1, g2⟩ := hI.sn _ hx
        by_cases q : mulP l[i] out[k] ∈ o'
        · rw [if_neg (by rw [show (mget s' (cpy (List.replicate 6 0) (mulP l[i] out[k]))).getD 0 = 1 from g1 q]; decide), wsuc (by omega)]
          refine ⟨_, rfl, ⟨i + 1, o', s', rfl, by omega, hI, ⟨e, he⟩, fun j hj hji => ?_⟩, by simp only; omega⟩
          rcases Nat.lt_or_ge j i with w | w
          · exact hm j hj w
          · have : j = i := by omega
            subst this; exact q
        · rw [if_pos (by rw [show (mget s' (cpy (List.replicate 6 0) (mulP l[i] out[k]))).getD 0 = 0 from g2 q]; decide), Option.bind_some, app?_ok (by simp; omega), Option.bind_some, wsuc (by omega)]
          refine ⟨_, rfl, ⟨i + 1, _, _, rfl, by omega, hI.add hn q hxr hx, ⟨e ++ [mulP l[i] out[k]], by rw [he, List.append_assoc]⟩, fun j hj hji => ?_⟩, by simp only; omega⟩
          rcases Nat.lt_or_ge j i with w | w
          · exact List.mem_append.2 (.inl (hm j hj w))
          · have : j = i := by omega
            subst this
            exact List.mem_append.2 (.inr (by simp))
      · right
        rw [if_neg (by rw [decide_eq_true_eq]; omega)]
        refine ⟨_, rfl, hI, ⟨e, he⟩, fun p hp => ?_⟩
        obtain ⟨j, hj, rfl⟩ := List.getElem_of_mem hp
        exact hm j hj (by omega)) F (out, 0, seen) ⟨0, out, seen, rfl, by omega, h, ⟨[], by simp⟩, fun j hj hq => by omega⟩ (by simp only; omega)
  exact ⟨o', s', hb, hQ⟩
theorem group_out (F : Nat) (hF : 100000 ≤ F) (hn : n ≤ 6) (hl : ∀ p ∈ l, Od n p) (hll : l.length ≤ 6) {seen : List (List Int × Int)} (h : Inv n l [idP n] seen) :
    ∃ out, iter (F4_l2 F l) F ([idP n], 0, seen) = some out ∧ out.Nodup ∧ ∀ x, x ∈ out ↔ Rch n l x := by
  obtain ⟨o, hb, hQ⟩ := iter_inv (step := F4_l2 F l) (I := fun s => ∃ (k : Nat) (o' : List (List Int)) (s' : List (List Int × Int)), s = (o', (k : Int), s') ∧ k ≤ o'.length ∧ Inv n l o' s' ∧ idP n ∈ o' ∧ ∀ (j : Nat) (hj : j < o'.length), j < k → ∀ p ∈ l, mulP p o'[j] ∈ o') (μ := fun s => 46657 - s.2.1.toNat)
    (Q := fun o => o.Nodup ∧ ∀ x, x ∈ o ↔ Rch n l x) (by
      rintro _ ⟨k, o', s', rfl, hk, hI, hid, hm⟩
      unfold F4_l2
      simp only
      have hfew := hI.few hn hl
      by_cases hlt : k < o'.length
      · left
        obtain ⟨o2, s2, e1, hI2, ⟨e, he⟩, hm2⟩ := group_in F (by omega) hn hl hll hlt hI
        rw [if_pos (decide_eq_true (by omega)), e1, Option.bind_some, wsuc (by omega)]
        refine ⟨_, rfl, ⟨k + 1, o2, s2, rfl, by rw [he, List.length_append]; omega, hI2, by rw [he]; exact List.mem_append.2 (.inl hid), fun j hj hjk p hp => ?_⟩, by simp only; omega⟩
        have hj' : j < o'.length := by omega
        have hjo : o2[j] = o'[j] := by subst he; exact List.getElem_append_left hj'
        rw [hjo]
        rcases Nat.lt_or_ge j k with w | w
        · have := hm j hj' w p hp
          rw [he]; exact List.mem_append.2 (.inl this)
        · have : j = k := by omega
          subst this
          exact hm2 p hp
      · right
        rw [if_neg (by rw [decide_eq_true_eq]; omega)]
        refine ⟨_, rfl, hI.nd, fun x => ⟨hI.rc x, fun hx => ?_⟩⟩
        induction hx with
        | one => exact hid
        | mul p g hp _ ih =>
          obtain ⟨j, hj, rfl⟩ := List.getElem_of_mem ih
          exact hm j hj (by omega) p hp) F ([idP n], 0, seen) ⟨0, [idP n], seen, rfl, by simp, h, by simp, fun j hj hq => by omega⟩ (by simp only; omega)
  exact ⟨o, hb, hQ⟩
theorem inv0 (hn : n ≤ 6) : Inv n l [idP n] (mput [] (keyP (idP n)) 1) := by
  refine ⟨by simp, fun x hx => by rw [List.mem_singleton.1 hx]; exact .one, fun x hx => ?_⟩
  rw [mget_mput]
  have h1 := hx.ln
  have h2 := (od_id n).ln
  by_cases e : idP n = x
  · subst e; rw [if_pos rfl]; exact ⟨fun _ => rfl, fun q => absurd (by simp) q⟩
  · rw [if_neg (fun q => e (keyP_inj (by omega) (by omega) q))]
    exact ⟨fun q => absurd (List.mem_singleton.1 q).symm e, fun _ => rfl⟩
theorem id_loop (F : Nat) (hF : 1000 ≤ F) (hn : n ≤ 6) : iter (F4_l0 F (List.replicate n 0)) F (0, List.replicate n 0) = some (idP n) := by
  have := iter_count (step := F4_l0 F (List.replicate n 0)) (F := F) (fun i => ((i : Int), tb n fun j => if j < i then (j : Int) else 0)) (b := idP n) n ?_ ?_ (by omega)
  · rw [show ((0 : Int), List.replicate n (0 : Int)) = (((0 : Nat) : Int), tb n fun j => if j < 0 then (j : Int) else 0) from by rw [tb_rep]; simp, this]
  · intro i hi
    unfold F4_l0
    simp only
    rw [if_pos (decide_eq_true (by rw [List.length_replicate]; omega)), tb_ck hi, Option.bind_some, wsuc (by omega), Int.toNat_natCast, tb_set]
    congr 3
    refine tb_congr fun j hj => ?_
    by_cases e : j = i
    · subst e; rw [if_pos rfl, if_pos (by omega)]
    · rw [if_neg e]
      by_cases e2 : j < i
      · rw [if_pos e2, if_pos (by omega)]
      · rw [if_neg e2, if_neg (by omega)]
  · unfold F4_l0
    simp only
    rw [if_neg (by rw [decide_eq_true_eq, List.length_replicate]; omega)]
    congr 2
    exact tb_congr fun j hj => if_pos hj
/-- THE GROUP, IN ORDER. -/
theorem group_eq (F : Nat) (hF : 1000000 ≤ F) (hn : n ≤ 6) (hl : ∀ p ∈ l, Od n p) (hll : l.length ≤ 6) (hc : F8 F (n : Int) l = some 0) :
    ∃ M, F4 F (n : Int) l = some (M, 0) ∧ M.Pairwise Rl ∧ ∀ x, x ∈ M ↔ Rch n l x := by
  unfold F4
  rw [hc, Option.bind_some, if_neg (by decide), mk?_ok (by omega), Option.bind_some, id_loop F (by omega) hn, Option.bind_some]
  simp only [F14, Option.bind_some]
  rw [show keyI? 6 (cpy (List.replicate 6 0) (idP n)) = some () from keyI_ok hn (od_id n), Option.bind_some]
  obtain ⟨out, h1, h2, h3⟩ := group_out F (by omega) hn hl hll (inv0 (l := l) hn)
  have h1' : iter (F4_l2 F l) F ([idP n], 0, mput [] (cpy (List.replicate 6 0) (idP n)) 1) = some out := h1
  rw [h1', Option.bind_some]
  have hod : ∀ x ∈ out, Od n x := fun x hx => ((h3 x).1 hx).od hl
  have hfew := few hn h2 hod
  obtain ⟨M, m1, m2, m3⟩ := sortR_eq F out (fun x hx => by have := (hod x hx).ln; show x.length ≤ 10; omega) (by omega) (by omega)
  rw [m1, Option.bind_some]
  exact ⟨M, rfl, st_of m3 (m2.nodup_iff.2 h2), fun x => by rw [m2.mem_iff, h3]⟩

/-! ### GroupOf -/
theorem ref_in (F : Nat) (hF : 1000 ≤ F) (hn : n ≤ 6) (hl : ∀ p ∈ l, Od n p) (hll : l.length ≤ 6) {a : List Int} (ha : Od n a) (acc : List (List Int)) (hacc : acc.length ≤ 1000000) :
    iter (F9_l1 F l a) F (acc, 0) = some (acc ++ l.map (mulP a)) := by
  have := iter_count (step := F9_l1 F l a) (F := F) (fun i => (acc ++ (l.take i).map (mulP a), (i : Int))) (b := acc ++ l.map (mulP a)) l.length ?_ ?_ (by omega)
  · simpa using this
  · intro i hi
    unfold F9_l1
    simp only
    rw [if_pos (decide_eq_true (by omega)), at?_in hi, Option.bind_some, after_od F (by omega) hn ha (hl _ (List.getElem_mem hi)), Option.bind_some, app?_ok (by simp; omega), Option.bind_some, wsuc (by omega), List.take_add_one, List.getElem?_eq_getElem hi, List.append_assoc, List.map_append]
    rfl
  · unfold F9_l1
    simp only
    rw [if_neg (by simp), List.take_length]
theorem ref_mid (F : Nat) (hF : 1000000 ≤ F) (hn : n ≤ 6) (hl : ∀ p ∈ l, Od n p) (hll : l.length ≤ 6) (all : List (List Int)) (ha : ∀ a ∈ all, Od n a) (hal : all.length ≤ 46656) :
    iter (F9_l2 F l all) F ([], 0) = some (all.flatMap fun a => l.map (mulP a)) := by
  have hlen : ∀ i, i ≤ all.length → ((all.take i).flatMap fun a => l.map (mulP a)).length ≤ 300000 := fun i hi => by
    rw [flatMap_len (c := l.length) (fun x _ => by rw [List.length_map]), List.length_take]
    have : min i all.length * l.length ≤ 46656 * 6 := Nat.mul_le_mul (by omega) hll
    omega
  have := iter_count (step := F9_l2 F l all) (F := F) (fun i => ((all.take i).flatMap fun a => l.map (mulP a), (i : Int))) (b := all.flatMap fun a => l.map (mulP a)) all.length ?_ ?_ (by omega)
  · simpa using this
  · intro i hi
    unfold F9_l2
    simp only
    have := hlen i (by omega)
    rw [if_pos (decide_eq_true (by omega)), at?_in hi, Option.bind_some, ref_in F (by omega) hn hl hll (ha _ (List.getElem_mem hi)) _ (by omega), Option.bind_some, wsuc (by omega), List.take_add_one, List.getElem?_eq_getElem hi, List.flatMap_append]
    simp
  · unfold F9_l2
    simp only
    rw [if_neg (by simp), List.take_length]
theorem refGroup_eq (F : Nat) (hF : 1000000 ≤ F) (hn : n ≤ 6) (hl : ∀ p ∈ l, Od n p) (hll : l.length ≤ 6) :
    ∃ M, F9 F (n : Int) l = some M ∧ M.Pairwise Rl ∧ ∀ x, x ∈ M ↔ Rch n l x := by
  unfold F9
  have h0 : iter (F9_l0 F (n : Int)) F ([], 0) = some (idP n) := by
    have := iter_count (step := F9_l0 F (n : Int)) (F := F) (fun i => (tb i fun j => (j : Int), (i : Int))) (b := idP n) n ?_ ?_ (by omega)
    · exact this
    · intro i hi
      unfold F9_l0
      simp only
      rw [if_pos (decide_eq_true (by omega)), app?_ok (by rw [tb_len]; simp; omega), Option.bind_some, wsuc (by omega), tb_succ]
    · unfold F9_l0
      simp only
      rw [if_neg (by simp)]; rfl
  rw [h0, Option.bind_some]
  obtain ⟨M, hb, hQ⟩ := iter_inv (step := F9_l3 F l) (I := fun all => all.Pairwise Rl ∧ idP n ∈ all ∧ ∀ x ∈ all, RchR n l x) (μ := fun all => 46657 - all.length)
    (Q := fun M => M.Pairwise Rl ∧ ∀ x, x ∈ M ↔ Rch n l x) (by
      rintro all ⟨hs, hid, hr⟩
      unfold F9_l3
      have hod : ∀ x ∈ all, Od n x := fun x hx => (hr x hx).od hl
      have hfew := few hn (st_nodup hs) hod
      rw [ref_mid F hF hn hl hll all hod hfew, Option.bind_some]
      have hlen : (all.flatMap fun a => l.map (mulP a)).length ≤ 300000 := by
        rw [flatMap_len (c := l.length) (fun x _ => by rw [List.length_map])]
        have : all.length * l.length ≤ 46656 * 6 := Nat.mul_le_mul hfew hll
        omega
      have hmem : ∀ x, x ∈ (all.flatMap fun a => l.map (mulP a)) ++ all ↔ (∃ a ∈ all, ∃ p ∈ l, mulP a p = x) ∨ x ∈ all := fun x => by
        rw [List.mem_append, List.mem_flatMap]
        simp only [List.mem_map]
      have hR : ∀ x ∈ (all.flatMap fun a => l.map (mulP a)) ++ all, RchR n l x := fun x hx => by
        rcases (hmem x).1 hx with ⟨a, ha, p, hp, rfl⟩ | q
        · exact .mul _ _ hp (hr a ha)
        · exact hr x q
      have hsh : ∀ x ∈ (all.flatMap fun a => l.map (mulP a)) ++ all, Sh x := fun x hx => by
        have := ((hR x hx).od hl).ln; show x.length ≤ 10; omega
      rw [app?_ok (by omega), Option.bind_some]
      obtain ⟨S, s1, s2, s3⟩ := sortR_eq F _ hsh (by rw [List.length_append]; omega) (by rw [List.length_append]; omega)
      rw [s1, Option.bind_some]
      have hSl : S.length ≤ 400000 := by rw [s2.length_eq, List.length_append]; omega
      obtain ⟨M, m1, m2, m3, m4⟩ := compactR_eq F S (fun x hx => hsh x (s2.mem_iff.1 hx)) s3 (by omega) (by omega)
      rw [m1, Option.bind_some]
      have hM : ∀ x, x ∈ M ↔ (∃ a ∈ all, ∃ p ∈ l, mulP a p = x) ∨ x ∈ all := fun x => by rw [m3, s2.mem_iff, hmem]
      have hMR : ∀ x ∈ M, RchR n l x := fun x hx => hR x (s2.mem_iff.1 ((m3 x).1 hx))
      have hsub : ∀ x ∈ all, x ∈ M := fun x hx => (hM x).2 (.inr hx)
      have hle := nodup_len (st_nodup hs) hsub
      have hMfew := few hn (st_nodup m2) fun x hx => (hMR x hx).od hl
      by_cases e : M.length = all.length
      · right
        rw [if_pos (by rw [e]; simp)]
        refine ⟨M, rfl, m2, fun x => ⟨fun hx => (rch_iff hl x).2 (hMR x hx), fun hx => ?_⟩⟩
        have hback : ∀ y ∈ M, y ∈ all := by
          intro y hy
          apply Classical.byContradiction
          intro hny
          have h1 : (y :: all).Nodup := List.nodup_cons.2 ⟨hny, st_nodup hs⟩
          have h2 := nodup_len (q := M) h1 fun z hz => by
            rcases List.mem_cons.1 hz with e2 | e2
            · rw [e2]; exact hy
            · exact hsub z e2
          simp only [List.length_cons] at h2
          omega
        have hx' := (rch_iff hl x).1 hx
        clear hx
        induction hx' with
        | one => exact hsub _ hid
        | mul g p hp _ ih => exact (hM _).2 (.inl ⟨g, hback g ih, p, hp, rfl⟩)
      · left
        rw [if_neg (by simp; omega)]
        exact ⟨M, rfl, ⟨m2, hsub _ hid, hMR⟩, by show 46657 - M.length < 46657 - all.length; omega⟩) F [idP n] ⟨by simp, by simp, fun x hx => by rw [List.mem_singleton.1 hx]; exact .one⟩ (by simp; omega)
  rw [hb, Option.bind_some]
  exact ⟨M, rfl, hQ⟩
end
end Go.Proofs.Ytaphdnpjpmnaeaa.orb

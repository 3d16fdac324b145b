/- More rules: lists of rows whose rows are owned as well. -/
import Derived.Test.YtihmliblbhjlaaaDenF
set_option linter.unusedVariables false
namespace Go.Am

def SV.blk : SV → Option Nat
  | .sl b _ _ _ _ => some b
  | .ptr b _ => some b
  | _ => none
/-- The headers of rows. -/
abbrev LH : Lay SV := Lay.one id

/-- Rows that are object r's: their headers, and what they hold; but for the one in the hole. -/
structure Fam {α : Type} {fl : Nat} (A : Lay α) (S : Cx fl) (r : Nat) (H : List SV) (L : List (List α)) (hole : Option Nat) : Prop where
  len : H.length = L.length
  row : ∀ (i : Nat) (w : SV) (R : List α), hole ≠ some i → H[i]? = some w → L[i]? = some R → Ow A S r w R
  sep : ∀ (i j : Nat) (w w' : SV) (b : Nat), i ≠ j → hole ≠ some i → hole ≠ some j → H[i]? = some w → H[j]? = some w' → w.blk = some b → w'.blk ≠ some b

/-- What is j's is r's from now on. -/
def Cx.mg {fl : Nat} (S : Cx fl) (j r : Nat) : Cx fl := ⟨S.m, S.n, fun i => if S.ow i = j then r else S.ow i, S.le⟩

section fam
variable {α : Type} {A : Lay α} {fl k r j i : Nat} {S S' : Cx fl} {v w : SV} {H : List SV} {L : List (List α)} {R : List α} {hole : Option Nat}

theorem nb {a b : Nat} (h : Nat.beq a b = false) : a ≠ b := fun e => by subst e; rw [show Nat.beq a a = true by simp] at h; cases h

theorem Ow.blk_ow (h : Ow A S k v R) {b : Nat} (hb : v.blk = some b) : S.ow b = k ∧ b < S.n := by
  rcases h with ⟨rfl, _⟩ | ⟨b', c, cs, rfl, _, h3, h4, _⟩
  · cases hb
  · cases hb; exact ⟨h4, h3⟩
/-- An own slice under another map of owners. -/
theorem Ow.re {S' : Cx fl} (h : Ow A S k v R) (em : S'.m = S.m) (en : S'.n = S.n) (hb : ∀ b, v.blk = some b → S'.ow b = j) (hz : ∀ i, S.fz i → S'.fz i) : Ow A S' j v R := by
  rcases h with h | ⟨b, c, cs, rfl, h2, h3, h4, h5, h6, h7, h8⟩
  · exact .inl h
  · exact .inr ⟨b, c, cs, rfl, h2, by rw [en]; exact h3, hb b rfl, h5, by rw [em]; exact h6, h7, h8.frame fun i hi => ⟨hz i hi, by rw [em]⟩⟩

theorem Fam.nil : Fam A S r [] ([] : List (List α)) none := ⟨rfl, fun i w R _ h => by simp at h, fun i j w w' b _ _ _ h => by simp at h⟩
theorem Fam.to (h : Fam A S r H L hole) (c : Ch k S S') (hk : Nat.beq k 0 = false := by rfl) (hr : Nat.beq r k = false := by rfl) : Fam A S' r H L hole :=
  ⟨h.len, fun i w R h1 h2 h3 => (h.row i w R h1 h2 h3).to c hk hr, h.sep⟩
theorem Fam.drop (h : Fam A S r H L hole) (k : Nat) (hr : Nat.beq r k = false := by rfl) : Fam A (S.drop k) r H L hole :=
  ⟨h.len, fun i w R h1 h2 h3 => (h.row i w R h1 h2 h3).drop k hr, h.sep⟩
theorem Fam.renO (h : Fam A S r H L hole) (k j : Nat) (hk : Nat.beq k 0 = false := by rfl) (hj : Nat.beq j 0 = false := by rfl) (hik : Nat.beq r k = false := by rfl) (hij : Nat.beq r j = false := by rfl) : Fam A (S.ren k j) r H L hole :=
  ⟨h.len, fun i w R h1 h2 h3 => (h.row i w R h1 h2 h3).renO k j hk hj hik hij, h.sep⟩
theorem Fam.ren (h : Fam A S r H L hole) (j : Nat) (hk : Nat.beq r 0 = false := by rfl) (hj : Nat.beq j 0 = false := by rfl) : Fam A (S.ren r j) j H L hole :=
  ⟨h.len, fun i w R h1 h2 h3 => (h.row i w R h1 h2 h3).ren j hk hj, h.sep⟩

theorem Cx.mg_ch (S : Cx fl) (j r : Nat) : Ch j S (S.mg j r) := ⟨Nat.le_refl _, fun i _ hk => ⟨by simp only [Cx.mg]; rw [if_neg hk], rfl⟩⟩
theorem fz_mg (hj : j ≠ 0) : ∀ i, S.fz i → (S.mg j r).fz i := fun i ⟨h1, h2⟩ => ⟨h1, by simp only [Cx.mg]; rw [if_neg (by omega)]; exact h2⟩

/-- A row is taken out. -/
theorem Fam.open (h : Fam A S r H L none) (hw : H[i]? = some w) (hR : L[i]? = some R) (hr : r ≠ 0) (hj : j ≠ 0) :
    ∃ S1 : Cx fl, S1.m = S.m ∧ S1.n = S.n ∧ Ch r S S1 ∧ Ow A S1 j w R ∧ Fam A S1 r H L (some i) := by
  have hi := h.row i w R (by simp) hw hR
  have hz : ∀ q, S.fz q → (⟨S.m, S.n, fun q => if w.blk = some q then j else S.ow q, S.le⟩ : Cx fl).fz q := fun q ⟨h1, h2⟩ => ⟨h1, by
    simp only
    rw [if_neg (fun e => hr (by rw [← (hi.blk_ow e).1, h2]))]; exact h2⟩
  refine ⟨⟨S.m, S.n, fun q => if w.blk = some q then j else S.ow q, S.le⟩, rfl, rfl, ⟨Nat.le_refl _, fun q _ hk => ⟨by simp only; rw [if_neg (fun e => hk (hi.blk_ow e).1)], rfl⟩⟩, hi.re rfl rfl (fun b hb => by simp only; rw [if_pos hb]) hz, h.len, ?_, fun a c w w' b hac _ _ => h.sep a c w w' b hac (by simp) (by simp)⟩
  intro a w' R' ha hw' hR'
  have := h.row a w' R' (by simp) hw' hR'
  exact this.re rfl rfl (fun b hb => by simp only; rw [if_neg (fun e => h.sep i a w w' b (fun e => ha (by rw [e])) (by simp) (by simp) hw hw' e hb)]; exact (this.blk_ow hb).1) hz
/-- A row is put in. -/
theorem Fam.close (h : Fam A S r H L (some i)) (hw : Ow A S j w R) (hj : j ≠ 0) (hjr : j ≠ r) : Fam A (S.mg j r) r (H.set i w) (L.set i R) none := by
  have hz := fz_mg (S := S) (r := r) hj
  have hrow : ∀ (a : Nat) (w' : SV) (R' : List α), i ≠ a → H[a]? = some w' → L[a]? = some R' → Ow A (S.mg j r) r w' R' := fun a w' R' ha h1 h2 => by
    have := h.row a w' R' (by simpa using ha) h1 h2
    exact this.re rfl rfl (fun b hb => by simp only [Cx.mg]; rw [if_neg (by rw [(this.blk_ow hb).1]; exact Ne.symm hjr)]; exact (this.blk_ow hb).1) hz
  refine ⟨by rw [List.length_set, List.length_set]; exact h.len, ?_, ?_⟩
  · intro a w' R' _ h1 h2
    rw [List.getElem?_set] at h1 h2
    by_cases ha : i = a
    · rw [if_pos ha] at h1 h2
      split at h1 <;> split at h2 <;> first | (cases h1; done) | (cases h2; done) | skip
      cases h1; cases h2
      exact hw.re rfl rfl (fun b hb => by simp only [Cx.mg]; rw [if_pos (hw.blk_ow hb).1]) hz
    · rw [if_neg ha] at h1 h2
      exact hrow a w' R' ha h1 h2
  · intro a c w1 w2 b hac _ _ h1 h2 hb1 hb2
    rw [List.getElem?_set] at h1 h2
    have get : ∀ q (u : SV), i ≠ q → H[q]? = some u → ∃ R', L[q]? = some R' := fun q u _ hu => by
      have := (List.getElem?_eq_some_iff.1 hu).1
      rw [h.len] at this
      exact ⟨_, List.getElem?_eq_getElem this⟩
    by_cases ha : i = a
    · rw [if_pos ha] at h1
      rw [if_neg (by omega)] at h2
      split at h1
      · cases h1
        obtain ⟨R', hR'⟩ := get c w2 (by omega) h2
        exact hjr ((hw.blk_ow hb1).1.symm.trans ((h.row c w2 R' (by simp; omega) h2 hR').blk_ow hb2).1)
      · cases h1
    · rw [if_neg ha] at h1
      by_cases hc : i = c
      · rw [if_pos hc] at h2
        split at h2
        · cases h2
          obtain ⟨R', hR'⟩ := get a w1 ha h1
          exact hjr ((hw.blk_ow hb2).1.symm.trans ((h.row a w1 R' (by simpa using ha) h1 hR').blk_ow hb1).1)
        · cases h2
      · rw [if_neg hc] at h2
        exact h.sep a c w1 w2 b hac (by simpa using ha) (by simpa using hc) h1 h2 hb1 hb2
theorem Fam.any (h : Fam A S r H L none) (i : Nat) : Fam A S r H L (some i) := ⟨h.len, fun a w R _ => h.row a w R (by simp), fun a c w w' b hac _ _ => h.sep a c w w' b hac (by simp) (by simp)⟩
/-- A row more. -/
theorem Fam.snoc (h : Fam A S r H L none) (hw : Ow A S j w R) (hj : j ≠ 0) (hjr : j ≠ r) : Fam A (S.mg j r) r (H ++ [w]) (L ++ [R]) none := by
  have hz := fz_mg (S := S) (r := r) hj
  have hnew : Ow A (S.mg j r) r w R := hw.re rfl rfl (fun b hb => by simp only [Cx.mg]; rw [if_pos (hw.blk_ow hb).1]) hz
  have hlen := h.len
  refine ⟨by simp [hlen], ?_, ?_⟩
  · intro a w' R' _ h1 h2
    by_cases ha : a < H.length
    · rw [List.getElem?_append_left ha] at h1
      rw [List.getElem?_append_left (by omega)] at h2
      have := h.row a w' R' (by simp) h1 h2
      exact this.re rfl rfl (fun b hb => by simp only [Cx.mg]; rw [if_neg (by rw [(this.blk_ow hb).1]; exact Ne.symm hjr)]; exact (this.blk_ow hb).1) hz
    · rw [List.getElem?_append_right (by omega)] at h1 h2
      have e : a - H.length = 0 := by
        have := (List.getElem?_eq_some_iff.1 h1).1
        simpa using this
      rw [e] at h1; rw [← hlen, e] at h2
      cases h1; cases h2; exact hnew
  · intro a c w1 w2 b hac _ _ h1 h2 hb1 hb2
    have get : ∀ q (u : SV), q < H.length → (H ++ [w])[q]? = some u → ∃ R', Ow A S r u R' ∧ H[q]? = some u := fun q u hq hu => by
      rw [List.getElem?_append_left hq] at hu
      exact ⟨_, h.row q u _ (by simp) hu (List.getElem?_eq_getElem (by omega)), hu⟩
    have last : ∀ q (u : SV), ¬ q < H.length → (H ++ [w])[q]? = some u → u = w ∧ q = H.length := fun q u hq hu => by
      rw [List.getElem?_append_right (by omega)] at hu
      have e : q - H.length = 0 := by
        have := (List.getElem?_eq_some_iff.1 hu).1
        simpa using this
      rw [e] at hu; cases hu; exact ⟨rfl, by omega⟩
    by_cases ha : a < H.length
    · obtain ⟨R1, g1, g2⟩ := get a w1 ha h1
      by_cases hc : c < H.length
      · obtain ⟨R2, g3, g4⟩ := get c w2 hc h2
        exact h.sep a c w1 w2 b hac (by simp) (by simp) g2 g4 hb1 hb2
      · obtain ⟨rfl, _⟩ := last c w2 hc h2
        exact hjr ((hw.blk_ow hb2).1.symm.trans (g1.blk_ow hb1).1)
    · obtain ⟨rfl, e1⟩ := last a w1 ha h1
      by_cases hc : c < H.length
      · obtain ⟨R2, g3, g4⟩ := get c w2 hc h2
        exact hjr ((hw.blk_ow hb1).1.symm.trans (g3.blk_ow hb2).1)
      · obtain ⟨_, e2⟩ := last c w2 hc h2
        omega
theorem Fam.nils (n : Nat) : Fam A S r (List.replicate n .nils) (List.replicate n ([] : List α)) none := by
  refine ⟨by simp, ?_, ?_⟩
  · intro i w R _ h1 h2
    rw [List.getElem?_replicate] at h1 h2
    split at h1
    · rename_i h; rw [if_pos h] at h2; cases h1; cases h2; exact Ow.nil
    · cases h1
  · intro i j w w' b _ _ _ h1 _ hb
    rw [List.getElem?_replicate] at h1
    split at h1
    · cases h1; cases hb
    · cases h1
end fam

/-- Rows that are k's, their rows r's. -/
def Tw {α : Type} {fl : Nat} (A : Lay α) (S : Cx fl) (k r : Nat) (v : SV) (L : List (List α)) : Prop := ∃ H, Ow LH S k v H ∧ Fam A S r H L none
/-- The i-th is out; there stands w. -/
def Th {α : Type} {fl : Nat} (A : Lay α) (S : Cx fl) (k r : Nat) (v : SV) (L : List (List α)) (i : Nat) (w : SV) : Prop := ∃ H, Ow LH S k v H ∧ Fam A S r H L (some i) ∧ H[i]? = some w

section tw
variable {α : Type} {A : Lay α} {fl k r j i n0 : Nat} {S S' : Cx fl} {v w : SV} {H : List SV} {L M : List (List α)} {R : List α}

theorem Tw.nil : Tw A S k r .nils ([] : List (List α)) := ⟨[], .inl ⟨rfl, rfl⟩, Fam.nil⟩
theorem Tw.to (h : Tw A S k r v L) (c : Ch j S S') (hj : Nat.beq j 0 = false := by rfl) (hk : Nat.beq k j = false := by rfl) (hr : Nat.beq r j = false := by rfl) : Tw A S' k r v L := by
  obtain ⟨H, h1, h2⟩ := h; exact ⟨H, h1.to c hj hk, h2.to c hj hr⟩
theorem Th.to (h : Th A S k r v L i w) (c : Ch j S S') (hj : Nat.beq j 0 = false := by rfl) (hk : Nat.beq k j = false := by rfl) (hr : Nat.beq r j = false := by rfl) : Th A S' k r v L i w := by
  obtain ⟨H, h1, h2, h3⟩ := h; exact ⟨H, h1.to c hj hk, h2.to c hj hr, h3⟩
theorem Tw.drop (h : Tw A S k r v L) (j : Nat) (hk : Nat.beq k j = false := by rfl) (hr : Nat.beq r j = false := by rfl) : Tw A (S.drop j) k r v L := by
  obtain ⟨H, h1, h2⟩ := h; exact ⟨H, h1.drop j hk, h2.drop j hr⟩
theorem Th.drop (h : Th A S k r v L i w) (j : Nat) (hk : Nat.beq k j = false := by rfl) (hr : Nat.beq r j = false := by rfl) : Th A (S.drop j) k r v L i w := by
  obtain ⟨H, h1, h2, h3⟩ := h; exact ⟨H, h1.drop j hk, h2.drop j hr, h3⟩
theorem Tw.renO (h : Tw A S k r v L) (p q : Nat) (hp : Nat.beq p 0 = false := by rfl) (hq : Nat.beq q 0 = false := by rfl) (h1 : Nat.beq k p = false := by rfl) (h2 : Nat.beq k q = false := by rfl) (h3 : Nat.beq r p = false := by rfl) (h4 : Nat.beq r q = false := by rfl) : Tw A (S.ren p q) k r v L := by
  obtain ⟨H, g1, g2⟩ := h; exact ⟨H, g1.renO p q hp hq h1 h2, g2.renO p q hp hq h3 h4⟩
theorem Th.renO (h : Th A S k r v L i w) (p q : Nat) (hp : Nat.beq p 0 = false := by rfl) (hq : Nat.beq q 0 = false := by rfl) (h1 : Nat.beq k p = false := by rfl) (h2 : Nat.beq k q = false := by rfl) (h3 : Nat.beq r p = false := by rfl) (h4 : Nat.beq r q = false := by rfl) : Th A (S.ren p q) k r v L i w := by
  obtain ⟨H, g1, g2, g3⟩ := h; exact ⟨H, g1.renO p q hp hq h1 h2, g2.renO p q hp hq h3 h4, g3⟩
/-- Other numbers for both. -/
theorem Tw.ren (h : Tw A S k r v L) (k' r' : Nat) (e1 : Nat.beq k 0 = false := by rfl) (e2 : Nat.beq r 0 = false := by rfl) (e3 : Nat.beq k' 0 = false := by rfl) (e4 : Nat.beq r' 0 = false := by rfl)
    (e5 : Nat.beq r k = false := by rfl) (e6 : Nat.beq r k' = false := by rfl) (e7 : Nat.beq k' r = false := by rfl) (e8 : Nat.beq k' r' = false := by rfl) : Tw A ((S.ren k k').ren r r') k' r' v L := by
  obtain ⟨H, g1, g2⟩ := h; exact ⟨H, (g1.ren k' e1 e3).renO r r' e2 e4 e7 e8, (g2.renO k k' e1 e3 e5 e6).ren r' e2 e4⟩

theorem Tw.slv (h : Tw A S k r v L) : SlV v 1 L.length := by
  obtain ⟨H, h1, h2⟩ := h
  have := h1.slv; rwa [h2.len] at this
theorem Th.slv (h : Th A S k r v L i w) : SlV v 1 L.length := by
  obtain ⟨H, h1, h2, _⟩ := h
  have := h1.slv; rwa [h2.len] at this
/-- The number of its block. -/
def Lt (v : SV) (n : Nat) : Prop := ∀ b, v.blk = some b → b < n
theorem Tw.lt (h : Tw A S k r v L) : Lt v S.n := by
  obtain ⟨H, h1, h2⟩ := h; exact fun b hb => (h1.blk_ow hb).2
theorem Th.lt (h : Th A S k r v L i w) : Lt v S.n := by
  obtain ⟨H, h1, h2, _⟩ := h; exact fun b hb => (h1.blk_ow hb).2
theorem Ow.lt {β : Type} {B : Lay β} {Q : List β} (h : Ow B S k v Q) : Lt v S.n := fun b hb => (h.blk_ow hb).2

/-- The row that is out is put back, as it is. -/
theorem Th.back (h : Th A S k r v L i w) (hw : Ow A S j w R) (hj : Nat.beq j 0 = false := by rfl) (hjr : Nat.beq j r = false := by rfl) (hkj : Nat.beq k j = false := by rfl) : Tw A (S.mg j r) k r v (L.set i R) := by
  obtain ⟨H, h1, h2, h3⟩ := h
  refine ⟨H, h1.to (S.mg_ch j r) hj hkj, ?_⟩
  have := h2.close hw (nb hj) (nb hjr)
  have e : H.set i w = H := by
    apply List.ext_getElem?
    intro q
    rw [List.getElem?_set]
    split
    · rename_i hq; subst hq
      have := (List.getElem?_eq_some_iff.1 h3).1
      rw [if_pos this, h3]
    · rfl
  rwa [e] at this
/-- A row is taken out. -/
theorem Tw.take (h : Tw A S k r v L) (hR : L[i]? = some R) (j : Nat) (hr : Nat.beq r 0 = false := by rfl) (hj : Nat.beq j 0 = false := by rfl) (hkr : Nat.beq k r = false := by rfl) :
    ∃ w, ∃ S1 : Cx fl, S1.m = S.m ∧ S1.n = S.n ∧ Ch r S S1 ∧ Ow A S1 j w R ∧ Th A S1 k r v L i w := by
  obtain ⟨H, h1, h2⟩ := h
  have hi := (List.getElem?_eq_some_iff.1 hR).1
  have hw : H[i]? = some (H[i]'(by rw [h2.len]; exact hi)) := List.getElem?_eq_getElem _
  obtain ⟨S1, e1, e2, hc, ho, hf⟩ := h2.open hw hR (nb hr) (nb hj)
  exact ⟨_, S1, e1, e2, hc, ho, H, h1.to hc hr hkr, hf, hw⟩

theorem Tw.rl (h : Fam A S r H L none) : ∀ {z : Nat → Prop}, (∀ i, i < S.n ∧ (S.ow i = r ∨ S.ow i = 0) → z i) → RL (Lay.sl A) z S.m L (H.map id) := by
  intro z hz
  obtain ⟨hlen, hrow, hsep⟩ := h
  clear hsep
  induction H generalizing L with
  | nil => cases L with
    | nil => rfl
    | cons => simp at hlen
  | cons w H ih => cases L with
    | nil => simp at hlen
    | cons R L =>
      refine ⟨[w], H.map id, rfl, ⟨w, rfl, ?_⟩, ih (by simpa using hlen) fun i w R h0 h1 h2 => hrow (i + 1) w R (by simp) (by simpa using h1) (by simpa using h2)⟩
      have h0 := hrow 0 w R (by simp) rfl rfl
      rcases h0 with ⟨h1, h2⟩ | ⟨b, c, cs, h1, h2, h3, h4, h5, h6, h7, h8⟩
      · exact .inl ⟨.inl h1, h2⟩
      · refine .inr ⟨b, 0, c, cs, h1, h5, hz b ⟨h3, .inl h4⟩, h6, by rw [h7]; simpa using Nat.mul_le_mul_right _ h5, ?_⟩
        have : RL A S.fz S.m R ((cs.drop 0).take (R.length * A.sz)) := by simpa using h8
        exact this.frame fun i hi => ⟨hz i ⟨hi.1, .inr hi.2⟩, rfl⟩
theorem Tw.ro (h : Tw A S k r v L) {zo zi : Nat → Prop} (ho : ∀ b, b < S.n ∧ S.ow b = k → zo b) (hi : ∀ i, i < S.n ∧ (S.ow i = r ∨ S.ow i = 0) → zi i) : RO (Lay.sl A) zo zi S.m v L := by
  obtain ⟨H, h1, h2⟩ := h
  have hR := Tw.rl h2 hi
  have hlen := h2.len
  rcases h1 with ⟨h3, rfl⟩ | ⟨b, c, cs, h3, h4, h5, h6, h7, h8, h9, h10⟩
  · refine .inl ⟨.inl h3, ?_⟩
    apply List.eq_nil_of_length_eq_zero; rw [← hlen]; rfl
  · have e := h10.flat1
    refine .inr ⟨b, 0, c, cs, by rw [h3, hlen]; rfl, by rw [← hlen]; exact h7, ho b ⟨h5, h6⟩, h8, ?_, ?_⟩
    · show 0 + L.length * 1 ≤ cs.length
      have h9 : cs.length = c * 1 := h9
      omega
    · have e2 : List.take (L.length * (Lay.sl A).sz) (List.drop 0 cs) = H.map id := by
        rw [List.drop_zero, ← hlen]; exact e
      rw [e2]; exact hR
theorem Tw.vw (h : Tw A S k r v L) : Vw (Lay.sl A) S.n S.m v L := h.ro (fun _ h => h.1) (fun _ h => h.1)
/-- All is nobody's from now on. -/
theorem Tw.freeze (h : Tw A S k r v L) : Rd (Lay.sl A) ((S.drop k).drop r) v L := by
  have := h.ro (zo := ((S.drop k).drop r).fz) (zi := ((S.drop k).drop r).fz) (fun b hb => ⟨hb.1, by show (if (if S.ow b = k then 0 else S.ow b) = r then 0 else (if S.ow b = k then 0 else S.ow b)) = 0; simp [hb.2]⟩) (fun i hi => ⟨hi.1, by
    show (if (if S.ow i = k then 0 else S.ow i) = r then 0 else (if S.ow i = k then 0 else S.ow i)) = 0
    rcases hi.2 with h | h
    · rw [h]; by_cases e : r = k <;> simp [e]
    · rw [h]; simp⟩)
  exact this
/-- A row, to look at. -/
theorem Tw.row (h : Tw A S k r v L) (hR : L[i]? = some R) : ∃ H : List SV, ∃ w, Ow LH S k v H ∧ H[i]? = some w ∧ Wk A S r w R := by
  obtain ⟨H, h1, h2⟩ := h
  have hi := (List.getElem?_eq_some_iff.1 hR).1
  have hw : H[i]? = some (H[i]'(by rw [h2.len]; exact hi)) := List.getElem?_eq_getElem _
  exact ⟨H, _, h1, hw, (h2.row i _ R (by simp) hw hR).wk⟩
theorem RO.dropz {β : Type} {B : Lay β} {Q : List β} (h : RO B (fun i => i < n0 ∧ S.fz i) S.fz S.m v Q) (k : Nat) : RO B (fun i => i < n0 ∧ (S.drop k).fz i) (S.drop k).fz (S.drop k).m v Q := RO.to h (fun i hi => ⟨⟨hi.1, (fz_drop k i hi.2).1⟩, rfl⟩) (fz_drop k)
theorem RO.dropw {β : Type} {B : Lay β} {Q : List β} (h : RO B (fun i => i < n0 ∧ i < S.n ∧ S.ow i = j) S.fz S.m v Q) (k : Nat) (hj : Nat.beq j k = false := by rfl) : RO B (fun i => i < n0 ∧ i < (S.drop k).n ∧ (S.drop k).ow i = j) (S.drop k).fz (S.drop k).m v Q :=
  RO.to h (fun i hi => ⟨⟨hi.1, hi.2.1, by show (if S.ow i = k then 0 else S.ow i) = j; rw [if_neg (by rw [hi.2.2]; exact nb hj)]; exact hi.2.2⟩, rfl⟩) (fz_drop k)
theorem RO.frz {β : Type} {B : Lay β} {Q : List β} (h : RO B (fun i => i < n0 ∧ i < S.n ∧ S.ow i = k) S.fz S.m v Q) : RO B (fun i => i < n0 ∧ (S.drop k).fz i) (S.drop k).fz (S.drop k).m v Q :=
  RO.to h (fun i hi => ⟨⟨hi.1, hi.2.1, by show (if S.ow i = k then 0 else S.ow i) = 0; rw [if_pos hi.2.2]⟩, rfl⟩) (fz_drop k)
theorem Lt.lim {lim : Option Nat} (h : Lt v n0) (hl : limLe lim n0 = true) {b : Nat} (hb : v.blk = some b) : limOk lim b = true := limOk_of hl (h b hb)
end tw

section rules
variable {E : Env} {lo : List Nat} {fl : Nat} {loose : Nat → Bool} {lim : Option Nat} {ops : Array Oper} {os : List Oper}
variable {l : LE} {m : Mem} {n n0 : Nat} {K : LE → Mem → Nat → Prop}
variable {d : Nat} {ty t : TypeId} {pos : String} {af : Array Edge} {x y : Operand} {v w : SV} {k k' : IntKind}
variable {α : Type} {A : Lay α} {S : Cx fl} {L M : List (List α)} {R : List α} {i j : Nat} {id r : Nat} {H : List SV}

/-- A header is read. -/
theorem WO.ldH (hx : evK l x = some (.sc (ptrAt v i 0))) (hs : Ow LH S id v H) (hw : H[i]? = some w) (hT : oneT E t = true) (hv : Lt v n0) (hl : limLe lim n0 = true)
    (h : WO E loose fl lim ops os ((d, .sc w) :: l) S.m S.n K) : WO E loose fl lim ops (⟨some d, .load t x, ty, pos, af, none⟩ :: os) l S.m S.n K := ⟨fun tt ht => by
  obtain ⟨y, h1, h2, h3, _⟩ := oneT_ok hT
  refine W_op2 ?_ (h.put ht)
  obtain ⟨b, o, c, cs, p, rfl, h4, h5, h6, _, _, h7⟩ := hs.ro.cell hw
  have h6 : p = [w] := h6
  subst h6
  have hcell := cell_at (q := 0) h7 rfl
  have e : (LH).sz = 1 := rfl
  rw [e, Nat.add_zero] at hcell
  simp only [opA, evK_ev ht hx, ptrAt, loadA, hv.lim hl rfl, if_true, h5, part, h1, h2, h3, or_self, if_false, Nat.add_zero, hcell, Option.map_some, e]⟩
/-- A row is read, to look at it. -/
theorem WO.ldTv (hx : evK l x = some (.sc (ptrAt v i 0))) (hs : Tw A S id r v L) (hR : L[i]? = some R) (hT : oneT E t = true) (hv : Lt v n0) (hl : limLe lim n0 = true)
    (h : ∀ w, Wk A S r w R → WO E loose fl lim ops os ((d, .sc w) :: l) S.m S.n K) : WO E loose fl lim ops (⟨some d, .load t x, ty, pos, af, none⟩ :: os) l S.m S.n K := by
  obtain ⟨H, w, h1, h2, h3⟩ := hs.row hR
  exact WO.ldH hx h1 h2 hT hv hl (h w h3)
/-- A row is taken out. -/
theorem WO.ldT (j : Nat) (hx : evK l x = some (.sc (ptrAt v i 0))) (hs : Tw A S id r v L) (hR : L[i]? = some R) (hT : oneT E t = true) (hv : Lt v n0) (hl : limLe lim n0 = true) (h1 : Nat.beq r 0 = false) (h2 : Nat.beq j 0 = false) (h3 : Nat.beq id r = false)
    (h : ∀ w S1, Ch r S S1 → Th A S1 id r v L i w → Ow A S1 j w R → WO E loose fl lim ops os ((d, .sc w) :: l) S1.m S1.n K) : WO E loose fl lim ops (⟨some d, .load t x, ty, pos, af, none⟩ :: os) l S.m S.n K := by
  obtain ⟨w, S1, e1, e2, hc, ho, hh⟩ := hs.take hR j h1 h2 h3
  have hn := h w S1 hc hh ho
  obtain ⟨H, g1, g2, g3⟩ := hh
  rw [← e1, ← e2]
  exact WO.ldH hx g1 g3 hT hv hl hn
/-- The row that is out, again. -/
theorem WO.ldTh (hx : evK l x = some (.sc (ptrAt v i 0))) (hs : Th A S id r v L i w) (hT : oneT E t = true) (hv : Lt v n0) (hl : limLe lim n0 = true)
    (h : WO E loose fl lim ops os ((d, .sc w) :: l) S.m S.n K) : WO E loose fl lim ops (⟨some d, .load t x, ty, pos, af, none⟩ :: os) l S.m S.n K := by
  obtain ⟨H, g1, g2, g3⟩ := hs
  exact WO.ldH hx g1 g3 hT hv hl h
/-- A row is put in. -/
theorem WO.stT {w0 : SV} (hx : evK l x = some (.sc (ptrAt v i 0))) (hy : evK l y = some (.sc w)) (hs : Th A S id r v L i w0) (hi : i < L.length) (hw : Ow A S j w R) (hT : oneT E t = true) (h1 : Nat.beq id 0 = false) (h2 : Nat.beq j 0 = false) (h3 : Nat.beq j r = false) (h4 : Nat.beq id j = false) (h5 : Nat.beq r id = false) (h6 : Nat.beq j id = false)
    (h : ∀ S1 S2, Ch id S S1 → Ch j S1 S2 → Tw A S2 id r v (L.set i R) → WO E loose fl lim ops os l S2.m S2.n K) : WO E loose fl lim ops (⟨none, .store t x y, ty, pos, af, none⟩ :: os) l S.m S.n K := by
  obtain ⟨H, g1, g2, g3⟩ := hs
  refine WO.st1 (g := fun s => s) (u' := w) hx hy g1 (by rw [g2.len]; exact hi) hT h1 (fun S1 c1 ho => ?_)
  have hw1 := hw.to c1 h1 h6
  have hf1 := g2.to c1 h1 h5
  exact h S1 (S1.mg j r) c1 (S1.mg_ch j r) ⟨_, ho.to (S1.mg_ch j r) h2 h4, hf1.close hw1 (nb h2) (nb h3)⟩
theorem Tw.th (h : Tw A S id r v L) (hR : L[i]? = some R) : ∃ w, Th A S id r v L i w := by
  obtain ⟨H, h1, h2⟩ := h
  have hi := (List.getElem?_eq_some_iff.1 hR).1
  exact ⟨_, H, h1, h2.any i, List.getElem?_eq_getElem (by rw [h2.len]; exact hi)⟩
theorem WO.stT0 (hx : evK l x = some (.sc (ptrAt v i 0))) (hy : evK l y = some (.sc w)) (hs : Tw A S id r v L) (hi : i < L.length) (hw : Ow A S j w R) (hT : oneT E t = true) (h1 : Nat.beq id 0 = false) (h2 : Nat.beq j 0 = false) (h3 : Nat.beq j r = false) (h4 : Nat.beq id j = false) (h5 : Nat.beq r id = false) (h6 : Nat.beq j id = false)
    (h : ∀ S1 S2, Ch id S S1 → Ch j S1 S2 → Tw A S2 id r v (L.set i R) → WO E loose fl lim ops os l S2.m S2.n K) : WO E loose fl lim ops (⟨none, .store t x y, ty, pos, af, none⟩ :: os) l S.m S.n K := by
  obtain ⟨w0, ht⟩ := hs.th (List.getElem?_eq_getElem hi)
  exact WO.stT hx hy ht hi hw hT h1 h2 h3 h4 h5 h6 h
/-- A row more. -/
theorem WO.appT {y2 : Operand} {w2 : SV} {zo : Nat → Prop} (hx : evK l x = some (.sc v)) (hy : evK l y2 = some (.sc w2)) (hs : Tw A S id r v L) (hs2 : RO LH zo S.fz S.m w2 [w]) (hw : Ow A S j w R) (hM : app? L [R] = some M) (hT : slTs E t 1 = true) (h1 : Nat.beq id 0 = false) (h2 : Nat.beq j 0 = false) (h3 : Nat.beq j r = false) (h4 : Nat.beq id j = false) (h5 : Nat.beq r id = false) (h6 : Nat.beq j id = false)
    (h : ∀ v' S1 S2, Ch id S S1 → Ch j S1 S2 → Tw A S2 id r v' M → WO E loose fl lim ops os ((d, .sc v') :: l) S2.m S2.n K) :
    WO E loose fl lim ops (⟨some d, .call ⟨.builtin .append, #[x, y2], #[t, t]⟩, ty, pos, af, none⟩ :: os) l S.m S.n K := by
  obtain ⟨H, g1, g2⟩ := hs
  obtain ⟨hlen, rfl⟩ := app?_some hM
  refine WO.appS (A := LH) (M := H ++ [w]) hx hy g1 hs2 (by unfold app?; rw [if_pos (by rw [g2.len]; exact hlen)]) hT h1 (fun v' S1 c1 ho => ?_)
  have hw1 := hw.to c1 h1 h6
  have hf1 := g2.to c1 h1 h5
  exact h v' S1 (S1.mg j r) c1 (S1.mg_ch j r) ⟨_, ho.to (S1.mg_ch j r) h2 h4, hf1.snoc hw1 (nb h2) (nb h3)⟩
/-- []T{w} of a header -/
theorem WO.bsH {ps : Array (Nat × Operand)} (id : Nat) (hin : allK l (.buildSlice t 1 ps) = true) (hop : opA E (fun _ _ _ _ _ => none) fl lim (evL l) S.m S.n (.buildSlice t 1 ps) = some (.sc (.sl S.n 0 1 1 1), S.m.set S.n [w], S.n + 1)) (hid : Nat.beq id 0 = false)
    (h : ∀ v' S', Ch id S S' → Ow LH S' id v' [w] → WO E loose fl lim ops os ((d, .sc v') :: l) S'.m S'.n K) : WO E loose fl lim ops (⟨some d, .buildSlice t 1 ps, ty, pos, af, none⟩ :: os) l S.m S.n K :=
  WO.bsS (A := LH) (M := [w]) (cs := [w]) id hin hop rfl (RL.one rfl) hid h
/-- make of rows -/
theorem WO.mkT {i1 i2 : Operand} {a : Int} (id r : Nat) (hi : evK l i1 = some (.sc (.int k a))) (hi2 : evK l i2 = some (.sc (.int k' a))) (hM : mk? a ([] : List α) = some M) (hz : slZ E t = [.nils]) (hT : slTs E t 1 = true) (h1 : Nat.beq id 0 = false)
    (h : ∀ v' S', Ch id S S' → Tw A S' id r v' M → WO E loose fl lim ops os ((d, .sc v') :: l) S'.m S'.n K) : WO E loose fl lim ops (⟨some d, .makeSlice t i1 i2, ty, pos, af, none⟩ :: os) l S.m S.n K := by
  obtain ⟨ha, rfl⟩ := mk?_some hM
  exact WO.mkS (A := LH) (z0 := .nils) id hi hi2 (by unfold mk?; rw [if_pos ha]) hz hT h1 (fun v' S' c ho => h v' S' c ⟨_, ho, Fam.nils _⟩)
end rules
end Go.Am

/- Regions in which an 'append' stands beside what reads: what is known of the blocks when they are over. -/
import Derived.Test.YtihmliblbhjlaaaDenH
set_option linter.unusedVariables false
namespace Go.Am

theorem SV.mem_blks {v : SV} {i : Nat} : i ∈ v.blks ↔ v.blk = some i := by
  cases v <;> simp [SV.blks, SV.blk, eq_comm]
/-- Its block is k's. -/
def BK {fl : Nat} (S : Cx fl) (k : Nat) (v : SV) : Prop := ∀ b, v.blk = some b → b < S.n ∧ S.ow b = k
/-- Different blocks. -/
def NB (v w : SV) : Prop := ∀ b, v.blk = some b → w.blk ≠ some b
/-- Its block is new. -/
def GE (n : Nat) (v : SV) : Prop := ∀ b, v.blk = some b → n ≤ b

section bk
variable {α : Type} {A : Lay α} {fl k j : Nat} {S S' : Cx fl} {v w : SV} {L : List α}
theorem Ow.bko (h : Ow A S k v L) : BK S k v := fun b hb => ⟨(h.blk_ow hb).2, (h.blk_ow hb).1⟩
theorem RO.bkz {zi : Nat → Prop} {m : Mem} (h : RO A (fun i => i < S.n ∧ S.ow i = k) zi m v L) : BK S k v := by
  intro b hb
  rcases h with ⟨h1, _⟩ | ⟨i, o, c, cs, h1, _, h3, _⟩
  · rcases h1 with rfl | rfl
    · cases hb
    · cases hb
  · subst h1; cases hb; exact h3
theorem Rd.bko (h : Rd A S v L) : BK S 0 v := RO.bkz h
theorem Wk.bko (h : Wk A S k v L) : BK S k v := RO.bkz h
theorem Bk.bko {a : α} (h : Bk A S k v a) : BK S k v := by
  obtain ⟨b, cs, rfl, _, h2, h3, _⟩ := h
  intro b' hb; cases hb; exact ⟨h2, h3⟩
theorem Rp.bko {a : α} (h : Rp A S v a) : BK S 0 v := by
  obtain ⟨b, cs, rfl, h2, _⟩ := h
  intro b' hb; cases hb; exact h2
theorem Bw.bko {cs : List SV} (h : Bw S k v cs) : BK S k v := by
  obtain ⟨b, rfl, _, h2, h3, _⟩ := h
  intro b' hb; cases hb; exact ⟨h2, h3⟩
theorem Rw.bko {cs : List SV} (h : Rw S v cs) : BK S 0 v := by
  obtain ⟨b, rfl, h2, _⟩ := h
  intro b' hb; cases hb; exact h2
theorem Tw.bko {r : Nat} {Q : List (List α)} (h : Tw A S k r v Q) : BK S k v := by
  obtain ⟨H, h1, _⟩ := h; exact h1.bko
theorem Th.bko {r i : Nat} {Q : List (List α)} (h : Th A S k r v Q i w) : BK S k v := by
  obtain ⟨H, h1, _⟩ := h; exact h1.bko
theorem BK.nb (h : BK S k v) (g : BK S j w) (hkj : Nat.beq k j = false := by rfl) : NB v w := fun b hb hw => Go.Am.nb hkj ((h b hb).2.symm.trans (g b hw).2)
theorem BK.ge {n : Nat} (h : BK S k v) (g : GE n w) (hn : S.n ≤ n) : NB v w := fun b hb hw => by
  have := (h b hb).1; have := g b hw; omega
theorem NB.symm (h : NB v w) : NB w v := fun b hb hw => h b hw hb
theorem ptrAt_blk {i q b : Nat} (h : (ptrAt v i q).blk = some b) : v.blk = some b := by
  cases v <;> simp [ptrAt, SV.blk] at h ⊢ <;> exact h
theorem NB.pt {i q : Nat} (h : NB v w) : NB (ptrAt v i q) w := fun b hb => h b (ptrAt_blk hb)
theorem NB.none (h : v.blk = .none) : NB v w := fun b hb => by rw [h] at hb; cases hb
theorem NB.noneR (h : w.blk = .none) : NB v w := fun b _ hb => by rw [h] at hb; cases hb
end bk

/-- The values of operands. -/
def valsL (l : LE) : List Operand → Option (List SV)
  | [] => some []
  | x :: r => match evK l x with
    | none => none
    | some (.sc v) => match valsL l r with
      | some vs => some (v :: vs)
      | none => none
    | some _ => valsL l r
def rdOps : Op → List Operand
  | .load _ a => [a]
  | .call { callee := .builtin .append, args := xs, .. } => xs.toList
  | _ => []
def wrOps : Op → List Operand
  | .call { callee := .builtin .append, args := xs, .. } => match xs.toList with
    | x :: _ => [x]
    | [] => []
  | _ => []
def dsOps : Option Nat → List Operand
  | some d => [.tmp d]
  | none => []
theorem valsL_blks {t : Tr AV} {l : LE} (hs : Sees t l) : ∀ {xs : List Operand} {vs : List SV}, valsL l xs = some vs → ∀ x ∈ xs, ∀ i ∈ (evT t x).blks, ∃ v ∈ vs, v.blk = some i
  | [], _, _, x, hx, _, _ => by simp at hx
  | y :: r, vs, h, x, hx, i, hi => by
    simp only [valsL] at h
    have he : ∀ {v : AV}, evK l y = some v → evT t y = v := fun h => evK_ev (m := .nil) (n := 0) hs h
    split at h
    · cases h
    · rename_i v hv
      split at h
      · rename_i ws hw
        cases h
        rcases List.mem_cons.1 hx with rfl | hx
        · rw [he hv] at hi
          exact ⟨v, by simp, SV.mem_blks.1 hi⟩
        · obtain ⟨u, h1, h2⟩ := valsL_blks hs hw x hx i hi
          exact ⟨u, by simp [h1], h2⟩
      · cases h
    · rename_i v hno hv
      rcases List.mem_cons.1 hx with rfl | hx
      · rw [he hv] at hi
        cases v with
        | sc u => exact (hno u rfl).elim
        | _ => simp [AV.blks] at hi
      · exact valsL_blks hs h x hx i hi
def NB1 (v : SV) : List SV → Prop
  | [] => True
  | w :: ws => NB v w ∧ NB1 v ws
def NBs : List SV → List SV → Prop
  | [], _ => True
  | v :: vs, ws => NB1 v ws ∧ NBs vs ws
theorem NB1.mem {v : SV} : ∀ {ws : List SV}, NB1 v ws → ∀ w ∈ ws, NB v w
  | w :: ws, h, u, hu => by
    rcases List.mem_cons.1 hu with rfl | hu
    · exact h.1
    · exact NB1.mem h.2 u hu
theorem NBs.mem : ∀ {vs ws : List SV}, NBs vs ws → ∀ v ∈ vs, ∀ w ∈ ws, NB v w
  | v :: vs, ws, h, u, hu => by
    rcases List.mem_cons.1 hu with rfl | hu
    · exact NB1.mem h.1
    · exact NBs.mem h.2 u hu
theorem readsV_ops (ev : Operand → AV) (op : Op) : readsV ev op = (rdOps op).flatMap fun x => (ev x).blks := by
  unfold readsV rdOps
  split <;> simp
theorem writesV_ops (ev : Operand → AV) (op : Op) : writesV ev op = (wrOps op).flatMap fun x => (ev x).blks := by
  unfold writesV wrOps
  split
  · split <;> simp_all
  · simp
theorem dstB_ops (t : Tr AV) (o : Oper) : dstB t o = (dsOps o.dst).flatMap fun x => (evT t x).blks := by
  unfold dstB
  cases o.dst with
  | none => rfl
  | some d => simp [dsOps, evT, St.ev]
theorem djT_of {t : Tr AV} {l : LE} (hs : Sees t l) {a b : Oper} {ra wa da rb wb : List SV} (h1 : valsL l (rdOps a.op) = some ra) (h2 : valsL l (wrOps a.op) = some wa) (h3 : valsL l (dsOps a.dst) = some da) (h4 : valsL l (rdOps b.op) = some rb) (h5 : valsL l (wrOps b.op) = some wb)
    (n1 : NBs wa rb) (n2 : NBs da rb) (n3 : NBs wb ra) : djT t a b = true := by
  unfold djT
  rw [readsV_ops, writesV_ops, readsV_ops, writesV_ops, dstB_ops]
  simp only [Bool.and_eq_true, List.all_eq_true, Bool.not_eq_true', List.contains_eq_mem, decide_eq_false_iff_not, List.mem_flatMap]
  have key : ∀ {xs ys : List Operand} {vs ws : List SV}, valsL l xs = some vs → valsL l ys = some ws → NBs vs ws → ∀ i, (∃ y ∈ ys, i ∈ (evT t y).blks) → ¬ ∃ x ∈ xs, i ∈ (evT t x).blks := by
    rintro xs ys vs ws g1 g2 g3 i ⟨y, hy, hi⟩ ⟨x, hx, hj⟩
    obtain ⟨v, hv, ev⟩ := valsL_blks hs g1 x hx i hj
    obtain ⟨w, hw, ew⟩ := valsL_blks hs g2 y hy i hi
    exact g3.mem v hv w hw i ev ew
  exact ⟨fun i hi => ⟨key h2 h4 n1 i hi, key h3 h4 n2 i hi⟩, fun i hi => fun hj => key h5 h1 n3 i hj hi⟩

def coverD (lo : List Nat) (ops : Array Oper) (loose : Bool) (ps : List (Nat × Nat)) : Bool :=
  ops.toList.zipIdx.all fun (o, j) => ops.toList.zipIdx.all fun (p, i) => !decide (i < j) || ((Region.before ops).getD j 0).testBit i || pairOkL lo ops loose p o || ps.contains (i, j)
def DJ (t : Tr AV) : Option Oper → Option Oper → Prop
  | some a, some b => djT t a b = true
  | _, _ => True
def PD (t : Tr AV) (ops : Array Oper) : List (Nat × Nat) → Prop
  | [] => True
  | q :: r => DJ t ops[q.1]? ops[q.2]? ∧ PD t ops r
theorem PD.mem {t : Tr AV} {ops : Array Oper} {i j : Nat} {a b : Oper} (h1 : ops[i]? = some a) (h2 : ops[j]? = some b) : ∀ (ps : List (Nat × Nat)), PD t ops ps → (i, j) ∈ ps → djT t a b = true := by
  intro ps
  induction ps with
  | nil => intro _ hm; cases hm
  | cons q r ih =>
    intro h hm
    rcases List.mem_cons.1 hm with e | hm
    · subst e
      have h0 : DJ t ops[i]? ops[j]? := h.1
      rw [h1, h2] at h0
      exact h0
    · exact ih h.2 hm
theorem dynOk_of {t : Tr AV} {lo : List Nat} {ops : Array Oper} {loose : Bool} (ps : List (Nat × Nat)) (hp : coverD lo ops loose ps = true) (h : PD t ops ps) : dynOk lo ops loose t = true := by
  unfold coverD at hp
  unfold dynOk
  rw [List.all_eq_true] at hp ⊢
  intro q1 h1
  have hp1 := hp q1 h1
  rw [List.all_eq_true] at hp1 ⊢
  intro q2 h2
  have hp2 := hp1 q2 h2
  obtain ⟨o, j⟩ := q1
  obtain ⟨p, i⟩ := q2
  simp only [Bool.or_eq_true] at hp2 ⊢
  rcases hp2 with g | g
  · exact .inl g
  · right
    rw [List.mem_zipIdx_iff_getElem?] at h1 h2
    simp only [Array.getElem?_toList] at h1 h2
    exact PD.mem h2 h1 ps h (List.contains_iff_mem.1 g)

section rules
variable {E : Env} {lo : List Nat} {fl : Nat} {loose : Nat → Bool} {lim : Option Nat} {ops : Array Oper} {os : List Oper}
variable {l : LE} {m : Mem} {n n0 : Nat} {K : LE → Mem → Nat → Prop} {Q : AE → LE → Mem → Nat → Prop}
variable {α : Type} {A : Lay α} {L M : List α} {d : Nat} {ty t : TypeId} {pos : String} {af : Array Edge} {S : Cx fl}
theorem WC.drawDN {id : Nat} (hp : plainOps ops = false) (h : WO E (tgt lo id) fl (some n) ops ops.toList l m n (fun l' m' n' => (∀ t, Sees t l' → dynOk lo ops (lo.contains id) t = true) ∧ Q .normal l' m' n')) : WC E lo fl (.region id ops true) l m n Q := WC.drawD (by rw [if_neg (by rw [hp]; decide)]; exact h)
/-- []T{..}, and that its block is new -/
theorem WO.bsD {len : Nat} {ps : Array (Nat × Operand)} {cs : List SV} (id : Nat) (hin : allK l (.buildSlice t len ps) = true) (hop : opA E (fun _ _ _ _ _ => none) fl lim (evL l) S.m S.n (.buildSlice t len ps) = some (.sc (.sl S.n 0 len len A.sz), S.m.set S.n cs, S.n + 1)) (hL : M.length = len)
    (hR : RL A S.fz S.m M cs) (hid : Nat.beq id 0 = false)
    (h : ∀ v' S', GE S.n v' → Ch id S S' → Ow A S' id v' M → WO E loose fl lim ops os ((d, .sc v') :: l) S'.m S'.n K) : WO E loose fl lim ops (⟨some d, .buildSlice t len ps, ty, pos, af, none⟩ :: os) l S.m S.n K := by
  have hid : id ≠ 0 := fun e => by subst e; cases hid
  subst hL
  have hl := hR.length
  obtain ⟨S', e1, e2, h7, h8⟩ := Ow.fresh (S := S) (cs := cs) (c := M.length) (by rw [← hl, List.take_length]; exact hR) hid (by simp) hl
  refine WO.do hin hop ?_
  rw [← e1, ← e2]
  exact h _ S' (fun b hb => by cases hb; exact Nat.le_refl _) h7 h8
end rules
end Go.Am

/- The machine answers the functions' texts: printed by a program of ours (gen.py). -/
import Derived.Test.YtihmliblbhjlaaaG1
set_option linter.unusedVariables false
namespace Go.Proofs.Ytihmliblbhjlaaa
open Go.Am
abbrev my : Mt := ⟨5, .i64, 2, .int .i64 0⟩
def Good (e : Ent) : Prop := ∃ (a : Int) (k : Nat), e = ([.int .i64 a, .int .i64 k], .int .i64 (cntI a k))
structure Seen (fl : Nat) (m : Mem) (n c1 c2 b : Nat) (ents : List Ent) : Prop where
  l1 : c1 < n
  l2 : c2 < n
  l3 : b < n
  n1 : c1 ≠ b
  n2 : c2 ≠ b
  fb : fl ≤ b
  g1 : m.get c1 = some [.mp b]
  g2 : m.get c2 = some [.fn 113 [(c1, 0), (c2, 0)]]
  g3 : m.get b = some (mhd my :: flatE ents)
  gd : ∀ e ∈ ents, Good e
theorem F113.fn : E.fn 113 = some ⟨45, (Try.f113.body.getD .skip), Try.f113.results.toList, [3000007]⟩ := rfl
theorem keyN {a : Int} (h1 : -1000 ≤ a ∧ a ≤ 1000) : keyCellOk my (.int .i64 a) = true := by
  have : IntKind.min .i64 ≤ a ∧ a ≤ IntKind.max .i64 := by
    rw [show IntKind.min .i64 = -9223372036854775808 from rfl, show IntKind.max .i64 = 9223372036854775807 from rfl]; omega
  show ((my.kk == 1 || my.kk == 5) && IntKind.i64 == my.ik && decide (IntKind.min .i64 ≤ a ∧ a ≤ IntKind.max .i64)) = true
  rw [decide_eq_true this]; rfl
theorem keyM {a : Int} {k : Nat} (h1 : -1000 ≤ a ∧ a ≤ 1000) (h2 : k ≤ 1000) : keyA my (.agg [.int .i64 a, .int .i64 k]) = some [.int .i64 a, .int .i64 k] := by
  simp [keyA, keyN h1, keyN (a := (k : Int)) (by omega)]
theorem F113_ok : ∀ (N : Nat) (a : Int) (k : Nat) {fl n c1 c2 b : Nat} {m : Mem} {ents : List Ent}, a.toNat + k < N → -1000 ≤ a ∧ a ≤ 1000 → k ≤ 1000 → Seen fl m n c1 c2 b ents →
    Ret E fl 113 [.sc (.int .i64 a), .sc (.int .i64 k), .sc (.ptr c1 0), .sc (.ptr c2 0)] m n (fun v m' n' => v = .sc (.int .i64 (cntI a k)) ∧ n ≤ n' ∧ (∃ ents', Seen fl m' n' c1 c2 b ents') ∧ ∀ i, i < n → i ≠ b → m'.get i = m.get i)
  | 0, _, _, _, _, _, _, _, _, _, h, _, _, _ => by omega
  | N + 1, a, k, fl, n, c1, c2, b, m, ents, hN, ha, hk, hS => by
    refine Ret.walk F113.fn ?_
    repeat (first | refine WC.seq ?_ | refine thenL_n ?_ | refine thenL_r ?_ | refine thenL_e ?_ | refine WC.region ?_ | refine WO.nil ?_ | refine WC.skip ?_ | refine WC.ret ?_ | refine WO.asg rfl ?_ | refine WO.mv rfl ?_ | refine WC.block ?_ | refine WC.exit ?_ | refine blockL_s ?_ | refine blockL_r ?_ | refine blockL_n ?_ | refine blockL_e rfl ?_)
    refine WO.bin rfl rfl (by decide) (by decide) rfl ?_
    repeat (first | refine WC.seq ?_ | refine thenL_n ?_ | refine thenL_r ?_ | refine thenL_e ?_ | refine WC.region ?_ | refine WO.nil ?_ | refine WC.skip ?_ | refine WC.ret ?_ | refine WO.asg rfl ?_ | refine WO.mv rfl ?_ | refine WC.block ?_ | refine WC.exit ?_ | refine blockL_s ?_ | refine blockL_r ?_ | refine blockL_n ?_ | refine blockL_e rfl ?_)
    refine WC.cond rfl (fun q => ?_) (fun q => ?_)
    · have q : a = 0 := by simpa using q
      subst q
      repeat (first | refine WC.seq ?_ | refine thenL_n ?_ | refine thenL_r ?_ | refine thenL_e ?_ | refine WC.region ?_ | refine WO.nil ?_ | refine WC.skip ?_ | refine WC.ret ?_ | refine WO.asg rfl ?_ | refine WO.mv rfl ?_ | refine WC.block ?_ | refine WC.exit ?_ | refine blockL_s ?_ | refine blockL_r ?_ | refine blockL_n ?_ | refine blockL_e rfl ?_)
      exact ⟨.inr rfl, _, _, rfl, rfl, by rw [cntI_zero], Nat.le_refl _, ⟨ents, hS⟩, fun _ _ _ => rfl⟩
    have q : a ≠ 0 := by simpa using q
    repeat (first | refine WC.seq ?_ | refine thenL_n ?_ | refine thenL_r ?_ | refine thenL_e ?_ | refine WC.region ?_ | refine WO.nil ?_ | refine WC.skip ?_ | refine WC.ret ?_ | refine WO.asg rfl ?_ | refine WO.mv rfl ?_ | refine WC.block ?_ | refine WC.exit ?_ | refine blockL_s ?_ | refine blockL_r ?_ | refine blockL_n ?_ | refine blockL_e rfl ?_)
    refine WO.bin rfl rfl (by decide) (by decide) rfl ?_
    repeat (first | refine WC.seq ?_ | refine thenL_n ?_ | refine thenL_r ?_ | refine thenL_e ?_ | refine WC.region ?_ | refine WO.nil ?_ | refine WC.skip ?_ | refine WC.ret ?_ | refine WO.asg rfl ?_ | refine WO.mv rfl ?_ | refine WC.block ?_ | refine WC.exit ?_ | refine blockL_s ?_ | refine blockL_r ?_ | refine blockL_n ?_ | refine blockL_e rfl ?_)
    by_cases h0 : a < 0
    · rw [decide_eq_true h0]
      refine WO.gno (q := 13) rfl rfl ?_
      refine WO.gno (q := 13) rfl rfl ?_
      refine WO.pickT rfl rfl ?_
      repeat (first | refine WC.seq ?_ | refine thenL_n ?_ | refine thenL_r ?_ | refine thenL_e ?_ | refine WC.region ?_ | refine WO.nil ?_ | refine WC.skip ?_ | refine WC.ret ?_ | refine WO.asg rfl ?_ | refine WO.mv rfl ?_ | refine WC.block ?_ | refine WC.exit ?_ | refine blockL_s ?_ | refine blockL_r ?_ | refine blockL_n ?_ | refine blockL_e rfl ?_)
      refine WC.cond rfl (fun _ => ?_) (fun q => by cases q)
      repeat (first | refine WC.seq ?_ | refine thenL_n ?_ | refine thenL_r ?_ | refine thenL_e ?_ | refine WC.region ?_ | refine WO.nil ?_ | refine WC.skip ?_ | refine WC.ret ?_ | refine WO.asg rfl ?_ | refine WO.mv rfl ?_ | refine WC.block ?_ | refine WC.exit ?_ | refine blockL_s ?_ | refine blockL_r ?_ | refine blockL_n ?_ | refine blockL_e rfl ?_)
      exact ⟨.inr rfl, _, _, rfl, rfl, by rw [cntI_none q (.inl h0)], Nat.le_refl _, ⟨ents, hS⟩, fun _ _ _ => rfl⟩
    rw [decide_eq_false h0]
    refine WO.gyes (q := 13) rfl rfl ?_
    repeat (first | refine WC.seq ?_ | refine thenL_n ?_ | refine thenL_r ?_ | refine thenL_e ?_ | refine WC.region ?_ | refine WO.nil ?_ | refine WC.skip ?_ | refine WC.ret ?_ | refine WO.asg rfl ?_ | refine WO.mv rfl ?_ | refine WC.block ?_ | refine WC.exit ?_ | refine blockL_s ?_ | refine blockL_r ?_ | refine blockL_n ?_ | refine blockL_e rfl ?_)
    refine WO.gyes (q := 13) rfl rfl ?_
    refine WO.bin rfl rfl (by decide) (by decide) rfl ?_
    refine WO.pickF rfl rfl ?_
    repeat (first | refine WC.seq ?_ | refine thenL_n ?_ | refine thenL_r ?_ | refine thenL_e ?_ | refine WC.region ?_ | refine WO.nil ?_ | refine WC.skip ?_ | refine WC.ret ?_ | refine WO.asg rfl ?_ | refine WO.mv rfl ?_ | refine WC.block ?_ | refine WC.exit ?_ | refine blockL_s ?_ | refine blockL_r ?_ | refine blockL_n ?_ | refine blockL_e rfl ?_)
    refine WC.cond rfl (fun q2 => ?_) (fun q2 => ?_)
    · have q2 : k = 0 := by simpa using q2
      repeat (first | refine WC.seq ?_ | refine thenL_n ?_ | refine thenL_r ?_ | refine thenL_e ?_ | refine WC.region ?_ | refine WO.nil ?_ | refine WC.skip ?_ | refine WC.ret ?_ | refine WO.asg rfl ?_ | refine WO.mv rfl ?_ | refine WC.block ?_ | refine WC.exit ?_ | refine blockL_s ?_ | refine blockL_r ?_ | refine blockL_n ?_ | refine blockL_e rfl ?_)
      exact ⟨.inr rfl, _, _, rfl, rfl, by rw [cntI_none q (.inr q2)], Nat.le_refl _, ⟨ents, hS⟩, fun _ _ _ => rfl⟩
    have q2 : k ≠ 0 := by simpa using q2
    repeat (first | refine WC.seq ?_ | refine thenL_n ?_ | refine thenL_r ?_ | refine thenL_e ?_ | refine WC.region ?_ | refine WO.nil ?_ | refine WC.skip ?_ | refine WC.ret ?_ | refine WO.asg rfl ?_ | refine WO.mv rfl ?_ | refine WC.block ?_ | refine WC.exit ?_ | refine blockL_s ?_ | refine blockL_r ?_ | refine blockL_n ?_ | refine blockL_e rfl ?_)
    refine WO.ldc rfl E.ty135 (by decide) hS.g1 rfl ?_
    repeat (first | refine WC.seq ?_ | refine thenL_n ?_ | refine thenL_r ?_ | refine thenL_e ?_ | refine WC.region ?_ | refine WO.nil ?_ | refine WC.skip ?_ | refine WC.ret ?_ | refine WO.asg rfl ?_ | refine WO.mv rfl ?_ | refine WC.block ?_ | refine WC.exit ?_ | refine blockL_s ?_ | refine blockL_r ?_ | refine blockL_n ?_ | refine blockL_e rfl ?_)
    refine WO.do rfl rfl ?_
    have hkl : ∀ e ∈ ents, e.1.length = my.ks := fun e he => by obtain ⟨_, _, rfl⟩ := hS.gd e he; rfl
    have hkey := keyM (a := a) (k := k) ha hk
    rcases lookR_flat (y := my) (kc := [.int .i64 a, .int .i64 k]) hkl true with ⟨e, he, h1, h2⟩ | ⟨_, h2⟩
    · obtain ⟨a', k', rfl⟩ := hS.gd e he
      simp only [List.cons.injEq, SV.int.injEq, and_true, true_and] at h1
      obtain ⟨rfl, h1⟩ := h1
      obtain rfl : k' = k := by omega
      refine WO.lkM rfl rfl E.mt135 hkey hS.g3 h2 ?_
      repeat (first | refine WC.seq ?_ | refine thenL_n ?_ | refine thenL_r ?_ | refine thenL_e ?_ | refine WC.region ?_ | refine WO.nil ?_ | refine WC.skip ?_ | refine WC.ret ?_ | refine WO.asg rfl ?_ | refine WO.mv rfl ?_ | refine WC.block ?_ | refine WC.exit ?_ | refine blockL_s ?_ | refine blockL_r ?_ | refine blockL_n ?_ | refine blockL_e rfl ?_)
      refine WO.do rfl rfl ?_
      refine WO.do rfl rfl ?_
      repeat (first | refine WC.seq ?_ | refine thenL_n ?_ | refine thenL_r ?_ | refine thenL_e ?_ | refine WC.region ?_ | refine WO.nil ?_ | refine WC.skip ?_ | refine WC.ret ?_ | refine WO.asg rfl ?_ | refine WO.mv rfl ?_ | refine WC.block ?_ | refine WC.exit ?_ | refine blockL_s ?_ | refine blockL_r ?_ | refine blockL_n ?_ | refine blockL_e rfl ?_)
      refine WO.do rfl rfl ?_
      repeat (first | refine WC.seq ?_ | refine thenL_n ?_ | refine thenL_r ?_ | refine thenL_e ?_ | refine WC.region ?_ | refine WO.nil ?_ | refine WC.skip ?_ | refine WC.ret ?_ | refine WO.asg rfl ?_ | refine WO.mv rfl ?_ | refine WC.block ?_ | refine WC.exit ?_ | refine blockL_s ?_ | refine blockL_r ?_ | refine blockL_n ?_ | refine blockL_e rfl ?_)
      refine WC.cond rfl (fun q => by cases q) (fun _ => ?_)
      repeat (first | refine WC.seq ?_ | refine thenL_n ?_ | refine thenL_r ?_ | refine thenL_e ?_ | refine WC.region ?_ | refine WO.nil ?_ | refine WC.skip ?_ | refine WC.ret ?_ | refine WO.asg rfl ?_ | refine WO.mv rfl ?_ | refine WC.block ?_ | refine WC.exit ?_ | refine blockL_s ?_ | refine blockL_r ?_ | refine blockL_n ?_ | refine blockL_e rfl ?_)
      exact ⟨.inr rfl, _, _, rfl, rfl, rfl, Nat.le_refl _, ⟨ents, hS⟩, fun _ _ _ => rfl⟩
    · refine WO.lkM rfl rfl E.mt135 hkey hS.g3 h2 ?_
      repeat (first | refine WC.seq ?_ | refine thenL_n ?_ | refine thenL_r ?_ | refine thenL_e ?_ | refine WC.region ?_ | refine WO.nil ?_ | refine WC.skip ?_ | refine WC.ret ?_ | refine WO.asg rfl ?_ | refine WO.mv rfl ?_ | refine WC.block ?_ | refine WC.exit ?_ | refine blockL_s ?_ | refine blockL_r ?_ | refine blockL_n ?_ | refine blockL_e rfl ?_)
      refine WO.do rfl rfl ?_
      refine WO.do rfl rfl ?_
      repeat (first | refine WC.seq ?_ | refine thenL_n ?_ | refine thenL_r ?_ | refine thenL_e ?_ | refine WC.region ?_ | refine WO.nil ?_ | refine WC.skip ?_ | refine WC.ret ?_ | refine WO.asg rfl ?_ | refine WO.mv rfl ?_ | refine WC.block ?_ | refine WC.exit ?_ | refine blockL_s ?_ | refine blockL_r ?_ | refine blockL_n ?_ | refine blockL_e rfl ?_)
      refine WO.do rfl rfl ?_
      repeat (first | refine WC.seq ?_ | refine thenL_n ?_ | refine thenL_r ?_ | refine thenL_e ?_ | refine WC.region ?_ | refine WO.nil ?_ | refine WC.skip ?_ | refine WC.ret ?_ | refine WO.asg rfl ?_ | refine WO.mv rfl ?_ | refine WC.block ?_ | refine WC.exit ?_ | refine blockL_s ?_ | refine blockL_r ?_ | refine blockL_n ?_ | refine blockL_e rfl ?_)
      refine WC.cond rfl (fun _ => ?_) (fun q => by cases q)
      refine WC.seq ?_
      refine WC.drawG [c2] rfl rfl rfl (fun t ht q hq => ?_) ?_
      · have h3 : t.get 3 = some (.sc (.ptr c2 0)) := ht 3 _ rfl
        have hq : q ∈ (evT t (.tmp 3)).blks ++ ((evT t (.tmp 3)).blks ++ []) := hq
        have he : evT t (.tmp 3) = .sc (.ptr c2 0) := by show (t.get 3).getD .un = _; rw [h3]; rfl
        rw [he] at hq
        simpa [AV.blks, SV.blks] using hq
      refine WOG.split 5 rfl ?_
      refine WO.ldc rfl E.ty64 (by decide) hS.g2 (by simpa [limOk] using hS.l2) ?_
      repeat (first | refine WC.seq ?_ | refine thenL_n ?_ | refine thenL_r ?_ | refine thenL_e ?_ | refine WC.region ?_ | refine WO.nil ?_ | refine WC.skip ?_ | refine WC.ret ?_ | refine WO.asg rfl ?_ | refine WO.mv rfl ?_ | refine WC.block ?_ | refine WC.exit ?_ | refine blockL_s ?_ | refine blockL_r ?_ | refine blockL_n ?_ | refine blockL_e rfl ?_)
      refine WO.bin rfl rfl (by decide) (by decide) rfl ?_
      rw [show wrapA .i64 (a - (k : Int)) = a - k from wrapA_in (by omega) (by omega)]
      repeat (first | refine WC.seq ?_ | refine thenL_n ?_ | refine thenL_r ?_ | refine thenL_e ?_ | refine WC.region ?_ | refine WO.nil ?_ | refine WC.skip ?_ | refine WC.ret ?_ | refine WO.asg rfl ?_ | refine WO.mv rfl ?_ | refine WC.block ?_ | refine WC.exit ?_ | refine blockL_s ?_ | refine blockL_r ?_ | refine blockL_n ?_ | refine blockL_e rfl ?_)
      refine WOG.call rfl rfl ?_
      refine Ret.mono (F113_ok N (a - k) k (fl := fl) (by omega) (by omega) hk hS) ?_
      rintro _ m1 n1 ⟨rfl, hn1, ⟨ents1, hS1⟩, hk1⟩
      refine ⟨fun q hq => by rw [List.mem_singleton.1 hq]; exact hk1 _ hS.l2 hS.n2, ?_⟩
      refine WOG.split 4 rfl ?_
      refine WO.ldc rfl E.ty64 (by decide) hS1.g2 (by have := hS.l2; simpa [limOk] using this) ?_
      repeat (first | refine WC.seq ?_ | refine thenL_n ?_ | refine thenL_r ?_ | refine thenL_e ?_ | refine WC.region ?_ | refine WO.nil ?_ | refine WC.skip ?_ | refine WC.ret ?_ | refine WO.asg rfl ?_ | refine WO.mv rfl ?_ | refine WC.block ?_ | refine WC.exit ?_ | refine blockL_s ?_ | refine blockL_r ?_ | refine blockL_n ?_ | refine blockL_e rfl ?_)
      refine WO.bin rfl rfl (by decide) (by decide) rfl ?_
      rw [show wrapA .i64 ((k : Int) - 1) = ((k - 1 : Nat) : Int) from by rw [wrapA_in (by omega) (by omega)]; omega]
      repeat (first | refine WC.seq ?_ | refine thenL_n ?_ | refine thenL_r ?_ | refine thenL_e ?_ | refine WC.region ?_ | refine WO.nil ?_ | refine WC.skip ?_ | refine WC.ret ?_ | refine WO.asg rfl ?_ | refine WO.mv rfl ?_ | refine WC.block ?_ | refine WC.exit ?_ | refine blockL_s ?_ | refine blockL_r ?_ | refine blockL_n ?_ | refine blockL_e rfl ?_)
      refine WOG.call rfl rfl ?_
      refine Ret.mono (F113_ok N a (k - 1) (fl := fl) (by omega) (by omega) (by omega) hS1) ?_
      rintro _ m2 n2 ⟨rfl, hn2, ⟨ents2, hS2⟩, hk2⟩
      refine ⟨fun q hq => by rw [List.mem_singleton.1 hq]; exact hk2 _ hS1.l2 hS1.n2, ?_⟩
      refine WOG.split 9 rfl ?_
      refine WO.bin rfl rfl (by decide) (by decide) rfl ?_
      rw [← cntI_step (by omega) (by omega)]
      repeat (first | refine WC.seq ?_ | refine thenL_n ?_ | refine thenL_r ?_ | refine thenL_e ?_ | refine WC.region ?_ | refine WO.nil ?_ | refine WC.skip ?_ | refine WC.ret ?_ | refine WO.asg rfl ?_ | refine WO.mv rfl ?_ | refine WC.block ?_ | refine WC.exit ?_ | refine blockL_s ?_ | refine blockL_r ?_ | refine blockL_n ?_ | refine blockL_e rfl ?_)
      refine WOG.nil ?_
      repeat (first | refine WC.seq ?_ | refine thenL_n ?_ | refine thenL_r ?_ | refine thenL_e ?_ | refine WC.region ?_ | refine WO.nil ?_ | refine WC.skip ?_ | refine WC.ret ?_ | refine WO.asg rfl ?_ | refine WO.mv rfl ?_ | refine WC.block ?_ | refine WC.exit ?_ | refine blockL_s ?_ | refine blockL_r ?_ | refine blockL_n ?_ | refine blockL_e rfl ?_)
      refine WO.ldc rfl E.ty135 (by decide) hS2.g1 rfl ?_
      repeat (first | refine WC.seq ?_ | refine thenL_n ?_ | refine thenL_r ?_ | refine thenL_e ?_ | refine WC.region ?_ | refine WO.nil ?_ | refine WC.skip ?_ | refine WC.ret ?_ | refine WO.asg rfl ?_ | refine WO.mv rfl ?_ | refine WC.block ?_ | refine WC.exit ?_ | refine blockL_s ?_ | refine blockL_r ?_ | refine blockL_n ?_ | refine blockL_e rfl ?_)
      refine WO.do rfl rfl ?_
      repeat (first | refine WC.seq ?_ | refine thenL_n ?_ | refine thenL_r ?_ | refine thenL_e ?_ | refine WC.region ?_ | refine WO.nil ?_ | refine WC.skip ?_ | refine WC.ret ?_ | refine WO.asg rfl ?_ | refine WO.mv rfl ?_ | refine WC.block ?_ | refine WC.exit ?_ | refine blockL_s ?_ | refine blockL_r ?_ | refine blockL_n ?_ | refine blockL_e rfl ?_)
      obtain ⟨ents3, e3, g3⟩ := putR_flat (y := my) (ents := ents2) (kc := [.int .i64 a, .int .i64 k]) (fun e he => by obtain ⟨_, _, rfl⟩ := hS2.gd e he; rfl) (.int .i64 (cntI a k))
      refine WO.upM rfl rfl rfl E.mt135 hkey hS2.g3 hS2.fb ?_
      repeat (first | refine WC.seq ?_ | refine thenL_n ?_ | refine thenL_r ?_ | refine thenL_e ?_ | refine WC.region ?_ | refine WO.nil ?_ | refine WC.skip ?_ | refine WC.ret ?_ | refine WO.asg rfl ?_ | refine WO.mv rfl ?_ | refine WC.block ?_ | refine WC.exit ?_ | refine blockL_s ?_ | refine blockL_r ?_ | refine blockL_n ?_ | refine blockL_e rfl ?_)
      refine ⟨.inr rfl, _, _, rfl, rfl, rfl, by omega, ⟨ents3, hS2.l1, hS2.l2, hS2.l3, hS2.n1, hS2.n2, hS2.fb, ?_, ?_, ?_, fun e he => ?_⟩, fun i hi hb => ?_⟩
      · rw [Tr.get_set_ne _ _ hS2.n1]; exact hS2.g1
      · rw [Tr.get_set_ne _ _ hS2.n2]; exact hS2.g2
      · rw [Tr.get_set_same, e3]
      · rcases g3 e he with h | rfl
        · exact hS2.gd e h
        · exact ⟨a, k, rfl⟩
      · rw [Tr.get_set_ne _ _ hb, hk2 i (by omega) hb, hk1 i hi hb]
theorem F40.fn : E.fn 40 = some ⟨13, (Try.f40.body.getD .skip), Try.f40.results.toList, []⟩ := rfl
theorem F40_ok {F : Nat} {m : Mem} {n : Nat} {r : Int} {t0 : Int} {t1 : Int} (h : F40 F t0 t1 = some r) : Ret E n 40 [.sc (.int .i64 t0), .sc (.int .i64 t1)] m n (fun v m' n' => v = .sc (.int .i64 r)) := by
  unfold F40 at h
  split at h
  rotate_left
  · cases h
  rename_i hq
  simp only [Bool.and_eq_true, decide_eq_true_eq] at hq
  obtain ⟨⟨⟨h1, h2⟩, h3⟩, h4⟩ := hq
  obtain rfl := someI h
  refine Ret.walk F40.fn ?_
  repeat (first | refine WC.seq ?_ | refine thenL_n ?_ | refine thenL_r ?_ | refine thenL_e ?_ | refine WC.region ?_ | refine WO.nil ?_ | refine WC.skip ?_ | refine WC.ret ?_ | refine WO.asg rfl ?_ | refine WO.mv rfl ?_ | refine WC.block ?_ | refine WC.exit ?_ | refine blockL_s ?_ | refine blockL_r ?_ | refine blockL_n ?_ | refine blockL_e rfl ?_)
  refine WO.mkM E.mt135 ?_
  refine WO.do rfl rfl ?_
  refine WO.stc rfl rfl E.ty135 rfl (Tr.get_set_same _ _ _) (by omega) ?_
  repeat (first | refine WC.seq ?_ | refine thenL_n ?_ | refine thenL_r ?_ | refine thenL_e ?_ | refine WC.region ?_ | refine WO.nil ?_ | refine WC.skip ?_ | refine WC.ret ?_ | refine WO.asg rfl ?_ | refine WO.mv rfl ?_ | refine WC.block ?_ | refine WC.exit ?_ | refine blockL_s ?_ | refine blockL_r ?_ | refine blockL_n ?_ | refine blockL_e rfl ?_)
  refine WO.do rfl rfl ?_
  repeat (first | refine WC.seq ?_ | refine thenL_n ?_ | refine thenL_r ?_ | refine thenL_e ?_ | refine WC.region ?_ | refine WO.nil ?_ | refine WC.skip ?_ | refine WC.ret ?_ | refine WO.asg rfl ?_ | refine WO.mv rfl ?_ | refine WC.block ?_ | refine WC.exit ?_ | refine blockL_s ?_ | refine blockL_r ?_ | refine blockL_n ?_ | refine blockL_e rfl ?_)
  refine WO.do rfl rfl ?_
  refine WO.stc rfl rfl E.ty64 rfl (Tr.get_set_same _ _ _) (by omega) ?_
  repeat (first | refine WC.seq ?_ | refine thenL_n ?_ | refine thenL_r ?_ | refine thenL_e ?_ | refine WC.region ?_ | refine WO.nil ?_ | refine WC.skip ?_ | refine WC.ret ?_ | refine WO.asg rfl ?_ | refine WO.mv rfl ?_ | refine WC.block ?_ | refine WC.exit ?_ | refine blockL_s ?_ | refine blockL_r ?_ | refine blockL_n ?_ | refine blockL_e rfl ?_)
  refine WO.ldc rfl E.ty64 (by decide) (Tr.get_set_same _ _ _) rfl ?_
  repeat (first | refine WC.seq ?_ | refine thenL_n ?_ | refine thenL_r ?_ | refine thenL_e ?_ | refine WC.region ?_ | refine WO.nil ?_ | refine WC.skip ?_ | refine WC.ret ?_ | refine WO.asg rfl ?_ | refine WO.mv rfl ?_ | refine WC.block ?_ | refine WC.exit ?_ | refine blockL_s ?_ | refine blockL_r ?_ | refine blockL_n ?_ | refine blockL_e rfl ?_)
  refine WO.call rfl rfl ?_
  have := F113_ok (t0.toNat + t1.toNat + 1) t0 t1.toNat (fl := n) (n := n + 1 + 1 + 1) (c1 := n + 1) (c2 := n + 1 + 1) (b := n) (ents := []) (by omega) ⟨h1, h2⟩ (by omega)
    (m := ((((m.set n [mhd my]).set (n + 1) [.undef]).set (n + 1) [.mp n]).set (n + 1 + 1) [.nilf]).set (n + 1 + 1) [.fn 113 [(n + 1, 0), (n + 1 + 1, 0)]])
    ⟨by omega, by omega, by omega, by omega, by omega, Nat.le_refl _, by simp [Tr.get_set], by simp [Tr.get_set], by rw [Tr.get_set_ne _ _ (by omega), Tr.get_set_ne _ _ (by omega), Tr.get_set_ne _ _ (by omega), Tr.get_set_ne _ _ (by omega), Tr.get_set_same]; rfl, fun e he => by simp at he⟩
  rw [show ((t1.toNat : Nat) : Int) = t1 from by omega] at this
  refine Ret.mono this ?_
  rintro _ m1 n1 ⟨rfl, _, _⟩
  repeat (first | refine WC.seq ?_ | refine thenL_n ?_ | refine thenL_r ?_ | refine thenL_e ?_ | refine WC.region ?_ | refine WO.nil ?_ | refine WC.skip ?_ | refine WC.ret ?_ | refine WO.asg rfl ?_ | refine WO.mv rfl ?_ | refine WC.block ?_ | refine WC.exit ?_ | refine blockL_s ?_ | refine blockL_r ?_ | refine blockL_n ?_ | refine blockL_e rfl ?_)
  exact ⟨.inr rfl, _, _, rfl, rfl, rfl⟩
end Go.Proofs.Ytihmliblbhjlaaa

namespace Go.Proofs.Ytihmliblbhjlaaa
open Go.Am
theorem F41.fn : E.fn 41 = some ⟨38, (Try.f41.body.getD .skip), Try.f41.results.toList, []⟩ := rfl
theorem F41_ok {F : Nat} {m : Mem} {n : Nat} {r : Int} {t0 : List Int} {vt0 : SV} (h : F41 F t0 = some r) (kt0 : Vw Y3 n m vt0 t0) : Ret E n 41 [.sc vt0] m n (fun v m' n' => v = .sc (.int .i64 r)) := by
  unfold F41 at h
  refine Ret.walk F41.fn ?_
  refine WC.start fun S0 em en hz => ?_
  have hot0 := kt0.rdS em hz
  refine WC.seq (WC.region (WO.asg rfl (WO.nil (thenL_n (WC.seq (WC.region (WO.asg rfl (WO.nil (thenL_n ?_)))))))))
  refine WC.seq (WC.seq (WC.region (WO.mv rfl ?_)))
  refine WO.lenS rfl hot0.slv rfl ?_
  refine WO.mv rfl (WO.nil (thenL_n (WC.block ?_)))
  obtain ⟨b20, e21, h⟩ := bindS h
  refine WC.loopD e21 (fun s1 l' m' n' => ∃ S2 : Cx n, S2.m = m' ∧ S2.n = n' ∧ Cov l' [(0, .sc vt0), (3, .sc (.int .i64 s1.1)), (6, .sc vt0), (7, .sc (.int .i64 ((t0.length : Int)))), (8, .sc (.int .i64 s1.2))] ∧ Rd Y3 S2 vt0 t0) (fun b e l' m' n' => (match b with | .inl b3 => e = .exit 0 ∧ ∃ S4 : Cx n, S4.m = m' ∧ S4.n = n' ∧ Cov l' [] | .inr b3 => e = .ret ∧ ∃ S5 : Cx n, S5.m = m' ∧ S5.n = n' ∧ Cov l' [(2, .sc (.int .i64 b3))])) (by exact ⟨S0, rfl, rfl, (Cov.cons rfl (Cov.cons rfl (Cov.cons rfl (Cov.cons rfl (Cov.cons rfl (Cov.nil _)))))), hot0⟩) ?_ ?_
  · clear h
    rintro s1 q _ _ _ ⟨S6, rfl, rfl, hc7, hot0⟩ h
    unfold F41_l0 at h
    refine WC.cov hc7 (WC.seq (WC.region ?_))
    refine WO.bin rfl rfl (by decide) (by decide) rfl ?_
    refine WO.nil (thenL_n (WC.seq ?_))
    refine WC.cond rfl (fun q8 => ?_) (fun q8 => ?_)
    · have h := iteT q8 h
      refine WC.skip (thenL_n (WC.seq (WC.block (WC.seq (WC.region (WO.mv rfl ?_))))))
      obtain ⟨x9, e10, h⟩ := bindS h
      refine WO.ixS rfl rfl hot0.slv (at?_lt e10) rfl ?_
      refine WO.ldF rfl hot0.ro (fun _ hi => hi) (at?_get e10) rfl rfl rfl ?_
      refine WO.asg rfl (WO.asg rfl (WO.nil (thenL_n (WC.seq (WC.block (WC.seq (WC.region (WO.mv rfl ?_))))))))
      refine WO.bin rfl rfl (by decide) (by decide) rfl ?_
      refine WO.mv rfl ?_
      refine WO.cutB (d := 19) 3 ((decide (x9 < 1)) || (decide (x9 > 40))) (fun q11 => ?_) (fun q11 => ?_) ?_
      · refine WO.gno rfl rfl (WO.gno rfl rfl ?_)
        refine WO.pickT rfl rfl ?_
        refine WO.nil ?_
        exact ⟨rfl, rfl, (Cov.any rfl (orT q11) (Cov.skip rfl (Cov.skip rfl (Cov.skip rfl (Cov.skip rfl (Cov.refl _))))))⟩
      · skip
        refine WO.gyes rfl rfl (WO.mv rfl (WO.gyes rfl rfl ?_))
        refine WO.bin rfl rfl (by decide) (by decide) rfl ?_
        refine WO.pickF rfl rfl ?_
        refine WO.nil ?_
        exact ⟨rfl, rfl, (Cov.any rfl (orF q11) (Cov.skip rfl (Cov.skip rfl (Cov.skip rfl (Cov.skip rfl (Cov.refl _))))))⟩
      refine WO.asg rfl (WO.nil (thenL_n ?_))
      refine WC.cond rfl (fun q12 => ?_) (fun q12 => ?_)
      · have h := iteT q12 h
        refine WC.seq (WC.region (WO.asg rfl (WO.nil (thenL_n (WC.ret (blockL_r (thenL_r (blockL_r (thenL_r ?_)))))))))
        refine thenL_r ?_
        obtain rfl := someI h
        exact ⟨_, rfl, rfl, ⟨S6, rfl, rfl, (Cov.cons rfl (Cov.nil _))⟩⟩
      · have h := iteF q12 h
        refine WC.seq (WC.region (WO.mv rfl ?_))
        refine WO.bin rfl rfl (by decide) (by decide) rfl ?_
        refine WO.mv rfl ?_
        obtain ⟨y16, e17, h⟩ := bindS h
        refine WO.cutB (d := 31) 8 y16 (fun q15 => ?_) (fun q15 => ?_) ?_
        · have h := e17
          have h := iteT q15 h
          refine WO.gyes rfl rfl (WO.mv rfl (WO.gyes rfl rfl (WO.mv rfl (WO.gyes rfl rfl ?_))))
          refine WO.bin rfl rfl (by decide) (by decide) rfl ?_
          refine WO.gyes rfl rfl ?_
          obtain ⟨x13, e14, h⟩ := bindS h
          refine WO.ixS rfl rfl hot0.slv (at?_lt e14) rfl ?_
          refine WO.gyes rfl rfl ?_
          refine WO.ldF rfl hot0.ro (fun _ hi => hi) (at?_get e14) rfl rfl rfl ?_
          refine WO.gyes rfl rfl (WO.mv rfl (WO.gyes rfl rfl ?_))
          refine WO.bin rfl rfl (by decide) (by decide) rfl ?_
          obtain rfl := someI h
          refine WO.pickT rfl rfl ?_
          refine WO.nil ?_
          exact ⟨rfl, rfl, (Cov.cons rfl (Cov.skip rfl (Cov.skip rfl (Cov.skip rfl (Cov.skip rfl (Cov.skip rfl (Cov.skip rfl (Cov.skip rfl (Cov.skip rfl (Cov.skip rfl (Cov.refl _)))))))))))⟩
        · have h := e17
          have h := iteF q15 h
          obtain rfl := someI h
          refine WO.gno rfl rfl (WO.gno rfl rfl (WO.gno rfl rfl (WO.gno rfl rfl (WO.gno rfl rfl (WO.gno rfl rfl (WO.gno rfl rfl ?_))))))
          refine WO.pickF rfl rfl ?_
          refine WO.nil ?_
          exact ⟨rfl, rfl, (Cov.cons rfl (Cov.skip rfl (Cov.skip rfl (Cov.skip rfl (Cov.skip rfl (Cov.skip rfl (Cov.skip rfl (Cov.skip rfl (Cov.skip rfl (Cov.skip rfl (Cov.refl _)))))))))))⟩
        refine WO.asg rfl (WO.nil (thenL_n ?_))
        refine WC.cond rfl (fun q18 => ?_) (fun q18 => ?_)
        · have h := iteT q18 h
          refine WC.seq (WC.region (WO.asg rfl (WO.nil (thenL_n (WC.ret (blockL_r (thenL_r (blockL_r (thenL_r ?_)))))))))
          refine thenL_r ?_
          obtain rfl := someI h
          exact ⟨_, rfl, rfl, ⟨S6, rfl, rfl, (Cov.cons rfl (Cov.nil _))⟩⟩
        · have h := iteF q18 h
          refine WC.skip (blockL_n (thenL_n (WC.seq (WC.region (WO.mv rfl (WO.mv rfl ?_))))))
          refine WO.bin rfl rfl (by decide) (by decide) rfl ?_
          refine WO.asg rfl (WO.nil (thenL_n (WC.seq (WC.region (WO.mv rfl ?_)))))
          refine WO.bin rfl rfl (by decide) (by decide) rfl ?_
          refine WO.nil (thenL_n ?_)
          refine WC.cond rfl (fun q19 => ?_) (fun q19 => ?_)
          · have h := iteT q19 h
            refine WC.seq (WC.region (WO.asg rfl (WO.nil (thenL_n (WC.ret (blockL_r (thenL_r (thenL_r ?_))))))))
            obtain rfl := someI h
            exact ⟨_, rfl, rfl, ⟨S6, rfl, rfl, (Cov.cons rfl (Cov.nil _))⟩⟩
          · have h := iteF q19 h
            refine WC.skip (blockL_n (thenL_n (WC.region ?_)))
            refine WO.bin rfl rfl (by decide) (by decide) rfl ?_
            refine WO.mv rfl (WO.nil (thenL_n ?_))
            obtain rfl := someI h
            exact ⟨_, rfl, ⟨S6, rfl, rfl, (Cov.cons rfl (Cov.cons rfl (Cov.cons rfl (Cov.cons rfl (Cov.cons rfl (Cov.nil _)))))), hot0⟩⟩
    · have h := iteF q8 h
      refine WC.exit (thenL_e (thenL_e ?_))
      obtain rfl := someI h
      exact ⟨_, rfl, rfl, ⟨S6, rfl, rfl, (Cov.nil _)⟩⟩
  cases b20 with
  | inl b22 =>
    simp only at h
    rintro _ _ _ _ ⟨rfl, ⟨S23, rfl, rfl, hc24⟩⟩
    refine blockL_s (thenL_n (WC.cov hc24 (WC.seq (WC.region (WO.asg rfl (WO.nil (thenL_n (WC.ret ?_))))))))
    obtain rfl := someI h
    exact ⟨.inr rfl, _, _, rfl, rfl, rfl⟩
  | inr b22 =>
    simp only at h
    rintro _ _ _ _ ⟨rfl, ⟨S25, rfl, rfl, hc26⟩⟩
    refine blockL_r (thenL_r ?_)
    obtain rfl := someI h
    exact ⟨.inr rfl, _, _, (resK_cov hc26 rfl), rfl, rfl⟩
end Go.Proofs.Ytihmliblbhjlaaa

namespace Go.Proofs.Ytihmliblbhjlaaa
open Go.Am
theorem F43.fn : E.fn 43 = some ⟨29, (Try.f43.body.getD .skip), Try.f43.results.toList, []⟩ := rfl
theorem F43_ok {F : Nat} {m : Mem} {n : Nat} {r : (List Int)} {t0 : List Int} {vt0 : SV} (h : F43 F t0 = some r) (kt0 : Vw Y3 n m vt0 t0) : Ret E n 43 [.sc vt0] m n (fun v m' n' => ∃ w, v = .sc w ∧ Fr Y3 n m' n' w r) := by
  unfold F43 at h
  refine Ret.walk F43.fn ?_
  refine WC.start fun S0 em en hz => ?_
  have hot0 := kt0.rdS em hz
  refine WC.seq (WC.region (WO.asg rfl (WO.nil (thenL_n (WC.seq (WC.region (WO.asg rfl (WO.nil (thenL_n ?_)))))))))
  refine WC.seq (WC.region (WO.asg rfl (WO.nil (thenL_n (WC.block ?_)))))
  obtain ⟨b34, e35, h⟩ := bindS h
  refine WC.loopD e35 (fun s1 l' m' n' => ∃ S3 : Cx n, ∃ v4 : SV, S3.m = m' ∧ S3.n = n' ∧ Cov l' [(0, .sc vt0), (3, .sc v4), (4, .sc (.int .i64 s1.2))] ∧ Rd Y3 S3 vt0 t0 ∧ Ow Y3 S3 2 v4 s1.1) (fun b e l' m' n' => e = .ret ∧ ∃ S5 : Cx n, ∃ v6 : SV, S5.m = m' ∧ S5.n = n' ∧ Cov l' [(2, .sc v6)] ∧ Ow Y3 S5 3 v6 b) (by exact ⟨S0, .nils, rfl, rfl, (Cov.cons rfl (Cov.cons rfl (Cov.cons rfl (Cov.nil _)))), hot0, Ow.nil⟩) ?_ ?_
  · clear h
    rintro s1 q _ _ _ ⟨S7, v8, rfl, rfl, hc9, hot0, ho3⟩ h
    unfold F43_l1 at h
    refine WC.cov hc9 (WC.seq (WC.block (WC.seq (WC.region (WO.asg rfl (WO.nil (thenL_n (WC.seq (WC.seq ?_)))))))))
    refine WC.region (WO.mv rfl ?_)
    refine WO.lenS rfl hot0.slv rfl ?_
    refine WO.mv rfl (WO.nil (thenL_n (WC.block ?_)))
    obtain ⟨b19, e20, h⟩ := bindS h
    refine WC.loopD e20 (fun s10 l' m' n' => ∃ S11 : Cx n, S11.m = m' ∧ S11.n = n' ∧ Cov l' [(0, .sc vt0), (3, .sc v8), (4, .sc (.int .i64 s1.2)), (5, .sc (.int .i64 s10.1)), (10, .sc vt0), (11, .sc (.int .i64 ((t0.length : Int)))), (12, .sc (.int .i64 s10.2))] ∧ Rd Y3 S11 vt0 t0 ∧ Ow Y3 S11 2 v8 s1.1) (fun b e l' m' n' => e = .exit 2 ∧ ∃ S12 : Cx n, S12.m = m' ∧ S12.n = n' ∧ Cov l' [(0, .sc vt0), (3, .sc v8), (4, .sc (.int .i64 s1.2)), (5, .sc (.int .i64 b))] ∧ Rd Y3 S12 vt0 t0 ∧ Ow Y3 S12 2 v8 s1.1) (by exact ⟨S7, rfl, rfl, (Cov.cons rfl (Cov.cons rfl (Cov.cons rfl (Cov.cons rfl (Cov.cons rfl (Cov.cons rfl (Cov.cons rfl (Cov.nil _)))))))), hot0, ho3⟩) ?_ ?_
    · clear h
      rintro s10 q _ _ _ ⟨S13, rfl, rfl, hc14, hot0, ho3⟩ h
      unfold F43_l0 at h
      refine WC.cov hc14 (WC.seq (WC.region ?_))
      refine WO.bin rfl rfl (by decide) (by decide) rfl ?_
      refine WO.nil (thenL_n (WC.seq ?_))
      refine WC.cond rfl (fun q15 => ?_) (fun q15 => ?_)
      · have h := iteT q15 h
        refine WC.skip (thenL_n (WC.seq (WC.block (WC.seq (WC.region ?_)))))
        obtain ⟨x16, e17, h⟩ := bindS h
        refine WO.ixS rfl rfl hot0.slv (at?_lt e17) rfl ?_
        refine WO.ldF rfl hot0.ro (fun _ hi => hi) (at?_get e17) rfl rfl rfl ?_
        refine WO.asg rfl (WO.nil (thenL_n (WC.seq (WC.region (WO.mv rfl (WO.mv rfl ?_))))))
        refine WO.bin rfl rfl (by decide) (by decide) rfl ?_
        refine WO.nil (thenL_n ?_)
        refine WC.cond rfl (fun q18 => ?_) (fun q18 => ?_)
        · have h := iteT q18 h
          refine WC.region (WO.mv rfl ?_)
          refine WO.bin rfl rfl (by decide) (by decide) rfl ?_
          refine WO.asg rfl (WO.nil (blockL_n (thenL_n (WC.region ?_))))
          refine WO.bin rfl rfl (by decide) (by decide) rfl ?_
          refine WO.mv rfl (WO.nil (thenL_n ?_))
          obtain rfl := someI h
          exact ⟨_, rfl, ⟨S13, rfl, rfl, (Cov.cons rfl (Cov.cons rfl (Cov.cons rfl (Cov.cons rfl (Cov.cons rfl (Cov.cons rfl (Cov.cons rfl (Cov.nil _)))))))), hot0, ho3⟩⟩
        · have h := iteF q18 h
          refine WC.skip (blockL_n (thenL_n (WC.region ?_)))
          refine WO.bin rfl rfl (by decide) (by decide) rfl ?_
          refine WO.mv rfl (WO.nil (thenL_n ?_))
          obtain rfl := someI h
          exact ⟨_, rfl, ⟨S13, rfl, rfl, (Cov.cons rfl (Cov.cons rfl (Cov.cons rfl (Cov.cons rfl (Cov.cons rfl (Cov.cons rfl (Cov.cons rfl (Cov.nil _)))))))), hot0, ho3⟩⟩
      · have h := iteF q15 h
        refine WC.exit (thenL_e (thenL_e ?_))
        obtain rfl := someI h
        exact ⟨_, rfl, rfl, ⟨S13, rfl, rfl, (Cov.cons rfl (Cov.cons rfl (Cov.cons rfl (Cov.cons rfl (Cov.nil _))))), hot0, ho3⟩⟩
    rintro _ _ _ _ ⟨rfl, ⟨S21, rfl, rfl, hc22, hot0, ho3⟩⟩
    refine blockL_s (thenL_n (WC.cov hc22 (WC.seq (WC.seq (WC.region (WO.mv rfl ?_))))))
    refine WO.bin rfl rfl (by decide) (by decide) rfl ?_
    refine WO.nil (thenL_n ?_)
    refine WC.cond rfl (fun q23 => ?_) (fun q23 => ?_)
    · have h := iteT q23 h
      refine WC.seq (WC.region (WO.mv rfl (WO.asg rfl (WO.nil (thenL_n (WC.ret (thenL_r (blockL_r (thenL_r ?_)))))))))
      refine thenL_r ?_
      have ho3 := ho3.ren (j := 3)
      obtain rfl := someI h
      exact ⟨_, rfl, rfl, ⟨(S21.ren 2 3), v8, rfl, rfl, (Cov.cons rfl (Cov.nil _)), ho3⟩⟩
    · have h := iteF q23 h
      refine WC.skip (thenL_n (WC.region (WO.mv rfl (WO.mv rfl ?_))))
      refine WO.bsS (A := Y3) (S := S21) (M := [b19]) (cs := [.int .i64 b19]) 4 rfl rfl rfl ⟨[.int .i64 b19], _, rfl, rfl, rfl⟩ rfl (fun v24 S25 c26 ho27 => ?_)
      have hot0 := hot0.to c26
      have ho3 := ho3.to c26
      obtain ⟨L28, e29, h⟩ := bindS h
      refine WO.appS rfl rfl ho3 ho27.ro e29 rfl rfl (fun v30 S31 c32 ho33 => ?_)
      have hot0 := hot0.to c32
      have ho27 := ho27.to c32
      refine WO.asg rfl (WO.nil (blockL_n (thenL_n (WC.region (WO.mv rfl ?_)))))
      refine WO.bin rfl rfl (by decide) (by decide) rfl ?_
      refine WO.asg rfl (WO.nil (thenL_n ?_))
      obtain rfl := someI h
      exact ⟨_, rfl, ⟨S31, v30, rfl, rfl, (Cov.cons rfl (Cov.cons rfl (Cov.cons rfl (Cov.nil _)))), hot0, ho33⟩⟩
  rintro _ _ _ _ ⟨rfl, ⟨S36, v37, rfl, rfl, hc38, ho2⟩⟩
  refine blockL_r ?_
  obtain rfl := someI h
  exact ⟨.inr rfl, _, _, (resK_cov hc38 rfl), rfl, ⟨v37, rfl, (ho2.fr Lay.flat_fl)⟩⟩
end Go.Proofs.Ytihmliblbhjlaaa

namespace Go.Proofs.Ytihmliblbhjlaaa
open Go.Am
theorem F44.fn : E.fn 44 = some ⟨61, (Try.f44.body.getD .skip), Try.f44.results.toList, []⟩ := rfl
theorem F44_ok {F : Nat} {fl : Nat} {S0 : Cx fl} {r : (List Int)} {t0 : (List Int)} {vt0 : SV} (h : F44 F t0 = some r) (kt0 : Ow Y3 S0 2 vt0 t0) : Ret E fl 44 [.sc vt0] S0.m S0.n (fun v m' n' => ∃ S' : Cx fl, S'.m = m' ∧ S'.n = n' ∧ ChM S0 S' ∧ (∃ w1 : SV, v = .sc w1 ∧ Ow Y3 S' 902 w1 r)) := by
  unfold F44 at h
  replace h : compF? (fun x p => some (x == p)) t0 = some r ∧ t0.length ≤ 1152921504606846976 := by split at h; exact ⟨h, by assumption⟩; cases h
  obtain ⟨h, hbd⟩ := h
  have hM := ChM.refl S0
  refine Ret.walk F44.fn ?_
  repeat (first | refine WC.seq ?_ | refine thenL_n ?_ | refine thenL_r ?_ | refine thenL_e ?_ | refine WC.region ?_ | refine WO.nil ?_ | refine WC.skip ?_ | refine WC.ret ?_ | refine WO.asg rfl ?_ | refine WO.mv rfl ?_ | refine WC.block ?_ | refine WC.exit ?_ | refine blockL_s ?_ | refine blockL_r ?_ | refine blockL_n ?_ | refine blockL_e rfl ?_)
  refine WO.lenS rfl kt0.slv rfl ?_
  refine WO.bin rfl rfl (by decide) (by decide) rfl ?_
  repeat (first | refine WC.seq ?_ | refine thenL_n ?_ | refine thenL_r ?_ | refine thenL_e ?_ | refine WC.region ?_ | refine WO.nil ?_ | refine WC.skip ?_ | refine WC.ret ?_ | refine WO.asg rfl ?_ | refine WO.mv rfl ?_ | refine WC.block ?_ | refine WC.exit ?_ | refine blockL_s ?_ | refine blockL_r ?_ | refine blockL_n ?_ | refine blockL_e rfl ?_)
  refine WC.cond rfl (fun q => ?_) (fun q => ?_)
  · repeat (first | refine WC.seq ?_ | refine thenL_n ?_ | refine thenL_r ?_ | refine thenL_e ?_ | refine WC.region ?_ | refine WO.nil ?_ | refine WC.skip ?_ | refine WC.ret ?_ | refine WO.asg rfl ?_ | refine WO.mv rfl ?_ | refine WC.block ?_ | refine WC.exit ?_ | refine blockL_s ?_ | refine blockL_r ?_ | refine blockL_n ?_ | refine blockL_e rfl ?_)
    have e := compF?_short h (by have := of_decide_eq_true q; omega)
    subst e
    exact ⟨.inr rfl, _, _, rfl, rfl, S0.ren 2 902, rfl, rfl, hM.renO 2 902, _, rfl, kt0.ren 902⟩
  · have hlen : 2 ≤ t0.length := by have := of_decide_eq_false q; omega
    obtain ⟨_, hD⟩ := DD.start h (by omega)
    obtain ⟨b, c, e, hc, hfl⟩ := kt0.hdr (by omega)
    subst e
    repeat (first | refine WC.seq ?_ | refine thenL_n ?_ | refine thenL_r ?_ | refine thenL_e ?_ | refine WC.region ?_ | refine WO.nil ?_ | refine WC.skip ?_ | refine WC.ret ?_ | refine WO.asg rfl ?_ | refine WO.mv rfl ?_ | refine WC.block ?_ | refine WC.exit ?_ | refine blockL_s ?_ | refine blockL_r ?_ | refine blockL_n ?_ | refine blockL_e rfl ?_)
    refine WC.loop (ι := Nat) (fun k => [(0, .sc (.sl b 0 t0.length c 1)), (3, .sc (.int .i64 (k : Int)))]) (fun k m n => ∃ S : Cx fl, S.m = m ∧ S.n = n ∧ ChM S0 S ∧ Ow Y3 S 2 (.sl b 0 t0.length c 1) t0 ∧ 1 ≤ k ∧ k ≤ t0.length ∧ DD (fun x p => some (x == p)) t0 r t0 k k) (fun k => t0.length - k) 1 (Cov.cons rfl (Cov.cons rfl (Cov.nil _))) ⟨S0, rfl, rfl, hM, kt0, by omega, by omega, hD⟩ ?_
    rintro k _ _ ⟨S, rfl, rfl, hM, kt, hk1, hk2, hD⟩ _
    repeat (first | refine WC.seq ?_ | refine thenL_n ?_ | refine thenL_r ?_ | refine thenL_e ?_ | refine WC.region ?_ | refine WO.nil ?_ | refine WC.skip ?_ | refine WC.ret ?_ | refine WO.asg rfl ?_ | refine WO.mv rfl ?_ | refine WC.block ?_ | refine WC.exit ?_ | refine blockL_s ?_ | refine blockL_r ?_ | refine blockL_n ?_ | refine blockL_e rfl ?_)
    refine WO.lenS rfl kt.slv rfl ?_
    refine WO.bin rfl rfl (by decide) (by decide) rfl ?_
    repeat (first | refine WC.seq ?_ | refine thenL_n ?_ | refine thenL_r ?_ | refine thenL_e ?_ | refine WC.region ?_ | refine WO.nil ?_ | refine WC.skip ?_ | refine WC.ret ?_ | refine WO.asg rfl ?_ | refine WO.mv rfl ?_ | refine WC.block ?_ | refine WC.exit ?_ | refine blockL_s ?_ | refine blockL_r ?_ | refine blockL_n ?_ | refine blockL_e rfl ?_)
    refine WC.cond rfl (fun q => ?_) (fun q => ?_)
    · have hk : k < t0.length := by have := of_decide_eq_true q; omega
      obtain ⟨x, p, q2, hx, hp, e4, hT, hF⟩ := hD.step hk
      repeat (first | refine WC.seq ?_ | refine thenL_n ?_ | refine thenL_r ?_ | refine thenL_e ?_ | refine WC.region ?_ | refine WO.nil ?_ | refine WC.skip ?_ | refine WC.ret ?_ | refine WO.asg rfl ?_ | refine WO.mv rfl ?_ | refine WC.block ?_ | refine WC.exit ?_ | refine blockL_s ?_ | refine blockL_r ?_ | refine blockL_n ?_ | refine blockL_e rfl ?_)
      refine WC.drawP rfl rfl ?_
      repeat (first | refine WC.seq ?_ | refine thenL_n ?_ | refine thenL_r ?_ | refine thenL_e ?_ | refine WC.region ?_ | refine WO.nil ?_ | refine WC.skip ?_ | refine WC.ret ?_ | refine WO.asg rfl ?_ | refine WO.mv rfl ?_ | refine WC.block ?_ | refine WC.exit ?_ | refine blockL_s ?_ | refine blockL_r ?_ | refine blockL_n ?_ | refine blockL_e rfl ?_)
      refine WO.ixK rfl rfl (by omega) (by omega) rfl ?_
      rw [Nat.zero_add]
      refine WO.ldK rfl rfl kt hx rfl rfl (fun s1 r1 => ?_)
      repeat (first | refine WC.seq ?_ | refine thenL_n ?_ | refine thenL_r ?_ | refine thenL_e ?_ | refine WC.region ?_ | refine WO.nil ?_ | refine WC.skip ?_ | refine WC.ret ?_ | refine WO.asg rfl ?_ | refine WO.mv rfl ?_ | refine WC.block ?_ | refine WC.exit ?_ | refine blockL_s ?_ | refine blockL_r ?_ | refine blockL_n ?_ | refine blockL_e rfl ?_)
      refine WO.bin rfl rfl (by decide) (by decide) rfl ?_
      rw [wrapA_pred (by omega) (by omega)]
      refine WO.ixK rfl rfl (by omega) (by omega) rfl ?_
      rw [Nat.zero_add]
      refine WO.ldK rfl rfl kt hp rfl rfl (fun s2 r2 => ?_)
      obtain rfl := List.singleton_inj.1 r1
      obtain rfl := List.singleton_inj.1 r2
      cases e4
      refine WO.bin rfl rfl (by decide) (by decide) rfl ?_
      have c1 := Ch.refl 1 S
      repeat (first | refine WC.seq ?_ | refine thenL_n ?_ | refine thenL_r ?_ | refine thenL_e ?_ | refine WC.region ?_ | refine WO.nil ?_ | refine WC.skip ?_ | refine WC.ret ?_ | refine WO.asg rfl ?_ | refine WO.mv rfl ?_ | refine WC.block ?_ | refine WC.exit ?_ | refine blockL_s ?_ | refine blockL_r ?_ | refine blockL_n ?_ | refine blockL_e rfl ?_)
      refine WC.cond rfl (fun q => ?_) (fun q => ?_)
      · have hD := hT q
        repeat (first | refine WC.seq ?_ | refine thenL_n ?_ | refine thenL_r ?_ | refine thenL_e ?_ | refine WC.region ?_ | refine WO.nil ?_ | refine WC.skip ?_ | refine WC.ret ?_ | refine WO.asg rfl ?_ | refine WO.mv rfl ?_ | refine WC.block ?_ | refine WC.exit ?_ | refine blockL_s ?_ | refine blockL_r ?_ | refine blockL_n ?_ | refine blockL_e rfl ?_)
        refine WO.slK rfl rfl (by omega) (by omega) rfl ?_
        repeat (first | refine WC.seq ?_ | refine thenL_n ?_ | refine thenL_r ?_ | refine thenL_e ?_ | refine WC.region ?_ | refine WO.nil ?_ | refine WC.skip ?_ | refine WC.ret ?_ | refine WO.asg rfl ?_ | refine WO.mv rfl ?_ | refine WC.block ?_ | refine WC.exit ?_ | refine blockL_s ?_ | refine blockL_r ?_ | refine blockL_n ?_ | refine blockL_e rfl ?_)
        refine WC.loop (ι := Nat × Nat × (List Int)) (fun z => [(0, .sc (.sl b 0 t0.length c 1)), (3, .sc (.int .i64 (z.1 : Int))), (4, .sc (.sl b k (t0.length - k) (c - k) 1)), (5, .sc (.int .i64 (z.2.1 : Int)))]) (fun z m n => ∃ S : Cx fl, S.m = m ∧ S.n = n ∧ ChM S0 S ∧ Ow Y3 S 2 (.sl b 0 t0.length c 1) z.2.2 ∧ z.2.2.length = t0.length ∧ k + z.2.1 ≤ t0.length ∧ 1 ≤ z.2.1 ∧ 1 ≤ z.1 ∧ z.1 ≤ k + z.2.1 - 1 ∧ (∀ j, k + z.2.1 - 1 ≤ j → z.2.2[j]? = t0[j]?) ∧ DD (fun x p => some (x == p)) t0 r z.2.2 z.1 (k + z.2.1)) (fun z => t0.length - z.2.1) (k, 1, t0) (Cov.cons rfl (Cov.cons rfl (Cov.cons rfl (Cov.cons rfl (Cov.nil _))))) ⟨_, rfl, rfl, hM, kt, rfl, (by omega : k + 1 ≤ _), Nat.le_refl 1, hk1, (by omega : k ≤ k + 1 - 1), fun _ _ => rfl, hD⟩ ?_
        clear hM kt hD hT hF hx hp c1 r1 r2 q
        rintro ⟨k1, i, L⟩ _ _ ⟨S, rfl, rfl, hM, kt, hl, hi1, hi2, hk3, hk4, hsame, hD⟩ _
        dsimp only at kt hl hi1 hi2 hk3 hk4 hsame hD ⊢
        repeat (first | refine WC.seq ?_ | refine thenL_n ?_ | refine thenL_r ?_ | refine thenL_e ?_ | refine WC.region ?_ | refine WO.nil ?_ | refine WC.skip ?_ | refine WC.ret ?_ | refine WO.asg rfl ?_ | refine WO.mv rfl ?_ | refine WC.block ?_ | refine WC.exit ?_ | refine blockL_s ?_ | refine blockL_r ?_ | refine blockL_n ?_ | refine blockL_e rfl ?_)
        refine WO.lenS (sz := 1) (len := t0.length - k) rfl (.inr ⟨_, _, _, rfl, by omega⟩) rfl ?_
        refine WO.bin rfl rfl (by decide) (by decide) rfl ?_
        repeat (first | refine WC.seq ?_ | refine thenL_n ?_ | refine thenL_r ?_ | refine thenL_e ?_ | refine WC.region ?_ | refine WO.nil ?_ | refine WC.skip ?_ | refine WC.ret ?_ | refine WO.asg rfl ?_ | refine WO.mv rfl ?_ | refine WC.block ?_ | refine WC.exit ?_ | refine blockL_s ?_ | refine blockL_r ?_ | refine blockL_n ?_ | refine blockL_e rfl ?_)
        refine WC.cond rfl (fun q => ?_) (fun q => ?_)
        · have hi : k + i < t0.length := by have := of_decide_eq_true q; omega
          obtain ⟨x, p, q2, hx, hp, e4, hT, hF⟩ := hD.step hi
          rw [← hsame _ (by omega)] at hx hp
          rw [Nat.add_sub_assoc hi2] at hp
          repeat (first | refine WC.seq ?_ | refine thenL_n ?_ | refine thenL_r ?_ | refine thenL_e ?_ | refine WC.region ?_ | refine WO.nil ?_ | refine WC.skip ?_ | refine WC.ret ?_ | refine WO.asg rfl ?_ | refine WO.mv rfl ?_ | refine WC.block ?_ | refine WC.exit ?_ | refine blockL_s ?_ | refine blockL_r ?_ | refine blockL_n ?_ | refine blockL_e rfl ?_)
          refine WC.drawP rfl rfl ?_
          repeat (first | refine WC.seq ?_ | refine thenL_n ?_ | refine thenL_r ?_ | refine thenL_e ?_ | refine WC.region ?_ | refine WO.nil ?_ | refine WC.skip ?_ | refine WC.ret ?_ | refine WO.asg rfl ?_ | refine WO.mv rfl ?_ | refine WC.block ?_ | refine WC.exit ?_ | refine blockL_s ?_ | refine blockL_r ?_ | refine blockL_n ?_ | refine blockL_e rfl ?_)
          refine WO.ixK rfl rfl (by omega) (by omega) rfl ?_
          refine WO.ldK rfl rfl kt hx rfl rfl (fun s1 r1 => ?_)
          repeat (first | refine WC.seq ?_ | refine thenL_n ?_ | refine thenL_r ?_ | refine thenL_e ?_ | refine WC.region ?_ | refine WO.nil ?_ | refine WC.skip ?_ | refine WC.ret ?_ | refine WO.asg rfl ?_ | refine WO.mv rfl ?_ | refine WC.block ?_ | refine WC.exit ?_ | refine blockL_s ?_ | refine blockL_r ?_ | refine blockL_n ?_ | refine blockL_e rfl ?_)
          refine WO.bin rfl rfl (by decide) (by decide) rfl ?_
          rw [wrapA_pred (by omega) (by omega)]
          refine WO.ixK rfl rfl (by omega) (by omega) rfl ?_
          refine WO.ldK rfl rfl kt hp rfl rfl (fun s2 r2 => ?_)
          obtain rfl := List.singleton_inj.1 r1
          obtain rfl := List.singleton_inj.1 r2
          cases e4
          refine WO.bin rfl rfl (by decide) (by decide) rfl ?_
          have c1 := Ch.refl 1 S
          repeat (first | refine WC.seq ?_ | refine thenL_n ?_ | refine thenL_r ?_ | refine thenL_e ?_ | refine WC.region ?_ | refine WO.nil ?_ | refine WC.skip ?_ | refine WC.ret ?_ | refine WO.asg rfl ?_ | refine WO.mv rfl ?_ | refine WC.block ?_ | refine WC.exit ?_ | refine blockL_s ?_ | refine blockL_r ?_ | refine blockL_n ?_ | refine blockL_e rfl ?_)
          refine WC.cond rfl (fun q => ?_) (fun q => ?_)
          · have hD := hF (by simpa using q) (by omega)
            repeat (first | refine WC.seq ?_ | refine thenL_n ?_ | refine thenL_r ?_ | refine thenL_e ?_ | refine WC.region ?_ | refine WO.nil ?_ | refine WC.skip ?_ | refine WC.ret ?_ | refine WO.asg rfl ?_ | refine WO.mv rfl ?_ | refine WC.block ?_ | refine WC.exit ?_ | refine blockL_s ?_ | refine blockL_r ?_ | refine blockL_n ?_ | refine blockL_e rfl ?_)
            refine WO.ixK rfl rfl (by omega) (by omega) rfl ?_
            refine WO.ldK rfl rfl kt hx rfl rfl (fun s3 r3 => ?_)
            refine WO.ixK rfl rfl (by omega) (by omega) rfl ?_
            rw [Nat.zero_add]
            refine WO.stK rfl rfl rfl kt (by omega) r3 rfl rfl (fun S3 c3 kt => ?_)
            have hM := hM.to c3
            repeat (first | refine WC.seq ?_ | refine thenL_n ?_ | refine thenL_r ?_ | refine thenL_e ?_ | refine WC.region ?_ | refine WO.nil ?_ | refine WC.skip ?_ | refine WC.ret ?_ | refine WO.asg rfl ?_ | refine WO.mv rfl ?_ | refine WC.block ?_ | refine WC.exit ?_ | refine blockL_s ?_ | refine blockL_r ?_ | refine blockL_n ?_ | refine blockL_e rfl ?_)
            refine WO.bin rfl rfl (by decide) (by decide) rfl ?_
            rw [wrapA_succ (by omega)]
            repeat (first | refine WC.seq ?_ | refine thenL_n ?_ | refine thenL_r ?_ | refine thenL_e ?_ | refine WC.region ?_ | refine WO.nil ?_ | refine WC.skip ?_ | refine WC.ret ?_ | refine WO.asg rfl ?_ | refine WO.mv rfl ?_ | refine WC.block ?_ | refine WC.exit ?_ | refine blockL_s ?_ | refine blockL_r ?_ | refine blockL_n ?_ | refine blockL_e rfl ?_)
            refine WO.bin rfl rfl (by decide) (by decide) rfl ?_
            rw [wrapA_succ (by omega)]
            repeat (first | refine WC.seq ?_ | refine thenL_n ?_ | refine thenL_r ?_ | refine thenL_e ?_ | refine WC.region ?_ | refine WO.nil ?_ | refine WC.skip ?_ | refine WC.ret ?_ | refine WO.asg rfl ?_ | refine WO.mv rfl ?_ | refine WC.block ?_ | refine WC.exit ?_ | refine blockL_s ?_ | refine blockL_r ?_ | refine blockL_n ?_ | refine blockL_e rfl ?_)
            exact ⟨(k1 + 1, i + 1, L.set k1 x), Cov.cons rfl (Cov.cons rfl (Cov.cons rfl (Cov.cons rfl (Cov.nil _)))), ⟨_, rfl, rfl, hM, kt, by simp [hl], by simp only; omega, by simp only; omega, by simp only; omega, by simp only; omega, fun j hj => by simp only at hj ⊢; rw [List.getElem?_set_ne (by omega)]; exact hsame j (by omega), hD⟩, by simp only; omega⟩
          · have hD := hT (by simpa using q)
            repeat (first | refine WC.seq ?_ | refine thenL_n ?_ | refine thenL_r ?_ | refine thenL_e ?_ | refine WC.region ?_ | refine WO.nil ?_ | refine WC.skip ?_ | refine WC.ret ?_ | refine WO.asg rfl ?_ | refine WO.mv rfl ?_ | refine WC.block ?_ | refine WC.exit ?_ | refine blockL_s ?_ | refine blockL_r ?_ | refine blockL_n ?_ | refine blockL_e rfl ?_)
            refine WO.bin rfl rfl (by decide) (by decide) rfl ?_
            rw [wrapA_succ (by omega)]
            repeat (first | refine WC.seq ?_ | refine thenL_n ?_ | refine thenL_r ?_ | refine thenL_e ?_ | refine WC.region ?_ | refine WO.nil ?_ | refine WC.skip ?_ | refine WC.ret ?_ | refine WO.asg rfl ?_ | refine WO.mv rfl ?_ | refine WC.block ?_ | refine WC.exit ?_ | refine blockL_s ?_ | refine blockL_r ?_ | refine blockL_n ?_ | refine blockL_e rfl ?_)
            exact ⟨(k1, i + 1, L), Cov.cons rfl (Cov.cons rfl (Cov.cons rfl (Cov.cons rfl (Cov.nil _)))), ⟨_, rfl, rfl, hM, kt, hl, by simp only; omega, by simp only; omega, hk3, by simp only; omega, fun j hj => hsame j (by simp only at hj; omega), hD⟩, by simp only; omega⟩
        · have hi : k + i = t0.length := by have := of_decide_eq_false q; omega
          rw [hi] at hD
          have e := hD.fin
          subst e
          repeat (first | refine WC.seq ?_ | refine thenL_n ?_ | refine thenL_r ?_ | refine thenL_e ?_ | refine WC.region ?_ | refine WO.nil ?_ | refine WC.skip ?_ | refine WC.ret ?_ | refine WO.asg rfl ?_ | refine WO.mv rfl ?_ | refine WC.block ?_ | refine WC.exit ?_ | refine blockL_s ?_ | refine blockL_r ?_ | refine blockL_n ?_ | refine blockL_e rfl ?_)
          refine WO.slK rfl rfl (by omega) (by omega) rfl ?_
          refine WO.clK rfl rfl kt (by omega) rfl rfl (fun S3 c3 kt => ?_)
          have hM := hM.to c3
          repeat (first | refine WC.seq ?_ | refine thenL_n ?_ | refine thenL_r ?_ | refine thenL_e ?_ | refine WC.region ?_ | refine WO.nil ?_ | refine WC.skip ?_ | refine WC.ret ?_ | refine WO.asg rfl ?_ | refine WO.mv rfl ?_ | refine WC.block ?_ | refine WC.exit ?_ | refine blockL_s ?_ | refine blockL_r ?_ | refine blockL_n ?_ | refine blockL_e rfl ?_)
          refine WO.slHto rfl rfl ⟨by omega, by omega⟩ rfl ?_
          repeat (first | refine WC.seq ?_ | refine thenL_n ?_ | refine thenL_r ?_ | refine thenL_e ?_ | refine WC.region ?_ | refine WO.nil ?_ | refine WC.skip ?_ | refine WC.ret ?_ | refine WO.asg rfl ?_ | refine WO.mv rfl ?_ | refine WC.block ?_ | refine WC.exit ?_ | refine blockL_s ?_ | refine blockL_r ?_ | refine blockL_n ?_ | refine blockL_e rfl ?_)
          rw [Int.toNat_natCast]
          exact ⟨.inr rfl, _, _, rfl, rfl, S3.ren 2 902, rfl, rfl, hM.renO 2 902, _, rfl, kt.ren 902⟩
      · have hD := (hF (by simpa using q) (by omega)).same hx
        repeat (first | refine WC.seq ?_ | refine thenL_n ?_ | refine thenL_r ?_ | refine thenL_e ?_ | refine WC.region ?_ | refine WO.nil ?_ | refine WC.skip ?_ | refine WC.ret ?_ | refine WO.asg rfl ?_ | refine WO.mv rfl ?_ | refine WC.block ?_ | refine WC.exit ?_ | refine blockL_s ?_ | refine blockL_r ?_ | refine blockL_n ?_ | refine blockL_e rfl ?_)
        refine WO.bin rfl rfl (by decide) (by decide) rfl ?_
        rw [wrapA_succ (by omega)]
        repeat (first | refine WC.seq ?_ | refine thenL_n ?_ | refine thenL_r ?_ | refine thenL_e ?_ | refine WC.region ?_ | refine WO.nil ?_ | refine WC.skip ?_ | refine WC.ret ?_ | refine WO.asg rfl ?_ | refine WO.mv rfl ?_ | refine WC.block ?_ | refine WC.exit ?_ | refine blockL_s ?_ | refine blockL_r ?_ | refine blockL_n ?_ | refine blockL_e rfl ?_)
        exact ⟨k + 1, Cov.cons rfl (Cov.cons rfl (Cov.nil _)), ⟨_, rfl, rfl, hM, kt, by omega, by omega, hD⟩, by omega⟩
    · have hk : k = t0.length := by have := of_decide_eq_false q; omega
      rw [hk] at hD
      have e := hD.fin
      rw [List.take_of_length_le (Nat.le_refl _)] at e
      subst e
      repeat (first | refine WC.seq ?_ | refine thenL_n ?_ | refine thenL_r ?_ | refine thenL_e ?_ | refine WC.region ?_ | refine WO.nil ?_ | refine WC.skip ?_ | refine WC.ret ?_ | refine WO.asg rfl ?_ | refine WO.mv rfl ?_ | refine WC.block ?_ | refine WC.exit ?_ | refine blockL_s ?_ | refine blockL_r ?_ | refine blockL_n ?_ | refine blockL_e rfl ?_)
      exact ⟨.inr rfl, _, _, rfl, rfl, S.ren 2 902, rfl, rfl, hM.renO 2 902, _, rfl, kt.ren 902⟩
end Go.Proofs.Ytihmliblbhjlaaa

namespace Go.Proofs.Ytihmliblbhjlaaa
open Go.Am
theorem F179.fn : E.fn 179 = some ⟨49, (Try.f179.body.getD .skip), Try.f179.results.toList, []⟩ := rfl
theorem F179_ok {F : Nat} {m : Mem} {n : Nat} {r : (List Int)} {t0 : List Int} {t1 : Int} {t2 : Int} {vt0 : SV} {fl : Nat} {bw : Nat} (h : F179 F t0 t1 t2 = some r) (hfl : fl ≤ n) (kt0 : Iv Y3 fl n bw m vt0 t0) : Ret E fl 179 [.sc vt0, .sc (.int .i64 t1), .sc (.int .i64 t2)] m n (fun v m' n' => v = .tup [] ∧ Ip Y3 n bw m m' vt0 r) := by
  unfold F179 at h
  refine Ret.walk F179.fn ?_
  refine WC.startI (b := bw) hfl fun S0 em en hz hbw => ?_
  have hot0 := kt0.iw em en hz hbw
  refine WC.seq (WC.region (WO.mv rfl ?_))
  refine WO.bin rfl rfl (by decide) (by decide) rfl ?_
  refine WO.asg rfl (WO.nil (thenL_n (WC.block ?_)))
  obtain ⟨b42, e43, h⟩ := bindS h
  refine WC.loopD e43 (fun s1 l' m' n' => ∃ S2 : Cx fl, S2.m = m' ∧ S2.n = n' ∧ Cov l' [(0, .sc vt0), (1, .sc (.int .i64 t1)), (2, .sc (.int .i64 t2)), (6, .sc (.int .i64 s1.1))] ∧ Iw Y3 S2 2 n bw m vt0 s1.2) (fun b e l' m' n' => e = .exit 0 ∧ ∃ S3 : Cx fl, S3.m = m' ∧ S3.n = n' ∧ Cov l' [(0, .sc vt0)] ∧ Iw Y3 S3 2 n bw m vt0 b) (by exact ⟨S0, rfl, rfl, (Cov.cons rfl (Cov.cons rfl (Cov.cons rfl (Cov.cons rfl (Cov.nil _))))), hot0⟩) ?_ ?_
  · clear h
    rintro s1 q _ _ _ ⟨S4, rfl, rfl, hc5, hot0⟩ h
    unfold F179_l1 at h
    refine WC.cov hc5 (WC.seq (WC.seq (WC.region (WO.mv rfl (WO.mv rfl ?_)))))
    refine WO.bin rfl rfl (by decide) (by decide) rfl ?_
    refine WO.nil (thenL_n ?_)
    refine WC.cond rfl (fun q6 => ?_) (fun q6 => ?_)
    · have h := iteT q6 h
      refine WC.skip (thenL_n (WC.seq (WC.block (WC.seq (WC.region (WO.mv rfl (WO.asg rfl (WO.nil (thenL_n ?_)))))))))
      refine WC.block ?_
      obtain ⟨b38, e39, h⟩ := bindS h
      refine WC.loopD e39 (fun s7 l' m' n' => ∃ S8 : Cx fl, S8.m = m' ∧ S8.n = n' ∧ Cov l' [(0, .sc vt0), (1, .sc (.int .i64 t1)), (2, .sc (.int .i64 t2)), (6, .sc (.int .i64 s1.1)), (7, .sc (.int .i64 s7.1))] ∧ Iw Y3 S8 2 n bw m vt0 s7.2) (fun b e l' m' n' => e = .exit 2 ∧ ∃ S9 : Cx fl, S9.m = m' ∧ S9.n = n' ∧ Cov l' [(0, .sc vt0), (1, .sc (.int .i64 t1)), (2, .sc (.int .i64 t2)), (6, .sc (.int .i64 s1.1))] ∧ Iw Y3 S9 2 n bw m vt0 b) (by exact ⟨S4, rfl, rfl, (Cov.cons rfl (Cov.cons rfl (Cov.cons rfl (Cov.cons rfl (Cov.cons rfl (Cov.nil _)))))), hot0⟩) ?_ ?_
      · clear h
        rintro s7 q _ _ _ ⟨S10, rfl, rfl, hc11, hot0⟩ h
        unfold F179_l0 at h
        refine WC.cov hc11 (WC.seq (WC.seq ?_))
        refine WC.drawN rfl rfl ?_
        have hot0z := hot0.oz
        refine WO.mv rfl (WO.mv rfl ?_)
        refine WO.bin rfl rfl (by decide) (by decide) rfl ?_
        refine WO.mv rfl ?_
        obtain ⟨y21, e22, h⟩ := bindS h
        refine WO.cutS (d := 30) (S := S10) 11 y21 (fun q20 => ?_) (fun q20 => ?_) (fun S23 c24 => ?_)
        · have h := e22
          have h := iteT q20 h
          refine WO.gyes rfl rfl (WO.mv rfl (WO.gyes rfl rfl (WO.mv rfl (WO.gyes rfl rfl ?_))))
          obtain ⟨x12, e13, h⟩ := bindS h
          refine WO.ixS rfl rfl hot0.slv (at?_lt e13) rfl ?_
          refine WO.gyes rfl rfl ?_
          refine WO.ldF rfl hot0z (fun _ hi => hi.1) (at?_get e13) rfl rfl (limLe_self _) ?_
          refine WO.gyes rfl rfl (WO.mv rfl (WO.gyes rfl rfl (WO.mv rfl (WO.gyes rfl rfl ?_))))
          refine WO.bin rfl rfl (by decide) (by decide) rfl ?_
          refine WO.gyes rfl rfl ?_
          obtain ⟨x14, e15, h⟩ := bindS h
          refine WO.ixS rfl rfl hot0.slv (at?_lt e15) rfl ?_
          refine WO.gyes rfl rfl ?_
          refine WO.ldF rfl hot0z (fun _ hi => hi.1) (at?_get e15) rfl rfl (limLe_self _) ?_
          refine WO.gyes rfl rfl ?_
          obtain ⟨r16, e17, h⟩ := bindS h
          refine WO.callE (S := S10) rfl rfl (F151_ok e17) (fun S18 c19 => ?_)
          have hot0z := hot0z.tow c19
          have hot0 := hot0.to c19
          obtain rfl := someI h
          refine WO.pickT rfl rfl ?_
          refine WO.nil ?_
          exact ⟨S18, rfl, rfl, c19, (Cov.cons rfl (Cov.skip rfl (Cov.skip rfl (Cov.skip rfl (Cov.skip rfl (Cov.skip rfl (Cov.skip rfl (Cov.skip rfl (Cov.skip rfl (Cov.skip rfl (Cov.skip rfl (Cov.skip rfl (Cov.skip rfl (Cov.refl _))))))))))))))⟩
        · have h := e22
          have h := iteF q20 h
          obtain rfl := someI h
          refine WO.gno rfl rfl (WO.gno rfl rfl (WO.gno rfl rfl (WO.gno rfl rfl (WO.gno rfl rfl (WO.gno rfl rfl (WO.gno rfl rfl (WO.gno rfl rfl (WO.gno rfl rfl (WO.gno rfl rfl ?_)))))))))
          refine WO.pickF rfl rfl ?_
          refine WO.nil ?_
          exact ⟨S10, rfl, rfl, Ch.refl _ _, (Cov.cons rfl (Cov.skip rfl (Cov.skip rfl (Cov.skip rfl (Cov.skip rfl (Cov.skip rfl (Cov.skip rfl (Cov.skip rfl (Cov.skip rfl (Cov.skip rfl (Cov.skip rfl (Cov.skip rfl (Cov.skip rfl (Cov.refl _))))))))))))))⟩
        have hot0z := hot0z.tow c24
        have hot0 := hot0.to c24
        refine WO.nil (thenL_n ?_)
        refine WC.cond rfl (fun q25 => ?_) (fun q25 => ?_)
        · have h := iteT q25 h
          refine WC.skip (thenL_n (WC.seq (WC.block ?_)))
          refine WC.drawN rfl rfl ?_
          have hot0z := hot0.oz
          refine WO.mv rfl (WO.mv rfl (WO.mv rfl (WO.mv rfl ?_)))
          refine WO.bin rfl rfl (by decide) (by decide) rfl ?_
          refine WO.mv rfl (WO.mv rfl ?_)
          refine WO.bin rfl rfl (by decide) (by decide) rfl ?_
          obtain ⟨x26, e27, h⟩ := bindS h
          refine WO.ixS rfl rfl hot0.slv (at?_lt e27) rfl ?_
          refine WO.ldF rfl hot0z (fun _ hi => hi.1) (at?_get e27) rfl rfl (limLe_self _) ?_
          refine WO.mv rfl (WO.mv rfl ?_)
          obtain ⟨x28, e29, h⟩ := bindS h
          refine WO.ixS rfl rfl hot0.slv (at?_lt e29) rfl ?_
          refine WO.ldF rfl hot0z (fun _ hi => hi.1) (at?_get e29) rfl rfl (limLe_self _) ?_
          obtain ⟨u30, e31, h⟩ := bindS h
          refine WO.ixS rfl rfl hot0.slv (ck_some e31) rfl ?_
          refine WO.stI (u' := x26) rfl rfl hot0 (ck_nat e31) rfl rfl (fun S32 c33 hot0 => ?_)
          obtain ⟨u34, e35, h⟩ := bindS h
          refine WO.ixS rfl rfl hot0.slv (ck_some e35) rfl ?_
          refine WO.stI (u' := x28) rfl rfl hot0 (ck_nat e35) rfl rfl (fun S36 c37 hot0 => ?_)
          refine WO.nil (blockL_n (thenL_n (WC.region (WO.mv rfl ?_))))
          refine WO.bin rfl rfl (by decide) (by decide) rfl ?_
          refine WO.asg rfl (WO.nil (thenL_n ?_))
          obtain rfl := someI h
          exact ⟨_, rfl, ⟨S36, rfl, rfl, (Cov.cons rfl (Cov.cons rfl (Cov.cons rfl (Cov.cons rfl (Cov.cons rfl (Cov.nil _)))))), hot0⟩⟩
        · have h := iteF q25 h
          refine WC.exit (thenL_e (thenL_e ?_))
          obtain rfl := someI h
          exact ⟨_, rfl, rfl, ⟨S23, rfl, rfl, (Cov.cons rfl (Cov.cons rfl (Cov.cons rfl (Cov.cons rfl (Cov.nil _))))), hot0⟩⟩
      rintro _ _ _ _ ⟨rfl, ⟨S40, rfl, rfl, hc41, hot0⟩⟩
      refine blockL_s (blockL_n (thenL_n (WC.cov hc41 (WC.region (WO.mv rfl ?_)))))
      refine WO.bin rfl rfl (by decide) (by decide) rfl ?_
      refine WO.asg rfl (WO.nil (thenL_n ?_))
      obtain rfl := someI h
      exact ⟨_, rfl, ⟨S40, rfl, rfl, (Cov.cons rfl (Cov.cons rfl (Cov.cons rfl (Cov.cons rfl (Cov.nil _))))), hot0⟩⟩
    · have h := iteF q6 h
      refine WC.exit (thenL_e (thenL_e ?_))
      obtain rfl := someI h
      exact ⟨_, rfl, rfl, ⟨S4, rfl, rfl, (Cov.cons rfl (Cov.nil _)), hot0⟩⟩
  rintro _ _ _ _ ⟨rfl, ⟨S44, rfl, rfl, hc45, hot0⟩⟩
  refine blockL_s ?_
  obtain rfl := someI h
  exact ⟨.inl rfl, _, _, (resK_cov hc45 rfl), rfl, ⟨rfl, hot0.ip Lay.flat_fl⟩⟩
end Go.Proofs.Ytihmliblbhjlaaa

namespace Go.Proofs.Ytihmliblbhjlaaa
open Go.Am
theorem F202.fn : E.fn 202 = some ⟨76, (Try.f202.body.getD .skip), Try.f202.results.toList, []⟩ := rfl
theorem F202_ok {F : Nat} {m : Mem} {n : Nat} {r : (List Int)} {t0 : List Int} {t1 : Int} {t2 : Int} {t3 : Int} {vt0 : SV} {fl : Nat} {bw : Nat} (h : F202 F t0 t1 t2 t3 = some r) (hfl : fl ≤ n) (kt0 : Iv Y3 fl n bw m vt0 t0) : Ret E fl 202 [.sc vt0, .sc (.int .i64 t1), .sc (.int .i64 t2), .sc (.int .i64 t3)] m n (fun v m' n' => v = .tup [] ∧ Ip Y3 n bw m m' vt0 r) := by
  unfold F202 at h
  refine Ret.walk F202.fn ?_
  refine WC.startI (b := bw) hfl fun S0 em en hz hbw => ?_
  have hot0 := kt0.iw em en hz hbw
  refine WC.seq (WC.region (WO.mv rfl (WO.asg rfl (WO.nil (thenL_n (WC.block ?_))))))
  obtain ⟨b49, e50, h⟩ := bindS h
  refine WC.loopD e50 (fun s1 l' m' n' => ∃ S2 : Cx fl, S2.m = m' ∧ S2.n = n' ∧ Cov l' [(0, .sc vt0), (2, .sc (.int .i64 t2)), (3, .sc (.int .i64 t3)), (8, .sc (.int .i64 s1.1))] ∧ Iw Y3 S2 2 n bw m vt0 s1.2) (fun b e l' m' n' => (match b with | .inl b3 => e = .exit 0 ∧ ∃ S4 : Cx fl, S4.m = m' ∧ S4.n = n' ∧ Cov l' [(0, .sc vt0)] ∧ Iw Y3 S4 2 n bw m vt0 b3 | .inr b3 => e = .ret ∧ ∃ S5 : Cx fl, S5.m = m' ∧ S5.n = n' ∧ Cov l' [(0, .sc vt0)] ∧ Iw Y3 S5 2 n bw m vt0 b3)) (by exact ⟨S0, rfl, rfl, (Cov.cons rfl (Cov.cons rfl (Cov.cons rfl (Cov.cons rfl (Cov.nil _))))), hot0⟩) ?_ ?_
  · clear h
    rintro s1 q _ _ _ ⟨S6, rfl, rfl, hc7, hot0⟩ h
    unfold F202_l0 at h
    refine WC.cov hc7 (WC.block (WC.seq (WC.region (WO.mv rfl ?_))))
    refine WO.bin rfl rfl (by decide) (by decide) rfl ?_
    refine WO.bin rfl rfl (by decide) (by decide) rfl ?_
    refine WO.asg rfl (WO.nil (thenL_n (WC.seq (WC.seq (WC.region (WO.mv rfl (WO.mv rfl ?_)))))))
    refine WO.bin rfl rfl (by decide) (by decide) rfl ?_
    refine WO.nil (thenL_n ?_)
    refine WC.cond rfl (fun q8 => ?_) (fun q8 => ?_)
    · have h := iteT q8 h
      refine WC.exit (thenL_e (blockL_e rfl (thenL_e ?_)))
      obtain rfl := someI h
      exact ⟨_, rfl, rfl, ⟨S6, rfl, rfl, (Cov.cons rfl (Cov.nil _)), hot0⟩⟩
    · have h := iteF q8 h
      refine WC.skip (thenL_n (WC.seq (WC.seq ?_)))
      refine WC.drawN rfl rfl ?_
      have hot0z := hot0.oz
      refine WO.mv rfl ?_
      refine WO.bin rfl rfl (by decide) (by decide) rfl ?_
      refine WO.mv rfl ?_
      refine WO.bin rfl rfl (by decide) (by decide) rfl ?_
      refine WO.mv rfl ?_
      obtain ⟨y18, e19, h⟩ := bindS h
      refine WO.cutS (d := 36) (S := S6) 15 y18 (fun q17 => ?_) (fun q17 => ?_) (fun S20 c21 => ?_)
      · have h := e19
        have h := iteT q17 h
        refine WO.gyes rfl rfl (WO.mv rfl (WO.gyes rfl rfl (WO.mv rfl (WO.gyes rfl rfl (WO.mv rfl (WO.gyes rfl rfl ?_))))))
        refine WO.bin rfl rfl (by decide) (by decide) rfl ?_
        refine WO.gyes rfl rfl ?_
        obtain ⟨x9, e10, h⟩ := bindS h
        refine WO.ixS rfl rfl hot0.slv (at?_lt e10) rfl ?_
        refine WO.gyes rfl rfl ?_
        refine WO.ldF rfl hot0z (fun _ hi => hi.1) (at?_get e10) rfl rfl (limLe_self _) ?_
        refine WO.gyes rfl rfl (WO.mv rfl (WO.gyes rfl rfl (WO.mv rfl (WO.gyes rfl rfl (WO.mv rfl (WO.gyes rfl rfl ?_))))))
        refine WO.bin rfl rfl (by decide) (by decide) rfl ?_
        refine WO.gyes rfl rfl ?_
        refine WO.bin rfl rfl (by decide) (by decide) rfl ?_
        refine WO.gyes rfl rfl ?_
        obtain ⟨x11, e12, h⟩ := bindS h
        refine WO.ixS rfl rfl hot0.slv (at?_lt e12) rfl ?_
        refine WO.gyes rfl rfl ?_
        refine WO.ldF rfl hot0z (fun _ hi => hi.1) (at?_get e12) rfl rfl (limLe_self _) ?_
        refine WO.gyes rfl rfl ?_
        obtain ⟨r13, e14, h⟩ := bindS h
        refine WO.callE (S := S6) rfl rfl (F151_ok e14) (fun S15 c16 => ?_)
        have hot0z := hot0z.tow c16
        have hot0 := hot0.to c16
        obtain rfl := someI h
        refine WO.pickT rfl rfl ?_
        refine WO.nil ?_
        exact ⟨S15, rfl, rfl, c16, (Cov.cons rfl (Cov.skip rfl (Cov.skip rfl (Cov.skip rfl (Cov.skip rfl (Cov.skip rfl (Cov.skip rfl (Cov.skip rfl (Cov.skip rfl (Cov.skip rfl (Cov.skip rfl (Cov.skip rfl (Cov.skip rfl (Cov.skip rfl (Cov.skip rfl (Cov.skip rfl (Cov.skip rfl (Cov.refl _))))))))))))))))))⟩
      · have h := e19
        have h := iteF q17 h
        obtain rfl := someI h
        refine WO.gno rfl rfl (WO.gno rfl rfl (WO.gno rfl rfl (WO.gno rfl rfl (WO.gno rfl rfl (WO.gno rfl rfl (WO.gno rfl rfl (WO.gno rfl rfl (WO.gno rfl rfl (WO.gno rfl rfl ?_)))))))))
        refine WO.gno rfl rfl (WO.gno rfl rfl (WO.gno rfl rfl (WO.gno rfl rfl ?_)))
        refine WO.pickF rfl rfl ?_
        refine WO.nil ?_
        exact ⟨S6, rfl, rfl, Ch.refl _ _, (Cov.cons rfl (Cov.skip rfl (Cov.skip rfl (Cov.skip rfl (Cov.skip rfl (Cov.skip rfl (Cov.skip rfl (Cov.skip rfl (Cov.skip rfl (Cov.skip rfl (Cov.skip rfl (Cov.skip rfl (Cov.skip rfl (Cov.skip rfl (Cov.skip rfl (Cov.skip rfl (Cov.skip rfl (Cov.refl _))))))))))))))))))⟩
      have hot0z := hot0z.tow c21
      have hot0 := hot0.to c21
      refine WO.nil (thenL_n ?_)
      obtain ⟨b23, e24, h⟩ := bindS h
      refine WC.mono (Q' := (fun b e l' m' n' => e = .normal ∧ ∃ S25 : Cx fl, S25.m = m' ∧ S25.n = n' ∧ Cov l' [(0, .sc vt0), (2, .sc (.int .i64 t2)), (3, .sc (.int .i64 t3)), (8, .sc (.int .i64 s1.1)), (9, .sc (.int .i64 b))] ∧ Iw Y3 S25 2 n bw m vt0 s1.2) b23) ?_ ?_
      · have h := e24
        dsimp only at h ⊢
        refine WC.cond rfl (fun q22 => ?_) (fun q22 => ?_)
        · have h := iteT q22 h
          refine WC.region (WO.mv rfl ?_)
          refine WO.bin rfl rfl (by decide) (by decide) rfl ?_
          refine WO.asg rfl (WO.nil ?_)
          obtain rfl := someI h
          exact ⟨rfl, ⟨S20, rfl, rfl, (Cov.cons rfl (Cov.cons rfl (Cov.cons rfl (Cov.cons rfl (Cov.cons rfl (Cov.nil _)))))), hot0⟩⟩
        · have h := iteF q22 h
          refine WC.skip ?_
          obtain rfl := someI h
          exact ⟨rfl, ⟨S20, rfl, rfl, (Cov.cons rfl (Cov.cons rfl (Cov.cons rfl (Cov.cons rfl (Cov.cons rfl (Cov.nil _)))))), hot0⟩⟩
      dsimp only
      rintro _ _ _ _ ⟨rfl, ⟨S26, rfl, rfl, hc27, hot0⟩⟩
      refine thenL_n (WC.cov hc27 (WC.seq (WC.seq ?_)))
      refine WC.drawN rfl rfl ?_
      have hot0z := hot0.oz
      refine WO.mv rfl (WO.mv rfl (WO.mv rfl ?_))
      refine WO.bin rfl rfl (by decide) (by decide) rfl ?_
      obtain ⟨x28, e29, h⟩ := bindS h
      refine WO.ixS rfl rfl hot0.slv (at?_lt e29) rfl ?_
      refine WO.ldF rfl hot0z (fun _ hi => hi.1) (at?_get e29) rfl rfl (limLe_self _) ?_
      refine WO.mv rfl (WO.mv rfl (WO.mv rfl ?_))
      refine WO.bin rfl rfl (by decide) (by decide) rfl ?_
      obtain ⟨x30, e31, h⟩ := bindS h
      refine WO.ixS rfl rfl hot0.slv (at?_lt e31) rfl ?_
      refine WO.ldF rfl hot0z (fun _ hi => hi.1) (at?_get e31) rfl rfl (limLe_self _) ?_
      obtain ⟨r32, e33, h⟩ := bindS h
      refine WO.callE (S := S26) rfl rfl (F151_ok e33) (fun S34 c35 => ?_)
      have hot0z := hot0z.tow c35
      have hot0 := hot0.to c35
      refine WO.do rfl rfl ?_
      refine WO.nil (thenL_n ?_)
      refine WC.cond rfl (fun q36 => ?_) (fun q36 => ?_)
      · have h := iteT q36 h
        refine WC.ret (thenL_r (blockL_r (thenL_r ?_)))
        obtain rfl := someI h
        exact ⟨_, rfl, rfl, ⟨S34, rfl, rfl, (Cov.cons rfl (Cov.nil _)), hot0⟩⟩
      · have h := iteF q36 h
        refine WC.skip (thenL_n (WC.seq ?_))
        refine WC.drawN rfl rfl ?_
        have hot0z := hot0.oz
        refine WO.mv rfl (WO.mv rfl (WO.mv rfl ?_))
        refine WO.bin rfl rfl (by decide) (by decide) rfl ?_
        refine WO.mv rfl (WO.mv rfl (WO.mv rfl ?_))
        refine WO.bin rfl rfl (by decide) (by decide) rfl ?_
        refine WO.mv rfl (WO.mv rfl (WO.mv rfl ?_))
        refine WO.bin rfl rfl (by decide) (by decide) rfl ?_
        obtain ⟨x37, e38, h⟩ := bindS h
        refine WO.ixS rfl rfl hot0.slv (at?_lt e38) rfl ?_
        refine WO.ldF rfl hot0z (fun _ hi => hi.1) (at?_get e38) rfl rfl (limLe_self _) ?_
        refine WO.mv rfl (WO.mv rfl (WO.mv rfl ?_))
        refine WO.bin rfl rfl (by decide) (by decide) rfl ?_
        obtain ⟨x39, e40, h⟩ := bindS h
        refine WO.ixS rfl rfl hot0.slv (at?_lt e40) rfl ?_
        refine WO.ldF rfl hot0z (fun _ hi => hi.1) (at?_get e40) rfl rfl (limLe_self _) ?_
        obtain ⟨u41, e42, h⟩ := bindS h
        refine WO.ixS rfl rfl hot0.slv (ck_some e42) rfl ?_
        refine WO.stI (u' := x37) rfl rfl hot0 (ck_nat e42) rfl rfl (fun S43 c44 hot0 => ?_)
        obtain ⟨u45, e46, h⟩ := bindS h
        refine WO.ixS rfl rfl hot0.slv (ck_some e46) rfl ?_
        refine WO.stI (u' := x39) rfl rfl hot0 (ck_nat e46) rfl rfl (fun S47 c48 hot0 => ?_)
        refine WO.nil (thenL_n (WC.region (WO.mv rfl (WO.asg rfl (WO.nil (blockL_n (thenL_n ?_)))))))
        obtain rfl := someI h
        exact ⟨_, rfl, ⟨S47, rfl, rfl, (Cov.cons rfl (Cov.cons rfl (Cov.cons rfl (Cov.cons rfl (Cov.nil _))))), hot0⟩⟩
  cases b49 with
  | inl b51 =>
    simp only at h
    rintro _ _ _ _ ⟨rfl, ⟨S52, rfl, rfl, hc53, hot0⟩⟩
    refine blockL_s ?_
    obtain rfl := someI h
    exact ⟨.inl rfl, _, _, (resK_cov hc53 rfl), rfl, ⟨rfl, hot0.ip Lay.flat_fl⟩⟩
  | inr b51 =>
    simp only at h
    rintro _ _ _ _ ⟨rfl, ⟨S54, rfl, rfl, hc55, hot0⟩⟩
    refine blockL_r ?_
    obtain rfl := someI h
    exact ⟨.inr rfl, _, _, (resK_cov hc55 rfl), rfl, ⟨rfl, hot0.ip Lay.flat_fl⟩⟩
end Go.Proofs.Ytihmliblbhjlaaa

namespace Go.Proofs.Ytihmliblbhjlaaa
open Go.Am
theorem F180.fn : E.fn 180 = some ⟨56, (Try.f180.body.getD .skip), Try.f180.results.toList, []⟩ := rfl
theorem F180_ok {F : Nat} {m : Mem} {n : Nat} {r : (List Int)} {t0 : List Int} {t1 : Int} {t2 : Int} {vt0 : SV} {fl : Nat} {bw : Nat} (h : F180 F t0 t1 t2 = some r) (hfl : fl ≤ n) (kt0 : Iv Y3 fl n bw m vt0 t0) : Ret E fl 180 [.sc vt0, .sc (.int .i64 t1), .sc (.int .i64 t2)] m n (fun v m' n' => v = .tup [] ∧ Ip Y3 n bw m m' vt0 r) := by
  unfold F180 at h
  refine Ret.walk F180.fn ?_
  refine WC.startI (b := bw) hfl fun S0 em en hz hbw => ?_
  have hot0 := kt0.iw em en hz hbw
  refine WC.seq (WC.region (WO.mv rfl (WO.asg rfl (WO.nil (thenL_n (WC.seq (WC.region (WO.asg rfl (WO.nil ?_)))))))))
  refine thenL_n (WC.seq (WC.region (WO.mv rfl (WO.mv rfl ?_))))
  refine WO.bin rfl rfl (by decide) (by decide) rfl ?_
  refine WO.asg rfl (WO.nil (thenL_n (WC.seq (WC.seq (WC.region (WO.mv rfl ?_))))))
  refine WO.bin rfl rfl (by decide) (by decide) rfl ?_
  refine WO.bin rfl rfl (by decide) (by decide) rfl ?_
  refine WO.asg rfl (WO.nil (thenL_n (WC.block ?_)))
  obtain ⟨b11, e12, h⟩ := bindS h
  refine WC.loopD e12 (fun s1 l' m' n' => ∃ S2 : Cx fl, S2.m = m' ∧ S2.n = n' ∧ Cov l' [(0, .sc vt0), (6, .sc (.int .i64 t1)), (7, .sc (.int .i64 0)), (8, .sc (.int .i64 ((wrapA .i64 (t2 - t1))))), (9, .sc (.int .i64 s1.1))] ∧ Iw Y3 S2 2 n bw m vt0 s1.2) (fun b e l' m' n' => e = .exit 0 ∧ ∃ S3 : Cx fl, S3.m = m' ∧ S3.n = n' ∧ Cov l' [(0, .sc vt0), (6, .sc (.int .i64 t1)), (7, .sc (.int .i64 0)), (8, .sc (.int .i64 ((wrapA .i64 (t2 - t1)))))] ∧ Iw Y3 S3 2 n bw m vt0 b) (by exact ⟨S0, rfl, rfl, (Cov.cons rfl (Cov.cons rfl (Cov.cons rfl (Cov.cons rfl (Cov.cons rfl (Cov.nil _)))))), hot0⟩) ?_ ?_
  · clear h
    rintro s1 q _ _ _ ⟨S4, rfl, rfl, hc5, hot0⟩ h
    unfold F180_l0 at h
    refine WC.cov hc5 (WC.seq (WC.seq (WC.region (WO.mv rfl ?_))))
    refine WO.bin rfl rfl (by decide) (by decide) rfl ?_
    refine WO.nil (thenL_n ?_)
    refine WC.cond rfl (fun q6 => ?_) (fun q6 => ?_)
    · have h := iteT q6 h
      refine WC.skip (thenL_n (WC.seq (WC.block (WC.region (WO.mv rfl (WO.mv rfl (WO.mv rfl (WO.mv rfl ?_))))))))
      obtain ⟨r7, e8, h⟩ := bindS h
      refine WO.callW (S := S4) hot0 rfl rfl rfl (fun bq hI hB => F202_ok e8 S4.le hI) Lay.flat_fl (fun S9 c10 hot0 => ?_)
      refine WO.nil (blockL_n (thenL_n (WC.region (WO.mv rfl ?_))))
      refine WO.bin rfl rfl (by decide) (by decide) rfl ?_
      refine WO.asg rfl (WO.nil (thenL_n ?_))
      obtain rfl := someI h
      exact ⟨_, rfl, ⟨S9, rfl, rfl, (Cov.cons rfl (Cov.cons rfl (Cov.cons rfl (Cov.cons rfl (Cov.cons rfl (Cov.nil _)))))), hot0⟩⟩
    · have h := iteF q6 h
      refine WC.exit (thenL_e (thenL_e ?_))
      obtain rfl := someI h
      exact ⟨_, rfl, rfl, ⟨S4, rfl, rfl, (Cov.cons rfl (Cov.cons rfl (Cov.cons rfl (Cov.cons rfl (Cov.nil _))))), hot0⟩⟩
  rintro _ _ _ _ ⟨rfl, ⟨S13, rfl, rfl, hc14, hot0⟩⟩
  refine blockL_s (thenL_n (WC.cov hc14 (WC.seq (WC.region (WO.mv rfl ?_)))))
  refine WO.bin rfl rfl (by decide) (by decide) rfl ?_
  refine WO.asg rfl (WO.nil (thenL_n (WC.block ?_)))
  obtain ⟨b37, e38, h⟩ := bindS h
  refine WC.loopD e38 (fun s15 l' m' n' => ∃ S16 : Cx fl, S16.m = m' ∧ S16.n = n' ∧ Cov l' [(0, .sc vt0), (6, .sc (.int .i64 t1)), (7, .sc (.int .i64 0)), (10, .sc (.int .i64 s15.1))] ∧ Iw Y3 S16 2 n bw m vt0 s15.2) (fun b e l' m' n' => e = .exit 2 ∧ ∃ S17 : Cx fl, S17.m = m' ∧ S17.n = n' ∧ Cov l' [(0, .sc vt0)] ∧ Iw Y3 S17 2 n bw m vt0 b) (by exact ⟨S13, rfl, rfl, (Cov.cons rfl (Cov.cons rfl (Cov.cons rfl (Cov.cons rfl (Cov.nil _))))), hot0⟩) ?_ ?_
  · clear h
    rintro s15 q _ _ _ ⟨S18, rfl, rfl, hc19, hot0⟩ h
    unfold F180_l1 at h
    refine WC.cov hc19 (WC.seq (WC.seq (WC.region (WO.mv rfl ?_))))
    refine WO.bin rfl rfl (by decide) (by decide) rfl ?_
    refine WO.nil (thenL_n ?_)
    refine WC.cond rfl (fun q20 => ?_) (fun q20 => ?_)
    · have h := iteT q20 h
      refine WC.skip (thenL_n (WC.seq (WC.block (WC.seq ?_))))
      refine WC.drawN rfl rfl ?_
      have hot0z := hot0.oz
      refine WO.mv rfl (WO.mv rfl (WO.mv rfl (WO.mv rfl (WO.mv rfl ?_))))
      refine WO.bin rfl rfl (by decide) (by decide) rfl ?_
      refine WO.mv rfl (WO.mv rfl (WO.mv rfl ?_))
      refine WO.bin rfl rfl (by decide) (by decide) rfl ?_
      obtain ⟨x21, e22, h⟩ := bindS h
      refine WO.ixS rfl rfl hot0.slv (at?_lt e22) rfl ?_
      refine WO.ldF rfl hot0z (fun _ hi => hi.1) (at?_get e22) rfl rfl (limLe_self _) ?_
      refine WO.mv rfl (WO.mv rfl ?_)
      obtain ⟨x23, e24, h⟩ := bindS h
      refine WO.ixS rfl rfl hot0.slv (at?_lt e24) rfl ?_
      refine WO.ldF rfl hot0z (fun _ hi => hi.1) (at?_get e24) rfl rfl (limLe_self _) ?_
      obtain ⟨u25, e26, h⟩ := bindS h
      refine WO.ixS rfl rfl hot0.slv (ck_some e26) rfl ?_
      refine WO.stI (u' := x21) rfl rfl hot0 (ck_nat e26) rfl rfl (fun S27 c28 hot0 => ?_)
      obtain ⟨u29, e30, h⟩ := bindS h
      refine WO.ixS rfl rfl hot0.slv (ck_some e30) rfl ?_
      refine WO.stI (u' := x23) rfl rfl hot0 (ck_nat e30) rfl rfl (fun S31 c32 hot0 => ?_)
      refine WO.nil (thenL_n (WC.region (WO.mv rfl (WO.mv rfl (WO.mv rfl (WO.mv rfl ?_))))))
      obtain ⟨r33, e34, h⟩ := bindS h
      refine WO.callW (S := S31) hot0 rfl rfl rfl (fun bq hI hB => F202_ok e34 S31.le hI) Lay.flat_fl (fun S35 c36 hot0 => ?_)
      refine WO.nil (blockL_n (thenL_n (WC.region (WO.mv rfl ?_))))
      refine WO.bin rfl rfl (by decide) (by decide) rfl ?_
      refine WO.asg rfl (WO.nil (thenL_n ?_))
      obtain rfl := someI h
      exact ⟨_, rfl, ⟨S35, rfl, rfl, (Cov.cons rfl (Cov.cons rfl (Cov.cons rfl (Cov.cons rfl (Cov.nil _))))), hot0⟩⟩
    · have h := iteF q20 h
      refine WC.exit (thenL_e (thenL_e ?_))
      obtain rfl := someI h
      exact ⟨_, rfl, rfl, ⟨S18, rfl, rfl, (Cov.cons rfl (Cov.nil _)), hot0⟩⟩
  rintro _ _ _ _ ⟨rfl, ⟨S39, rfl, rfl, hc40, hot0⟩⟩
  refine blockL_s ?_
  obtain rfl := someI h
  exact ⟨.inl rfl, _, _, (resK_cov hc40 rfl), rfl, ⟨rfl, hot0.ip Lay.flat_fl⟩⟩
end Go.Proofs.Ytihmliblbhjlaaa

namespace Go.Proofs.Ytihmliblbhjlaaa
open Go.Am
theorem F181.fn : E.fn 181 = some ⟨65, (Try.f181.body.getD .skip), Try.f181.results.toList, []⟩ := rfl
theorem F181_ok {F : Nat} {m : Mem} {n : Nat} {r : (List Int)} {t0 : List Int} {t1 : Int} {t2 : Int} {vt0 : SV} {fl : Nat} {bw : Nat} (h : F181 F t0 t1 t2 = some r) (hfl : fl ≤ n) (kt0 : Iv Y3 fl n bw m vt0 t0) : Ret E fl 181 [.sc vt0, .sc (.int .i64 t1), .sc (.int .i64 t2)] m n (fun v m' n' => v = .tup [] ∧ Ip Y3 n bw m m' vt0 r) := by
  unfold F181 at h
  refine Ret.walk F181.fn ?_
  refine WC.startI (b := bw) hfl fun S0 em en hz hbw => ?_
  have hot0 := kt0.iw em en hz hbw
  refine WC.seq (WC.region (WO.mv rfl (WO.mv rfl ?_)))
  refine WO.bin rfl rfl (by decide) (by decide) rfl ?_
  refine WO.asg rfl (WO.nil (thenL_n (WC.seq (WC.region (WO.mv rfl ?_)))))
  refine WO.bin rfl rfl (by decide) (by decide) rfl ?_
  refine WO.nil (thenL_n ?_)
  refine WC.cond rfl (fun q1 => ?_) (fun q1 => ?_)
  · have h := iteT q1 h
    refine WC.seq (WC.region (WO.mv rfl ?_))
    refine WO.conv rfl rfl rfl rfl ?_
    refine WO.alS (A := Y201) (S := S0) (z0 := 0) 3 rfl rfl rfl (fun v2 S3 c4 ho5 => ?_)
    have hot0 := hot0.to c4
    refine WO.stB (j := 0) (q := 0) (u' := (wrapA .u64 (wrapA .i64 (t2 - t1)))) rfl ho5.at0 rfl ho5 rfl (by decide) rfl rfl (fun S6 c7 ho5 => ?_)
    have hot0 := hot0.to c7
    refine WO.nil (thenL_n (WC.seq (WC.region (WO.mv rfl ?_))))
    obtain ⟨r8, e9, h⟩ := bindS h
    refine WO.callE (S := S6) rfl rfl (F198_ok e9) (fun S10 c11 => ?_)
    have hot0 := hot0.to c11
    have ho5 := ho5.to c11
    refine WO.asg rfl (WO.nil (thenL_n (WC.seq (WC.region (WO.mv rfl (WO.mv rfl ?_))))))
    refine WO.bin rfl rfl (by decide) (by decide) rfl ?_
    refine WO.bin rfl rfl (by decide) (by decide) rfl ?_
    refine WO.bin rfl rfl (by decide) (by decide) rfl ?_
    refine WO.bin rfl rfl (by decide) (by decide) rfl ?_
    refine WO.asg rfl (WO.nil (thenL_n (WC.block ?_)))
    obtain ⟨b42, e43, h⟩ := bindS h
    refine WC.loopD e43 (fun s12 l' m' n' => ∃ S13 : Cx fl, S13.m = m' ∧ S13.n = n' ∧ Cov l' [(0, .sc vt0), (1, .sc (.int .i64 t1)), (6, .sc (.int .i64 ((wrapA .i64 (t2 - t1))))), (7, .sc v2), (8, .sc (.int .u64 r8)), (9, .sc (.int .i64 s12.1))] ∧ Iw Y3 S13 2 n bw m vt0 s12.2.1 ∧ Bk Y201 S13 3 v2 s12.2.2) (fun b e l' m' n' => e = .exit 0 ∧ ∃ S14 : Cx fl, S14.m = m' ∧ S14.n = n' ∧ Cov l' [(0, .sc vt0)] ∧ Iw Y3 S14 2 n bw m vt0 b) (by exact ⟨S10, rfl, rfl, (Cov.cons rfl (Cov.cons rfl (Cov.cons rfl (Cov.cons rfl (Cov.cons rfl (Cov.cons rfl (Cov.nil _))))))), hot0, ho5⟩) ?_ ?_
    · clear h
      rintro s12 q _ _ _ ⟨S15, rfl, rfl, hc16, hot0, ho5⟩ h
      unfold F181_l0 at h
      refine WC.cov hc16 (WC.seq (WC.seq (WC.region (WO.mv rfl (WO.mv rfl (WO.mv rfl ?_))))))
      refine WO.bin rfl rfl (by decide) (by decide) rfl ?_
      refine WO.bin rfl rfl (by decide) (by decide) rfl ?_
      refine WO.bin rfl rfl (by decide) (by decide) rfl ?_
      refine WO.bin rfl rfl (by decide) (by decide) rfl ?_
      refine WO.bin rfl rfl (by decide) (by decide) rfl ?_
      refine WO.nil (thenL_n ?_)
      refine WC.cond rfl (fun q17 => ?_) (fun q17 => ?_)
      · have h := iteT q17 h
        refine WC.skip (thenL_n (WC.seq (WC.block (WC.seq (WC.region ?_)))))
        obtain ⟨b18, rfl⟩ := ho5.isp
        obtain ⟨r19, e20, h⟩ := bindS h
        refine WO.callG (S := S15) [(3, 2)] [(2, 3)] rfl rfl (F199_ok (S0 := S15.mp [(3, 2)]) e20 (ho5.mp rfl)) (fun _ S21 S22 hb hR => ?_)
        obtain ⟨rfl, hR0⟩ := hR
        have c23 : Ch 3 S15 S22 := hb.ch [] 3
        have hot0 := hot0.to c23
        have ho5 := hR0.bkF hb rfl Lay.flat_fl
        refine WO.mv rfl ?_
        refine WO.bin rfl rfl (by decide) (by decide) rfl ?_
        refine WO.bits rfl rfl rfl (by decide) (by decide) rfl ?_
        refine WO.conv rfl rfl rfl rfl ?_
        refine WO.asg rfl (WO.nil (thenL_n (WC.seq (WC.seq (WC.region (WO.mv rfl (WO.mv rfl ?_)))))))
        refine WO.bin rfl rfl (by decide) (by decide) rfl ?_
        refine WO.nil (thenL_n ?_)
        obtain ⟨b25, e26, h⟩ := bindS h
        refine WC.mono (Q' := (fun b e l' m' n' => e = .normal ∧ ∃ S27 : Cx fl, S27.m = m' ∧ S27.n = n' ∧ Cov l' [(0, .sc vt0), (1, .sc (.int .i64 t1)), (6, .sc (.int .i64 ((wrapA .i64 (t2 - t1))))), (7, .sc ((.ptr b18 0))), (8, .sc (.int .u64 r8)), (9, .sc (.int .i64 s12.1)), (10, .sc (.int .i64 b))] ∧ Iw Y3 S27 2 n bw m vt0 s12.2.1 ∧ Bk Y201 S27 3 (.ptr b18 0) r19.2) b25) ?_ ?_
        · have h := e26
          dsimp only at h ⊢
          refine WC.cond rfl (fun q24 => ?_) (fun q24 => ?_)
          · have h := iteT q24 h
            refine WC.region (WO.mv rfl (WO.mv rfl ?_))
            refine WO.bin rfl rfl (by decide) (by decide) rfl ?_
            refine WO.asg rfl (WO.nil ?_)
            obtain rfl := someI h
            exact ⟨rfl, ⟨S22, rfl, rfl, (Cov.cons rfl (Cov.cons rfl (Cov.cons rfl (Cov.cons rfl (Cov.cons rfl (Cov.cons rfl (Cov.cons rfl (Cov.nil _)))))))), hot0, ho5⟩⟩
          · have h := iteF q24 h
            refine WC.skip ?_
            obtain rfl := someI h
            exact ⟨rfl, ⟨S22, rfl, rfl, (Cov.cons rfl (Cov.cons rfl (Cov.cons rfl (Cov.cons rfl (Cov.cons rfl (Cov.cons rfl (Cov.cons rfl (Cov.nil _)))))))), hot0, ho5⟩⟩
        dsimp only
        rintro _ _ _ _ ⟨rfl, ⟨S28, rfl, rfl, hc29, hot0, ho5⟩⟩
        refine thenL_n (WC.cov hc29 ?_)
        refine WC.drawN rfl rfl ?_
        have hot0z := hot0.oz
        have ho5z := ho5.lt
        refine WO.mv rfl (WO.mv rfl (WO.mv rfl (WO.mv rfl (WO.mv rfl ?_))))
        refine WO.bin rfl rfl (by decide) (by decide) rfl ?_
        refine WO.mv rfl (WO.mv rfl (WO.mv rfl ?_))
        refine WO.bin rfl rfl (by decide) (by decide) rfl ?_
        obtain ⟨x30, e31, h⟩ := bindS h
        refine WO.ixS rfl rfl hot0.slv (at?_lt e31) rfl ?_
        refine WO.ldF rfl hot0z (fun _ hi => hi.1) (at?_get e31) rfl rfl (limLe_self _) ?_
        refine WO.mv rfl (WO.mv rfl ?_)
        obtain ⟨x32, e33, h⟩ := bindS h
        refine WO.ixS rfl rfl hot0.slv (at?_lt e33) rfl ?_
        refine WO.ldF rfl hot0z (fun _ hi => hi.1) (at?_get e33) rfl rfl (limLe_self _) ?_
        obtain ⟨u34, e35, h⟩ := bindS h
        refine WO.ixS rfl rfl hot0.slv (ck_some e35) rfl ?_
        refine WO.stI (u' := x30) rfl rfl hot0 (ck_nat e35) rfl rfl (fun S36 c37 hot0 => ?_)
        have ho5 := ho5.to c37
        obtain ⟨u38, e39, h⟩ := bindS h
        refine WO.ixS rfl rfl hot0.slv (ck_some e39) rfl ?_
        refine WO.stI (u' := x32) rfl rfl hot0 (ck_nat e39) rfl rfl (fun S40 c41 hot0 => ?_)
        have ho5 := ho5.to c41
        refine WO.nil (blockL_n (thenL_n (WC.region (WO.mv rfl ?_))))
        refine WO.bin rfl rfl (by decide) (by decide) rfl ?_
        refine WO.asg rfl (WO.nil (thenL_n ?_))
        obtain rfl := someI h
        exact ⟨_, rfl, ⟨S40, rfl, rfl, (Cov.cons rfl (Cov.cons rfl (Cov.cons rfl (Cov.cons rfl (Cov.cons rfl (Cov.cons rfl (Cov.nil _))))))), hot0, ho5⟩⟩
      · have h := iteF q17 h
        refine WC.exit (thenL_e (thenL_e ?_))
        obtain rfl := someI h
        exact ⟨_, rfl, rfl, ⟨S15, rfl, rfl, (Cov.cons rfl (Cov.nil _)), hot0⟩⟩
    rintro _ _ _ _ ⟨rfl, ⟨S44, rfl, rfl, hc45, hot0⟩⟩
    refine blockL_s ?_
    obtain rfl := someI h
    exact ⟨.inl rfl, _, _, (resK_cov hc45 rfl), rfl, ⟨rfl, hot0.ip Lay.flat_fl⟩⟩
  · have h := iteF q1 h
    refine WC.skip ?_
    obtain rfl := someI h
    exact ⟨.inl rfl, _, _, rfl, rfl, ⟨rfl, hot0.ip Lay.flat_fl⟩⟩
end Go.Proofs.Ytihmliblbhjlaaa

namespace Go.Proofs.Ytihmliblbhjlaaa
open Go.Am
theorem F217.fn : E.fn 217 = some ⟨28, (Try.f217.body.getD .skip), Try.f217.results.toList, []⟩ := rfl
theorem F217_ok {F : Nat} {fl : Nat} {S0 : Cx fl} {r : Int × Int × Int} {t0 : List Int} {t1 : Int} {t2 : Int} {t3 : Int} {vt0 : SV} {bt3 : Nat} (h : F217 F t0 t1 t2 t3 = some r) (hot0 : Rd Y3 S0 vt0 t0) (hot3 : Bk Y3 S0 2 (.ptr bt3 0) t3) : Ret E fl 217 [.sc vt0, .sc (.int .i64 t1), .sc (.int .i64 t2), .sc (.ptr bt3 0)] S0.m S0.n (fun v m' n' => ∃ S' : Cx fl, S'.m = m' ∧ S'.n = n' ∧ ChM S0 S' ∧ (v = .tup [.sc (.int .i64 r.1), .sc (.int .i64 r.2.1)] ∧ Bk Y3 S' 2 (.ptr bt3 0) r.2.2)) := by
  unfold F217 at h
  refine Ret.walk F217.fn ?_
  have hM := ChM.refl S0
  refine WC.seq (WC.region (WO.asg rfl (WO.asg rfl (WO.nil (thenL_n (WC.seq (WC.seq ?_)))))))
  refine WC.drawN rfl rfl ?_
  have hot0z := hot0.oz
  have hot3z := hot3.lt
  refine WO.mv rfl (WO.mv rfl ?_)
  obtain ⟨x1, e2, h⟩ := bindS h
  refine WO.ixS rfl rfl hot0.slv (at?_lt e2) rfl ?_
  refine WO.ldF rfl hot0z (fun _ hi => hi.1) (at?_get e2) rfl rfl (limLe_self _) ?_
  refine WO.mv rfl (WO.mv rfl ?_)
  obtain ⟨x3, e4, h⟩ := bindS h
  refine WO.ixS rfl rfl hot0.slv (at?_lt e4) rfl ?_
  refine WO.ldF rfl hot0z (fun _ hi => hi.1) (at?_get e4) rfl rfl (limLe_self _) ?_
  obtain ⟨r5, e6, h⟩ := bindS h
  refine WO.callE (S := S0) rfl rfl (F151_ok e6) (fun S7 c8 => ?_)
  have hot0z := hot0z.toz c8
  have hot0 := hot0.to c8
  have hot3 := hot3.to c8
  have hM := hM.to c8
  refine WO.nil (thenL_n ?_)
  refine WC.cond rfl (fun q9 => ?_) (fun q9 => ?_)
  · have h := iteT q9 h
    refine WC.seq (WC.region (WO.mv rfl ?_))
    refine WO.nck rfl hot3.isp ?_
    refine WO.ldB (j := 0) (q := 0) rfl hot3.at0 hot3 rfl rfl rfl ?_
    refine WO.bin rfl rfl (by decide) (by decide) rfl ?_
    refine WO.nck rfl hot3.isp ?_
    refine WO.stB (j := 0) (q := 0) (u' := (wrapA .i64 (t3 + 1))) rfl hot3.at0 rfl hot3 rfl (by decide) rfl rfl (fun S10 c11 hot3 => ?_)
    have hot0 := hot0.to c11
    have hM := hM.to c11
    refine WO.nil (thenL_n (WC.seq (WC.region (WO.mv rfl (WO.mv rfl (WO.asg rfl (WO.asg rfl (WO.nil (thenL_n ?_)))))))))
    refine WC.ret (thenL_r ?_)
    obtain rfl := someI h
    exact ⟨.inr rfl, _, _, rfl, rfl, ⟨S10, rfl, rfl, hM, rfl, hot3⟩⟩
  · have h := iteF q9 h
    refine WC.skip (thenL_n (WC.seq (WC.region (WO.mv rfl (WO.mv rfl (WO.asg rfl (WO.asg rfl (WO.nil (thenL_n ?_)))))))))
    refine WC.ret ?_
    obtain rfl := someI h
    exact ⟨.inr rfl, _, _, rfl, rfl, ⟨S7, rfl, rfl, hM, rfl, hot3⟩⟩
end Go.Proofs.Ytihmliblbhjlaaa

namespace Go.Proofs.Ytihmliblbhjlaaa
open Go.Am
theorem F204.fn : E.fn 204 = some ⟨36, (Try.f204.body.getD .skip), Try.f204.results.toList, []⟩ := rfl
theorem F204_ok {F : Nat} {fl : Nat} {S0 : Cx fl} {r : Int × Int} {t0 : List Int} {t1 : Int} {t2 : Int} {t3 : Int} {t4 : Int} {vt0 : SV} {bt4 : Nat} (h : F204 F t0 t1 t2 t3 t4 = some r) (hot0 : Rd Y3 S0 vt0 t0) (hot4 : Bk Y3 S0 2 (.ptr bt4 0) t4) : Ret E fl 204 [.sc vt0, .sc (.int .i64 t1), .sc (.int .i64 t2), .sc (.int .i64 t3), .sc (.ptr bt4 0)] S0.m S0.n (fun v m' n' => ∃ S' : Cx fl, S'.m = m' ∧ S'.n = n' ∧ ChM S0 S' ∧ (v = .sc (.int .i64 r.1) ∧ Bk Y3 S' 2 (.ptr bt4 0) r.2)) := by
  unfold F204 at h
  refine Ret.walk F204.fn ?_
  have hM := ChM.refl S0
  refine WC.seq (WC.region (WO.asg rfl (WO.nil (thenL_n (WC.seq (WC.region (WO.mv rfl (WO.mv rfl (WO.mv rfl ?_)))))))))
  refine WO.mv rfl ?_
  obtain ⟨r1, e2, h⟩ := bindS h
  refine WO.callG (S := S0) [(2, 2)] [(2, 2)] rfl rfl (F217_ok (S0 := S0.mp [(2, 2)]) e2 hot0.mp (hot4.mp rfl)) (fun _ S3 S4 hb hR => ?_)
  obtain ⟨rfl, hR0⟩ := hR
  have c5 : Ch 2 S0 S4 := hb.ch [] 2
  have hot0 := hot0.to c5
  have hM := hM.to c5
  have hot4 := hR0.bkF hb rfl Lay.flat_fl
  refine WO.mv rfl ?_
  refine WO.do rfl rfl ?_
  refine WO.do rfl rfl ?_
  refine WO.asg rfl (WO.asg rfl (WO.nil (thenL_n (WC.seq (WC.region (WO.mv rfl (WO.mv rfl (WO.mv rfl (WO.mv rfl ?_)))))))))
  obtain ⟨r6, e7, h⟩ := bindS h
  refine WO.callG (S := S4) [(2, 2)] [(2, 2)] rfl rfl (F217_ok (S0 := S4.mp [(2, 2)]) e7 hot0.mp (hot4.mp rfl)) (fun _ S8 S9 hb hR => ?_)
  obtain ⟨rfl, hR0⟩ := hR
  have c10 : Ch 2 S4 S9 := hb.ch [] 2
  have hot0 := hot0.to c10
  have hM := hM.to c10
  have hot4 := hR0.bkF hb rfl Lay.flat_fl
  refine WO.mv rfl ?_
  refine WO.do rfl rfl ?_
  refine WO.do rfl rfl ?_
  refine WO.asg rfl (WO.asg rfl (WO.nil (thenL_n (WC.seq (WC.region (WO.mv rfl (WO.mv rfl (WO.mv rfl (WO.mv rfl ?_)))))))))
  obtain ⟨r11, e12, h⟩ := bindS h
  refine WO.callG (S := S9) [(2, 2)] [(2, 2)] rfl rfl (F217_ok (S0 := S9.mp [(2, 2)]) e12 hot0.mp (hot4.mp rfl)) (fun _ S13 S14 hb hR => ?_)
  obtain ⟨rfl, hR0⟩ := hR
  have c15 : Ch 2 S9 S14 := hb.ch [] 2
  have hot0 := hot0.to c15
  have hM := hM.to c15
  have hot4 := hR0.bkF hb rfl Lay.flat_fl
  refine WO.mv rfl ?_
  refine WO.do rfl rfl ?_
  refine WO.do rfl rfl ?_
  refine WO.asg rfl (WO.asg rfl (WO.nil (thenL_n (WC.seq (WC.region (WO.mv rfl (WO.asg rfl (WO.nil (thenL_n ?_)))))))))
  refine WC.ret ?_
  obtain rfl := someI h
  exact ⟨.inr rfl, _, _, rfl, rfl, ⟨S14, rfl, rfl, hM, rfl, hot4⟩⟩
end Go.Proofs.Ytihmliblbhjlaaa

namespace Go.Proofs.Ytihmliblbhjlaaa
open Go.Am
theorem F203.fn : E.fn 203 = some ⟨15, (Try.f203.body.getD .skip), Try.f203.results.toList, []⟩ := rfl
theorem F203_ok {F : Nat} {fl : Nat} {S0 : Cx fl} {r : Int × Int} {t0 : List Int} {t1 : Int} {t2 : Int} {vt0 : SV} {bt2 : Nat} (h : F203 F t0 t1 t2 = some r) (hot0 : Rd Y3 S0 vt0 t0) (hot2 : Bk Y3 S0 2 (.ptr bt2 0) t2) : Ret E fl 203 [.sc vt0, .sc (.int .i64 t1), .sc (.ptr bt2 0)] S0.m S0.n (fun v m' n' => ∃ S' : Cx fl, S'.m = m' ∧ S'.n = n' ∧ ChM S0 S' ∧ (v = .sc (.int .i64 r.1) ∧ Bk Y3 S' 2 (.ptr bt2 0) r.2)) := by
  unfold F203 at h
  refine Ret.walk F203.fn ?_
  have hM := ChM.refl S0
  refine WC.seq (WC.region (WO.asg rfl (WO.nil (thenL_n (WC.seq (WC.region (WO.mv rfl (WO.mv rfl ?_))))))))
  refine WO.bin rfl rfl (by decide) (by decide) rfl ?_
  refine WO.mv rfl (WO.mv rfl ?_)
  refine WO.bin rfl rfl (by decide) (by decide) rfl ?_
  refine WO.mv rfl ?_
  obtain ⟨r1, e2, h⟩ := bindS h
  refine WO.callG (S := S0) [(2, 2)] [(2, 2)] rfl rfl (F204_ok (S0 := S0.mp [(2, 2)]) e2 hot0.mp (hot2.mp rfl)) (fun _ S3 S4 hb hR => ?_)
  obtain ⟨rfl, hR0⟩ := hR
  have c5 : Ch 2 S0 S4 := hb.ch [] 2
  have hot0 := hot0.to c5
  have hM := hM.to c5
  have hot2 := hR0.bkF hb rfl Lay.flat_fl
  refine WO.asg rfl (WO.nil (thenL_n (WC.ret ?_)))
  obtain rfl := someI h
  exact ⟨.inr rfl, _, _, rfl, rfl, ⟨S4, rfl, rfl, hM, rfl, hot2⟩⟩
end Go.Proofs.Ytihmliblbhjlaaa

namespace Go.Proofs.Ytihmliblbhjlaaa
open Go.Am
theorem F182.fn : E.fn 182 = some ⟨57, (Try.f182.body.getD .skip), Try.f182.results.toList, []⟩ := rfl
theorem F182_ok {F : Nat} {m : Mem} {n : Nat} {r : Int × Int} {t0 : List Int} {t1 : Int} {t2 : Int} {vt0 : SV} (h : F182 F t0 t1 t2 = some r) (kt0 : Vw Y3 n m vt0 t0) : Ret E n 182 [.sc vt0, .sc (.int .i64 t1), .sc (.int .i64 t2)] m n (fun v m' n' => v = .tup [.sc (.int .i64 r.1), .sc (.int .i64 r.2)]) := by
  unfold F182 at h
  refine Ret.walk F182.fn ?_
  refine WC.start fun S0 em en hz => ?_
  have hot0 := kt0.rdS em hz
  refine WC.seq (WC.region (WO.asg rfl (WO.asg rfl (WO.nil (thenL_n (WC.seq (WC.region (WO.mv rfl (WO.mv rfl ?_)))))))))
  refine WO.bin rfl rfl (by decide) (by decide) rfl ?_
  refine WO.asg rfl (WO.nil (thenL_n (WC.seq (WC.region ?_))))
  refine WO.alS (A := Y3) (S := S0) (z0 := 0) 2 rfl rfl rfl (fun v1 S2 c3 ho4 => ?_)
  have hot0 := hot0.to c3
  refine WO.nil (thenL_n (WC.seq (WC.region (WO.mv rfl (WO.mv rfl ?_)))))
  refine WO.bin rfl rfl (by decide) (by decide) rfl ?_
  refine WO.bin rfl rfl (by decide) (by decide) rfl ?_
  refine WO.bin rfl rfl (by decide) (by decide) rfl ?_
  refine WO.asg rfl (WO.nil (thenL_n (WC.seq (WC.region (WO.mv rfl (WO.mv rfl ?_))))))
  refine WO.bin rfl rfl (by decide) (by decide) rfl ?_
  refine WO.bin rfl rfl (by decide) (by decide) rfl ?_
  refine WO.bin rfl rfl (by decide) (by decide) rfl ?_
  refine WO.asg rfl (WO.nil (thenL_n (WC.seq (WC.region (WO.mv rfl (WO.mv rfl ?_))))))
  refine WO.bin rfl rfl (by decide) (by decide) rfl ?_
  refine WO.bin rfl rfl (by decide) (by decide) rfl ?_
  refine WO.bin rfl rfl (by decide) (by decide) rfl ?_
  refine WO.asg rfl (WO.nil (thenL_n (WC.seq (WC.seq (WC.region (WO.mv rfl ?_))))))
  refine WO.bin rfl rfl (by decide) (by decide) rfl ?_
  refine WO.nil (thenL_n ?_)
  obtain ⟨b34, e35, h⟩ := bindS h
  refine WC.mono (Q' := (fun b e l' m' n' => e = .normal ∧ ∃ S36 : Cx n, S36.m = m' ∧ S36.n = n' ∧ Cov l' [(9, .sc v1), (11, .sc (.int .i64 b.1))] ∧ Bk Y3 S36 2 v1 b.2) b34) ?_ ?_
  · have h := e35
    dsimp only at h ⊢
    refine WC.cond rfl (fun q5 => ?_) (fun q5 => ?_)
    · have h := iteT q5 h
      refine WC.seq (WC.seq (WC.region (WO.mv rfl ?_)))
      refine WO.bin rfl rfl (by decide) (by decide) rfl ?_
      refine WO.nil (thenL_n ?_)
      refine WC.cond rfl (fun q6 => ?_) (fun q6 => ?_)
      · have h := iteT q6 h
        refine WC.seq (WC.region (WO.mv rfl (WO.mv rfl ?_)))
        obtain ⟨b7, rfl⟩ := ho4.isp
        obtain ⟨r8, e9, h⟩ := bindS h
        refine WO.callG (S := S2) [(2, 2)] [(2, 2)] rfl rfl (F203_ok (S0 := S2.mp [(2, 2)]) e9 hot0.mp (ho4.mp rfl)) (fun _ S10 S11 hb hR => ?_)
        obtain ⟨rfl, hR0⟩ := hR
        have c12 : Ch 2 S2 S11 := hb.ch [] 2
        have hot0 := hot0.to c12
        have ho4 := hR0.bkF hb rfl Lay.flat_fl
        refine WO.asg rfl (WO.nil (thenL_n (WC.seq (WC.region (WO.mv rfl (WO.mv rfl ?_))))))
        obtain ⟨r13, e14, h⟩ := bindS h
        refine WO.callG (S := S11) [(2, 2)] [(2, 2)] rfl rfl (F203_ok (S0 := S11.mp [(2, 2)]) e14 hot0.mp (ho4.mp rfl)) (fun _ S15 S16 hb hR => ?_)
        obtain ⟨rfl, hR0⟩ := hR
        have c17 : Ch 2 S11 S16 := hb.ch [] 2
        have hot0 := hot0.to c17
        have ho4 := hR0.bkF hb rfl Lay.flat_fl
        refine WO.asg rfl (WO.nil (thenL_n (WC.region (WO.mv rfl (WO.mv rfl ?_)))))
        obtain ⟨r18, e19, h⟩ := bindS h
        refine WO.callG (S := S16) [(2, 2)] [(2, 2)] rfl rfl (F203_ok (S0 := S16.mp [(2, 2)]) e19 hot0.mp (ho4.mp rfl)) (fun _ S20 S21 hb hR => ?_)
        obtain ⟨rfl, hR0⟩ := hR
        have c22 : Ch 2 S16 S21 := hb.ch [] 2
        have hot0 := hot0.to c22
        have ho4 := hR0.bkF hb rfl Lay.flat_fl
        refine WO.asg rfl (WO.nil (thenL_n (WC.region (WO.mv rfl (WO.mv rfl (WO.mv rfl (WO.mv rfl ?_)))))))
        obtain ⟨r23, e24, h⟩ := bindS h
        refine WO.callG (S := S21) [(2, 2)] [(2, 2)] rfl rfl (F204_ok (S0 := S21.mp [(2, 2)]) e24 hot0.mp (ho4.mp rfl)) (fun _ S25 S26 hb hR => ?_)
        obtain ⟨rfl, hR0⟩ := hR
        have c27 : Ch 2 S21 S26 := hb.ch [] 2
        have hot0 := hot0.to c27
        have ho4 := hR0.bkF hb rfl Lay.flat_fl
        refine WO.asg rfl (WO.nil ?_)
        obtain rfl := someI h
        exact ⟨rfl, ⟨S26, rfl, rfl, (Cov.cons rfl (Cov.cons rfl (Cov.nil _))), ho4⟩⟩
      · have h := iteF q6 h
        refine WC.skip (thenL_n (WC.region (WO.mv rfl (WO.mv rfl (WO.mv rfl (WO.mv rfl ?_))))))
        obtain ⟨b28, rfl⟩ := ho4.isp
        obtain ⟨r29, e30, h⟩ := bindS h
        refine WO.callG (S := S2) [(2, 2)] [(2, 2)] rfl rfl (F204_ok (S0 := S2.mp [(2, 2)]) e30 hot0.mp (ho4.mp rfl)) (fun _ S31 S32 hb hR => ?_)
        obtain ⟨rfl, hR0⟩ := hR
        have c33 : Ch 2 S2 S32 := hb.ch [] 2
        have hot0 := hot0.to c33
        have ho4 := hR0.bkF hb rfl Lay.flat_fl
        refine WO.asg rfl (WO.nil ?_)
        obtain rfl := someI h
        exact ⟨rfl, ⟨S32, rfl, rfl, (Cov.cons rfl (Cov.cons rfl (Cov.nil _))), ho4⟩⟩
    · have h := iteF q5 h
      refine WC.skip ?_
      obtain rfl := someI h
      exact ⟨rfl, ⟨S2, rfl, rfl, (Cov.cons rfl (Cov.cons rfl (Cov.nil _))), ho4⟩⟩
  dsimp only
  rintro _ _ _ _ ⟨rfl, ⟨S37, rfl, rfl, hc38, ho4⟩⟩
  refine thenL_n (WC.cov hc38 (WC.seq (WC.region ?_)))
  refine WO.ldB (j := 0) (q := 0) rfl ho4.at0 ho4 rfl rfl rfl ?_
  refine WO.nil (thenL_n (WC.block (WC.seq (WC.region ?_))))
  refine WO.bin rfl rfl (by decide) (by decide) rfl ?_
  refine WO.asg rfl (WO.nil (thenL_n ?_))
  refine WC.cond rfl (fun q39 => ?_) (fun q39 => ?_)
  · have h := iteT q39 h
    refine WC.seq (WC.region (WO.mv rfl (WO.asg rfl (WO.asg rfl (WO.nil (thenL_n (WC.ret (blockL_r ?_))))))))
    obtain rfl := someI h
    exact ⟨.inr rfl, _, _, rfl, rfl, rfl⟩
  · have h := iteF q39 h
    refine WC.seq (WC.region ?_)
    refine WO.bin rfl rfl (by decide) (by decide) rfl ?_
    refine WO.asg rfl (WO.nil (thenL_n ?_))
    refine WC.cond rfl (fun q40 => ?_) (fun q40 => ?_)
    · have h := iteT q40 h
      refine WC.seq (WC.region (WO.mv rfl (WO.asg rfl (WO.asg rfl (WO.nil (thenL_n (WC.ret (blockL_r ?_))))))))
      obtain rfl := someI h
      exact ⟨.inr rfl, _, _, rfl, rfl, rfl⟩
    · have h := iteF q40 h
      refine WC.seq (WC.region (WO.mv rfl (WO.asg rfl (WO.asg rfl (WO.nil (thenL_n (WC.ret (blockL_r ?_))))))))
      obtain rfl := someI h
      exact ⟨.inr rfl, _, _, rfl, rfl, rfl⟩
end Go.Proofs.Ytihmliblbhjlaaa

namespace Go.Proofs.Ytihmliblbhjlaaa
open Go.Am
theorem F183.fn : E.fn 183 = some ⟨32, (Try.f183.body.getD .skip), Try.f183.results.toList, []⟩ := rfl
theorem F183_ok {F : Nat} {m : Mem} {n : Nat} {r : (List Int)} {t0 : List Int} {t1 : Int} {t2 : Int} {vt0 : SV} {fl : Nat} {bw : Nat} (h : F183 F t0 t1 t2 = some r) (hfl : fl ≤ n) (kt0 : Iv Y3 fl n bw m vt0 t0) : Ret E fl 183 [.sc vt0, .sc (.int .i64 t1), .sc (.int .i64 t2)] m n (fun v m' n' => v = .tup [] ∧ Ip Y3 n bw m m' vt0 r) := by
  unfold F183 at h
  refine Ret.walk F183.fn ?_
  refine WC.startI (b := bw) hfl fun S0 em en hz hbw => ?_
  have hot0 := kt0.iw em en hz hbw
  refine WC.seq (WC.region (WO.mv rfl (WO.asg rfl (WO.nil (thenL_n (WC.seq (WC.region (WO.mv rfl ?_))))))))
  refine WO.bin rfl rfl (by decide) (by decide) rfl ?_
  refine WO.asg rfl (WO.nil (thenL_n (WC.block ?_)))
  obtain ⟨b19, e20, h⟩ := bindS h
  refine WC.loopD e20 (fun s1 l' m' n' => ∃ S2 : Cx fl, S2.m = m' ∧ S2.n = n' ∧ Cov l' [(0, .sc vt0), (6, .sc (.int .i64 s1.1)), (7, .sc (.int .i64 s1.2.1))] ∧ Iw Y3 S2 2 n bw m vt0 s1.2.2) (fun b e l' m' n' => e = .exit 0 ∧ ∃ S3 : Cx fl, S3.m = m' ∧ S3.n = n' ∧ Cov l' [(0, .sc vt0)] ∧ Iw Y3 S3 2 n bw m vt0 b) (by exact ⟨S0, rfl, rfl, (Cov.cons rfl (Cov.cons rfl (Cov.cons rfl (Cov.nil _)))), hot0⟩) ?_ ?_
  · clear h
    rintro s1 q _ _ _ ⟨S4, rfl, rfl, hc5, hot0⟩ h
    unfold F183_l0 at h
    refine WC.cov hc5 (WC.seq (WC.seq (WC.region (WO.mv rfl (WO.mv rfl ?_)))))
    refine WO.bin rfl rfl (by decide) (by decide) rfl ?_
    refine WO.nil (thenL_n ?_)
    refine WC.cond rfl (fun q6 => ?_) (fun q6 => ?_)
    · have h := iteT q6 h
      refine WC.skip (thenL_n (WC.block (WC.seq ?_)))
      refine WC.drawN rfl rfl ?_
      have hot0z := hot0.oz
      refine WO.mv rfl (WO.mv rfl (WO.mv rfl (WO.mv rfl (WO.mv rfl (WO.mv rfl ?_)))))
      obtain ⟨x7, e8, h⟩ := bindS h
      refine WO.ixS rfl rfl hot0.slv (at?_lt e8) rfl ?_
      refine WO.ldF rfl hot0z (fun _ hi => hi.1) (at?_get e8) rfl rfl (limLe_self _) ?_
      refine WO.mv rfl (WO.mv rfl ?_)
      obtain ⟨x9, e10, h⟩ := bindS h
      refine WO.ixS rfl rfl hot0.slv (at?_lt e10) rfl ?_
      refine WO.ldF rfl hot0z (fun _ hi => hi.1) (at?_get e10) rfl rfl (limLe_self _) ?_
      obtain ⟨u11, e12, h⟩ := bindS h
      refine WO.ixS rfl rfl hot0.slv (ck_some e12) rfl ?_
      refine WO.stI (u' := x7) rfl rfl hot0 (ck_nat e12) rfl rfl (fun S13 c14 hot0 => ?_)
      obtain ⟨u15, e16, h⟩ := bindS h
      refine WO.ixS rfl rfl hot0.slv (ck_some e16) rfl ?_
      refine WO.stI (u' := x9) rfl rfl hot0 (ck_nat e16) rfl rfl (fun S17 c18 hot0 => ?_)
      refine WO.nil (thenL_n (WC.seq (WC.region (WO.mv rfl ?_))))
      refine WO.bin rfl rfl (by decide) (by decide) rfl ?_
      refine WO.asg rfl (WO.nil (thenL_n (WC.region (WO.mv rfl ?_))))
      refine WO.bin rfl rfl (by decide) (by decide) rfl ?_
      refine WO.asg rfl (WO.nil (blockL_n (thenL_n ?_)))
      obtain rfl := someI h
      exact ⟨_, rfl, ⟨S17, rfl, rfl, (Cov.cons rfl (Cov.cons rfl (Cov.cons rfl (Cov.nil _)))), hot0⟩⟩
    · have h := iteF q6 h
      refine WC.exit (thenL_e (thenL_e ?_))
      obtain rfl := someI h
      exact ⟨_, rfl, rfl, ⟨S4, rfl, rfl, (Cov.cons rfl (Cov.nil _)), hot0⟩⟩
  rintro _ _ _ _ ⟨rfl, ⟨S21, rfl, rfl, hc22, hot0⟩⟩
  refine blockL_s ?_
  obtain rfl := someI h
  exact ⟨.inl rfl, _, _, (resK_cov hc22 rfl), rfl, ⟨rfl, hot0.ip Lay.flat_fl⟩⟩
end Go.Proofs.Ytihmliblbhjlaaa

namespace Go.Proofs.Ytihmliblbhjlaaa
open Go.Am
theorem F184.fn : E.fn 184 = some ⟨133, (Try.f184.body.getD .skip), Try.f184.results.toList, []⟩ := rfl
theorem F184_ok {F : Nat} {m : Mem} {n : Nat} {r : Bool × (List Int)} {t0 : List Int} {t1 : Int} {t2 : Int} {vt0 : SV} {fl : Nat} {bw : Nat} (h : F184 F t0 t1 t2 = some r) (hfl : fl ≤ n) (kt0 : Iv Y3 fl n bw m vt0 t0) : Ret E fl 184 [.sc vt0, .sc (.int .i64 t1), .sc (.int .i64 t2)] m n (fun v m' n' => v = .sc (.bool r.1) ∧ Ip Y3 n bw m m' vt0 r.2) := by
  unfold F184 at h
  refine Ret.walk F184.fn ?_
  refine WC.startI (b := bw) hfl fun S0 em en hz hbw => ?_
  have hot0 := kt0.iw em en hz hbw
  refine WC.seq (WC.region (WO.asg rfl (WO.nil (thenL_n (WC.seq (WC.region (WO.mv rfl ?_)))))))
  refine WO.bin rfl rfl (by decide) (by decide) rfl ?_
  refine WO.asg rfl (WO.nil (thenL_n (WC.seq (WC.seq (WC.region (WO.asg rfl (WO.nil (thenL_n (WC.block ?_)))))))))
  obtain ⟨b115, e116, h⟩ := bindS h
  refine WC.loopD e116 (fun s1 l' m' n' => ∃ S2 : Cx fl, S2.m = m' ∧ S2.n = n' ∧ Cov l' [(0, .sc vt0), (1, .sc (.int .i64 t1)), (2, .sc (.int .i64 t2)), (7, .sc (.int .i64 s1.1)), (8, .sc (.int .i64 s1.2.1))] ∧ Iw Y3 S2 2 n bw m vt0 s1.2.2) (fun b e l' m' n' => (match b with | .inl b3 => e = .exit 0 ∧ ∃ S4 : Cx fl, S4.m = m' ∧ S4.n = n' ∧ Cov l' [(0, .sc vt0)] ∧ Iw Y3 S4 2 n bw m vt0 b3 | .inr b3 => e = .ret ∧ ∃ S5 : Cx fl, S5.m = m' ∧ S5.n = n' ∧ Cov l' [(0, .sc vt0), (6, .sc (.bool b3.1))] ∧ Iw Y3 S5 2 n bw m vt0 b3.2)) (by exact ⟨S0, rfl, rfl, (Cov.cons rfl (Cov.cons rfl (Cov.cons rfl (Cov.cons rfl (Cov.cons rfl (Cov.nil _)))))), hot0⟩) ?_ ?_
  · clear h
    rintro s1 q _ _ _ ⟨S6, rfl, rfl, hc7, hot0⟩ h
    unfold F184_l3 at h
    refine WC.cov hc7 (WC.seq (WC.seq (WC.region (WO.mv rfl ?_))))
    refine WO.bin rfl rfl (by decide) (by decide) rfl ?_
    refine WO.nil (thenL_n ?_)
    refine WC.cond rfl (fun q8 => ?_) (fun q8 => ?_)
    · have h := iteT q8 h
      refine WC.skip (thenL_n (WC.seq (WC.block (WC.seq (WC.block ?_)))))
      obtain ⟨b28, e29, h⟩ := bindS h
      refine WC.loopD e29 (fun s9 l' m' n' => ∃ S10 : Cx fl, S10.m = m' ∧ S10.n = n' ∧ Cov l' [(0, .sc vt0), (1, .sc (.int .i64 t1)), (2, .sc (.int .i64 t2)), (7, .sc (.int .i64 s9)), (8, .sc (.int .i64 s1.2.1))] ∧ Iw Y3 S10 2 n bw m vt0 s1.2.2) (fun b e l' m' n' => e = .exit 2 ∧ ∃ S11 : Cx fl, S11.m = m' ∧ S11.n = n' ∧ Cov l' [(0, .sc vt0), (1, .sc (.int .i64 t1)), (2, .sc (.int .i64 t2)), (7, .sc (.int .i64 b)), (8, .sc (.int .i64 s1.2.1))] ∧ Iw Y3 S11 2 n bw m vt0 s1.2.2) (by exact ⟨S6, rfl, rfl, (Cov.cons rfl (Cov.cons rfl (Cov.cons rfl (Cov.cons rfl (Cov.cons rfl (Cov.nil _)))))), hot0⟩) ?_ ?_
      · clear h
        rintro s9 q _ _ _ ⟨S12, rfl, rfl, hc13, hot0⟩ h
        unfold F184_l0 at h
        refine WC.cov hc13 (WC.seq (WC.seq ?_))
        refine WC.drawN rfl rfl ?_
        have hot0z := hot0.oz
        refine WO.mv rfl (WO.mv rfl ?_)
        refine WO.bin rfl rfl (by decide) (by decide) rfl ?_
        refine WO.mv rfl ?_
        obtain ⟨y23, e24, h⟩ := bindS h
        refine WO.cutS (d := 32) (S := S12) 12 y23 (fun q22 => ?_) (fun q22 => ?_) (fun S25 c26 => ?_)
        · have h := e24
          have h := iteT q22 h
          refine WO.gyes rfl rfl (WO.mv rfl (WO.gyes rfl rfl (WO.mv rfl (WO.gyes rfl rfl ?_))))
          obtain ⟨x14, e15, h⟩ := bindS h
          refine WO.ixS rfl rfl hot0.slv (at?_lt e15) rfl ?_
          refine WO.gyes rfl rfl ?_
          refine WO.ldF rfl hot0z (fun _ hi => hi.1) (at?_get e15) rfl rfl (limLe_self _) ?_
          refine WO.gyes rfl rfl (WO.mv rfl (WO.gyes rfl rfl (WO.mv rfl (WO.gyes rfl rfl ?_))))
          refine WO.bin rfl rfl (by decide) (by decide) rfl ?_
          refine WO.gyes rfl rfl ?_
          obtain ⟨x16, e17, h⟩ := bindS h
          refine WO.ixS rfl rfl hot0.slv (at?_lt e17) rfl ?_
          refine WO.gyes rfl rfl ?_
          refine WO.ldF rfl hot0z (fun _ hi => hi.1) (at?_get e17) rfl rfl (limLe_self _) ?_
          refine WO.gyes rfl rfl ?_
          obtain ⟨r18, e19, h⟩ := bindS h
          refine WO.callE (S := S12) rfl rfl (F151_ok e19) (fun S20 c21 => ?_)
          have hot0z := hot0z.tow c21
          have hot0 := hot0.to c21
          refine WO.gyes rfl rfl ?_
          refine WO.do rfl rfl ?_
          obtain rfl := someI h
          refine WO.pickT rfl rfl ?_
          refine WO.nil ?_
          exact ⟨S20, rfl, rfl, c21, (Cov.cons rfl (Cov.skip rfl (Cov.skip rfl (Cov.skip rfl (Cov.skip rfl (Cov.skip rfl (Cov.skip rfl (Cov.skip rfl (Cov.skip rfl (Cov.skip rfl (Cov.skip rfl (Cov.skip rfl (Cov.skip rfl (Cov.skip rfl (Cov.refl _)))))))))))))))⟩
        · have h := e24
          have h := iteF q22 h
          obtain rfl := someI h
          refine WO.gno rfl rfl (WO.gno rfl rfl (WO.gno rfl rfl (WO.gno rfl rfl (WO.gno rfl rfl (WO.gno rfl rfl (WO.gno rfl rfl (WO.gno rfl rfl (WO.gno rfl rfl (WO.gno rfl rfl ?_)))))))))
          refine WO.gno rfl rfl ?_
          refine WO.pickF rfl rfl ?_
          refine WO.nil ?_
          exact ⟨S12, rfl, rfl, Ch.refl _ _, (Cov.cons rfl (Cov.skip rfl (Cov.skip rfl (Cov.skip rfl (Cov.skip rfl (Cov.skip rfl (Cov.skip rfl (Cov.skip rfl (Cov.skip rfl (Cov.skip rfl (Cov.skip rfl (Cov.skip rfl (Cov.skip rfl (Cov.skip rfl (Cov.refl _)))))))))))))))⟩
        have hot0z := hot0z.tow c26
        have hot0 := hot0.to c26
        refine WO.nil (thenL_n ?_)
        refine WC.cond rfl (fun q27 => ?_) (fun q27 => ?_)
        · have h := iteT q27 h
          refine WC.skip (thenL_n (WC.block (WC.region (WO.mv rfl ?_))))
          refine WO.bin rfl rfl (by decide) (by decide) rfl ?_
          refine WO.asg rfl (WO.nil (blockL_n (thenL_n ?_)))
          obtain rfl := someI h
          exact ⟨_, rfl, ⟨S25, rfl, rfl, (Cov.cons rfl (Cov.cons rfl (Cov.cons rfl (Cov.cons rfl (Cov.cons rfl (Cov.nil _)))))), hot0⟩⟩
        · have h := iteF q27 h
          refine WC.exit (thenL_e (thenL_e ?_))
          obtain rfl := someI h
          exact ⟨_, rfl, rfl, ⟨S25, rfl, rfl, (Cov.cons rfl (Cov.cons rfl (Cov.cons rfl (Cov.cons rfl (Cov.cons rfl (Cov.nil _)))))), hot0⟩⟩
      rintro _ _ _ _ ⟨rfl, ⟨S30, rfl, rfl, hc31, hot0⟩⟩
      refine blockL_s (thenL_n (WC.cov hc31 (WC.seq (WC.seq (WC.region (WO.mv rfl (WO.mv rfl ?_)))))))
      refine WO.bin rfl rfl (by decide) (by decide) rfl ?_
      refine WO.nil (thenL_n ?_)
      refine WC.cond rfl (fun q32 => ?_) (fun q32 => ?_)
      · have h := iteT q32 h
        refine WC.seq (WC.region (WO.asg rfl (WO.nil (thenL_n (WC.ret (thenL_r (blockL_r (thenL_r (thenL_r ?_)))))))))
        obtain rfl := someI h
        exact ⟨_, rfl, rfl, ⟨S30, rfl, rfl, (Cov.cons rfl (Cov.cons rfl (Cov.nil _))), hot0⟩⟩
      · have h := iteF q32 h
        refine WC.skip (thenL_n (WC.seq (WC.seq (WC.region (WO.mv rfl (WO.mv rfl ?_))))))
        refine WO.bin rfl rfl (by decide) (by decide) rfl ?_
        refine WO.bin rfl rfl (by decide) (by decide) rfl ?_
        refine WO.nil (thenL_n ?_)
        refine WC.cond rfl (fun q33 => ?_) (fun q33 => ?_)
        · have h := iteT q33 h
          refine WC.seq (WC.region (WO.asg rfl (WO.nil (thenL_n (WC.ret (thenL_r (blockL_r (thenL_r (thenL_r ?_)))))))))
          obtain rfl := someI h
          exact ⟨_, rfl, rfl, ⟨S30, rfl, rfl, (Cov.cons rfl (Cov.cons rfl (Cov.nil _))), hot0⟩⟩
        · have h := iteF q33 h
          refine WC.skip (thenL_n (WC.seq ?_))
          refine WC.drawN rfl rfl ?_
          have hot0z := hot0.oz
          refine WO.mv rfl (WO.mv rfl (WO.mv rfl (WO.mv rfl ?_)))
          refine WO.bin rfl rfl (by decide) (by decide) rfl ?_
          refine WO.mv rfl (WO.mv rfl ?_)
          refine WO.bin rfl rfl (by decide) (by decide) rfl ?_
          obtain ⟨x34, e35, h⟩ := bindS h
          refine WO.ixS rfl rfl hot0.slv (at?_lt e35) rfl ?_
          refine WO.ldF rfl hot0z (fun _ hi => hi.1) (at?_get e35) rfl rfl (limLe_self _) ?_
          refine WO.mv rfl (WO.mv rfl ?_)
          obtain ⟨x36, e37, h⟩ := bindS h
          refine WO.ixS rfl rfl hot0.slv (at?_lt e37) rfl ?_
          refine WO.ldF rfl hot0z (fun _ hi => hi.1) (at?_get e37) rfl rfl (limLe_self _) ?_
          obtain ⟨u38, e39, h⟩ := bindS h
          refine WO.ixS rfl rfl hot0.slv (ck_some e39) rfl ?_
          refine WO.stI (u' := x34) rfl rfl hot0 (ck_nat e39) rfl rfl (fun S40 c41 hot0 => ?_)
          obtain ⟨u42, e43, h⟩ := bindS h
          refine WO.ixS rfl rfl hot0.slv (ck_some e43) rfl ?_
          refine WO.stI (u' := x36) rfl rfl hot0 (ck_nat e43) rfl rfl (fun S44 c45 hot0 => ?_)
          refine WO.nil (thenL_n (WC.seq (WC.seq (WC.region (WO.mv rfl (WO.mv rfl ?_))))))
          refine WO.bin rfl rfl (by decide) (by decide) rfl ?_
          refine WO.bin rfl rfl (by decide) (by decide) rfl ?_
          refine WO.nil (thenL_n ?_)
          obtain ⟨b78, e79, h⟩ := bindS h
          refine WC.mono (Q' := (fun b e l' m' n' => e = .normal ∧ ∃ S80 : Cx fl, S80.m = m' ∧ S80.n = n' ∧ Cov l' [(0, .sc vt0), (1, .sc (.int .i64 t1)), (2, .sc (.int .i64 t2)), (7, .sc (.int .i64 b28)), (8, .sc (.int .i64 s1.2.1))] ∧ Iw Y3 S80 2 n bw m vt0 b) b78) ?_ ?_
          · have h := e79
            dsimp only at h ⊢
            refine WC.cond rfl (fun q46 => ?_) (fun q46 => ?_)
            · have h := iteT q46 h
              refine WC.seq (WC.region (WO.mv rfl ?_))
              refine WO.bin rfl rfl (by decide) (by decide) rfl ?_
              refine WO.asg rfl (WO.nil (thenL_n (WC.block ?_)))
              obtain ⟨b74, e75, h⟩ := bindS h
              refine WC.loopD e75 (fun s47 l' m' n' => ∃ S48 : Cx fl, S48.m = m' ∧ S48.n = n' ∧ Cov l' [(0, .sc vt0), (1, .sc (.int .i64 t1)), (2, .sc (.int .i64 t2)), (7, .sc (.int .i64 b28)), (8, .sc (.int .i64 s1.2.1)), (9, .sc (.int .i64 s47.1))] ∧ Iw Y3 S48 2 n bw m vt0 s47.2) (fun b e l' m' n' => e = .exit 4 ∧ ∃ S49 : Cx fl, S49.m = m' ∧ S49.n = n' ∧ Cov l' [(0, .sc vt0), (1, .sc (.int .i64 t1)), (2, .sc (.int .i64 t2)), (7, .sc (.int .i64 b28)), (8, .sc (.int .i64 s1.2.1))] ∧ Iw Y3 S49 2 n bw m vt0 b) (by exact ⟨S44, rfl, rfl, (Cov.cons rfl (Cov.cons rfl (Cov.cons rfl (Cov.cons rfl (Cov.cons rfl (Cov.cons rfl (Cov.nil _))))))), hot0⟩) ?_ ?_
              · clear h
                rintro s47 q _ _ _ ⟨S50, rfl, rfl, hc51, hot0⟩ h
                unfold F184_l1 at h
                refine WC.cov hc51 (WC.seq (WC.seq (WC.region (WO.mv rfl ?_))))
                refine WO.bin rfl rfl (by decide) (by decide) rfl ?_
                refine WO.nil (thenL_n ?_)
                refine WC.cond rfl (fun q52 => ?_) (fun q52 => ?_)
                · have h := iteT q52 h
                  refine WC.skip (thenL_n (WC.seq (WC.block (WC.seq (WC.seq ?_)))))
                  refine WC.drawN rfl rfl ?_
                  have hot0z := hot0.oz
                  refine WO.mv rfl (WO.mv rfl ?_)
                  obtain ⟨x53, e54, h⟩ := bindS h
                  refine WO.ixS rfl rfl hot0.slv (at?_lt e54) rfl ?_
                  refine WO.ldF rfl hot0z (fun _ hi => hi.1) (at?_get e54) rfl rfl (limLe_self _) ?_
                  refine WO.mv rfl (WO.mv rfl ?_)
                  refine WO.bin rfl rfl (by decide) (by decide) rfl ?_
                  obtain ⟨x55, e56, h⟩ := bindS h
                  refine WO.ixS rfl rfl hot0.slv (at?_lt e56) rfl ?_
                  refine WO.ldF rfl hot0z (fun _ hi => hi.1) (at?_get e56) rfl rfl (limLe_self _) ?_
                  obtain ⟨r57, e58, h⟩ := bindS h
                  refine WO.callE (S := S50) rfl rfl (F151_ok e58) (fun S59 c60 => ?_)
                  have hot0z := hot0z.tow c60
                  have hot0 := hot0.to c60
                  refine WO.do rfl rfl ?_
                  refine WO.nil (thenL_n ?_)
                  refine WC.cond rfl (fun q61 => ?_) (fun q61 => ?_)
                  · have h := iteT q61 h
                    refine WC.exit (thenL_e (blockL_e rfl (thenL_e (thenL_e ?_))))
                    obtain rfl := someI h
                    exact ⟨_, rfl, rfl, ⟨S59, rfl, rfl, (Cov.cons rfl (Cov.cons rfl (Cov.cons rfl (Cov.cons rfl (Cov.cons rfl (Cov.nil _)))))), hot0⟩⟩
                  · have h := iteF q61 h
                    refine WC.skip (thenL_n ?_)
                    refine WC.drawN rfl rfl ?_
                    have hot0z := hot0.oz
                    refine WO.mv rfl (WO.mv rfl (WO.mv rfl (WO.mv rfl ?_)))
                    refine WO.bin rfl rfl (by decide) (by decide) rfl ?_
                    refine WO.mv rfl (WO.mv rfl ?_)
                    refine WO.bin rfl rfl (by decide) (by decide) rfl ?_
                    obtain ⟨x62, e63, h⟩ := bindS h
                    refine WO.ixS rfl rfl hot0.slv (at?_lt e63) rfl ?_
                    refine WO.ldF rfl hot0z (fun _ hi => hi.1) (at?_get e63) rfl rfl (limLe_self _) ?_
                    refine WO.mv rfl (WO.mv rfl ?_)
                    obtain ⟨x64, e65, h⟩ := bindS h
                    refine WO.ixS rfl rfl hot0.slv (at?_lt e65) rfl ?_
                    refine WO.ldF rfl hot0z (fun _ hi => hi.1) (at?_get e65) rfl rfl (limLe_self _) ?_
                    obtain ⟨u66, e67, h⟩ := bindS h
                    refine WO.ixS rfl rfl hot0.slv (ck_some e67) rfl ?_
                    refine WO.stI (u' := x62) rfl rfl hot0 (ck_nat e67) rfl rfl (fun S68 c69 hot0 => ?_)
                    obtain ⟨u70, e71, h⟩ := bindS h
                    refine WO.ixS rfl rfl hot0.slv (ck_some e71) rfl ?_
                    refine WO.stI (u' := x64) rfl rfl hot0 (ck_nat e71) rfl rfl (fun S72 c73 hot0 => ?_)
                    refine WO.nil (blockL_n (thenL_n (WC.region (WO.mv rfl ?_))))
                    refine WO.bin rfl rfl (by decide) (by decide) rfl ?_
                    refine WO.asg rfl (WO.nil (thenL_n ?_))
                    obtain rfl := someI h
                    exact ⟨_, rfl, ⟨S72, rfl, rfl, (Cov.cons rfl (Cov.cons rfl (Cov.cons rfl (Cov.cons rfl (Cov.cons rfl (Cov.cons rfl (Cov.nil _))))))), hot0⟩⟩
                · have h := iteF q52 h
                  refine WC.exit (thenL_e (thenL_e ?_))
                  obtain rfl := someI h
                  exact ⟨_, rfl, rfl, ⟨S50, rfl, rfl, (Cov.cons rfl (Cov.cons rfl (Cov.cons rfl (Cov.cons rfl (Cov.cons rfl (Cov.nil _)))))), hot0⟩⟩
              rintro _ _ _ _ ⟨rfl, ⟨S76, rfl, rfl, hc77, hot0⟩⟩
              refine blockL_s ?_
              obtain rfl := someI h
              exact ⟨rfl, ⟨S76, rfl, rfl, (Cov.trans hc77 (Cov.cons rfl (Cov.cons rfl (Cov.cons rfl (Cov.cons rfl (Cov.cons rfl (Cov.nil _))))))), hot0⟩⟩
            · have h := iteF q46 h
              refine WC.skip ?_
              obtain rfl := someI h
              exact ⟨rfl, ⟨S44, rfl, rfl, (Cov.cons rfl (Cov.cons rfl (Cov.cons rfl (Cov.cons rfl (Cov.cons rfl (Cov.nil _)))))), hot0⟩⟩
          dsimp only
          rintro _ _ _ _ ⟨rfl, ⟨S81, rfl, rfl, hc82, hot0⟩⟩
          refine thenL_n (WC.cov hc82 (WC.seq (WC.region (WO.mv rfl (WO.mv rfl ?_)))))
          refine WO.bin rfl rfl (by decide) (by decide) rfl ?_
          refine WO.bin rfl rfl (by decide) (by decide) rfl ?_
          refine WO.nil (thenL_n ?_)
          refine WC.cond rfl (fun q83 => ?_) (fun q83 => ?_)
          · have h := iteT q83 h
            refine WC.seq (WC.region (WO.mv rfl ?_))
            refine WO.bin rfl rfl (by decide) (by decide) rfl ?_
            refine WO.asg rfl (WO.nil (thenL_n (WC.block ?_)))
            obtain ⟨b111, e112, h⟩ := bindS h
            refine WC.loopD e112 (fun s84 l' m' n' => ∃ S85 : Cx fl, S85.m = m' ∧ S85.n = n' ∧ Cov l' [(0, .sc vt0), (1, .sc (.int .i64 t1)), (2, .sc (.int .i64 t2)), (7, .sc (.int .i64 b28)), (8, .sc (.int .i64 s1.2.1)), (10, .sc (.int .i64 s84.1))] ∧ Iw Y3 S85 2 n bw m vt0 s84.2) (fun b e l' m' n' => e = .exit 6 ∧ ∃ S86 : Cx fl, S86.m = m' ∧ S86.n = n' ∧ Cov l' [(0, .sc vt0), (1, .sc (.int .i64 t1)), (2, .sc (.int .i64 t2)), (7, .sc (.int .i64 b28)), (8, .sc (.int .i64 s1.2.1))] ∧ Iw Y3 S86 2 n bw m vt0 b) (by exact ⟨S81, rfl, rfl, (Cov.cons rfl (Cov.cons rfl (Cov.cons rfl (Cov.cons rfl (Cov.cons rfl (Cov.cons rfl (Cov.nil _))))))), hot0⟩) ?_ ?_
            · clear h
              rintro s84 q _ _ _ ⟨S87, rfl, rfl, hc88, hot0⟩ h
              unfold F184_l2 at h
              refine WC.cov hc88 (WC.seq (WC.seq (WC.region (WO.mv rfl (WO.mv rfl ?_)))))
              refine WO.bin rfl rfl (by decide) (by decide) rfl ?_
              refine WO.nil (thenL_n ?_)
              refine WC.cond rfl (fun q89 => ?_) (fun q89 => ?_)
              · have h := iteT q89 h
                refine WC.skip (thenL_n (WC.seq (WC.block (WC.seq (WC.seq ?_)))))
                refine WC.drawN rfl rfl ?_
                have hot0z := hot0.oz
                refine WO.mv rfl (WO.mv rfl ?_)
                obtain ⟨x90, e91, h⟩ := bindS h
                refine WO.ixS rfl rfl hot0.slv (at?_lt e91) rfl ?_
                refine WO.ldF rfl hot0z (fun _ hi => hi.1) (at?_get e91) rfl rfl (limLe_self _) ?_
                refine WO.mv rfl (WO.mv rfl ?_)
                refine WO.bin rfl rfl (by decide) (by decide) rfl ?_
                obtain ⟨x92, e93, h⟩ := bindS h
                refine WO.ixS rfl rfl hot0.slv (at?_lt e93) rfl ?_
                refine WO.ldF rfl hot0z (fun _ hi => hi.1) (at?_get e93) rfl rfl (limLe_self _) ?_
                obtain ⟨r94, e95, h⟩ := bindS h
                refine WO.callE (S := S87) rfl rfl (F151_ok e95) (fun S96 c97 => ?_)
                have hot0z := hot0z.tow c97
                have hot0 := hot0.to c97
                refine WO.do rfl rfl ?_
                refine WO.nil (thenL_n ?_)
                refine WC.cond rfl (fun q98 => ?_) (fun q98 => ?_)
                · have h := iteT q98 h
                  refine WC.exit (thenL_e (blockL_e rfl (thenL_e (thenL_e ?_))))
                  obtain rfl := someI h
                  exact ⟨_, rfl, rfl, ⟨S96, rfl, rfl, (Cov.cons rfl (Cov.cons rfl (Cov.cons rfl (Cov.cons rfl (Cov.cons rfl (Cov.nil _)))))), hot0⟩⟩
                · have h := iteF q98 h
                  refine WC.skip (thenL_n ?_)
                  refine WC.drawN rfl rfl ?_
                  have hot0z := hot0.oz
                  refine WO.mv rfl (WO.mv rfl (WO.mv rfl (WO.mv rfl ?_)))
                  refine WO.bin rfl rfl (by decide) (by decide) rfl ?_
                  refine WO.mv rfl (WO.mv rfl ?_)
                  refine WO.bin rfl rfl (by decide) (by decide) rfl ?_
                  obtain ⟨x99, e100, h⟩ := bindS h
                  refine WO.ixS rfl rfl hot0.slv (at?_lt e100) rfl ?_
                  refine WO.ldF rfl hot0z (fun _ hi => hi.1) (at?_get e100) rfl rfl (limLe_self _) ?_
                  refine WO.mv rfl (WO.mv rfl ?_)
                  obtain ⟨x101, e102, h⟩ := bindS h
                  refine WO.ixS rfl rfl hot0.slv (at?_lt e102) rfl ?_
                  refine WO.ldF rfl hot0z (fun _ hi => hi.1) (at?_get e102) rfl rfl (limLe_self _) ?_
                  obtain ⟨u103, e104, h⟩ := bindS h
                  refine WO.ixS rfl rfl hot0.slv (ck_some e104) rfl ?_
                  refine WO.stI (u' := x99) rfl rfl hot0 (ck_nat e104) rfl rfl (fun S105 c106 hot0 => ?_)
                  obtain ⟨u107, e108, h⟩ := bindS h
                  refine WO.ixS rfl rfl hot0.slv (ck_some e108) rfl ?_
                  refine WO.stI (u' := x101) rfl rfl hot0 (ck_nat e108) rfl rfl (fun S109 c110 hot0 => ?_)
                  refine WO.nil (blockL_n (thenL_n (WC.region (WO.mv rfl ?_))))
                  refine WO.bin rfl rfl (by decide) (by decide) rfl ?_
                  refine WO.asg rfl (WO.nil (thenL_n ?_))
                  obtain rfl := someI h
                  exact ⟨_, rfl, ⟨S109, rfl, rfl, (Cov.cons rfl (Cov.cons rfl (Cov.cons rfl (Cov.cons rfl (Cov.cons rfl (Cov.cons rfl (Cov.nil _))))))), hot0⟩⟩
              · have h := iteF q89 h
                refine WC.exit (thenL_e (thenL_e ?_))
                obtain rfl := someI h
                exact ⟨_, rfl, rfl, ⟨S87, rfl, rfl, (Cov.cons rfl (Cov.cons rfl (Cov.cons rfl (Cov.cons rfl (Cov.cons rfl (Cov.nil _)))))), hot0⟩⟩
            rintro _ _ _ _ ⟨rfl, ⟨S113, rfl, rfl, hc114, hot0⟩⟩
            refine blockL_s (blockL_n (thenL_n (WC.cov hc114 (WC.region (WO.mv rfl ?_)))))
            refine WO.bin rfl rfl (by decide) (by decide) rfl ?_
            refine WO.asg rfl (WO.nil (thenL_n ?_))
            obtain rfl := someI h
            exact ⟨_, rfl, ⟨S113, rfl, rfl, (Cov.cons rfl (Cov.cons rfl (Cov.cons rfl (Cov.cons rfl (Cov.cons rfl (Cov.nil _)))))), hot0⟩⟩
          · have h := iteF q83 h
            refine WC.skip (blockL_n (thenL_n (WC.region (WO.mv rfl ?_))))
            refine WO.bin rfl rfl (by decide) (by decide) rfl ?_
            refine WO.asg rfl (WO.nil (thenL_n ?_))
            obtain rfl := someI h
            exact ⟨_, rfl, ⟨S81, rfl, rfl, (Cov.cons rfl (Cov.cons rfl (Cov.cons rfl (Cov.cons rfl (Cov.cons rfl (Cov.nil _)))))), hot0⟩⟩
    · have h := iteF q8 h
      refine WC.exit (thenL_e (thenL_e ?_))
      obtain rfl := someI h
      exact ⟨_, rfl, rfl, ⟨S6, rfl, rfl, (Cov.cons rfl (Cov.nil _)), hot0⟩⟩
  cases b115 with
  | inl b117 =>
    simp only at h
    rintro _ _ _ _ ⟨rfl, ⟨S118, rfl, rfl, hc119, hot0⟩⟩
    refine blockL_s (thenL_n (WC.cov hc119 (WC.seq (WC.region (WO.asg rfl (WO.nil (thenL_n (WC.ret ?_))))))))
    obtain rfl := someI h
    exact ⟨.inr rfl, _, _, rfl, rfl, ⟨rfl, hot0.ip Lay.flat_fl⟩⟩
  | inr b117 =>
    simp only at h
    rintro _ _ _ _ ⟨rfl, ⟨S120, rfl, rfl, hc121, hot0⟩⟩
    refine blockL_r (thenL_r ?_)
    obtain rfl := someI h
    exact ⟨.inr rfl, _, _, (resK_cov hc121 rfl), rfl, ⟨rfl, hot0.ip Lay.flat_fl⟩⟩
end Go.Proofs.Ytihmliblbhjlaaa

namespace Go.Proofs.Ytihmliblbhjlaaa
open Go.Am
theorem F185.fn : E.fn 185 = some ⟨84, (Try.f185.body.getD .skip), Try.f185.results.toList, []⟩ := rfl
theorem F185_ok {F : Nat} {m : Mem} {n : Nat} {r : Int × (List Int)} {t0 : List Int} {t1 : Int} {t2 : Int} {t3 : Int} {vt0 : SV} {fl : Nat} {bw : Nat} (h : F185 F t0 t1 t2 t3 = some r) (hfl : fl ≤ n) (kt0 : Iv Y3 fl n bw m vt0 t0) : Ret E fl 185 [.sc vt0, .sc (.int .i64 t1), .sc (.int .i64 t2), .sc (.int .i64 t3)] m n (fun v m' n' => v = .sc (.int .i64 r.1) ∧ Ip Y3 n bw m m' vt0 r.2) := by
  unfold F185 at h
  refine Ret.walk F185.fn ?_
  refine WC.startI (b := bw) hfl fun S0 em en hz hbw => ?_
  have hot0 := kt0.iw em en hz hbw
  refine WC.seq (WC.region (WO.asg rfl (WO.nil (thenL_n (WC.seq ?_)))))
  refine WC.drawN rfl rfl ?_
  have hot0z := hot0.oz
  refine WO.mv rfl (WO.mv rfl (WO.mv rfl (WO.mv rfl (WO.mv rfl (WO.mv rfl ?_)))))
  obtain ⟨x1, e2, h⟩ := bindS h
  refine WO.ixS rfl rfl hot0.slv (at?_lt e2) rfl ?_
  refine WO.ldF rfl hot0z (fun _ hi => hi.1) (at?_get e2) rfl rfl (limLe_self _) ?_
  refine WO.mv rfl (WO.mv rfl ?_)
  obtain ⟨x3, e4, h⟩ := bindS h
  refine WO.ixS rfl rfl hot0.slv (at?_lt e4) rfl ?_
  refine WO.ldF rfl hot0z (fun _ hi => hi.1) (at?_get e4) rfl rfl (limLe_self _) ?_
  obtain ⟨u5, e6, h⟩ := bindS h
  refine WO.ixS rfl rfl hot0.slv (ck_some e6) rfl ?_
  refine WO.stI (u' := x1) rfl rfl hot0 (ck_nat e6) rfl rfl (fun S7 c8 hot0 => ?_)
  obtain ⟨u9, e10, h⟩ := bindS h
  refine WO.ixS rfl rfl hot0.slv (ck_some e10) rfl ?_
  refine WO.stI (u' := x3) rfl rfl hot0 (ck_nat e10) rfl rfl (fun S11 c12 hot0 => ?_)
  refine WO.nil (thenL_n (WC.seq (WC.region (WO.mv rfl ?_))))
  refine WO.bin rfl rfl (by decide) (by decide) rfl ?_
  refine WO.mv rfl ?_
  refine WO.bin rfl rfl (by decide) (by decide) rfl ?_
  refine WO.asg rfl (WO.asg rfl (WO.nil (thenL_n (WC.seq (WC.block ?_)))))
  obtain ⟨b77, e78, h⟩ := bindS h
  refine WC.loopD e78 (fun s13 l' m' n' => ∃ S14 : Cx fl, S14.m = m' ∧ S14.n = n' ∧ Cov l' [(0, .sc vt0), (1, .sc (.int .i64 t1)), (9, .sc (.int .i64 s13.1)), (10, .sc (.int .i64 s13.2.1))] ∧ Iw Y3 S14 2 n bw m vt0 s13.2.2) (fun b e l' m' n' => e = .exit 0 ∧ ∃ S15 : Cx fl, S15.m = m' ∧ S15.n = n' ∧ Cov l' [(0, .sc vt0), (9, .sc (.int .i64 b.1))] ∧ Iw Y3 S15 2 n bw m vt0 b.2) (by exact ⟨S11, rfl, rfl, (Cov.cons rfl (Cov.cons rfl (Cov.cons rfl (Cov.cons rfl (Cov.nil _))))), hot0⟩) ?_ ?_
  · clear h
    rintro s13 q _ _ _ ⟨S16, rfl, rfl, hc17, hot0⟩ h
    unfold F185_l2 at h
    refine WC.cov hc17 (WC.block (WC.seq (WC.block ?_)))
    obtain ⟨b37, e38, h⟩ := bindS h
    refine WC.loopD e38 (fun s18 l' m' n' => ∃ S19 : Cx fl, S19.m = m' ∧ S19.n = n' ∧ Cov l' [(0, .sc vt0), (1, .sc (.int .i64 t1)), (9, .sc (.int .i64 s18)), (10, .sc (.int .i64 s13.2.1))] ∧ Iw Y3 S19 2 n bw m vt0 s13.2.2) (fun b e l' m' n' => e = .exit 2 ∧ ∃ S20 : Cx fl, S20.m = m' ∧ S20.n = n' ∧ Cov l' [(0, .sc vt0), (1, .sc (.int .i64 t1)), (9, .sc (.int .i64 b)), (10, .sc (.int .i64 s13.2.1))] ∧ Iw Y3 S20 2 n bw m vt0 s13.2.2) (by exact ⟨S16, rfl, rfl, (Cov.cons rfl (Cov.cons rfl (Cov.cons rfl (Cov.cons rfl (Cov.nil _))))), hot0⟩) ?_ ?_
    · clear h
      rintro s18 q _ _ _ ⟨S21, rfl, rfl, hc22, hot0⟩ h
      unfold F185_l0 at h
      refine WC.cov hc22 (WC.seq (WC.seq ?_))
      refine WC.drawN rfl rfl ?_
      have hot0z := hot0.oz
      refine WO.mv rfl (WO.mv rfl ?_)
      refine WO.bin rfl rfl (by decide) (by decide) rfl ?_
      refine WO.mv rfl ?_
      obtain ⟨y32, e33, h⟩ := bindS h
      refine WO.cutS (d := 43) (S := S21) 11 y32 (fun q31 => ?_) (fun q31 => ?_) (fun S34 c35 => ?_)
      · have h := e33
        have h := iteT q31 h
        refine WO.gyes rfl rfl (WO.mv rfl (WO.gyes rfl rfl (WO.mv rfl (WO.gyes rfl rfl ?_))))
        obtain ⟨x23, e24, h⟩ := bindS h
        refine WO.ixS rfl rfl hot0.slv (at?_lt e24) rfl ?_
        refine WO.gyes rfl rfl ?_
        refine WO.ldF rfl hot0z (fun _ hi => hi.1) (at?_get e24) rfl rfl (limLe_self _) ?_
        refine WO.gyes rfl rfl (WO.mv rfl (WO.gyes rfl rfl (WO.mv rfl (WO.gyes rfl rfl ?_))))
        obtain ⟨x25, e26, h⟩ := bindS h
        refine WO.ixS rfl rfl hot0.slv (at?_lt e26) rfl ?_
        refine WO.gyes rfl rfl ?_
        refine WO.ldF rfl hot0z (fun _ hi => hi.1) (at?_get e26) rfl rfl (limLe_self _) ?_
        refine WO.gyes rfl rfl ?_
        obtain ⟨r27, e28, h⟩ := bindS h
        refine WO.callE (S := S21) rfl rfl (F151_ok e28) (fun S29 c30 => ?_)
        have hot0z := hot0z.tow c30
        have hot0 := hot0.to c30
        refine WO.gyes rfl rfl ?_
        refine WO.do rfl rfl ?_
        obtain rfl := someI h
        refine WO.pickT rfl rfl ?_
        refine WO.nil ?_
        exact ⟨S29, rfl, rfl, c30, (Cov.cons rfl (Cov.skip rfl (Cov.skip rfl (Cov.skip rfl (Cov.skip rfl (Cov.skip rfl (Cov.skip rfl (Cov.skip rfl (Cov.skip rfl (Cov.skip rfl (Cov.skip rfl (Cov.skip rfl (Cov.skip rfl (Cov.refl _))))))))))))))⟩
      · have h := e33
        have h := iteF q31 h
        obtain rfl := someI h
        refine WO.gno rfl rfl (WO.gno rfl rfl (WO.gno rfl rfl (WO.gno rfl rfl (WO.gno rfl rfl (WO.gno rfl rfl (WO.gno rfl rfl (WO.gno rfl rfl (WO.gno rfl rfl (WO.gno rfl rfl ?_)))))))))
        refine WO.pickF rfl rfl ?_
        refine WO.nil ?_
        exact ⟨S21, rfl, rfl, Ch.refl _ _, (Cov.cons rfl (Cov.skip rfl (Cov.skip rfl (Cov.skip rfl (Cov.skip rfl (Cov.skip rfl (Cov.skip rfl (Cov.skip rfl (Cov.skip rfl (Cov.skip rfl (Cov.skip rfl (Cov.skip rfl (Cov.skip rfl (Cov.refl _))))))))))))))⟩
      have hot0z := hot0z.tow c35
      have hot0 := hot0.to c35
      refine WO.nil (thenL_n ?_)
      refine WC.cond rfl (fun q36 => ?_) (fun q36 => ?_)
      · have h := iteT q36 h
        refine WC.skip (thenL_n (WC.block (WC.region (WO.mv rfl ?_))))
        refine WO.bin rfl rfl (by decide) (by decide) rfl ?_
        refine WO.asg rfl (WO.nil (blockL_n (thenL_n ?_)))
        obtain rfl := someI h
        exact ⟨_, rfl, ⟨S34, rfl, rfl, (Cov.cons rfl (Cov.cons rfl (Cov.cons rfl (Cov.cons rfl (Cov.nil _))))), hot0⟩⟩
      · have h := iteF q36 h
        refine WC.exit (thenL_e (thenL_e ?_))
        obtain rfl := someI h
        exact ⟨_, rfl, rfl, ⟨S34, rfl, rfl, (Cov.cons rfl (Cov.cons rfl (Cov.cons rfl (Cov.cons rfl (Cov.nil _))))), hot0⟩⟩
    rintro _ _ _ _ ⟨rfl, ⟨S39, rfl, rfl, hc40, hot0⟩⟩
    refine blockL_s (thenL_n (WC.cov hc40 (WC.seq (WC.block ?_))))
    obtain ⟨b60, e61, h⟩ := bindS h
    refine WC.loopD e61 (fun s41 l' m' n' => ∃ S42 : Cx fl, S42.m = m' ∧ S42.n = n' ∧ Cov l' [(0, .sc vt0), (1, .sc (.int .i64 t1)), (9, .sc (.int .i64 b37)), (10, .sc (.int .i64 s41))] ∧ Iw Y3 S42 2 n bw m vt0 s13.2.2) (fun b e l' m' n' => e = .exit 4 ∧ ∃ S43 : Cx fl, S43.m = m' ∧ S43.n = n' ∧ Cov l' [(0, .sc vt0), (1, .sc (.int .i64 t1)), (9, .sc (.int .i64 b37)), (10, .sc (.int .i64 b))] ∧ Iw Y3 S43 2 n bw m vt0 s13.2.2) (by exact ⟨S39, rfl, rfl, (Cov.cons rfl (Cov.cons rfl (Cov.cons rfl (Cov.cons rfl (Cov.nil _))))), hot0⟩) ?_ ?_
    · clear h
      rintro s41 q _ _ _ ⟨S44, rfl, rfl, hc45, hot0⟩ h
      unfold F185_l1 at h
      refine WC.cov hc45 (WC.seq (WC.seq ?_))
      refine WC.drawN rfl rfl ?_
      have hot0z := hot0.oz
      refine WO.mv rfl (WO.mv rfl ?_)
      refine WO.bin rfl rfl (by decide) (by decide) rfl ?_
      refine WO.mv rfl ?_
      obtain ⟨y55, e56, h⟩ := bindS h
      refine WO.cutS (d := 59) (S := S44) 10 y55 (fun q54 => ?_) (fun q54 => ?_) (fun S57 c58 => ?_)
      · have h := e56
        have h := iteT q54 h
        refine WO.gyes rfl rfl (WO.mv rfl (WO.gyes rfl rfl (WO.mv rfl (WO.gyes rfl rfl ?_))))
        obtain ⟨x46, e47, h⟩ := bindS h
        refine WO.ixS rfl rfl hot0.slv (at?_lt e47) rfl ?_
        refine WO.gyes rfl rfl ?_
        refine WO.ldF rfl hot0z (fun _ hi => hi.1) (at?_get e47) rfl rfl (limLe_self _) ?_
        refine WO.gyes rfl rfl (WO.mv rfl (WO.gyes rfl rfl (WO.mv rfl (WO.gyes rfl rfl ?_))))
        obtain ⟨x48, e49, h⟩ := bindS h
        refine WO.ixS rfl rfl hot0.slv (at?_lt e49) rfl ?_
        refine WO.gyes rfl rfl ?_
        refine WO.ldF rfl hot0z (fun _ hi => hi.1) (at?_get e49) rfl rfl (limLe_self _) ?_
        refine WO.gyes rfl rfl ?_
        obtain ⟨r50, e51, h⟩ := bindS h
        refine WO.callE (S := S44) rfl rfl (F151_ok e51) (fun S52 c53 => ?_)
        have hot0z := hot0z.tow c53
        have hot0 := hot0.to c53
        obtain rfl := someI h
        refine WO.pickT rfl rfl ?_
        refine WO.nil ?_
        exact ⟨S52, rfl, rfl, c53, (Cov.cons rfl (Cov.skip rfl (Cov.skip rfl (Cov.skip rfl (Cov.skip rfl (Cov.skip rfl (Cov.skip rfl (Cov.skip rfl (Cov.skip rfl (Cov.skip rfl (Cov.skip rfl (Cov.skip rfl (Cov.refl _)))))))))))))⟩
      · have h := e56
        have h := iteF q54 h
        obtain rfl := someI h
        refine WO.gno rfl rfl (WO.gno rfl rfl (WO.gno rfl rfl (WO.gno rfl rfl (WO.gno rfl rfl (WO.gno rfl rfl (WO.gno rfl rfl (WO.gno rfl rfl (WO.gno rfl rfl ?_))))))))
        refine WO.pickF rfl rfl ?_
        refine WO.nil ?_
        exact ⟨S44, rfl, rfl, Ch.refl _ _, (Cov.cons rfl (Cov.skip rfl (Cov.skip rfl (Cov.skip rfl (Cov.skip rfl (Cov.skip rfl (Cov.skip rfl (Cov.skip rfl (Cov.skip rfl (Cov.skip rfl (Cov.skip rfl (Cov.skip rfl (Cov.refl _)))))))))))))⟩
      have hot0z := hot0z.tow c58
      have hot0 := hot0.to c58
      refine WO.nil (thenL_n ?_)
      refine WC.cond rfl (fun q59 => ?_) (fun q59 => ?_)
      · have h := iteT q59 h
        refine WC.skip (thenL_n (WC.block (WC.region (WO.mv rfl ?_))))
        refine WO.bin rfl rfl (by decide) (by decide) rfl ?_
        refine WO.asg rfl (WO.nil (blockL_n (thenL_n ?_)))
        obtain rfl := someI h
        exact ⟨_, rfl, ⟨S57, rfl, rfl, (Cov.cons rfl (Cov.cons rfl (Cov.cons rfl (Cov.cons rfl (Cov.nil _))))), hot0⟩⟩
      · have h := iteF q59 h
        refine WC.exit (thenL_e (thenL_e ?_))
        obtain rfl := someI h
        exact ⟨_, rfl, rfl, ⟨S57, rfl, rfl, (Cov.cons rfl (Cov.cons rfl (Cov.cons rfl (Cov.cons rfl (Cov.nil _))))), hot0⟩⟩
    rintro _ _ _ _ ⟨rfl, ⟨S62, rfl, rfl, hc63, hot0⟩⟩
    refine blockL_s (thenL_n (WC.cov hc63 (WC.seq (WC.seq (WC.region (WO.mv rfl (WO.mv rfl ?_)))))))
    refine WO.bin rfl rfl (by decide) (by decide) rfl ?_
    refine WO.nil (thenL_n ?_)
    refine WC.cond rfl (fun q64 => ?_) (fun q64 => ?_)
    · have h := iteT q64 h
      refine WC.exit (thenL_e (blockL_e rfl (thenL_e ?_)))
      obtain rfl := someI h
      exact ⟨_, rfl, rfl, ⟨S62, rfl, rfl, (Cov.cons rfl (Cov.cons rfl (Cov.nil _))), hot0⟩⟩
    · have h := iteF q64 h
      refine WC.skip (thenL_n (WC.seq ?_))
      refine WC.drawN rfl rfl ?_
      have hot0z := hot0.oz
      refine WO.mv rfl (WO.mv rfl (WO.mv rfl (WO.mv rfl (WO.mv rfl (WO.mv rfl ?_)))))
      obtain ⟨x65, e66, h⟩ := bindS h
      refine WO.ixS rfl rfl hot0.slv (at?_lt e66) rfl ?_
      refine WO.ldF rfl hot0z (fun _ hi => hi.1) (at?_get e66) rfl rfl (limLe_self _) ?_
      refine WO.mv rfl (WO.mv rfl ?_)
      obtain ⟨x67, e68, h⟩ := bindS h
      refine WO.ixS rfl rfl hot0.slv (at?_lt e68) rfl ?_
      refine WO.ldF rfl hot0z (fun _ hi => hi.1) (at?_get e68) rfl rfl (limLe_self _) ?_
      obtain ⟨u69, e70, h⟩ := bindS h
      refine WO.ixS rfl rfl hot0.slv (ck_some e70) rfl ?_
      refine WO.stI (u' := x65) rfl rfl hot0 (ck_nat e70) rfl rfl (fun S71 c72 hot0 => ?_)
      obtain ⟨u73, e74, h⟩ := bindS h
      refine WO.ixS rfl rfl hot0.slv (ck_some e74) rfl ?_
      refine WO.stI (u' := x67) rfl rfl hot0 (ck_nat e74) rfl rfl (fun S75 c76 hot0 => ?_)
      refine WO.nil (thenL_n (WC.seq (WC.region (WO.mv rfl ?_))))
      refine WO.bin rfl rfl (by decide) (by decide) rfl ?_
      refine WO.asg rfl (WO.nil (thenL_n (WC.region (WO.mv rfl ?_))))
      refine WO.bin rfl rfl (by decide) (by decide) rfl ?_
      refine WO.asg rfl (WO.nil (blockL_n (thenL_n ?_)))
      obtain rfl := someI h
      exact ⟨_, rfl, ⟨S75, rfl, rfl, (Cov.cons rfl (Cov.cons rfl (Cov.cons rfl (Cov.cons rfl (Cov.nil _))))), hot0⟩⟩
  rintro _ _ _ _ ⟨rfl, ⟨S79, rfl, rfl, hc80, hot0⟩⟩
  refine blockL_s (thenL_n (WC.cov hc80 (WC.seq (WC.region (WO.mv rfl (WO.asg rfl (WO.nil (thenL_n (WC.ret ?_)))))))))
  obtain rfl := someI h
  exact ⟨.inr rfl, _, _, rfl, rfl, ⟨rfl, hot0.ip Lay.flat_fl⟩⟩
end Go.Proofs.Ytihmliblbhjlaaa

namespace Go.Proofs.Ytihmliblbhjlaaa
open Go.Am
theorem F186.fn : E.fn 186 = some ⟨168, (Try.f186.body.getD .skip), Try.f186.results.toList, []⟩ := rfl
theorem F186_ok {F : Nat} {m : Mem} {n : Nat} {r : Int × Bool × (List Int)} {t0 : List Int} {t1 : Int} {t2 : Int} {t3 : Int} {vt0 : SV} {fl : Nat} {bw : Nat} (h : F186 F t0 t1 t2 t3 = some r) (hfl : fl ≤ n) (kt0 : Iv Y3 fl n bw m vt0 t0) : Ret E fl 186 [.sc vt0, .sc (.int .i64 t1), .sc (.int .i64 t2), .sc (.int .i64 t3)] m n (fun v m' n' => v = .tup [.sc (.int .i64 r.1), .sc (.bool r.2.1)] ∧ Ip Y3 n bw m m' vt0 r.2.2) := by
  unfold F186 at h
  refine Ret.walk F186.fn ?_
  refine WC.startI (b := bw) hfl fun S0 em en hz hbw => ?_
  have hot0 := kt0.iw em en hz hbw
  refine WC.seq (WC.region (WO.asg rfl (WO.asg rfl (WO.nil (thenL_n (WC.seq ?_))))))
  refine WC.drawN rfl rfl ?_
  have hot0z := hot0.oz
  refine WO.mv rfl (WO.mv rfl (WO.mv rfl (WO.mv rfl (WO.mv rfl (WO.mv rfl ?_)))))
  obtain ⟨x1, e2, h⟩ := bindS h
  refine WO.ixS rfl rfl hot0.slv (at?_lt e2) rfl ?_
  refine WO.ldF rfl hot0z (fun _ hi => hi.1) (at?_get e2) rfl rfl (limLe_self _) ?_
  refine WO.mv rfl (WO.mv rfl ?_)
  obtain ⟨x3, e4, h⟩ := bindS h
  refine WO.ixS rfl rfl hot0.slv (at?_lt e4) rfl ?_
  refine WO.ldF rfl hot0z (fun _ hi => hi.1) (at?_get e4) rfl rfl (limLe_self _) ?_
  obtain ⟨u5, e6, h⟩ := bindS h
  refine WO.ixS rfl rfl hot0.slv (ck_some e6) rfl ?_
  refine WO.stI (u' := x1) rfl rfl hot0 (ck_nat e6) rfl rfl (fun S7 c8 hot0 => ?_)
  obtain ⟨u9, e10, h⟩ := bindS h
  refine WO.ixS rfl rfl hot0.slv (ck_some e10) rfl ?_
  refine WO.stI (u' := x3) rfl rfl hot0 (ck_nat e10) rfl rfl (fun S11 c12 hot0 => ?_)
  refine WO.nil (thenL_n (WC.seq (WC.region (WO.mv rfl ?_))))
  refine WO.bin rfl rfl (by decide) (by decide) rfl ?_
  refine WO.mv rfl ?_
  refine WO.bin rfl rfl (by decide) (by decide) rfl ?_
  refine WO.asg rfl (WO.asg rfl (WO.nil (thenL_n (WC.seq (WC.block ?_)))))
  obtain ⟨b32, e33, h⟩ := bindS h
  refine WC.loopD e33 (fun s13 l' m' n' => ∃ S14 : Cx fl, S14.m = m' ∧ S14.n = n' ∧ Cov l' [(0, .sc vt0), (1, .sc (.int .i64 t1)), (10, .sc (.int .i64 s13)), (11, .sc (.int .i64 ((wrapA .i64 (t2 - 1)))))] ∧ Iw Y3 S14 2 n bw m vt0 ((((t0.set ((Int.toNat t1)) x1)).set ((Int.toNat t3)) x3))) (fun b e l' m' n' => e = .exit 0 ∧ ∃ S15 : Cx fl, S15.m = m' ∧ S15.n = n' ∧ Cov l' [(0, .sc vt0), (1, .sc (.int .i64 t1)), (10, .sc (.int .i64 b)), (11, .sc (.int .i64 ((wrapA .i64 (t2 - 1)))))] ∧ Iw Y3 S15 2 n bw m vt0 ((((t0.set ((Int.toNat t1)) x1)).set ((Int.toNat t3)) x3))) (by exact ⟨S11, rfl, rfl, (Cov.cons rfl (Cov.cons rfl (Cov.cons rfl (Cov.cons rfl (Cov.nil _))))), hot0⟩) ?_ ?_
  · clear h
    rintro s13 q _ _ _ ⟨S16, rfl, rfl, hc17, hot0⟩ h
    unfold F186_l0 at h
    refine WC.cov hc17 (WC.seq (WC.seq ?_))
    refine WC.drawN rfl rfl ?_
    have hot0z := hot0.oz
    refine WO.mv rfl (WO.mv rfl ?_)
    refine WO.bin rfl rfl (by decide) (by decide) rfl ?_
    refine WO.mv rfl ?_
    obtain ⟨y27, e28, h⟩ := bindS h
    refine WO.cutS (d := 43) (S := S16) 10 y27 (fun q26 => ?_) (fun q26 => ?_) (fun S29 c30 => ?_)
    · have h := e28
      have h := iteT q26 h
      refine WO.gyes rfl rfl (WO.mv rfl (WO.gyes rfl rfl (WO.mv rfl (WO.gyes rfl rfl ?_))))
      obtain ⟨x18, e19, h⟩ := bindS h
      refine WO.ixS rfl rfl hot0.slv (at?_lt e19) rfl ?_
      refine WO.gyes rfl rfl ?_
      refine WO.ldF rfl hot0z (fun _ hi => hi.1) (at?_get e19) rfl rfl (limLe_self _) ?_
      refine WO.gyes rfl rfl (WO.mv rfl (WO.gyes rfl rfl (WO.mv rfl (WO.gyes rfl rfl ?_))))
      obtain ⟨x20, e21, h⟩ := bindS h
      refine WO.ixS rfl rfl hot0.slv (at?_lt e21) rfl ?_
      refine WO.gyes rfl rfl ?_
      refine WO.ldF rfl hot0z (fun _ hi => hi.1) (at?_get e21) rfl rfl (limLe_self _) ?_
      refine WO.gyes rfl rfl ?_
      obtain ⟨r22, e23, h⟩ := bindS h
      refine WO.callE (S := S16) rfl rfl (F151_ok e23) (fun S24 c25 => ?_)
      have hot0z := hot0z.tow c25
      have hot0 := hot0.to c25
      obtain rfl := someI h
      refine WO.pickT rfl rfl ?_
      refine WO.nil ?_
      exact ⟨S24, rfl, rfl, c25, (Cov.cons rfl (Cov.skip rfl (Cov.skip rfl (Cov.skip rfl (Cov.skip rfl (Cov.skip rfl (Cov.skip rfl (Cov.skip rfl (Cov.skip rfl (Cov.skip rfl (Cov.skip rfl (Cov.skip rfl (Cov.refl _)))))))))))))⟩
    · have h := e28
      have h := iteF q26 h
      obtain rfl := someI h
      refine WO.gno rfl rfl (WO.gno rfl rfl (WO.gno rfl rfl (WO.gno rfl rfl (WO.gno rfl rfl (WO.gno rfl rfl (WO.gno rfl rfl (WO.gno rfl rfl (WO.gno rfl rfl ?_))))))))
      refine WO.pickF rfl rfl ?_
      refine WO.nil ?_
      exact ⟨S16, rfl, rfl, Ch.refl _ _, (Cov.cons rfl (Cov.skip rfl (Cov.skip rfl (Cov.skip rfl (Cov.skip rfl (Cov.skip rfl (Cov.skip rfl (Cov.skip rfl (Cov.skip rfl (Cov.skip rfl (Cov.skip rfl (Cov.skip rfl (Cov.refl _)))))))))))))⟩
    have hot0z := hot0z.tow c30
    have hot0 := hot0.to c30
    refine WO.nil (thenL_n ?_)
    refine WC.cond rfl (fun q31 => ?_) (fun q31 => ?_)
    · have h := iteT q31 h
      refine WC.skip (thenL_n (WC.block (WC.region (WO.mv rfl ?_))))
      refine WO.bin rfl rfl (by decide) (by decide) rfl ?_
      refine WO.asg rfl (WO.nil (blockL_n (thenL_n ?_)))
      obtain rfl := someI h
      exact ⟨_, rfl, ⟨S29, rfl, rfl, (Cov.cons rfl (Cov.cons rfl (Cov.cons rfl (Cov.cons rfl (Cov.nil _))))), hot0⟩⟩
    · have h := iteF q31 h
      refine WC.exit (thenL_e (thenL_e ?_))
      obtain rfl := someI h
      exact ⟨_, rfl, rfl, ⟨S29, rfl, rfl, (Cov.cons rfl (Cov.cons rfl (Cov.cons rfl (Cov.cons rfl (Cov.nil _))))), hot0⟩⟩
  rintro _ _ _ _ ⟨rfl, ⟨S34, rfl, rfl, hc35, hot0⟩⟩
  refine blockL_s (thenL_n (WC.cov hc35 (WC.seq (WC.block ?_))))
  obtain ⟨b55, e56, h⟩ := bindS h
  refine WC.loopD e56 (fun s36 l' m' n' => ∃ S37 : Cx fl, S37.m = m' ∧ S37.n = n' ∧ Cov l' [(0, .sc vt0), (1, .sc (.int .i64 t1)), (10, .sc (.int .i64 b32)), (11, .sc (.int .i64 s36))] ∧ Iw Y3 S37 2 n bw m vt0 ((((t0.set ((Int.toNat t1)) x1)).set ((Int.toNat t3)) x3))) (fun b e l' m' n' => e = .exit 2 ∧ ∃ S38 : Cx fl, S38.m = m' ∧ S38.n = n' ∧ Cov l' [(0, .sc vt0), (1, .sc (.int .i64 t1)), (10, .sc (.int .i64 b32)), (11, .sc (.int .i64 b))] ∧ Iw Y3 S38 2 n bw m vt0 ((((t0.set ((Int.toNat t1)) x1)).set ((Int.toNat t3)) x3))) (by exact ⟨S34, rfl, rfl, (Cov.cons rfl (Cov.cons rfl (Cov.cons rfl (Cov.cons rfl (Cov.nil _))))), hot0⟩) ?_ ?_
  · clear h
    rintro s36 q _ _ _ ⟨S39, rfl, rfl, hc40, hot0⟩ h
    unfold F186_l1 at h
    refine WC.cov hc40 (WC.seq (WC.seq ?_))
    refine WC.drawN rfl rfl ?_
    have hot0z := hot0.oz
    refine WO.mv rfl (WO.mv rfl ?_)
    refine WO.bin rfl rfl (by decide) (by decide) rfl ?_
    refine WO.mv rfl ?_
    obtain ⟨y50, e51, h⟩ := bindS h
    refine WO.cutS (d := 60) (S := S39) 11 y50 (fun q49 => ?_) (fun q49 => ?_) (fun S52 c53 => ?_)
    · have h := e51
      have h := iteT q49 h
      refine WO.gyes rfl rfl (WO.mv rfl (WO.gyes rfl rfl (WO.mv rfl (WO.gyes rfl rfl ?_))))
      obtain ⟨x41, e42, h⟩ := bindS h
      refine WO.ixS rfl rfl hot0.slv (at?_lt e42) rfl ?_
      refine WO.gyes rfl rfl ?_
      refine WO.ldF rfl hot0z (fun _ hi => hi.1) (at?_get e42) rfl rfl (limLe_self _) ?_
      refine WO.gyes rfl rfl (WO.mv rfl (WO.gyes rfl rfl (WO.mv rfl (WO.gyes rfl rfl ?_))))
      obtain ⟨x43, e44, h⟩ := bindS h
      refine WO.ixS rfl rfl hot0.slv (at?_lt e44) rfl ?_
      refine WO.gyes rfl rfl ?_
      refine WO.ldF rfl hot0z (fun _ hi => hi.1) (at?_get e44) rfl rfl (limLe_self _) ?_
      refine WO.gyes rfl rfl ?_
      obtain ⟨r45, e46, h⟩ := bindS h
      refine WO.callE (S := S39) rfl rfl (F151_ok e46) (fun S47 c48 => ?_)
      have hot0z := hot0z.tow c48
      have hot0 := hot0.to c48
      refine WO.gyes rfl rfl ?_
      refine WO.do rfl rfl ?_
      obtain rfl := someI h
      refine WO.pickT rfl rfl ?_
      refine WO.nil ?_
      exact ⟨S47, rfl, rfl, c48, (Cov.cons rfl (Cov.skip rfl (Cov.skip rfl (Cov.skip rfl (Cov.skip rfl (Cov.skip rfl (Cov.skip rfl (Cov.skip rfl (Cov.skip rfl (Cov.skip rfl (Cov.skip rfl (Cov.skip rfl (Cov.skip rfl (Cov.refl _))))))))))))))⟩
    · have h := e51
      have h := iteF q49 h
      obtain rfl := someI h
      refine WO.gno rfl rfl (WO.gno rfl rfl (WO.gno rfl rfl (WO.gno rfl rfl (WO.gno rfl rfl (WO.gno rfl rfl (WO.gno rfl rfl (WO.gno rfl rfl (WO.gno rfl rfl (WO.gno rfl rfl ?_)))))))))
      refine WO.pickF rfl rfl ?_
      refine WO.nil ?_
      exact ⟨S39, rfl, rfl, Ch.refl _ _, (Cov.cons rfl (Cov.skip rfl (Cov.skip rfl (Cov.skip rfl (Cov.skip rfl (Cov.skip rfl (Cov.skip rfl (Cov.skip rfl (Cov.skip rfl (Cov.skip rfl (Cov.skip rfl (Cov.skip rfl (Cov.skip rfl (Cov.refl _))))))))))))))⟩
    have hot0z := hot0z.tow c53
    have hot0 := hot0.to c53
    refine WO.nil (thenL_n ?_)
    refine WC.cond rfl (fun q54 => ?_) (fun q54 => ?_)
    · have h := iteT q54 h
      refine WC.skip (thenL_n (WC.block (WC.region (WO.mv rfl ?_))))
      refine WO.bin rfl rfl (by decide) (by decide) rfl ?_
      refine WO.asg rfl (WO.nil (blockL_n (thenL_n ?_)))
      obtain rfl := someI h
      exact ⟨_, rfl, ⟨S52, rfl, rfl, (Cov.cons rfl (Cov.cons rfl (Cov.cons rfl (Cov.cons rfl (Cov.nil _))))), hot0⟩⟩
    · have h := iteF q54 h
      refine WC.exit (thenL_e (thenL_e ?_))
      obtain rfl := someI h
      exact ⟨_, rfl, rfl, ⟨S52, rfl, rfl, (Cov.cons rfl (Cov.cons rfl (Cov.cons rfl (Cov.cons rfl (Cov.nil _))))), hot0⟩⟩
  rintro _ _ _ _ ⟨rfl, ⟨S57, rfl, rfl, hc58, hot0⟩⟩
  refine blockL_s (thenL_n (WC.cov hc58 (WC.seq (WC.seq (WC.region (WO.mv rfl (WO.mv rfl ?_)))))))
  refine WO.bin rfl rfl (by decide) (by decide) rfl ?_
  refine WO.nil (thenL_n ?_)
  refine WC.cond rfl (fun q59 => ?_) (fun q59 => ?_)
  · have h := iteT q59 h
    refine WC.seq ?_
    refine WC.drawN rfl rfl ?_
    have hot0z := hot0.oz
    refine WO.mv rfl (WO.mv rfl (WO.mv rfl (WO.mv rfl (WO.mv rfl (WO.mv rfl ?_)))))
    obtain ⟨x60, e61, h⟩ := bindS h
    refine WO.ixS rfl rfl hot0.slv (at?_lt e61) rfl ?_
    refine WO.ldF rfl hot0z (fun _ hi => hi.1) (at?_get e61) rfl rfl (limLe_self _) ?_
    refine WO.mv rfl (WO.mv rfl ?_)
    obtain ⟨x62, e63, h⟩ := bindS h
    refine WO.ixS rfl rfl hot0.slv (at?_lt e63) rfl ?_
    refine WO.ldF rfl hot0z (fun _ hi => hi.1) (at?_get e63) rfl rfl (limLe_self _) ?_
    obtain ⟨u64, e65, h⟩ := bindS h
    refine WO.ixS rfl rfl hot0.slv (ck_some e65) rfl ?_
    refine WO.stI (u' := x60) rfl rfl hot0 (ck_nat e65) rfl rfl (fun S66 c67 hot0 => ?_)
    obtain ⟨u68, e69, h⟩ := bindS h
    refine WO.ixS rfl rfl hot0.slv (ck_some e69) rfl ?_
    refine WO.stI (u' := x62) rfl rfl hot0 (ck_nat e69) rfl rfl (fun S70 c71 hot0 => ?_)
    refine WO.nil (thenL_n (WC.seq (WC.region (WO.mv rfl (WO.asg rfl (WO.asg rfl (WO.nil (thenL_n (WC.ret ?_)))))))))
    refine thenL_r ?_
    obtain rfl := someI h
    exact ⟨.inr rfl, _, _, rfl, rfl, ⟨rfl, hot0.ip Lay.flat_fl⟩⟩
  · have h := iteF q59 h
    refine WC.skip (thenL_n (WC.seq ?_))
    refine WC.drawN rfl rfl ?_
    have hot0z := hot0.oz
    refine WO.mv rfl (WO.mv rfl (WO.mv rfl (WO.mv rfl (WO.mv rfl (WO.mv rfl ?_)))))
    obtain ⟨x72, e73, h⟩ := bindS h
    refine WO.ixS rfl rfl hot0.slv (at?_lt e73) rfl ?_
    refine WO.ldF rfl hot0z (fun _ hi => hi.1) (at?_get e73) rfl rfl (limLe_self _) ?_
    refine WO.mv rfl (WO.mv rfl ?_)
    obtain ⟨x74, e75, h⟩ := bindS h
    refine WO.ixS rfl rfl hot0.slv (at?_lt e75) rfl ?_
    refine WO.ldF rfl hot0z (fun _ hi => hi.1) (at?_get e75) rfl rfl (limLe_self _) ?_
    obtain ⟨u76, e77, h⟩ := bindS h
    refine WO.ixS rfl rfl hot0.slv (ck_some e77) rfl ?_
    refine WO.stI (u' := x72) rfl rfl hot0 (ck_nat e77) rfl rfl (fun S78 c79 hot0 => ?_)
    obtain ⟨u80, e81, h⟩ := bindS h
    refine WO.ixS rfl rfl hot0.slv (ck_some e81) rfl ?_
    refine WO.stI (u' := x74) rfl rfl hot0 (ck_nat e81) rfl rfl (fun S82 c83 hot0 => ?_)
    refine WO.nil (thenL_n (WC.seq (WC.region (WO.mv rfl ?_))))
    refine WO.bin rfl rfl (by decide) (by decide) rfl ?_
    refine WO.asg rfl (WO.nil (thenL_n (WC.seq (WC.region (WO.mv rfl ?_)))))
    refine WO.bin rfl rfl (by decide) (by decide) rfl ?_
    refine WO.asg rfl (WO.nil (thenL_n (WC.seq (WC.block ?_))))
    obtain ⟨b148, e149, h⟩ := bindS h
    refine WC.loopD e149 (fun s84 l' m' n' => ∃ S85 : Cx fl, S85.m = m' ∧ S85.n = n' ∧ Cov l' [(0, .sc vt0), (1, .sc (.int .i64 t1)), (10, .sc (.int .i64 s84.1)), (11, .sc (.int .i64 s84.2.1))] ∧ Iw Y3 S85 2 n bw m vt0 s84.2.2) (fun b e l' m' n' => e = .exit 4 ∧ ∃ S86 : Cx fl, S86.m = m' ∧ S86.n = n' ∧ Cov l' [(0, .sc vt0), (1, .sc (.int .i64 t1)), (11, .sc (.int .i64 b.1))] ∧ Iw Y3 S86 2 n bw m vt0 b.2) (by exact ⟨S82, rfl, rfl, (Cov.cons rfl (Cov.cons rfl (Cov.cons rfl (Cov.cons rfl (Cov.nil _))))), hot0⟩) ?_ ?_
    · clear h
      rintro s84 q _ _ _ ⟨S87, rfl, rfl, hc88, hot0⟩ h
      unfold F186_l4 at h
      refine WC.cov hc88 (WC.block (WC.seq (WC.block ?_)))
      obtain ⟨b108, e109, h⟩ := bindS h
      refine WC.loopD e109 (fun s89 l' m' n' => ∃ S90 : Cx fl, S90.m = m' ∧ S90.n = n' ∧ Cov l' [(0, .sc vt0), (1, .sc (.int .i64 t1)), (10, .sc (.int .i64 s89)), (11, .sc (.int .i64 s84.2.1))] ∧ Iw Y3 S90 2 n bw m vt0 s84.2.2) (fun b e l' m' n' => e = .exit 6 ∧ ∃ S91 : Cx fl, S91.m = m' ∧ S91.n = n' ∧ Cov l' [(0, .sc vt0), (1, .sc (.int .i64 t1)), (10, .sc (.int .i64 b)), (11, .sc (.int .i64 s84.2.1))] ∧ Iw Y3 S91 2 n bw m vt0 s84.2.2) (by exact ⟨S87, rfl, rfl, (Cov.cons rfl (Cov.cons rfl (Cov.cons rfl (Cov.cons rfl (Cov.nil _))))), hot0⟩) ?_ ?_
      · clear h
        rintro s89 q _ _ _ ⟨S92, rfl, rfl, hc93, hot0⟩ h
        unfold F186_l2 at h
        refine WC.cov hc93 (WC.seq (WC.seq ?_))
        refine WC.drawN rfl rfl ?_
        have hot0z := hot0.oz
        refine WO.mv rfl (WO.mv rfl ?_)
        refine WO.bin rfl rfl (by decide) (by decide) rfl ?_
        refine WO.mv rfl ?_
        obtain ⟨y103, e104, h⟩ := bindS h
        refine WO.cutS (d := 112) (S := S92) 10 y103 (fun q102 => ?_) (fun q102 => ?_) (fun S105 c106 => ?_)
        · have h := e104
          have h := iteT q102 h
          refine WO.gyes rfl rfl (WO.mv rfl (WO.gyes rfl rfl (WO.mv rfl (WO.gyes rfl rfl ?_))))
          obtain ⟨x94, e95, h⟩ := bindS h
          refine WO.ixS rfl rfl hot0.slv (at?_lt e95) rfl ?_
          refine WO.gyes rfl rfl ?_
          refine WO.ldF rfl hot0z (fun _ hi => hi.1) (at?_get e95) rfl rfl (limLe_self _) ?_
          refine WO.gyes rfl rfl (WO.mv rfl (WO.gyes rfl rfl (WO.mv rfl (WO.gyes rfl rfl ?_))))
          obtain ⟨x96, e97, h⟩ := bindS h
          refine WO.ixS rfl rfl hot0.slv (at?_lt e97) rfl ?_
          refine WO.gyes rfl rfl ?_
          refine WO.ldF rfl hot0z (fun _ hi => hi.1) (at?_get e97) rfl rfl (limLe_self _) ?_
          refine WO.gyes rfl rfl ?_
          obtain ⟨r98, e99, h⟩ := bindS h
          refine WO.callE (S := S92) rfl rfl (F151_ok e99) (fun S100 c101 => ?_)
          have hot0z := hot0z.tow c101
          have hot0 := hot0.to c101
          obtain rfl := someI h
          refine WO.pickT rfl rfl ?_
          refine WO.nil ?_
          exact ⟨S100, rfl, rfl, c101, (Cov.cons rfl (Cov.skip rfl (Cov.skip rfl (Cov.skip rfl (Cov.skip rfl (Cov.skip rfl (Cov.skip rfl (Cov.skip rfl (Cov.skip rfl (Cov.skip rfl (Cov.skip rfl (Cov.skip rfl (Cov.refl _)))))))))))))⟩
        · have h := e104
          have h := iteF q102 h
          obtain rfl := someI h
          refine WO.gno rfl rfl (WO.gno rfl rfl (WO.gno rfl rfl (WO.gno rfl rfl (WO.gno rfl rfl (WO.gno rfl rfl (WO.gno rfl rfl (WO.gno rfl rfl (WO.gno rfl rfl ?_))))))))
          refine WO.pickF rfl rfl ?_
          refine WO.nil ?_
          exact ⟨S92, rfl, rfl, Ch.refl _ _, (Cov.cons rfl (Cov.skip rfl (Cov.skip rfl (Cov.skip rfl (Cov.skip rfl (Cov.skip rfl (Cov.skip rfl (Cov.skip rfl (Cov.skip rfl (Cov.skip rfl (Cov.skip rfl (Cov.skip rfl (Cov.refl _)))))))))))))⟩
        have hot0z := hot0z.tow c106
        have hot0 := hot0.to c106
        refine WO.nil (thenL_n ?_)
        refine WC.cond rfl (fun q107 => ?_) (fun q107 => ?_)
        · have h := iteT q107 h
          refine WC.skip (thenL_n (WC.block (WC.region (WO.mv rfl ?_))))
          refine WO.bin rfl rfl (by decide) (by decide) rfl ?_
          refine WO.asg rfl (WO.nil (blockL_n (thenL_n ?_)))
          obtain rfl := someI h
          exact ⟨_, rfl, ⟨S105, rfl, rfl, (Cov.cons rfl (Cov.cons rfl (Cov.cons rfl (Cov.cons rfl (Cov.nil _))))), hot0⟩⟩
        · have h := iteF q107 h
          refine WC.exit (thenL_e (thenL_e ?_))
          obtain rfl := someI h
          exact ⟨_, rfl, rfl, ⟨S105, rfl, rfl, (Cov.cons rfl (Cov.cons rfl (Cov.cons rfl (Cov.cons rfl (Cov.nil _))))), hot0⟩⟩
      rintro _ _ _ _ ⟨rfl, ⟨S110, rfl, rfl, hc111, hot0⟩⟩
      refine blockL_s (thenL_n (WC.cov hc111 (WC.seq (WC.block ?_))))
      obtain ⟨b131, e132, h⟩ := bindS h
      refine WC.loopD e132 (fun s112 l' m' n' => ∃ S113 : Cx fl, S113.m = m' ∧ S113.n = n' ∧ Cov l' [(0, .sc vt0), (1, .sc (.int .i64 t1)), (10, .sc (.int .i64 b108)), (11, .sc (.int .i64 s112))] ∧ Iw Y3 S113 2 n bw m vt0 s84.2.2) (fun b e l' m' n' => e = .exit 8 ∧ ∃ S114 : Cx fl, S114.m = m' ∧ S114.n = n' ∧ Cov l' [(0, .sc vt0), (1, .sc (.int .i64 t1)), (10, .sc (.int .i64 b108)), (11, .sc (.int .i64 b))] ∧ Iw Y3 S114 2 n bw m vt0 s84.2.2) (by exact ⟨S110, rfl, rfl, (Cov.cons rfl (Cov.cons rfl (Cov.cons rfl (Cov.cons rfl (Cov.nil _))))), hot0⟩) ?_ ?_
      · clear h
        rintro s112 q _ _ _ ⟨S115, rfl, rfl, hc116, hot0⟩ h
        unfold F186_l3 at h
        refine WC.cov hc116 (WC.seq (WC.seq ?_))
        refine WC.drawN rfl rfl ?_
        have hot0z := hot0.oz
        refine WO.mv rfl (WO.mv rfl ?_)
        refine WO.bin rfl rfl (by decide) (by decide) rfl ?_
        refine WO.mv rfl ?_
        obtain ⟨y126, e127, h⟩ := bindS h
        refine WO.cutS (d := 129) (S := S115) 11 y126 (fun q125 => ?_) (fun q125 => ?_) (fun S128 c129 => ?_)
        · have h := e127
          have h := iteT q125 h
          refine WO.gyes rfl rfl (WO.mv rfl (WO.gyes rfl rfl (WO.mv rfl (WO.gyes rfl rfl ?_))))
          obtain ⟨x117, e118, h⟩ := bindS h
          refine WO.ixS rfl rfl hot0.slv (at?_lt e118) rfl ?_
          refine WO.gyes rfl rfl ?_
          refine WO.ldF rfl hot0z (fun _ hi => hi.1) (at?_get e118) rfl rfl (limLe_self _) ?_
          refine WO.gyes rfl rfl (WO.mv rfl (WO.gyes rfl rfl (WO.mv rfl (WO.gyes rfl rfl ?_))))
          obtain ⟨x119, e120, h⟩ := bindS h
          refine WO.ixS rfl rfl hot0.slv (at?_lt e120) rfl ?_
          refine WO.gyes rfl rfl ?_
          refine WO.ldF rfl hot0z (fun _ hi => hi.1) (at?_get e120) rfl rfl (limLe_self _) ?_
          refine WO.gyes rfl rfl ?_
          obtain ⟨r121, e122, h⟩ := bindS h
          refine WO.callE (S := S115) rfl rfl (F151_ok e122) (fun S123 c124 => ?_)
          have hot0z := hot0z.tow c124
          have hot0 := hot0.to c124
          refine WO.gyes rfl rfl ?_
          refine WO.do rfl rfl ?_
          obtain rfl := someI h
          refine WO.pickT rfl rfl ?_
          refine WO.nil ?_
          exact ⟨S123, rfl, rfl, c124, (Cov.cons rfl (Cov.skip rfl (Cov.skip rfl (Cov.skip rfl (Cov.skip rfl (Cov.skip rfl (Cov.skip rfl (Cov.skip rfl (Cov.skip rfl (Cov.skip rfl (Cov.skip rfl (Cov.skip rfl (Cov.skip rfl (Cov.refl _))))))))))))))⟩
        · have h := e127
          have h := iteF q125 h
          obtain rfl := someI h
          refine WO.gno rfl rfl (WO.gno rfl rfl (WO.gno rfl rfl (WO.gno rfl rfl (WO.gno rfl rfl (WO.gno rfl rfl (WO.gno rfl rfl (WO.gno rfl rfl (WO.gno rfl rfl (WO.gno rfl rfl ?_)))))))))
          refine WO.pickF rfl rfl ?_
          refine WO.nil ?_
          exact ⟨S115, rfl, rfl, Ch.refl _ _, (Cov.cons rfl (Cov.skip rfl (Cov.skip rfl (Cov.skip rfl (Cov.skip rfl (Cov.skip rfl (Cov.skip rfl (Cov.skip rfl (Cov.skip rfl (Cov.skip rfl (Cov.skip rfl (Cov.skip rfl (Cov.skip rfl (Cov.refl _))))))))))))))⟩
        have hot0z := hot0z.tow c129
        have hot0 := hot0.to c129
        refine WO.nil (thenL_n ?_)
        refine WC.cond rfl (fun q130 => ?_) (fun q130 => ?_)
        · have h := iteT q130 h
          refine WC.skip (thenL_n (WC.block (WC.region (WO.mv rfl ?_))))
          refine WO.bin rfl rfl (by decide) (by decide) rfl ?_
          refine WO.asg rfl (WO.nil (blockL_n (thenL_n ?_)))
          obtain rfl := someI h
          exact ⟨_, rfl, ⟨S128, rfl, rfl, (Cov.cons rfl (Cov.cons rfl (Cov.cons rfl (Cov.cons rfl (Cov.nil _))))), hot0⟩⟩
        · have h := iteF q130 h
          refine WC.exit (thenL_e (thenL_e ?_))
          obtain rfl := someI h
          exact ⟨_, rfl, rfl, ⟨S128, rfl, rfl, (Cov.cons rfl (Cov.cons rfl (Cov.cons rfl (Cov.cons rfl (Cov.nil _))))), hot0⟩⟩
      rintro _ _ _ _ ⟨rfl, ⟨S133, rfl, rfl, hc134, hot0⟩⟩
      refine blockL_s (thenL_n (WC.cov hc134 (WC.seq (WC.seq (WC.region (WO.mv rfl (WO.mv rfl ?_)))))))
      refine WO.bin rfl rfl (by decide) (by decide) rfl ?_
      refine WO.nil (thenL_n ?_)
      refine WC.cond rfl (fun q135 => ?_) (fun q135 => ?_)
      · have h := iteT q135 h
        refine WC.exit (thenL_e (blockL_e rfl (thenL_e ?_)))
        obtain rfl := someI h
        exact ⟨_, rfl, rfl, ⟨S133, rfl, rfl, (Cov.cons rfl (Cov.cons rfl (Cov.cons rfl (Cov.nil _)))), hot0⟩⟩
      · have h := iteF q135 h
        refine WC.skip (thenL_n (WC.seq ?_))
        refine WC.drawN rfl rfl ?_
        have hot0z := hot0.oz
        refine WO.mv rfl (WO.mv rfl (WO.mv rfl (WO.mv rfl (WO.mv rfl (WO.mv rfl ?_)))))
        obtain ⟨x136, e137, h⟩ := bindS h
        refine WO.ixS rfl rfl hot0.slv (at?_lt e137) rfl ?_
        refine WO.ldF rfl hot0z (fun _ hi => hi.1) (at?_get e137) rfl rfl (limLe_self _) ?_
        refine WO.mv rfl (WO.mv rfl ?_)
        obtain ⟨x138, e139, h⟩ := bindS h
        refine WO.ixS rfl rfl hot0.slv (at?_lt e139) rfl ?_
        refine WO.ldF rfl hot0z (fun _ hi => hi.1) (at?_get e139) rfl rfl (limLe_self _) ?_
        obtain ⟨u140, e141, h⟩ := bindS h
        refine WO.ixS rfl rfl hot0.slv (ck_some e141) rfl ?_
        refine WO.stI (u' := x136) rfl rfl hot0 (ck_nat e141) rfl rfl (fun S142 c143 hot0 => ?_)
        obtain ⟨u144, e145, h⟩ := bindS h
        refine WO.ixS rfl rfl hot0.slv (ck_some e145) rfl ?_
        refine WO.stI (u' := x138) rfl rfl hot0 (ck_nat e145) rfl rfl (fun S146 c147 hot0 => ?_)
        refine WO.nil (thenL_n (WC.seq (WC.region (WO.mv rfl ?_))))
        refine WO.bin rfl rfl (by decide) (by decide) rfl ?_
        refine WO.asg rfl (WO.nil (thenL_n (WC.region (WO.mv rfl ?_))))
        refine WO.bin rfl rfl (by decide) (by decide) rfl ?_
        refine WO.asg rfl (WO.nil (blockL_n (thenL_n ?_)))
        obtain rfl := someI h
        exact ⟨_, rfl, ⟨S146, rfl, rfl, (Cov.cons rfl (Cov.cons rfl (Cov.cons rfl (Cov.cons rfl (Cov.nil _))))), hot0⟩⟩
    rintro _ _ _ _ ⟨rfl, ⟨S150, rfl, rfl, hc151, hot0⟩⟩
    refine blockL_s (thenL_n (WC.cov hc151 (WC.seq ?_)))
    refine WC.drawN rfl rfl ?_
    have hot0z := hot0.oz
    refine WO.mv rfl (WO.mv rfl (WO.mv rfl (WO.mv rfl (WO.mv rfl (WO.mv rfl ?_)))))
    obtain ⟨x152, e153, h⟩ := bindS h
    refine WO.ixS rfl rfl hot0.slv (at?_lt e153) rfl ?_
    refine WO.ldF rfl hot0z (fun _ hi => hi.1) (at?_get e153) rfl rfl (limLe_self _) ?_
    refine WO.mv rfl (WO.mv rfl ?_)
    obtain ⟨x154, e155, h⟩ := bindS h
    refine WO.ixS rfl rfl hot0.slv (at?_lt e155) rfl ?_
    refine WO.ldF rfl hot0z (fun _ hi => hi.1) (at?_get e155) rfl rfl (limLe_self _) ?_
    obtain ⟨u156, e157, h⟩ := bindS h
    refine WO.ixS rfl rfl hot0.slv (ck_some e157) rfl ?_
    refine WO.stI (u' := x152) rfl rfl hot0 (ck_nat e157) rfl rfl (fun S158 c159 hot0 => ?_)
    obtain ⟨u160, e161, h⟩ := bindS h
    refine WO.ixS rfl rfl hot0.slv (ck_some e161) rfl ?_
    refine WO.stI (u' := x154) rfl rfl hot0 (ck_nat e161) rfl rfl (fun S162 c163 hot0 => ?_)
    refine WO.nil (thenL_n (WC.seq (WC.region (WO.mv rfl (WO.asg rfl (WO.asg rfl (WO.nil (thenL_n (WC.ret ?_)))))))))
    obtain rfl := someI h
    exact ⟨.inr rfl, _, _, rfl, rfl, ⟨rfl, hot0.ip Lay.flat_fl⟩⟩
end Go.Proofs.Ytihmliblbhjlaaa

namespace Go.Proofs.Ytihmliblbhjlaaa
open Go.Am
theorem F156.fn : E.fn 156 = some ⟨134, (Try.f156.body.getD .skip), Try.f156.results.toList, []⟩ := rfl
theorem F156_ok {F : Nat} : ∀ {m : Mem} {n : Nat} {r : (List Int)} {t0 : List Int} {t1 : Int} {t2 : Int} {t3 : Int} {vt0 : SV} {fl : Nat} {bw : Nat} (h : F156 F t0 t1 t2 t3 = some r) (hfl : fl ≤ n) (kt0 : Iv Y3 fl n bw m vt0 t0), Ret E fl 156 [.sc vt0, .sc (.int .i64 t1), .sc (.int .i64 t2), .sc (.int .i64 t3)] m n (fun v m' n' => v = .tup [] ∧ Ip Y3 n bw m m' vt0 r) := by
  induction F with
  | zero => intro m n r t0 t1 t2 t3 vt0 fl bw h; cases h
  | succ F ih =>
    intro m n r t0 t1 t2 t3 vt0 fl bw h hfl kt0
    rw [F156] at h
    try dsimp only at h
    refine Ret.walk F156.fn ?_
    refine WC.startI (b := bw) hfl fun S0 em en hz hbw => ?_
    have hot0 := kt0.iw em en hz hbw
    refine WC.seq (WC.region (WO.asg rfl (WO.nil (thenL_n (WC.seq (WC.region (WO.asg rfl (WO.nil (thenL_n ?_)))))))))
    refine WC.block ?_
    obtain ⟨b89, e90, h⟩ := bindS h
    refine WC.loopD e90 (fun s1 l' m' n' => ∃ S2 : Cx fl, S2.m = m' ∧ S2.n = n' ∧ Cov l' [(0, .sc vt0), (1, .sc (.int .i64 s1.1)), (2, .sc (.int .i64 s1.2.1)), (3, .sc (.int .i64 s1.2.2.1)), (8, .sc (.bool s1.2.2.2.1)), (9, .sc (.bool s1.2.2.2.2.1))] ∧ Iw Y3 S2 2 n bw m vt0 s1.2.2.2.2.2) (fun b e l' m' n' => e = .ret ∧ ∃ S3 : Cx fl, S3.m = m' ∧ S3.n = n' ∧ Cov l' [(0, .sc vt0)] ∧ Iw Y3 S3 2 n bw m vt0 b) (by exact ⟨S0, rfl, rfl, (Cov.cons rfl (Cov.cons rfl (Cov.cons rfl (Cov.cons rfl (Cov.cons rfl (Cov.cons rfl (Cov.nil _))))))), hot0⟩) ?_ ?_
    · clear h
      rintro s1 q _ _ _ ⟨S4, rfl, rfl, hc5, hot0⟩ h
      unfold F156_l0 at h
      refine WC.cov hc5 (WC.block (WC.seq (WC.region (WO.mv rfl (WO.mv rfl ?_)))))
      refine WO.bin rfl rfl (by decide) (by decide) rfl ?_
      refine WO.asg rfl (WO.nil (thenL_n (WC.seq (WC.seq (WC.region (WO.mv rfl ?_))))))
      refine WO.bin rfl rfl (by decide) (by decide) rfl ?_
      refine WO.nil (thenL_n ?_)
      refine WC.cond rfl (fun q6 => ?_) (fun q6 => ?_)
      · have h := iteT q6 h
        refine WC.seq (WC.region (WO.mv rfl (WO.mv rfl (WO.mv rfl ?_))))
        obtain ⟨r7, e8, h⟩ := bindS h
        refine WO.callW (S := S4) hot0 rfl rfl rfl (fun bq hI hB => F179_ok e8 S4.le hI) Lay.flat_fl (fun S9 c10 hot0 => ?_)
        refine WO.nil (thenL_n (WC.ret (thenL_r (blockL_r (thenL_r ?_)))))
        obtain rfl := someI h
        exact ⟨_, rfl, rfl, ⟨S9, rfl, rfl, (Cov.cons rfl (Cov.nil _)), hot0⟩⟩
      · have h := iteF q6 h
        refine WC.skip (thenL_n (WC.seq (WC.seq (WC.region (WO.mv rfl ?_)))))
        refine WO.bin rfl rfl (by decide) (by decide) rfl ?_
        refine WO.nil (thenL_n ?_)
        refine WC.cond rfl (fun q11 => ?_) (fun q11 => ?_)
        · have h := iteT q11 h
          refine WC.seq (WC.region (WO.mv rfl (WO.mv rfl (WO.mv rfl ?_))))
          obtain ⟨r12, e13, h⟩ := bindS h
          refine WO.callW (S := S4) hot0 rfl rfl rfl (fun bq hI hB => F180_ok e13 S4.le hI) Lay.flat_fl (fun S14 c15 hot0 => ?_)
          refine WO.nil (thenL_n (WC.ret (thenL_r (blockL_r (thenL_r ?_)))))
          obtain rfl := someI h
          exact ⟨_, rfl, rfl, ⟨S14, rfl, rfl, (Cov.cons rfl (Cov.nil _)), hot0⟩⟩
        · have h := iteF q11 h
          refine WC.skip (thenL_n (WC.seq (WC.seq (WC.region (WO.mv rfl ?_)))))
          refine WO.do rfl rfl ?_
          refine WO.nil (thenL_n ?_)
          obtain ⟨b21, e22, h⟩ := bindS h
          refine WC.mono (Q' := (fun b e l' m' n' => e = .normal ∧ ∃ S23 : Cx fl, S23.m = m' ∧ S23.n = n' ∧ Cov l' [(0, .sc vt0), (1, .sc (.int .i64 s1.1)), (2, .sc (.int .i64 s1.2.1)), (3, .sc (.int .i64 b.1)), (8, .sc (.bool s1.2.2.2.1)), (9, .sc (.bool s1.2.2.2.2.1)), (10, .sc (.int .i64 ((wrapA .i64 (s1.2.1 - s1.1)))))] ∧ Iw Y3 S23 2 n bw m vt0 b.2) b21) ?_ ?_
          · have h := e22
            dsimp only at h ⊢
            refine WC.cond rfl (fun q16 => ?_) (fun q16 => ?_)
            · have h := iteT q16 h
              refine WC.seq (WC.region (WO.mv rfl (WO.mv rfl (WO.mv rfl ?_))))
              obtain ⟨r17, e18, h⟩ := bindS h
              refine WO.callW (S := S4) hot0 rfl rfl rfl (fun bq hI hB => F181_ok e18 S4.le hI) Lay.flat_fl (fun S19 c20 hot0 => ?_)
              refine WO.nil (thenL_n (WC.region (WO.mv rfl ?_)))
              refine WO.bin rfl rfl (by decide) (by decide) rfl ?_
              refine WO.asg rfl (WO.nil ?_)
              obtain rfl := someI h
              exact ⟨rfl, ⟨S19, rfl, rfl, (Cov.cons rfl (Cov.cons rfl (Cov.cons rfl (Cov.cons rfl (Cov.cons rfl (Cov.cons rfl (Cov.cons rfl (Cov.nil _)))))))), hot0⟩⟩
            · have h := iteF q16 h
              refine WC.skip ?_
              obtain rfl := someI h
              exact ⟨rfl, ⟨S4, rfl, rfl, (Cov.cons rfl (Cov.cons rfl (Cov.cons rfl (Cov.cons rfl (Cov.cons rfl (Cov.cons rfl (Cov.cons rfl (Cov.nil _)))))))), hot0⟩⟩
          dsimp only
          rintro _ _ _ _ ⟨rfl, ⟨S24, rfl, rfl, hc25, hot0⟩⟩
          refine thenL_n (WC.cov hc25 (WC.seq (WC.region (WO.mv rfl (WO.mv rfl (WO.mv rfl ?_))))))
          obtain ⟨r26, e27, h⟩ := bindS h
          refine WO.callE (S := S24) rfl rfl (F182_ok e27 hot0.vw) (fun S28 c29 => ?_)
          have hot0 := hot0.to c29
          refine WO.mv rfl ?_
          refine WO.do rfl rfl ?_
          refine WO.do rfl rfl ?_
          refine WO.asg rfl (WO.asg rfl (WO.nil (thenL_n (WC.seq (WC.seq (WC.region (WO.mv rfl ?_)))))))
          refine WO.bin rfl rfl (by decide) (by decide) rfl ?_
          refine WO.nil (thenL_n ?_)
          obtain ⟨b35, e36, h⟩ := bindS h
          refine WC.mono (Q' := (fun b e l' m' n' => e = .normal ∧ ∃ S37 : Cx fl, S37.m = m' ∧ S37.n = n' ∧ Cov l' [(0, .sc vt0), (1, .sc (.int .i64 s1.1)), (2, .sc (.int .i64 s1.2.1)), (3, .sc (.int .i64 b21.1)), (8, .sc (.bool s1.2.2.2.1)), (9, .sc (.bool s1.2.2.2.2.1)), (10, .sc (.int .i64 ((wrapA .i64 (s1.2.1 - s1.1))))), (11, .sc (.int .i64 b.1)), (12, .sc (.int .i64 b.2.1))] ∧ Iw Y3 S37 2 n bw m vt0 b.2.2) b35) ?_ ?_
          · have h := e36
            dsimp only at h ⊢
            refine WC.cond rfl (fun q30 => ?_) (fun q30 => ?_)
            · have h := iteT q30 h
              refine WC.seq (WC.region (WO.mv rfl (WO.mv rfl (WO.mv rfl ?_))))
              obtain ⟨r31, e32, h⟩ := bindS h
              refine WO.callW (S := S28) hot0 rfl rfl rfl (fun bq hI hB => F183_ok e32 S28.le hI) Lay.flat_fl (fun S33 c34 hot0 => ?_)
              refine WO.nil (thenL_n (WC.seq (WC.region (WO.mv rfl ?_))))
              refine WO.bin rfl rfl (by decide) (by decide) rfl ?_
              refine WO.mv rfl (WO.mv rfl ?_)
              refine WO.bin rfl rfl (by decide) (by decide) rfl ?_
              refine WO.bin rfl rfl (by decide) (by decide) rfl ?_
              refine WO.asg rfl (WO.nil (thenL_n (WC.region (WO.asg rfl (WO.nil ?_)))))
              obtain rfl := someI h
              exact ⟨rfl, ⟨S33, rfl, rfl, (Cov.cons rfl (Cov.cons rfl (Cov.cons rfl (Cov.cons rfl (Cov.cons rfl (Cov.cons rfl (Cov.cons rfl (Cov.cons rfl (Cov.cons rfl (Cov.nil _)))))))))), hot0⟩⟩
            · have h := iteF q30 h
              refine WC.skip ?_
              obtain rfl := someI h
              exact ⟨rfl, ⟨S28, rfl, rfl, (Cov.cons rfl (Cov.cons rfl (Cov.cons rfl (Cov.cons rfl (Cov.cons rfl (Cov.cons rfl (Cov.cons rfl (Cov.cons rfl (Cov.cons rfl (Cov.nil _)))))))))), hot0⟩⟩
          dsimp only
          rintro _ _ _ _ ⟨rfl, ⟨S38, rfl, rfl, hc39, hot0⟩⟩
          refine thenL_n (WC.cov hc39 (WC.seq (WC.seq (WC.region (WO.mv rfl (WO.mv rfl ?_))))))
          refine WO.cutB (d := 64) 2 (s1.2.2.2.1 && s1.2.2.2.2.1) (fun q40 => ?_) (fun q40 => ?_) ?_
          · skip
            refine WO.gyes rfl rfl (WO.mv rfl ?_)
            refine WO.pickT rfl rfl ?_
            refine WO.nil ?_
            exact ⟨rfl, rfl, (Cov.any rfl (andT q40) (Cov.skip rfl (Cov.skip rfl (Cov.skip rfl (Cov.refl _)))))⟩
          · refine WO.gno rfl rfl ?_
            refine WO.pickF rfl rfl ?_
            refine WO.nil ?_
            exact ⟨rfl, rfl, (Cov.any rfl (andF q40) (Cov.skip rfl (Cov.skip rfl (Cov.skip rfl (Cov.refl _)))))⟩
          refine WO.mv rfl ?_
          refine WO.cutB (d := 68) 3 ((s1.2.2.2.1 && s1.2.2.2.2.1) && (b35.2.1 == 1)) (fun q41 => ?_) (fun q41 => ?_) ?_
          · skip
            refine WO.gyes rfl rfl (WO.mv rfl (WO.gyes rfl rfl ?_))
            refine WO.bin rfl rfl (by decide) (by decide) rfl ?_
            refine WO.pickT rfl rfl ?_
            refine WO.nil ?_
            exact ⟨rfl, rfl, (Cov.any rfl (andT q41) (Cov.skip rfl (Cov.skip rfl (Cov.skip rfl (Cov.skip rfl (Cov.refl _))))))⟩
          · refine WO.gno rfl rfl (WO.gno rfl rfl ?_)
            refine WO.pickF rfl rfl ?_
            refine WO.nil ?_
            exact ⟨rfl, rfl, (Cov.any rfl (andF q41) (Cov.skip rfl (Cov.skip rfl (Cov.skip rfl (Cov.skip rfl (Cov.refl _))))))⟩
          refine WO.nil (thenL_n ?_)
          obtain ⟨b48, e49, h⟩ := bindS h
          refine WC.mono (Q' := (fun b e l' m' n' => (match b with | .inl b50 => e = .normal ∧ ∃ S51 : Cx fl, S51.m = m' ∧ S51.n = n' ∧ Cov l' [(0, .sc vt0), (1, .sc (.int .i64 s1.1)), (2, .sc (.int .i64 s1.2.1)), (3, .sc (.int .i64 b21.1)), (8, .sc (.bool s1.2.2.2.1)), (9, .sc (.bool s1.2.2.2.2.1)), (10, .sc (.int .i64 ((wrapA .i64 (s1.2.1 - s1.1))))), (11, .sc (.int .i64 b35.1))] ∧ Iw Y3 S51 2 n bw m vt0 b50 | .inr b50 => e = .ret ∧ ∃ S52 : Cx fl, S52.m = m' ∧ S52.n = n' ∧ Cov l' [(0, .sc vt0)] ∧ Iw Y3 S52 2 n bw m vt0 b50)) b48) ?_ ?_
          · have h := e49
            dsimp only at h ⊢
            refine WC.cond rfl (fun q42 => ?_) (fun q42 => ?_)
            · have h := iteT q42 h
              refine WC.seq (WC.region (WO.mv rfl (WO.mv rfl (WO.mv rfl ?_))))
              obtain ⟨r43, e44, h⟩ := bindS h
              refine WO.callW (S := S38) hot0 rfl rfl rfl (fun bq hI hB => F184_ok e44 S38.le hI) Lay.flat_fl (fun S45 c46 hot0 => ?_)
              refine WO.nil (thenL_n ?_)
              refine WC.cond rfl (fun q47 => ?_) (fun q47 => ?_)
              · have h := iteT q47 h
                refine WC.ret ?_
                obtain rfl := someI h
                exact ⟨rfl, ⟨S45, rfl, rfl, (Cov.cons rfl (Cov.nil _)), hot0⟩⟩
              · have h := iteF q47 h
                refine WC.skip ?_
                obtain rfl := someI h
                exact ⟨rfl, ⟨S45, rfl, rfl, (Cov.cons rfl (Cov.cons rfl (Cov.cons rfl (Cov.cons rfl (Cov.cons rfl (Cov.cons rfl (Cov.cons rfl (Cov.cons rfl (Cov.nil _))))))))), hot0⟩⟩
            · have h := iteF q42 h
              refine WC.skip ?_
              obtain rfl := someI h
              exact ⟨rfl, ⟨S38, rfl, rfl, (Cov.cons rfl (Cov.cons rfl (Cov.cons rfl (Cov.cons rfl (Cov.cons rfl (Cov.cons rfl (Cov.cons rfl (Cov.cons rfl (Cov.nil _))))))))), hot0⟩⟩
          dsimp only
          cases b48 with
          | inl b53 =>
            simp only at h
            rintro _ _ _ _ ⟨rfl, ⟨S54, rfl, rfl, hc55, hot0⟩⟩
            refine thenL_n (WC.cov hc55 (WC.seq (WC.seq ?_)))
            refine WC.drawN rfl rfl ?_
            have hot0z := hot0.oz
            refine WO.mv rfl ?_
            refine WO.bin rfl rfl (by decide) (by decide) rfl ?_
            refine WO.mv rfl ?_
            obtain ⟨y65, e66, h⟩ := bindS h
            refine WO.cutS (d := 87) (S := S54) 12 y65 (fun q64 => ?_) (fun q64 => ?_) (fun S67 c68 => ?_)
            · have h := e66
              have h := iteT q64 h
              refine WO.gyes rfl rfl (WO.mv rfl (WO.gyes rfl rfl (WO.mv rfl (WO.gyes rfl rfl ?_))))
              refine WO.bin rfl rfl (by decide) (by decide) rfl ?_
              refine WO.gyes rfl rfl ?_
              obtain ⟨x56, e57, h⟩ := bindS h
              refine WO.ixS rfl rfl hot0.slv (at?_lt e57) rfl ?_
              refine WO.gyes rfl rfl ?_
              refine WO.ldF rfl hot0z (fun _ hi => hi.1) (at?_get e57) rfl rfl (limLe_self _) ?_
              refine WO.gyes rfl rfl (WO.mv rfl (WO.gyes rfl rfl (WO.mv rfl (WO.gyes rfl rfl ?_))))
              obtain ⟨x58, e59, h⟩ := bindS h
              refine WO.ixS rfl rfl hot0.slv (at?_lt e59) rfl ?_
              refine WO.gyes rfl rfl ?_
              refine WO.ldF rfl hot0z (fun _ hi => hi.1) (at?_get e59) rfl rfl (limLe_self _) ?_
              refine WO.gyes rfl rfl ?_
              obtain ⟨r60, e61, h⟩ := bindS h
              refine WO.callE (S := S54) rfl rfl (F151_ok e61) (fun S62 c63 => ?_)
              have hot0z := hot0z.tow c63
              have hot0 := hot0.to c63
              refine WO.gyes rfl rfl ?_
              refine WO.do rfl rfl ?_
              obtain rfl := someI h
              refine WO.pickT rfl rfl ?_
              refine WO.nil ?_
              exact ⟨S62, rfl, rfl, c63, (Cov.cons rfl (Cov.skip rfl (Cov.skip rfl (Cov.skip rfl (Cov.skip rfl (Cov.skip rfl (Cov.skip rfl (Cov.skip rfl (Cov.skip rfl (Cov.skip rfl (Cov.skip rfl (Cov.skip rfl (Cov.skip rfl (Cov.skip rfl (Cov.refl _)))))))))))))))⟩
            · have h := e66
              have h := iteF q64 h
              obtain rfl := someI h
              refine WO.gno rfl rfl (WO.gno rfl rfl (WO.gno rfl rfl (WO.gno rfl rfl (WO.gno rfl rfl (WO.gno rfl rfl (WO.gno rfl rfl (WO.gno rfl rfl (WO.gno rfl rfl (WO.gno rfl rfl ?_)))))))))
              refine WO.gno rfl rfl ?_
              refine WO.pickF rfl rfl ?_
              refine WO.nil ?_
              exact ⟨S54, rfl, rfl, Ch.refl _ _, (Cov.cons rfl (Cov.skip rfl (Cov.skip rfl (Cov.skip rfl (Cov.skip rfl (Cov.skip rfl (Cov.skip rfl (Cov.skip rfl (Cov.skip rfl (Cov.skip rfl (Cov.skip rfl (Cov.skip rfl (Cov.skip rfl (Cov.skip rfl (Cov.refl _)))))))))))))))⟩
            have hot0z := hot0z.tow c68
            have hot0 := hot0.to c68
            refine WO.nil (thenL_n ?_)
            refine WC.cond rfl (fun q69 => ?_) (fun q69 => ?_)
            · have h := iteT q69 h
              refine WC.seq (WC.region (WO.mv rfl (WO.mv rfl (WO.mv rfl (WO.mv rfl ?_)))))
              obtain ⟨r70, e71, h⟩ := bindS h
              refine WO.callW (S := S67) hot0 rfl rfl rfl (fun bq hI hB => F185_ok e71 S67.le hI) Lay.flat_fl (fun S72 c73 hot0 => ?_)
              refine WO.asg rfl (WO.nil (thenL_n (WC.seq (WC.region (WO.mv rfl (WO.asg rfl (WO.nil (thenL_n (WC.exit ?_)))))))))
              refine thenL_e (blockL_s (thenL_n ?_))
              obtain rfl := someI h
              exact ⟨_, rfl, ⟨S72, rfl, rfl, (Cov.cons rfl (Cov.cons rfl (Cov.cons rfl (Cov.cons rfl (Cov.cons rfl (Cov.cons rfl (Cov.nil _))))))), hot0⟩⟩
            · have h := iteF q69 h
              refine WC.skip (thenL_n (WC.seq (WC.region (WO.mv rfl (WO.mv rfl (WO.mv rfl (WO.mv rfl ?_)))))))
              obtain ⟨r74, e75, h⟩ := bindS h
              refine WO.callW (S := S67) hot0 rfl rfl rfl (fun bq hI hB => F186_ok e75 S67.le hI) Lay.flat_fl (fun S76 c77 hot0 => ?_)
              refine WO.mv rfl ?_
              refine WO.do rfl rfl ?_
              refine WO.do rfl rfl ?_
              refine WO.asg rfl (WO.asg rfl (WO.nil (thenL_n (WC.seq (WC.region (WO.mv rfl (WO.asg rfl (WO.nil (thenL_n ?_)))))))))
              refine WC.seq (WC.region (WO.mv rfl (WO.mv rfl ?_)))
              refine WO.bin rfl rfl (by decide) (by decide) rfl ?_
              refine WO.mv rfl (WO.mv rfl ?_)
              refine WO.bin rfl rfl (by decide) (by decide) rfl ?_
              refine WO.asg rfl (WO.asg rfl (WO.nil (thenL_n (WC.seq (WC.region (WO.mv rfl ?_))))))
              refine WO.bin rfl rfl (by decide) (by decide) rfl ?_
              refine WO.asg rfl (WO.nil (thenL_n (WC.seq (WC.region (WO.mv rfl (WO.mv rfl ?_))))))
              refine WO.bin rfl rfl (by decide) (by decide) rfl ?_
              refine WO.nil (thenL_n ?_)
              refine WC.cond rfl (fun q78 => ?_) (fun q78 => ?_)
              · have h := iteT q78 h
                refine WC.seq (WC.region (WO.mv rfl (WO.mv rfl ?_)))
                refine WO.bin rfl rfl (by decide) (by decide) rfl ?_
                refine WO.asg rfl (WO.nil (thenL_n (WC.seq (WC.region (WO.mv rfl (WO.mv rfl (WO.mv rfl (WO.mv rfl ?_))))))))
                obtain ⟨r79, e80, h⟩ := bindS h
                refine WO.callW (S := S76) hot0 rfl rfl rfl (fun bq hI hB => ih e80 S76.le hI) Lay.flat_fl (fun S81 c82 hot0 => ?_)
                refine WO.nil (thenL_n (WC.region (WO.mv rfl ?_)))
                refine WO.bin rfl rfl (by decide) (by decide) rfl ?_
                refine WO.asg rfl (WO.nil (blockL_n (thenL_n ?_)))
                obtain rfl := someI h
                exact ⟨_, rfl, ⟨S81, rfl, rfl, (Cov.cons rfl (Cov.cons rfl (Cov.cons rfl (Cov.cons rfl (Cov.cons rfl (Cov.cons rfl (Cov.nil _))))))), hot0⟩⟩
              · have h := iteF q78 h
                refine WC.seq (WC.region (WO.mv rfl (WO.mv rfl ?_)))
                refine WO.bin rfl rfl (by decide) (by decide) rfl ?_
                refine WO.asg rfl (WO.nil (thenL_n (WC.seq (WC.region (WO.mv rfl (WO.mv rfl ?_))))))
                refine WO.bin rfl rfl (by decide) (by decide) rfl ?_
                refine WO.mv rfl (WO.mv rfl ?_)
                obtain ⟨r83, e84, h⟩ := bindS h
                refine WO.callW (S := S76) hot0 rfl rfl rfl (fun bq hI hB => ih e84 S76.le hI) Lay.flat_fl (fun S85 c86 hot0 => ?_)
                refine WO.nil (thenL_n (WC.region (WO.mv rfl (WO.asg rfl (WO.nil (blockL_n (thenL_n ?_)))))))
                obtain rfl := someI h
                exact ⟨_, rfl, ⟨S85, rfl, rfl, (Cov.cons rfl (Cov.cons rfl (Cov.cons rfl (Cov.cons rfl (Cov.cons rfl (Cov.cons rfl (Cov.nil _))))))), hot0⟩⟩
          | inr b53 =>
            simp only at h
            rintro _ _ _ _ ⟨rfl, ⟨S87, rfl, rfl, hc88, hot0⟩⟩
            refine thenL_r (blockL_r (thenL_r ?_))
            obtain rfl := someI h
            exact ⟨_, rfl, rfl, ⟨S87, rfl, rfl, (Cov.trans hc88 (Cov.cons rfl (Cov.nil _))), hot0⟩⟩
    rintro _ _ _ _ ⟨rfl, ⟨S91, rfl, rfl, hc92, hot0⟩⟩
    refine blockL_r ?_
    obtain rfl := someI h
    exact ⟨.inr rfl, _, _, (resK_cov hc92 rfl), rfl, ⟨rfl, hot0.ip Lay.flat_fl⟩⟩
end Go.Proofs.Ytihmliblbhjlaaa

namespace Go.Proofs.Ytihmliblbhjlaaa
open Go.Am
theorem F114.fn : E.fn 114 = some ⟨11, (Try.f114.body.getD .skip), Try.f114.results.toList, []⟩ := rfl
theorem F114_ok {F : Nat} {m : Mem} {n : Nat} {r : (List Int)} {t0 : List Int} {vt0 : SV} {fl : Nat} {bw : Nat} (h : F114 F t0 = some r) (hfl : fl ≤ n) (kt0 : Iv Y3 fl n bw m vt0 t0) : Ret E fl 114 [.sc vt0] m n (fun v m' n' => v = .tup [] ∧ Ip Y3 n bw m m' vt0 r) := by
  unfold F114 at h
  refine Ret.walk F114.fn ?_
  refine WC.startI (b := bw) hfl fun S0 em en hz hbw => ?_
  have hot0 := kt0.iw em en hz hbw
  refine WC.seq (WC.region (WO.mv rfl ?_))
  refine WO.lenS rfl hot0.slv rfl ?_
  refine WO.asg rfl (WO.nil (thenL_n (WC.region (WO.mv rfl (WO.mv rfl (WO.mv rfl ?_))))))
  refine WO.conv rfl rfl rfl rfl ?_
  obtain ⟨r1, e2, h⟩ := bindS h
  refine WO.callE (S := S0) rfl rfl (F155_ok e2) (fun S3 c4 => ?_)
  have hot0 := hot0.to c4
  obtain ⟨r5, e6, h⟩ := bindS h
  refine WO.callW (S := S3) hot0 rfl rfl rfl (fun bq hI hB => F156_ok e6 S3.le hI) Lay.flat_fl (fun S7 c8 hot0 => ?_)
  refine WO.nil ?_
  obtain rfl := someI h
  exact ⟨.inl rfl, _, _, rfl, rfl, ⟨rfl, hot0.ip Lay.flat_fl⟩⟩
end Go.Proofs.Ytihmliblbhjlaaa

namespace Go.Proofs.Ytihmliblbhjlaaa
open Go.Am
theorem F115.fn : E.fn 115 = some ⟨28, (Try.f115.body.getD .skip), Try.f115.results.toList, []⟩ := rfl
theorem F115_ok {F : Nat} {m : Mem} {n : Nat} {r : (List Int)} {t0 : List Int} {vt0 : SV} {fl : Nat} {bw : Nat} (h : F115 F t0 = some r) (hfl : fl ≤ n) (kt0 : Iv Y3 fl n bw m vt0 t0) : Ret E fl 115 [.sc vt0] m n (fun v m' n' => v = .tup [] ∧ Ip Y3 n bw m m' vt0 r) := by
  unfold F115 at h
  refine Ret.walk F115.fn ?_
  refine WC.startI (b := bw) hfl fun S0 em en hz hbw => ?_
  have hot0 := kt0.iw em en hz hbw
  refine WC.seq (WC.region (WO.mv rfl ?_))
  refine WO.lenS rfl hot0.slv rfl ?_
  refine WO.bin rfl rfl (by decide) (by decide) rfl ?_
  refine WO.asg rfl (WO.asg rfl (WO.nil (thenL_n (WC.block ?_))))
  obtain ⟨b19, e20, h⟩ := bindS h
  refine WC.loopD e20 (fun s1 l' m' n' => ∃ S2 : Cx fl, S2.m = m' ∧ S2.n = n' ∧ Cov l' [(0, .sc vt0), (2, .sc (.int .i64 s1.1)), (3, .sc (.int .i64 s1.2.1))] ∧ Iw Y3 S2 2 n bw m vt0 s1.2.2) (fun b e l' m' n' => e = .exit 0 ∧ ∃ S3 : Cx fl, S3.m = m' ∧ S3.n = n' ∧ Cov l' [(0, .sc vt0)] ∧ Iw Y3 S3 2 n bw m vt0 b) (by exact ⟨S0, rfl, rfl, (Cov.cons rfl (Cov.cons rfl (Cov.cons rfl (Cov.nil _)))), hot0⟩) ?_ ?_
  · clear h
    rintro s1 q _ _ _ ⟨S4, rfl, rfl, hc5, hot0⟩ h
    unfold F115_l0 at h
    refine WC.cov hc5 (WC.seq (WC.seq (WC.region (WO.mv rfl (WO.mv rfl ?_)))))
    refine WO.bin rfl rfl (by decide) (by decide) rfl ?_
    refine WO.nil (thenL_n ?_)
    refine WC.cond rfl (fun q6 => ?_) (fun q6 => ?_)
    · have h := iteT q6 h
      refine WC.skip (thenL_n (WC.seq (WC.block ?_)))
      refine WC.drawN rfl rfl ?_
      have hot0z := hot0.oz
      refine WO.mv rfl (WO.mv rfl (WO.mv rfl (WO.mv rfl (WO.mv rfl (WO.mv rfl ?_)))))
      obtain ⟨x7, e8, h⟩ := bindS h
      refine WO.ixS rfl rfl hot0.slv (at?_lt e8) rfl ?_
      refine WO.ldF rfl hot0z (fun _ hi => hi.1) (at?_get e8) rfl rfl (limLe_self _) ?_
      refine WO.mv rfl (WO.mv rfl ?_)
      obtain ⟨x9, e10, h⟩ := bindS h
      refine WO.ixS rfl rfl hot0.slv (at?_lt e10) rfl ?_
      refine WO.ldF rfl hot0z (fun _ hi => hi.1) (at?_get e10) rfl rfl (limLe_self _) ?_
      obtain ⟨u11, e12, h⟩ := bindS h
      refine WO.ixS rfl rfl hot0.slv (ck_some e12) rfl ?_
      refine WO.stI (u' := x7) rfl rfl hot0 (ck_nat e12) rfl rfl (fun S13 c14 hot0 => ?_)
      obtain ⟨u15, e16, h⟩ := bindS h
      refine WO.ixS rfl rfl hot0.slv (ck_some e16) rfl ?_
      refine WO.stI (u' := x9) rfl rfl hot0 (ck_nat e16) rfl rfl (fun S17 c18 hot0 => ?_)
      refine WO.nil (blockL_n (thenL_n (WC.region (WO.mv rfl ?_))))
      refine WO.bin rfl rfl (by decide) (by decide) rfl ?_
      refine WO.mv rfl ?_
      refine WO.bin rfl rfl (by decide) (by decide) rfl ?_
      refine WO.asg rfl (WO.asg rfl (WO.nil (thenL_n ?_)))
      obtain rfl := someI h
      exact ⟨_, rfl, ⟨S17, rfl, rfl, (Cov.cons rfl (Cov.cons rfl (Cov.cons rfl (Cov.nil _)))), hot0⟩⟩
    · have h := iteF q6 h
      refine WC.exit (thenL_e (thenL_e ?_))
      obtain rfl := someI h
      exact ⟨_, rfl, rfl, ⟨S4, rfl, rfl, (Cov.cons rfl (Cov.nil _)), hot0⟩⟩
  rintro _ _ _ _ ⟨rfl, ⟨S21, rfl, rfl, hc22, hot0⟩⟩
  refine blockL_s ?_
  obtain rfl := someI h
  exact ⟨.inl rfl, _, _, (resK_cov hc22 rfl), rfl, ⟨rfl, hot0.ip Lay.flat_fl⟩⟩
end Go.Proofs.Ytihmliblbhjlaaa

namespace Go.Proofs.Ytihmliblbhjlaaa
open Go.Am
theorem F46.fn : E.fn 46 = some ⟨33, (Try.f46.body.getD .skip), Try.f46.results.toList, []⟩ := rfl
theorem F46_ok {F : Nat} : ∀ {m : Mem} {n : Nat} {r : (List Int)} {t0 : List Int} {vt0 : SV} (h : F46 F t0 = some r) (kt0 : Vw Y3 n m vt0 t0), Ret E n 46 [.sc vt0] m n (fun v m' n' => ∃ w, v = .sc w ∧ Fr Y3 n m' n' w r) := by
  induction F with
  | zero => intro m n r t0 vt0 h; cases h
  | succ F ih =>
    intro m n r t0 vt0 h kt0
    rw [F46] at h
    try dsimp only at h
    refine Ret.walk F46.fn ?_
    refine WC.start fun S0 em en hz => ?_
    have hot0 := kt0.rdS em hz
    refine WC.seq (WC.region (WO.asg rfl (WO.nil (thenL_n (WC.seq (WC.region (WO.asg rfl (WO.nil (thenL_n ?_)))))))))
    refine WC.seq (WC.seq (WC.region (WO.mv rfl ?_)))
    refine WO.lenS rfl hot0.slv rfl ?_
    refine WO.mv rfl (WO.nil (thenL_n (WC.block ?_)))
    obtain ⟨b40, e41, h⟩ := bindS h
    refine WC.loopD e41 (fun s1 l' m' n' => ∃ S3 : Cx n, ∃ v4 : SV, S3.m = m' ∧ S3.n = n' ∧ Cov l' [(3, .sc v4), (6, .sc vt0), (7, .sc (.int .i64 ((t0.length : Int)))), (8, .sc (.int .i64 s1.2))] ∧ Rd Y3 S3 vt0 t0 ∧ Ow Y3 S3 2 v4 s1.1) (fun b e l' m' n' => e = .exit 0 ∧ ∃ S5 : Cx n, ∃ v6 : SV, S5.m = m' ∧ S5.n = n' ∧ Cov l' [(3, .sc v6)] ∧ Ow Y3 S5 2 v6 b) (by exact ⟨S0, .nils, rfl, rfl, (Cov.cons rfl (Cov.cons rfl (Cov.cons rfl (Cov.cons rfl (Cov.nil _))))), hot0, Ow.nil⟩) ?_ ?_
    · clear h
      rintro s1 q _ _ _ ⟨S7, v8, rfl, rfl, hc9, hot0, ho3⟩ h
      unfold F46_l0 at h
      refine WC.cov hc9 (WC.seq (WC.region ?_))
      refine WO.bin rfl rfl (by decide) (by decide) rfl ?_
      refine WO.nil (thenL_n (WC.seq ?_))
      refine WC.cond rfl (fun q10 => ?_) (fun q10 => ?_)
      · have h := iteT q10 h
        refine WC.skip (thenL_n (WC.seq (WC.block (WC.seq (WC.region ?_)))))
        obtain ⟨x11, e12, h⟩ := bindS h
        refine WO.ixS rfl rfl hot0.slv (at?_lt e12) rfl ?_
        refine WO.ldF rfl hot0.ro (fun _ hi => hi) (at?_get e12) rfl rfl rfl ?_
        refine WO.asg rfl (WO.nil (thenL_n (WC.seq (WC.region (WO.mv rfl ?_)))))
        refine WO.bin rfl rfl (by decide) (by decide) rfl ?_
        refine WO.bin rfl rfl (by decide) (by decide) rfl ?_
        refine WO.nil (thenL_n ?_)
        refine WC.cond rfl (fun q13 => ?_) (fun q13 => ?_)
        · have h := iteT q13 h
          refine WC.region (WO.mv rfl (WO.mv rfl ?_))
          refine WO.bsS (A := Y3) (S := S7) (M := [x11]) (cs := [.int .i64 x11]) 3 rfl rfl rfl ⟨[.int .i64 x11], _, rfl, rfl, rfl⟩ rfl (fun v14 S15 c16 ho17 => ?_)
          have hot0 := hot0.to c16
          have ho3 := ho3.to c16
          obtain ⟨L18, e19, h⟩ := bindS h
          refine WO.appS rfl rfl ho3 ho17.ro e19 rfl rfl (fun v20 S21 c22 ho23 => ?_)
          have hot0 := hot0.to c22
          have ho17 := ho17.to c22
          refine WO.asg rfl (WO.nil (blockL_n (thenL_n (WC.region ?_))))
          refine WO.bin rfl rfl (by decide) (by decide) rfl ?_
          refine WO.mv rfl (WO.nil (thenL_n ?_))
          obtain rfl := someI h
          exact ⟨_, rfl, ⟨S21, v20, rfl, rfl, (Cov.cons rfl (Cov.cons rfl (Cov.cons rfl (Cov.cons rfl (Cov.nil _))))), hot0, ho23⟩⟩
        · have h := iteF q13 h
          refine WC.region (WO.mv rfl (WO.mv rfl ?_))
          refine WO.bin rfl rfl (by decide) (by decide) rfl ?_
          refine WO.mv rfl ?_
          refine WO.bin rfl rfl (by decide) (by decide) rfl ?_
          refine WO.bsS (A := Y3) (S := S7) (M := [(wrapA .i64 (Int.tdiv x11 2)), (wrapA .i64 (Int.tdiv x11 2))]) (cs := [.int .i64 ((wrapA .i64 (Int.tdiv x11 2))), .int .i64 ((wrapA .i64 (Int.tdiv x11 2)))]) 4 rfl rfl rfl ⟨[.int .i64 ((wrapA .i64 (Int.tdiv x11 2)))], _, rfl, rfl, ⟨[.int .i64 ((wrapA .i64 (Int.tdiv x11 2)))], _, rfl, rfl, rfl⟩⟩ rfl (fun v24 S25 c26 ho27 => ?_)
          have hot0 := hot0.to c26
          have ho3 := ho3.to c26
          obtain ⟨r28, e29, h⟩ := bindS h
          refine WO.callF (S := S25) 5 rfl rfl (ih e29 ho27.vw) Lay.flat_fl (fun v30 S32 c33 ho31 => ?_)
          have hot0 := hot0.to c33
          have ho3 := ho3.to c33
          have ho27 := ho27.to c33
          obtain ⟨L34, e35, h⟩ := bindS h
          refine WO.appS rfl rfl ho3 ho31.ro e35 rfl rfl (fun v36 S37 c38 ho39 => ?_)
          have hot0 := hot0.to c38
          have ho27 := ho27.to c38
          have ho31 := ho31.to c38
          refine WO.asg rfl (WO.nil (blockL_n (thenL_n (WC.region ?_))))
          refine WO.bin rfl rfl (by decide) (by decide) rfl ?_
          refine WO.mv rfl (WO.nil (thenL_n ?_))
          obtain rfl := someI h
          exact ⟨_, rfl, ⟨S37, v36, rfl, rfl, (Cov.cons rfl (Cov.cons rfl (Cov.cons rfl (Cov.cons rfl (Cov.nil _))))), hot0, ho39⟩⟩
      · have h := iteF q10 h
        refine WC.exit (thenL_e (thenL_e ?_))
        obtain rfl := someI h
        exact ⟨_, rfl, rfl, ⟨S7, v8, rfl, rfl, (Cov.cons rfl (Cov.nil _)), ho3⟩⟩
    rintro _ _ _ _ ⟨rfl, ⟨S42, v43, rfl, rfl, hc44, ho3⟩⟩
    refine blockL_s (thenL_n (WC.cov hc44 (WC.seq (WC.region (WO.mv rfl ?_)))))
    obtain ⟨r45, e46, h⟩ := bindS h
    refine WO.callI (S := S42) ho3 rfl rfl (fun bq hI hB => F114_ok e46 S42.le hI) Lay.flat_fl (fun S47 c48 ho3 => ?_)
    refine WO.nil (thenL_n (WC.seq (WC.region (WO.mv rfl ?_))))
    obtain ⟨r49, e50, h⟩ := bindS h
    refine WO.callI (S := S47) ho3 rfl rfl (fun bq hI hB => F115_ok e50 S47.le hI) Lay.flat_fl (fun S51 c52 ho3 => ?_)
    refine WO.nil (thenL_n (WC.seq (WC.region (WO.mv rfl (WO.asg rfl (WO.nil (thenL_n (WC.ret ?_))))))))
    obtain rfl := someI h
    exact ⟨.inr rfl, _, _, rfl, rfl, ⟨v43, rfl, (ho3.fr Lay.flat_fl)⟩⟩
end Go.Proofs.Ytihmliblbhjlaaa

namespace Go.Proofs.Ytihmliblbhjlaaa
open Go.Am
theorem F48.fn : E.fn 48 = some ⟨6, (Try.f48.body.getD .skip), Try.f48.results.toList, []⟩ := rfl
theorem F48_ok {F : Nat} {m : Mem} {n : Nat} {r : Bool} {t0 : Int} (h : F48 F t0 = some r)  : Ret E n 48 [.sc (.int .i64 t0)] m n (fun v m' n' => v = .sc (.bool r)) := by
  unfold F48 at h
  refine Ret.walk F48.fn ?_
  refine WC.start fun S0 em en hz => ?_
  refine WC.seq (WC.region (WO.asg rfl (WO.nil (thenL_n (WC.seq (WC.region (WO.mv rfl ?_)))))))
  refine WO.bin rfl rfl (by decide) (by decide) rfl ?_
  refine WO.bin rfl rfl (by decide) (by decide) rfl ?_
  refine WO.asg rfl (WO.nil (thenL_n (WC.ret ?_)))
  obtain rfl := someI h
  exact ⟨.inr rfl, _, _, rfl, rfl, rfl⟩
end Go.Proofs.Ytihmliblbhjlaaa

namespace Go.Proofs.Ytihmliblbhjlaaa
open Go.Am
theorem F116_48.fn : E.fn 116 = some ⟨19, (Try.f116.body.getD .skip), Try.f116.results.toList, []⟩ := rfl
theorem F116_48_ok {F : Nat} {m : Mem} {n : Nat} {r : Int} {t0 : List Int} {vt0 : SV} (h : F116_48 F t0 = some r) (kt0 : Vw Y3 n m vt0 t0) : Ret E n 116 [.sc vt0, .sc (.fn 48 [])] m n (fun v m' n' => v = .sc (.int .i64 r)) := by
  unfold F116_48 at h
  refine Ret.walk F116_48.fn ?_
  refine WC.start fun S0 em en hz => ?_
  have hot0 := kt0.rdS em hz
  refine WC.seq (WC.region (WO.asg rfl (WO.nil (thenL_n (WC.seq (WC.seq (WC.region (WO.mv rfl ?_))))))))
  refine WO.lenS rfl hot0.slv rfl ?_
  refine WO.mv rfl (WO.nil (thenL_n (WC.block ?_)))
  obtain ⟨b16, e17, h⟩ := bindS h
  refine WC.loopD e17 (fun s1 l' m' n' => ∃ S2 : Cx n, S2.m = m' ∧ S2.n = n' ∧ Cov l' [(0, .sc vt0), (1, .sc (.fn 48 [])), (7, .sc (.int .i64 ((t0.length : Int)))), (8, .sc (.int .i64 s1))] ∧ Rd Y3 S2 vt0 t0) (fun b e l' m' n' => (match b with | .inl b3 => e = .exit 0 ∧ ∃ S4 : Cx n, S4.m = m' ∧ S4.n = n' ∧ Cov l' [] | .inr b3 => e = .ret ∧ ∃ S5 : Cx n, S5.m = m' ∧ S5.n = n' ∧ Cov l' [(4, .sc (.int .i64 b3))])) (by exact ⟨S0, rfl, rfl, (Cov.cons rfl (Cov.cons rfl (Cov.cons rfl (Cov.cons rfl (Cov.nil _))))), hot0⟩) ?_ ?_
  · clear h
    rintro s1 q _ _ _ ⟨S6, rfl, rfl, hc7, hot0⟩ h
    unfold F116_48_l0 at h
    refine WC.cov hc7 (WC.seq (WC.region ?_))
    refine WO.bin rfl rfl (by decide) (by decide) rfl ?_
    refine WO.nil (thenL_n (WC.seq ?_))
    refine WC.cond rfl (fun q8 => ?_) (fun q8 => ?_)
    · have h := iteT q8 h
      refine WC.skip (thenL_n (WC.seq (WC.block (WC.seq (WC.region (WO.mv rfl (WO.asg rfl (WO.nil (thenL_n ?_)))))))))
      refine WC.seq (WC.region (WO.mv rfl (WO.mv rfl (WO.mv rfl ?_))))
      obtain ⟨x9, e10, h⟩ := bindS h
      refine WO.ixS rfl rfl hot0.slv (at?_lt e10) rfl ?_
      refine WO.ldF rfl hot0.ro (fun _ hi => hi) (at?_get e10) rfl rfl rfl ?_
      obtain ⟨r11, e12, h⟩ := bindS h
      refine WO.callE (S := S6) rfl rfl (F48_ok e12) (fun S13 c14 => ?_)
      have hot0 := hot0.to c14
      refine WO.nil (thenL_n ?_)
      refine WC.cond rfl (fun q15 => ?_) (fun q15 => ?_)
      · have h := iteT q15 h
        refine WC.seq (WC.region (WO.mv rfl (WO.asg rfl (WO.nil (thenL_n (WC.ret (blockL_r (thenL_r (thenL_r ?_)))))))))
        obtain rfl := someI h
        exact ⟨_, rfl, rfl, ⟨S13, rfl, rfl, (Cov.cons rfl (Cov.nil _))⟩⟩
      · have h := iteF q15 h
        refine WC.skip (blockL_n (thenL_n (WC.region ?_)))
        refine WO.bin rfl rfl (by decide) (by decide) rfl ?_
        refine WO.mv rfl (WO.nil (thenL_n ?_))
        obtain rfl := someI h
        exact ⟨_, rfl, ⟨S13, rfl, rfl, (Cov.cons rfl (Cov.cons rfl (Cov.cons rfl (Cov.cons rfl (Cov.nil _))))), hot0⟩⟩
    · have h := iteF q8 h
      refine WC.exit (thenL_e (thenL_e ?_))
      obtain rfl := someI h
      exact ⟨_, rfl, rfl, ⟨S6, rfl, rfl, (Cov.nil _)⟩⟩
  cases b16 with
  | inl b18 =>
    simp only at h
    rintro _ _ _ _ ⟨rfl, ⟨S19, rfl, rfl, hc20⟩⟩
    refine blockL_s (thenL_n (WC.cov hc20 (WC.seq (WC.region (WO.asg rfl (WO.nil (thenL_n (WC.ret ?_))))))))
    obtain rfl := someI h
    exact ⟨.inr rfl, _, _, rfl, rfl, rfl⟩
  | inr b18 =>
    simp only at h
    rintro _ _ _ _ ⟨rfl, ⟨S21, rfl, rfl, hc22⟩⟩
    refine blockL_r (thenL_r ?_)
    obtain rfl := someI h
    exact ⟨.inr rfl, _, _, (resK_cov hc22 rfl), rfl, rfl⟩
end Go.Proofs.Ytihmliblbhjlaaa

namespace Go.Proofs.Ytihmliblbhjlaaa
open Go.Am
theorem F47_48.fn : E.fn 47 = some ⟨9, (Try.f47.body.getD .skip), Try.f47.results.toList, []⟩ := rfl
theorem F47_48_ok {F : Nat} {m : Mem} {n : Nat} {r : Bool} {t0 : List Int} {vt0 : SV} (h : F47_48 F t0 = some r) (kt0 : Vw Y3 n m vt0 t0) : Ret E n 47 [.sc vt0, .sc (.fn 48 [])] m n (fun v m' n' => v = .sc (.bool r)) := by
  unfold F47_48 at h
  refine Ret.walk F47_48.fn ?_
  refine WC.start fun S0 em en hz => ?_
  have hot0 := kt0.rdS em hz
  refine WC.seq (WC.region (WO.asg rfl (WO.nil (thenL_n (WC.seq (WC.region (WO.mv rfl (WO.mv rfl ?_))))))))
  obtain ⟨r1, e2, h⟩ := bindS h
  refine WO.callE (S := S0) rfl rfl (F116_48_ok e2 hot0.vw) (fun S3 c4 => ?_)
  have hot0 := hot0.to c4
  refine WO.bin rfl rfl (by decide) (by decide) rfl ?_
  refine WO.asg rfl (WO.nil (thenL_n (WC.ret ?_)))
  obtain rfl := someI h
  exact ⟨.inr rfl, _, _, rfl, rfl, rfl⟩
end Go.Proofs.Ytihmliblbhjlaaa

namespace Go.Proofs.Ytihmliblbhjlaaa
open Go.Am
theorem F117.fn : E.fn 117 = some ⟨33, (Try.f117.body.getD .skip), Try.f117.results.toList, []⟩ := rfl
theorem F117_ok {F : Nat} {fl n b : Nat} {m : Mem} {v : SV} {t0 M : (List Int)} {t1 t2 : Int} (h : F117 F t0 t1 t2 = some M) (hfl : fl ≤ n) (kt0 : Ov Y3 fl n b m v t0) : Ret E fl 117 [.sc v, .sc (.int .i64 t1), .sc (.int .i64 t2)] m n (fun v' m' n' => ∃ w, v' = .sc w ∧ Oq Y3 n b m m' w M) := by
  unfold F117 at h
  replace h : del? t0 t1 t2 = some M := by split at h; exact h; cases h
  unfold del? at h
  split at h
  · rename_i hq
    obtain rfl := someI h
    obtain ⟨hq0, hq1, hq2, hq3, hq4⟩ := hq
    obtain ⟨c, cs, rfl, h1, h2, h3, h4, h5, h6⟩ := kt0
    have h7 := h6.flat1
    have h5 : cs.length = c * 1 := h5
    have hsz : Y3.sz = 1 := rfl
    refine Ret.walk F117.fn ?_
    repeat (first | refine WC.seq ?_ | refine thenL_n ?_ | refine thenL_r ?_ | refine WC.region ?_ | refine WO.nil ?_ | refine WC.skip ?_ | refine WC.ret ?_ | refine WO.asg rfl ?_ | refine WO.mv rfl ?_)
    refine WO.lenS rfl (.inr ⟨b, 0, c, rfl, h1⟩) rfl ?_
    refine WO.slH3 rfl rfl rfl rfl ⟨hq0, hq1, hq2, by omega⟩ rfl (fun w0 => ?_)
    repeat (first | refine WC.seq ?_ | refine thenL_n ?_ | refine thenL_r ?_ | refine WC.region ?_ | refine WO.nil ?_ | refine WC.skip ?_ | refine WC.ret ?_ | refine WO.asg rfl ?_ | refine WO.mv rfl ?_)
    refine WO.bin rfl rfl (by decide) (by decide) rfl ?_
    repeat (first | refine WC.seq ?_ | refine thenL_n ?_ | refine thenL_r ?_ | refine WC.region ?_ | refine WO.nil ?_ | refine WC.skip ?_ | refine WC.ret ?_ | refine WO.asg rfl ?_ | refine WO.mv rfl ?_)
    refine WC.cond rfl (fun q => ?_) (fun q => ?_)
    · repeat (first | refine WC.seq ?_ | refine thenL_n ?_ | refine thenL_r ?_ | refine WC.region ?_ | refine WO.nil ?_ | refine WC.skip ?_ | refine WC.ret ?_ | refine WO.asg rfl ?_ | refine WO.mv rfl ?_)
      have e : t1 = t2 := by simpa using q
      subst e
      have eL : t0.take t1.toNat ++ t0.drop t1.toNat = t0 := List.take_append_drop _ _
      exact ⟨.inr rfl, _, _, rfl, rfl, _, rfl, fun _ _ _ => rfl, c, cs, by rw [eL], by rw [eL]; exact h1, h4, h5, by rw [eL]; exact h6⟩
    · have e : ¬ t1 = t2 := by simpa using q
      repeat (first | refine WC.seq ?_ | refine thenL_n ?_ | refine thenL_r ?_ | refine WC.region ?_ | refine WO.nil ?_ | refine WC.skip ?_ | refine WC.ret ?_ | refine WO.asg rfl ?_ | refine WO.mv rfl ?_)
      refine WO.lenS rfl (.inr ⟨b, 0, c, rfl, h1⟩) rfl ?_
      repeat (first | refine WC.seq ?_ | refine thenL_n ?_ | refine thenL_r ?_ | refine WC.region ?_ | refine WO.nil ?_ | refine WC.skip ?_ | refine WC.ret ?_ | refine WO.asg rfl ?_ | refine WO.mv rfl ?_)
      refine WC.drawN rfl rfl ?_
      repeat (first | refine WC.seq ?_ | refine thenL_n ?_ | refine thenL_r ?_ | refine WC.region ?_ | refine WO.nil ?_ | refine WC.skip ?_ | refine WC.ret ?_ | refine WO.asg rfl ?_ | refine WO.mv rfl ?_)
      refine WO.slHto rfl rfl ⟨by omega, by omega⟩ rfl ?_
      repeat (first | refine WC.seq ?_ | refine thenL_n ?_ | refine thenL_r ?_ | refine WC.region ?_ | refine WO.nil ?_ | refine WC.skip ?_ | refine WC.ret ?_ | refine WO.asg rfl ?_ | refine WO.mv rfl ?_)
      refine WO.slHfrom rfl rfl ⟨by omega, by omega, h1⟩ h4 (by show 0 + t0.length * 1 ≤ cs.length; omega) rfl (fun w1 hw1 => ?_)
      refine WO.appH rfl rfl hw1 h4 (by show 0 + c * 1 ≤ cs.length; omega) (by omega) (by omega) h2 rfl ?_
      repeat (first | refine WC.seq ?_ | refine thenL_n ?_ | refine thenL_r ?_ | refine WC.region ?_ | refine WO.nil ?_ | refine WC.skip ?_ | refine WC.ret ?_ | refine WO.asg rfl ?_ | refine WO.mv rfl ?_)
      refine WO.lenS rfl (.inr ⟨b, 0, c, rfl, by omega⟩) rfl ?_
      repeat (first | refine WC.seq ?_ | refine thenL_n ?_ | refine thenL_r ?_ | refine WC.region ?_ | refine WO.nil ?_ | refine WC.skip ?_ | refine WC.ret ?_ | refine WO.asg rfl ?_ | refine WO.mv rfl ?_)
      refine WO.slHmid rfl rfl rfl ⟨by omega, by omega, by omega, by omega⟩ rfl ?_
      refine WO.clrH rfl (Tr.get_set_same _ _ _) ?_ h2 rfl (fun z hz => ?_)
      · show _ ≤ (splice cs (0 + t1.toNat * 1) _).length
        simp only [splice, List.length_append, List.length_take, List.length_drop, Int.toNat_natCast, hsz, Nat.mul_one, Nat.zero_add]
        omega
      · repeat (first | refine WC.seq ?_ | refine thenL_n ?_ | refine thenL_r ?_ | refine WC.region ?_ | refine WO.nil ?_ | refine WC.skip ?_ | refine WC.ret ?_ | refine WO.asg rfl ?_ | refine WO.mv rfl ?_)
        have hl : (t0.take t1.toNat ++ t0.drop t2.toNat).length = t1.toNat + (t0.length - t2.toNat) := by simp; omega
        refine ⟨.inr rfl, _, _, rfl, rfl, _, rfl, fun i _ hb => by rw [Tr.get_set_ne _ _ hb, Tr.get_set_ne _ _ hb], c, _, by rw [hl], by rw [hl]; omega, Tr.get_set_same _ _ _, ?_, ?_⟩
        · simp only [splice, List.length_append, List.length_take, List.length_drop, Int.toNat_natCast, hz, hsz, Nat.mul_one, Nat.zero_add]
          omega
        · have hd := del_cells (g := (SV.int .i64)) (z := z) (p := t1.toNat) (r := t2.toNat) (lo := t1.toNat + (t0.length - t2.toNat)) h7 (by omega) (by omega) (by omega) rfl
          have hR : RL Y3 (fun i => i < n ∧ i ≠ b) m (t0.take t1.toNat ++ t0.drop t2.toNat) _ := RL.ofMap _
          rw [← hd] at hR
          exact RL.fl Lay.flat_fl hR
  · cases h
end Go.Proofs.Ytihmliblbhjlaaa

namespace Go.Proofs.Ytihmliblbhjlaaa
open Go.Am
theorem F49.fn : E.fn 49 = some ⟨42, (Try.f49.body.getD .skip), Try.f49.results.toList, []⟩ := rfl
theorem F49_ok {F : Nat} {m : Mem} {n : Nat} {r : (List Int)} {t0 : List Int} {vt0 : SV} (h : F49 F t0 = some r) (kt0 : Vw Y3 n m vt0 t0) : Ret E n 49 [.sc vt0] m n (fun v m' n' => ∃ w, v = .sc w ∧ Fr Y3 n m' n' w r) := by
  unfold F49 at h
  refine Ret.walk F49.fn ?_
  refine WC.start fun S0 em en hz => ?_
  have hot0 := kt0.rdS em hz
  refine WC.seq (WC.region (WO.asg rfl (WO.nil (thenL_n (WC.seq (WC.region (WO.mv rfl ?_)))))))
  obtain ⟨r1, e2, h⟩ := bindS h
  refine WO.callF (S := S0) 2 rfl rfl (F45_ok e2 hot0.vw) Lay.flat_fl (fun v3 S5 c6 ho4 => ?_)
  have hot0 := hot0.to c6
  refine WO.asg rfl (WO.nil (thenL_n (WC.block ?_)))
  obtain ⟨b52, e53, h⟩ := bindS h
  refine WC.loopD e53 (fun s7 l' m' n' => ∃ S9 : Cx n, ∃ v10 : SV, S9.m = m' ∧ S9.n = n' ∧ Cov l' [(0, .sc v10)] ∧ Ow Y3 S9 2 v10 s7) (fun b e l' m' n' => e = .ret ∧ ∃ S11 : Cx n, ∃ v12 : SV, S11.m = m' ∧ S11.n = n' ∧ Cov l' [(2, .sc v12)] ∧ Ow Y3 S11 3 v12 b) (by exact ⟨S5, v3, rfl, rfl, (Cov.cons rfl (Cov.nil _)), ho4⟩) ?_ ?_
  · clear h
    rintro s7 q _ _ _ ⟨S13, v14, rfl, rfl, hc15, ho0⟩ h
    unfold F49_l1 at h
    refine WC.cov hc15 (WC.block (WC.seq (WC.region (WO.mv rfl ?_))))
    obtain ⟨r16, e17, h⟩ := bindS h
    refine WO.callI (S := S13) ho0 rfl rfl (fun bq hI hB => F114_ok e17 S13.le hI) Lay.flat_fl (fun S18 c19 ho0 => ?_)
    refine WO.nil (thenL_n (WC.seq (WC.region (WO.asg rfl (WO.nil (thenL_n (WC.seq (WC.seq (WC.region ?_)))))))))
    refine WO.asg rfl (WO.nil (thenL_n (WC.block ?_)))
    obtain ⟨b31, e32, h⟩ := bindS h
    refine WC.loopD e32 (fun s20 l' m' n' => ∃ S21 : Cx n, S21.m = m' ∧ S21.n = n' ∧ Cov l' [(0, .sc v14), (3, .sc (.int .i64 s20.1)), (4, .sc (.int .i64 s20.2))] ∧ Ow Y3 S21 2 v14 r16) (fun b e l' m' n' => e = .exit 2 ∧ ∃ S22 : Cx n, S22.m = m' ∧ S22.n = n' ∧ Cov l' [(0, .sc v14), (3, .sc (.int .i64 b))] ∧ Ow Y3 S22 2 v14 r16) (by exact ⟨S18, rfl, rfl, (Cov.cons rfl (Cov.cons rfl (Cov.cons rfl (Cov.nil _)))), ho0⟩) ?_ ?_
    · clear h
      rintro s20 q _ _ _ ⟨S23, rfl, rfl, hc24, ho0⟩ h
      unfold F49_l0 at h
      refine WC.cov hc24 (WC.seq (WC.seq (WC.region (WO.mv rfl (WO.mv rfl ?_)))))
      refine WO.lenS rfl ho0.slv rfl ?_
      refine WO.bin rfl rfl (by decide) (by decide) rfl ?_
      refine WO.nil (thenL_n ?_)
      refine WC.cond rfl (fun q25 => ?_) (fun q25 => ?_)
      · have h := iteT q25 h
        refine WC.skip (thenL_n (WC.seq (WC.block (WC.seq ?_))))
        refine WC.drawP rfl rfl ?_
        refine WO.mv rfl (WO.mv rfl ?_)
        obtain ⟨x26, e27, h⟩ := bindS h
        refine WO.ixS rfl rfl ho0.slv (at?_lt e27) rfl ?_
        refine WO.ldF rfl ho0.ro (fun _ hi => hi) (at?_get e27) rfl rfl rfl ?_
        refine WO.mv rfl (WO.mv rfl ?_)
        refine WO.bin rfl rfl (by decide) (by decide) rfl ?_
        obtain ⟨x28, e29, h⟩ := bindS h
        refine WO.ixS rfl rfl ho0.slv (at?_lt e29) rfl ?_
        refine WO.ldF rfl ho0.ro (fun _ hi => hi) (at?_get e29) rfl rfl rfl ?_
        refine WO.bin rfl rfl (by decide) (by decide) rfl ?_
        refine WO.nil (thenL_n ?_)
        refine WC.cond rfl (fun q30 => ?_) (fun q30 => ?_)
        · have h := iteT q30 h
          refine WC.region (WO.mv rfl (WO.asg rfl (WO.nil (blockL_n (thenL_n (WC.region (WO.mv rfl ?_)))))))
          refine WO.bin rfl rfl (by decide) (by decide) rfl ?_
          refine WO.asg rfl (WO.nil (thenL_n ?_))
          obtain rfl := someI h
          exact ⟨_, rfl, ⟨S23, rfl, rfl, (Cov.cons rfl (Cov.cons rfl (Cov.cons rfl (Cov.nil _)))), ho0⟩⟩
        · have h := iteF q30 h
          refine WC.skip (blockL_n (thenL_n (WC.region (WO.mv rfl ?_))))
          refine WO.bin rfl rfl (by decide) (by decide) rfl ?_
          refine WO.asg rfl (WO.nil (thenL_n ?_))
          obtain rfl := someI h
          exact ⟨_, rfl, ⟨S23, rfl, rfl, (Cov.cons rfl (Cov.cons rfl (Cov.cons rfl (Cov.nil _)))), ho0⟩⟩
      · have h := iteF q25 h
        refine WC.exit (thenL_e (thenL_e ?_))
        obtain rfl := someI h
        exact ⟨_, rfl, rfl, ⟨S23, rfl, rfl, (Cov.cons rfl (Cov.cons rfl (Cov.nil _))), ho0⟩⟩
    rintro _ _ _ _ ⟨rfl, ⟨S33, rfl, rfl, hc34, ho0⟩⟩
    refine blockL_s (thenL_n (WC.cov hc34 (WC.seq (WC.seq (WC.region (WO.mv rfl ?_))))))
    refine WO.bin rfl rfl (by decide) (by decide) rfl ?_
    refine WO.nil (thenL_n ?_)
    refine WC.cond rfl (fun q35 => ?_) (fun q35 => ?_)
    · have h := iteT q35 h
      refine WC.seq (WC.region (WO.mv rfl ?_))
      obtain ⟨r36, e37, h⟩ := bindS h
      refine WO.callI (S := S33) ho0 rfl rfl (fun bq hI hB => F115_ok e37 S33.le hI) Lay.flat_fl (fun S38 c39 ho0 => ?_)
      refine WO.nil (thenL_n (WC.seq (WC.region (WO.mv rfl (WO.asg rfl (WO.nil (thenL_n (WC.ret (thenL_r ?_)))))))))
      refine blockL_r (thenL_r ?_)
      have ho0 := ho0.ren (j := 3)
      obtain rfl := someI h
      exact ⟨_, rfl, rfl, ⟨(S38.ren 2 3), v14, rfl, rfl, (Cov.cons rfl (Cov.nil _)), ho0⟩⟩
    · have h := iteF q35 h
      refine WC.skip (thenL_n (WC.seq (WC.region (WO.mv rfl (WO.mv rfl ?_)))))
      obtain ⟨x40, e41, h⟩ := bindS h
      refine WO.ixS rfl rfl ho0.slv (at?_lt e41) rfl ?_
      refine WO.ldF rfl ho0.ro (fun _ hi => hi) (at?_get e41) rfl rfl rfl ?_
      refine WO.bin rfl rfl (by decide) (by decide) rfl ?_
      obtain ⟨u42, e43, h⟩ := bindS h
      refine WO.ixS rfl rfl ho0.slv (ck_some e43) rfl ?_
      refine WO.st1 (u' := (wrapA .i64 (x40 * 2))) rfl rfl ho0 (ck_nat e43) rfl rfl (fun S44 c45 ho0 => ?_)
      refine WO.nil (thenL_n (WC.region (WO.mv rfl (WO.mv rfl ?_))))
      refine WO.bin rfl rfl (by decide) (by decide) rfl ?_
      refine WO.mv rfl ?_
      obtain ⟨r46, e47, h⟩ := bindS h
      refine WO.callO (S := S44) ho0 (del?_ne e47) rfl rfl (fun bq hI => F117_ok e47 S44.le hI) Lay.flat_fl (fun v48 S49 c50 ho51 => ?_)
      refine WO.asg rfl (WO.nil (blockL_n (thenL_n ?_)))
      obtain rfl := someI h
      exact ⟨_, rfl, ⟨S49, v48, rfl, rfl, (Cov.cons rfl (Cov.nil _)), ho51⟩⟩
  rintro _ _ _ _ ⟨rfl, ⟨S54, v55, rfl, rfl, hc56, ho2⟩⟩
  refine blockL_r ?_
  obtain rfl := someI h
  exact ⟨.inr rfl, _, _, (resK_cov hc56 rfl), rfl, ⟨v55, rfl, (ho2.fr Lay.flat_fl)⟩⟩
end Go.Proofs.Ytihmliblbhjlaaa

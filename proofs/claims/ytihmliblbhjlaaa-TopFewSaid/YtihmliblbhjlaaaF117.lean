/- The machine answers F117: printed by a program of ours (gen.py). -/
import Derived.Test.YtihmliblbhjlaaaDef
import Derived.Test.YtihmliblbhjlaaaEnv
set_option linter.unusedVariables false
namespace Go.Proofs.Ytihmliblbhjlaaa
open Go.Am
theorem F117.fn : E.fn 117 = some ⟨33, (Try.f117.body.getD .skip), Try.f117.results.toList, []⟩ := rfl
theorem F117_ok {F : Nat} {fl n b : Nat} {m : Mem} {v : SV} {t0 M : (List Int)} {t1 t2 : Int} (h : F117 F t0 t1 t2 = some M) (hfl : fl ≤ n) (kt0 : Ov Y3 fl n b m v t0) : Ret E fl 117 [.sc v, .sc (.int .i64 t1), .sc (.int .i64 t2)] m n (fun v' m' n' => ∃ w, v' = .sc w ∧ Oq Y3 n b m m' w M) := by
  unfold F117 at h
  replace h : del? t0 t1 t2 = some M := by split at h; exact h; cases h
  unfold del? at h
  split at h
  · rename_i hq
    obtain rfl := someI h
    obtain ⟨hq0, hq1, hq2, hq3, hq4⟩ := hq
    obtain ⟨c, cs, rfl, h1, h2, h3, h4, h5, h6⟩ := kt0
    have h7 := h6.flat1
    have h5 : cs.length = c * 1 := h5
    have hsz : Y3.sz = 1 := rfl
    refine Ret.walk F117.fn ?_
    repeat (first | refine WC.seq ?_ | refine thenL_n ?_ | refine thenL_r ?_ | refine WC.region ?_ | refine WO.nil ?_ | refine WC.skip ?_ | refine WC.ret ?_ | refine WO.asg rfl ?_ | refine WO.mv rfl ?_)
    refine WO.lenS rfl (.inr ⟨b, 0, c, rfl, h1⟩) rfl ?_
    refine WO.slH3 rfl rfl rfl rfl ⟨hq0, hq1, hq2, by omega⟩ rfl (fun w0 => ?_)
    repeat (first | refine WC.seq ?_ | refine thenL_n ?_ | refine thenL_r ?_ | refine WC.region ?_ | refine WO.nil ?_ | refine WC.skip ?_ | refine WC.ret ?_ | refine WO.asg rfl ?_ | refine WO.mv rfl ?_)
    refine WO.bin rfl rfl (by decide) (by decide) rfl ?_
    repeat (first | refine WC.seq ?_ | refine thenL_n ?_ | refine thenL_r ?_ | refine WC.region ?_ | refine WO.nil ?_ | refine WC.skip ?_ | refine WC.ret ?_ | refine WO.asg rfl ?_ | refine WO.mv rfl ?_)
    refine WC.cond rfl (fun q => ?_) (fun q => ?_)
    · repeat (first | refine WC.seq ?_ | refine thenL_n ?_ | refine thenL_r ?_ | refine WC.region ?_ | refine WO.nil ?_ | refine WC.skip ?_ | refine WC.ret ?_ | refine WO.asg rfl ?_ | refine WO.mv rfl ?_)
      have e : t1 = t2 := by simpa using q
      subst e
      have eL : t0.take t1.toNat ++ t0.drop t1.toNat = t0 := List.take_append_drop _ _
      exact ⟨.inr rfl, _, _, rfl, rfl, _, rfl, fun _ _ _ => rfl, c, cs, by rw [eL], by rw [eL]; exact h1, h4, h5, by rw [eL]; exact h6⟩
    · have e : ¬ t1 = t2 := by simpa using q
      repeat (first | refine WC.seq ?_ | refine thenL_n ?_ | refine thenL_r ?_ | refine WC.region ?_ | refine WO.nil ?_ | refine WC.skip ?_ | refine WC.ret ?_ | refine WO.asg rfl ?_ | refine WO.mv rfl ?_)
      refine WO.lenS rfl (.inr ⟨b, 0, c, rfl, h1⟩) rfl ?_
      repeat (first | refine WC.seq ?_ | refine thenL_n ?_ | refine thenL_r ?_ | refine WC.region ?_ | refine WO.nil ?_ | refine WC.skip ?_ | refine WC.ret ?_ | refine WO.asg rfl ?_ | refine WO.mv rfl ?_)
      refine WC.drawN rfl rfl ?_
      repeat (first | refine WC.seq ?_ | refine thenL_n ?_ | refine thenL_r ?_ | refine WC.region ?_ | refine WO.nil ?_ | refine WC.skip ?_ | refine WC.ret ?_ | refine WO.asg rfl ?_ | refine WO.mv rfl ?_)
      refine WO.slHto rfl rfl ⟨by omega, by omega⟩ rfl ?_
      repeat (first | refine WC.seq ?_ | refine thenL_n ?_ | refine thenL_r ?_ | refine WC.region ?_ | refine WO.nil ?_ | refine WC.skip ?_ | refine WC.ret ?_ | refine WO.asg rfl ?_ | refine WO.mv rfl ?_)
      refine WO.slHfrom rfl rfl ⟨by omega, by omega, h1⟩ h4 (by show 0 + t0.length * 1 ≤ cs.length; omega) rfl (fun w1 hw1 => ?_)
      refine WO.appH rfl rfl hw1 h4 (by show 0 + c * 1 ≤ cs.length; omega) (by omega) (by omega) h2 rfl ?_
      repeat (first | refine WC.seq ?_ | refine thenL_n ?_ | refine thenL_r ?_ | refine WC.region ?_ | refine WO.nil ?_ | refine WC.skip ?_ | refine WC.ret ?_ | refine WO.asg rfl ?_ | refine WO.mv rfl ?_)
      refine WO.lenS rfl (.inr ⟨b, 0, c, rfl, by omega⟩) rfl ?_
      repeat (first | refine WC.seq ?_ | refine thenL_n ?_ | refine thenL_r ?_ | refine WC.region ?_ | refine WO.nil ?_ | refine WC.skip ?_ | refine WC.ret ?_ | refine WO.asg rfl ?_ | refine WO.mv rfl ?_)
      refine WO.slHmid rfl rfl rfl ⟨by omega, by omega, by omega, by omega⟩ rfl ?_
      refine WO.clrH rfl (Tr.get_set_same _ _ _) ?_ h2 rfl (fun z hz => ?_)
      · show _ ≤ (splice cs (0 + t1.toNat * 1) _).length
        simp only [splice, List.length_append, List.length_take, List.length_drop, Int.toNat_natCast, hsz, Nat.mul_one, Nat.zero_add]
        omega
      · repeat (first | refine WC.seq ?_ | refine thenL_n ?_ | refine thenL_r ?_ | refine WC.region ?_ | refine WO.nil ?_ | refine WC.skip ?_ | refine WC.ret ?_ | refine WO.asg rfl ?_ | refine WO.mv rfl ?_)
        have hl : (t0.take t1.toNat ++ t0.drop t2.toNat).length = t1.toNat + (t0.length - t2.toNat) := by simp; omega
        refine ⟨.inr rfl, _, _, rfl, rfl, _, rfl, fun i _ hb => by rw [Tr.get_set_ne _ _ hb, Tr.get_set_ne _ _ hb], c, _, by rw [hl], by rw [hl]; omega, Tr.get_set_same _ _ _, ?_, ?_⟩
        · simp only [splice, List.length_append, List.length_take, List.length_drop, Int.toNat_natCast, hz, hsz, Nat.mul_one, Nat.zero_add]
          omega
        · have hd := del_cells (g := (SV.int .i64)) (z := z) (p := t1.toNat) (r := t2.toNat) (lo := t1.toNat + (t0.length - t2.toNat)) h7 (by omega) (by omega) (by omega) rfl
          have hR : RL Y3 (fun i => i < n ∧ i ≠ b) m (t0.take t1.toNat ++ t0.drop t2.toNat) _ := RL.ofMap _
          rw [← hd] at hR
          exact RL.fl Lay.flat_fl hR
  · cases h
end Go.Proofs.Ytihmliblbhjlaaa

/- The machine answers the functions' texts: printed by a program of ours (gen.py). -/
import Derived.Test.YtihmliblbhjlaaaDef
import Derived.Test.YtihmliblbhjlaaaEnv
set_option linter.unusedVariables false
namespace Go.Proofs.Ytihmliblbhjlaaa
open Go.Am
theorem F21.fn : E.fn 21 = some ⟨26, (Try.f21.body.getD .skip), Try.f21.results.toList, []⟩ := rfl
theorem F21_ok {F : Nat} {m : Mem} {n : Nat} {r : Bool} {t0 : List Int} {t1 : List Int} {vt0 : SV} {vt1 : SV} (h : F21 F t0 t1 = some r) (kt0 : Vw Y3 n m vt0 t0) (kt1 : Vw Y3 n m vt1 t1) : Ret E n 21 [.sc vt0, .sc vt1] m n (fun v m' n' => v = .sc (.bool r)) := by
  unfold F21 at h
  refine Ret.walk F21.fn ?_
  refine WC.start fun S0 em en hz => ?_
  have hot0 := kt0.rdS em hz
  have hot1 := kt1.rdS em hz
  refine WC.seq (WC.region (WO.asg rfl (WO.nil (thenL_n (WC.seq (WC.seq (WC.region (WO.mv rfl ?_))))))))
  refine WO.lenS rfl hot0.slv rfl ?_
  refine WO.mv rfl ?_
  refine WO.lenS rfl hot1.slv rfl ?_
  refine WO.bin rfl rfl (by decide) (by decide) rfl ?_
  refine WO.nil (thenL_n ?_)
  refine WC.cond rfl (fun q1 => ?_) (fun q1 => ?_)
  · have h := iteT q1 h
    refine WC.seq (WC.region (WO.asg rfl (WO.nil (thenL_n (WC.ret (thenL_r ?_))))))
    obtain rfl := someI h
    exact ⟨.inr rfl, _, _, rfl, rfl, rfl⟩
  · have h := iteF q1 h
    refine WC.skip (thenL_n (WC.seq (WC.seq (WC.region (WO.mv rfl ?_)))))
    refine WO.lenS rfl hot0.slv rfl ?_
    refine WO.mv rfl (WO.nil (thenL_n (WC.block ?_)))
    obtain ⟨b15, e16, h⟩ := bindS h
    refine WC.loopD e16 (fun s2 l' m' n' => ∃ S3 : Cx n, S3.m = m' ∧ S3.n = n' ∧ Cov l' [(0, .sc vt0), (1, .sc vt1), (12, .sc (.int .i64 ((t0.length : Int)))), (13, .sc (.int .i64 s2))] ∧ Rd Y3 S3 vt0 t0 ∧ Rd Y3 S3 vt1 t1) (fun b e l' m' n' => (match b with | .inl b4 => e = .exit 0 ∧ ∃ S5 : Cx n, S5.m = m' ∧ S5.n = n' ∧ Cov l' [] | .inr b4 => e = .ret ∧ ∃ S6 : Cx n, S6.m = m' ∧ S6.n = n' ∧ Cov l' [(4, .sc (.bool b4))])) (by exact ⟨S0, rfl, rfl, (Cov.cons rfl (Cov.cons rfl (Cov.cons rfl (Cov.cons rfl (Cov.nil _))))), hot0, hot1⟩) ?_ ?_
    · clear h
      rintro s2 q _ _ _ ⟨S7, rfl, rfl, hc8, hot0, hot1⟩ h
      unfold F21_l0 at h
      refine WC.cov hc8 (WC.seq (WC.region ?_))
      refine WO.bin rfl rfl (by decide) (by decide) rfl ?_
      refine WO.nil (thenL_n (WC.seq ?_))
      refine WC.cond rfl (fun q9 => ?_) (fun q9 => ?_)
      · have h := iteT q9 h
        refine WC.skip (thenL_n (WC.seq (WC.block (WC.seq (WC.region (WO.mv rfl (WO.asg rfl (WO.nil (thenL_n ?_)))))))))
        refine WC.seq ?_
        refine WC.drawP rfl rfl ?_
        refine WO.mv rfl (WO.mv rfl ?_)
        obtain ⟨x10, e11, h⟩ := bindS h
        refine WO.ixS rfl rfl hot0.slv (at?_lt e11) rfl ?_
        refine WO.ldF rfl hot0.ro (fun _ hi => hi) (at?_get e11) rfl rfl rfl ?_
        refine WO.mv rfl (WO.mv rfl ?_)
        obtain ⟨x12, e13, h⟩ := bindS h
        refine WO.ixS rfl rfl hot1.slv (at?_lt e13) rfl ?_
        refine WO.ldF rfl hot1.ro (fun _ hi => hi) (at?_get e13) rfl rfl rfl ?_
        refine WO.bin rfl rfl (by decide) (by decide) rfl ?_
        refine WO.nil (thenL_n ?_)
        refine WC.cond rfl (fun q14 => ?_) (fun q14 => ?_)
        · have h := iteT q14 h
          refine WC.seq (WC.region (WO.asg rfl (WO.nil (thenL_n (WC.ret (blockL_r (thenL_r (thenL_r ?_))))))))
          obtain rfl := someI h
          exact ⟨_, rfl, rfl, ⟨S7, rfl, rfl, (Cov.cons rfl (Cov.nil _))⟩⟩
        · have h := iteF q14 h
          refine WC.skip (blockL_n (thenL_n (WC.region ?_)))
          refine WO.bin rfl rfl (by decide) (by decide) rfl ?_
          refine WO.mv rfl (WO.nil (thenL_n ?_))
          obtain rfl := someI h
          exact ⟨_, rfl, ⟨S7, rfl, rfl, (Cov.cons rfl (Cov.cons rfl (Cov.cons rfl (Cov.cons rfl (Cov.nil _))))), hot0, hot1⟩⟩
      · have h := iteF q9 h
        refine WC.exit (thenL_e (thenL_e ?_))
        obtain rfl := someI h
        exact ⟨_, rfl, rfl, ⟨S7, rfl, rfl, (Cov.nil _)⟩⟩
    cases b15 with
    | inl b17 =>
      simp only at h
      rintro _ _ _ _ ⟨rfl, ⟨S18, rfl, rfl, hc19⟩⟩
      refine blockL_s (thenL_n (WC.cov hc19 (WC.seq (WC.region (WO.asg rfl (WO.nil (thenL_n (WC.ret ?_))))))))
      obtain rfl := someI h
      exact ⟨.inr rfl, _, _, rfl, rfl, rfl⟩
    | inr b17 =>
      simp only at h
      rintro _ _ _ _ ⟨rfl, ⟨S20, rfl, rfl, hc21⟩⟩
      refine blockL_r (thenL_r ?_)
      obtain rfl := someI h
      exact ⟨.inr rfl, _, _, (resK_cov hc21 rfl), rfl, rfl⟩
end Go.Proofs.Ytihmliblbhjlaaa

namespace Go.Proofs.Ytihmliblbhjlaaa
open Go.Am
theorem F26.fn : E.fn 26 = some ⟨8, (Try.f26.body.getD .skip), Try.f26.results.toList, []⟩ := rfl
theorem F26_ok {F : Nat} {m : Mem} {n : Nat} {r : Bool} {t0 : List Int} {t1 : List Int} {vt0 : SV} {vt1 : SV} (h : F26 F t0 t1 = some r) (kt0 : Vw Y3 n m vt0 t0) (kt1 : Vw Y3 n m vt1 t1) : Ret E n 26 [.sc vt0, .sc vt1] m n (fun v m' n' => v = .sc (.bool r)) := by
  unfold F26 at h
  refine Ret.walk F26.fn ?_
  refine WC.start fun S0 em en hz => ?_
  have hot0 := kt0.rdS em hz
  have hot1 := kt1.rdS em hz
  refine WC.seq (WC.region (WO.asg rfl (WO.nil (thenL_n (WC.seq (WC.region (WO.mv rfl (WO.mv rfl ?_))))))))
  obtain ⟨r1, e2, h⟩ := bindS h
  refine WO.callE (S := S0) rfl rfl (F21_ok e2 hot0.vw hot1.vw) (fun S3 c4 => ?_)
  have hot0 := hot0.to c4
  have hot1 := hot1.to c4
  refine WO.asg rfl (WO.nil (thenL_n (WC.ret ?_)))
  obtain rfl := someI h
  exact ⟨.inr rfl, _, _, rfl, rfl, rfl⟩
end Go.Proofs.Ytihmliblbhjlaaa

namespace Go.Proofs.Ytihmliblbhjlaaa
open Go.Am
theorem F45.fn : E.fn 45 = some ⟨8, (Try.f45.body.getD .skip), Try.f45.results.toList, []⟩ := rfl
theorem F45_ok {F : Nat} {m : Mem} {n : Nat} {r : (List Int)} {t0 : (List Int)} {vt0 : SV} (h : F45 F t0 = some r) (kt0 : Vw Y3 n m vt0 t0) : Ret E n 45 [.sc vt0] m n (fun v m' n' => ∃ w, v = .sc w ∧ Fr Y3 n m' n' w r) := by
  unfold F45 at h
  split at h
  · rename_i hq
    obtain rfl := someI h
    refine Ret.walk F45.fn ?_
    refine WC.start fun S0 em en hz => ?_
    have hR := kt0.rdS em hz
    rcases kt0 with ⟨hv | hv, rfl⟩ | ⟨i, o, c, cs, hv, _⟩
    · subst hv
      repeat (first | refine WC.seq ?_ | refine thenL_n ?_ | refine thenL_r ?_ | refine WC.region ?_ | refine WO.nil ?_ | refine WC.condT rfl ?_ | refine WC.condF rfl ?_ | refine WC.skip ?_ | refine WC.ret ?_ | refine WO.asg rfl ?_ | refine WO.mv rfl ?_)
      refine WO.do rfl rfl ?_
      repeat (first | refine WC.seq ?_ | refine thenL_n ?_ | refine thenL_r ?_ | refine WC.region ?_ | refine WO.nil ?_ | refine WC.condT rfl ?_ | refine WC.condF rfl ?_ | refine WC.skip ?_ | refine WC.ret ?_ | refine WO.asg rfl ?_ | refine WO.mv rfl ?_)
      exact ⟨.inr rfl, _, _, rfl, rfl, .nils, rfl, Fr.nil⟩
    all_goals
      subst hv
      repeat (first | refine WC.seq ?_ | refine thenL_n ?_ | refine thenL_r ?_ | refine WC.region ?_ | refine WO.nil ?_ | refine WC.condT rfl ?_ | refine WC.condF rfl ?_ | refine WC.skip ?_ | refine WC.ret ?_ | refine WO.asg rfl ?_ | refine WO.mv rfl ?_)
      refine WO.do rfl rfl ?_
      repeat (first | refine WC.seq ?_ | refine thenL_n ?_ | refine thenL_r ?_ | refine WC.region ?_ | refine WO.nil ?_ | refine WC.condT rfl ?_ | refine WC.condF rfl ?_ | refine WC.skip ?_ | refine WC.ret ?_ | refine WO.asg rfl ?_ | refine WO.mv rfl ?_)
      refine WO.bsS (A := Y3) (S := S0) (M := []) (cs := []) 2 rfl rfl rfl rfl rfl (fun v1 S1 c1 h1 => ?_)
      have hR := hR.to c1
      repeat (first | refine WC.seq ?_ | refine thenL_n ?_ | refine thenL_r ?_ | refine WC.region ?_ | refine WO.nil ?_ | refine WC.condT rfl ?_ | refine WC.condF rfl ?_ | refine WC.skip ?_ | refine WC.ret ?_ | refine WO.asg rfl ?_ | refine WO.mv rfl ?_)
      refine WO.appN rfl rfl h1 hR.ro hq (by decide) rfl rfl (fun v2 S2 c2 h2 => ?_)
      repeat (first | refine WC.seq ?_ | refine thenL_n ?_ | refine thenL_r ?_ | refine WC.region ?_ | refine WO.nil ?_ | refine WC.condT rfl ?_ | refine WC.condF rfl ?_ | refine WC.skip ?_ | refine WC.ret ?_ | refine WO.asg rfl ?_ | refine WO.mv rfl ?_)
      exact ⟨.inr rfl, _, _, rfl, rfl, _, rfl, h2.fr Lay.flat_fl⟩
  · cases h
end Go.Proofs.Ytihmliblbhjlaaa

namespace Go.Proofs.Ytihmliblbhjlaaa
open Go.Am
theorem F167.fn : E.fn 167 = some ⟨6, (Try.f167.body.getD .skip), Try.f167.results.toList, []⟩ := rfl
theorem F167_ok {F : Nat} {m : Mem} {n : Nat} {r : Bool} {t0 : Int} (h : F167 F t0 = some r)  : Ret E n 167 [.sc (.int .i64 t0)] m n (fun v m' n' => v = .sc (.bool r)) := by
  unfold F167 at h
  refine Ret.walk F167.fn ?_
  refine WC.start fun S0 em en hz => ?_
  refine WC.seq (WC.region (WO.asg rfl (WO.nil (thenL_n (WC.seq (WC.region (WO.mv rfl (WO.mv rfl ?_))))))))
  refine WO.bin rfl rfl (by decide) (by decide) rfl ?_
  refine WO.asg rfl (WO.nil (thenL_n (WC.ret ?_)))
  obtain rfl := someI h
  exact ⟨.inr rfl, _, _, rfl, rfl, rfl⟩
end Go.Proofs.Ytihmliblbhjlaaa

namespace Go.Proofs.Ytihmliblbhjlaaa
open Go.Am
theorem F151.fn : E.fn 151 = some ⟨17, (Try.f151.body.getD .skip), Try.f151.results.toList, []⟩ := rfl
theorem F151_ok {F : Nat} {m : Mem} {n : Nat} {r : Bool} {t0 : Int} {t1 : Int} (h : F151 F t0 t1 = some r)  : Ret E n 151 [.sc (.int .i64 t0), .sc (.int .i64 t1)] m n (fun v m' n' => v = .sc (.bool r)) := by
  unfold F151 at h
  refine Ret.walk F151.fn ?_
  refine WC.start fun S0 em en hz => ?_
  refine WC.seq (WC.region (WO.asg rfl (WO.nil (thenL_n (WC.seq (WC.region (WO.mv rfl ?_)))))))
  obtain ⟨r1, e2, h⟩ := bindS h
  refine WO.callE (S := S0) rfl rfl (F167_ok e2) (fun S3 c4 => ?_)
  refine WO.mv rfl ?_
  obtain ⟨y10, e11, h⟩ := bindS h
  refine WO.cutS (d := 11) (S := S3) 4 y10 (fun q9 => ?_) (fun q9 => ?_) (fun S12 c13 => ?_)
  · have h := e11
    have h := iteT q9 h
    refine WO.gyes rfl rfl (WO.mv rfl (WO.gyes rfl rfl ?_))
    obtain ⟨r5, e6, h⟩ := bindS h
    refine WO.callE (S := S3) rfl rfl (F167_ok e6) (fun S7 c8 => ?_)
    refine WO.gyes rfl rfl ?_
    refine WO.do rfl rfl ?_
    obtain rfl := someI h
    refine WO.pickT rfl rfl ?_
    refine WO.nil ?_
    exact ⟨S7, rfl, rfl, c8, (Cov.cons rfl (Cov.skip rfl (Cov.skip rfl (Cov.skip rfl (Cov.skip rfl (Cov.skip rfl (Cov.refl _)))))))⟩
  · have h := e11
    have h := iteF q9 h
    obtain rfl := someI h
    refine WO.gno rfl rfl (WO.gno rfl rfl (WO.gno rfl rfl ?_))
    refine WO.pickF rfl rfl ?_
    refine WO.nil ?_
    exact ⟨S3, rfl, rfl, Ch.refl _ _, (Cov.cons rfl (Cov.skip rfl (Cov.skip rfl (Cov.skip rfl (Cov.skip rfl (Cov.skip rfl (Cov.refl _)))))))⟩
  refine WO.mv rfl ?_
  refine WO.cutB (d := 16) 4 (y10 || (decide (t0 < t1))) (fun q14 => ?_) (fun q14 => ?_) ?_
  · refine WO.gno rfl rfl (WO.gno rfl rfl (WO.gno rfl rfl ?_))
    refine WO.pickT rfl rfl ?_
    refine WO.nil ?_
    exact ⟨rfl, rfl, (Cov.any rfl (orT q14) (Cov.skip rfl (Cov.skip rfl (Cov.skip rfl (Cov.skip rfl (Cov.skip rfl (Cov.refl _)))))))⟩
  · skip
    refine WO.gyes rfl rfl (WO.mv rfl (WO.gyes rfl rfl (WO.mv rfl (WO.gyes rfl rfl ?_))))
    refine WO.bin rfl rfl (by decide) (by decide) rfl ?_
    refine WO.pickF rfl rfl ?_
    refine WO.nil ?_
    exact ⟨rfl, rfl, (Cov.any rfl (orF q14) (Cov.skip rfl (Cov.skip rfl (Cov.skip rfl (Cov.skip rfl (Cov.skip rfl (Cov.refl _)))))))⟩
  refine WO.asg rfl (WO.nil (thenL_n (WC.ret ?_)))
  obtain rfl := someI h
  exact ⟨.inr rfl, _, _, rfl, rfl, rfl⟩
end Go.Proofs.Ytihmliblbhjlaaa

namespace Go.Proofs.Ytihmliblbhjlaaa
open Go.Am
theorem F36.fn : E.fn 36 = some ⟨55, (Try.f36.body.getD .skip), Try.f36.results.toList, []⟩ := rfl
theorem F36_ok {F : Nat} {m : Mem} {n : Nat} {r : Int × Int} {t0 : Int} {t1 : Int} (h : F36 F t0 t1 = some r)  : Ret E n 36 [.sc (.int .i64 t0), .sc (.int .i64 t1)] m n (fun v m' n' => v = .tup [.sc (.int .i64 r.1), .sc (.int .i64 r.2)]) := by
  unfold F36 at h
  refine Ret.walk F36.fn ?_
  refine WC.start fun S0 em en hz => ?_
  refine WC.seq (WC.region (WO.asg rfl (WO.asg rfl (WO.nil (thenL_n (WC.seq (WC.seq (WC.region (WO.mv rfl ?_)))))))))
  refine WO.bin rfl rfl (by decide) (by decide) rfl ?_
  refine WO.mv rfl ?_
  refine WO.cutB (d := 14) 3 ((decide (t0 < 0)) || (decide (t0 > 40))) (fun q1 => ?_) (fun q1 => ?_) ?_
  · refine WO.gno rfl rfl (WO.gno rfl rfl ?_)
    refine WO.pickT rfl rfl ?_
    refine WO.nil ?_
    exact ⟨rfl, rfl, (Cov.any rfl (orT q1) (Cov.skip rfl (Cov.skip rfl (Cov.skip rfl (Cov.skip rfl (Cov.refl _))))))⟩
  · skip
    refine WO.gyes rfl rfl (WO.mv rfl (WO.gyes rfl rfl ?_))
    refine WO.bin rfl rfl (by decide) (by decide) rfl ?_
    refine WO.pickF rfl rfl ?_
    refine WO.nil ?_
    exact ⟨rfl, rfl, (Cov.any rfl (orF q1) (Cov.skip rfl (Cov.skip rfl (Cov.skip rfl (Cov.skip rfl (Cov.refl _))))))⟩
  refine WO.mv rfl ?_
  refine WO.cutB (d := 18) 3 (((decide (t0 < 0)) || (decide (t0 > 40))) || (decide (t1 < 0))) (fun q2 => ?_) (fun q2 => ?_) ?_
  · refine WO.gno rfl rfl (WO.gno rfl rfl ?_)
    refine WO.pickT rfl rfl ?_
    refine WO.nil ?_
    exact ⟨rfl, rfl, (Cov.any rfl (orT q2) (Cov.skip rfl (Cov.skip rfl (Cov.skip rfl (Cov.skip rfl (Cov.refl _))))))⟩
  · skip
    refine WO.gyes rfl rfl (WO.mv rfl (WO.gyes rfl rfl ?_))
    refine WO.bin rfl rfl (by decide) (by decide) rfl ?_
    refine WO.pickF rfl rfl ?_
    refine WO.nil ?_
    exact ⟨rfl, rfl, (Cov.any rfl (orF q2) (Cov.skip rfl (Cov.skip rfl (Cov.skip rfl (Cov.skip rfl (Cov.refl _))))))⟩
  refine WO.mv rfl ?_
  refine WO.cutB (d := 22) 3 ((((decide (t0 < 0)) || (decide (t0 > 40))) || (decide (t1 < 0))) || (decide (t1 > 40))) (fun q3 => ?_) (fun q3 => ?_) ?_
  · refine WO.gno rfl rfl (WO.gno rfl rfl ?_)
    refine WO.pickT rfl rfl ?_
    refine WO.nil ?_
    exact ⟨rfl, rfl, (Cov.any rfl (orT q3) (Cov.skip rfl (Cov.skip rfl (Cov.skip rfl (Cov.skip rfl (Cov.refl _))))))⟩
  · skip
    refine WO.gyes rfl rfl (WO.mv rfl (WO.gyes rfl rfl ?_))
    refine WO.bin rfl rfl (by decide) (by decide) rfl ?_
    refine WO.pickF rfl rfl ?_
    refine WO.nil ?_
    exact ⟨rfl, rfl, (Cov.any rfl (orF q3) (Cov.skip rfl (Cov.skip rfl (Cov.skip rfl (Cov.skip rfl (Cov.refl _))))))⟩
  refine WO.nil (thenL_n ?_)
  refine WC.cond rfl (fun q4 => ?_) (fun q4 => ?_)
  · have h := iteT q4 h
    refine WC.seq (WC.region (WO.asg rfl (WO.asg rfl (WO.nil (thenL_n (WC.ret (thenL_r ?_)))))))
    obtain rfl := someI h
    exact ⟨.inr rfl, _, _, rfl, rfl, rfl⟩
  · have h := iteF q4 h
    refine WC.skip (thenL_n (WC.seq (WC.region (WO.mv rfl ?_))))
    refine WO.bin rfl rfl (by decide) (by decide) rfl ?_
    obtain ⟨L5, e6, h⟩ := bindS h
    refine WO.mkS (A := Y3) (S := S0) 2 rfl rfl e6 rfl rfl rfl (fun v7 S8 c9 ho10 => ?_)
    refine WO.asg rfl (WO.nil (thenL_n (WC.seq (WC.region (WO.mv rfl ?_)))))
    obtain ⟨u11, e12, h⟩ := bindS h
    refine WO.ixS rfl rfl ho10.slv (ck_some e12) rfl ?_
    refine WO.st1 (u' := 1) rfl rfl ho10 (ck_nat e12) rfl rfl (fun S13 c14 ho10 => ?_)
    refine WO.nil (thenL_n (WC.seq (WC.seq (WC.region (WO.asg rfl (WO.nil (thenL_n (WC.block ?_))))))))
    obtain ⟨b39, e40, h⟩ := bindS h
    refine WC.loopD e40 (fun s15 l' m' n' => ∃ S16 : Cx n, S16.m = m' ∧ S16.n = n' ∧ Cov l' [(0, .sc (.int .i64 t0)), (1, .sc (.int .i64 t1)), (6, .sc v7), (7, .sc (.int .i64 s15.1))] ∧ Ow Y3 S16 2 v7 s15.2) (fun b e l' m' n' => e = .exit 0 ∧ ∃ S17 : Cx n, S17.m = m' ∧ S17.n = n' ∧ Cov l' [(0, .sc (.int .i64 t0)), (6, .sc v7)] ∧ Ow Y3 S17 2 v7 b) (by exact ⟨S13, rfl, rfl, (Cov.cons rfl (Cov.cons rfl (Cov.cons rfl (Cov.cons rfl (Cov.nil _))))), ho10⟩) ?_ ?_
    · clear h
      rintro s15 q _ _ _ ⟨S18, rfl, rfl, hc19, ho10⟩ h
      unfold F36_l1 at h
      refine WC.cov hc19 (WC.seq (WC.seq (WC.region (WO.mv rfl (WO.mv rfl ?_)))))
      refine WO.bin rfl rfl (by decide) (by decide) rfl ?_
      refine WO.nil (thenL_n ?_)
      refine WC.cond rfl (fun q20 => ?_) (fun q20 => ?_)
      · have h := iteT q20 h
        refine WC.skip (thenL_n (WC.seq (WC.block (WC.seq (WC.region (WO.mv rfl (WO.asg rfl (WO.nil (thenL_n ?_)))))))))
        refine WC.block ?_
        obtain ⟨b35, e36, h⟩ := bindS h
        refine WC.loopD e36 (fun s21 l' m' n' => ∃ S22 : Cx n, S22.m = m' ∧ S22.n = n' ∧ Cov l' [(0, .sc (.int .i64 t0)), (1, .sc (.int .i64 t1)), (6, .sc v7), (7, .sc (.int .i64 s15.1)), (8, .sc (.int .i64 s21.1))] ∧ Ow Y3 S22 2 v7 s21.2) (fun b e l' m' n' => e = .exit 2 ∧ ∃ S23 : Cx n, S23.m = m' ∧ S23.n = n' ∧ Cov l' [(0, .sc (.int .i64 t0)), (1, .sc (.int .i64 t1)), (6, .sc v7), (7, .sc (.int .i64 s15.1))] ∧ Ow Y3 S23 2 v7 b) (by exact ⟨S18, rfl, rfl, (Cov.cons rfl (Cov.cons rfl (Cov.cons rfl (Cov.cons rfl (Cov.cons rfl (Cov.nil _)))))), ho10⟩) ?_ ?_
        · clear h
          rintro s21 q _ _ _ ⟨S24, rfl, rfl, hc25, ho10⟩ h
          unfold F36_l0 at h
          refine WC.cov hc25 (WC.seq (WC.seq (WC.region (WO.mv rfl (WO.mv rfl ?_)))))
          refine WO.bin rfl rfl (by decide) (by decide) rfl ?_
          refine WO.nil (thenL_n ?_)
          refine WC.cond rfl (fun q26 => ?_) (fun q26 => ?_)
          · have h := iteT q26 h
            refine WC.skip (thenL_n (WC.seq (WC.block ?_)))
            refine WC.drawN rfl rfl ?_
            have ho10z := ho10.oz
            refine WO.mv rfl (WO.mv rfl ?_)
            obtain ⟨x27, e28, h⟩ := bindS h
            refine WO.ixS rfl rfl ho10.slv (at?_lt e28) rfl ?_
            refine WO.ldF rfl ho10z (fun _ hi => hi.1) (at?_get e28) rfl rfl (limLe_self _) ?_
            refine WO.mv rfl (WO.mv rfl (WO.mv rfl ?_))
            refine WO.bin rfl rfl (by decide) (by decide) rfl ?_
            obtain ⟨x29, e30, h⟩ := bindS h
            refine WO.ixS rfl rfl ho10.slv (at?_lt e30) rfl ?_
            refine WO.ldF rfl ho10z (fun _ hi => hi.1) (at?_get e30) rfl rfl (limLe_self _) ?_
            refine WO.bin rfl rfl (by decide) (by decide) rfl ?_
            obtain ⟨u31, e32, h⟩ := bindS h
            refine WO.ixS rfl rfl ho10.slv (ck_some e32) rfl ?_
            refine WO.st1 (u' := (wrapA .i64 (x27 + x29))) rfl rfl ho10 (ck_nat e32) rfl rfl (fun S33 c34 ho10 => ?_)
            refine WO.nil (blockL_n (thenL_n (WC.region (WO.mv rfl ?_))))
            refine WO.bin rfl rfl (by decide) (by decide) rfl ?_
            refine WO.asg rfl (WO.nil (thenL_n ?_))
            obtain rfl := someI h
            exact ⟨_, rfl, ⟨S33, rfl, rfl, (Cov.cons rfl (Cov.cons rfl (Cov.cons rfl (Cov.cons rfl (Cov.cons rfl (Cov.nil _)))))), ho10⟩⟩
          · have h := iteF q26 h
            refine WC.exit (thenL_e (thenL_e ?_))
            obtain rfl := someI h
            exact ⟨_, rfl, rfl, ⟨S24, rfl, rfl, (Cov.cons rfl (Cov.cons rfl (Cov.cons rfl (Cov.cons rfl (Cov.nil _))))), ho10⟩⟩
        rintro _ _ _ _ ⟨rfl, ⟨S37, rfl, rfl, hc38, ho10⟩⟩
        refine blockL_s (blockL_n (thenL_n (WC.cov hc38 (WC.region (WO.mv rfl ?_)))))
        refine WO.bin rfl rfl (by decide) (by decide) rfl ?_
        refine WO.asg rfl (WO.nil (thenL_n ?_))
        obtain rfl := someI h
        exact ⟨_, rfl, ⟨S37, rfl, rfl, (Cov.cons rfl (Cov.cons rfl (Cov.cons rfl (Cov.cons rfl (Cov.nil _))))), ho10⟩⟩
      · have h := iteF q20 h
        refine WC.exit (thenL_e (thenL_e ?_))
        obtain rfl := someI h
        exact ⟨_, rfl, rfl, ⟨S18, rfl, rfl, (Cov.cons rfl (Cov.cons rfl (Cov.nil _))), ho10⟩⟩
    rintro _ _ _ _ ⟨rfl, ⟨S41, rfl, rfl, hc42, ho10⟩⟩
    refine blockL_s (thenL_n (WC.cov hc42 (WC.seq (WC.region (WO.mv rfl (WO.mv rfl ?_))))))
    obtain ⟨x43, e44, h⟩ := bindS h
    refine WO.ixS rfl rfl ho10.slv (at?_lt e44) rfl ?_
    refine WO.ldF rfl ho10.ro (fun _ hi => hi) (at?_get e44) rfl rfl rfl ?_
    refine WO.asg rfl (WO.asg rfl (WO.nil (thenL_n (WC.ret ?_))))
    obtain rfl := someI h
    exact ⟨.inr rfl, _, _, rfl, rfl, rfl⟩
end Go.Proofs.Ytihmliblbhjlaaa

namespace Go.Proofs.Ytihmliblbhjlaaa
open Go.Am
theorem F42.fn : E.fn 42 = some ⟨36, (Try.f42.body.getD .skip), Try.f42.results.toList, []⟩ := rfl
theorem F42_ok {F : Nat} {m : Mem} {n : Nat} {r : Int} {t0 : List Int} {vt0 : SV} (h : F42 F t0 = some r) (kt0 : Vw Y3 n m vt0 t0) : Ret E n 42 [.sc vt0] m n (fun v m' n' => v = .sc (.int .i64 r)) := by
  unfold F42 at h
  refine Ret.walk F42.fn ?_
  refine WC.start fun S0 em en hz => ?_
  have hot0 := kt0.rdS em hz
  refine WC.seq (WC.region (WO.asg rfl (WO.nil (thenL_n (WC.seq (WC.region (WO.asg rfl (WO.nil (thenL_n ?_)))))))))
  refine WC.seq (WC.seq (WC.region (WO.mv rfl ?_)))
  refine WO.lenS rfl hot0.slv rfl ?_
  refine WO.mv rfl (WO.nil (thenL_n (WC.block ?_)))
  obtain ⟨b20, e21, h⟩ := bindS h
  refine WC.loopD e21 (fun s1 l' m' n' => ∃ S2 : Cx n, S2.m = m' ∧ S2.n = n' ∧ Cov l' [(0, .sc vt0), (3, .sc (.int .i64 s1.1)), (6, .sc vt0), (7, .sc (.int .i64 ((t0.length : Int)))), (8, .sc (.int .i64 s1.2))] ∧ Rd Y3 S2 vt0 t0) (fun b e l' m' n' => (match b with | .inl b3 => e = .exit 0 ∧ ∃ S4 : Cx n, S4.m = m' ∧ S4.n = n' ∧ Cov l' [] | .inr b3 => e = .ret ∧ ∃ S5 : Cx n, S5.m = m' ∧ S5.n = n' ∧ Cov l' [(2, .sc (.int .i64 b3))])) (by exact ⟨S0, rfl, rfl, (Cov.cons rfl (Cov.cons rfl (Cov.cons rfl (Cov.cons rfl (Cov.cons rfl (Cov.nil _)))))), hot0⟩) ?_ ?_
  · clear h
    rintro s1 q _ _ _ ⟨S6, rfl, rfl, hc7, hot0⟩ h
    unfold F42_l0 at h
    refine WC.cov hc7 (WC.seq (WC.region ?_))
    refine WO.bin rfl rfl (by decide) (by decide) rfl ?_
    refine WO.nil (thenL_n (WC.seq ?_))
    refine WC.cond rfl (fun q8 => ?_) (fun q8 => ?_)
    · have h := iteT q8 h
      refine WC.skip (thenL_n (WC.seq (WC.block (WC.seq (WC.region (WO.mv rfl ?_))))))
      obtain ⟨x9, e10, h⟩ := bindS h
      refine WO.ixS rfl rfl hot0.slv (at?_lt e10) rfl ?_
      refine WO.ldF rfl hot0.ro (fun _ hi => hi) (at?_get e10) rfl rfl rfl ?_
      refine WO.asg rfl (WO.asg rfl (WO.nil (thenL_n (WC.seq (WC.seq (WC.region (WO.mv rfl ?_)))))))
      refine WO.bin rfl rfl (by decide) (by decide) rfl ?_
      refine WO.mv rfl ?_
      refine WO.cutB (d := 18) 3 ((decide (x9 < 1)) || (decide (x9 > 40))) (fun q11 => ?_) (fun q11 => ?_) ?_
      · refine WO.gno rfl rfl (WO.gno rfl rfl ?_)
        refine WO.pickT rfl rfl ?_
        refine WO.nil ?_
        exact ⟨rfl, rfl, (Cov.any rfl (orT q11) (Cov.skip rfl (Cov.skip rfl (Cov.skip rfl (Cov.skip rfl (Cov.refl _))))))⟩
      · skip
        refine WO.gyes rfl rfl (WO.mv rfl (WO.gyes rfl rfl ?_))
        refine WO.bin rfl rfl (by decide) (by decide) rfl ?_
        refine WO.pickF rfl rfl ?_
        refine WO.nil ?_
        exact ⟨rfl, rfl, (Cov.any rfl (orF q11) (Cov.skip rfl (Cov.skip rfl (Cov.skip rfl (Cov.skip rfl (Cov.refl _))))))⟩
      refine WO.nil (thenL_n ?_)
      refine WC.cond rfl (fun q12 => ?_) (fun q12 => ?_)
      · have h := iteT q12 h
        refine WC.seq (WC.region (WO.asg rfl (WO.nil (thenL_n (WC.ret (thenL_r (blockL_r (thenL_r (thenL_r ?_)))))))))
        obtain rfl := someI h
        exact ⟨_, rfl, rfl, ⟨S6, rfl, rfl, (Cov.cons rfl (Cov.nil _))⟩⟩
      · have h := iteF q12 h
        refine WC.skip (thenL_n (WC.seq (WC.seq (WC.region (WO.mv rfl ?_)))))
        refine WO.bin rfl rfl (by decide) (by decide) rfl ?_
        refine WO.mv rfl ?_
        obtain ⟨y16, e17, h⟩ := bindS h
        refine WO.cutB (d := 29) 8 y16 (fun q15 => ?_) (fun q15 => ?_) ?_
        · have h := e17
          have h := iteT q15 h
          refine WO.gyes rfl rfl (WO.mv rfl (WO.gyes rfl rfl (WO.mv rfl (WO.gyes rfl rfl (WO.mv rfl (WO.gyes rfl rfl ?_))))))
          refine WO.bin rfl rfl (by decide) (by decide) rfl ?_
          refine WO.gyes rfl rfl ?_
          obtain ⟨x13, e14, h⟩ := bindS h
          refine WO.ixS rfl rfl hot0.slv (at?_lt e14) rfl ?_
          refine WO.gyes rfl rfl ?_
          refine WO.ldF rfl hot0.ro (fun _ hi => hi) (at?_get e14) rfl rfl rfl ?_
          refine WO.gyes rfl rfl ?_
          refine WO.bin rfl rfl (by decide) (by decide) rfl ?_
          obtain rfl := someI h
          refine WO.pickT rfl rfl ?_
          refine WO.nil ?_
          exact ⟨rfl, rfl, (Cov.cons rfl (Cov.skip rfl (Cov.skip rfl (Cov.skip rfl (Cov.skip rfl (Cov.skip rfl (Cov.skip rfl (Cov.skip rfl (Cov.skip rfl (Cov.skip rfl (Cov.refl _)))))))))))⟩
        · have h := e17
          have h := iteF q15 h
          obtain rfl := someI h
          refine WO.gno rfl rfl (WO.gno rfl rfl (WO.gno rfl rfl (WO.gno rfl rfl (WO.gno rfl rfl (WO.gno rfl rfl (WO.gno rfl rfl ?_))))))
          refine WO.pickF rfl rfl ?_
          refine WO.nil ?_
          exact ⟨rfl, rfl, (Cov.cons rfl (Cov.skip rfl (Cov.skip rfl (Cov.skip rfl (Cov.skip rfl (Cov.skip rfl (Cov.skip rfl (Cov.skip rfl (Cov.skip rfl (Cov.skip rfl (Cov.refl _)))))))))))⟩
        refine WO.nil (thenL_n ?_)
        refine WC.cond rfl (fun q18 => ?_) (fun q18 => ?_)
        · have h := iteT q18 h
          refine WC.seq (WC.region (WO.asg rfl (WO.nil (thenL_n (WC.ret (thenL_r (blockL_r (thenL_r (thenL_r ?_)))))))))
          obtain rfl := someI h
          exact ⟨_, rfl, rfl, ⟨S6, rfl, rfl, (Cov.cons rfl (Cov.nil _))⟩⟩
        · have h := iteF q18 h
          refine WC.skip (thenL_n (WC.seq (WC.region (WO.mv rfl (WO.mv rfl ?_)))))
          refine WO.bin rfl rfl (by decide) (by decide) rfl ?_
          refine WO.asg rfl (WO.nil (thenL_n (WC.seq (WC.region (WO.mv rfl ?_)))))
          refine WO.bin rfl rfl (by decide) (by decide) rfl ?_
          refine WO.nil (thenL_n ?_)
          refine WC.cond rfl (fun q19 => ?_) (fun q19 => ?_)
          · have h := iteT q19 h
            refine WC.seq (WC.region (WO.asg rfl (WO.nil (thenL_n (WC.ret (blockL_r (thenL_r (thenL_r ?_))))))))
            obtain rfl := someI h
            exact ⟨_, rfl, rfl, ⟨S6, rfl, rfl, (Cov.cons rfl (Cov.nil _))⟩⟩
          · have h := iteF q19 h
            refine WC.skip (blockL_n (thenL_n (WC.region ?_)))
            refine WO.bin rfl rfl (by decide) (by decide) rfl ?_
            refine WO.mv rfl (WO.nil (thenL_n ?_))
            obtain rfl := someI h
            exact ⟨_, rfl, ⟨S6, rfl, rfl, (Cov.cons rfl (Cov.cons rfl (Cov.cons rfl (Cov.cons rfl (Cov.cons rfl (Cov.nil _)))))), hot0⟩⟩
    · have h := iteF q8 h
      refine WC.exit (thenL_e (thenL_e ?_))
      obtain rfl := someI h
      exact ⟨_, rfl, rfl, ⟨S6, rfl, rfl, (Cov.nil _)⟩⟩
  cases b20 with
  | inl b22 =>
    simp only at h
    rintro _ _ _ _ ⟨rfl, ⟨S23, rfl, rfl, hc24⟩⟩
    refine blockL_s (thenL_n (WC.cov hc24 (WC.seq (WC.region (WO.asg rfl (WO.nil (thenL_n (WC.ret ?_))))))))
    obtain rfl := someI h
    exact ⟨.inr rfl, _, _, rfl, rfl, rfl⟩
  | inr b22 =>
    simp only at h
    rintro _ _ _ _ ⟨rfl, ⟨S25, rfl, rfl, hc26⟩⟩
    refine blockL_r (thenL_r ?_)
    obtain rfl := someI h
    exact ⟨.inr rfl, _, _, (resK_cov hc26 rfl), rfl, rfl⟩
end Go.Proofs.Ytihmliblbhjlaaa

namespace Go.Proofs.Ytihmliblbhjlaaa
open Go.Am
theorem F37.fn : E.fn 37 = some ⟨40, (Try.f37.body.getD .skip), Try.f37.results.toList, []⟩ := rfl
theorem F37_ok {F : Nat} {m : Mem} {n : Nat} {r : (List Int) × Int} {t0 : List Int} {vt0 : SV} (h : F37 F t0 = some r) (kt0 : Vw Y3 n m vt0 t0) : Ret E n 37 [.sc vt0] m n (fun v m' n' => ∃ w, v = .tup [.sc w, .sc (.int .i64 r.2)] ∧ Fr Y3 n m' n' w r.1) := by
  unfold F37 at h
  refine Ret.walk F37.fn ?_
  refine WC.start fun S0 em en hz => ?_
  have hot0 := kt0.rdS em hz
  refine WC.seq (WC.region (WO.asg rfl (WO.asg rfl (WO.nil (thenL_n (WC.seq (WC.seq (WC.region (WO.mv rfl ?_)))))))))
  obtain ⟨r1, e2, h⟩ := bindS h
  refine WO.callE (S := S0) rfl rfl (F42_ok e2 hot0.vw) (fun S3 c4 => ?_)
  have hot0 := hot0.to c4
  refine WO.asg rfl (WO.nil (thenL_n (WC.seq (WC.region (WO.mv rfl ?_)))))
  refine WO.bin rfl rfl (by decide) (by decide) rfl ?_
  refine WO.nil (thenL_n ?_)
  refine WC.cond rfl (fun q5 => ?_) (fun q5 => ?_)
  · have h := iteT q5 h
    refine WC.seq (WC.region (WO.mv rfl (WO.asg rfl (WO.asg rfl (WO.nil (thenL_n (WC.ret (thenL_r ?_))))))))
    obtain rfl := someI h
    exact ⟨.inr rfl, _, _, rfl, rfl, ⟨.nils, rfl, Fr.nil⟩⟩
  · have h := iteF q5 h
    refine WC.skip (thenL_n (WC.seq (WC.region (WO.asg rfl (WO.nil (thenL_n (WC.seq (WC.seq (WC.region ?_)))))))))
    refine WO.mv rfl ?_
    refine WO.lenS rfl hot0.slv rfl ?_
    refine WO.mv rfl (WO.nil (thenL_n (WC.block ?_)))
    obtain ⟨b59, e60, h⟩ := bindS h
    refine WC.loopD e60 (fun s6 l' m' n' => ∃ S8 : Cx n, ∃ v9 : SV, S8.m = m' ∧ S8.n = n' ∧ Cov l' [(5, .sc v9), (14, .sc vt0), (15, .sc (.int .i64 ((t0.length : Int)))), (16, .sc (.int .i64 s6.2))] ∧ Rd Y3 S8 vt0 t0 ∧ Ow Y3 S8 2 v9 s6.1) (fun b e l' m' n' => e = .exit 0 ∧ ∃ S10 : Cx n, ∃ v11 : SV, S10.m = m' ∧ S10.n = n' ∧ Cov l' [(5, .sc v11)] ∧ Ow Y3 S10 2 v11 b) (by exact ⟨S3, .nils, rfl, rfl, (Cov.cons rfl (Cov.cons rfl (Cov.cons rfl (Cov.cons rfl (Cov.nil _))))), hot0, Ow.nil⟩) ?_ ?_
    · clear h
      rintro s6 q _ _ _ ⟨S12, v13, rfl, rfl, hc14, hot0, ho5⟩ h
      unfold F37_l2 at h
      refine WC.cov hc14 (WC.seq (WC.region ?_))
      refine WO.bin rfl rfl (by decide) (by decide) rfl ?_
      refine WO.nil (thenL_n (WC.seq ?_))
      refine WC.cond rfl (fun q15 => ?_) (fun q15 => ?_)
      · have h := iteT q15 h
        refine WC.skip (thenL_n (WC.seq (WC.block (WC.seq (WC.region ?_)))))
        obtain ⟨x16, e17, h⟩ := bindS h
        refine WO.ixS rfl rfl hot0.slv (at?_lt e17) rfl ?_
        refine WO.ldF rfl hot0.ro (fun _ hi => hi) (at?_get e17) rfl rfl rfl ?_
        refine WO.asg rfl (WO.nil (thenL_n (WC.seq (WC.block ?_))))
        obtain ⟨b38, e39, h⟩ := bindS h
        refine WC.loopD e39 (fun s18 l' m' n' => ∃ S20 : Cx n, ∃ v21 : SV, S20.m = m' ∧ S20.n = n' ∧ Cov l' [(5, .sc v21), (7, .sc (.int .i64 x16)), (14, .sc vt0), (15, .sc (.int .i64 ((t0.length : Int)))), (16, .sc (.int .i64 s6.2))] ∧ Rd Y3 S20 vt0 t0 ∧ Ow Y3 S20 2 v21 s18) (fun b e l' m' n' => e = .exit 2 ∧ ∃ S22 : Cx n, ∃ v23 : SV, S22.m = m' ∧ S22.n = n' ∧ Cov l' [(5, .sc v23), (7, .sc (.int .i64 x16)), (14, .sc vt0), (15, .sc (.int .i64 ((t0.length : Int)))), (16, .sc (.int .i64 s6.2))] ∧ Rd Y3 S22 vt0 t0 ∧ Ow Y3 S22 2 v23 b) (by exact ⟨S12, v13, rfl, rfl, (Cov.cons rfl (Cov.cons rfl (Cov.cons rfl (Cov.cons rfl (Cov.cons rfl (Cov.nil _)))))), hot0, ho5⟩) ?_ ?_
        · clear h
          rintro s18 q _ _ _ ⟨S24, v25, rfl, rfl, hc26, hot0, ho5⟩ h
          unfold F37_l0 at h
          refine WC.cov hc26 (WC.seq (WC.seq (WC.region (WO.mv rfl ?_))))
          refine WO.lenS rfl ho5.slv rfl ?_
          refine WO.mv rfl ?_
          refine WO.bin rfl rfl (by decide) (by decide) rfl ?_
          refine WO.nil (thenL_n ?_)
          refine WC.cond rfl (fun q27 => ?_) (fun q27 => ?_)
          · have h := iteT q27 h
            refine WC.skip (thenL_n (WC.block (WC.region (WO.mv rfl ?_))))
            refine WO.bsS (A := Y3) (S := S24) (M := [0]) (cs := [.int .i64 0]) 3 rfl rfl rfl ⟨[.int .i64 0], _, rfl, rfl, rfl⟩ rfl (fun v28 S29 c30 ho31 => ?_)
            have hot0 := hot0.to c30
            have ho5 := ho5.to c30
            obtain ⟨L32, e33, h⟩ := bindS h
            refine WO.appS rfl rfl ho5 ho31.ro e33 rfl rfl (fun v34 S35 c36 ho37 => ?_)
            have hot0 := hot0.to c36
            have ho31 := ho31.to c36
            refine WO.asg rfl (WO.nil (blockL_n (thenL_n ?_)))
            obtain rfl := someI h
            exact ⟨_, rfl, ⟨S35, v34, rfl, rfl, (Cov.cons rfl (Cov.cons rfl (Cov.cons rfl (Cov.cons rfl (Cov.cons rfl (Cov.nil _)))))), hot0, ho37⟩⟩
          · have h := iteF q27 h
            refine WC.exit (thenL_e (thenL_e ?_))
            obtain rfl := someI h
            exact ⟨_, rfl, rfl, ⟨S24, v25, rfl, rfl, (Cov.cons rfl (Cov.cons rfl (Cov.cons rfl (Cov.cons rfl (Cov.cons rfl (Cov.nil _)))))), hot0, ho5⟩⟩
        rintro _ _ _ _ ⟨rfl, ⟨S40, v41, rfl, rfl, hc42, hot0, ho5⟩⟩
        refine blockL_s (thenL_n (WC.cov hc42 (WC.seq (WC.region (WO.mv rfl (WO.mv rfl (WO.nil (thenL_n (WC.block ?_)))))))))
        obtain ⟨b55, e56, h⟩ := bindS h
        refine WC.loopD e56 (fun s43 l' m' n' => ∃ S44 : Cx n, S44.m = m' ∧ S44.n = n' ∧ Cov l' [(5, .sc v41), (14, .sc vt0), (15, .sc (.int .i64 ((t0.length : Int)))), (16, .sc (.int .i64 s6.2)), (27, .sc (.int .i64 x16)), (28, .sc (.int .i64 s43.1))] ∧ Ow Y3 S44 2 v41 s43.2 ∧ Rd Y3 S44 vt0 t0) (fun b e l' m' n' => e = .exit 4 ∧ ∃ S45 : Cx n, S45.m = m' ∧ S45.n = n' ∧ Cov l' [(5, .sc v41), (14, .sc vt0), (15, .sc (.int .i64 ((t0.length : Int)))), (16, .sc (.int .i64 s6.2))] ∧ Ow Y3 S45 2 v41 b ∧ Rd Y3 S45 vt0 t0) (by exact ⟨S40, rfl, rfl, (Cov.cons rfl (Cov.cons rfl (Cov.cons rfl (Cov.cons rfl (Cov.cons rfl (Cov.cons rfl (Cov.nil _))))))), ho5, hot0⟩) ?_ ?_
        · clear h
          rintro s43 q _ _ _ ⟨S46, rfl, rfl, hc47, ho5, hot0⟩ h
          unfold F37_l1 at h
          refine WC.cov hc47 (WC.seq (WC.region ?_))
          refine WO.bin rfl rfl (by decide) (by decide) rfl ?_
          refine WO.nil (thenL_n (WC.seq ?_))
          refine WC.cond rfl (fun q48 => ?_) (fun q48 => ?_)
          · have h := iteT q48 h
            refine WC.skip (thenL_n (WC.seq (WC.block (WC.seq (WC.region (WO.mv rfl (WO.asg rfl (WO.nil (thenL_n ?_)))))))))
            refine WC.region (WO.mv rfl (WO.mv rfl ?_))
            obtain ⟨x49, e50, h⟩ := bindS h
            refine WO.ixS rfl rfl ho5.slv (at?_lt e50) rfl ?_
            refine WO.ldF rfl ho5.ro (fun _ hi => hi) (at?_get e50) rfl rfl rfl ?_
            refine WO.bin rfl rfl (by decide) (by decide) rfl ?_
            obtain ⟨u51, e52, h⟩ := bindS h
            refine WO.ixS rfl rfl ho5.slv (ck_some e52) rfl ?_
            refine WO.st1 (u' := (wrapA .i64 (x49 + 1))) rfl rfl ho5 (ck_nat e52) rfl rfl (fun S53 c54 ho5 => ?_)
            have hot0 := hot0.to c54
            refine WO.nil (blockL_n (thenL_n (WC.region ?_)))
            refine WO.bin rfl rfl (by decide) (by decide) rfl ?_
            refine WO.mv rfl (WO.nil (thenL_n ?_))
            obtain rfl := someI h
            exact ⟨_, rfl, ⟨S53, rfl, rfl, (Cov.cons rfl (Cov.cons rfl (Cov.cons rfl (Cov.cons rfl (Cov.cons rfl (Cov.cons rfl (Cov.nil _))))))), ho5, hot0⟩⟩
          · have h := iteF q48 h
            refine WC.exit (thenL_e (thenL_e ?_))
            obtain rfl := someI h
            exact ⟨_, rfl, rfl, ⟨S46, rfl, rfl, (Cov.cons rfl (Cov.cons rfl (Cov.cons rfl (Cov.cons rfl (Cov.nil _))))), ho5, hot0⟩⟩
        rintro _ _ _ _ ⟨rfl, ⟨S57, rfl, rfl, hc58, ho5, hot0⟩⟩
        refine blockL_s (blockL_n (thenL_n (WC.cov hc58 (WC.region ?_))))
        refine WO.bin rfl rfl (by decide) (by decide) rfl ?_
        refine WO.mv rfl (WO.nil (thenL_n ?_))
        obtain rfl := someI h
        exact ⟨_, rfl, ⟨S57, v41, rfl, rfl, (Cov.cons rfl (Cov.cons rfl (Cov.cons rfl (Cov.cons rfl (Cov.nil _))))), hot0, ho5⟩⟩
      · have h := iteF q15 h
        refine WC.exit (thenL_e (thenL_e ?_))
        obtain rfl := someI h
        exact ⟨_, rfl, rfl, ⟨S12, v13, rfl, rfl, (Cov.cons rfl (Cov.nil _)), ho5⟩⟩
    rintro _ _ _ _ ⟨rfl, ⟨S61, v62, rfl, rfl, hc63, ho5⟩⟩
    refine blockL_s (thenL_n (WC.cov hc63 (WC.seq (WC.region (WO.mv rfl (WO.asg rfl (WO.asg rfl (WO.nil (thenL_n ?_)))))))))
    refine WC.ret ?_
    obtain rfl := someI h
    exact ⟨.inr rfl, _, _, rfl, rfl, ⟨v62, rfl, (ho5.fr Lay.flat_fl)⟩⟩
end Go.Proofs.Ytihmliblbhjlaaa

namespace Go.Proofs.Ytihmliblbhjlaaa
open Go.Am
theorem F177.fn : E.fn 177 = some ⟨19, (Try.f177.body.getD .skip), Try.f177.results.toList, []⟩ := rfl
theorem F177_ok {F : Nat} {m : Mem} {n : Nat} {r : Int} {t0 : Int} (h : F177 F t0 = some r)  : Ret E n 177 [.sc (.int .u32 t0)] m n (fun v m' n' => v = .sc (.int .i64 r)) := by
  unfold F177 at h
  refine Ret.walk F177.fn ?_
  refine WC.start fun S0 em en hz => ?_
  refine WC.seq (WC.region (WO.asg rfl (WO.nil (thenL_n (WC.seq (WC.seq (WC.region (WO.mv rfl ?_))))))))
  refine WO.bin rfl rfl (by decide) (by decide) rfl ?_
  refine WO.nil (thenL_n ?_)
  obtain ⟨b4, e5, h⟩ := bindS h
  refine WC.mono (Q' := (fun b e l' m' n' => e = .normal ∧ ∃ S6 : Cx n, S6.m = m' ∧ S6.n = n' ∧ Cov l' [(0, .sc (.int .u32 b.1)), (2, .sc (.int .i64 b.2))]) b4) ?_ ?_
  · have h := e5
    dsimp only at h ⊢
    refine WC.cond rfl (fun q1 => ?_) (fun q1 => ?_)
    · have h := iteT q1 h
      refine WC.seq (WC.region (WO.mv rfl ?_))
      obtain ⟨x2, e3, h⟩ := bindS h
      refine WO.shrD rfl rfl e3 ?_
      refine WO.asg rfl (WO.nil (thenL_n (WC.region (WO.asg rfl (WO.nil ?_)))))
      obtain rfl := someI h
      exact ⟨rfl, ⟨S0, rfl, rfl, (Cov.cons rfl (Cov.cons rfl (Cov.nil _)))⟩⟩
    · have h := iteF q1 h
      refine WC.skip ?_
      obtain rfl := someI h
      exact ⟨rfl, ⟨S0, rfl, rfl, (Cov.cons rfl (Cov.cons rfl (Cov.nil _)))⟩⟩
  dsimp only
  rintro _ _ _ _ ⟨rfl, ⟨S7, rfl, rfl, hc8⟩⟩
  refine thenL_n (WC.cov hc8 (WC.seq (WC.seq (WC.region (WO.mv rfl ?_)))))
  refine WO.bin rfl rfl (by decide) (by decide) rfl ?_
  refine WO.nil (thenL_n ?_)
  refine WC.cond rfl (fun q9 => ?_) (fun q9 => ?_)
  · have h := iteT q9 h
    refine WC.seq (WC.region (WO.mv rfl ?_))
    obtain ⟨x10, e11, h⟩ := bindS h
    refine WO.shrD rfl rfl e11 ?_
    refine WO.asg rfl (WO.nil (thenL_n (WC.region (WO.mv rfl ?_))))
    refine WO.bin rfl rfl (by decide) (by decide) rfl ?_
    refine WO.asg rfl (WO.nil (thenL_n (WC.seq (WC.region (WO.mv rfl (WO.mv rfl ?_))))))
    refine WO.conv rfl rfl rfl rfl ?_
    obtain ⟨x12, e13, h⟩ := bindS h
    refine WO.ixT rfl rfl e13 rfl rfl ?_
    refine WO.conv rfl rfl rfl rfl ?_
    refine WO.bin rfl rfl (by decide) (by decide) rfl ?_
    refine WO.asg rfl (WO.nil (thenL_n (WC.ret ?_)))
    obtain rfl := someI h
    exact ⟨.inr rfl, _, _, rfl, rfl, rfl⟩
  · have h := iteF q9 h
    refine WC.skip (thenL_n (WC.seq (WC.region (WO.mv rfl (WO.mv rfl ?_)))))
    refine WO.conv rfl rfl rfl rfl ?_
    obtain ⟨x14, e15, h⟩ := bindS h
    refine WO.ixT rfl rfl e15 rfl rfl ?_
    refine WO.conv rfl rfl rfl rfl ?_
    refine WO.bin rfl rfl (by decide) (by decide) rfl ?_
    refine WO.asg rfl (WO.nil (thenL_n (WC.ret ?_)))
    obtain rfl := someI h
    exact ⟨.inr rfl, _, _, rfl, rfl, rfl⟩
end Go.Proofs.Ytihmliblbhjlaaa

namespace Go.Proofs.Ytihmliblbhjlaaa
open Go.Am
theorem F178.fn : E.fn 178 = some ⟨25, (Try.f178.body.getD .skip), Try.f178.results.toList, []⟩ := rfl
theorem F178_ok {F : Nat} {m : Mem} {n : Nat} {r : Int} {t0 : Int} (h : F178 F t0 = some r)  : Ret E n 178 [.sc (.int .u64 t0)] m n (fun v m' n' => v = .sc (.int .i64 r)) := by
  unfold F178 at h
  refine Ret.walk F178.fn ?_
  refine WC.start fun S0 em en hz => ?_
  refine WC.seq (WC.region (WO.asg rfl (WO.nil (thenL_n (WC.seq (WC.seq (WC.region (WO.mv rfl ?_))))))))
  refine WO.bin rfl rfl (by decide) (by decide) rfl ?_
  refine WO.nil (thenL_n ?_)
  obtain ⟨b4, e5, h⟩ := bindS h
  refine WC.mono (Q' := (fun b e l' m' n' => e = .normal ∧ ∃ S6 : Cx n, S6.m = m' ∧ S6.n = n' ∧ Cov l' [(0, .sc (.int .u64 b.1)), (2, .sc (.int .i64 b.2))]) b4) ?_ ?_
  · have h := e5
    dsimp only at h ⊢
    refine WC.cond rfl (fun q1 => ?_) (fun q1 => ?_)
    · have h := iteT q1 h
      refine WC.seq (WC.region (WO.mv rfl ?_))
      obtain ⟨x2, e3, h⟩ := bindS h
      refine WO.shrD rfl rfl e3 ?_
      refine WO.asg rfl (WO.nil (thenL_n (WC.region (WO.asg rfl (WO.nil ?_)))))
      obtain rfl := someI h
      exact ⟨rfl, ⟨S0, rfl, rfl, (Cov.cons rfl (Cov.cons rfl (Cov.nil _)))⟩⟩
    · have h := iteF q1 h
      refine WC.skip ?_
      obtain rfl := someI h
      exact ⟨rfl, ⟨S0, rfl, rfl, (Cov.cons rfl (Cov.cons rfl (Cov.nil _)))⟩⟩
  dsimp only
  rintro _ _ _ _ ⟨rfl, ⟨S7, rfl, rfl, hc8⟩⟩
  refine thenL_n (WC.cov hc8 (WC.seq (WC.seq (WC.region (WO.mv rfl ?_)))))
  refine WO.bin rfl rfl (by decide) (by decide) rfl ?_
  refine WO.nil (thenL_n ?_)
  obtain ⟨b12, e13, h⟩ := bindS h
  refine WC.mono (Q' := (fun b e l' m' n' => e = .normal ∧ ∃ S14 : Cx n, S14.m = m' ∧ S14.n = n' ∧ Cov l' [(0, .sc (.int .u64 b.1)), (2, .sc (.int .i64 b.2))]) b12) ?_ ?_
  · have h := e13
    dsimp only at h ⊢
    refine WC.cond rfl (fun q9 => ?_) (fun q9 => ?_)
    · have h := iteT q9 h
      refine WC.seq (WC.region (WO.mv rfl ?_))
      obtain ⟨x10, e11, h⟩ := bindS h
      refine WO.shrD rfl rfl e11 ?_
      refine WO.asg rfl (WO.nil (thenL_n (WC.region (WO.mv rfl ?_))))
      refine WO.bin rfl rfl (by decide) (by decide) rfl ?_
      refine WO.asg rfl (WO.nil ?_)
      obtain rfl := someI h
      exact ⟨rfl, ⟨S7, rfl, rfl, (Cov.cons rfl (Cov.cons rfl (Cov.nil _)))⟩⟩
    · have h := iteF q9 h
      refine WC.skip ?_
      obtain rfl := someI h
      exact ⟨rfl, ⟨S7, rfl, rfl, (Cov.cons rfl (Cov.cons rfl (Cov.nil _)))⟩⟩
  dsimp only
  rintro _ _ _ _ ⟨rfl, ⟨S15, rfl, rfl, hc16⟩⟩
  refine thenL_n (WC.cov hc16 (WC.seq (WC.seq (WC.region (WO.mv rfl ?_)))))
  refine WO.bin rfl rfl (by decide) (by decide) rfl ?_
  refine WO.nil (thenL_n ?_)
  refine WC.cond rfl (fun q17 => ?_) (fun q17 => ?_)
  · have h := iteT q17 h
    refine WC.seq (WC.region (WO.mv rfl ?_))
    obtain ⟨x18, e19, h⟩ := bindS h
    refine WO.shrD rfl rfl e19 ?_
    refine WO.asg rfl (WO.nil (thenL_n (WC.region (WO.mv rfl ?_))))
    refine WO.bin rfl rfl (by decide) (by decide) rfl ?_
    refine WO.asg rfl (WO.nil (thenL_n (WC.seq (WC.region (WO.mv rfl (WO.mv rfl ?_))))))
    refine WO.conv rfl rfl rfl rfl ?_
    obtain ⟨x20, e21, h⟩ := bindS h
    refine WO.ixT rfl rfl e21 rfl rfl ?_
    refine WO.conv rfl rfl rfl rfl ?_
    refine WO.bin rfl rfl (by decide) (by decide) rfl ?_
    refine WO.asg rfl (WO.nil (thenL_n (WC.ret ?_)))
    obtain rfl := someI h
    exact ⟨.inr rfl, _, _, rfl, rfl, rfl⟩
  · have h := iteF q17 h
    refine WC.skip (thenL_n (WC.seq (WC.region (WO.mv rfl (WO.mv rfl ?_)))))
    refine WO.conv rfl rfl rfl rfl ?_
    obtain ⟨x22, e23, h⟩ := bindS h
    refine WO.ixT rfl rfl e23 rfl rfl ?_
    refine WO.conv rfl rfl rfl rfl ?_
    refine WO.bin rfl rfl (by decide) (by decide) rfl ?_
    refine WO.asg rfl (WO.nil (thenL_n (WC.ret ?_)))
    obtain rfl := someI h
    exact ⟨.inr rfl, _, _, rfl, rfl, rfl⟩
end Go.Proofs.Ytihmliblbhjlaaa

namespace Go.Proofs.Ytihmliblbhjlaaa
open Go.Am
theorem F155.fn : E.fn 155 = some ⟨8, (Try.f155.body.getD .skip), Try.f155.results.toList, []⟩ := rfl
theorem F155_ok {F : Nat} {m : Mem} {n : Nat} {r : Int} {t0 : Int} (h : F155 F t0 = some r)  : Ret E n 155 [.sc (.int .u64 t0)] m n (fun v m' n' => v = .sc (.int .i64 r)) := by
  unfold F155 at h
  refine Ret.walk F155.fn ?_
  refine WC.start fun S0 em en hz => ?_
  refine WC.seq (WC.region (WO.asg rfl (WO.nil (thenL_n (WC.seq ?_)))))
  refine WC.cond rfl (fun q1 => ?_) (fun q1 => ?_)
  · have h := iteT q1 h
    refine WC.seq (WC.region (WO.mv rfl ?_))
    refine WO.conv rfl rfl rfl rfl ?_
    obtain ⟨r2, e3, h⟩ := bindS h
    refine WO.callE (S := S0) rfl rfl (F177_ok e3) (fun S4 c5 => ?_)
    refine WO.asg rfl (WO.nil (thenL_n (WC.ret (thenL_r ?_))))
    obtain rfl := someI h
    exact ⟨.inr rfl, _, _, rfl, rfl, rfl⟩
  · have h := iteF q1 h
    refine WC.skip (thenL_n (WC.seq (WC.region (WO.mv rfl ?_))))
    obtain ⟨r6, e7, h⟩ := bindS h
    refine WO.callE (S := S0) rfl rfl (F178_ok e7) (fun S8 c9 => ?_)
    refine WO.asg rfl (WO.nil (thenL_n (WC.ret ?_)))
    obtain rfl := someI h
    exact ⟨.inr rfl, _, _, rfl, rfl, rfl⟩
end Go.Proofs.Ytihmliblbhjlaaa

namespace Go.Proofs.Ytihmliblbhjlaaa
open Go.Am
theorem F111.fn : E.fn 111 = some ⟨8, (Try.f111.body.getD .skip), Try.f111.results.toList, []⟩ := rfl
theorem F111_ok {F : Nat} {m : Mem} {n : Nat} {r : Int} {t0 : Int} {t1 : Int} (h : F111 F t0 t1 = some r)  : Ret E n 111 [.sc (.int .i64 t0), .sc (.int .i64 t1)] m n (fun v m' n' => v = .sc (.int .i64 r)) := by
  unfold F111 at h
  refine Ret.walk F111.fn ?_
  refine WC.start fun S0 em en hz => ?_
  refine WC.seq (WC.region (WO.asg rfl (WO.nil (thenL_n (WC.seq (WC.region (WO.mv rfl (WO.mv rfl ?_))))))))
  refine WO.bin rfl rfl (by decide) (by decide) rfl ?_
  refine WO.asg rfl (WO.nil (thenL_n (WC.ret ?_)))
  obtain rfl := someI h
  exact ⟨.inr rfl, _, _, rfl, rfl, rfl⟩
def Cp (g : Nat) : Prop := ∀ {F : Nat} {m : Mem} {n : Nat} {r : Int} {t0 : Int} {t1 : Int} (h : F111 F t0 t1 = some r) , Ret E n g [.sc (.int .i64 t0), .sc (.int .i64 t1)] m n (fun v m' n' => v = .sc (.int .i64 r))
theorem F111_cp : Cp 111 := fun h => F111_ok h
end Go.Proofs.Ytihmliblbhjlaaa

namespace Go.Proofs.Ytihmliblbhjlaaa
open Go.Am
theorem F169_111.fn : E.fn 169 = some ⟨53, (Try.f169.body.getD .skip), Try.f169.results.toList, []⟩ := rfl
theorem F169_111_ok {g : Nat} (hg : Cp g) {F : Nat} {m : Mem} {n : Nat} {r : (List Int)} {t0 : List Int} {t1 : Int} {t2 : Int} {vt0 : SV} {fl : Nat} {bw : Nat} (h : F169_111 F t0 t1 t2 = some r) (hfl : fl ≤ n) (kt0 : Iv Y3 fl n bw m vt0 t0) : Ret E fl 169 [.sc vt0, .sc (.int .i64 t1), .sc (.int .i64 t2), .sc (.fn g [])] m n (fun v m' n' => v = .tup [] ∧ Ip Y3 n bw m m' vt0 r) := by
  unfold F169_111 at h
  refine Ret.walk F169_111.fn ?_
  refine WC.startI (b := bw) hfl fun S0 em en hz hbw => ?_
  have hot0 := kt0.iw em en hz hbw
  refine WC.seq (WC.region (WO.mv rfl ?_))
  refine WO.bin rfl rfl (by decide) (by decide) rfl ?_
  refine WO.asg rfl (WO.nil (thenL_n (WC.block ?_)))
  obtain ⟨b42, e43, h⟩ := bindS h
  refine WC.loopD e43 (fun s1 l' m' n' => ∃ S2 : Cx fl, S2.m = m' ∧ S2.n = n' ∧ Cov l' [(0, .sc vt0), (1, .sc (.int .i64 t1)), (2, .sc (.int .i64 t2)), (3, .sc (.fn g [])), (8, .sc (.int .i64 s1.1))] ∧ Iw Y3 S2 2 n bw m vt0 s1.2) (fun b e l' m' n' => e = .exit 0 ∧ ∃ S3 : Cx fl, S3.m = m' ∧ S3.n = n' ∧ Cov l' [(0, .sc vt0)] ∧ Iw Y3 S3 2 n bw m vt0 b) (by exact ⟨S0, rfl, rfl, (Cov.cons rfl (Cov.cons rfl (Cov.cons rfl (Cov.cons rfl (Cov.cons rfl (Cov.nil _)))))), hot0⟩) ?_ ?_
  · clear h
    rintro s1 q _ _ _ ⟨S4, rfl, rfl, hc5, hot0⟩ h
    unfold F169_111_l1 at h
    refine WC.cov hc5 (WC.seq (WC.seq (WC.region (WO.mv rfl (WO.mv rfl ?_)))))
    refine WO.bin rfl rfl (by decide) (by decide) rfl ?_
    refine WO.nil (thenL_n ?_)
    refine WC.cond rfl (fun q6 => ?_) (fun q6 => ?_)
    · have h := iteT q6 h
      refine WC.skip (thenL_n (WC.seq (WC.block (WC.seq (WC.region (WO.mv rfl (WO.asg rfl (WO.nil (thenL_n ?_)))))))))
      refine WC.block ?_
      obtain ⟨b38, e39, h⟩ := bindS h
      refine WC.loopD e39 (fun s7 l' m' n' => ∃ S8 : Cx fl, S8.m = m' ∧ S8.n = n' ∧ Cov l' [(0, .sc vt0), (1, .sc (.int .i64 t1)), (2, .sc (.int .i64 t2)), (3, .sc (.fn g [])), (8, .sc (.int .i64 s1.1)), (9, .sc (.int .i64 s7.1))] ∧ Iw Y3 S8 2 n bw m vt0 s7.2) (fun b e l' m' n' => e = .exit 2 ∧ ∃ S9 : Cx fl, S9.m = m' ∧ S9.n = n' ∧ Cov l' [(0, .sc vt0), (1, .sc (.int .i64 t1)), (2, .sc (.int .i64 t2)), (3, .sc (.fn g [])), (8, .sc (.int .i64 s1.1))] ∧ Iw Y3 S9 2 n bw m vt0 b) (by exact ⟨S4, rfl, rfl, (Cov.cons rfl (Cov.cons rfl (Cov.cons rfl (Cov.cons rfl (Cov.cons rfl (Cov.cons rfl (Cov.nil _))))))), hot0⟩) ?_ ?_
      · clear h
        rintro s7 q _ _ _ ⟨S10, rfl, rfl, hc11, hot0⟩ h
        unfold F169_111_l0 at h
        refine WC.cov hc11 (WC.seq (WC.seq ?_))
        refine WC.drawN rfl rfl ?_
        have hot0z := hot0.oz
        refine WO.mv rfl (WO.mv rfl ?_)
        refine WO.bin rfl rfl (by decide) (by decide) rfl ?_
        refine WO.mv rfl ?_
        obtain ⟨y21, e22, h⟩ := bindS h
        refine WO.cutS (d := 34) (S := S10) 13 y21 (fun q20 => ?_) (fun q20 => ?_) (fun S23 c24 => ?_)
        · have h := e22
          have h := iteT q20 h
          refine WO.gyes rfl rfl (WO.mv rfl (WO.gyes rfl rfl (WO.mv rfl (WO.gyes rfl rfl (WO.mv rfl (WO.gyes rfl rfl ?_))))))
          obtain ⟨x12, e13, h⟩ := bindS h
          refine WO.ixS rfl rfl hot0.slv (at?_lt e13) rfl ?_
          refine WO.gyes rfl rfl ?_
          refine WO.ldF rfl hot0z (fun _ hi => hi.1) (at?_get e13) rfl rfl (limLe_self _) ?_
          refine WO.gyes rfl rfl (WO.mv rfl (WO.gyes rfl rfl (WO.mv rfl (WO.gyes rfl rfl ?_))))
          refine WO.bin rfl rfl (by decide) (by decide) rfl ?_
          refine WO.gyes rfl rfl ?_
          obtain ⟨x14, e15, h⟩ := bindS h
          refine WO.ixS rfl rfl hot0.slv (at?_lt e15) rfl ?_
          refine WO.gyes rfl rfl ?_
          refine WO.ldF rfl hot0z (fun _ hi => hi.1) (at?_get e15) rfl rfl (limLe_self _) ?_
          refine WO.gyes rfl rfl ?_
          obtain ⟨r16, e17, h⟩ := bindS h
          refine WO.callE (S := S10) rfl rfl (hg e17) (fun S18 c19 => ?_)
          have hot0z := hot0z.tow c19
          have hot0 := hot0.to c19
          refine WO.gyes rfl rfl ?_
          refine WO.bin rfl rfl (by decide) (by decide) rfl ?_
          obtain rfl := someI h
          refine WO.pickT rfl rfl ?_
          refine WO.nil ?_
          exact ⟨S18, rfl, rfl, c19, (Cov.cons rfl (Cov.skip rfl (Cov.skip rfl (Cov.skip rfl (Cov.skip rfl (Cov.skip rfl (Cov.skip rfl (Cov.skip rfl (Cov.skip rfl (Cov.skip rfl (Cov.skip rfl (Cov.skip rfl (Cov.skip rfl (Cov.skip rfl (Cov.skip rfl (Cov.refl _))))))))))))))))⟩
        · have h := e22
          have h := iteF q20 h
          obtain rfl := someI h
          refine WO.gno rfl rfl (WO.gno rfl rfl (WO.gno rfl rfl (WO.gno rfl rfl (WO.gno rfl rfl (WO.gno rfl rfl (WO.gno rfl rfl (WO.gno rfl rfl (WO.gno rfl rfl (WO.gno rfl rfl ?_)))))))))
          refine WO.gno rfl rfl (WO.gno rfl rfl ?_)
          refine WO.pickF rfl rfl ?_
          refine WO.nil ?_
          exact ⟨S10, rfl, rfl, Ch.refl _ _, (Cov.cons rfl (Cov.skip rfl (Cov.skip rfl (Cov.skip rfl (Cov.skip rfl (Cov.skip rfl (Cov.skip rfl (Cov.skip rfl (Cov.skip rfl (Cov.skip rfl (Cov.skip rfl (Cov.skip rfl (Cov.skip rfl (Cov.skip rfl (Cov.skip rfl (Cov.refl _))))))))))))))))⟩
        have hot0z := hot0z.tow c24
        have hot0 := hot0.to c24
        refine WO.nil (thenL_n ?_)
        refine WC.cond rfl (fun q25 => ?_) (fun q25 => ?_)
        · have h := iteT q25 h
          refine WC.skip (thenL_n (WC.seq (WC.block ?_)))
          refine WC.drawN rfl rfl ?_
          have hot0z := hot0.oz
          refine WO.mv rfl (WO.mv rfl (WO.mv rfl (WO.mv rfl ?_)))
          refine WO.bin rfl rfl (by decide) (by decide) rfl ?_
          refine WO.mv rfl (WO.mv rfl ?_)
          refine WO.bin rfl rfl (by decide) (by decide) rfl ?_
          obtain ⟨x26, e27, h⟩ := bindS h
          refine WO.ixS rfl rfl hot0.slv (at?_lt e27) rfl ?_
          refine WO.ldF rfl hot0z (fun _ hi => hi.1) (at?_get e27) rfl rfl (limLe_self _) ?_
          refine WO.mv rfl (WO.mv rfl ?_)
          obtain ⟨x28, e29, h⟩ := bindS h
          refine WO.ixS rfl rfl hot0.slv (at?_lt e29) rfl ?_
          refine WO.ldF rfl hot0z (fun _ hi => hi.1) (at?_get e29) rfl rfl (limLe_self _) ?_
          obtain ⟨u30, e31, h⟩ := bindS h
          refine WO.ixS rfl rfl hot0.slv (ck_some e31) rfl ?_
          refine WO.stI (u' := x26) rfl rfl hot0 (ck_nat e31) rfl rfl (fun S32 c33 hot0 => ?_)
          obtain ⟨u34, e35, h⟩ := bindS h
          refine WO.ixS rfl rfl hot0.slv (ck_some e35) rfl ?_
          refine WO.stI (u' := x28) rfl rfl hot0 (ck_nat e35) rfl rfl (fun S36 c37 hot0 => ?_)
          refine WO.nil (blockL_n (thenL_n (WC.region (WO.mv rfl ?_))))
          refine WO.bin rfl rfl (by decide) (by decide) rfl ?_
          refine WO.asg rfl (WO.nil (thenL_n ?_))
          obtain rfl := someI h
          exact ⟨_, rfl, ⟨S36, rfl, rfl, (Cov.cons rfl (Cov.cons rfl (Cov.cons rfl (Cov.cons rfl (Cov.cons rfl (Cov.cons rfl (Cov.nil _))))))), hot0⟩⟩
        · have h := iteF q25 h
          refine WC.exit (thenL_e (thenL_e ?_))
          obtain rfl := someI h
          exact ⟨_, rfl, rfl, ⟨S23, rfl, rfl, (Cov.cons rfl (Cov.cons rfl (Cov.cons rfl (Cov.cons rfl (Cov.cons rfl (Cov.nil _)))))), hot0⟩⟩
      rintro _ _ _ _ ⟨rfl, ⟨S40, rfl, rfl, hc41, hot0⟩⟩
      refine blockL_s (blockL_n (thenL_n (WC.cov hc41 (WC.region (WO.mv rfl ?_)))))
      refine WO.bin rfl rfl (by decide) (by decide) rfl ?_
      refine WO.asg rfl (WO.nil (thenL_n ?_))
      obtain rfl := someI h
      exact ⟨_, rfl, ⟨S40, rfl, rfl, (Cov.cons rfl (Cov.cons rfl (Cov.cons rfl (Cov.cons rfl (Cov.cons rfl (Cov.nil _)))))), hot0⟩⟩
    · have h := iteF q6 h
      refine WC.exit (thenL_e (thenL_e ?_))
      obtain rfl := someI h
      exact ⟨_, rfl, rfl, ⟨S4, rfl, rfl, (Cov.cons rfl (Cov.nil _)), hot0⟩⟩
  rintro _ _ _ _ ⟨rfl, ⟨S44, rfl, rfl, hc45, hot0⟩⟩
  refine blockL_s ?_
  obtain rfl := someI h
  exact ⟨.inl rfl, _, _, (resK_cov hc45 rfl), rfl, ⟨rfl, hot0.ip Lay.flat_fl⟩⟩
end Go.Proofs.Ytihmliblbhjlaaa

namespace Go.Proofs.Ytihmliblbhjlaaa
open Go.Am
theorem F197_111.fn : E.fn 197 = some ⟨82, (Try.f197.body.getD .skip), Try.f197.results.toList, []⟩ := rfl
theorem F197_111_ok {g : Nat} (hg : Cp g) {F : Nat} {m : Mem} {n : Nat} {r : (List Int)} {t0 : List Int} {t1 : Int} {t2 : Int} {t3 : Int} {vt0 : SV} {fl : Nat} {bw : Nat} (h : F197_111 F t0 t1 t2 t3 = some r) (hfl : fl ≤ n) (kt0 : Iv Y3 fl n bw m vt0 t0) : Ret E fl 197 [.sc vt0, .sc (.int .i64 t1), .sc (.int .i64 t2), .sc (.int .i64 t3), .sc (.fn g [])] m n (fun v m' n' => v = .tup [] ∧ Ip Y3 n bw m m' vt0 r) := by
  unfold F197_111 at h
  refine Ret.walk F197_111.fn ?_
  refine WC.startI (b := bw) hfl fun S0 em en hz hbw => ?_
  have hot0 := kt0.iw em en hz hbw
  refine WC.seq (WC.region (WO.mv rfl (WO.asg rfl (WO.nil (thenL_n (WC.block ?_))))))
  obtain ⟨b49, e50, h⟩ := bindS h
  refine WC.loopD e50 (fun s1 l' m' n' => ∃ S2 : Cx fl, S2.m = m' ∧ S2.n = n' ∧ Cov l' [(0, .sc vt0), (2, .sc (.int .i64 t2)), (3, .sc (.int .i64 t3)), (4, .sc (.fn g [])), (10, .sc (.int .i64 s1.1))] ∧ Iw Y3 S2 2 n bw m vt0 s1.2) (fun b e l' m' n' => (match b with | .inl b3 => e = .exit 0 ∧ ∃ S4 : Cx fl, S4.m = m' ∧ S4.n = n' ∧ Cov l' [(0, .sc vt0)] ∧ Iw Y3 S4 2 n bw m vt0 b3 | .inr b3 => e = .ret ∧ ∃ S5 : Cx fl, S5.m = m' ∧ S5.n = n' ∧ Cov l' [(0, .sc vt0)] ∧ Iw Y3 S5 2 n bw m vt0 b3)) (by exact ⟨S0, rfl, rfl, (Cov.cons rfl (Cov.cons rfl (Cov.cons rfl (Cov.cons rfl (Cov.cons rfl (Cov.nil _)))))), hot0⟩) ?_ ?_
  · clear h
    rintro s1 q _ _ _ ⟨S6, rfl, rfl, hc7, hot0⟩ h
    unfold F197_111_l0 at h
    refine WC.cov hc7 (WC.block (WC.seq (WC.region (WO.mv rfl ?_))))
    refine WO.bin rfl rfl (by decide) (by decide) rfl ?_
    refine WO.bin rfl rfl (by decide) (by decide) rfl ?_
    refine WO.asg rfl (WO.nil (thenL_n (WC.seq (WC.seq (WC.region (WO.mv rfl (WO.mv rfl ?_)))))))
    refine WO.bin rfl rfl (by decide) (by decide) rfl ?_
    refine WO.nil (thenL_n ?_)
    refine WC.cond rfl (fun q8 => ?_) (fun q8 => ?_)
    · have h := iteT q8 h
      refine WC.exit (thenL_e (blockL_e rfl (thenL_e ?_)))
      obtain rfl := someI h
      exact ⟨_, rfl, rfl, ⟨S6, rfl, rfl, (Cov.cons rfl (Cov.nil _)), hot0⟩⟩
    · have h := iteF q8 h
      refine WC.skip (thenL_n (WC.seq (WC.seq ?_)))
      refine WC.drawN rfl rfl ?_
      have hot0z := hot0.oz
      refine WO.mv rfl ?_
      refine WO.bin rfl rfl (by decide) (by decide) rfl ?_
      refine WO.mv rfl ?_
      refine WO.bin rfl rfl (by decide) (by decide) rfl ?_
      refine WO.mv rfl ?_
      obtain ⟨y18, e19, h⟩ := bindS h
      refine WO.cutS (d := 40) (S := S6) 17 y18 (fun q17 => ?_) (fun q17 => ?_) (fun S20 c21 => ?_)
      · have h := e19
        have h := iteT q17 h
        refine WO.gyes rfl rfl (WO.mv rfl (WO.gyes rfl rfl (WO.mv rfl (WO.gyes rfl rfl (WO.mv rfl (WO.gyes rfl rfl (WO.mv rfl (WO.gyes rfl rfl ?_))))))))
        refine WO.bin rfl rfl (by decide) (by decide) rfl ?_
        refine WO.gyes rfl rfl ?_
        obtain ⟨x9, e10, h⟩ := bindS h
        refine WO.ixS rfl rfl hot0.slv (at?_lt e10) rfl ?_
        refine WO.gyes rfl rfl ?_
        refine WO.ldF rfl hot0z (fun _ hi => hi.1) (at?_get e10) rfl rfl (limLe_self _) ?_
        refine WO.gyes rfl rfl (WO.mv rfl (WO.gyes rfl rfl (WO.mv rfl (WO.gyes rfl rfl (WO.mv rfl (WO.gyes rfl rfl ?_))))))
        refine WO.bin rfl rfl (by decide) (by decide) rfl ?_
        refine WO.gyes rfl rfl ?_
        refine WO.bin rfl rfl (by decide) (by decide) rfl ?_
        refine WO.gyes rfl rfl ?_
        obtain ⟨x11, e12, h⟩ := bindS h
        refine WO.ixS rfl rfl hot0.slv (at?_lt e12) rfl ?_
        refine WO.gyes rfl rfl ?_
        refine WO.ldF rfl hot0z (fun _ hi => hi.1) (at?_get e12) rfl rfl (limLe_self _) ?_
        refine WO.gyes rfl rfl ?_
        obtain ⟨r13, e14, h⟩ := bindS h
        refine WO.callE (S := S6) rfl rfl (hg e14) (fun S15 c16 => ?_)
        have hot0z := hot0z.tow c16
        have hot0 := hot0.to c16
        refine WO.gyes rfl rfl ?_
        refine WO.bin rfl rfl (by decide) (by decide) rfl ?_
        obtain rfl := someI h
        refine WO.pickT rfl rfl ?_
        refine WO.nil ?_
        exact ⟨S15, rfl, rfl, c16, (Cov.cons rfl (Cov.skip rfl (Cov.skip rfl (Cov.skip rfl (Cov.skip rfl (Cov.skip rfl (Cov.skip rfl (Cov.skip rfl (Cov.skip rfl (Cov.skip rfl (Cov.skip rfl (Cov.skip rfl (Cov.skip rfl (Cov.skip rfl (Cov.skip rfl (Cov.skip rfl (Cov.skip rfl (Cov.skip rfl (Cov.skip rfl (Cov.refl _))))))))))))))))))))⟩
      · have h := e19
        have h := iteF q17 h
        obtain rfl := someI h
        refine WO.gno rfl rfl (WO.gno rfl rfl (WO.gno rfl rfl (WO.gno rfl rfl (WO.gno rfl rfl (WO.gno rfl rfl (WO.gno rfl rfl (WO.gno rfl rfl (WO.gno rfl rfl (WO.gno rfl rfl ?_)))))))))
        refine WO.gno rfl rfl (WO.gno rfl rfl (WO.gno rfl rfl (WO.gno rfl rfl (WO.gno rfl rfl (WO.gno rfl rfl ?_)))))
        refine WO.pickF rfl rfl ?_
        refine WO.nil ?_
        exact ⟨S6, rfl, rfl, Ch.refl _ _, (Cov.cons rfl (Cov.skip rfl (Cov.skip rfl (Cov.skip rfl (Cov.skip rfl (Cov.skip rfl (Cov.skip rfl (Cov.skip rfl (Cov.skip rfl (Cov.skip rfl (Cov.skip rfl (Cov.skip rfl (Cov.skip rfl (Cov.skip rfl (Cov.skip rfl (Cov.skip rfl (Cov.skip rfl (Cov.skip rfl (Cov.skip rfl (Cov.refl _))))))))))))))))))))⟩
      have hot0z := hot0z.tow c21
      have hot0 := hot0.to c21
      refine WO.nil (thenL_n ?_)
      obtain ⟨b23, e24, h⟩ := bindS h
      refine WC.mono (Q' := (fun b e l' m' n' => e = .normal ∧ ∃ S25 : Cx fl, S25.m = m' ∧ S25.n = n' ∧ Cov l' [(0, .sc vt0), (2, .sc (.int .i64 t2)), (3, .sc (.int .i64 t3)), (4, .sc (.fn g [])), (10, .sc (.int .i64 s1.1)), (11, .sc (.int .i64 b))] ∧ Iw Y3 S25 2 n bw m vt0 s1.2) b23) ?_ ?_
      · have h := e24
        dsimp only at h ⊢
        refine WC.cond rfl (fun q22 => ?_) (fun q22 => ?_)
        · have h := iteT q22 h
          refine WC.region (WO.mv rfl ?_)
          refine WO.bin rfl rfl (by decide) (by decide) rfl ?_
          refine WO.asg rfl (WO.nil ?_)
          obtain rfl := someI h
          exact ⟨rfl, ⟨S20, rfl, rfl, (Cov.cons rfl (Cov.cons rfl (Cov.cons rfl (Cov.cons rfl (Cov.cons rfl (Cov.cons rfl (Cov.nil _))))))), hot0⟩⟩
        · have h := iteF q22 h
          refine WC.skip ?_
          obtain rfl := someI h
          exact ⟨rfl, ⟨S20, rfl, rfl, (Cov.cons rfl (Cov.cons rfl (Cov.cons rfl (Cov.cons rfl (Cov.cons rfl (Cov.cons rfl (Cov.nil _))))))), hot0⟩⟩
      dsimp only
      rintro _ _ _ _ ⟨rfl, ⟨S26, rfl, rfl, hc27, hot0⟩⟩
      refine thenL_n (WC.cov hc27 (WC.seq (WC.seq ?_)))
      refine WC.drawN rfl rfl ?_
      have hot0z := hot0.oz
      refine WO.mv rfl (WO.mv rfl (WO.mv rfl (WO.mv rfl ?_)))
      refine WO.bin rfl rfl (by decide) (by decide) rfl ?_
      obtain ⟨x28, e29, h⟩ := bindS h
      refine WO.ixS rfl rfl hot0.slv (at?_lt e29) rfl ?_
      refine WO.ldF rfl hot0z (fun _ hi => hi.1) (at?_get e29) rfl rfl (limLe_self _) ?_
      refine WO.mv rfl (WO.mv rfl (WO.mv rfl ?_))
      refine WO.bin rfl rfl (by decide) (by decide) rfl ?_
      obtain ⟨x30, e31, h⟩ := bindS h
      refine WO.ixS rfl rfl hot0.slv (at?_lt e31) rfl ?_
      refine WO.ldF rfl hot0z (fun _ hi => hi.1) (at?_get e31) rfl rfl (limLe_self _) ?_
      obtain ⟨r32, e33, h⟩ := bindS h
      refine WO.callE (S := S26) rfl rfl (hg e33) (fun S34 c35 => ?_)
      have hot0z := hot0z.tow c35
      have hot0 := hot0.to c35
      refine WO.bin rfl rfl (by decide) (by decide) rfl ?_
      refine WO.do rfl rfl ?_
      refine WO.nil (thenL_n ?_)
      refine WC.cond rfl (fun q36 => ?_) (fun q36 => ?_)
      · have h := iteT q36 h
        refine WC.ret (thenL_r (blockL_r (thenL_r ?_)))
        obtain rfl := someI h
        exact ⟨_, rfl, rfl, ⟨S34, rfl, rfl, (Cov.cons rfl (Cov.nil _)), hot0⟩⟩
      · have h := iteF q36 h
        refine WC.skip (thenL_n (WC.seq ?_))
        refine WC.drawN rfl rfl ?_
        have hot0z := hot0.oz
        refine WO.mv rfl (WO.mv rfl (WO.mv rfl ?_))
        refine WO.bin rfl rfl (by decide) (by decide) rfl ?_
        refine WO.mv rfl (WO.mv rfl (WO.mv rfl ?_))
        refine WO.bin rfl rfl (by decide) (by decide) rfl ?_
        refine WO.mv rfl (WO.mv rfl (WO.mv rfl ?_))
        refine WO.bin rfl rfl (by decide) (by decide) rfl ?_
        obtain ⟨x37, e38, h⟩ := bindS h
        refine WO.ixS rfl rfl hot0.slv (at?_lt e38) rfl ?_
        refine WO.ldF rfl hot0z (fun _ hi => hi.1) (at?_get e38) rfl rfl (limLe_self _) ?_
        refine WO.mv rfl (WO.mv rfl (WO.mv rfl ?_))
        refine WO.bin rfl rfl (by decide) (by decide) rfl ?_
        obtain ⟨x39, e40, h⟩ := bindS h
        refine WO.ixS rfl rfl hot0.slv (at?_lt e40) rfl ?_
        refine WO.ldF rfl hot0z (fun _ hi => hi.1) (at?_get e40) rfl rfl (limLe_self _) ?_
        obtain ⟨u41, e42, h⟩ := bindS h
        refine WO.ixS rfl rfl hot0.slv (ck_some e42) rfl ?_
        refine WO.stI (u' := x37) rfl rfl hot0 (ck_nat e42) rfl rfl (fun S43 c44 hot0 => ?_)
        obtain ⟨u45, e46, h⟩ := bindS h
        refine WO.ixS rfl rfl hot0.slv (ck_some e46) rfl ?_
        refine WO.stI (u' := x39) rfl rfl hot0 (ck_nat e46) rfl rfl (fun S47 c48 hot0 => ?_)
        refine WO.nil (thenL_n (WC.region (WO.mv rfl (WO.asg rfl (WO.nil (blockL_n (thenL_n ?_)))))))
        obtain rfl := someI h
        exact ⟨_, rfl, ⟨S47, rfl, rfl, (Cov.cons rfl (Cov.cons rfl (Cov.cons rfl (Cov.cons rfl (Cov.cons rfl (Cov.nil _)))))), hot0⟩⟩
  cases b49 with
  | inl b51 =>
    simp only at h
    rintro _ _ _ _ ⟨rfl, ⟨S52, rfl, rfl, hc53, hot0⟩⟩
    refine blockL_s ?_
    obtain rfl := someI h
    exact ⟨.inl rfl, _, _, (resK_cov hc53 rfl), rfl, ⟨rfl, hot0.ip Lay.flat_fl⟩⟩
  | inr b51 =>
    simp only at h
    rintro _ _ _ _ ⟨rfl, ⟨S54, rfl, rfl, hc55, hot0⟩⟩
    refine blockL_r ?_
    obtain rfl := someI h
    exact ⟨.inr rfl, _, _, (resK_cov hc55 rfl), rfl, ⟨rfl, hot0.ip Lay.flat_fl⟩⟩
end Go.Proofs.Ytihmliblbhjlaaa

namespace Go.Proofs.Ytihmliblbhjlaaa
open Go.Am
theorem F170_111.fn : E.fn 170 = some ⟨60, (Try.f170.body.getD .skip), Try.f170.results.toList, []⟩ := rfl
theorem F170_111_ok {g : Nat} (hg : Cp g) {F : Nat} {m : Mem} {n : Nat} {r : (List Int)} {t0 : List Int} {t1 : Int} {t2 : Int} {vt0 : SV} {fl : Nat} {bw : Nat} (h : F170_111 F t0 t1 t2 = some r) (hfl : fl ≤ n) (kt0 : Iv Y3 fl n bw m vt0 t0) : Ret E fl 170 [.sc vt0, .sc (.int .i64 t1), .sc (.int .i64 t2), .sc (.fn g [])] m n (fun v m' n' => v = .tup [] ∧ Ip Y3 n bw m m' vt0 r) := by
  unfold F170_111 at h
  refine Ret.walk F170_111.fn ?_
  refine WC.startI (b := bw) hfl fun S0 em en hz hbw => ?_
  have hot0 := kt0.iw em en hz hbw
  refine WC.seq (WC.region (WO.mv rfl (WO.asg rfl (WO.nil (thenL_n (WC.seq (WC.region (WO.asg rfl (WO.nil ?_)))))))))
  refine thenL_n (WC.seq (WC.region (WO.mv rfl (WO.mv rfl ?_))))
  refine WO.bin rfl rfl (by decide) (by decide) rfl ?_
  refine WO.asg rfl (WO.nil (thenL_n (WC.seq (WC.seq (WC.region (WO.mv rfl ?_))))))
  refine WO.bin rfl rfl (by decide) (by decide) rfl ?_
  refine WO.bin rfl rfl (by decide) (by decide) rfl ?_
  refine WO.asg rfl (WO.nil (thenL_n (WC.block ?_)))
  obtain ⟨b11, e12, h⟩ := bindS h
  refine WC.loopD e12 (fun s1 l' m' n' => ∃ S2 : Cx fl, S2.m = m' ∧ S2.n = n' ∧ Cov l' [(0, .sc vt0), (3, .sc (.fn g [])), (8, .sc (.int .i64 t1)), (9, .sc (.int .i64 0)), (10, .sc (.int .i64 ((wrapA .i64 (t2 - t1))))), (11, .sc (.int .i64 s1.1))] ∧ Iw Y3 S2 2 n bw m vt0 s1.2) (fun b e l' m' n' => e = .exit 0 ∧ ∃ S3 : Cx fl, S3.m = m' ∧ S3.n = n' ∧ Cov l' [(0, .sc vt0), (3, .sc (.fn g [])), (8, .sc (.int .i64 t1)), (9, .sc (.int .i64 0)), (10, .sc (.int .i64 ((wrapA .i64 (t2 - t1)))))] ∧ Iw Y3 S3 2 n bw m vt0 b) (by exact ⟨S0, rfl, rfl, (Cov.cons rfl (Cov.cons rfl (Cov.cons rfl (Cov.cons rfl (Cov.cons rfl (Cov.cons rfl (Cov.nil _))))))), hot0⟩) ?_ ?_
  · clear h
    rintro s1 q _ _ _ ⟨S4, rfl, rfl, hc5, hot0⟩ h
    unfold F170_111_l0 at h
    refine WC.cov hc5 (WC.seq (WC.seq (WC.region (WO.mv rfl ?_))))
    refine WO.bin rfl rfl (by decide) (by decide) rfl ?_
    refine WO.nil (thenL_n ?_)
    refine WC.cond rfl (fun q6 => ?_) (fun q6 => ?_)
    · have h := iteT q6 h
      refine WC.skip (thenL_n (WC.seq (WC.block (WC.region (WO.mv rfl (WO.mv rfl (WO.mv rfl (WO.mv rfl (WO.mv rfl ?_)))))))))
      obtain ⟨r7, e8, h⟩ := bindS h
      refine WO.callW (S := S4) hot0 rfl rfl rfl (fun bq hI hB => F197_111_ok hg e8 S4.le hI) Lay.flat_fl (fun S9 c10 hot0 => ?_)
      refine WO.nil (blockL_n (thenL_n (WC.region (WO.mv rfl ?_))))
      refine WO.bin rfl rfl (by decide) (by decide) rfl ?_
      refine WO.asg rfl (WO.nil (thenL_n ?_))
      obtain rfl := someI h
      exact ⟨_, rfl, ⟨S9, rfl, rfl, (Cov.cons rfl (Cov.cons rfl (Cov.cons rfl (Cov.cons rfl (Cov.cons rfl (Cov.cons rfl (Cov.nil _))))))), hot0⟩⟩
    · have h := iteF q6 h
      refine WC.exit (thenL_e (thenL_e ?_))
      obtain rfl := someI h
      exact ⟨_, rfl, rfl, ⟨S4, rfl, rfl, (Cov.cons rfl (Cov.cons rfl (Cov.cons rfl (Cov.cons rfl (Cov.cons rfl (Cov.nil _)))))), hot0⟩⟩
  rintro _ _ _ _ ⟨rfl, ⟨S13, rfl, rfl, hc14, hot0⟩⟩
  refine blockL_s (thenL_n (WC.cov hc14 (WC.seq (WC.region (WO.mv rfl ?_)))))
  refine WO.bin rfl rfl (by decide) (by decide) rfl ?_
  refine WO.asg rfl (WO.nil (thenL_n (WC.block ?_)))
  obtain ⟨b37, e38, h⟩ := bindS h
  refine WC.loopD e38 (fun s15 l' m' n' => ∃ S16 : Cx fl, S16.m = m' ∧ S16.n = n' ∧ Cov l' [(0, .sc vt0), (3, .sc (.fn g [])), (8, .sc (.int .i64 t1)), (9, .sc (.int .i64 0)), (12, .sc (.int .i64 s15.1))] ∧ Iw Y3 S16 2 n bw m vt0 s15.2) (fun b e l' m' n' => e = .exit 2 ∧ ∃ S17 : Cx fl, S17.m = m' ∧ S17.n = n' ∧ Cov l' [(0, .sc vt0)] ∧ Iw Y3 S17 2 n bw m vt0 b) (by exact ⟨S13, rfl, rfl, (Cov.cons rfl (Cov.cons rfl (Cov.cons rfl (Cov.cons rfl (Cov.cons rfl (Cov.nil _)))))), hot0⟩) ?_ ?_
  · clear h
    rintro s15 q _ _ _ ⟨S18, rfl, rfl, hc19, hot0⟩ h
    unfold F170_111_l1 at h
    refine WC.cov hc19 (WC.seq (WC.seq (WC.region (WO.mv rfl ?_))))
    refine WO.bin rfl rfl (by decide) (by decide) rfl ?_
    refine WO.nil (thenL_n ?_)
    refine WC.cond rfl (fun q20 => ?_) (fun q20 => ?_)
    · have h := iteT q20 h
      refine WC.skip (thenL_n (WC.seq (WC.block (WC.seq ?_))))
      refine WC.drawN rfl rfl ?_
      have hot0z := hot0.oz
      refine WO.mv rfl (WO.mv rfl (WO.mv rfl (WO.mv rfl (WO.mv rfl ?_))))
      refine WO.bin rfl rfl (by decide) (by decide) rfl ?_
      refine WO.mv rfl (WO.mv rfl (WO.mv rfl ?_))
      refine WO.bin rfl rfl (by decide) (by decide) rfl ?_
      obtain ⟨x21, e22, h⟩ := bindS h
      refine WO.ixS rfl rfl hot0.slv (at?_lt e22) rfl ?_
      refine WO.ldF rfl hot0z (fun _ hi => hi.1) (at?_get e22) rfl rfl (limLe_self _) ?_
      refine WO.mv rfl (WO.mv rfl ?_)
      obtain ⟨x23, e24, h⟩ := bindS h
      refine WO.ixS rfl rfl hot0.slv (at?_lt e24) rfl ?_
      refine WO.ldF rfl hot0z (fun _ hi => hi.1) (at?_get e24) rfl rfl (limLe_self _) ?_
      obtain ⟨u25, e26, h⟩ := bindS h
      refine WO.ixS rfl rfl hot0.slv (ck_some e26) rfl ?_
      refine WO.stI (u' := x21) rfl rfl hot0 (ck_nat e26) rfl rfl (fun S27 c28 hot0 => ?_)
      obtain ⟨u29, e30, h⟩ := bindS h
      refine WO.ixS rfl rfl hot0.slv (ck_some e30) rfl ?_
      refine WO.stI (u' := x23) rfl rfl hot0 (ck_nat e30) rfl rfl (fun S31 c32 hot0 => ?_)
      refine WO.nil (thenL_n (WC.region (WO.mv rfl (WO.mv rfl (WO.mv rfl (WO.mv rfl (WO.mv rfl ?_)))))))
      obtain ⟨r33, e34, h⟩ := bindS h
      refine WO.callW (S := S31) hot0 rfl rfl rfl (fun bq hI hB => F197_111_ok hg e34 S31.le hI) Lay.flat_fl (fun S35 c36 hot0 => ?_)
      refine WO.nil (blockL_n (thenL_n (WC.region (WO.mv rfl ?_))))
      refine WO.bin rfl rfl (by decide) (by decide) rfl ?_
      refine WO.asg rfl (WO.nil (thenL_n ?_))
      obtain rfl := someI h
      exact ⟨_, rfl, ⟨S35, rfl, rfl, (Cov.cons rfl (Cov.cons rfl (Cov.cons rfl (Cov.cons rfl (Cov.cons rfl (Cov.nil _)))))), hot0⟩⟩
    · have h := iteF q20 h
      refine WC.exit (thenL_e (thenL_e ?_))
      obtain rfl := someI h
      exact ⟨_, rfl, rfl, ⟨S18, rfl, rfl, (Cov.cons rfl (Cov.nil _)), hot0⟩⟩
  rintro _ _ _ _ ⟨rfl, ⟨S39, rfl, rfl, hc40, hot0⟩⟩
  refine blockL_s ?_
  obtain rfl := someI h
  exact ⟨.inl rfl, _, _, (resK_cov hc40 rfl), rfl, ⟨rfl, hot0.ip Lay.flat_fl⟩⟩
end Go.Proofs.Ytihmliblbhjlaaa

namespace Go.Proofs.Ytihmliblbhjlaaa
open Go.Am
theorem F198.fn : E.fn 198 = some ⟨7, (Try.f198.body.getD .skip), Try.f198.results.toList, []⟩ := rfl
theorem F198_ok {F : Nat} {m : Mem} {n : Nat} {r : Int} {t0 : Int} (h : F198 F t0 = some r)  : Ret E n 198 [.sc (.int .i64 t0)] m n (fun v m' n' => v = .sc (.int .u64 r)) := by
  unfold F198 at h
  refine Ret.walk F198.fn ?_
  refine WC.start fun S0 em en hz => ?_
  refine WC.seq (WC.region (WO.asg rfl (WO.nil (thenL_n (WC.seq (WC.region (WO.mv rfl ?_)))))))
  refine WO.conv rfl rfl rfl rfl ?_
  obtain ⟨r1, e2, h⟩ := bindS h
  refine WO.callE (S := S0) rfl rfl (F155_ok e2) (fun S3 c4 => ?_)
  obtain ⟨x5, e6, h⟩ := bindS h
  refine WO.shlD rfl rfl e6 ?_
  refine WO.asg rfl (WO.nil (thenL_n (WC.ret ?_)))
  obtain rfl := someI h
  exact ⟨.inr rfl, _, _, rfl, rfl, rfl⟩
end Go.Proofs.Ytihmliblbhjlaaa

namespace Go.Proofs.Ytihmliblbhjlaaa
open Go.Am
theorem F199.fn : E.fn 199 = some ⟨33, (Try.f199.body.getD .skip), Try.f199.results.toList, []⟩ := rfl
theorem F199_ok {F : Nat} {fl : Nat} {S0 : Cx fl} {r : Int × Int} {t0 : Int} {bt0 : Nat} (h : F199 F t0 = some r) (hot0 : Bk Y201 S0 2 (.ptr bt0 0) t0) : Ret E fl 199 [.sc (.ptr bt0 0)] S0.m S0.n (fun v m' n' => ∃ S' : Cx fl, S'.m = m' ∧ S'.n = n' ∧ ChM S0 S' ∧ (v = .sc (.int .u64 r.1) ∧ Bk Y201 S' 2 (.ptr bt0 0) r.2)) := by
  unfold F199 at h
  refine Ret.walk F199.fn ?_
  have hM := ChM.refl S0
  refine WC.seq (WC.region (WO.asg rfl (WO.nil (thenL_n (WC.seq ?_)))))
  refine WC.drawN rfl rfl ?_
  have hot0z := hot0.lt
  refine WO.mv rfl ?_
  refine WO.nck rfl hot0.isp ?_
  refine WO.ldBz (j := 0) (q := 0) rfl hot0.at0 hot0 rfl rfl hot0z (limLe_self _) ?_
  refine WO.mv rfl ?_
  refine WO.nck rfl hot0.isp ?_
  refine WO.ldBz (j := 0) (q := 0) rfl hot0.at0 hot0 rfl rfl hot0z (limLe_self _) ?_
  obtain ⟨x1, e2, h⟩ := bindS h
  refine WO.shlD rfl rfl e2 ?_
  refine WO.bits rfl rfl rfl (by decide) (by decide) rfl ?_
  refine WO.nck rfl hot0.isp ?_
  refine WO.stB (j := 0) (q := 0) (u' := (bit .xor .u64 t0 x1)) rfl hot0.at0 rfl hot0 rfl (by decide) rfl rfl (fun S3 c4 hot0 => ?_)
  have hM := hM.to c4
  refine WO.nil (thenL_n (WC.seq ?_))
  refine WC.drawN rfl rfl ?_
  have hot0z := hot0.lt
  refine WO.mv rfl ?_
  refine WO.nck rfl hot0.isp ?_
  refine WO.ldBz (j := 0) (q := 0) rfl hot0.at0 hot0 rfl rfl hot0z (limLe_self _) ?_
  refine WO.mv rfl ?_
  refine WO.nck rfl hot0.isp ?_
  refine WO.ldBz (j := 0) (q := 0) rfl hot0.at0 hot0 rfl rfl hot0z (limLe_self _) ?_
  obtain ⟨x5, e6, h⟩ := bindS h
  refine WO.shrD rfl rfl e6 ?_
  refine WO.bits rfl rfl rfl (by decide) (by decide) rfl ?_
  refine WO.nck rfl hot0.isp ?_
  refine WO.stB (j := 0) (q := 0) (u' := (bit .xor .u64 ((bit .xor .u64 t0 x1)) x5)) rfl hot0.at0 rfl hot0 rfl (by decide) rfl rfl (fun S7 c8 hot0 => ?_)
  have hM := hM.to c8
  refine WO.nil (thenL_n (WC.seq ?_))
  refine WC.drawN rfl rfl ?_
  have hot0z := hot0.lt
  refine WO.mv rfl ?_
  refine WO.nck rfl hot0.isp ?_
  refine WO.ldBz (j := 0) (q := 0) rfl hot0.at0 hot0 rfl rfl hot0z (limLe_self _) ?_
  refine WO.mv rfl ?_
  refine WO.nck rfl hot0.isp ?_
  refine WO.ldBz (j := 0) (q := 0) rfl hot0.at0 hot0 rfl rfl hot0z (limLe_self _) ?_
  obtain ⟨x9, e10, h⟩ := bindS h
  refine WO.shlD rfl rfl e10 ?_
  refine WO.bits rfl rfl rfl (by decide) (by decide) rfl ?_
  refine WO.nck rfl hot0.isp ?_
  refine WO.stB (j := 0) (q := 0) (u' := (bit .xor .u64 ((bit .xor .u64 ((bit .xor .u64 t0 x1)) x5)) x9)) rfl hot0.at0 rfl hot0 rfl (by decide) rfl rfl (fun S11 c12 hot0 => ?_)
  have hM := hM.to c12
  refine WO.nil (thenL_n (WC.seq (WC.region (WO.mv rfl ?_))))
  refine WO.nck rfl hot0.isp ?_
  refine WO.ldB (j := 0) (q := 0) rfl hot0.at0 hot0 rfl rfl rfl ?_
  refine WO.asg rfl (WO.nil (thenL_n (WC.ret ?_)))
  obtain rfl := someI h
  exact ⟨.inr rfl, _, _, rfl, rfl, ⟨S11, rfl, rfl, hM, rfl, hot0⟩⟩
end Go.Proofs.Ytihmliblbhjlaaa

namespace Go.Proofs.Ytihmliblbhjlaaa
open Go.Am
theorem F171_111.fn : E.fn 171 = some ⟨67, (Try.f171.body.getD .skip), Try.f171.results.toList, []⟩ := rfl
theorem F171_111_ok {g : Nat} (hg : Cp g) {F : Nat} {m : Mem} {n : Nat} {r : (List Int)} {t0 : List Int} {t1 : Int} {t2 : Int} {vt0 : SV} {fl : Nat} {bw : Nat} (h : F171_111 F t0 t1 t2 = some r) (hfl : fl ≤ n) (kt0 : Iv Y3 fl n bw m vt0 t0) : Ret E fl 171 [.sc vt0, .sc (.int .i64 t1), .sc (.int .i64 t2), .sc (.fn g [])] m n (fun v m' n' => v = .tup [] ∧ Ip Y3 n bw m m' vt0 r) := by
  unfold F171_111 at h
  refine Ret.walk F171_111.fn ?_
  refine WC.startI (b := bw) hfl fun S0 em en hz hbw => ?_
  have hot0 := kt0.iw em en hz hbw
  refine WC.seq (WC.region (WO.mv rfl (WO.mv rfl ?_)))
  refine WO.bin rfl rfl (by decide) (by decide) rfl ?_
  refine WO.asg rfl (WO.nil (thenL_n (WC.seq (WC.region (WO.mv rfl ?_)))))
  refine WO.bin rfl rfl (by decide) (by decide) rfl ?_
  refine WO.nil (thenL_n ?_)
  refine WC.cond rfl (fun q1 => ?_) (fun q1 => ?_)
  · have h := iteT q1 h
    refine WC.seq (WC.region (WO.mv rfl ?_))
    refine WO.conv rfl rfl rfl rfl ?_
    refine WO.alS (A := Y201) (S := S0) (z0 := 0) 3 rfl rfl rfl (fun v2 S3 c4 ho5 => ?_)
    have hot0 := hot0.to c4
    refine WO.stB (j := 0) (q := 0) (u' := (wrapA .u64 (wrapA .i64 (t2 - t1)))) rfl ho5.at0 rfl ho5 rfl (by decide) rfl rfl (fun S6 c7 ho5 => ?_)
    have hot0 := hot0.to c7
    refine WO.nil (thenL_n (WC.seq (WC.region (WO.mv rfl ?_))))
    obtain ⟨r8, e9, h⟩ := bindS h
    refine WO.callE (S := S6) rfl rfl (F198_ok e9) (fun S10 c11 => ?_)
    have hot0 := hot0.to c11
    have ho5 := ho5.to c11
    refine WO.asg rfl (WO.nil (thenL_n (WC.seq (WC.region (WO.mv rfl (WO.mv rfl ?_))))))
    refine WO.bin rfl rfl (by decide) (by decide) rfl ?_
    refine WO.bin rfl rfl (by decide) (by decide) rfl ?_
    refine WO.bin rfl rfl (by decide) (by decide) rfl ?_
    refine WO.bin rfl rfl (by decide) (by decide) rfl ?_
    refine WO.asg rfl (WO.nil (thenL_n (WC.block ?_)))
    obtain ⟨b42, e43, h⟩ := bindS h
    refine WC.loopD e43 (fun s12 l' m' n' => ∃ S13 : Cx fl, S13.m = m' ∧ S13.n = n' ∧ Cov l' [(0, .sc vt0), (1, .sc (.int .i64 t1)), (8, .sc (.int .i64 ((wrapA .i64 (t2 - t1))))), (9, .sc v2), (10, .sc (.int .u64 r8)), (11, .sc (.int .i64 s12.1))] ∧ Iw Y3 S13 2 n bw m vt0 s12.2.1 ∧ Bk Y201 S13 3 v2 s12.2.2) (fun b e l' m' n' => e = .exit 0 ∧ ∃ S14 : Cx fl, S14.m = m' ∧ S14.n = n' ∧ Cov l' [(0, .sc vt0)] ∧ Iw Y3 S14 2 n bw m vt0 b) (by exact ⟨S10, rfl, rfl, (Cov.cons rfl (Cov.cons rfl (Cov.cons rfl (Cov.cons rfl (Cov.cons rfl (Cov.cons rfl (Cov.nil _))))))), hot0, ho5⟩) ?_ ?_
    · clear h
      rintro s12 q _ _ _ ⟨S15, rfl, rfl, hc16, hot0, ho5⟩ h
      unfold F171_111_l0 at h
      refine WC.cov hc16 (WC.seq (WC.seq (WC.region (WO.mv rfl (WO.mv rfl (WO.mv rfl ?_))))))
      refine WO.bin rfl rfl (by decide) (by decide) rfl ?_
      refine WO.bin rfl rfl (by decide) (by decide) rfl ?_
      refine WO.bin rfl rfl (by decide) (by decide) rfl ?_
      refine WO.bin rfl rfl (by decide) (by decide) rfl ?_
      refine WO.bin rfl rfl (by decide) (by decide) rfl ?_
      refine WO.nil (thenL_n ?_)
      refine WC.cond rfl (fun q17 => ?_) (fun q17 => ?_)
      · have h := iteT q17 h
        refine WC.skip (thenL_n (WC.seq (WC.block (WC.seq (WC.region ?_)))))
        obtain ⟨b18, rfl⟩ := ho5.isp
        obtain ⟨r19, e20, h⟩ := bindS h
        refine WO.callG (S := S15) [(3, 2)] [(2, 3)] rfl rfl (F199_ok (S0 := S15.mp [(3, 2)]) e20 (ho5.mp rfl)) (fun _ S21 S22 hb hR => ?_)
        obtain ⟨rfl, hR0⟩ := hR
        have c23 : Ch 3 S15 S22 := hb.ch [] 3
        have hot0 := hot0.to c23
        have ho5 := hR0.bkF hb rfl Lay.flat_fl
        refine WO.mv rfl ?_
        refine WO.bin rfl rfl (by decide) (by decide) rfl ?_
        refine WO.bits rfl rfl rfl (by decide) (by decide) rfl ?_
        refine WO.conv rfl rfl rfl rfl ?_
        refine WO.asg rfl (WO.nil (thenL_n (WC.seq (WC.seq (WC.region (WO.mv rfl (WO.mv rfl ?_)))))))
        refine WO.bin rfl rfl (by decide) (by decide) rfl ?_
        refine WO.nil (thenL_n ?_)
        obtain ⟨b25, e26, h⟩ := bindS h
        refine WC.mono (Q' := (fun b e l' m' n' => e = .normal ∧ ∃ S27 : Cx fl, S27.m = m' ∧ S27.n = n' ∧ Cov l' [(0, .sc vt0), (1, .sc (.int .i64 t1)), (8, .sc (.int .i64 ((wrapA .i64 (t2 - t1))))), (9, .sc ((.ptr b18 0))), (10, .sc (.int .u64 r8)), (11, .sc (.int .i64 s12.1)), (12, .sc (.int .i64 b))] ∧ Iw Y3 S27 2 n bw m vt0 s12.2.1 ∧ Bk Y201 S27 3 (.ptr b18 0) r19.2) b25) ?_ ?_
        · have h := e26
          dsimp only at h ⊢
          refine WC.cond rfl (fun q24 => ?_) (fun q24 => ?_)
          · have h := iteT q24 h
            refine WC.region (WO.mv rfl (WO.mv rfl ?_))
            refine WO.bin rfl rfl (by decide) (by decide) rfl ?_
            refine WO.asg rfl (WO.nil ?_)
            obtain rfl := someI h
            exact ⟨rfl, ⟨S22, rfl, rfl, (Cov.cons rfl (Cov.cons rfl (Cov.cons rfl (Cov.cons rfl (Cov.cons rfl (Cov.cons rfl (Cov.cons rfl (Cov.nil _)))))))), hot0, ho5⟩⟩
          · have h := iteF q24 h
            refine WC.skip ?_
            obtain rfl := someI h
            exact ⟨rfl, ⟨S22, rfl, rfl, (Cov.cons rfl (Cov.cons rfl (Cov.cons rfl (Cov.cons rfl (Cov.cons rfl (Cov.cons rfl (Cov.cons rfl (Cov.nil _)))))))), hot0, ho5⟩⟩
        dsimp only
        rintro _ _ _ _ ⟨rfl, ⟨S28, rfl, rfl, hc29, hot0, ho5⟩⟩
        refine thenL_n (WC.cov hc29 ?_)
        refine WC.drawN rfl rfl ?_
        have hot0z := hot0.oz
        have ho5z := ho5.lt
        refine WO.mv rfl (WO.mv rfl (WO.mv rfl (WO.mv rfl (WO.mv rfl ?_))))
        refine WO.bin rfl rfl (by decide) (by decide) rfl ?_
        refine WO.mv rfl (WO.mv rfl (WO.mv rfl ?_))
        refine WO.bin rfl rfl (by decide) (by decide) rfl ?_
        obtain ⟨x30, e31, h⟩ := bindS h
        refine WO.ixS rfl rfl hot0.slv (at?_lt e31) rfl ?_
        refine WO.ldF rfl hot0z (fun _ hi => hi.1) (at?_get e31) rfl rfl (limLe_self _) ?_
        refine WO.mv rfl (WO.mv rfl ?_)
        obtain ⟨x32, e33, h⟩ := bindS h
        refine WO.ixS rfl rfl hot0.slv (at?_lt e33) rfl ?_
        refine WO.ldF rfl hot0z (fun _ hi => hi.1) (at?_get e33) rfl rfl (limLe_self _) ?_
        obtain ⟨u34, e35, h⟩ := bindS h
        refine WO.ixS rfl rfl hot0.slv (ck_some e35) rfl ?_
        refine WO.stI (u' := x30) rfl rfl hot0 (ck_nat e35) rfl rfl (fun S36 c37 hot0 => ?_)
        have ho5 := ho5.to c37
        obtain ⟨u38, e39, h⟩ := bindS h
        refine WO.ixS rfl rfl hot0.slv (ck_some e39) rfl ?_
        refine WO.stI (u' := x32) rfl rfl hot0 (ck_nat e39) rfl rfl (fun S40 c41 hot0 => ?_)
        have ho5 := ho5.to c41
        refine WO.nil (blockL_n (thenL_n (WC.region (WO.mv rfl ?_))))
        refine WO.bin rfl rfl (by decide) (by decide) rfl ?_
        refine WO.asg rfl (WO.nil (thenL_n ?_))
        obtain rfl := someI h
        exact ⟨_, rfl, ⟨S40, rfl, rfl, (Cov.cons rfl (Cov.cons rfl (Cov.cons rfl (Cov.cons rfl (Cov.cons rfl (Cov.cons rfl (Cov.nil _))))))), hot0, ho5⟩⟩
      · have h := iteF q17 h
        refine WC.exit (thenL_e (thenL_e ?_))
        obtain rfl := someI h
        exact ⟨_, rfl, rfl, ⟨S15, rfl, rfl, (Cov.cons rfl (Cov.nil _)), hot0⟩⟩
    rintro _ _ _ _ ⟨rfl, ⟨S44, rfl, rfl, hc45, hot0⟩⟩
    refine blockL_s ?_
    obtain rfl := someI h
    exact ⟨.inl rfl, _, _, (resK_cov hc45 rfl), rfl, ⟨rfl, hot0.ip Lay.flat_fl⟩⟩
  · have h := iteF q1 h
    refine WC.skip ?_
    obtain rfl := someI h
    exact ⟨.inl rfl, _, _, rfl, rfl, ⟨rfl, hot0.ip Lay.flat_fl⟩⟩
end Go.Proofs.Ytihmliblbhjlaaa

namespace Go.Proofs.Ytihmliblbhjlaaa
open Go.Am
theorem F216_111.fn : E.fn 216 = some ⟨32, (Try.f216.body.getD .skip), Try.f216.results.toList, []⟩ := rfl
theorem F216_111_ok {g : Nat} (hg : Cp g) {F : Nat} {fl : Nat} {S0 : Cx fl} {r : Int × Int × Int} {t0 : List Int} {t1 : Int} {t2 : Int} {t3 : Int} {vt0 : SV} {bt3 : Nat} (h : F216_111 F t0 t1 t2 t3 = some r) (hot0 : Rd Y3 S0 vt0 t0) (hot3 : Bk Y3 S0 2 (.ptr bt3 0) t3) : Ret E fl 216 [.sc vt0, .sc (.int .i64 t1), .sc (.int .i64 t2), .sc (.ptr bt3 0), .sc (.fn g [])] S0.m S0.n (fun v m' n' => ∃ S' : Cx fl, S'.m = m' ∧ S'.n = n' ∧ ChM S0 S' ∧ (v = .tup [.sc (.int .i64 r.1), .sc (.int .i64 r.2.1)] ∧ Bk Y3 S' 2 (.ptr bt3 0) r.2.2)) := by
  unfold F216_111 at h
  refine Ret.walk F216_111.fn ?_
  have hM := ChM.refl S0
  refine WC.seq (WC.region (WO.asg rfl (WO.asg rfl (WO.nil (thenL_n (WC.seq (WC.seq ?_)))))))
  refine WC.drawN rfl rfl ?_
  have hot0z := hot0.oz
  have hot3z := hot3.lt
  refine WO.mv rfl (WO.mv rfl (WO.mv rfl ?_))
  obtain ⟨x1, e2, h⟩ := bindS h
  refine WO.ixS rfl rfl hot0.slv (at?_lt e2) rfl ?_
  refine WO.ldF rfl hot0z (fun _ hi => hi.1) (at?_get e2) rfl rfl (limLe_self _) ?_
  refine WO.mv rfl (WO.mv rfl ?_)
  obtain ⟨x3, e4, h⟩ := bindS h
  refine WO.ixS rfl rfl hot0.slv (at?_lt e4) rfl ?_
  refine WO.ldF rfl hot0z (fun _ hi => hi.1) (at?_get e4) rfl rfl (limLe_self _) ?_
  obtain ⟨r5, e6, h⟩ := bindS h
  refine WO.callE (S := S0) rfl rfl (hg e6) (fun S7 c8 => ?_)
  have hot0z := hot0z.toz c8
  have hot0 := hot0.to c8
  have hot3 := hot3.to c8
  have hM := hM.to c8
  refine WO.bin rfl rfl (by decide) (by decide) rfl ?_
  refine WO.nil (thenL_n ?_)
  refine WC.cond rfl (fun q9 => ?_) (fun q9 => ?_)
  · have h := iteT q9 h
    refine WC.seq (WC.region (WO.mv rfl ?_))
    refine WO.nck rfl hot3.isp ?_
    refine WO.ldB (j := 0) (q := 0) rfl hot3.at0 hot3 rfl rfl rfl ?_
    refine WO.bin rfl rfl (by decide) (by decide) rfl ?_
    refine WO.nck rfl hot3.isp ?_
    refine WO.stB (j := 0) (q := 0) (u' := (wrapA .i64 (t3 + 1))) rfl hot3.at0 rfl hot3 rfl (by decide) rfl rfl (fun S10 c11 hot3 => ?_)
    have hot0 := hot0.to c11
    have hM := hM.to c11
    refine WO.nil (thenL_n (WC.seq (WC.region (WO.mv rfl (WO.mv rfl (WO.asg rfl (WO.asg rfl (WO.nil (thenL_n ?_)))))))))
    refine WC.ret (thenL_r ?_)
    obtain rfl := someI h
    exact ⟨.inr rfl, _, _, rfl, rfl, ⟨S10, rfl, rfl, hM, rfl, hot3⟩⟩
  · have h := iteF q9 h
    refine WC.skip (thenL_n (WC.seq (WC.region (WO.mv rfl (WO.mv rfl (WO.asg rfl (WO.asg rfl (WO.nil (thenL_n ?_)))))))))
    refine WC.ret ?_
    obtain rfl := someI h
    exact ⟨.inr rfl, _, _, rfl, rfl, ⟨S7, rfl, rfl, hM, rfl, hot3⟩⟩
end Go.Proofs.Ytihmliblbhjlaaa

namespace Go.Proofs.Ytihmliblbhjlaaa
open Go.Am
theorem F201_111.fn : E.fn 201 = some ⟨41, (Try.f201.body.getD .skip), Try.f201.results.toList, []⟩ := rfl
theorem F201_111_ok {g : Nat} (hg : Cp g) {F : Nat} {fl : Nat} {S0 : Cx fl} {r : Int × Int} {t0 : List Int} {t1 : Int} {t2 : Int} {t3 : Int} {t4 : Int} {vt0 : SV} {bt4 : Nat} (h : F201_111 F t0 t1 t2 t3 t4 = some r) (hot0 : Rd Y3 S0 vt0 t0) (hot4 : Bk Y3 S0 2 (.ptr bt4 0) t4) : Ret E fl 201 [.sc vt0, .sc (.int .i64 t1), .sc (.int .i64 t2), .sc (.int .i64 t3), .sc (.ptr bt4 0), .sc (.fn g [])] S0.m S0.n (fun v m' n' => ∃ S' : Cx fl, S'.m = m' ∧ S'.n = n' ∧ ChM S0 S' ∧ (v = .sc (.int .i64 r.1) ∧ Bk Y3 S' 2 (.ptr bt4 0) r.2)) := by
  unfold F201_111 at h
  refine Ret.walk F201_111.fn ?_
  have hM := ChM.refl S0
  refine WC.seq (WC.region (WO.asg rfl (WO.nil (thenL_n (WC.seq (WC.region (WO.mv rfl (WO.mv rfl (WO.mv rfl ?_)))))))))
  refine WO.mv rfl (WO.mv rfl ?_)
  obtain ⟨r1, e2, h⟩ := bindS h
  refine WO.callG (S := S0) [(2, 2)] [(2, 2)] rfl rfl (F216_111_ok hg (S0 := S0.mp [(2, 2)]) e2 hot0.mp (hot4.mp rfl)) (fun _ S3 S4 hb hR => ?_)
  obtain ⟨rfl, hR0⟩ := hR
  have c5 : Ch 2 S0 S4 := hb.ch [] 2
  have hot0 := hot0.to c5
  have hM := hM.to c5
  have hot4 := hR0.bkF hb rfl Lay.flat_fl
  refine WO.mv rfl ?_
  refine WO.do rfl rfl ?_
  refine WO.do rfl rfl ?_
  refine WO.asg rfl (WO.asg rfl (WO.nil (thenL_n (WC.seq (WC.region (WO.mv rfl (WO.mv rfl (WO.mv rfl (WO.mv rfl ?_)))))))))
  refine WO.mv rfl ?_
  obtain ⟨r6, e7, h⟩ := bindS h
  refine WO.callG (S := S4) [(2, 2)] [(2, 2)] rfl rfl (F216_111_ok hg (S0 := S4.mp [(2, 2)]) e7 hot0.mp (hot4.mp rfl)) (fun _ S8 S9 hb hR => ?_)
  obtain ⟨rfl, hR0⟩ := hR
  have c10 : Ch 2 S4 S9 := hb.ch [] 2
  have hot0 := hot0.to c10
  have hM := hM.to c10
  have hot4 := hR0.bkF hb rfl Lay.flat_fl
  refine WO.mv rfl ?_
  refine WO.do rfl rfl ?_
  refine WO.do rfl rfl ?_
  refine WO.asg rfl (WO.asg rfl (WO.nil (thenL_n (WC.seq (WC.region (WO.mv rfl (WO.mv rfl (WO.mv rfl (WO.mv rfl ?_)))))))))
  refine WO.mv rfl ?_
  obtain ⟨r11, e12, h⟩ := bindS h
  refine WO.callG (S := S9) [(2, 2)] [(2, 2)] rfl rfl (F216_111_ok hg (S0 := S9.mp [(2, 2)]) e12 hot0.mp (hot4.mp rfl)) (fun _ S13 S14 hb hR => ?_)
  obtain ⟨rfl, hR0⟩ := hR
  have c15 : Ch 2 S9 S14 := hb.ch [] 2
  have hot0 := hot0.to c15
  have hM := hM.to c15
  have hot4 := hR0.bkF hb rfl Lay.flat_fl
  refine WO.mv rfl ?_
  refine WO.do rfl rfl ?_
  refine WO.do rfl rfl ?_
  refine WO.asg rfl (WO.asg rfl (WO.nil (thenL_n (WC.seq (WC.region (WO.mv rfl (WO.asg rfl (WO.nil (thenL_n ?_)))))))))
  refine WC.ret ?_
  obtain rfl := someI h
  exact ⟨.inr rfl, _, _, rfl, rfl, ⟨S14, rfl, rfl, hM, rfl, hot4⟩⟩
end Go.Proofs.Ytihmliblbhjlaaa

namespace Go.Proofs.Ytihmliblbhjlaaa
open Go.Am
theorem F200_111.fn : E.fn 200 = some ⟨18, (Try.f200.body.getD .skip), Try.f200.results.toList, []⟩ := rfl
theorem F200_111_ok {g : Nat} (hg : Cp g) {F : Nat} {fl : Nat} {S0 : Cx fl} {r : Int × Int} {t0 : List Int} {t1 : Int} {t2 : Int} {vt0 : SV} {bt2 : Nat} (h : F200_111 F t0 t1 t2 = some r) (hot0 : Rd Y3 S0 vt0 t0) (hot2 : Bk Y3 S0 2 (.ptr bt2 0) t2) : Ret E fl 200 [.sc vt0, .sc (.int .i64 t1), .sc (.ptr bt2 0), .sc (.fn g [])] S0.m S0.n (fun v m' n' => ∃ S' : Cx fl, S'.m = m' ∧ S'.n = n' ∧ ChM S0 S' ∧ (v = .sc (.int .i64 r.1) ∧ Bk Y3 S' 2 (.ptr bt2 0) r.2)) := by
  unfold F200_111 at h
  refine Ret.walk F200_111.fn ?_
  have hM := ChM.refl S0
  refine WC.seq (WC.region (WO.asg rfl (WO.nil (thenL_n (WC.seq (WC.region (WO.mv rfl (WO.mv rfl ?_))))))))
  refine WO.bin rfl rfl (by decide) (by decide) rfl ?_
  refine WO.mv rfl (WO.mv rfl ?_)
  refine WO.bin rfl rfl (by decide) (by decide) rfl ?_
  refine WO.mv rfl (WO.mv rfl ?_)
  obtain ⟨r1, e2, h⟩ := bindS h
  refine WO.callG (S := S0) [(2, 2)] [(2, 2)] rfl rfl (F201_111_ok hg (S0 := S0.mp [(2, 2)]) e2 hot0.mp (hot2.mp rfl)) (fun _ S3 S4 hb hR => ?_)
  obtain ⟨rfl, hR0⟩ := hR
  have c5 : Ch 2 S0 S4 := hb.ch [] 2
  have hot0 := hot0.to c5
  have hM := hM.to c5
  have hot2 := hR0.bkF hb rfl Lay.flat_fl
  refine WO.asg rfl (WO.nil (thenL_n (WC.ret ?_)))
  obtain rfl := someI h
  exact ⟨.inr rfl, _, _, rfl, rfl, ⟨S4, rfl, rfl, hM, rfl, hot2⟩⟩
end Go.Proofs.Ytihmliblbhjlaaa

namespace Go.Proofs.Ytihmliblbhjlaaa
open Go.Am
theorem F172_111.fn : E.fn 172 = some ⟨63, (Try.f172.body.getD .skip), Try.f172.results.toList, []⟩ := rfl
theorem F172_111_ok {g : Nat} (hg : Cp g) {F : Nat} {m : Mem} {n : Nat} {r : Int × Int} {t0 : List Int} {t1 : Int} {t2 : Int} {vt0 : SV} (h : F172_111 F t0 t1 t2 = some r) (kt0 : Vw Y3 n m vt0 t0) : Ret E n 172 [.sc vt0, .sc (.int .i64 t1), .sc (.int .i64 t2), .sc (.fn g [])] m n (fun v m' n' => v = .tup [.sc (.int .i64 r.1), .sc (.int .i64 r.2)]) := by
  unfold F172_111 at h
  refine Ret.walk F172_111.fn ?_
  refine WC.start fun S0 em en hz => ?_
  have hot0 := kt0.rdS em hz
  refine WC.seq (WC.region (WO.asg rfl (WO.asg rfl (WO.nil (thenL_n (WC.seq (WC.region (WO.mv rfl (WO.mv rfl ?_)))))))))
  refine WO.bin rfl rfl (by decide) (by decide) rfl ?_
  refine WO.asg rfl (WO.nil (thenL_n (WC.seq (WC.region ?_))))
  refine WO.alS (A := Y3) (S := S0) (z0 := 0) 2 rfl rfl rfl (fun v1 S2 c3 ho4 => ?_)
  have hot0 := hot0.to c3
  refine WO.nil (thenL_n (WC.seq (WC.region (WO.mv rfl (WO.mv rfl ?_)))))
  refine WO.bin rfl rfl (by decide) (by decide) rfl ?_
  refine WO.bin rfl rfl (by decide) (by decide) rfl ?_
  refine WO.bin rfl rfl (by decide) (by decide) rfl ?_
  refine WO.asg rfl (WO.nil (thenL_n (WC.seq (WC.region (WO.mv rfl (WO.mv rfl ?_))))))
  refine WO.bin rfl rfl (by decide) (by decide) rfl ?_
  refine WO.bin rfl rfl (by decide) (by decide) rfl ?_
  refine WO.bin rfl rfl (by decide) (by decide) rfl ?_
  refine WO.asg rfl (WO.nil (thenL_n (WC.seq (WC.region (WO.mv rfl (WO.mv rfl ?_))))))
  refine WO.bin rfl rfl (by decide) (by decide) rfl ?_
  refine WO.bin rfl rfl (by decide) (by decide) rfl ?_
  refine WO.bin rfl rfl (by decide) (by decide) rfl ?_
  refine WO.asg rfl (WO.nil (thenL_n (WC.seq (WC.seq (WC.region (WO.mv rfl ?_))))))
  refine WO.bin rfl rfl (by decide) (by decide) rfl ?_
  refine WO.nil (thenL_n ?_)
  obtain ⟨b34, e35, h⟩ := bindS h
  refine WC.mono (Q' := (fun b e l' m' n' => e = .normal ∧ ∃ S36 : Cx n, S36.m = m' ∧ S36.n = n' ∧ Cov l' [(11, .sc v1), (13, .sc (.int .i64 b.1))] ∧ Bk Y3 S36 2 v1 b.2) b34) ?_ ?_
  · have h := e35
    dsimp only at h ⊢
    refine WC.cond rfl (fun q5 => ?_) (fun q5 => ?_)
    · have h := iteT q5 h
      refine WC.seq (WC.seq (WC.region (WO.mv rfl ?_)))
      refine WO.bin rfl rfl (by decide) (by decide) rfl ?_
      refine WO.nil (thenL_n ?_)
      refine WC.cond rfl (fun q6 => ?_) (fun q6 => ?_)
      · have h := iteT q6 h
        refine WC.seq (WC.region (WO.mv rfl (WO.mv rfl (WO.mv rfl ?_))))
        obtain ⟨b7, rfl⟩ := ho4.isp
        obtain ⟨r8, e9, h⟩ := bindS h
        refine WO.callG (S := S2) [(2, 2)] [(2, 2)] rfl rfl (F200_111_ok hg (S0 := S2.mp [(2, 2)]) e9 hot0.mp (ho4.mp rfl)) (fun _ S10 S11 hb hR => ?_)
        obtain ⟨rfl, hR0⟩ := hR
        have c12 : Ch 2 S2 S11 := hb.ch [] 2
        have hot0 := hot0.to c12
        have ho4 := hR0.bkF hb rfl Lay.flat_fl
        refine WO.asg rfl (WO.nil (thenL_n (WC.seq (WC.region (WO.mv rfl (WO.mv rfl (WO.mv rfl ?_)))))))
        obtain ⟨r13, e14, h⟩ := bindS h
        refine WO.callG (S := S11) [(2, 2)] [(2, 2)] rfl rfl (F200_111_ok hg (S0 := S11.mp [(2, 2)]) e14 hot0.mp (ho4.mp rfl)) (fun _ S15 S16 hb hR => ?_)
        obtain ⟨rfl, hR0⟩ := hR
        have c17 : Ch 2 S11 S16 := hb.ch [] 2
        have hot0 := hot0.to c17
        have ho4 := hR0.bkF hb rfl Lay.flat_fl
        refine WO.asg rfl (WO.nil (thenL_n (WC.region (WO.mv rfl (WO.mv rfl (WO.mv rfl ?_))))))
        obtain ⟨r18, e19, h⟩ := bindS h
        refine WO.callG (S := S16) [(2, 2)] [(2, 2)] rfl rfl (F200_111_ok hg (S0 := S16.mp [(2, 2)]) e19 hot0.mp (ho4.mp rfl)) (fun _ S20 S21 hb hR => ?_)
        obtain ⟨rfl, hR0⟩ := hR
        have c22 : Ch 2 S16 S21 := hb.ch [] 2
        have hot0 := hot0.to c22
        have ho4 := hR0.bkF hb rfl Lay.flat_fl
        refine WO.asg rfl (WO.nil (thenL_n (WC.region (WO.mv rfl (WO.mv rfl (WO.mv rfl (WO.mv rfl (WO.mv rfl ?_))))))))
        obtain ⟨r23, e24, h⟩ := bindS h
        refine WO.callG (S := S21) [(2, 2)] [(2, 2)] rfl rfl (F201_111_ok hg (S0 := S21.mp [(2, 2)]) e24 hot0.mp (ho4.mp rfl)) (fun _ S25 S26 hb hR => ?_)
        obtain ⟨rfl, hR0⟩ := hR
        have c27 : Ch 2 S21 S26 := hb.ch [] 2
        have hot0 := hot0.to c27
        have ho4 := hR0.bkF hb rfl Lay.flat_fl
        refine WO.asg rfl (WO.nil ?_)
        obtain rfl := someI h
        exact ⟨rfl, ⟨S26, rfl, rfl, (Cov.cons rfl (Cov.cons rfl (Cov.nil _))), ho4⟩⟩
      · have h := iteF q6 h
        refine WC.skip (thenL_n (WC.region (WO.mv rfl (WO.mv rfl (WO.mv rfl (WO.mv rfl (WO.mv rfl ?_)))))))
        obtain ⟨b28, rfl⟩ := ho4.isp
        obtain ⟨r29, e30, h⟩ := bindS h
        refine WO.callG (S := S2) [(2, 2)] [(2, 2)] rfl rfl (F201_111_ok hg (S0 := S2.mp [(2, 2)]) e30 hot0.mp (ho4.mp rfl)) (fun _ S31 S32 hb hR => ?_)
        obtain ⟨rfl, hR0⟩ := hR
        have c33 : Ch 2 S2 S32 := hb.ch [] 2
        have hot0 := hot0.to c33
        have ho4 := hR0.bkF hb rfl Lay.flat_fl
        refine WO.asg rfl (WO.nil ?_)
        obtain rfl := someI h
        exact ⟨rfl, ⟨S32, rfl, rfl, (Cov.cons rfl (Cov.cons rfl (Cov.nil _))), ho4⟩⟩
    · have h := iteF q5 h
      refine WC.skip ?_
      obtain rfl := someI h
      exact ⟨rfl, ⟨S2, rfl, rfl, (Cov.cons rfl (Cov.cons rfl (Cov.nil _))), ho4⟩⟩
  dsimp only
  rintro _ _ _ _ ⟨rfl, ⟨S37, rfl, rfl, hc38, ho4⟩⟩
  refine thenL_n (WC.cov hc38 (WC.seq (WC.region ?_)))
  refine WO.ldB (j := 0) (q := 0) rfl ho4.at0 ho4 rfl rfl rfl ?_
  refine WO.nil (thenL_n (WC.block (WC.seq (WC.region ?_))))
  refine WO.bin rfl rfl (by decide) (by decide) rfl ?_
  refine WO.asg rfl (WO.nil (thenL_n ?_))
  refine WC.cond rfl (fun q39 => ?_) (fun q39 => ?_)
  · have h := iteT q39 h
    refine WC.seq (WC.region (WO.mv rfl (WO.asg rfl (WO.asg rfl (WO.nil (thenL_n (WC.ret (blockL_r ?_))))))))
    obtain rfl := someI h
    exact ⟨.inr rfl, _, _, rfl, rfl, rfl⟩
  · have h := iteF q39 h
    refine WC.seq (WC.region ?_)
    refine WO.bin rfl rfl (by decide) (by decide) rfl ?_
    refine WO.asg rfl (WO.nil (thenL_n ?_))
    refine WC.cond rfl (fun q40 => ?_) (fun q40 => ?_)
    · have h := iteT q40 h
      refine WC.seq (WC.region (WO.mv rfl (WO.asg rfl (WO.asg rfl (WO.nil (thenL_n (WC.ret (blockL_r ?_))))))))
      obtain rfl := someI h
      exact ⟨.inr rfl, _, _, rfl, rfl, rfl⟩
    · have h := iteF q40 h
      refine WC.seq (WC.region (WO.mv rfl (WO.asg rfl (WO.asg rfl (WO.nil (thenL_n (WC.ret (blockL_r ?_))))))))
      obtain rfl := someI h
      exact ⟨.inr rfl, _, _, rfl, rfl, rfl⟩
end Go.Proofs.Ytihmliblbhjlaaa

namespace Go.Proofs.Ytihmliblbhjlaaa
open Go.Am
theorem F173_111.fn : E.fn 173 = some ⟨34, (Try.f173.body.getD .skip), Try.f173.results.toList, []⟩ := rfl
theorem F173_111_ok {g : Nat} (hg : Cp g) {F : Nat} {m : Mem} {n : Nat} {r : (List Int)} {t0 : List Int} {t1 : Int} {t2 : Int} {vt0 : SV} {fl : Nat} {bw : Nat} (h : F173_111 F t0 t1 t2 = some r) (hfl : fl ≤ n) (kt0 : Iv Y3 fl n bw m vt0 t0) : Ret E fl 173 [.sc vt0, .sc (.int .i64 t1), .sc (.int .i64 t2), .sc (.fn g [])] m n (fun v m' n' => v = .tup [] ∧ Ip Y3 n bw m m' vt0 r) := by
  unfold F173_111 at h
  refine Ret.walk F173_111.fn ?_
  refine WC.startI (b := bw) hfl fun S0 em en hz hbw => ?_
  have hot0 := kt0.iw em en hz hbw
  refine WC.seq (WC.region (WO.mv rfl (WO.asg rfl (WO.nil (thenL_n (WC.seq (WC.region (WO.mv rfl ?_))))))))
  refine WO.bin rfl rfl (by decide) (by decide) rfl ?_
  refine WO.asg rfl (WO.nil (thenL_n (WC.block ?_)))
  obtain ⟨b19, e20, h⟩ := bindS h
  refine WC.loopD e20 (fun s1 l' m' n' => ∃ S2 : Cx fl, S2.m = m' ∧ S2.n = n' ∧ Cov l' [(0, .sc vt0), (8, .sc (.int .i64 s1.1)), (9, .sc (.int .i64 s1.2.1))] ∧ Iw Y3 S2 2 n bw m vt0 s1.2.2) (fun b e l' m' n' => e = .exit 0 ∧ ∃ S3 : Cx fl, S3.m = m' ∧ S3.n = n' ∧ Cov l' [(0, .sc vt0)] ∧ Iw Y3 S3 2 n bw m vt0 b) (by exact ⟨S0, rfl, rfl, (Cov.cons rfl (Cov.cons rfl (Cov.cons rfl (Cov.nil _)))), hot0⟩) ?_ ?_
  · clear h
    rintro s1 q _ _ _ ⟨S4, rfl, rfl, hc5, hot0⟩ h
    unfold F173_111_l0 at h
    refine WC.cov hc5 (WC.seq (WC.seq (WC.region (WO.mv rfl (WO.mv rfl ?_)))))
    refine WO.bin rfl rfl (by decide) (by decide) rfl ?_
    refine WO.nil (thenL_n ?_)
    refine WC.cond rfl (fun q6 => ?_) (fun q6 => ?_)
    · have h := iteT q6 h
      refine WC.skip (thenL_n (WC.block (WC.seq ?_)))
      refine WC.drawN rfl rfl ?_
      have hot0z := hot0.oz
      refine WO.mv rfl (WO.mv rfl (WO.mv rfl (WO.mv rfl (WO.mv rfl (WO.mv rfl ?_)))))
      obtain ⟨x7, e8, h⟩ := bindS h
      refine WO.ixS rfl rfl hot0.slv (at?_lt e8) rfl ?_
      refine WO.ldF rfl hot0z (fun _ hi => hi.1) (at?_get e8) rfl rfl (limLe_self _) ?_
      refine WO.mv rfl (WO.mv rfl ?_)
      obtain ⟨x9, e10, h⟩ := bindS h
      refine WO.ixS rfl rfl hot0.slv (at?_lt e10) rfl ?_
      refine WO.ldF rfl hot0z (fun _ hi => hi.1) (at?_get e10) rfl rfl (limLe_self _) ?_
      obtain ⟨u11, e12, h⟩ := bindS h
      refine WO.ixS rfl rfl hot0.slv (ck_some e12) rfl ?_
      refine WO.stI (u' := x7) rfl rfl hot0 (ck_nat e12) rfl rfl (fun S13 c14 hot0 => ?_)
      obtain ⟨u15, e16, h⟩ := bindS h
      refine WO.ixS rfl rfl hot0.slv (ck_some e16) rfl ?_
      refine WO.stI (u' := x9) rfl rfl hot0 (ck_nat e16) rfl rfl (fun S17 c18 hot0 => ?_)
      refine WO.nil (thenL_n (WC.seq (WC.region (WO.mv rfl ?_))))
      refine WO.bin rfl rfl (by decide) (by decide) rfl ?_
      refine WO.asg rfl (WO.nil (thenL_n (WC.region (WO.mv rfl ?_))))
      refine WO.bin rfl rfl (by decide) (by decide) rfl ?_
      refine WO.asg rfl (WO.nil (blockL_n (thenL_n ?_)))
      obtain rfl := someI h
      exact ⟨_, rfl, ⟨S17, rfl, rfl, (Cov.cons rfl (Cov.cons rfl (Cov.cons rfl (Cov.nil _)))), hot0⟩⟩
    · have h := iteF q6 h
      refine WC.exit (thenL_e (thenL_e ?_))
      obtain rfl := someI h
      exact ⟨_, rfl, rfl, ⟨S4, rfl, rfl, (Cov.cons rfl (Cov.nil _)), hot0⟩⟩
  rintro _ _ _ _ ⟨rfl, ⟨S21, rfl, rfl, hc22, hot0⟩⟩
  refine blockL_s ?_
  obtain rfl := someI h
  exact ⟨.inl rfl, _, _, (resK_cov hc22 rfl), rfl, ⟨rfl, hot0.ip Lay.flat_fl⟩⟩
end Go.Proofs.Ytihmliblbhjlaaa

namespace Go.Proofs.Ytihmliblbhjlaaa
open Go.Am
theorem F174_111.fn : E.fn 174 = some ⟨141, (Try.f174.body.getD .skip), Try.f174.results.toList, []⟩ := rfl
theorem F174_111_ok {g : Nat} (hg : Cp g) {F : Nat} {m : Mem} {n : Nat} {r : Bool × (List Int)} {t0 : List Int} {t1 : Int} {t2 : Int} {vt0 : SV} {fl : Nat} {bw : Nat} (h : F174_111 F t0 t1 t2 = some r) (hfl : fl ≤ n) (kt0 : Iv Y3 fl n bw m vt0 t0) : Ret E fl 174 [.sc vt0, .sc (.int .i64 t1), .sc (.int .i64 t2), .sc (.fn g [])] m n (fun v m' n' => v = .sc (.bool r.1) ∧ Ip Y3 n bw m m' vt0 r.2) := by
  unfold F174_111 at h
  refine Ret.walk F174_111.fn ?_
  refine WC.startI (b := bw) hfl fun S0 em en hz hbw => ?_
  have hot0 := kt0.iw em en hz hbw
  refine WC.seq (WC.region (WO.asg rfl (WO.nil (thenL_n (WC.seq (WC.region (WO.mv rfl ?_)))))))
  refine WO.bin rfl rfl (by decide) (by decide) rfl ?_
  refine WO.asg rfl (WO.nil (thenL_n (WC.seq (WC.seq (WC.region (WO.asg rfl (WO.nil (thenL_n (WC.block ?_)))))))))
  obtain ⟨b115, e116, h⟩ := bindS h
  refine WC.loopD e116 (fun s1 l' m' n' => ∃ S2 : Cx fl, S2.m = m' ∧ S2.n = n' ∧ Cov l' [(0, .sc vt0), (1, .sc (.int .i64 t1)), (2, .sc (.int .i64 t2)), (3, .sc (.fn g [])), (9, .sc (.int .i64 s1.1)), (10, .sc (.int .i64 s1.2.1))] ∧ Iw Y3 S2 2 n bw m vt0 s1.2.2) (fun b e l' m' n' => (match b with | .inl b3 => e = .exit 0 ∧ ∃ S4 : Cx fl, S4.m = m' ∧ S4.n = n' ∧ Cov l' [(0, .sc vt0)] ∧ Iw Y3 S4 2 n bw m vt0 b3 | .inr b3 => e = .ret ∧ ∃ S5 : Cx fl, S5.m = m' ∧ S5.n = n' ∧ Cov l' [(0, .sc vt0), (8, .sc (.bool b3.1))] ∧ Iw Y3 S5 2 n bw m vt0 b3.2)) (by exact ⟨S0, rfl, rfl, (Cov.cons rfl (Cov.cons rfl (Cov.cons rfl (Cov.cons rfl (Cov.cons rfl (Cov.cons rfl (Cov.nil _))))))), hot0⟩) ?_ ?_
  · clear h
    rintro s1 q _ _ _ ⟨S6, rfl, rfl, hc7, hot0⟩ h
    unfold F174_111_l3 at h
    refine WC.cov hc7 (WC.seq (WC.seq (WC.region (WO.mv rfl ?_))))
    refine WO.bin rfl rfl (by decide) (by decide) rfl ?_
    refine WO.nil (thenL_n ?_)
    refine WC.cond rfl (fun q8 => ?_) (fun q8 => ?_)
    · have h := iteT q8 h
      refine WC.skip (thenL_n (WC.seq (WC.block (WC.seq (WC.block ?_)))))
      obtain ⟨b28, e29, h⟩ := bindS h
      refine WC.loopD e29 (fun s9 l' m' n' => ∃ S10 : Cx fl, S10.m = m' ∧ S10.n = n' ∧ Cov l' [(0, .sc vt0), (1, .sc (.int .i64 t1)), (2, .sc (.int .i64 t2)), (3, .sc (.fn g [])), (9, .sc (.int .i64 s9)), (10, .sc (.int .i64 s1.2.1))] ∧ Iw Y3 S10 2 n bw m vt0 s1.2.2) (fun b e l' m' n' => e = .exit 2 ∧ ∃ S11 : Cx fl, S11.m = m' ∧ S11.n = n' ∧ Cov l' [(0, .sc vt0), (1, .sc (.int .i64 t1)), (2, .sc (.int .i64 t2)), (3, .sc (.fn g [])), (9, .sc (.int .i64 b)), (10, .sc (.int .i64 s1.2.1))] ∧ Iw Y3 S11 2 n bw m vt0 s1.2.2) (by exact ⟨S6, rfl, rfl, (Cov.cons rfl (Cov.cons rfl (Cov.cons rfl (Cov.cons rfl (Cov.cons rfl (Cov.cons rfl (Cov.nil _))))))), hot0⟩) ?_ ?_
      · clear h
        rintro s9 q _ _ _ ⟨S12, rfl, rfl, hc13, hot0⟩ h
        unfold F174_111_l0 at h
        refine WC.cov hc13 (WC.seq (WC.seq ?_))
        refine WC.drawN rfl rfl ?_
        have hot0z := hot0.oz
        refine WO.mv rfl (WO.mv rfl ?_)
        refine WO.bin rfl rfl (by decide) (by decide) rfl ?_
        refine WO.mv rfl ?_
        obtain ⟨y23, e24, h⟩ := bindS h
        refine WO.cutS (d := 36) (S := S12) 14 y23 (fun q22 => ?_) (fun q22 => ?_) (fun S25 c26 => ?_)
        · have h := e24
          have h := iteT q22 h
          refine WO.gyes rfl rfl (WO.mv rfl (WO.gyes rfl rfl (WO.mv rfl (WO.gyes rfl rfl (WO.mv rfl (WO.gyes rfl rfl ?_))))))
          obtain ⟨x14, e15, h⟩ := bindS h
          refine WO.ixS rfl rfl hot0.slv (at?_lt e15) rfl ?_
          refine WO.gyes rfl rfl ?_
          refine WO.ldF rfl hot0z (fun _ hi => hi.1) (at?_get e15) rfl rfl (limLe_self _) ?_
          refine WO.gyes rfl rfl (WO.mv rfl (WO.gyes rfl rfl (WO.mv rfl (WO.gyes rfl rfl ?_))))
          refine WO.bin rfl rfl (by decide) (by decide) rfl ?_
          refine WO.gyes rfl rfl ?_
          obtain ⟨x16, e17, h⟩ := bindS h
          refine WO.ixS rfl rfl hot0.slv (at?_lt e17) rfl ?_
          refine WO.gyes rfl rfl ?_
          refine WO.ldF rfl hot0z (fun _ hi => hi.1) (at?_get e17) rfl rfl (limLe_self _) ?_
          refine WO.gyes rfl rfl ?_
          obtain ⟨r18, e19, h⟩ := bindS h
          refine WO.callE (S := S12) rfl rfl (hg e19) (fun S20 c21 => ?_)
          have hot0z := hot0z.tow c21
          have hot0 := hot0.to c21
          refine WO.gyes rfl rfl ?_
          refine WO.bin rfl rfl (by decide) (by decide) rfl ?_
          refine WO.gyes rfl rfl ?_
          refine WO.do rfl rfl ?_
          obtain rfl := someI h
          refine WO.pickT rfl rfl ?_
          refine WO.nil ?_
          exact ⟨S20, rfl, rfl, c21, (Cov.cons rfl (Cov.skip rfl (Cov.skip rfl (Cov.skip rfl (Cov.skip rfl (Cov.skip rfl (Cov.skip rfl (Cov.skip rfl (Cov.skip rfl (Cov.skip rfl (Cov.skip rfl (Cov.skip rfl (Cov.skip rfl (Cov.skip rfl (Cov.skip rfl (Cov.skip rfl (Cov.refl _)))))))))))))))))⟩
        · have h := e24
          have h := iteF q22 h
          obtain rfl := someI h
          refine WO.gno rfl rfl (WO.gno rfl rfl (WO.gno rfl rfl (WO.gno rfl rfl (WO.gno rfl rfl (WO.gno rfl rfl (WO.gno rfl rfl (WO.gno rfl rfl (WO.gno rfl rfl (WO.gno rfl rfl ?_)))))))))
          refine WO.gno rfl rfl (WO.gno rfl rfl (WO.gno rfl rfl ?_))
          refine WO.pickF rfl rfl ?_
          refine WO.nil ?_
          exact ⟨S12, rfl, rfl, Ch.refl _ _, (Cov.cons rfl (Cov.skip rfl (Cov.skip rfl (Cov.skip rfl (Cov.skip rfl (Cov.skip rfl (Cov.skip rfl (Cov.skip rfl (Cov.skip rfl (Cov.skip rfl (Cov.skip rfl (Cov.skip rfl (Cov.skip rfl (Cov.skip rfl (Cov.skip rfl (Cov.skip rfl (Cov.refl _)))))))))))))))))⟩
        have hot0z := hot0z.tow c26
        have hot0 := hot0.to c26
        refine WO.nil (thenL_n ?_)
        refine WC.cond rfl (fun q27 => ?_) (fun q27 => ?_)
        · have h := iteT q27 h
          refine WC.skip (thenL_n (WC.block (WC.region (WO.mv rfl ?_))))
          refine WO.bin rfl rfl (by decide) (by decide) rfl ?_
          refine WO.asg rfl (WO.nil (blockL_n (thenL_n ?_)))
          obtain rfl := someI h
          exact ⟨_, rfl, ⟨S25, rfl, rfl, (Cov.cons rfl (Cov.cons rfl (Cov.cons rfl (Cov.cons rfl (Cov.cons rfl (Cov.cons rfl (Cov.nil _))))))), hot0⟩⟩
        · have h := iteF q27 h
          refine WC.exit (thenL_e (thenL_e ?_))
          obtain rfl := someI h
          exact ⟨_, rfl, rfl, ⟨S25, rfl, rfl, (Cov.cons rfl (Cov.cons rfl (Cov.cons rfl (Cov.cons rfl (Cov.cons rfl (Cov.cons rfl (Cov.nil _))))))), hot0⟩⟩
      rintro _ _ _ _ ⟨rfl, ⟨S30, rfl, rfl, hc31, hot0⟩⟩
      refine blockL_s (thenL_n (WC.cov hc31 (WC.seq (WC.seq (WC.region (WO.mv rfl (WO.mv rfl ?_)))))))
      refine WO.bin rfl rfl (by decide) (by decide) rfl ?_
      refine WO.nil (thenL_n ?_)
      refine WC.cond rfl (fun q32 => ?_) (fun q32 => ?_)
      · have h := iteT q32 h
        refine WC.seq (WC.region (WO.asg rfl (WO.nil (thenL_n (WC.ret (thenL_r (blockL_r (thenL_r (thenL_r ?_)))))))))
        obtain rfl := someI h
        exact ⟨_, rfl, rfl, ⟨S30, rfl, rfl, (Cov.cons rfl (Cov.cons rfl (Cov.nil _))), hot0⟩⟩
      · have h := iteF q32 h
        refine WC.skip (thenL_n (WC.seq (WC.seq (WC.region (WO.mv rfl (WO.mv rfl ?_))))))
        refine WO.bin rfl rfl (by decide) (by decide) rfl ?_
        refine WO.bin rfl rfl (by decide) (by decide) rfl ?_
        refine WO.nil (thenL_n ?_)
        refine WC.cond rfl (fun q33 => ?_) (fun q33 => ?_)
        · have h := iteT q33 h
          refine WC.seq (WC.region (WO.asg rfl (WO.nil (thenL_n (WC.ret (thenL_r (blockL_r (thenL_r (thenL_r ?_)))))))))
          obtain rfl := someI h
          exact ⟨_, rfl, rfl, ⟨S30, rfl, rfl, (Cov.cons rfl (Cov.cons rfl (Cov.nil _))), hot0⟩⟩
        · have h := iteF q33 h
          refine WC.skip (thenL_n (WC.seq ?_))
          refine WC.drawN rfl rfl ?_
          have hot0z := hot0.oz
          refine WO.mv rfl (WO.mv rfl (WO.mv rfl (WO.mv rfl ?_)))
          refine WO.bin rfl rfl (by decide) (by decide) rfl ?_
          refine WO.mv rfl (WO.mv rfl ?_)
          refine WO.bin rfl rfl (by decide) (by decide) rfl ?_
          obtain ⟨x34, e35, h⟩ := bindS h
          refine WO.ixS rfl rfl hot0.slv (at?_lt e35) rfl ?_
          refine WO.ldF rfl hot0z (fun _ hi => hi.1) (at?_get e35) rfl rfl (limLe_self _) ?_
          refine WO.mv rfl (WO.mv rfl ?_)
          obtain ⟨x36, e37, h⟩ := bindS h
          refine WO.ixS rfl rfl hot0.slv (at?_lt e37) rfl ?_
          refine WO.ldF rfl hot0z (fun _ hi => hi.1) (at?_get e37) rfl rfl (limLe_self _) ?_
          obtain ⟨u38, e39, h⟩ := bindS h
          refine WO.ixS rfl rfl hot0.slv (ck_some e39) rfl ?_
          refine WO.stI (u' := x34) rfl rfl hot0 (ck_nat e39) rfl rfl (fun S40 c41 hot0 => ?_)
          obtain ⟨u42, e43, h⟩ := bindS h
          refine WO.ixS rfl rfl hot0.slv (ck_some e43) rfl ?_
          refine WO.stI (u' := x36) rfl rfl hot0 (ck_nat e43) rfl rfl (fun S44 c45 hot0 => ?_)
          refine WO.nil (thenL_n (WC.seq (WC.seq (WC.region (WO.mv rfl (WO.mv rfl ?_))))))
          refine WO.bin rfl rfl (by decide) (by decide) rfl ?_
          refine WO.bin rfl rfl (by decide) (by decide) rfl ?_
          refine WO.nil (thenL_n ?_)
          obtain ⟨b78, e79, h⟩ := bindS h
          refine WC.mono (Q' := (fun b e l' m' n' => e = .normal ∧ ∃ S80 : Cx fl, S80.m = m' ∧ S80.n = n' ∧ Cov l' [(0, .sc vt0), (1, .sc (.int .i64 t1)), (2, .sc (.int .i64 t2)), (3, .sc (.fn g [])), (9, .sc (.int .i64 b28)), (10, .sc (.int .i64 s1.2.1))] ∧ Iw Y3 S80 2 n bw m vt0 b) b78) ?_ ?_
          · have h := e79
            dsimp only at h ⊢
            refine WC.cond rfl (fun q46 => ?_) (fun q46 => ?_)
            · have h := iteT q46 h
              refine WC.seq (WC.region (WO.mv rfl ?_))
              refine WO.bin rfl rfl (by decide) (by decide) rfl ?_
              refine WO.asg rfl (WO.nil (thenL_n (WC.block ?_)))
              obtain ⟨b74, e75, h⟩ := bindS h
              refine WC.loopD e75 (fun s47 l' m' n' => ∃ S48 : Cx fl, S48.m = m' ∧ S48.n = n' ∧ Cov l' [(0, .sc vt0), (1, .sc (.int .i64 t1)), (2, .sc (.int .i64 t2)), (3, .sc (.fn g [])), (9, .sc (.int .i64 b28)), (10, .sc (.int .i64 s1.2.1)), (11, .sc (.int .i64 s47.1))] ∧ Iw Y3 S48 2 n bw m vt0 s47.2) (fun b e l' m' n' => e = .exit 4 ∧ ∃ S49 : Cx fl, S49.m = m' ∧ S49.n = n' ∧ Cov l' [(0, .sc vt0), (1, .sc (.int .i64 t1)), (2, .sc (.int .i64 t2)), (3, .sc (.fn g [])), (9, .sc (.int .i64 b28)), (10, .sc (.int .i64 s1.2.1))] ∧ Iw Y3 S49 2 n bw m vt0 b) (by exact ⟨S44, rfl, rfl, (Cov.cons rfl (Cov.cons rfl (Cov.cons rfl (Cov.cons rfl (Cov.cons rfl (Cov.cons rfl (Cov.cons rfl (Cov.nil _)))))))), hot0⟩) ?_ ?_
              · clear h
                rintro s47 q _ _ _ ⟨S50, rfl, rfl, hc51, hot0⟩ h
                unfold F174_111_l1 at h
                refine WC.cov hc51 (WC.seq (WC.seq (WC.region (WO.mv rfl ?_))))
                refine WO.bin rfl rfl (by decide) (by decide) rfl ?_
                refine WO.nil (thenL_n ?_)
                refine WC.cond rfl (fun q52 => ?_) (fun q52 => ?_)
                · have h := iteT q52 h
                  refine WC.skip (thenL_n (WC.seq (WC.block (WC.seq (WC.seq ?_)))))
                  refine WC.drawN rfl rfl ?_
                  have hot0z := hot0.oz
                  refine WO.mv rfl (WO.mv rfl (WO.mv rfl ?_))
                  obtain ⟨x53, e54, h⟩ := bindS h
                  refine WO.ixS rfl rfl hot0.slv (at?_lt e54) rfl ?_
                  refine WO.ldF rfl hot0z (fun _ hi => hi.1) (at?_get e54) rfl rfl (limLe_self _) ?_
                  refine WO.mv rfl (WO.mv rfl ?_)
                  refine WO.bin rfl rfl (by decide) (by decide) rfl ?_
                  obtain ⟨x55, e56, h⟩ := bindS h
                  refine WO.ixS rfl rfl hot0.slv (at?_lt e56) rfl ?_
                  refine WO.ldF rfl hot0z (fun _ hi => hi.1) (at?_get e56) rfl rfl (limLe_self _) ?_
                  obtain ⟨r57, e58, h⟩ := bindS h
                  refine WO.callE (S := S50) rfl rfl (hg e58) (fun S59 c60 => ?_)
                  have hot0z := hot0z.tow c60
                  have hot0 := hot0.to c60
                  refine WO.bin rfl rfl (by decide) (by decide) rfl ?_
                  refine WO.do rfl rfl ?_
                  refine WO.nil (thenL_n ?_)
                  refine WC.cond rfl (fun q61 => ?_) (fun q61 => ?_)
                  · have h := iteT q61 h
                    refine WC.exit (thenL_e (blockL_e rfl (thenL_e (thenL_e ?_))))
                    obtain rfl := someI h
                    exact ⟨_, rfl, rfl, ⟨S59, rfl, rfl, (Cov.cons rfl (Cov.cons rfl (Cov.cons rfl (Cov.cons rfl (Cov.cons rfl (Cov.cons rfl (Cov.nil _))))))), hot0⟩⟩
                  · have h := iteF q61 h
                    refine WC.skip (thenL_n ?_)
                    refine WC.drawN rfl rfl ?_
                    have hot0z := hot0.oz
                    refine WO.mv rfl (WO.mv rfl (WO.mv rfl (WO.mv rfl ?_)))
                    refine WO.bin rfl rfl (by decide) (by decide) rfl ?_
                    refine WO.mv rfl (WO.mv rfl ?_)
                    refine WO.bin rfl rfl (by decide) (by decide) rfl ?_
                    obtain ⟨x62, e63, h⟩ := bindS h
                    refine WO.ixS rfl rfl hot0.slv (at?_lt e63) rfl ?_
                    refine WO.ldF rfl hot0z (fun _ hi => hi.1) (at?_get e63) rfl rfl (limLe_self _) ?_
                    refine WO.mv rfl (WO.mv rfl ?_)
                    obtain ⟨x64, e65, h⟩ := bindS h
                    refine WO.ixS rfl rfl hot0.slv (at?_lt e65) rfl ?_
                    refine WO.ldF rfl hot0z (fun _ hi => hi.1) (at?_get e65) rfl rfl (limLe_self _) ?_
                    obtain ⟨u66, e67, h⟩ := bindS h
                    refine WO.ixS rfl rfl hot0.slv (ck_some e67) rfl ?_
                    refine WO.stI (u' := x62) rfl rfl hot0 (ck_nat e67) rfl rfl (fun S68 c69 hot0 => ?_)
                    obtain ⟨u70, e71, h⟩ := bindS h
                    refine WO.ixS rfl rfl hot0.slv (ck_some e71) rfl ?_
                    refine WO.stI (u' := x64) rfl rfl hot0 (ck_nat e71) rfl rfl (fun S72 c73 hot0 => ?_)
                    refine WO.nil (blockL_n (thenL_n (WC.region (WO.mv rfl ?_))))
                    refine WO.bin rfl rfl (by decide) (by decide) rfl ?_
                    refine WO.asg rfl (WO.nil (thenL_n ?_))
                    obtain rfl := someI h
                    exact ⟨_, rfl, ⟨S72, rfl, rfl, (Cov.cons rfl (Cov.cons rfl (Cov.cons rfl (Cov.cons rfl (Cov.cons rfl (Cov.cons rfl (Cov.cons rfl (Cov.nil _)))))))), hot0⟩⟩
                · have h := iteF q52 h
                  refine WC.exit (thenL_e (thenL_e ?_))
                  obtain rfl := someI h
                  exact ⟨_, rfl, rfl, ⟨S50, rfl, rfl, (Cov.cons rfl (Cov.cons rfl (Cov.cons rfl (Cov.cons rfl (Cov.cons rfl (Cov.cons rfl (Cov.nil _))))))), hot0⟩⟩
              rintro _ _ _ _ ⟨rfl, ⟨S76, rfl, rfl, hc77, hot0⟩⟩
              refine blockL_s ?_
              obtain rfl := someI h
              exact ⟨rfl, ⟨S76, rfl, rfl, (Cov.trans hc77 (Cov.cons rfl (Cov.cons rfl (Cov.cons rfl (Cov.cons rfl (Cov.cons rfl (Cov.cons rfl (Cov.nil _)))))))), hot0⟩⟩
            · have h := iteF q46 h
              refine WC.skip ?_
              obtain rfl := someI h
              exact ⟨rfl, ⟨S44, rfl, rfl, (Cov.cons rfl (Cov.cons rfl (Cov.cons rfl (Cov.cons rfl (Cov.cons rfl (Cov.cons rfl (Cov.nil _))))))), hot0⟩⟩
          dsimp only
          rintro _ _ _ _ ⟨rfl, ⟨S81, rfl, rfl, hc82, hot0⟩⟩
          refine thenL_n (WC.cov hc82 (WC.seq (WC.region (WO.mv rfl (WO.mv rfl ?_)))))
          refine WO.bin rfl rfl (by decide) (by decide) rfl ?_
          refine WO.bin rfl rfl (by decide) (by decide) rfl ?_
          refine WO.nil (thenL_n ?_)
          refine WC.cond rfl (fun q83 => ?_) (fun q83 => ?_)
          · have h := iteT q83 h
            refine WC.seq (WC.region (WO.mv rfl ?_))
            refine WO.bin rfl rfl (by decide) (by decide) rfl ?_
            refine WO.asg rfl (WO.nil (thenL_n (WC.block ?_)))
            obtain ⟨b111, e112, h⟩ := bindS h
            refine WC.loopD e112 (fun s84 l' m' n' => ∃ S85 : Cx fl, S85.m = m' ∧ S85.n = n' ∧ Cov l' [(0, .sc vt0), (1, .sc (.int .i64 t1)), (2, .sc (.int .i64 t2)), (3, .sc (.fn g [])), (9, .sc (.int .i64 b28)), (10, .sc (.int .i64 s1.2.1)), (12, .sc (.int .i64 s84.1))] ∧ Iw Y3 S85 2 n bw m vt0 s84.2) (fun b e l' m' n' => e = .exit 6 ∧ ∃ S86 : Cx fl, S86.m = m' ∧ S86.n = n' ∧ Cov l' [(0, .sc vt0), (1, .sc (.int .i64 t1)), (2, .sc (.int .i64 t2)), (3, .sc (.fn g [])), (9, .sc (.int .i64 b28)), (10, .sc (.int .i64 s1.2.1))] ∧ Iw Y3 S86 2 n bw m vt0 b) (by exact ⟨S81, rfl, rfl, (Cov.cons rfl (Cov.cons rfl (Cov.cons rfl (Cov.cons rfl (Cov.cons rfl (Cov.cons rfl (Cov.cons rfl (Cov.nil _)))))))), hot0⟩) ?_ ?_
            · clear h
              rintro s84 q _ _ _ ⟨S87, rfl, rfl, hc88, hot0⟩ h
              unfold F174_111_l2 at h
              refine WC.cov hc88 (WC.seq (WC.seq (WC.region (WO.mv rfl (WO.mv rfl ?_)))))
              refine WO.bin rfl rfl (by decide) (by decide) rfl ?_
              refine WO.nil (thenL_n ?_)
              refine WC.cond rfl (fun q89 => ?_) (fun q89 => ?_)
              · have h := iteT q89 h
                refine WC.skip (thenL_n (WC.seq (WC.block (WC.seq (WC.seq ?_)))))
                refine WC.drawN rfl rfl ?_
                have hot0z := hot0.oz
                refine WO.mv rfl (WO.mv rfl (WO.mv rfl ?_))
                obtain ⟨x90, e91, h⟩ := bindS h
                refine WO.ixS rfl rfl hot0.slv (at?_lt e91) rfl ?_
                refine WO.ldF rfl hot0z (fun _ hi => hi.1) (at?_get e91) rfl rfl (limLe_self _) ?_
                refine WO.mv rfl (WO.mv rfl ?_)
                refine WO.bin rfl rfl (by decide) (by decide) rfl ?_
                obtain ⟨x92, e93, h⟩ := bindS h
                refine WO.ixS rfl rfl hot0.slv (at?_lt e93) rfl ?_
                refine WO.ldF rfl hot0z (fun _ hi => hi.1) (at?_get e93) rfl rfl (limLe_self _) ?_
                obtain ⟨r94, e95, h⟩ := bindS h
                refine WO.callE (S := S87) rfl rfl (hg e95) (fun S96 c97 => ?_)
                have hot0z := hot0z.tow c97
                have hot0 := hot0.to c97
                refine WO.bin rfl rfl (by decide) (by decide) rfl ?_
                refine WO.do rfl rfl ?_
                refine WO.nil (thenL_n ?_)
                refine WC.cond rfl (fun q98 => ?_) (fun q98 => ?_)
                · have h := iteT q98 h
                  refine WC.exit (thenL_e (blockL_e rfl (thenL_e (thenL_e ?_))))
                  obtain rfl := someI h
                  exact ⟨_, rfl, rfl, ⟨S96, rfl, rfl, (Cov.cons rfl (Cov.cons rfl (Cov.cons rfl (Cov.cons rfl (Cov.cons rfl (Cov.cons rfl (Cov.nil _))))))), hot0⟩⟩
                · have h := iteF q98 h
                  refine WC.skip (thenL_n ?_)
                  refine WC.drawN rfl rfl ?_
                  have hot0z := hot0.oz
                  refine WO.mv rfl (WO.mv rfl (WO.mv rfl (WO.mv rfl ?_)))
                  refine WO.bin rfl rfl (by decide) (by decide) rfl ?_
                  refine WO.mv rfl (WO.mv rfl ?_)
                  refine WO.bin rfl rfl (by decide) (by decide) rfl ?_
                  obtain ⟨x99, e100, h⟩ := bindS h
                  refine WO.ixS rfl rfl hot0.slv (at?_lt e100) rfl ?_
                  refine WO.ldF rfl hot0z (fun _ hi => hi.1) (at?_get e100) rfl rfl (limLe_self _) ?_
                  refine WO.mv rfl (WO.mv rfl ?_)
                  obtain ⟨x101, e102, h⟩ := bindS h
                  refine WO.ixS rfl rfl hot0.slv (at?_lt e102) rfl ?_
                  refine WO.ldF rfl hot0z (fun _ hi => hi.1) (at?_get e102) rfl rfl (limLe_self _) ?_
                  obtain ⟨u103, e104, h⟩ := bindS h
                  refine WO.ixS rfl rfl hot0.slv (ck_some e104) rfl ?_
                  refine WO.stI (u' := x99) rfl rfl hot0 (ck_nat e104) rfl rfl (fun S105 c106 hot0 => ?_)
                  obtain ⟨u107, e108, h⟩ := bindS h
                  refine WO.ixS rfl rfl hot0.slv (ck_some e108) rfl ?_
                  refine WO.stI (u' := x101) rfl rfl hot0 (ck_nat e108) rfl rfl (fun S109 c110 hot0 => ?_)
                  refine WO.nil (blockL_n (thenL_n (WC.region (WO.mv rfl ?_))))
                  refine WO.bin rfl rfl (by decide) (by decide) rfl ?_
                  refine WO.asg rfl (WO.nil (thenL_n ?_))
                  obtain rfl := someI h
                  exact ⟨_, rfl, ⟨S109, rfl, rfl, (Cov.cons rfl (Cov.cons rfl (Cov.cons rfl (Cov.cons rfl (Cov.cons rfl (Cov.cons rfl (Cov.cons rfl (Cov.nil _)))))))), hot0⟩⟩
              · have h := iteF q89 h
                refine WC.exit (thenL_e (thenL_e ?_))
                obtain rfl := someI h
                exact ⟨_, rfl, rfl, ⟨S87, rfl, rfl, (Cov.cons rfl (Cov.cons rfl (Cov.cons rfl (Cov.cons rfl (Cov.cons rfl (Cov.cons rfl (Cov.nil _))))))), hot0⟩⟩
            rintro _ _ _ _ ⟨rfl, ⟨S113, rfl, rfl, hc114, hot0⟩⟩
            refine blockL_s (blockL_n (thenL_n (WC.cov hc114 (WC.region (WO.mv rfl ?_)))))
            refine WO.bin rfl rfl (by decide) (by decide) rfl ?_
            refine WO.asg rfl (WO.nil (thenL_n ?_))
            obtain rfl := someI h
            exact ⟨_, rfl, ⟨S113, rfl, rfl, (Cov.cons rfl (Cov.cons rfl (Cov.cons rfl (Cov.cons rfl (Cov.cons rfl (Cov.cons rfl (Cov.nil _))))))), hot0⟩⟩
          · have h := iteF q83 h
            refine WC.skip (blockL_n (thenL_n (WC.region (WO.mv rfl ?_))))
            refine WO.bin rfl rfl (by decide) (by decide) rfl ?_
            refine WO.asg rfl (WO.nil (thenL_n ?_))
            obtain rfl := someI h
            exact ⟨_, rfl, ⟨S81, rfl, rfl, (Cov.cons rfl (Cov.cons rfl (Cov.cons rfl (Cov.cons rfl (Cov.cons rfl (Cov.cons rfl (Cov.nil _))))))), hot0⟩⟩
    · have h := iteF q8 h
      refine WC.exit (thenL_e (thenL_e ?_))
      obtain rfl := someI h
      exact ⟨_, rfl, rfl, ⟨S6, rfl, rfl, (Cov.cons rfl (Cov.nil _)), hot0⟩⟩
  cases b115 with
  | inl b117 =>
    simp only at h
    rintro _ _ _ _ ⟨rfl, ⟨S118, rfl, rfl, hc119, hot0⟩⟩
    refine blockL_s (thenL_n (WC.cov hc119 (WC.seq (WC.region (WO.asg rfl (WO.nil (thenL_n (WC.ret ?_))))))))
    obtain rfl := someI h
    exact ⟨.inr rfl, _, _, rfl, rfl, ⟨rfl, hot0.ip Lay.flat_fl⟩⟩
  | inr b117 =>
    simp only at h
    rintro _ _ _ _ ⟨rfl, ⟨S120, rfl, rfl, hc121, hot0⟩⟩
    refine blockL_r (thenL_r ?_)
    obtain rfl := someI h
    exact ⟨.inr rfl, _, _, (resK_cov hc121 rfl), rfl, ⟨rfl, hot0.ip Lay.flat_fl⟩⟩
end Go.Proofs.Ytihmliblbhjlaaa

namespace Go.Proofs.Ytihmliblbhjlaaa
open Go.Am
theorem F175_111.fn : E.fn 175 = some ⟨90, (Try.f175.body.getD .skip), Try.f175.results.toList, []⟩ := rfl
theorem F175_111_ok {g : Nat} (hg : Cp g) {F : Nat} {m : Mem} {n : Nat} {r : Int × (List Int)} {t0 : List Int} {t1 : Int} {t2 : Int} {t3 : Int} {vt0 : SV} {fl : Nat} {bw : Nat} (h : F175_111 F t0 t1 t2 t3 = some r) (hfl : fl ≤ n) (kt0 : Iv Y3 fl n bw m vt0 t0) : Ret E fl 175 [.sc vt0, .sc (.int .i64 t1), .sc (.int .i64 t2), .sc (.int .i64 t3), .sc (.fn g [])] m n (fun v m' n' => v = .sc (.int .i64 r.1) ∧ Ip Y3 n bw m m' vt0 r.2) := by
  unfold F175_111 at h
  refine Ret.walk F175_111.fn ?_
  refine WC.startI (b := bw) hfl fun S0 em en hz hbw => ?_
  have hot0 := kt0.iw em en hz hbw
  refine WC.seq (WC.region (WO.asg rfl (WO.nil (thenL_n (WC.seq ?_)))))
  refine WC.drawN rfl rfl ?_
  have hot0z := hot0.oz
  refine WO.mv rfl (WO.mv rfl (WO.mv rfl (WO.mv rfl (WO.mv rfl (WO.mv rfl ?_)))))
  obtain ⟨x1, e2, h⟩ := bindS h
  refine WO.ixS rfl rfl hot0.slv (at?_lt e2) rfl ?_
  refine WO.ldF rfl hot0z (fun _ hi => hi.1) (at?_get e2) rfl rfl (limLe_self _) ?_
  refine WO.mv rfl (WO.mv rfl ?_)
  obtain ⟨x3, e4, h⟩ := bindS h
  refine WO.ixS rfl rfl hot0.slv (at?_lt e4) rfl ?_
  refine WO.ldF rfl hot0z (fun _ hi => hi.1) (at?_get e4) rfl rfl (limLe_self _) ?_
  obtain ⟨u5, e6, h⟩ := bindS h
  refine WO.ixS rfl rfl hot0.slv (ck_some e6) rfl ?_
  refine WO.stI (u' := x1) rfl rfl hot0 (ck_nat e6) rfl rfl (fun S7 c8 hot0 => ?_)
  obtain ⟨u9, e10, h⟩ := bindS h
  refine WO.ixS rfl rfl hot0.slv (ck_some e10) rfl ?_
  refine WO.stI (u' := x3) rfl rfl hot0 (ck_nat e10) rfl rfl (fun S11 c12 hot0 => ?_)
  refine WO.nil (thenL_n (WC.seq (WC.region (WO.mv rfl ?_))))
  refine WO.bin rfl rfl (by decide) (by decide) rfl ?_
  refine WO.mv rfl ?_
  refine WO.bin rfl rfl (by decide) (by decide) rfl ?_
  refine WO.asg rfl (WO.asg rfl (WO.nil (thenL_n (WC.seq (WC.block ?_)))))
  obtain ⟨b77, e78, h⟩ := bindS h
  refine WC.loopD e78 (fun s13 l' m' n' => ∃ S14 : Cx fl, S14.m = m' ∧ S14.n = n' ∧ Cov l' [(0, .sc vt0), (1, .sc (.int .i64 t1)), (4, .sc (.fn g [])), (11, .sc (.int .i64 s13.1)), (12, .sc (.int .i64 s13.2.1))] ∧ Iw Y3 S14 2 n bw m vt0 s13.2.2) (fun b e l' m' n' => e = .exit 0 ∧ ∃ S15 : Cx fl, S15.m = m' ∧ S15.n = n' ∧ Cov l' [(0, .sc vt0), (11, .sc (.int .i64 b.1))] ∧ Iw Y3 S15 2 n bw m vt0 b.2) (by exact ⟨S11, rfl, rfl, (Cov.cons rfl (Cov.cons rfl (Cov.cons rfl (Cov.cons rfl (Cov.cons rfl (Cov.nil _)))))), hot0⟩) ?_ ?_
  · clear h
    rintro s13 q _ _ _ ⟨S16, rfl, rfl, hc17, hot0⟩ h
    unfold F175_111_l2 at h
    refine WC.cov hc17 (WC.block (WC.seq (WC.block ?_)))
    obtain ⟨b37, e38, h⟩ := bindS h
    refine WC.loopD e38 (fun s18 l' m' n' => ∃ S19 : Cx fl, S19.m = m' ∧ S19.n = n' ∧ Cov l' [(0, .sc vt0), (1, .sc (.int .i64 t1)), (4, .sc (.fn g [])), (11, .sc (.int .i64 s18)), (12, .sc (.int .i64 s13.2.1))] ∧ Iw Y3 S19 2 n bw m vt0 s13.2.2) (fun b e l' m' n' => e = .exit 2 ∧ ∃ S20 : Cx fl, S20.m = m' ∧ S20.n = n' ∧ Cov l' [(0, .sc vt0), (1, .sc (.int .i64 t1)), (4, .sc (.fn g [])), (11, .sc (.int .i64 b)), (12, .sc (.int .i64 s13.2.1))] ∧ Iw Y3 S20 2 n bw m vt0 s13.2.2) (by exact ⟨S16, rfl, rfl, (Cov.cons rfl (Cov.cons rfl (Cov.cons rfl (Cov.cons rfl (Cov.cons rfl (Cov.nil _)))))), hot0⟩) ?_ ?_
    · clear h
      rintro s18 q _ _ _ ⟨S21, rfl, rfl, hc22, hot0⟩ h
      unfold F175_111_l0 at h
      refine WC.cov hc22 (WC.seq (WC.seq ?_))
      refine WC.drawN rfl rfl ?_
      have hot0z := hot0.oz
      refine WO.mv rfl (WO.mv rfl ?_)
      refine WO.bin rfl rfl (by decide) (by decide) rfl ?_
      refine WO.mv rfl ?_
      obtain ⟨y32, e33, h⟩ := bindS h
      refine WO.cutS (d := 47) (S := S21) 13 y32 (fun q31 => ?_) (fun q31 => ?_) (fun S34 c35 => ?_)
      · have h := e33
        have h := iteT q31 h
        refine WO.gyes rfl rfl (WO.mv rfl (WO.gyes rfl rfl (WO.mv rfl (WO.gyes rfl rfl (WO.mv rfl (WO.gyes rfl rfl ?_))))))
        obtain ⟨x23, e24, h⟩ := bindS h
        refine WO.ixS rfl rfl hot0.slv (at?_lt e24) rfl ?_
        refine WO.gyes rfl rfl ?_
        refine WO.ldF rfl hot0z (fun _ hi => hi.1) (at?_get e24) rfl rfl (limLe_self _) ?_
        refine WO.gyes rfl rfl (WO.mv rfl (WO.gyes rfl rfl (WO.mv rfl (WO.gyes rfl rfl ?_))))
        obtain ⟨x25, e26, h⟩ := bindS h
        refine WO.ixS rfl rfl hot0.slv (at?_lt e26) rfl ?_
        refine WO.gyes rfl rfl ?_
        refine WO.ldF rfl hot0z (fun _ hi => hi.1) (at?_get e26) rfl rfl (limLe_self _) ?_
        refine WO.gyes rfl rfl ?_
        obtain ⟨r27, e28, h⟩ := bindS h
        refine WO.callE (S := S21) rfl rfl (hg e28) (fun S29 c30 => ?_)
        have hot0z := hot0z.tow c30
        have hot0 := hot0.to c30
        refine WO.gyes rfl rfl ?_
        refine WO.bin rfl rfl (by decide) (by decide) rfl ?_
        refine WO.gyes rfl rfl ?_
        refine WO.do rfl rfl ?_
        obtain rfl := someI h
        refine WO.pickT rfl rfl ?_
        refine WO.nil ?_
        exact ⟨S29, rfl, rfl, c30, (Cov.cons rfl (Cov.skip rfl (Cov.skip rfl (Cov.skip rfl (Cov.skip rfl (Cov.skip rfl (Cov.skip rfl (Cov.skip rfl (Cov.skip rfl (Cov.skip rfl (Cov.skip rfl (Cov.skip rfl (Cov.skip rfl (Cov.skip rfl (Cov.skip rfl (Cov.refl _))))))))))))))))⟩
      · have h := e33
        have h := iteF q31 h
        obtain rfl := someI h
        refine WO.gno rfl rfl (WO.gno rfl rfl (WO.gno rfl rfl (WO.gno rfl rfl (WO.gno rfl rfl (WO.gno rfl rfl (WO.gno rfl rfl (WO.gno rfl rfl (WO.gno rfl rfl (WO.gno rfl rfl ?_)))))))))
        refine WO.gno rfl rfl (WO.gno rfl rfl ?_)
        refine WO.pickF rfl rfl ?_
        refine WO.nil ?_
        exact ⟨S21, rfl, rfl, Ch.refl _ _, (Cov.cons rfl (Cov.skip rfl (Cov.skip rfl (Cov.skip rfl (Cov.skip rfl (Cov.skip rfl (Cov.skip rfl (Cov.skip rfl (Cov.skip rfl (Cov.skip rfl (Cov.skip rfl (Cov.skip rfl (Cov.skip rfl (Cov.skip rfl (Cov.skip rfl (Cov.refl _))))))))))))))))⟩
      have hot0z := hot0z.tow c35
      have hot0 := hot0.to c35
      refine WO.nil (thenL_n ?_)
      refine WC.cond rfl (fun q36 => ?_) (fun q36 => ?_)
      · have h := iteT q36 h
        refine WC.skip (thenL_n (WC.block (WC.region (WO.mv rfl ?_))))
        refine WO.bin rfl rfl (by decide) (by decide) rfl ?_
        refine WO.asg rfl (WO.nil (blockL_n (thenL_n ?_)))
        obtain rfl := someI h
        exact ⟨_, rfl, ⟨S34, rfl, rfl, (Cov.cons rfl (Cov.cons rfl (Cov.cons rfl (Cov.cons rfl (Cov.cons rfl (Cov.nil _)))))), hot0⟩⟩
      · have h := iteF q36 h
        refine WC.exit (thenL_e (thenL_e ?_))
        obtain rfl := someI h
        exact ⟨_, rfl, rfl, ⟨S34, rfl, rfl, (Cov.cons rfl (Cov.cons rfl (Cov.cons rfl (Cov.cons rfl (Cov.cons rfl (Cov.nil _)))))), hot0⟩⟩
    rintro _ _ _ _ ⟨rfl, ⟨S39, rfl, rfl, hc40, hot0⟩⟩
    refine blockL_s (thenL_n (WC.cov hc40 (WC.seq (WC.block ?_))))
    obtain ⟨b60, e61, h⟩ := bindS h
    refine WC.loopD e61 (fun s41 l' m' n' => ∃ S42 : Cx fl, S42.m = m' ∧ S42.n = n' ∧ Cov l' [(0, .sc vt0), (1, .sc (.int .i64 t1)), (4, .sc (.fn g [])), (11, .sc (.int .i64 b37)), (12, .sc (.int .i64 s41))] ∧ Iw Y3 S42 2 n bw m vt0 s13.2.2) (fun b e l' m' n' => e = .exit 4 ∧ ∃ S43 : Cx fl, S43.m = m' ∧ S43.n = n' ∧ Cov l' [(0, .sc vt0), (1, .sc (.int .i64 t1)), (4, .sc (.fn g [])), (11, .sc (.int .i64 b37)), (12, .sc (.int .i64 b))] ∧ Iw Y3 S43 2 n bw m vt0 s13.2.2) (by exact ⟨S39, rfl, rfl, (Cov.cons rfl (Cov.cons rfl (Cov.cons rfl (Cov.cons rfl (Cov.cons rfl (Cov.nil _)))))), hot0⟩) ?_ ?_
    · clear h
      rintro s41 q _ _ _ ⟨S44, rfl, rfl, hc45, hot0⟩ h
      unfold F175_111_l1 at h
      refine WC.cov hc45 (WC.seq (WC.seq ?_))
      refine WC.drawN rfl rfl ?_
      have hot0z := hot0.oz
      refine WO.mv rfl (WO.mv rfl ?_)
      refine WO.bin rfl rfl (by decide) (by decide) rfl ?_
      refine WO.mv rfl ?_
      obtain ⟨y55, e56, h⟩ := bindS h
      refine WO.cutS (d := 65) (S := S44) 12 y55 (fun q54 => ?_) (fun q54 => ?_) (fun S57 c58 => ?_)
      · have h := e56
        have h := iteT q54 h
        refine WO.gyes rfl rfl (WO.mv rfl (WO.gyes rfl rfl (WO.mv rfl (WO.gyes rfl rfl (WO.mv rfl (WO.gyes rfl rfl ?_))))))
        obtain ⟨x46, e47, h⟩ := bindS h
        refine WO.ixS rfl rfl hot0.slv (at?_lt e47) rfl ?_
        refine WO.gyes rfl rfl ?_
        refine WO.ldF rfl hot0z (fun _ hi => hi.1) (at?_get e47) rfl rfl (limLe_self _) ?_
        refine WO.gyes rfl rfl (WO.mv rfl (WO.gyes rfl rfl (WO.mv rfl (WO.gyes rfl rfl ?_))))
        obtain ⟨x48, e49, h⟩ := bindS h
        refine WO.ixS rfl rfl hot0.slv (at?_lt e49) rfl ?_
        refine WO.gyes rfl rfl ?_
        refine WO.ldF rfl hot0z (fun _ hi => hi.1) (at?_get e49) rfl rfl (limLe_self _) ?_
        refine WO.gyes rfl rfl ?_
        obtain ⟨r50, e51, h⟩ := bindS h
        refine WO.callE (S := S44) rfl rfl (hg e51) (fun S52 c53 => ?_)
        have hot0z := hot0z.tow c53
        have hot0 := hot0.to c53
        refine WO.gyes rfl rfl ?_
        refine WO.bin rfl rfl (by decide) (by decide) rfl ?_
        obtain rfl := someI h
        refine WO.pickT rfl rfl ?_
        refine WO.nil ?_
        exact ⟨S52, rfl, rfl, c53, (Cov.cons rfl (Cov.skip rfl (Cov.skip rfl (Cov.skip rfl (Cov.skip rfl (Cov.skip rfl (Cov.skip rfl (Cov.skip rfl (Cov.skip rfl (Cov.skip rfl (Cov.skip rfl (Cov.skip rfl (Cov.skip rfl (Cov.skip rfl (Cov.refl _)))))))))))))))⟩
      · have h := e56
        have h := iteF q54 h
        obtain rfl := someI h
        refine WO.gno rfl rfl (WO.gno rfl rfl (WO.gno rfl rfl (WO.gno rfl rfl (WO.gno rfl rfl (WO.gno rfl rfl (WO.gno rfl rfl (WO.gno rfl rfl (WO.gno rfl rfl (WO.gno rfl rfl ?_)))))))))
        refine WO.gno rfl rfl ?_
        refine WO.pickF rfl rfl ?_
        refine WO.nil ?_
        exact ⟨S44, rfl, rfl, Ch.refl _ _, (Cov.cons rfl (Cov.skip rfl (Cov.skip rfl (Cov.skip rfl (Cov.skip rfl (Cov.skip rfl (Cov.skip rfl (Cov.skip rfl (Cov.skip rfl (Cov.skip rfl (Cov.skip rfl (Cov.skip rfl (Cov.skip rfl (Cov.skip rfl (Cov.refl _)))))))))))))))⟩
      have hot0z := hot0z.tow c58
      have hot0 := hot0.to c58
      refine WO.nil (thenL_n ?_)
      refine WC.cond rfl (fun q59 => ?_) (fun q59 => ?_)
      · have h := iteT q59 h
        refine WC.skip (thenL_n (WC.block (WC.region (WO.mv rfl ?_))))
        refine WO.bin rfl rfl (by decide) (by decide) rfl ?_
        refine WO.asg rfl (WO.nil (blockL_n (thenL_n ?_)))
        obtain rfl := someI h
        exact ⟨_, rfl, ⟨S57, rfl, rfl, (Cov.cons rfl (Cov.cons rfl (Cov.cons rfl (Cov.cons rfl (Cov.cons rfl (Cov.nil _)))))), hot0⟩⟩
      · have h := iteF q59 h
        refine WC.exit (thenL_e (thenL_e ?_))
        obtain rfl := someI h
        exact ⟨_, rfl, rfl, ⟨S57, rfl, rfl, (Cov.cons rfl (Cov.cons rfl (Cov.cons rfl (Cov.cons rfl (Cov.cons rfl (Cov.nil _)))))), hot0⟩⟩
    rintro _ _ _ _ ⟨rfl, ⟨S62, rfl, rfl, hc63, hot0⟩⟩
    refine blockL_s (thenL_n (WC.cov hc63 (WC.seq (WC.seq (WC.region (WO.mv rfl (WO.mv rfl ?_)))))))
    refine WO.bin rfl rfl (by decide) (by decide) rfl ?_
    refine WO.nil (thenL_n ?_)
    refine WC.cond rfl (fun q64 => ?_) (fun q64 => ?_)
    · have h := iteT q64 h
      refine WC.exit (thenL_e (blockL_e rfl (thenL_e ?_)))
      obtain rfl := someI h
      exact ⟨_, rfl, rfl, ⟨S62, rfl, rfl, (Cov.cons rfl (Cov.cons rfl (Cov.nil _))), hot0⟩⟩
    · have h := iteF q64 h
      refine WC.skip (thenL_n (WC.seq ?_))
      refine WC.drawN rfl rfl ?_
      have hot0z := hot0.oz
      refine WO.mv rfl (WO.mv rfl (WO.mv rfl (WO.mv rfl (WO.mv rfl (WO.mv rfl ?_)))))
      obtain ⟨x65, e66, h⟩ := bindS h
      refine WO.ixS rfl rfl hot0.slv (at?_lt e66) rfl ?_
      refine WO.ldF rfl hot0z (fun _ hi => hi.1) (at?_get e66) rfl rfl (limLe_self _) ?_
      refine WO.mv rfl (WO.mv rfl ?_)
      obtain ⟨x67, e68, h⟩ := bindS h
      refine WO.ixS rfl rfl hot0.slv (at?_lt e68) rfl ?_
      refine WO.ldF rfl hot0z (fun _ hi => hi.1) (at?_get e68) rfl rfl (limLe_self _) ?_
      obtain ⟨u69, e70, h⟩ := bindS h
      refine WO.ixS rfl rfl hot0.slv (ck_some e70) rfl ?_
      refine WO.stI (u' := x65) rfl rfl hot0 (ck_nat e70) rfl rfl (fun S71 c72 hot0 => ?_)
      obtain ⟨u73, e74, h⟩ := bindS h
      refine WO.ixS rfl rfl hot0.slv (ck_some e74) rfl ?_
      refine WO.stI (u' := x67) rfl rfl hot0 (ck_nat e74) rfl rfl (fun S75 c76 hot0 => ?_)
      refine WO.nil (thenL_n (WC.seq (WC.region (WO.mv rfl ?_))))
      refine WO.bin rfl rfl (by decide) (by decide) rfl ?_
      refine WO.asg rfl (WO.nil (thenL_n (WC.region (WO.mv rfl ?_))))
      refine WO.bin rfl rfl (by decide) (by decide) rfl ?_
      refine WO.asg rfl (WO.nil (blockL_n (thenL_n ?_)))
      obtain rfl := someI h
      exact ⟨_, rfl, ⟨S75, rfl, rfl, (Cov.cons rfl (Cov.cons rfl (Cov.cons rfl (Cov.cons rfl (Cov.cons rfl (Cov.nil _)))))), hot0⟩⟩
  rintro _ _ _ _ ⟨rfl, ⟨S79, rfl, rfl, hc80, hot0⟩⟩
  refine blockL_s (thenL_n (WC.cov hc80 (WC.seq (WC.region (WO.mv rfl (WO.asg rfl (WO.nil (thenL_n (WC.ret ?_)))))))))
  obtain rfl := someI h
  exact ⟨.inr rfl, _, _, rfl, rfl, ⟨rfl, hot0.ip Lay.flat_fl⟩⟩
end Go.Proofs.Ytihmliblbhjlaaa

namespace Go.Proofs.Ytihmliblbhjlaaa
open Go.Am
theorem F176_111.fn : E.fn 176 = some ⟨178, (Try.f176.body.getD .skip), Try.f176.results.toList, []⟩ := rfl
theorem F176_111_ok {g : Nat} (hg : Cp g) {F : Nat} {m : Mem} {n : Nat} {r : Int × Bool × (List Int)} {t0 : List Int} {t1 : Int} {t2 : Int} {t3 : Int} {vt0 : SV} {fl : Nat} {bw : Nat} (h : F176_111 F t0 t1 t2 t3 = some r) (hfl : fl ≤ n) (kt0 : Iv Y3 fl n bw m vt0 t0) : Ret E fl 176 [.sc vt0, .sc (.int .i64 t1), .sc (.int .i64 t2), .sc (.int .i64 t3), .sc (.fn g [])] m n (fun v m' n' => v = .tup [.sc (.int .i64 r.1), .sc (.bool r.2.1)] ∧ Ip Y3 n bw m m' vt0 r.2.2) := by
  unfold F176_111 at h
  refine Ret.walk F176_111.fn ?_
  refine WC.startI (b := bw) hfl fun S0 em en hz hbw => ?_
  have hot0 := kt0.iw em en hz hbw
  refine WC.seq (WC.region (WO.asg rfl (WO.asg rfl (WO.nil (thenL_n (WC.seq ?_))))))
  refine WC.drawN rfl rfl ?_
  have hot0z := hot0.oz
  refine WO.mv rfl (WO.mv rfl (WO.mv rfl (WO.mv rfl (WO.mv rfl (WO.mv rfl ?_)))))
  obtain ⟨x1, e2, h⟩ := bindS h
  refine WO.ixS rfl rfl hot0.slv (at?_lt e2) rfl ?_
  refine WO.ldF rfl hot0z (fun _ hi => hi.1) (at?_get e2) rfl rfl (limLe_self _) ?_
  refine WO.mv rfl (WO.mv rfl ?_)
  obtain ⟨x3, e4, h⟩ := bindS h
  refine WO.ixS rfl rfl hot0.slv (at?_lt e4) rfl ?_
  refine WO.ldF rfl hot0z (fun _ hi => hi.1) (at?_get e4) rfl rfl (limLe_self _) ?_
  obtain ⟨u5, e6, h⟩ := bindS h
  refine WO.ixS rfl rfl hot0.slv (ck_some e6) rfl ?_
  refine WO.stI (u' := x1) rfl rfl hot0 (ck_nat e6) rfl rfl (fun S7 c8 hot0 => ?_)
  obtain ⟨u9, e10, h⟩ := bindS h
  refine WO.ixS rfl rfl hot0.slv (ck_some e10) rfl ?_
  refine WO.stI (u' := x3) rfl rfl hot0 (ck_nat e10) rfl rfl (fun S11 c12 hot0 => ?_)
  refine WO.nil (thenL_n (WC.seq (WC.region (WO.mv rfl ?_))))
  refine WO.bin rfl rfl (by decide) (by decide) rfl ?_
  refine WO.mv rfl ?_
  refine WO.bin rfl rfl (by decide) (by decide) rfl ?_
  refine WO.asg rfl (WO.asg rfl (WO.nil (thenL_n (WC.seq (WC.block ?_)))))
  obtain ⟨b32, e33, h⟩ := bindS h
  refine WC.loopD e33 (fun s13 l' m' n' => ∃ S14 : Cx fl, S14.m = m' ∧ S14.n = n' ∧ Cov l' [(0, .sc vt0), (1, .sc (.int .i64 t1)), (4, .sc (.fn g [])), (12, .sc (.int .i64 s13)), (13, .sc (.int .i64 ((wrapA .i64 (t2 - 1)))))] ∧ Iw Y3 S14 2 n bw m vt0 ((((t0.set ((Int.toNat t1)) x1)).set ((Int.toNat t3)) x3))) (fun b e l' m' n' => e = .exit 0 ∧ ∃ S15 : Cx fl, S15.m = m' ∧ S15.n = n' ∧ Cov l' [(0, .sc vt0), (1, .sc (.int .i64 t1)), (4, .sc (.fn g [])), (12, .sc (.int .i64 b)), (13, .sc (.int .i64 ((wrapA .i64 (t2 - 1)))))] ∧ Iw Y3 S15 2 n bw m vt0 ((((t0.set ((Int.toNat t1)) x1)).set ((Int.toNat t3)) x3))) (by exact ⟨S11, rfl, rfl, (Cov.cons rfl (Cov.cons rfl (Cov.cons rfl (Cov.cons rfl (Cov.cons rfl (Cov.nil _)))))), hot0⟩) ?_ ?_
  · clear h
    rintro s13 q _ _ _ ⟨S16, rfl, rfl, hc17, hot0⟩ h
    unfold F176_111_l0 at h
    refine WC.cov hc17 (WC.seq (WC.seq ?_))
    refine WC.drawN rfl rfl ?_
    have hot0z := hot0.oz
    refine WO.mv rfl (WO.mv rfl ?_)
    refine WO.bin rfl rfl (by decide) (by decide) rfl ?_
    refine WO.mv rfl ?_
    obtain ⟨y27, e28, h⟩ := bindS h
    refine WO.cutS (d := 47) (S := S16) 12 y27 (fun q26 => ?_) (fun q26 => ?_) (fun S29 c30 => ?_)
    · have h := e28
      have h := iteT q26 h
      refine WO.gyes rfl rfl (WO.mv rfl (WO.gyes rfl rfl (WO.mv rfl (WO.gyes rfl rfl (WO.mv rfl (WO.gyes rfl rfl ?_))))))
      obtain ⟨x18, e19, h⟩ := bindS h
      refine WO.ixS rfl rfl hot0.slv (at?_lt e19) rfl ?_
      refine WO.gyes rfl rfl ?_
      refine WO.ldF rfl hot0z (fun _ hi => hi.1) (at?_get e19) rfl rfl (limLe_self _) ?_
      refine WO.gyes rfl rfl (WO.mv rfl (WO.gyes rfl rfl (WO.mv rfl (WO.gyes rfl rfl ?_))))
      obtain ⟨x20, e21, h⟩ := bindS h
      refine WO.ixS rfl rfl hot0.slv (at?_lt e21) rfl ?_
      refine WO.gyes rfl rfl ?_
      refine WO.ldF rfl hot0z (fun _ hi => hi.1) (at?_get e21) rfl rfl (limLe_self _) ?_
      refine WO.gyes rfl rfl ?_
      obtain ⟨r22, e23, h⟩ := bindS h
      refine WO.callE (S := S16) rfl rfl (hg e23) (fun S24 c25 => ?_)
      have hot0z := hot0z.tow c25
      have hot0 := hot0.to c25
      refine WO.gyes rfl rfl ?_
      refine WO.bin rfl rfl (by decide) (by decide) rfl ?_
      obtain rfl := someI h
      refine WO.pickT rfl rfl ?_
      refine WO.nil ?_
      exact ⟨S24, rfl, rfl, c25, (Cov.cons rfl (Cov.skip rfl (Cov.skip rfl (Cov.skip rfl (Cov.skip rfl (Cov.skip rfl (Cov.skip rfl (Cov.skip rfl (Cov.skip rfl (Cov.skip rfl (Cov.skip rfl (Cov.skip rfl (Cov.skip rfl (Cov.skip rfl (Cov.refl _)))))))))))))))⟩
    · have h := e28
      have h := iteF q26 h
      obtain rfl := someI h
      refine WO.gno rfl rfl (WO.gno rfl rfl (WO.gno rfl rfl (WO.gno rfl rfl (WO.gno rfl rfl (WO.gno rfl rfl (WO.gno rfl rfl (WO.gno rfl rfl (WO.gno rfl rfl (WO.gno rfl rfl ?_)))))))))
      refine WO.gno rfl rfl ?_
      refine WO.pickF rfl rfl ?_
      refine WO.nil ?_
      exact ⟨S16, rfl, rfl, Ch.refl _ _, (Cov.cons rfl (Cov.skip rfl (Cov.skip rfl (Cov.skip rfl (Cov.skip rfl (Cov.skip rfl (Cov.skip rfl (Cov.skip rfl (Cov.skip rfl (Cov.skip rfl (Cov.skip rfl (Cov.skip rfl (Cov.skip rfl (Cov.skip rfl (Cov.refl _)))))))))))))))⟩
    have hot0z := hot0z.tow c30
    have hot0 := hot0.to c30
    refine WO.nil (thenL_n ?_)
    refine WC.cond rfl (fun q31 => ?_) (fun q31 => ?_)
    · have h := iteT q31 h
      refine WC.skip (thenL_n (WC.block (WC.region (WO.mv rfl ?_))))
      refine WO.bin rfl rfl (by decide) (by decide) rfl ?_
      refine WO.asg rfl (WO.nil (blockL_n (thenL_n ?_)))
      obtain rfl := someI h
      exact ⟨_, rfl, ⟨S29, rfl, rfl, (Cov.cons rfl (Cov.cons rfl (Cov.cons rfl (Cov.cons rfl (Cov.cons rfl (Cov.nil _)))))), hot0⟩⟩
    · have h := iteF q31 h
      refine WC.exit (thenL_e (thenL_e ?_))
      obtain rfl := someI h
      exact ⟨_, rfl, rfl, ⟨S29, rfl, rfl, (Cov.cons rfl (Cov.cons rfl (Cov.cons rfl (Cov.cons rfl (Cov.cons rfl (Cov.nil _)))))), hot0⟩⟩
  rintro _ _ _ _ ⟨rfl, ⟨S34, rfl, rfl, hc35, hot0⟩⟩
  refine blockL_s (thenL_n (WC.cov hc35 (WC.seq (WC.block ?_))))
  obtain ⟨b55, e56, h⟩ := bindS h
  refine WC.loopD e56 (fun s36 l' m' n' => ∃ S37 : Cx fl, S37.m = m' ∧ S37.n = n' ∧ Cov l' [(0, .sc vt0), (1, .sc (.int .i64 t1)), (4, .sc (.fn g [])), (12, .sc (.int .i64 b32)), (13, .sc (.int .i64 s36))] ∧ Iw Y3 S37 2 n bw m vt0 ((((t0.set ((Int.toNat t1)) x1)).set ((Int.toNat t3)) x3))) (fun b e l' m' n' => e = .exit 2 ∧ ∃ S38 : Cx fl, S38.m = m' ∧ S38.n = n' ∧ Cov l' [(0, .sc vt0), (1, .sc (.int .i64 t1)), (4, .sc (.fn g [])), (12, .sc (.int .i64 b32)), (13, .sc (.int .i64 b))] ∧ Iw Y3 S38 2 n bw m vt0 ((((t0.set ((Int.toNat t1)) x1)).set ((Int.toNat t3)) x3))) (by exact ⟨S34, rfl, rfl, (Cov.cons rfl (Cov.cons rfl (Cov.cons rfl (Cov.cons rfl (Cov.cons rfl (Cov.nil _)))))), hot0⟩) ?_ ?_
  · clear h
    rintro s36 q _ _ _ ⟨S39, rfl, rfl, hc40, hot0⟩ h
    unfold F176_111_l1 at h
    refine WC.cov hc40 (WC.seq (WC.seq ?_))
    refine WC.drawN rfl rfl ?_
    have hot0z := hot0.oz
    refine WO.mv rfl (WO.mv rfl ?_)
    refine WO.bin rfl rfl (by decide) (by decide) rfl ?_
    refine WO.mv rfl ?_
    obtain ⟨y50, e51, h⟩ := bindS h
    refine WO.cutS (d := 66) (S := S39) 13 y50 (fun q49 => ?_) (fun q49 => ?_) (fun S52 c53 => ?_)
    · have h := e51
      have h := iteT q49 h
      refine WO.gyes rfl rfl (WO.mv rfl (WO.gyes rfl rfl (WO.mv rfl (WO.gyes rfl rfl (WO.mv rfl (WO.gyes rfl rfl ?_))))))
      obtain ⟨x41, e42, h⟩ := bindS h
      refine WO.ixS rfl rfl hot0.slv (at?_lt e42) rfl ?_
      refine WO.gyes rfl rfl ?_
      refine WO.ldF rfl hot0z (fun _ hi => hi.1) (at?_get e42) rfl rfl (limLe_self _) ?_
      refine WO.gyes rfl rfl (WO.mv rfl (WO.gyes rfl rfl (WO.mv rfl (WO.gyes rfl rfl ?_))))
      obtain ⟨x43, e44, h⟩ := bindS h
      refine WO.ixS rfl rfl hot0.slv (at?_lt e44) rfl ?_
      refine WO.gyes rfl rfl ?_
      refine WO.ldF rfl hot0z (fun _ hi => hi.1) (at?_get e44) rfl rfl (limLe_self _) ?_
      refine WO.gyes rfl rfl ?_
      obtain ⟨r45, e46, h⟩ := bindS h
      refine WO.callE (S := S39) rfl rfl (hg e46) (fun S47 c48 => ?_)
      have hot0z := hot0z.tow c48
      have hot0 := hot0.to c48
      refine WO.gyes rfl rfl ?_
      refine WO.bin rfl rfl (by decide) (by decide) rfl ?_
      refine WO.gyes rfl rfl ?_
      refine WO.do rfl rfl ?_
      obtain rfl := someI h
      refine WO.pickT rfl rfl ?_
      refine WO.nil ?_
      exact ⟨S47, rfl, rfl, c48, (Cov.cons rfl (Cov.skip rfl (Cov.skip rfl (Cov.skip rfl (Cov.skip rfl (Cov.skip rfl (Cov.skip rfl (Cov.skip rfl (Cov.skip rfl (Cov.skip rfl (Cov.skip rfl (Cov.skip rfl (Cov.skip rfl (Cov.skip rfl (Cov.skip rfl (Cov.refl _))))))))))))))))⟩
    · have h := e51
      have h := iteF q49 h
      obtain rfl := someI h
      refine WO.gno rfl rfl (WO.gno rfl rfl (WO.gno rfl rfl (WO.gno rfl rfl (WO.gno rfl rfl (WO.gno rfl rfl (WO.gno rfl rfl (WO.gno rfl rfl (WO.gno rfl rfl (WO.gno rfl rfl ?_)))))))))
      refine WO.gno rfl rfl (WO.gno rfl rfl ?_)
      refine WO.pickF rfl rfl ?_
      refine WO.nil ?_
      exact ⟨S39, rfl, rfl, Ch.refl _ _, (Cov.cons rfl (Cov.skip rfl (Cov.skip rfl (Cov.skip rfl (Cov.skip rfl (Cov.skip rfl (Cov.skip rfl (Cov.skip rfl (Cov.skip rfl (Cov.skip rfl (Cov.skip rfl (Cov.skip rfl (Cov.skip rfl (Cov.skip rfl (Cov.skip rfl (Cov.refl _))))))))))))))))⟩
    have hot0z := hot0z.tow c53
    have hot0 := hot0.to c53
    refine WO.nil (thenL_n ?_)
    refine WC.cond rfl (fun q54 => ?_) (fun q54 => ?_)
    · have h := iteT q54 h
      refine WC.skip (thenL_n (WC.block (WC.region (WO.mv rfl ?_))))
      refine WO.bin rfl rfl (by decide) (by decide) rfl ?_
      refine WO.asg rfl (WO.nil (blockL_n (thenL_n ?_)))
      obtain rfl := someI h
      exact ⟨_, rfl, ⟨S52, rfl, rfl, (Cov.cons rfl (Cov.cons rfl (Cov.cons rfl (Cov.cons rfl (Cov.cons rfl (Cov.nil _)))))), hot0⟩⟩
    · have h := iteF q54 h
      refine WC.exit (thenL_e (thenL_e ?_))
      obtain rfl := someI h
      exact ⟨_, rfl, rfl, ⟨S52, rfl, rfl, (Cov.cons rfl (Cov.cons rfl (Cov.cons rfl (Cov.cons rfl (Cov.cons rfl (Cov.nil _)))))), hot0⟩⟩
  rintro _ _ _ _ ⟨rfl, ⟨S57, rfl, rfl, hc58, hot0⟩⟩
  refine blockL_s (thenL_n (WC.cov hc58 (WC.seq (WC.seq (WC.region (WO.mv rfl (WO.mv rfl ?_)))))))
  refine WO.bin rfl rfl (by decide) (by decide) rfl ?_
  refine WO.nil (thenL_n ?_)
  refine WC.cond rfl (fun q59 => ?_) (fun q59 => ?_)
  · have h := iteT q59 h
    refine WC.seq ?_
    refine WC.drawN rfl rfl ?_
    have hot0z := hot0.oz
    refine WO.mv rfl (WO.mv rfl (WO.mv rfl (WO.mv rfl (WO.mv rfl (WO.mv rfl ?_)))))
    obtain ⟨x60, e61, h⟩ := bindS h
    refine WO.ixS rfl rfl hot0.slv (at?_lt e61) rfl ?_
    refine WO.ldF rfl hot0z (fun _ hi => hi.1) (at?_get e61) rfl rfl (limLe_self _) ?_
    refine WO.mv rfl (WO.mv rfl ?_)
    obtain ⟨x62, e63, h⟩ := bindS h
    refine WO.ixS rfl rfl hot0.slv (at?_lt e63) rfl ?_
    refine WO.ldF rfl hot0z (fun _ hi => hi.1) (at?_get e63) rfl rfl (limLe_self _) ?_
    obtain ⟨u64, e65, h⟩ := bindS h
    refine WO.ixS rfl rfl hot0.slv (ck_some e65) rfl ?_
    refine WO.stI (u' := x60) rfl rfl hot0 (ck_nat e65) rfl rfl (fun S66 c67 hot0 => ?_)
    obtain ⟨u68, e69, h⟩ := bindS h
    refine WO.ixS rfl rfl hot0.slv (ck_some e69) rfl ?_
    refine WO.stI (u' := x62) rfl rfl hot0 (ck_nat e69) rfl rfl (fun S70 c71 hot0 => ?_)
    refine WO.nil (thenL_n (WC.seq (WC.region (WO.mv rfl (WO.asg rfl (WO.asg rfl (WO.nil (thenL_n (WC.ret ?_)))))))))
    refine thenL_r ?_
    obtain rfl := someI h
    exact ⟨.inr rfl, _, _, rfl, rfl, ⟨rfl, hot0.ip Lay.flat_fl⟩⟩
  · have h := iteF q59 h
    refine WC.skip (thenL_n (WC.seq ?_))
    refine WC.drawN rfl rfl ?_
    have hot0z := hot0.oz
    refine WO.mv rfl (WO.mv rfl (WO.mv rfl (WO.mv rfl (WO.mv rfl (WO.mv rfl ?_)))))
    obtain ⟨x72, e73, h⟩ := bindS h
    refine WO.ixS rfl rfl hot0.slv (at?_lt e73) rfl ?_
    refine WO.ldF rfl hot0z (fun _ hi => hi.1) (at?_get e73) rfl rfl (limLe_self _) ?_
    refine WO.mv rfl (WO.mv rfl ?_)
    obtain ⟨x74, e75, h⟩ := bindS h
    refine WO.ixS rfl rfl hot0.slv (at?_lt e75) rfl ?_
    refine WO.ldF rfl hot0z (fun _ hi => hi.1) (at?_get e75) rfl rfl (limLe_self _) ?_
    obtain ⟨u76, e77, h⟩ := bindS h
    refine WO.ixS rfl rfl hot0.slv (ck_some e77) rfl ?_
    refine WO.stI (u' := x72) rfl rfl hot0 (ck_nat e77) rfl rfl (fun S78 c79 hot0 => ?_)
    obtain ⟨u80, e81, h⟩ := bindS h
    refine WO.ixS rfl rfl hot0.slv (ck_some e81) rfl ?_
    refine WO.stI (u' := x74) rfl rfl hot0 (ck_nat e81) rfl rfl (fun S82 c83 hot0 => ?_)
    refine WO.nil (thenL_n (WC.seq (WC.region (WO.mv rfl ?_))))
    refine WO.bin rfl rfl (by decide) (by decide) rfl ?_
    refine WO.asg rfl (WO.nil (thenL_n (WC.seq (WC.region (WO.mv rfl ?_)))))
    refine WO.bin rfl rfl (by decide) (by decide) rfl ?_
    refine WO.asg rfl (WO.nil (thenL_n (WC.seq (WC.block ?_))))
    obtain ⟨b148, e149, h⟩ := bindS h
    refine WC.loopD e149 (fun s84 l' m' n' => ∃ S85 : Cx fl, S85.m = m' ∧ S85.n = n' ∧ Cov l' [(0, .sc vt0), (1, .sc (.int .i64 t1)), (4, .sc (.fn g [])), (12, .sc (.int .i64 s84.1)), (13, .sc (.int .i64 s84.2.1))] ∧ Iw Y3 S85 2 n bw m vt0 s84.2.2) (fun b e l' m' n' => e = .exit 4 ∧ ∃ S86 : Cx fl, S86.m = m' ∧ S86.n = n' ∧ Cov l' [(0, .sc vt0), (1, .sc (.int .i64 t1)), (13, .sc (.int .i64 b.1))] ∧ Iw Y3 S86 2 n bw m vt0 b.2) (by exact ⟨S82, rfl, rfl, (Cov.cons rfl (Cov.cons rfl (Cov.cons rfl (Cov.cons rfl (Cov.cons rfl (Cov.nil _)))))), hot0⟩) ?_ ?_
    · clear h
      rintro s84 q _ _ _ ⟨S87, rfl, rfl, hc88, hot0⟩ h
      unfold F176_111_l4 at h
      refine WC.cov hc88 (WC.block (WC.seq (WC.block ?_)))
      obtain ⟨b108, e109, h⟩ := bindS h
      refine WC.loopD e109 (fun s89 l' m' n' => ∃ S90 : Cx fl, S90.m = m' ∧ S90.n = n' ∧ Cov l' [(0, .sc vt0), (1, .sc (.int .i64 t1)), (4, .sc (.fn g [])), (12, .sc (.int .i64 s89)), (13, .sc (.int .i64 s84.2.1))] ∧ Iw Y3 S90 2 n bw m vt0 s84.2.2) (fun b e l' m' n' => e = .exit 6 ∧ ∃ S91 : Cx fl, S91.m = m' ∧ S91.n = n' ∧ Cov l' [(0, .sc vt0), (1, .sc (.int .i64 t1)), (4, .sc (.fn g [])), (12, .sc (.int .i64 b)), (13, .sc (.int .i64 s84.2.1))] ∧ Iw Y3 S91 2 n bw m vt0 s84.2.2) (by exact ⟨S87, rfl, rfl, (Cov.cons rfl (Cov.cons rfl (Cov.cons rfl (Cov.cons rfl (Cov.cons rfl (Cov.nil _)))))), hot0⟩) ?_ ?_
      · clear h
        rintro s89 q _ _ _ ⟨S92, rfl, rfl, hc93, hot0⟩ h
        unfold F176_111_l2 at h
        refine WC.cov hc93 (WC.seq (WC.seq ?_))
        refine WC.drawN rfl rfl ?_
        have hot0z := hot0.oz
        refine WO.mv rfl (WO.mv rfl ?_)
        refine WO.bin rfl rfl (by decide) (by decide) rfl ?_
        refine WO.mv rfl ?_
        obtain ⟨y103, e104, h⟩ := bindS h
        refine WO.cutS (d := 120) (S := S92) 12 y103 (fun q102 => ?_) (fun q102 => ?_) (fun S105 c106 => ?_)
        · have h := e104
          have h := iteT q102 h
          refine WO.gyes rfl rfl (WO.mv rfl (WO.gyes rfl rfl (WO.mv rfl (WO.gyes rfl rfl (WO.mv rfl (WO.gyes rfl rfl ?_))))))
          obtain ⟨x94, e95, h⟩ := bindS h
          refine WO.ixS rfl rfl hot0.slv (at?_lt e95) rfl ?_
          refine WO.gyes rfl rfl ?_
          refine WO.ldF rfl hot0z (fun _ hi => hi.1) (at?_get e95) rfl rfl (limLe_self _) ?_
          refine WO.gyes rfl rfl (WO.mv rfl (WO.gyes rfl rfl (WO.mv rfl (WO.gyes rfl rfl ?_))))
          obtain ⟨x96, e97, h⟩ := bindS h
          refine WO.ixS rfl rfl hot0.slv (at?_lt e97) rfl ?_
          refine WO.gyes rfl rfl ?_
          refine WO.ldF rfl hot0z (fun _ hi => hi.1) (at?_get e97) rfl rfl (limLe_self _) ?_
          refine WO.gyes rfl rfl ?_
          obtain ⟨r98, e99, h⟩ := bindS h
          refine WO.callE (S := S92) rfl rfl (hg e99) (fun S100 c101 => ?_)
          have hot0z := hot0z.tow c101
          have hot0 := hot0.to c101
          refine WO.gyes rfl rfl ?_
          refine WO.bin rfl rfl (by decide) (by decide) rfl ?_
          obtain rfl := someI h
          refine WO.pickT rfl rfl ?_
          refine WO.nil ?_
          exact ⟨S100, rfl, rfl, c101, (Cov.cons rfl (Cov.skip rfl (Cov.skip rfl (Cov.skip rfl (Cov.skip rfl (Cov.skip rfl (Cov.skip rfl (Cov.skip rfl (Cov.skip rfl (Cov.skip rfl (Cov.skip rfl (Cov.skip rfl (Cov.skip rfl (Cov.skip rfl (Cov.refl _)))))))))))))))⟩
        · have h := e104
          have h := iteF q102 h
          obtain rfl := someI h
          refine WO.gno rfl rfl (WO.gno rfl rfl (WO.gno rfl rfl (WO.gno rfl rfl (WO.gno rfl rfl (WO.gno rfl rfl (WO.gno rfl rfl (WO.gno rfl rfl (WO.gno rfl rfl (WO.gno rfl rfl ?_)))))))))
          refine WO.gno rfl rfl ?_
          refine WO.pickF rfl rfl ?_
          refine WO.nil ?_
          exact ⟨S92, rfl, rfl, Ch.refl _ _, (Cov.cons rfl (Cov.skip rfl (Cov.skip rfl (Cov.skip rfl (Cov.skip rfl (Cov.skip rfl (Cov.skip rfl (Cov.skip rfl (Cov.skip rfl (Cov.skip rfl (Cov.skip rfl (Cov.skip rfl (Cov.skip rfl (Cov.skip rfl (Cov.refl _)))))))))))))))⟩
        have hot0z := hot0z.tow c106
        have hot0 := hot0.to c106
        refine WO.nil (thenL_n ?_)
        refine WC.cond rfl (fun q107 => ?_) (fun q107 => ?_)
        · have h := iteT q107 h
          refine WC.skip (thenL_n (WC.block (WC.region (WO.mv rfl ?_))))
          refine WO.bin rfl rfl (by decide) (by decide) rfl ?_
          refine WO.asg rfl (WO.nil (blockL_n (thenL_n ?_)))
          obtain rfl := someI h
          exact ⟨_, rfl, ⟨S105, rfl, rfl, (Cov.cons rfl (Cov.cons rfl (Cov.cons rfl (Cov.cons rfl (Cov.cons rfl (Cov.nil _)))))), hot0⟩⟩
        · have h := iteF q107 h
          refine WC.exit (thenL_e (thenL_e ?_))
          obtain rfl := someI h
          exact ⟨_, rfl, rfl, ⟨S105, rfl, rfl, (Cov.cons rfl (Cov.cons rfl (Cov.cons rfl (Cov.cons rfl (Cov.cons rfl (Cov.nil _)))))), hot0⟩⟩
      rintro _ _ _ _ ⟨rfl, ⟨S110, rfl, rfl, hc111, hot0⟩⟩
      refine blockL_s (thenL_n (WC.cov hc111 (WC.seq (WC.block ?_))))
      obtain ⟨b131, e132, h⟩ := bindS h
      refine WC.loopD e132 (fun s112 l' m' n' => ∃ S113 : Cx fl, S113.m = m' ∧ S113.n = n' ∧ Cov l' [(0, .sc vt0), (1, .sc (.int .i64 t1)), (4, .sc (.fn g [])), (12, .sc (.int .i64 b108)), (13, .sc (.int .i64 s112))] ∧ Iw Y3 S113 2 n bw m vt0 s84.2.2) (fun b e l' m' n' => e = .exit 8 ∧ ∃ S114 : Cx fl, S114.m = m' ∧ S114.n = n' ∧ Cov l' [(0, .sc vt0), (1, .sc (.int .i64 t1)), (4, .sc (.fn g [])), (12, .sc (.int .i64 b108)), (13, .sc (.int .i64 b))] ∧ Iw Y3 S114 2 n bw m vt0 s84.2.2) (by exact ⟨S110, rfl, rfl, (Cov.cons rfl (Cov.cons rfl (Cov.cons rfl (Cov.cons rfl (Cov.cons rfl (Cov.nil _)))))), hot0⟩) ?_ ?_
      · clear h
        rintro s112 q _ _ _ ⟨S115, rfl, rfl, hc116, hot0⟩ h
        unfold F176_111_l3 at h
        refine WC.cov hc116 (WC.seq (WC.seq ?_))
        refine WC.drawN rfl rfl ?_
        have hot0z := hot0.oz
        refine WO.mv rfl (WO.mv rfl ?_)
        refine WO.bin rfl rfl (by decide) (by decide) rfl ?_
        refine WO.mv rfl ?_
        obtain ⟨y126, e127, h⟩ := bindS h
        refine WO.cutS (d := 139) (S := S115) 13 y126 (fun q125 => ?_) (fun q125 => ?_) (fun S128 c129 => ?_)
        · have h := e127
          have h := iteT q125 h
          refine WO.gyes rfl rfl (WO.mv rfl (WO.gyes rfl rfl (WO.mv rfl (WO.gyes rfl rfl (WO.mv rfl (WO.gyes rfl rfl ?_))))))
          obtain ⟨x117, e118, h⟩ := bindS h
          refine WO.ixS rfl rfl hot0.slv (at?_lt e118) rfl ?_
          refine WO.gyes rfl rfl ?_
          refine WO.ldF rfl hot0z (fun _ hi => hi.1) (at?_get e118) rfl rfl (limLe_self _) ?_
          refine WO.gyes rfl rfl (WO.mv rfl (WO.gyes rfl rfl (WO.mv rfl (WO.gyes rfl rfl ?_))))
          obtain ⟨x119, e120, h⟩ := bindS h
          refine WO.ixS rfl rfl hot0.slv (at?_lt e120) rfl ?_
          refine WO.gyes rfl rfl ?_
          refine WO.ldF rfl hot0z (fun _ hi => hi.1) (at?_get e120) rfl rfl (limLe_self _) ?_
          refine WO.gyes rfl rfl ?_
          obtain ⟨r121, e122, h⟩ := bindS h
          refine WO.callE (S := S115) rfl rfl (hg e122) (fun S123 c124 => ?_)
          have hot0z := hot0z.tow c124
          have hot0 := hot0.to c124
          refine WO.gyes rfl rfl ?_
          refine WO.bin rfl rfl (by decide) (by decide) rfl ?_
          refine WO.gyes rfl rfl ?_
          refine WO.do rfl rfl ?_
          obtain rfl := someI h
          refine WO.pickT rfl rfl ?_
          refine WO.nil ?_
          exact ⟨S123, rfl, rfl, c124, (Cov.cons rfl (Cov.skip rfl (Cov.skip rfl (Cov.skip rfl (Cov.skip rfl (Cov.skip rfl (Cov.skip rfl (Cov.skip rfl (Cov.skip rfl (Cov.skip rfl (Cov.skip rfl (Cov.skip rfl (Cov.skip rfl (Cov.skip rfl (Cov.skip rfl (Cov.refl _))))))))))))))))⟩
        · have h := e127
          have h := iteF q125 h
          obtain rfl := someI h
          refine WO.gno rfl rfl (WO.gno rfl rfl (WO.gno rfl rfl (WO.gno rfl rfl (WO.gno rfl rfl (WO.gno rfl rfl (WO.gno rfl rfl (WO.gno rfl rfl (WO.gno rfl rfl (WO.gno rfl rfl ?_)))))))))
          refine WO.gno rfl rfl (WO.gno rfl rfl ?_)
          refine WO.pickF rfl rfl ?_
          refine WO.nil ?_
          exact ⟨S115, rfl, rfl, Ch.refl _ _, (Cov.cons rfl (Cov.skip rfl (Cov.skip rfl (Cov.skip rfl (Cov.skip rfl (Cov.skip rfl (Cov.skip rfl (Cov.skip rfl (Cov.skip rfl (Cov.skip rfl (Cov.skip rfl (Cov.skip rfl (Cov.skip rfl (Cov.skip rfl (Cov.skip rfl (Cov.refl _))))))))))))))))⟩
        have hot0z := hot0z.tow c129
        have hot0 := hot0.to c129
        refine WO.nil (thenL_n ?_)
        refine WC.cond rfl (fun q130 => ?_) (fun q130 => ?_)
        · have h := iteT q130 h
          refine WC.skip (thenL_n (WC.block (WC.region (WO.mv rfl ?_))))
          refine WO.bin rfl rfl (by decide) (by decide) rfl ?_
          refine WO.asg rfl (WO.nil (blockL_n (thenL_n ?_)))
          obtain rfl := someI h
          exact ⟨_, rfl, ⟨S128, rfl, rfl, (Cov.cons rfl (Cov.cons rfl (Cov.cons rfl (Cov.cons rfl (Cov.cons rfl (Cov.nil _)))))), hot0⟩⟩
        · have h := iteF q130 h
          refine WC.exit (thenL_e (thenL_e ?_))
          obtain rfl := someI h
          exact ⟨_, rfl, rfl, ⟨S128, rfl, rfl, (Cov.cons rfl (Cov.cons rfl (Cov.cons rfl (Cov.cons rfl (Cov.cons rfl (Cov.nil _)))))), hot0⟩⟩
      rintro _ _ _ _ ⟨rfl, ⟨S133, rfl, rfl, hc134, hot0⟩⟩
      refine blockL_s (thenL_n (WC.cov hc134 (WC.seq (WC.seq (WC.region (WO.mv rfl (WO.mv rfl ?_)))))))
      refine WO.bin rfl rfl (by decide) (by decide) rfl ?_
      refine WO.nil (thenL_n ?_)
      refine WC.cond rfl (fun q135 => ?_) (fun q135 => ?_)
      · have h := iteT q135 h
        refine WC.exit (thenL_e (blockL_e rfl (thenL_e ?_)))
        obtain rfl := someI h
        exact ⟨_, rfl, rfl, ⟨S133, rfl, rfl, (Cov.cons rfl (Cov.cons rfl (Cov.cons rfl (Cov.nil _)))), hot0⟩⟩
      · have h := iteF q135 h
        refine WC.skip (thenL_n (WC.seq ?_))
        refine WC.drawN rfl rfl ?_
        have hot0z := hot0.oz
        refine WO.mv rfl (WO.mv rfl (WO.mv rfl (WO.mv rfl (WO.mv rfl (WO.mv rfl ?_)))))
        obtain ⟨x136, e137, h⟩ := bindS h
        refine WO.ixS rfl rfl hot0.slv (at?_lt e137) rfl ?_
        refine WO.ldF rfl hot0z (fun _ hi => hi.1) (at?_get e137) rfl rfl (limLe_self _) ?_
        refine WO.mv rfl (WO.mv rfl ?_)
        obtain ⟨x138, e139, h⟩ := bindS h
        refine WO.ixS rfl rfl hot0.slv (at?_lt e139) rfl ?_
        refine WO.ldF rfl hot0z (fun _ hi => hi.1) (at?_get e139) rfl rfl (limLe_self _) ?_
        obtain ⟨u140, e141, h⟩ := bindS h
        refine WO.ixS rfl rfl hot0.slv (ck_some e141) rfl ?_
        refine WO.stI (u' := x136) rfl rfl hot0 (ck_nat e141) rfl rfl (fun S142 c143 hot0 => ?_)
        obtain ⟨u144, e145, h⟩ := bindS h
        refine WO.ixS rfl rfl hot0.slv (ck_some e145) rfl ?_
        refine WO.stI (u' := x138) rfl rfl hot0 (ck_nat e145) rfl rfl (fun S146 c147 hot0 => ?_)
        refine WO.nil (thenL_n (WC.seq (WC.region (WO.mv rfl ?_))))
        refine WO.bin rfl rfl (by decide) (by decide) rfl ?_
        refine WO.asg rfl (WO.nil (thenL_n (WC.region (WO.mv rfl ?_))))
        refine WO.bin rfl rfl (by decide) (by decide) rfl ?_
        refine WO.asg rfl (WO.nil (blockL_n (thenL_n ?_)))
        obtain rfl := someI h
        exact ⟨_, rfl, ⟨S146, rfl, rfl, (Cov.cons rfl (Cov.cons rfl (Cov.cons rfl (Cov.cons rfl (Cov.cons rfl (Cov.nil _)))))), hot0⟩⟩
    rintro _ _ _ _ ⟨rfl, ⟨S150, rfl, rfl, hc151, hot0⟩⟩
    refine blockL_s (thenL_n (WC.cov hc151 (WC.seq ?_)))
    refine WC.drawN rfl rfl ?_
    have hot0z := hot0.oz
    refine WO.mv rfl (WO.mv rfl (WO.mv rfl (WO.mv rfl (WO.mv rfl (WO.mv rfl ?_)))))
    obtain ⟨x152, e153, h⟩ := bindS h
    refine WO.ixS rfl rfl hot0.slv (at?_lt e153) rfl ?_
    refine WO.ldF rfl hot0z (fun _ hi => hi.1) (at?_get e153) rfl rfl (limLe_self _) ?_
    refine WO.mv rfl (WO.mv rfl ?_)
    obtain ⟨x154, e155, h⟩ := bindS h
    refine WO.ixS rfl rfl hot0.slv (at?_lt e155) rfl ?_
    refine WO.ldF rfl hot0z (fun _ hi => hi.1) (at?_get e155) rfl rfl (limLe_self _) ?_
    obtain ⟨u156, e157, h⟩ := bindS h
    refine WO.ixS rfl rfl hot0.slv (ck_some e157) rfl ?_
    refine WO.stI (u' := x152) rfl rfl hot0 (ck_nat e157) rfl rfl (fun S158 c159 hot0 => ?_)
    obtain ⟨u160, e161, h⟩ := bindS h
    refine WO.ixS rfl rfl hot0.slv (ck_some e161) rfl ?_
    refine WO.stI (u' := x154) rfl rfl hot0 (ck_nat e161) rfl rfl (fun S162 c163 hot0 => ?_)
    refine WO.nil (thenL_n (WC.seq (WC.region (WO.mv rfl (WO.asg rfl (WO.asg rfl (WO.nil (thenL_n (WC.ret ?_)))))))))
    obtain rfl := someI h
    exact ⟨.inr rfl, _, _, rfl, rfl, ⟨rfl, hot0.ip Lay.flat_fl⟩⟩
end Go.Proofs.Ytihmliblbhjlaaa

namespace Go.Proofs.Ytihmliblbhjlaaa
open Go.Am
theorem F154_111.fn : E.fn 154 = some ⟨148, (Try.f154.body.getD .skip), Try.f154.results.toList, []⟩ := rfl
theorem F154_111_ok {g : Nat} (hg : Cp g) {F : Nat} : ∀ {m : Mem} {n : Nat} {r : (List Int)} {t0 : List Int} {t1 : Int} {t2 : Int} {t3 : Int} {vt0 : SV} {fl : Nat} {bw : Nat} (h : F154_111 F t0 t1 t2 t3 = some r) (hfl : fl ≤ n) (kt0 : Iv Y3 fl n bw m vt0 t0), Ret E fl 154 [.sc vt0, .sc (.int .i64 t1), .sc (.int .i64 t2), .sc (.int .i64 t3), .sc (.fn g [])] m n (fun v m' n' => v = .tup [] ∧ Ip Y3 n bw m m' vt0 r) := by
  induction F with
  | zero => intro m n r t0 t1 t2 t3 vt0 fl bw h; cases h
  | succ F ih =>
    intro m n r t0 t1 t2 t3 vt0 fl bw h hfl kt0
    rw [F154_111] at h
    try dsimp only at h
    refine Ret.walk F154_111.fn ?_
    refine WC.startI (b := bw) hfl fun S0 em en hz hbw => ?_
    have hot0 := kt0.iw em en hz hbw
    refine WC.seq (WC.region (WO.asg rfl (WO.nil (thenL_n (WC.seq (WC.region (WO.asg rfl (WO.nil (thenL_n ?_)))))))))
    refine WC.block ?_
    obtain ⟨b89, e90, h⟩ := bindS h
    refine WC.loopD e90 (fun s1 l' m' n' => ∃ S2 : Cx fl, S2.m = m' ∧ S2.n = n' ∧ Cov l' [(0, .sc vt0), (1, .sc (.int .i64 s1.1)), (2, .sc (.int .i64 s1.2.1)), (3, .sc (.int .i64 s1.2.2.1)), (4, .sc (.fn g [])), (10, .sc (.bool s1.2.2.2.1)), (11, .sc (.bool s1.2.2.2.2.1))] ∧ Iw Y3 S2 2 n bw m vt0 s1.2.2.2.2.2) (fun b e l' m' n' => e = .ret ∧ ∃ S3 : Cx fl, S3.m = m' ∧ S3.n = n' ∧ Cov l' [(0, .sc vt0)] ∧ Iw Y3 S3 2 n bw m vt0 b) (by exact ⟨S0, rfl, rfl, (Cov.cons rfl (Cov.cons rfl (Cov.cons rfl (Cov.cons rfl (Cov.cons rfl (Cov.cons rfl (Cov.cons rfl (Cov.nil _)))))))), hot0⟩) ?_ ?_
    · clear h
      rintro s1 q _ _ _ ⟨S4, rfl, rfl, hc5, hot0⟩ h
      unfold F154_111_l0 at h
      refine WC.cov hc5 (WC.block (WC.seq (WC.region (WO.mv rfl (WO.mv rfl ?_)))))
      refine WO.bin rfl rfl (by decide) (by decide) rfl ?_
      refine WO.asg rfl (WO.nil (thenL_n (WC.seq (WC.seq (WC.region (WO.mv rfl ?_))))))
      refine WO.bin rfl rfl (by decide) (by decide) rfl ?_
      refine WO.nil (thenL_n ?_)
      refine WC.cond rfl (fun q6 => ?_) (fun q6 => ?_)
      · have h := iteT q6 h
        refine WC.seq (WC.region (WO.mv rfl (WO.mv rfl (WO.mv rfl (WO.mv rfl ?_)))))
        obtain ⟨r7, e8, h⟩ := bindS h
        refine WO.callW (S := S4) hot0 rfl rfl rfl (fun bq hI hB => F169_111_ok hg e8 S4.le hI) Lay.flat_fl (fun S9 c10 hot0 => ?_)
        refine WO.nil (thenL_n (WC.ret (thenL_r (blockL_r (thenL_r ?_)))))
        obtain rfl := someI h
        exact ⟨_, rfl, rfl, ⟨S9, rfl, rfl, (Cov.cons rfl (Cov.nil _)), hot0⟩⟩
      · have h := iteF q6 h
        refine WC.skip (thenL_n (WC.seq (WC.seq (WC.region (WO.mv rfl ?_)))))
        refine WO.bin rfl rfl (by decide) (by decide) rfl ?_
        refine WO.nil (thenL_n ?_)
        refine WC.cond rfl (fun q11 => ?_) (fun q11 => ?_)
        · have h := iteT q11 h
          refine WC.seq (WC.region (WO.mv rfl (WO.mv rfl (WO.mv rfl (WO.mv rfl ?_)))))
          obtain ⟨r12, e13, h⟩ := bindS h
          refine WO.callW (S := S4) hot0 rfl rfl rfl (fun bq hI hB => F170_111_ok hg e13 S4.le hI) Lay.flat_fl (fun S14 c15 hot0 => ?_)
          refine WO.nil (thenL_n (WC.ret (thenL_r (blockL_r (thenL_r ?_)))))
          obtain rfl := someI h
          exact ⟨_, rfl, rfl, ⟨S14, rfl, rfl, (Cov.cons rfl (Cov.nil _)), hot0⟩⟩
        · have h := iteF q11 h
          refine WC.skip (thenL_n (WC.seq (WC.seq (WC.region (WO.mv rfl ?_)))))
          refine WO.do rfl rfl ?_
          refine WO.nil (thenL_n ?_)
          obtain ⟨b21, e22, h⟩ := bindS h
          refine WC.mono (Q' := (fun b e l' m' n' => e = .normal ∧ ∃ S23 : Cx fl, S23.m = m' ∧ S23.n = n' ∧ Cov l' [(0, .sc vt0), (1, .sc (.int .i64 s1.1)), (2, .sc (.int .i64 s1.2.1)), (3, .sc (.int .i64 b.1)), (4, .sc (.fn g [])), (10, .sc (.bool s1.2.2.2.1)), (11, .sc (.bool s1.2.2.2.2.1)), (12, .sc (.int .i64 ((wrapA .i64 (s1.2.1 - s1.1)))))] ∧ Iw Y3 S23 2 n bw m vt0 b.2) b21) ?_ ?_
          · have h := e22
            dsimp only at h ⊢
            refine WC.cond rfl (fun q16 => ?_) (fun q16 => ?_)
            · have h := iteT q16 h
              refine WC.seq (WC.region (WO.mv rfl (WO.mv rfl (WO.mv rfl (WO.mv rfl ?_)))))
              obtain ⟨r17, e18, h⟩ := bindS h
              refine WO.callW (S := S4) hot0 rfl rfl rfl (fun bq hI hB => F171_111_ok hg e18 S4.le hI) Lay.flat_fl (fun S19 c20 hot0 => ?_)
              refine WO.nil (thenL_n (WC.region (WO.mv rfl ?_)))
              refine WO.bin rfl rfl (by decide) (by decide) rfl ?_
              refine WO.asg rfl (WO.nil ?_)
              obtain rfl := someI h
              exact ⟨rfl, ⟨S19, rfl, rfl, (Cov.cons rfl (Cov.cons rfl (Cov.cons rfl (Cov.cons rfl (Cov.cons rfl (Cov.cons rfl (Cov.cons rfl (Cov.cons rfl (Cov.nil _))))))))), hot0⟩⟩
            · have h := iteF q16 h
              refine WC.skip ?_
              obtain rfl := someI h
              exact ⟨rfl, ⟨S4, rfl, rfl, (Cov.cons rfl (Cov.cons rfl (Cov.cons rfl (Cov.cons rfl (Cov.cons rfl (Cov.cons rfl (Cov.cons rfl (Cov.cons rfl (Cov.nil _))))))))), hot0⟩⟩
          dsimp only
          rintro _ _ _ _ ⟨rfl, ⟨S24, rfl, rfl, hc25, hot0⟩⟩
          refine thenL_n (WC.cov hc25 (WC.seq (WC.region (WO.mv rfl (WO.mv rfl (WO.mv rfl (WO.mv rfl ?_)))))))
          obtain ⟨r26, e27, h⟩ := bindS h
          refine WO.callE (S := S24) rfl rfl (F172_111_ok hg e27 hot0.vw) (fun S28 c29 => ?_)
          have hot0 := hot0.to c29
          refine WO.mv rfl ?_
          refine WO.do rfl rfl ?_
          refine WO.do rfl rfl ?_
          refine WO.asg rfl (WO.asg rfl (WO.nil (thenL_n (WC.seq (WC.seq (WC.region (WO.mv rfl ?_)))))))
          refine WO.bin rfl rfl (by decide) (by decide) rfl ?_
          refine WO.nil (thenL_n ?_)
          obtain ⟨b35, e36, h⟩ := bindS h
          refine WC.mono (Q' := (fun b e l' m' n' => e = .normal ∧ ∃ S37 : Cx fl, S37.m = m' ∧ S37.n = n' ∧ Cov l' [(0, .sc vt0), (1, .sc (.int .i64 s1.1)), (2, .sc (.int .i64 s1.2.1)), (3, .sc (.int .i64 b21.1)), (4, .sc (.fn g [])), (10, .sc (.bool s1.2.2.2.1)), (11, .sc (.bool s1.2.2.2.2.1)), (12, .sc (.int .i64 ((wrapA .i64 (s1.2.1 - s1.1))))), (13, .sc (.int .i64 b.1)), (14, .sc (.int .i64 b.2.1))] ∧ Iw Y3 S37 2 n bw m vt0 b.2.2) b35) ?_ ?_
          · have h := e36
            dsimp only at h ⊢
            refine WC.cond rfl (fun q30 => ?_) (fun q30 => ?_)
            · have h := iteT q30 h
              refine WC.seq (WC.region (WO.mv rfl (WO.mv rfl (WO.mv rfl (WO.mv rfl ?_)))))
              obtain ⟨r31, e32, h⟩ := bindS h
              refine WO.callW (S := S28) hot0 rfl rfl rfl (fun bq hI hB => F173_111_ok hg e32 S28.le hI) Lay.flat_fl (fun S33 c34 hot0 => ?_)
              refine WO.nil (thenL_n (WC.seq (WC.region (WO.mv rfl ?_))))
              refine WO.bin rfl rfl (by decide) (by decide) rfl ?_
              refine WO.mv rfl (WO.mv rfl ?_)
              refine WO.bin rfl rfl (by decide) (by decide) rfl ?_
              refine WO.bin rfl rfl (by decide) (by decide) rfl ?_
              refine WO.asg rfl (WO.nil (thenL_n (WC.region (WO.asg rfl (WO.nil ?_)))))
              obtain rfl := someI h
              exact ⟨rfl, ⟨S33, rfl, rfl, (Cov.cons rfl (Cov.cons rfl (Cov.cons rfl (Cov.cons rfl (Cov.cons rfl (Cov.cons rfl (Cov.cons rfl (Cov.cons rfl (Cov.cons rfl (Cov.cons rfl (Cov.nil _))))))))))), hot0⟩⟩
            · have h := iteF q30 h
              refine WC.skip ?_
              obtain rfl := someI h
              exact ⟨rfl, ⟨S28, rfl, rfl, (Cov.cons rfl (Cov.cons rfl (Cov.cons rfl (Cov.cons rfl (Cov.cons rfl (Cov.cons rfl (Cov.cons rfl (Cov.cons rfl (Cov.cons rfl (Cov.cons rfl (Cov.nil _))))))))))), hot0⟩⟩
          dsimp only
          rintro _ _ _ _ ⟨rfl, ⟨S38, rfl, rfl, hc39, hot0⟩⟩
          refine thenL_n (WC.cov hc39 (WC.seq (WC.seq (WC.region (WO.mv rfl (WO.mv rfl ?_))))))
          refine WO.cutB (d := 71) 2 (s1.2.2.2.1 && s1.2.2.2.2.1) (fun q40 => ?_) (fun q40 => ?_) ?_
          · skip
            refine WO.gyes rfl rfl (WO.mv rfl ?_)
            refine WO.pickT rfl rfl ?_
            refine WO.nil ?_
            exact ⟨rfl, rfl, (Cov.any rfl (andT q40) (Cov.skip rfl (Cov.skip rfl (Cov.skip rfl (Cov.refl _)))))⟩
          · refine WO.gno rfl rfl ?_
            refine WO.pickF rfl rfl ?_
            refine WO.nil ?_
            exact ⟨rfl, rfl, (Cov.any rfl (andF q40) (Cov.skip rfl (Cov.skip rfl (Cov.skip rfl (Cov.refl _)))))⟩
          refine WO.mv rfl ?_
          refine WO.cutB (d := 75) 3 ((s1.2.2.2.1 && s1.2.2.2.2.1) && (b35.2.1 == 1)) (fun q41 => ?_) (fun q41 => ?_) ?_
          · skip
            refine WO.gyes rfl rfl (WO.mv rfl (WO.gyes rfl rfl ?_))
            refine WO.bin rfl rfl (by decide) (by decide) rfl ?_
            refine WO.pickT rfl rfl ?_
            refine WO.nil ?_
            exact ⟨rfl, rfl, (Cov.any rfl (andT q41) (Cov.skip rfl (Cov.skip rfl (Cov.skip rfl (Cov.skip rfl (Cov.refl _))))))⟩
          · refine WO.gno rfl rfl (WO.gno rfl rfl ?_)
            refine WO.pickF rfl rfl ?_
            refine WO.nil ?_
            exact ⟨rfl, rfl, (Cov.any rfl (andF q41) (Cov.skip rfl (Cov.skip rfl (Cov.skip rfl (Cov.skip rfl (Cov.refl _))))))⟩
          refine WO.nil (thenL_n ?_)
          obtain ⟨b48, e49, h⟩ := bindS h
          refine WC.mono (Q' := (fun b e l' m' n' => (match b with | .inl b50 => e = .normal ∧ ∃ S51 : Cx fl, S51.m = m' ∧ S51.n = n' ∧ Cov l' [(0, .sc vt0), (1, .sc (.int .i64 s1.1)), (2, .sc (.int .i64 s1.2.1)), (3, .sc (.int .i64 b21.1)), (4, .sc (.fn g [])), (10, .sc (.bool s1.2.2.2.1)), (11, .sc (.bool s1.2.2.2.2.1)), (12, .sc (.int .i64 ((wrapA .i64 (s1.2.1 - s1.1))))), (13, .sc (.int .i64 b35.1))] ∧ Iw Y3 S51 2 n bw m vt0 b50 | .inr b50 => e = .ret ∧ ∃ S52 : Cx fl, S52.m = m' ∧ S52.n = n' ∧ Cov l' [(0, .sc vt0)] ∧ Iw Y3 S52 2 n bw m vt0 b50)) b48) ?_ ?_
          · have h := e49
            dsimp only at h ⊢
            refine WC.cond rfl (fun q42 => ?_) (fun q42 => ?_)
            · have h := iteT q42 h
              refine WC.seq (WC.region (WO.mv rfl (WO.mv rfl (WO.mv rfl (WO.mv rfl ?_)))))
              obtain ⟨r43, e44, h⟩ := bindS h
              refine WO.callW (S := S38) hot0 rfl rfl rfl (fun bq hI hB => F174_111_ok hg e44 S38.le hI) Lay.flat_fl (fun S45 c46 hot0 => ?_)
              refine WO.nil (thenL_n ?_)
              refine WC.cond rfl (fun q47 => ?_) (fun q47 => ?_)
              · have h := iteT q47 h
                refine WC.ret ?_
                obtain rfl := someI h
                exact ⟨rfl, ⟨S45, rfl, rfl, (Cov.cons rfl (Cov.nil _)), hot0⟩⟩
              · have h := iteF q47 h
                refine WC.skip ?_
                obtain rfl := someI h
                exact ⟨rfl, ⟨S45, rfl, rfl, (Cov.cons rfl (Cov.cons rfl (Cov.cons rfl (Cov.cons rfl (Cov.cons rfl (Cov.cons rfl (Cov.cons rfl (Cov.cons rfl (Cov.cons rfl (Cov.nil _)))))))))), hot0⟩⟩
            · have h := iteF q42 h
              refine WC.skip ?_
              obtain rfl := someI h
              exact ⟨rfl, ⟨S38, rfl, rfl, (Cov.cons rfl (Cov.cons rfl (Cov.cons rfl (Cov.cons rfl (Cov.cons rfl (Cov.cons rfl (Cov.cons rfl (Cov.cons rfl (Cov.cons rfl (Cov.nil _)))))))))), hot0⟩⟩
          dsimp only
          cases b48 with
          | inl b53 =>
            simp only at h
            rintro _ _ _ _ ⟨rfl, ⟨S54, rfl, rfl, hc55, hot0⟩⟩
            refine thenL_n (WC.cov hc55 (WC.seq (WC.seq ?_)))
            refine WC.drawN rfl rfl ?_
            have hot0z := hot0.oz
            refine WO.mv rfl ?_
            refine WO.bin rfl rfl (by decide) (by decide) rfl ?_
            refine WO.mv rfl ?_
            obtain ⟨y65, e66, h⟩ := bindS h
            refine WO.cutS (d := 97) (S := S54) 14 y65 (fun q64 => ?_) (fun q64 => ?_) (fun S67 c68 => ?_)
            · have h := e66
              have h := iteT q64 h
              refine WO.gyes rfl rfl (WO.mv rfl (WO.gyes rfl rfl (WO.mv rfl (WO.gyes rfl rfl (WO.mv rfl (WO.gyes rfl rfl ?_))))))
              refine WO.bin rfl rfl (by decide) (by decide) rfl ?_
              refine WO.gyes rfl rfl ?_
              obtain ⟨x56, e57, h⟩ := bindS h
              refine WO.ixS rfl rfl hot0.slv (at?_lt e57) rfl ?_
              refine WO.gyes rfl rfl ?_
              refine WO.ldF rfl hot0z (fun _ hi => hi.1) (at?_get e57) rfl rfl (limLe_self _) ?_
              refine WO.gyes rfl rfl (WO.mv rfl (WO.gyes rfl rfl (WO.mv rfl (WO.gyes rfl rfl ?_))))
              obtain ⟨x58, e59, h⟩ := bindS h
              refine WO.ixS rfl rfl hot0.slv (at?_lt e59) rfl ?_
              refine WO.gyes rfl rfl ?_
              refine WO.ldF rfl hot0z (fun _ hi => hi.1) (at?_get e59) rfl rfl (limLe_self _) ?_
              refine WO.gyes rfl rfl ?_
              obtain ⟨r60, e61, h⟩ := bindS h
              refine WO.callE (S := S54) rfl rfl (hg e61) (fun S62 c63 => ?_)
              have hot0z := hot0z.tow c63
              have hot0 := hot0.to c63
              refine WO.gyes rfl rfl ?_
              refine WO.bin rfl rfl (by decide) (by decide) rfl ?_
              refine WO.gyes rfl rfl ?_
              refine WO.do rfl rfl ?_
              obtain rfl := someI h
              refine WO.pickT rfl rfl ?_
              refine WO.nil ?_
              exact ⟨S62, rfl, rfl, c63, (Cov.cons rfl (Cov.skip rfl (Cov.skip rfl (Cov.skip rfl (Cov.skip rfl (Cov.skip rfl (Cov.skip rfl (Cov.skip rfl (Cov.skip rfl (Cov.skip rfl (Cov.skip rfl (Cov.skip rfl (Cov.skip rfl (Cov.skip rfl (Cov.skip rfl (Cov.skip rfl (Cov.refl _)))))))))))))))))⟩
            · have h := e66
              have h := iteF q64 h
              obtain rfl := someI h
              refine WO.gno rfl rfl (WO.gno rfl rfl (WO.gno rfl rfl (WO.gno rfl rfl (WO.gno rfl rfl (WO.gno rfl rfl (WO.gno rfl rfl (WO.gno rfl rfl (WO.gno rfl rfl (WO.gno rfl rfl ?_)))))))))
              refine WO.gno rfl rfl (WO.gno rfl rfl (WO.gno rfl rfl ?_))
              refine WO.pickF rfl rfl ?_
              refine WO.nil ?_
              exact ⟨S54, rfl, rfl, Ch.refl _ _, (Cov.cons rfl (Cov.skip rfl (Cov.skip rfl (Cov.skip rfl (Cov.skip rfl (Cov.skip rfl (Cov.skip rfl (Cov.skip rfl (Cov.skip rfl (Cov.skip rfl (Cov.skip rfl (Cov.skip rfl (Cov.skip rfl (Cov.skip rfl (Cov.skip rfl (Cov.skip rfl (Cov.refl _)))))))))))))))))⟩
            have hot0z := hot0z.tow c68
            have hot0 := hot0.to c68
            refine WO.nil (thenL_n ?_)
            refine WC.cond rfl (fun q69 => ?_) (fun q69 => ?_)
            · have h := iteT q69 h
              refine WC.seq (WC.region (WO.mv rfl (WO.mv rfl (WO.mv rfl (WO.mv rfl (WO.mv rfl ?_))))))
              obtain ⟨r70, e71, h⟩ := bindS h
              refine WO.callW (S := S67) hot0 rfl rfl rfl (fun bq hI hB => F175_111_ok hg e71 S67.le hI) Lay.flat_fl (fun S72 c73 hot0 => ?_)
              refine WO.asg rfl (WO.nil (thenL_n (WC.seq (WC.region (WO.mv rfl (WO.asg rfl (WO.nil (thenL_n (WC.exit ?_)))))))))
              refine thenL_e (blockL_s (thenL_n ?_))
              obtain rfl := someI h
              exact ⟨_, rfl, ⟨S72, rfl, rfl, (Cov.cons rfl (Cov.cons rfl (Cov.cons rfl (Cov.cons rfl (Cov.cons rfl (Cov.cons rfl (Cov.cons rfl (Cov.nil _)))))))), hot0⟩⟩
            · have h := iteF q69 h
              refine WC.skip (thenL_n (WC.seq (WC.region (WO.mv rfl (WO.mv rfl (WO.mv rfl (WO.mv rfl (WO.mv rfl ?_))))))))
              obtain ⟨r74, e75, h⟩ := bindS h
              refine WO.callW (S := S67) hot0 rfl rfl rfl (fun bq hI hB => F176_111_ok hg e75 S67.le hI) Lay.flat_fl (fun S76 c77 hot0 => ?_)
              refine WO.mv rfl ?_
              refine WO.do rfl rfl ?_
              refine WO.do rfl rfl ?_
              refine WO.asg rfl (WO.asg rfl (WO.nil (thenL_n (WC.seq (WC.region (WO.mv rfl (WO.asg rfl (WO.nil (thenL_n ?_)))))))))
              refine WC.seq (WC.region (WO.mv rfl (WO.mv rfl ?_)))
              refine WO.bin rfl rfl (by decide) (by decide) rfl ?_
              refine WO.mv rfl (WO.mv rfl ?_)
              refine WO.bin rfl rfl (by decide) (by decide) rfl ?_
              refine WO.asg rfl (WO.asg rfl (WO.nil (thenL_n (WC.seq (WC.region (WO.mv rfl ?_))))))
              refine WO.bin rfl rfl (by decide) (by decide) rfl ?_
              refine WO.asg rfl (WO.nil (thenL_n (WC.seq (WC.region (WO.mv rfl (WO.mv rfl ?_))))))
              refine WO.bin rfl rfl (by decide) (by decide) rfl ?_
              refine WO.nil (thenL_n ?_)
              refine WC.cond rfl (fun q78 => ?_) (fun q78 => ?_)
              · have h := iteT q78 h
                refine WC.seq (WC.region (WO.mv rfl (WO.mv rfl ?_)))
                refine WO.bin rfl rfl (by decide) (by decide) rfl ?_
                refine WO.asg rfl (WO.nil (thenL_n (WC.seq (WC.region (WO.mv rfl (WO.mv rfl (WO.mv rfl (WO.mv rfl (WO.mv rfl ?_)))))))))
                obtain ⟨r79, e80, h⟩ := bindS h
                refine WO.callW (S := S76) hot0 rfl rfl rfl (fun bq hI hB => ih e80 S76.le hI) Lay.flat_fl (fun S81 c82 hot0 => ?_)
                refine WO.nil (thenL_n (WC.region (WO.mv rfl ?_)))
                refine WO.bin rfl rfl (by decide) (by decide) rfl ?_
                refine WO.asg rfl (WO.nil (blockL_n (thenL_n ?_)))
                obtain rfl := someI h
                exact ⟨_, rfl, ⟨S81, rfl, rfl, (Cov.cons rfl (Cov.cons rfl (Cov.cons rfl (Cov.cons rfl (Cov.cons rfl (Cov.cons rfl (Cov.cons rfl (Cov.nil _)))))))), hot0⟩⟩
              · have h := iteF q78 h
                refine WC.seq (WC.region (WO.mv rfl (WO.mv rfl ?_)))
                refine WO.bin rfl rfl (by decide) (by decide) rfl ?_
                refine WO.asg rfl (WO.nil (thenL_n (WC.seq (WC.region (WO.mv rfl (WO.mv rfl ?_))))))
                refine WO.bin rfl rfl (by decide) (by decide) rfl ?_
                refine WO.mv rfl (WO.mv rfl (WO.mv rfl ?_))
                obtain ⟨r83, e84, h⟩ := bindS h
                refine WO.callW (S := S76) hot0 rfl rfl rfl (fun bq hI hB => ih e84 S76.le hI) Lay.flat_fl (fun S85 c86 hot0 => ?_)
                refine WO.nil (thenL_n (WC.region (WO.mv rfl (WO.asg rfl (WO.nil (blockL_n (thenL_n ?_)))))))
                obtain rfl := someI h
                exact ⟨_, rfl, ⟨S85, rfl, rfl, (Cov.cons rfl (Cov.cons rfl (Cov.cons rfl (Cov.cons rfl (Cov.cons rfl (Cov.cons rfl (Cov.cons rfl (Cov.nil _)))))))), hot0⟩⟩
          | inr b53 =>
            simp only at h
            rintro _ _ _ _ ⟨rfl, ⟨S87, rfl, rfl, hc88, hot0⟩⟩
            refine thenL_r (blockL_r (thenL_r ?_))
            obtain rfl := someI h
            exact ⟨_, rfl, rfl, ⟨S87, rfl, rfl, (Cov.trans hc88 (Cov.cons rfl (Cov.nil _))), hot0⟩⟩
    rintro _ _ _ _ ⟨rfl, ⟨S91, rfl, rfl, hc92, hot0⟩⟩
    refine blockL_r ?_
    obtain rfl := someI h
    exact ⟨.inr rfl, _, _, (resK_cov hc92 rfl), rfl, ⟨rfl, hot0.ip Lay.flat_fl⟩⟩
end Go.Proofs.Ytihmliblbhjlaaa

namespace Go.Proofs.Ytihmliblbhjlaaa
open Go.Am
theorem F110_111.fn : E.fn 110 = some ⟨14, (Try.f110.body.getD .skip), Try.f110.results.toList, []⟩ := rfl
theorem F110_111_ok {g : Nat} (hg : Cp g) {F : Nat} {m : Mem} {n : Nat} {r : (List Int)} {t0 : List Int} {vt0 : SV} {fl : Nat} {bw : Nat} (h : F110_111 F t0 = some r) (hfl : fl ≤ n) (kt0 : Iv Y3 fl n bw m vt0 t0) : Ret E fl 110 [.sc vt0, .sc (.fn g [])] m n (fun v m' n' => v = .tup [] ∧ Ip Y3 n bw m m' vt0 r) := by
  unfold F110_111 at h
  refine Ret.walk F110_111.fn ?_
  refine WC.startI (b := bw) hfl fun S0 em en hz hbw => ?_
  have hot0 := kt0.iw em en hz hbw
  refine WC.seq (WC.region (WO.mv rfl ?_))
  refine WO.lenS rfl hot0.slv rfl ?_
  refine WO.asg rfl (WO.nil (thenL_n (WC.region (WO.mv rfl (WO.mv rfl (WO.mv rfl ?_))))))
  refine WO.conv rfl rfl rfl rfl ?_
  obtain ⟨r1, e2, h⟩ := bindS h
  refine WO.callE (S := S0) rfl rfl (F155_ok e2) (fun S3 c4 => ?_)
  have hot0 := hot0.to c4
  refine WO.mv rfl ?_
  obtain ⟨r5, e6, h⟩ := bindS h
  refine WO.callW (S := S3) hot0 rfl rfl rfl (fun bq hI hB => F154_111_ok hg e6 S3.le hI) Lay.flat_fl (fun S7 c8 hot0 => ?_)
  refine WO.nil ?_
  obtain rfl := someI h
  exact ⟨.inl rfl, _, _, rfl, rfl, ⟨rfl, hot0.ip Lay.flat_fl⟩⟩
end Go.Proofs.Ytihmliblbhjlaaa

namespace Go.Proofs.Ytihmliblbhjlaaa
open Go.Am
theorem F38.fn : E.fn 38 = some ⟨51, (Try.f38.body.getD .skip), Try.f38.results.toList, []⟩ := rfl
theorem F38_ok {F : Nat} {m : Mem} {n : Nat} {r : (List Int) × Int} {t0 : List Int} {vt0 : SV} (h : F38 F t0 = some r) (kt0 : Vw Y3 n m vt0 t0) : Ret E n 38 [.sc vt0] m n (fun v m' n' => ∃ w, v = .tup [.sc w, .sc (.int .i64 r.2)] ∧ Fr Y3 n m' n' w r.1) := by
  unfold F38 at h
  refine Ret.walk F38.fn ?_
  refine WC.start fun S0 em en hz => ?_
  have hot0 := kt0.rdS em hz
  refine WC.seq (WC.region (WO.asg rfl (WO.asg rfl (WO.nil (thenL_n (WC.seq (WC.seq (WC.region (WO.mv rfl ?_)))))))))
  obtain ⟨r1, e2, h⟩ := bindS h
  refine WO.callE (S := S0) rfl rfl (F42_ok e2 hot0.vw) (fun S3 c4 => ?_)
  have hot0 := hot0.to c4
  refine WO.asg rfl (WO.nil (thenL_n (WC.seq (WC.region (WO.mv rfl ?_)))))
  refine WO.bin rfl rfl (by decide) (by decide) rfl ?_
  refine WO.nil (thenL_n ?_)
  refine WC.cond rfl (fun q5 => ?_) (fun q5 => ?_)
  · have h := iteT q5 h
    refine WC.seq (WC.region (WO.mv rfl (WO.asg rfl (WO.asg rfl (WO.nil (thenL_n (WC.ret (thenL_r ?_))))))))
    obtain rfl := someI h
    exact ⟨.inr rfl, _, _, rfl, rfl, ⟨.nils, rfl, Fr.nil⟩⟩
  · have h := iteF q5 h
    refine WC.skip (thenL_n (WC.seq (WC.region (WO.asg rfl (WO.nil (thenL_n (WC.seq (WC.seq (WC.region ?_)))))))))
    refine WO.mv rfl ?_
    refine WO.lenS rfl hot0.slv rfl ?_
    refine WO.mv rfl (WO.nil (thenL_n (WC.block ?_)))
    obtain ⟨b62, e63, h⟩ := bindS h
    refine WC.loopD e63 (fun s6 l' m' n' => ∃ S8 : Cx n, ∃ v9 : SV, S8.m = m' ∧ S8.n = n' ∧ Cov l' [(0, .sc vt0), (5, .sc v9), (14, .sc vt0), (15, .sc (.int .i64 ((t0.length : Int)))), (16, .sc (.int .i64 s6.2))] ∧ Rd Y3 S8 vt0 t0 ∧ Ow Y3 S8 2 v9 s6.1) (fun b e l' m' n' => (match b with | .inl b10 => e = .exit 0 ∧ ∃ S11 : Cx n, ∃ v12 : SV, S11.m = m' ∧ S11.n = n' ∧ Cov l' [(5, .sc v12)] ∧ Ow Y3 S11 2 v12 b10 | .inr b10 => e = .ret ∧ ∃ S13 : Cx n, ∃ v14 : SV, S13.m = m' ∧ S13.n = n' ∧ Cov l' [(2, .sc v14), (3, .sc (.int .i64 b10.2))] ∧ Ow Y3 S13 3 v14 b10.1)) (by exact ⟨S3, .nils, rfl, rfl, (Cov.cons rfl (Cov.cons rfl (Cov.cons rfl (Cov.cons rfl (Cov.cons rfl (Cov.nil _)))))), hot0, Ow.nil⟩) ?_ ?_
    · clear h
      rintro s6 q _ _ _ ⟨S15, v16, rfl, rfl, hc17, hot0, ho5⟩ h
      unfold F38_l2 at h
      refine WC.cov hc17 (WC.seq (WC.region ?_))
      refine WO.bin rfl rfl (by decide) (by decide) rfl ?_
      refine WO.nil (thenL_n (WC.seq ?_))
      refine WC.cond rfl (fun q18 => ?_) (fun q18 => ?_)
      · have h := iteT q18 h
        refine WC.skip (thenL_n (WC.seq (WC.block (WC.seq (WC.region (WO.mv rfl ?_))))))
        obtain ⟨x19, e20, h⟩ := bindS h
        refine WO.ixS rfl rfl hot0.slv (at?_lt e20) rfl ?_
        refine WO.ldF rfl hot0.ro (fun _ hi => hi) (at?_get e20) rfl rfl rfl ?_
        refine WO.asg rfl (WO.asg rfl (WO.nil (thenL_n (WC.seq (WC.seq (WC.region (WO.mv rfl ?_)))))))
        refine WO.bin rfl rfl (by decide) (by decide) rfl ?_
        refine WO.mv rfl ?_
        obtain ⟨y24, e25, h⟩ := bindS h
        refine WO.cutB (d := 31) 8 y24 (fun q23 => ?_) (fun q23 => ?_) ?_
        · have h := e25
          have h := iteT q23 h
          refine WO.gyes rfl rfl (WO.mv rfl (WO.gyes rfl rfl (WO.mv rfl (WO.gyes rfl rfl (WO.mv rfl (WO.gyes rfl rfl ?_))))))
          refine WO.bin rfl rfl (by decide) (by decide) rfl ?_
          refine WO.gyes rfl rfl ?_
          obtain ⟨x21, e22, h⟩ := bindS h
          refine WO.ixS rfl rfl hot0.slv (at?_lt e22) rfl ?_
          refine WO.gyes rfl rfl ?_
          refine WO.ldF rfl hot0.ro (fun _ hi => hi) (at?_get e22) rfl rfl rfl ?_
          refine WO.gyes rfl rfl ?_
          refine WO.bin rfl rfl (by decide) (by decide) rfl ?_
          obtain rfl := someI h
          refine WO.pickT rfl rfl ?_
          refine WO.nil ?_
          exact ⟨rfl, rfl, (Cov.cons rfl (Cov.skip rfl (Cov.skip rfl (Cov.skip rfl (Cov.skip rfl (Cov.skip rfl (Cov.skip rfl (Cov.skip rfl (Cov.skip rfl (Cov.skip rfl (Cov.refl _)))))))))))⟩
        · have h := e25
          have h := iteF q23 h
          obtain rfl := someI h
          refine WO.gno rfl rfl (WO.gno rfl rfl (WO.gno rfl rfl (WO.gno rfl rfl (WO.gno rfl rfl (WO.gno rfl rfl (WO.gno rfl rfl ?_))))))
          refine WO.pickF rfl rfl ?_
          refine WO.nil ?_
          exact ⟨rfl, rfl, (Cov.cons rfl (Cov.skip rfl (Cov.skip rfl (Cov.skip rfl (Cov.skip rfl (Cov.skip rfl (Cov.skip rfl (Cov.skip rfl (Cov.skip rfl (Cov.skip rfl (Cov.refl _)))))))))))⟩
        refine WO.nil (thenL_n ?_)
        refine WC.cond rfl (fun q26 => ?_) (fun q26 => ?_)
        · have h := iteT q26 h
          refine WC.seq (WC.region (WO.asg rfl (WO.asg rfl (WO.nil (thenL_n (WC.ret (thenL_r (blockL_r (thenL_r ?_)))))))))
          refine thenL_r ?_
          obtain rfl := someI h
          exact ⟨_, rfl, rfl, ⟨S15, .nils, rfl, rfl, (Cov.cons rfl (Cov.cons rfl (Cov.nil _))), Ow.nil⟩⟩
        · have h := iteF q26 h
          refine WC.skip (thenL_n (WC.seq (WC.region (WO.asg rfl (WO.nil (thenL_n (WC.seq (WC.block ?_))))))))
          obtain ⟨b33, e34, h⟩ := bindS h
          refine WC.loopD e34 (fun s27 l' m' n' => ∃ S28 : Cx n, S28.m = m' ∧ S28.n = n' ∧ Cov l' [(0, .sc vt0), (5, .sc v16), (7, .sc (.int .i64 s27.1)), (8, .sc (.int .i64 s27.2)), (14, .sc vt0), (15, .sc (.int .i64 ((t0.length : Int)))), (16, .sc (.int .i64 s6.2))] ∧ Rd Y3 S28 vt0 t0 ∧ Ow Y3 S28 2 v16 s6.1) (fun b e l' m' n' => e = .exit 2 ∧ ∃ S29 : Cx n, S29.m = m' ∧ S29.n = n' ∧ Cov l' [(0, .sc vt0), (5, .sc v16), (7, .sc (.int .i64 b.1)), (8, .sc (.int .i64 b.2)), (14, .sc vt0), (15, .sc (.int .i64 ((t0.length : Int)))), (16, .sc (.int .i64 s6.2))] ∧ Rd Y3 S29 vt0 t0 ∧ Ow Y3 S29 2 v16 s6.1) (by exact ⟨S15, rfl, rfl, (Cov.cons rfl (Cov.cons rfl (Cov.cons rfl (Cov.cons rfl (Cov.cons rfl (Cov.cons rfl (Cov.cons rfl (Cov.nil _)))))))), hot0, ho5⟩) ?_ ?_
          · clear h
            rintro s27 q _ _ _ ⟨S30, rfl, rfl, hc31, hot0, ho5⟩ h
            unfold F38_l0 at h
            refine WC.cov hc31 (WC.seq (WC.seq (WC.region (WO.mv rfl ?_))))
            refine WO.bin rfl rfl (by decide) (by decide) rfl ?_
            refine WO.bin rfl rfl (by decide) (by decide) rfl ?_
            refine WO.nil (thenL_n ?_)
            refine WC.cond rfl (fun q32 => ?_) (fun q32 => ?_)
            · have h := iteT q32 h
              refine WC.skip (thenL_n (WC.block (WC.region (WO.mv rfl ?_))))
              refine WO.bin rfl rfl (by decide) (by decide) rfl ?_
              refine WO.mv rfl ?_
              refine WO.bin rfl rfl (by decide) (by decide) rfl ?_
              refine WO.asg rfl (WO.asg rfl (WO.nil (blockL_n (thenL_n ?_))))
              obtain rfl := someI h
              exact ⟨_, rfl, ⟨S30, rfl, rfl, (Cov.cons rfl (Cov.cons rfl (Cov.cons rfl (Cov.cons rfl (Cov.cons rfl (Cov.cons rfl (Cov.cons rfl (Cov.nil _)))))))), hot0, ho5⟩⟩
            · have h := iteF q32 h
              refine WC.exit (thenL_e (thenL_e ?_))
              obtain rfl := someI h
              exact ⟨_, rfl, rfl, ⟨S30, rfl, rfl, (Cov.cons rfl (Cov.cons rfl (Cov.cons rfl (Cov.cons rfl (Cov.cons rfl (Cov.cons rfl (Cov.cons rfl (Cov.nil _)))))))), hot0, ho5⟩⟩
          rintro _ _ _ _ ⟨rfl, ⟨S35, rfl, rfl, hc36, hot0, ho5⟩⟩
          refine blockL_s (thenL_n (WC.cov hc36 (WC.seq (WC.region (WO.mv rfl (WO.mv rfl (WO.nil (thenL_n (WC.block ?_)))))))))
          obtain ⟨b57, e58, h⟩ := bindS h
          refine WC.loopD e58 (fun s37 l' m' n' => ∃ S39 : Cx n, ∃ v40 : SV, S39.m = m' ∧ S39.n = n' ∧ Cov l' [(0, .sc vt0), (5, .sc v40), (7, .sc (.int .i64 b33.1)), (14, .sc vt0), (15, .sc (.int .i64 ((t0.length : Int)))), (16, .sc (.int .i64 s6.2)), (39, .sc (.int .i64 b33.2)), (40, .sc (.int .i64 s37.2))] ∧ Rd Y3 S39 vt0 t0 ∧ Ow Y3 S39 2 v40 s37.1) (fun b e l' m' n' => e = .exit 4 ∧ ∃ S41 : Cx n, ∃ v42 : SV, S41.m = m' ∧ S41.n = n' ∧ Cov l' [(0, .sc vt0), (5, .sc v42), (14, .sc vt0), (15, .sc (.int .i64 ((t0.length : Int)))), (16, .sc (.int .i64 s6.2))] ∧ Rd Y3 S41 vt0 t0 ∧ Ow Y3 S41 2 v42 b) (by exact ⟨S35, v16, rfl, rfl, (Cov.cons rfl (Cov.cons rfl (Cov.cons rfl (Cov.cons rfl (Cov.cons rfl (Cov.cons rfl (Cov.cons rfl (Cov.cons rfl (Cov.nil _))))))))), hot0, ho5⟩) ?_ ?_
          · clear h
            rintro s37 q _ _ _ ⟨S43, v44, rfl, rfl, hc45, hot0, ho5⟩ h
            unfold F38_l1 at h
            refine WC.cov hc45 (WC.seq (WC.region ?_))
            refine WO.bin rfl rfl (by decide) (by decide) rfl ?_
            refine WO.nil (thenL_n (WC.seq ?_))
            refine WC.cond rfl (fun q46 => ?_) (fun q46 => ?_)
            · have h := iteT q46 h
              refine WC.skip (thenL_n (WC.seq (WC.block (WC.region (WO.mv rfl (WO.mv rfl ?_))))))
              refine WO.bsS (A := Y3) (S := S43) (M := [b33.1]) (cs := [.int .i64 b33.1]) 4 rfl rfl rfl ⟨[.int .i64 b33.1], _, rfl, rfl, rfl⟩ rfl (fun v47 S48 c49 ho50 => ?_)
              have hot0 := hot0.to c49
              have ho5 := ho5.to c49
              obtain ⟨L51, e52, h⟩ := bindS h
              refine WO.appS rfl rfl ho5 ho50.ro e52 rfl rfl (fun v53 S54 c55 ho56 => ?_)
              have hot0 := hot0.to c55
              have ho50 := ho50.to c55
              refine WO.asg rfl (WO.nil (blockL_n (thenL_n (WC.region ?_))))
              refine WO.bin rfl rfl (by decide) (by decide) rfl ?_
              refine WO.mv rfl (WO.nil (thenL_n ?_))
              obtain rfl := someI h
              exact ⟨_, rfl, ⟨S54, v53, rfl, rfl, (Cov.cons rfl (Cov.cons rfl (Cov.cons rfl (Cov.cons rfl (Cov.cons rfl (Cov.cons rfl (Cov.cons rfl (Cov.cons rfl (Cov.nil _))))))))), hot0, ho56⟩⟩
            · have h := iteF q46 h
              refine WC.exit (thenL_e (thenL_e ?_))
              obtain rfl := someI h
              exact ⟨_, rfl, rfl, ⟨S43, v44, rfl, rfl, (Cov.cons rfl (Cov.cons rfl (Cov.cons rfl (Cov.cons rfl (Cov.cons rfl (Cov.nil _)))))), hot0, ho5⟩⟩
          rintro _ _ _ _ ⟨rfl, ⟨S59, v60, rfl, rfl, hc61, hot0, ho5⟩⟩
          refine blockL_s (blockL_n (thenL_n (WC.cov hc61 (WC.region ?_))))
          refine WO.bin rfl rfl (by decide) (by decide) rfl ?_
          refine WO.mv rfl (WO.nil (thenL_n ?_))
          obtain rfl := someI h
          exact ⟨_, rfl, ⟨S59, v60, rfl, rfl, (Cov.cons rfl (Cov.cons rfl (Cov.cons rfl (Cov.cons rfl (Cov.cons rfl (Cov.nil _)))))), hot0, ho5⟩⟩
      · have h := iteF q18 h
        refine WC.exit (thenL_e (thenL_e ?_))
        obtain rfl := someI h
        exact ⟨_, rfl, rfl, ⟨S15, v16, rfl, rfl, (Cov.cons rfl (Cov.nil _)), ho5⟩⟩
    cases b62 with
    | inl b64 =>
      simp only at h
      rintro _ _ _ _ ⟨rfl, ⟨S65, v66, rfl, rfl, hc67, ho5⟩⟩
      refine blockL_s (thenL_n (WC.cov hc67 (WC.seq (WC.region (WO.mv rfl ?_)))))
      obtain ⟨r68, e69, h⟩ := bindS h
      refine WO.callI (S := S65) ho5 rfl rfl (fun bq hI hB => F110_111_ok F111_cp e69 S65.le hI) Lay.flat_fl (fun S70 c71 ho5 => ?_)
      refine WO.nil (thenL_n (WC.seq (WC.region (WO.mv rfl (WO.asg rfl (WO.asg rfl (WO.nil (thenL_n (WC.ret ?_)))))))))
      obtain rfl := someI h
      exact ⟨.inr rfl, _, _, rfl, rfl, ⟨v66, rfl, (ho5.fr Lay.flat_fl)⟩⟩
    | inr b64 =>
      simp only at h
      rintro _ _ _ _ ⟨rfl, ⟨S72, v73, rfl, rfl, hc74, ho2⟩⟩
      refine blockL_r (thenL_r ?_)
      obtain rfl := someI h
      exact ⟨.inr rfl, _, _, (resK_cov hc74 rfl), rfl, ⟨v73, rfl, (ho2.fr Lay.flat_fl)⟩⟩
end Go.Proofs.Ytihmliblbhjlaaa

namespace Go.Proofs.Ytihmliblbhjlaaa
open Go.Am
theorem F112.fn : E.fn 112 = some ⟨8, (Try.f112.body.getD .skip), Try.f112.results.toList, []⟩ := rfl
theorem F112_ok {F : Nat} {m : Mem} {n : Nat} {r : Int} {t0 : Int} {t1 : Int} (h : F112 F t0 t1 = some r)  : Ret E n 112 [.sc (.int .i64 t0), .sc (.int .i64 t1)] m n (fun v m' n' => v = .sc (.int .i64 r)) := by
  unfold F112 at h
  refine Ret.walk F112.fn ?_
  refine WC.start fun S0 em en hz => ?_
  refine WC.seq (WC.region (WO.asg rfl (WO.nil (thenL_n (WC.seq (WC.region (WO.mv rfl (WO.mv rfl ?_))))))))
  refine WO.bin rfl rfl (by decide) (by decide) rfl ?_
  refine WO.asg rfl (WO.nil (thenL_n (WC.ret ?_)))
  obtain rfl := someI h
  exact ⟨.inr rfl, _, _, rfl, rfl, rfl⟩
theorem F112_cp : Cp 112 := @fun F _ _ _ _ _ h => F112_ok (F := F) h
end Go.Proofs.Ytihmliblbhjlaaa

namespace Go.Proofs.Ytihmliblbhjlaaa
open Go.Am
theorem F39.fn : E.fn 39 = some ⟨56, (Try.f39.body.getD .skip), Try.f39.results.toList, []⟩ := rfl
theorem F39_ok {F : Nat} {m : Mem} {n : Nat} {r : (List Int) × Int} {t0 : List Int} {vt0 : SV} (h : F39 F t0 = some r) (kt0 : Vw Y3 n m vt0 t0) : Ret E n 39 [.sc vt0] m n (fun v m' n' => ∃ w, v = .tup [.sc w, .sc (.int .i64 r.2)] ∧ Fr Y3 n m' n' w r.1) := by
  unfold F39 at h
  refine Ret.walk F39.fn ?_
  refine WC.start fun S0 em en hz => ?_
  have hot0 := kt0.rdS em hz
  refine WC.seq (WC.region (WO.asg rfl (WO.asg rfl (WO.nil (thenL_n (WC.seq (WC.seq (WC.region (WO.mv rfl ?_)))))))))
  obtain ⟨r1, e2, h⟩ := bindS h
  refine WO.callE (S := S0) rfl rfl (F42_ok e2 hot0.vw) (fun S3 c4 => ?_)
  have hot0 := hot0.to c4
  refine WO.asg rfl (WO.nil (thenL_n (WC.seq (WC.region (WO.mv rfl ?_)))))
  refine WO.bin rfl rfl (by decide) (by decide) rfl ?_
  refine WO.nil (thenL_n ?_)
  refine WC.cond rfl (fun q5 => ?_) (fun q5 => ?_)
  · have h := iteT q5 h
    refine WC.seq (WC.region (WO.mv rfl (WO.asg rfl (WO.asg rfl (WO.nil (thenL_n (WC.ret (thenL_r ?_))))))))
    obtain rfl := someI h
    exact ⟨.inr rfl, _, _, rfl, rfl, ⟨.nils, rfl, Fr.nil⟩⟩
  · have h := iteF q5 h
    refine WC.skip (thenL_n (WC.seq (WC.region ?_)))
    refine WO.alS (A := Y134) (S := S3) (z0 := (List.replicate 41 0)) 2 rfl ⟨rfl, rfl⟩ rfl (fun v6 S7 c8 ho9 => ?_)
    have hot0 := hot0.to c8
    refine WO.nil (thenL_n (WC.seq (WC.seq (WC.region (WO.mv rfl ?_)))))
    refine WO.lenS rfl hot0.slv rfl ?_
    refine WO.mv rfl (WO.nil (thenL_n (WC.block ?_)))
    obtain ⟨b28, e29, h⟩ := bindS h
    refine WC.loopD e29 (fun s10 l' m' n' => ∃ S11 : Cx n, S11.m = m' ∧ S11.n = n' ∧ Cov l' [(5, .sc v6), (17, .sc vt0), (18, .sc (.int .i64 ((t0.length : Int)))), (19, .sc (.int .i64 s10.1))] ∧ Bk Y134 S11 2 v6 s10.2 ∧ Rd Y3 S11 vt0 t0) (fun b e l' m' n' => (match b with | .inl b12 => e = .exit 0 ∧ ∃ S13 : Cx n, S13.m = m' ∧ S13.n = n' ∧ Cov l' [(5, .sc v6)] ∧ Bk Y134 S13 2 v6 b12 | .inr b12 => e = .ret ∧ ∃ S14 : Cx n, ∃ v15 : SV, S14.m = m' ∧ S14.n = n' ∧ Cov l' [(2, .sc v15), (3, .sc (.int .i64 b12.2))] ∧ Ow Y3 S14 3 v15 b12.1)) (by exact ⟨S7, rfl, rfl, (Cov.cons rfl (Cov.cons rfl (Cov.cons rfl (Cov.cons rfl (Cov.nil _))))), ho9, hot0⟩) ?_ ?_
    · clear h
      rintro s10 q _ _ _ ⟨S16, rfl, rfl, hc17, ho9, hot0⟩ h
      unfold F39_l0 at h
      refine WC.cov hc17 (WC.seq (WC.region ?_))
      refine WO.bin rfl rfl (by decide) (by decide) rfl ?_
      refine WO.nil (thenL_n (WC.seq ?_))
      refine WC.cond rfl (fun q18 => ?_) (fun q18 => ?_)
      · have h := iteT q18 h
        refine WC.skip (thenL_n (WC.seq (WC.block (WC.seq (WC.region ?_)))))
        obtain ⟨x19, e20, h⟩ := bindS h
        refine WO.ixS rfl rfl hot0.slv (at?_lt e20) rfl ?_
        refine WO.ldF rfl hot0.ro (fun _ hi => hi) (at?_get e20) rfl rfl rfl ?_
        refine WO.asg rfl (WO.nil (thenL_n (WC.seq (WC.seq (WC.region (WO.mv rfl ?_))))))
        refine WO.bin rfl rfl (by decide) (by decide) rfl ?_
        refine WO.bin rfl rfl (by decide) (by decide) rfl ?_
        refine WO.nil (thenL_n ?_)
        refine WC.cond rfl (fun q21 => ?_) (fun q21 => ?_)
        · have h := iteT q21 h
          refine WC.seq (WC.region (WO.asg rfl (WO.asg rfl (WO.nil (thenL_n (WC.ret (thenL_r (blockL_r (thenL_r ?_)))))))))
          refine thenL_r ?_
          obtain rfl := someI h
          exact ⟨_, rfl, rfl, ⟨S16, .nils, rfl, rfl, (Cov.cons rfl (Cov.cons rfl (Cov.nil _))), Ow.nil⟩⟩
        · have h := iteF q21 h
          refine WC.skip (thenL_n (WC.region (WO.mv rfl ?_)))
          obtain ⟨x22, e23, h⟩ := bindS h
          refine WO.ixR rfl ho9 rfl (at?_lt e23) rfl ?_
          refine WO.ldR rfl rfl ho9 (at?_get e23) rfl rfl ?_
          refine WO.bin rfl rfl (by decide) (by decide) rfl ?_
          obtain ⟨u24, e25, h⟩ := bindS h
          refine WO.ixR rfl ho9 rfl (ck_some e25) rfl ?_
          refine WO.stR rfl rfl rfl ho9 (ck_nat e25) rfl rfl (fun S26 c27 ho9 => ?_)
          have hot0 := hot0.to c27
          refine WO.nil (blockL_n (thenL_n (WC.region ?_)))
          refine WO.bin rfl rfl (by decide) (by decide) rfl ?_
          refine WO.mv rfl (WO.nil (thenL_n ?_))
          obtain rfl := someI h
          exact ⟨_, rfl, ⟨S26, rfl, rfl, (Cov.cons rfl (Cov.cons rfl (Cov.cons rfl (Cov.cons rfl (Cov.nil _))))), ho9, hot0⟩⟩
      · have h := iteF q18 h
        refine WC.exit (thenL_e (thenL_e ?_))
        obtain rfl := someI h
        exact ⟨_, rfl, rfl, ⟨S16, rfl, rfl, (Cov.cons rfl (Cov.nil _)), ho9⟩⟩
    cases b28 with
    | inl b30 =>
      simp only at h
      rintro _ _ _ _ ⟨rfl, ⟨S31, rfl, rfl, hc32, ho9⟩⟩
      refine blockL_s (thenL_n (WC.cov hc32 (WC.seq (WC.region (WO.asg rfl (WO.nil (thenL_n (WC.seq (WC.seq ?_)))))))))
      refine WC.region ?_
      refine WO.ldV (j := 0) rfl ho9.at0 ho9 rfl rfl (fun hv33 => ?_)
      refine WO.mv rfl (WO.nil (thenL_n (WC.block ?_)))
      obtain ⟨b72, e73, h⟩ := bindS h
      refine WC.loopD e73 (fun s34 l' m' n' => ∃ S36 : Cx n, ∃ v37 : SV, S36.m = m' ∧ S36.n = n' ∧ Cov l' [(8, .sc v37), (32, .agg (List.map (SV.int .i64) b30)), (33, .sc (.int .i64 s34.2))] ∧ Ow Y3 S36 4 v37 s34.1) (fun b e l' m' n' => e = .exit 2 ∧ ∃ S38 : Cx n, ∃ v39 : SV, S38.m = m' ∧ S38.n = n' ∧ Cov l' [(8, .sc v39)] ∧ Ow Y3 S38 4 v39 b) (by exact ⟨S31, .nils, rfl, rfl, (Cov.cons rfl (Cov.cons rfl (Cov.cons rfl (Cov.nil _)))), Ow.nil⟩) ?_ ?_
      · clear h
        rintro s34 q _ _ _ ⟨S40, v41, rfl, rfl, hc42, ho8⟩ h
        unfold F39_l2 at h
        refine WC.cov hc42 (WC.seq (WC.region ?_))
        refine WO.bin rfl rfl (by decide) (by decide) rfl ?_
        refine WO.nil (thenL_n (WC.seq ?_))
        refine WC.cond rfl (fun q43 => ?_) (fun q43 => ?_)
        · have h := iteT q43 h
          refine WC.skip (thenL_n (WC.seq (WC.block (WC.seq (WC.region (WO.mv rfl ?_))))))
          obtain ⟨x44, e45, h⟩ := bindS h
          refine WO.ixV (g := (SV.int .i64)) rfl hv33 rfl e45 rfl ?_
          refine WO.asg rfl (WO.asg rfl (WO.nil (thenL_n (WC.seq (WC.region (WO.asg rfl (WO.nil (thenL_n (WC.block ?_)))))))))
          obtain ⟨b67, e68, h⟩ := bindS h
          refine WC.loopD e68 (fun s46 l' m' n' => ∃ S48 : Cx n, ∃ v49 : SV, S48.m = m' ∧ S48.n = n' ∧ Cov l' [(8, .sc v49), (9, .sc (.int .i64 s34.2)), (10, .sc (.int .i64 s46.2.1)), (11, .sc (.int .i64 s46.2.2)), (32, .agg (List.map (SV.int .i64) b30)), (33, .sc (.int .i64 s34.2))] ∧ Ow Y3 S48 4 v49 s46.1) (fun b e l' m' n' => e = .exit 4 ∧ ∃ S50 : Cx n, ∃ v51 : SV, S50.m = m' ∧ S50.n = n' ∧ Cov l' [(8, .sc v51), (32, .agg (List.map (SV.int .i64) b30)), (33, .sc (.int .i64 s34.2))] ∧ Ow Y3 S50 4 v51 b) (by exact ⟨S40, v41, rfl, rfl, (Cov.cons rfl (Cov.cons rfl (Cov.cons rfl (Cov.cons rfl (Cov.cons rfl (Cov.cons rfl (Cov.nil _))))))), ho8⟩) ?_ ?_
          · clear h
            rintro s46 q _ _ _ ⟨S52, v53, rfl, rfl, hc54, ho8⟩ h
            unfold F39_l1 at h
            refine WC.cov hc54 (WC.seq (WC.seq (WC.region (WO.mv rfl ?_))))
            refine WO.bin rfl rfl (by decide) (by decide) rfl ?_
            refine WO.nil (thenL_n ?_)
            refine WC.cond rfl (fun q55 => ?_) (fun q55 => ?_)
            · have h := iteT q55 h
              refine WC.skip (thenL_n (WC.seq (WC.block (WC.seq (WC.region (WO.mv rfl ?_))))))
              refine WO.bin rfl rfl (by decide) (by decide) rfl ?_
              refine WO.bin rfl rfl (by decide) (by decide) rfl ?_
              refine WO.nil (thenL_n ?_)
              refine WC.cond rfl (fun q56 => ?_) (fun q56 => ?_)
              · have h := iteT q56 h
                refine WC.region (WO.mv rfl (WO.mv rfl (WO.mv rfl ?_)))
                refine WO.bin rfl rfl (by decide) (by decide) rfl ?_
                refine WO.bsS (A := Y3) (S := S52) (M := [(wrapA .i64 (s34.2 * s46.2.2))]) (cs := [.int .i64 ((wrapA .i64 (s34.2 * s46.2.2)))]) 5 rfl rfl rfl ⟨[.int .i64 ((wrapA .i64 (s34.2 * s46.2.2)))], _, rfl, rfl, rfl⟩ rfl (fun v57 S58 c59 ho60 => ?_)
                have ho8 := ho8.to c59
                obtain ⟨L61, e62, h⟩ := bindS h
                refine WO.appS rfl rfl ho8 ho60.ro e62 rfl rfl (fun v63 S64 c65 ho66 => ?_)
                have ho60 := ho60.to c65
                refine WO.asg rfl (WO.nil (blockL_n (thenL_n (WC.region (WO.mv rfl ?_)))))
                refine WO.bin rfl rfl (by decide) (by decide) rfl ?_
                refine WO.mv rfl ?_
                refine WO.bin rfl rfl (by decide) (by decide) rfl ?_
                refine WO.asg rfl (WO.asg rfl (WO.nil (thenL_n ?_)))
                obtain rfl := someI h
                exact ⟨_, rfl, ⟨S64, v63, rfl, rfl, (Cov.cons rfl (Cov.cons rfl (Cov.cons rfl (Cov.cons rfl (Cov.cons rfl (Cov.cons rfl (Cov.nil _))))))), ho66⟩⟩
              · have h := iteF q56 h
                refine WC.skip (blockL_n (thenL_n (WC.region (WO.mv rfl ?_))))
                refine WO.bin rfl rfl (by decide) (by decide) rfl ?_
                refine WO.mv rfl ?_
                refine WO.bin rfl rfl (by decide) (by decide) rfl ?_
                refine WO.asg rfl (WO.asg rfl (WO.nil (thenL_n ?_)))
                obtain rfl := someI h
                exact ⟨_, rfl, ⟨S52, v53, rfl, rfl, (Cov.cons rfl (Cov.cons rfl (Cov.cons rfl (Cov.cons rfl (Cov.cons rfl (Cov.cons rfl (Cov.nil _))))))), ho8⟩⟩
            · have h := iteF q55 h
              refine WC.exit (thenL_e (thenL_e ?_))
              obtain rfl := someI h
              exact ⟨_, rfl, rfl, ⟨S52, v53, rfl, rfl, (Cov.cons rfl (Cov.cons rfl (Cov.cons rfl (Cov.nil _)))), ho8⟩⟩
          rintro _ _ _ _ ⟨rfl, ⟨S69, v70, rfl, rfl, hc71, ho8⟩⟩
          refine blockL_s (blockL_n (thenL_n (WC.cov hc71 (WC.region ?_))))
          refine WO.bin rfl rfl (by decide) (by decide) rfl ?_
          refine WO.mv rfl (WO.nil (thenL_n ?_))
          obtain rfl := someI h
          exact ⟨_, rfl, ⟨S69, v70, rfl, rfl, (Cov.cons rfl (Cov.cons rfl (Cov.cons rfl (Cov.nil _)))), ho8⟩⟩
        · have h := iteF q43 h
          refine WC.exit (thenL_e (thenL_e ?_))
          obtain rfl := someI h
          exact ⟨_, rfl, rfl, ⟨S40, v41, rfl, rfl, (Cov.cons rfl (Cov.nil _)), ho8⟩⟩
      rintro _ _ _ _ ⟨rfl, ⟨S74, v75, rfl, rfl, hc76, ho8⟩⟩
      refine blockL_s (thenL_n (WC.cov hc76 (WC.seq (WC.region (WO.mv rfl ?_)))))
      obtain ⟨r77, e78, h⟩ := bindS h
      refine WO.callI (S := S74) ho8 rfl rfl (fun bq hI hB => F110_111_ok F112_cp e78 S74.le hI) Lay.flat_fl (fun S79 c80 ho8 => ?_)
      refine WO.nil (thenL_n (WC.seq (WC.region (WO.mv rfl (WO.asg rfl (WO.asg rfl (WO.nil (thenL_n (WC.ret ?_)))))))))
      obtain rfl := someI h
      exact ⟨.inr rfl, _, _, rfl, rfl, ⟨v75, rfl, (ho8.fr Lay.flat_fl)⟩⟩
    | inr b30 =>
      simp only at h
      rintro _ _ _ _ ⟨rfl, ⟨S81, v82, rfl, rfl, hc83, ho2⟩⟩
      refine blockL_r (thenL_r ?_)
      obtain rfl := someI h
      exact ⟨.inr rfl, _, _, (resK_cov hc83 rfl), rfl, ⟨v82, rfl, (ho2.fr Lay.flat_fl)⟩⟩
end Go.Proofs.Ytihmliblbhjlaaa

/- The machine answers F154_159: printed by a program of ours (gen.py). -/
import Derived.Test.YtihmliblbhjlaaaDef
import Derived.Test.YtihmliblbhjlaaaEnv
import Derived.Test.YtihmliblbhjlaaaF169_159
set_option linter.unusedVariables false
namespace Go.Proofs.Ytihmliblbhjlaaa
open Go.Am
theorem F154_159.fn : E.fn 154 = some ⟨148, (Try.f154.body.getD .skip), Try.f154.results.toList, []⟩ := rfl
theorem F154_159_ok {F : Nat} {m : Mem} {n : Nat} {r : (List Int)} {t0 : List Int} {t1 : Int} {t2 : Int} {t3 : Int} {vt0 : SV} {fl : Nat} {bw : Nat} (h : F154_159 F t0 t1 t2 t3 = some r) (hfl : fl ≤ n) (kt0 : Iv Y3 fl n bw m vt0 t0) : Ret E fl 154 [.sc vt0, .sc (.int .i64 t1), .sc (.int .i64 t2), .sc (.int .i64 t3), .sc (.fn 159 [])] m n (fun v m' n' => v = .tup [] ∧ Ip Y3 n bw m m' vt0 r) := by
  unfold F154_159 at h
  refine Ret.walk F154_159.fn ?_
  refine WC.startI (b := bw) hfl fun S0 em en hz hbw => ?_
  have hot0 := kt0.iw em en hz hbw
  refine WC.seq ?_
  refine WC.region ?_
  refine WO.asg rfl ?_
  refine WO.nil ?_
  refine thenL_n ?_
  refine WC.seq ?_
  refine WC.region ?_
  refine WO.asg rfl ?_
  refine WO.nil ?_
  refine thenL_n ?_
  refine WC.block ?_
  obtain ⟨b18, e19, h⟩ := bindS h
  refine WC.loopD e19 (fun s1 l' m' n' => ∃ S2 : Cx fl, S2.m = m' ∧ S2.n = n' ∧ Cov l' [(0, .sc vt0), (1, .sc (.int .i64 s1.1)), (2, .sc (.int .i64 s1.2.1)), (3, .sc (.int .i64 s1.2.2.1)), (4, .sc (.fn 159 [])), (10, .sc (.bool s1.2.2.2.1)), (11, .sc (.bool s1.2.2.2.2.1))] ∧ Iw Y3 S2 2 n bw m vt0 s1.2.2.2.2.2) (fun b e l' m' n' => e = .ret ∧ ∃ S3 : Cx fl, S3.m = m' ∧ S3.n = n' ∧ Cov l' [(0, .sc vt0)] ∧ Iw Y3 S3 2 n bw m vt0 b) (by exact ⟨S0, rfl, rfl, (Cov.cons rfl (Cov.cons rfl (Cov.cons rfl (Cov.cons rfl (Cov.cons rfl (Cov.cons rfl (Cov.cons rfl (Cov.nil _)))))))), hot0⟩) ?_ ?_
  · clear h
    rintro s1 q _ _ _ ⟨S4, rfl, rfl, hc5, hot0⟩ h
    unfold F154_159_l0 at h
    refine WC.cov hc5 ?_
    refine WC.block ?_
    refine WC.seq ?_
    refine WC.region ?_
    refine WO.mv rfl ?_
    refine WO.mv rfl ?_
    refine WO.bin rfl rfl (by decide) (by decide) rfl ?_
    refine WO.asg rfl ?_
    refine WO.nil ?_
    refine thenL_n ?_
    refine WC.seq ?_
    refine WC.seq ?_
    refine WC.region ?_
    refine WO.mv rfl ?_
    refine WO.bin rfl rfl (by decide) (by decide) rfl ?_
    refine WO.nil ?_
    refine thenL_n ?_
    refine WC.cond rfl (fun q6 => ?_) (fun q6 => ?_)
    · have h := iteT q6 h
      refine WC.seq ?_
      refine WC.region ?_
      refine WO.mv rfl ?_
      refine WO.mv rfl ?_
      refine WO.mv rfl ?_
      refine WO.mv rfl ?_
      obtain ⟨r7, e8, h⟩ := bindS h
      refine WO.callW (S := S4) hot0 rfl rfl rfl (fun bq hI hB => F169_159_ok e8 S4.le hI) Lay.flat_fl (fun S9 c10 hot0 => ?_)
      refine WO.nil ?_
      refine thenL_n ?_
      refine WC.ret ?_
      refine thenL_r ?_
      refine blockL_r ?_
      refine thenL_r ?_
      obtain rfl := someI h
      exact ⟨_, rfl, rfl, ⟨S9, rfl, rfl, (Cov.cons rfl (Cov.nil _)), hot0⟩⟩
    · have h := iteF q6 h
      refine WC.skip ?_
      refine thenL_n ?_
      refine WC.seq ?_
      refine WC.seq ?_
      refine WC.region ?_
      refine WO.mv rfl ?_
      refine WO.bin rfl rfl (by decide) (by decide) rfl ?_
      refine WO.nil ?_
      refine thenL_n ?_
      refine WC.cond rfl (fun q11 => ?_) (fun q11 => ?_)
      · have h := iteT q11 h
        refine WC.seq ?_
        refine WC.region ?_
        refine WO.mv rfl ?_
        refine WO.mv rfl ?_
        refine WO.mv rfl ?_
        refine WO.mv rfl ?_
        cases h
      · have h := iteF q11 h
        refine WC.skip ?_
        refine thenL_n ?_
        refine WC.seq ?_
        refine WC.seq ?_
        refine WC.region ?_
        refine WO.mv rfl ?_
        refine WO.do rfl rfl ?_
        refine WO.nil ?_
        refine thenL_n ?_
        obtain ⟨b13, e14, h⟩ := bindS h
        refine WC.mono (Q' := (fun b e l' m' n' => e = .normal ∧ ∃ S15 : Cx fl, S15.m = m' ∧ S15.n = n' ∧ Cov l' [(0, .sc vt0), (1, .sc (.int .i64 s1.1)), (2, .sc (.int .i64 s1.2.1)), (3, .sc (.int .i64 b.1)), (4, .sc (.fn 159 [])), (10, .sc (.bool s1.2.2.2.1)), (11, .sc (.bool s1.2.2.2.2.1)), (12, .sc (.int .i64 ((wrapA .i64 (s1.2.1 - s1.1)))))] ∧ Iw Y3 S15 2 n bw m vt0 b.2) b13) ?_ ?_
        · have h := e14
          dsimp only at h ⊢
          refine WC.cond rfl (fun q12 => ?_) (fun q12 => ?_)
          · have h := iteT q12 h
            refine WC.seq ?_
            refine WC.region ?_
            refine WO.mv rfl ?_
            refine WO.mv rfl ?_
            refine WO.mv rfl ?_
            refine WO.mv rfl ?_
            cases h
          · have h := iteF q12 h
            refine WC.skip ?_
            obtain rfl := someI h
            exact ⟨rfl, ⟨S4, rfl, rfl, (Cov.cons rfl (Cov.cons rfl (Cov.cons rfl (Cov.cons rfl (Cov.cons rfl (Cov.cons rfl (Cov.cons rfl (Cov.cons rfl (Cov.nil _))))))))), hot0⟩⟩
        dsimp only
        rintro _ _ _ _ ⟨rfl, ⟨S16, rfl, rfl, hc17, hot0⟩⟩
        refine thenL_n ?_
        refine WC.cov hc17 ?_
        refine WC.seq ?_
        refine WC.region ?_
        refine WO.mv rfl ?_
        refine WO.mv rfl ?_
        refine WO.mv rfl ?_
        refine WO.mv rfl ?_
        cases h
  rintro _ _ _ _ ⟨rfl, ⟨S20, rfl, rfl, hc21, hot0⟩⟩
  refine blockL_r ?_
  obtain rfl := someI h
  exact ⟨.inr rfl, _, _, (resK_cov hc21 rfl), rfl, ⟨rfl, hot0.ip Lay.flat_fl⟩⟩
end Go.Proofs.Ytihmliblbhjlaaa

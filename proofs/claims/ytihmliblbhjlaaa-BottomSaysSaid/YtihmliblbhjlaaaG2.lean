/- The machine answers the functions' texts: printed by a program of ours (gen.py). -/
import Derived.Test.YtihmliblbhjlaaaG1
set_option linter.unusedVariables false
namespace Go.Proofs.Ytihmliblbhjlaaa
open Go.Am
theorem F134.fn : E.fn 134 = some ⟨19, (Try.f134.body.getD .skip), Try.f134.results.toList, []⟩ := rfl
theorem F134_ok {F : Nat} {m : Mem} {n : Nat} {r : Int} {t0 : List (List UInt8)} {t1 : List UInt8} {vt0 : SV} (h : F134 F t0 t1 = some r) (kt0 : Vw Y9 n m vt0 t0) : Ret E n 134 [.sc vt0, .sc (.str t1)] m n (fun v m' n' => v = .sc (.int .i64 r)) := by
  unfold F134 at h
  refine Ret.walk F134.fn ?_
  refine WC.start fun S0 em en hz => ?_
  have hot0 := kt0.rdS em hz
  refine WC.seq ?_
  refine WC.region ?_
  refine WO.asg rfl ?_
  refine WO.nil ?_
  refine thenL_n ?_
  refine WC.seq ?_
  refine WC.seq ?_
  refine WC.region ?_
  refine WO.mv rfl ?_
  refine WO.lenS rfl hot0.slv rfl ?_
  refine WO.mv rfl ?_
  refine WO.nil ?_
  refine thenL_n ?_
  refine WC.block ?_
  obtain ⟨b12, e13, h⟩ := bindS h
  refine WC.loopD e13 (fun s1 l' m' n' => ∃ S2 : Cx n, S2.m = m' ∧ S2.n = n' ∧ Cov l' [(0, .sc vt0), (1, .sc (.str t1)), (7, .sc (.int .i64 ((t0.length : Int)))), (8, .sc (.int .i64 s1))] ∧ Rd Y9 S2 vt0 t0) (fun b e l' m' n' => (match b with | .inl b3 => e = .exit 0 ∧ ∃ S4 : Cx n, S4.m = m' ∧ S4.n = n' ∧ Cov l' [] | .inr b3 => e = .ret ∧ ∃ S5 : Cx n, S5.m = m' ∧ S5.n = n' ∧ Cov l' [(4, .sc (.int .i64 b3))])) (by exact ⟨S0, rfl, rfl, (Cov.cons rfl (Cov.cons rfl (Cov.cons rfl (Cov.cons rfl (Cov.nil _))))), hot0⟩) ?_ ?_
  · clear h
    rintro s1 q _ _ _ ⟨S6, rfl, rfl, hc7, hot0⟩ h
    unfold F134_l0 at h
    refine WC.cov hc7 ?_
    refine WC.seq ?_
    refine WC.region ?_
    refine WO.bin rfl rfl (by decide) (by decide) rfl ?_
    refine WO.nil ?_
    refine thenL_n ?_
    refine WC.seq ?_
    refine WC.cond rfl (fun q8 => ?_) (fun q8 => ?_)
    · have h := iteT q8 h
      refine WC.skip ?_
      refine thenL_n ?_
      refine WC.seq ?_
      refine WC.block ?_
      refine WC.seq ?_
      refine WC.region ?_
      refine WO.mv rfl ?_
      refine WO.asg rfl ?_
      refine WO.nil ?_
      refine thenL_n ?_
      refine WC.seq ?_
      refine WC.region ?_
      refine WO.mv rfl ?_
      refine WO.mv rfl ?_
      refine WO.mv rfl ?_
      obtain ⟨x9, e10, h⟩ := bindS h
      refine WO.ixS rfl rfl hot0.slv (at?_lt e10) rfl ?_
      refine WO.ldF rfl hot0.ro (fun _ hi => hi) (at?_get e10) rfl rfl rfl ?_
      refine WO.do rfl rfl ?_
      refine WO.nil ?_
      refine thenL_n ?_
      refine WC.cond rfl (fun q11 => ?_) (fun q11 => ?_)
      · have h := iteT q11 h
        refine WC.seq ?_
        refine WC.region ?_
        refine WO.mv rfl ?_
        refine WO.asg rfl ?_
        refine WO.nil ?_
        refine thenL_n ?_
        refine WC.ret ?_
        refine blockL_r ?_
        refine thenL_r ?_
        refine thenL_r ?_
        obtain rfl := someI h
        exact ⟨_, rfl, rfl, ⟨S6, rfl, rfl, (Cov.cons rfl (Cov.nil _))⟩⟩
      · have h := iteF q11 h
        refine WC.skip ?_
        refine blockL_n ?_
        refine thenL_n ?_
        refine WC.region ?_
        refine WO.bin rfl rfl (by decide) (by decide) rfl ?_
        refine WO.mv rfl ?_
        refine WO.nil ?_
        refine thenL_n ?_
        obtain rfl := someI h
        exact ⟨_, rfl, ⟨S6, rfl, rfl, (Cov.cons rfl (Cov.cons rfl (Cov.cons rfl (Cov.cons rfl (Cov.nil _))))), hot0⟩⟩
    · have h := iteF q8 h
      refine WC.exit ?_
      refine thenL_e ?_
      refine thenL_e ?_
      obtain rfl := someI h
      exact ⟨_, rfl, rfl, ⟨S6, rfl, rfl, (Cov.nil _)⟩⟩
  cases b12 with
  | inl b14 =>
    simp only at h
    rintro _ _ _ _ ⟨rfl, ⟨S15, rfl, rfl, hc16⟩⟩
    refine blockL_s ?_
    refine thenL_n ?_
    refine WC.cov hc16 ?_
    refine WC.seq ?_
    refine WC.region ?_
    refine WO.asg rfl ?_
    refine WO.nil ?_
    refine thenL_n ?_
    refine WC.ret ?_
    obtain rfl := someI h
    exact ⟨.inr rfl, _, _, rfl, rfl, rfl⟩
  | inr b14 =>
    simp only at h
    rintro _ _ _ _ ⟨rfl, ⟨S17, rfl, rfl, hc18⟩⟩
    refine blockL_r ?_
    refine thenL_r ?_
    obtain rfl := someI h
    exact ⟨.inr rfl, _, _, (resK_cov hc18 rfl), rfl, rfl⟩
end Go.Proofs.Ytihmliblbhjlaaa

namespace Go.Proofs.Ytihmliblbhjlaaa
open Go.Am
theorem F70.fn : E.fn 70 = some ⟨9, (Try.f70.body.getD .skip), Try.f70.results.toList, []⟩ := rfl
theorem F70_ok {F : Nat} {m : Mem} {n : Nat} {r : Bool} {t0 : List (List UInt8)} {t1 : List UInt8} {vt0 : SV} (h : F70 F t0 t1 = some r) (kt0 : Vw Y9 n m vt0 t0) : Ret E n 70 [.sc vt0, .sc (.str t1)] m n (fun v m' n' => v = .sc (.bool r)) := by
  unfold F70 at h
  refine Ret.walk F70.fn ?_
  refine WC.start fun S0 em en hz => ?_
  have hot0 := kt0.rdS em hz
  refine WC.seq ?_
  refine WC.region ?_
  refine WO.asg rfl ?_
  refine WO.nil ?_
  refine thenL_n ?_
  refine WC.seq ?_
  refine WC.region ?_
  refine WO.mv rfl ?_
  refine WO.mv rfl ?_
  obtain ⟨r1, e2, h⟩ := bindS h
  refine WO.callE (S := S0) rfl rfl (F134_ok e2 hot0.vw) (fun S3 c4 => ?_)
  have hot0 := hot0.to c4
  refine WO.bin rfl rfl (by decide) (by decide) rfl ?_
  refine WO.asg rfl ?_
  refine WO.nil ?_
  refine thenL_n ?_
  refine WC.ret ?_
  obtain rfl := someI h
  exact ⟨.inr rfl, _, _, rfl, rfl, rfl⟩
end Go.Proofs.Ytihmliblbhjlaaa

namespace Go.Proofs.Ytihmliblbhjlaaa
open Go.Am
theorem F60.fn : E.fn 60 = some ⟨45, (Try.f60.body.getD .skip), Try.f60.results.toList, []⟩ := rfl
theorem F60_ok {F : Nat} {m : Mem} {n : Nat} {r : Int × Int × Int} {t0 : Int × (List (List UInt8))} {t1 : Int × (List (List UInt8))} {vt0_1 : SV} {vt1_1 : SV} (h : F60 F t0 t1 = some r) (kt0_1 : Vw Y9 n m vt0_1 t0.2) (kt1_1 : Vw Y9 n m vt1_1 t1.2) : Ret E n 60 [.agg [.int .i64 t0.1, vt0_1], .agg [.int .i64 t1.1, vt1_1]] m n (fun v m' n' => v = .tup [.sc (.int .i64 r.1), .sc (.int .i64 r.2.1), .sc (.int .i64 r.2.2)]) := by
  unfold F60 at h
  refine Ret.walk F60.fn ?_
  refine WC.start fun S0 em en hz => ?_
  have hot0_1 := kt0_1.rdS em hz
  have hot1_1 := kt1_1.rdS em hz
  refine WC.seq ?_
  refine WC.region ?_
  refine WO.bxW (S := S0) (cs := [.int .i64 t0.1, vt0_1]) 2 rfl rfl rfl (fun b1 S2 c3 ho4 => ?_)
  have hot0_1 := hot0_1.to c3
  have hot1_1 := hot1_1.to c3
  refine WO.bxW (S := S2) (cs := [.int .i64 t1.1, vt1_1]) 3 rfl rfl rfl (fun b5 S6 c7 ho8 => ?_)
  have hot0_1 := hot0_1.to c7
  have hot1_1 := hot1_1.to c7
  have ho4 := ho4.to c7
  refine WO.asg rfl ?_
  refine WO.asg rfl ?_
  refine WO.asg rfl ?_
  refine WO.nil ?_
  refine thenL_n ?_
  refine WC.seq ?_
  refine WC.region ?_
  refine WO.ldWA (sz := 2) (r := [.int .i64 t0.1, vt0_1]) rfl ho4.at0 ho4 rfl rfl rfl ho4.lt rfl ?_
  refine WO.ldWA (sz := 2) (r := [.int .i64 t1.1, vt1_1]) rfl ho8.at0 ho8 rfl rfl rfl ho8.lt rfl ?_
  obtain ⟨r9, e10, h⟩ := bindS h
  refine WO.callG (S := S6) [] [(902, 4)] rfl rfl (F59_ok (S0 := S6.mp []) e10 hot0_1.mp hot1_1.mp) (fun _ S13 S14 hb hR => ?_)
  obtain ⟨v11, rfl, hR0⟩ := hR
  have c15 : Ch 1 S6 S14 := hb.ch [] 1
  have hot0_1 := hot0_1.to c15
  have hot1_1 := hot1_1.to c15
  have ho4 := ho4.to c15
  have ho8 := ho8.to c15
  have ho12 := hR0.bkF hb rfl Lay.flat_fl
  refine WO.mv rfl ?_
  refine WO.do rfl rfl ?_
  refine WO.do rfl rfl ?_
  refine WO.alW (S := S14) (cs := [.int .i64 0, .nils]) 5 rfl rfl rfl (fun b16 S17 c18 ho19 => ?_)
  have hot0_1 := hot0_1.to c18
  have hot1_1 := hot1_1.to c18
  have ho4 := ho4.to c18
  have ho8 := ho8.to c18
  have ho12 := ho12.to c18
  refine WO.stW (S := S17) (r := [.int .i64 r9.1.1, v11]) rfl ho19.at0 rfl rfl ho19 rfl rfl rfl rfl rfl (fun S20 c21 ho19 => ?_)
  have hot0_1 := hot0_1.to c21
  have hot1_1 := hot1_1.to c21
  have ho4 := ho4.to c21
  have ho8 := ho8.to c21
  have ho12 := ho12.to c21
  refine WO.asg rfl ?_
  refine WO.nil ?_
  refine thenL_n ?_
  refine WC.seq ?_
  refine WC.seq ?_
  refine WC.region ?_
  refine WO.mv rfl ?_
  refine WO.bin rfl rfl (by decide) (by decide) rfl ?_
  refine WO.nil ?_
  refine thenL_n ?_
  refine WC.cond rfl (fun q22 => ?_) (fun q22 => ?_)
  · have h := iteT q22 h
    refine WC.seq ?_
    refine WC.region ?_
    refine WO.mv rfl ?_
    refine WO.asg rfl ?_
    refine WO.asg rfl ?_
    refine WO.asg rfl ?_
    refine WO.nil ?_
    refine thenL_n ?_
    refine WC.ret ?_
    refine thenL_r ?_
    obtain rfl := someI h
    exact ⟨.inr rfl, _, _, rfl, rfl, rfl⟩
  · have h := iteF q22 h
    refine WC.skip ?_
    refine thenL_n ?_
    refine WC.seq ?_
    refine WC.region ?_
    refine WO.asg rfl ?_
    refine WO.nil ?_
    refine thenL_n ?_
    refine WC.seq ?_
    refine WC.seq ?_
    refine WC.region ?_
    refine WO.fldS (j := 0) (q := 0) rfl ho19.at0 ho19.ptr rfl rfl rfl (by decide) ?_
    refine WO.ldW rfl rfl ho19 rfl rfl ho19.lt rfl ?_
    refine WO.lenS rfl ho12.slv rfl ?_
    refine WO.mv rfl ?_
    refine WO.nil ?_
    refine thenL_n ?_
    refine WC.block ?_
    obtain ⟨b45, e46, h⟩ := bindS h
    refine WC.loopD e46 (fun s23 l' m' n' => ∃ S24 : Cx n, S24.m = m' ∧ S24.n = n' ∧ Cov l' [(2, .sc ((.ptr b1 0))), (3, .sc ((.ptr b5 0))), (7, .sc ((.ptr b16 0))), (9, .sc (.int .i64 s23.1)), (22, .sc v11), (23, .sc (.int .i64 ((r9.1.2.length : Int)))), (24, .sc (.int .i64 s23.2))] ∧ Bw S24 2 (.ptr b1 0) [.int .i64 t0.1, vt0_1] ∧ Rd Y9 S24 vt0_1 t0.2 ∧ Bw S24 3 (.ptr b5 0) [.int .i64 t1.1, vt1_1] ∧ Rd Y9 S24 vt1_1 t1.2 ∧ Bw S24 5 (.ptr b16 0) [.int .i64 r9.1.1, v11] ∧ Ow Y9 S24 4 v11 r9.1.2) (fun b e l' m' n' => e = .exit 0 ∧ ∃ S25 : Cx n, S25.m = m' ∧ S25.n = n' ∧ Cov l' [(7, .sc ((.ptr b16 0))), (9, .sc (.int .i64 b))] ∧ Bw S25 5 (.ptr b16 0) [.int .i64 r9.1.1, v11] ∧ Ow Y9 S25 4 v11 r9.1.2) (by exact ⟨S20, rfl, rfl, (Cov.cons rfl (Cov.cons rfl (Cov.cons rfl (Cov.cons rfl (Cov.cons rfl (Cov.cons rfl (Cov.cons rfl (Cov.nil _)))))))), ho4, hot0_1, ho8, hot1_1, ho19, ho12⟩) ?_ ?_
    · clear h
      rintro s23 q _ _ _ ⟨S26, rfl, rfl, hc27, ho4, hot0_1, ho8, hot1_1, ho19, ho12⟩ h
      unfold F60_l0 at h
      refine WC.cov hc27 ?_
      refine WC.seq ?_
      refine WC.region ?_
      refine WO.bin rfl rfl (by decide) (by decide) rfl ?_
      refine WO.nil ?_
      refine thenL_n ?_
      refine WC.seq ?_
      refine WC.cond rfl (fun q28 => ?_) (fun q28 => ?_)
      · have h := iteT q28 h
        refine WC.skip ?_
        refine thenL_n ?_
        refine WC.seq ?_
        refine WC.block ?_
        refine WC.seq ?_
        refine WC.region ?_
        obtain ⟨x29, e30, h⟩ := bindS h
        refine WO.ixS rfl rfl ho12.slv (at?_lt e30) rfl ?_
        refine WO.ldF rfl ho12.ro (fun _ hi => hi) (at?_get e30) rfl rfl rfl ?_
        refine WO.asg rfl ?_
        refine WO.nil ?_
        refine thenL_n ?_
        refine WC.seq ?_
        refine WC.region ?_
        refine WO.fldS (j := 0) (q := 0) rfl ho4.at0 ho4.ptr rfl rfl rfl (by decide) ?_
        refine WO.ldW rfl rfl ho4 rfl rfl ho4.lt rfl ?_
        refine WO.mv rfl ?_
        obtain ⟨r31, e32, h⟩ := bindS h
        refine WO.callE (S := S26) rfl rfl (F70_ok e32 hot0_1.vw) (fun S33 c34 => ?_)
        have ho4 := ho4.to c34
        have hot0_1 := hot0_1.to c34
        have ho8 := ho8.to c34
        have hot1_1 := hot1_1.to c34
        have ho19 := ho19.to c34
        have ho12 := ho12.to c34
        refine WO.mv rfl ?_
        obtain ⟨y40, e41, h⟩ := bindS h
        refine WO.cutS (d := 37) (S := S33) 5 y40 (fun q39 => ?_) (fun q39 => ?_) (fun S42 c43 => ?_)
        · have h := e41
          have h := iteT q39 h
          refine WO.gyes rfl rfl ?_
          refine WO.fldS (j := 0) (q := 0) rfl ho8.at0 ho8.ptr rfl rfl rfl (by decide) ?_
          refine WO.gyes rfl rfl ?_
          refine WO.ldW rfl rfl ho8 rfl rfl ho8.lt rfl ?_
          refine WO.gyes rfl rfl ?_
          refine WO.mv rfl ?_
          refine WO.gyes rfl rfl ?_
          obtain ⟨r35, e36, h⟩ := bindS h
          refine WO.callE (S := S33) rfl rfl (F70_ok e36 hot1_1.vw) (fun S37 c38 => ?_)
          have ho4 := ho4.to c38
          have hot0_1 := hot0_1.to c38
          have ho8 := ho8.to c38
          have hot1_1 := hot1_1.to c38
          have ho19 := ho19.to c38
          have ho12 := ho12.to c38
          obtain rfl := someI h
          refine WO.pickT rfl rfl ?_
          refine WO.nil ?_
          exact ⟨S37, rfl, rfl, c38, (Cov.cons rfl (Cov.skip rfl (Cov.skip rfl (Cov.skip rfl (Cov.skip rfl (Cov.skip rfl (Cov.skip rfl (Cov.refl _))))))))⟩
        · have h := e41
          have h := iteF q39 h
          obtain rfl := someI h
          refine WO.gno rfl rfl ?_
          refine WO.gno rfl rfl ?_
          refine WO.gno rfl rfl ?_
          refine WO.gno rfl rfl ?_
          refine WO.pickF rfl rfl ?_
          refine WO.nil ?_
          exact ⟨S33, rfl, rfl, Ch.refl _ _, (Cov.cons rfl (Cov.skip rfl (Cov.skip rfl (Cov.skip rfl (Cov.skip rfl (Cov.skip rfl (Cov.skip rfl (Cov.refl _))))))))⟩
        have ho4 := ho4.to c43
        have hot0_1 := hot0_1.to c43
        have ho8 := ho8.to c43
        have hot1_1 := hot1_1.to c43
        have ho19 := ho19.to c43
        have ho12 := ho12.to c43
        refine WO.nil ?_
        refine thenL_n ?_
        refine WC.cond rfl (fun q44 => ?_) (fun q44 => ?_)
        · have h := iteT q44 h
          refine WC.region ?_
          refine WO.mv rfl ?_
          refine WO.bin rfl rfl (by decide) (by decide) rfl ?_
          refine WO.asg rfl ?_
          refine WO.nil ?_
          refine blockL_n ?_
          refine thenL_n ?_
          refine WC.region ?_
          refine WO.bin rfl rfl (by decide) (by decide) rfl ?_
          refine WO.mv rfl ?_
          refine WO.nil ?_
          refine thenL_n ?_
          obtain rfl := someI h
          exact ⟨_, rfl, ⟨S42, rfl, rfl, (Cov.cons rfl (Cov.cons rfl (Cov.cons rfl (Cov.cons rfl (Cov.cons rfl (Cov.cons rfl (Cov.cons rfl (Cov.nil _)))))))), ho4, hot0_1, ho8, hot1_1, ho19, ho12⟩⟩
        · have h := iteF q44 h
          refine WC.skip ?_
          refine blockL_n ?_
          refine thenL_n ?_
          refine WC.region ?_
          refine WO.bin rfl rfl (by decide) (by decide) rfl ?_
          refine WO.mv rfl ?_
          refine WO.nil ?_
          refine thenL_n ?_
          obtain rfl := someI h
          exact ⟨_, rfl, ⟨S42, rfl, rfl, (Cov.cons rfl (Cov.cons rfl (Cov.cons rfl (Cov.cons rfl (Cov.cons rfl (Cov.cons rfl (Cov.cons rfl (Cov.nil _)))))))), ho4, hot0_1, ho8, hot1_1, ho19, ho12⟩⟩
      · have h := iteF q28 h
        refine WC.exit ?_
        refine thenL_e ?_
        refine thenL_e ?_
        obtain rfl := someI h
        exact ⟨_, rfl, rfl, ⟨S26, rfl, rfl, (Cov.cons rfl (Cov.cons rfl (Cov.nil _))), ho19, ho12⟩⟩
    rintro _ _ _ _ ⟨rfl, ⟨S47, rfl, rfl, hc48, ho19, ho12⟩⟩
    refine blockL_s ?_
    refine thenL_n ?_
    refine WC.cov hc48 ?_
    refine WC.seq ?_
    refine WC.drawP rfl rfl ?_
    refine WO.mv rfl ?_
    refine WO.fldS (j := 0) (q := 0) rfl ho19.at0 ho19.ptr rfl rfl rfl (by decide) ?_
    refine WO.ldW rfl rfl ho19 rfl rfl ho19.lt rfl ?_
    refine WO.lenS rfl ho12.slv rfl ?_
    refine WO.asg rfl ?_
    refine WO.asg rfl ?_
    refine WO.asg rfl ?_
    refine WO.nil ?_
    refine thenL_n ?_
    refine WC.ret ?_
    obtain rfl := someI h
    exact ⟨.inr rfl, _, _, rfl, rfl, rfl⟩
end Go.Proofs.Ytihmliblbhjlaaa

namespace Go.Proofs.Ytihmliblbhjlaaa
open Go.Am
theorem F62.fn : E.fn 62 = some ⟨31, (Try.f62.body.getD .skip), Try.f62.results.toList, []⟩ := rfl
theorem F62_ok {F : Nat} {m : Mem} {n : Nat} {r : Int} {t0 : List UInt8} (h : F62 F t0 = some r)  : Ret E n 62 [.sc (.str t0)] m n (fun v m' n' => v = .sc (.int .u32 r)) := by
  unfold F62 at h
  refine Ret.walk F62.fn ?_
  refine WC.start fun S0 em en hz => ?_
  refine WC.seq ?_
  refine WC.region ?_
  refine WO.asg rfl ?_
  refine WO.nil ?_
  refine thenL_n ?_
  refine WC.seq ?_
  refine WC.region ?_
  refine WO.asg rfl ?_
  refine WO.nil ?_
  refine thenL_n ?_
  refine WC.seq ?_
  refine WC.seq ?_
  refine WC.region ?_
  refine WO.mv rfl ?_
  refine WO.lenT rfl rfl rfl ?_
  refine WO.mv rfl ?_
  refine WO.nil ?_
  refine thenL_n ?_
  refine WC.block ?_
  obtain ⟨b9, e10, h⟩ := bindS h
  refine WC.loopD e10 (fun s1 l' m' n' => ∃ S2 : Cx n, S2.m = m' ∧ S2.n = n' ∧ Cov l' [(0, .sc (.str t0)), (3, .sc (.int .u64 s1.1)), (6, .sc (.int .i64 ((t0.length : Int)))), (7, .sc (.int .i64 s1.2))]) (fun b e l' m' n' => e = .exit 0 ∧ ∃ S3 : Cx n, S3.m = m' ∧ S3.n = n' ∧ Cov l' [(3, .sc (.int .u64 b))]) (by exact ⟨S0, rfl, rfl, (Cov.cons rfl (Cov.cons rfl (Cov.cons rfl (Cov.cons rfl (Cov.nil _)))))⟩) ?_ ?_
  · clear h
    rintro s1 q _ _ _ ⟨S4, rfl, rfl, hc5⟩ h
    unfold F62_l0 at h
    refine WC.cov hc5 ?_
    refine WC.seq ?_
    refine WC.region ?_
    refine WO.bin rfl rfl (by decide) (by decide) rfl ?_
    refine WO.nil ?_
    refine thenL_n ?_
    refine WC.seq ?_
    refine WC.cond rfl (fun q6 => ?_) (fun q6 => ?_)
    · have h := iteT q6 h
      refine WC.skip ?_
      refine thenL_n ?_
      refine WC.seq ?_
      refine WC.block ?_
      refine WC.seq ?_
      refine WC.region ?_
      refine WO.mv rfl ?_
      refine WO.asg rfl ?_
      refine WO.nil ?_
      refine thenL_n ?_
      refine WC.region ?_
      refine WO.mv rfl ?_
      refine WO.mv rfl ?_
      refine WO.mv rfl ?_
      obtain ⟨x7, e8, h⟩ := bindS h
      refine WO.ixT rfl rfl e8 rfl rfl ?_
      refine WO.conv rfl rfl rfl rfl ?_
      refine WO.bits rfl rfl rfl (by decide) (by decide) rfl ?_
      refine WO.bin rfl rfl (by decide) (by decide) rfl ?_
      refine WO.bin rfl rfl (by decide) (by decide) rfl ?_
      refine WO.asg rfl ?_
      refine WO.nil ?_
      refine blockL_n ?_
      refine thenL_n ?_
      refine WC.region ?_
      refine WO.bin rfl rfl (by decide) (by decide) rfl ?_
      refine WO.mv rfl ?_
      refine WO.nil ?_
      refine thenL_n ?_
      obtain rfl := someI h
      exact ⟨_, rfl, ⟨S4, rfl, rfl, (Cov.cons rfl (Cov.cons rfl (Cov.cons rfl (Cov.cons rfl (Cov.nil _)))))⟩⟩
    · have h := iteF q6 h
      refine WC.exit ?_
      refine thenL_e ?_
      refine thenL_e ?_
      obtain rfl := someI h
      exact ⟨_, rfl, rfl, ⟨S4, rfl, rfl, (Cov.cons rfl (Cov.nil _))⟩⟩
  rintro _ _ _ _ ⟨rfl, ⟨S11, rfl, rfl, hc12⟩⟩
  refine blockL_s ?_
  refine thenL_n ?_
  refine WC.cov hc12 ?_
  refine WC.seq ?_
  refine WC.region ?_
  refine WO.mv rfl ?_
  refine WO.mv rfl ?_
  refine WO.bin rfl rfl (by decide) (by decide) rfl ?_
  refine WO.bits rfl rfl rfl (by decide) (by decide) rfl ?_
  refine WO.asg rfl ?_
  refine WO.nil ?_
  refine thenL_n ?_
  refine WC.seq ?_
  refine WC.region ?_
  refine WO.mv rfl ?_
  refine WO.bin rfl rfl (by decide) (by decide) rfl ?_
  refine WO.bin rfl rfl (by decide) (by decide) rfl ?_
  refine WO.asg rfl ?_
  refine WO.nil ?_
  refine thenL_n ?_
  refine WC.seq ?_
  refine WC.region ?_
  refine WO.mv rfl ?_
  refine WO.mv rfl ?_
  refine WO.bin rfl rfl (by decide) (by decide) rfl ?_
  refine WO.bits rfl rfl rfl (by decide) (by decide) rfl ?_
  refine WO.conv rfl rfl rfl rfl ?_
  refine WO.asg rfl ?_
  refine WO.nil ?_
  refine thenL_n ?_
  refine WC.ret ?_
  obtain rfl := someI h
  exact ⟨.inr rfl, _, _, rfl, rfl, rfl⟩
end Go.Proofs.Ytihmliblbhjlaaa

namespace Go.Proofs.Ytihmliblbhjlaaa
open Go.Am
theorem F64.fn : E.fn 64 = some ⟨6, (Try.f64.body.getD .skip), Try.f64.results.toList, []⟩ := rfl
theorem F64_ok {F : Nat} {m : Mem} {n : Nat} {r : Bool} {t0 : List UInt8} (h : F64 F t0 = some r)  : Ret E n 64 [.sc (.str t0)] m n (fun v m' n' => v = .sc (.bool r)) := by
  unfold F64 at h
  refine Ret.walk F64.fn ?_
  refine WC.start fun S0 em en hz => ?_
  refine WC.seq ?_
  refine WC.region ?_
  refine WO.asg rfl ?_
  refine WO.nil ?_
  refine thenL_n ?_
  refine WC.seq ?_
  refine WC.region ?_
  refine WO.mv rfl ?_
  refine WO.lenT rfl rfl rfl ?_
  refine WO.bin rfl rfl (by decide) (by decide) rfl ?_
  refine WO.asg rfl ?_
  refine WO.nil ?_
  refine thenL_n ?_
  refine WC.ret ?_
  obtain rfl := someI h
  exact ⟨.inr rfl, _, _, rfl, rfl, rfl⟩
end Go.Proofs.Ytihmliblbhjlaaa

namespace Go.Proofs.Ytihmliblbhjlaaa
open Go.Am
theorem F130_64.fn : E.fn 130 = some ⟨19, (Try.f130.body.getD .skip), Try.f130.results.toList, []⟩ := rfl
theorem F130_64_ok {F : Nat} {m : Mem} {n : Nat} {r : Int} {t0 : List (List UInt8)} {vt0 : SV} (h : F130_64 F t0 = some r) (kt0 : Vw Y9 n m vt0 t0) : Ret E n 130 [.sc vt0, .sc (.fn 64 [])] m n (fun v m' n' => v = .sc (.int .i64 r)) := by
  unfold F130_64 at h
  refine Ret.walk F130_64.fn ?_
  refine WC.start fun S0 em en hz => ?_
  have hot0 := kt0.rdS em hz
  refine WC.seq ?_
  refine WC.region ?_
  refine WO.asg rfl ?_
  refine WO.nil ?_
  refine thenL_n ?_
  refine WC.seq ?_
  refine WC.seq ?_
  refine WC.region ?_
  refine WO.mv rfl ?_
  refine WO.lenS rfl hot0.slv rfl ?_
  refine WO.mv rfl ?_
  refine WO.nil ?_
  refine thenL_n ?_
  refine WC.block ?_
  obtain ⟨b16, e17, h⟩ := bindS h
  refine WC.loopD e17 (fun s1 l' m' n' => ∃ S2 : Cx n, S2.m = m' ∧ S2.n = n' ∧ Cov l' [(0, .sc vt0), (1, .sc (.fn 64 [])), (7, .sc (.int .i64 ((t0.length : Int)))), (8, .sc (.int .i64 s1))] ∧ Rd Y9 S2 vt0 t0) (fun b e l' m' n' => (match b with | .inl b3 => e = .exit 0 ∧ ∃ S4 : Cx n, S4.m = m' ∧ S4.n = n' ∧ Cov l' [] | .inr b3 => e = .ret ∧ ∃ S5 : Cx n, S5.m = m' ∧ S5.n = n' ∧ Cov l' [(4, .sc (.int .i64 b3))])) (by exact ⟨S0, rfl, rfl, (Cov.cons rfl (Cov.cons rfl (Cov.cons rfl (Cov.cons rfl (Cov.nil _))))), hot0⟩) ?_ ?_
  · clear h
    rintro s1 q _ _ _ ⟨S6, rfl, rfl, hc7, hot0⟩ h
    unfold F130_64_l0 at h
    refine WC.cov hc7 ?_
    refine WC.seq ?_
    refine WC.region ?_
    refine WO.bin rfl rfl (by decide) (by decide) rfl ?_
    refine WO.nil ?_
    refine thenL_n ?_
    refine WC.seq ?_
    refine WC.cond rfl (fun q8 => ?_) (fun q8 => ?_)
    · have h := iteT q8 h
      refine WC.skip ?_
      refine thenL_n ?_
      refine WC.seq ?_
      refine WC.block ?_
      refine WC.seq ?_
      refine WC.region ?_
      refine WO.mv rfl ?_
      refine WO.asg rfl ?_
      refine WO.nil ?_
      refine thenL_n ?_
      refine WC.seq ?_
      refine WC.region ?_
      refine WO.mv rfl ?_
      refine WO.mv rfl ?_
      refine WO.mv rfl ?_
      obtain ⟨x9, e10, h⟩ := bindS h
      refine WO.ixS rfl rfl hot0.slv (at?_lt e10) rfl ?_
      refine WO.ldF rfl hot0.ro (fun _ hi => hi) (at?_get e10) rfl rfl rfl ?_
      obtain ⟨r11, e12, h⟩ := bindS h
      refine WO.callE (S := S6) rfl rfl (F64_ok e12) (fun S13 c14 => ?_)
      have hot0 := hot0.to c14
      refine WO.nil ?_
      refine thenL_n ?_
      refine WC.cond rfl (fun q15 => ?_) (fun q15 => ?_)
      · have h := iteT q15 h
        refine WC.seq ?_
        refine WC.region ?_
        refine WO.mv rfl ?_
        refine WO.asg rfl ?_
        refine WO.nil ?_
        refine thenL_n ?_
        refine WC.ret ?_
        refine blockL_r ?_
        refine thenL_r ?_
        refine thenL_r ?_
        obtain rfl := someI h
        exact ⟨_, rfl, rfl, ⟨S13, rfl, rfl, (Cov.cons rfl (Cov.nil _))⟩⟩
      · have h := iteF q15 h
        refine WC.skip ?_
        refine blockL_n ?_
        refine thenL_n ?_
        refine WC.region ?_
        refine WO.bin rfl rfl (by decide) (by decide) rfl ?_
        refine WO.mv rfl ?_
        refine WO.nil ?_
        refine thenL_n ?_
        obtain rfl := someI h
        exact ⟨_, rfl, ⟨S13, rfl, rfl, (Cov.cons rfl (Cov.cons rfl (Cov.cons rfl (Cov.cons rfl (Cov.nil _))))), hot0⟩⟩
    · have h := iteF q8 h
      refine WC.exit ?_
      refine thenL_e ?_
      refine thenL_e ?_
      obtain rfl := someI h
      exact ⟨_, rfl, rfl, ⟨S6, rfl, rfl, (Cov.nil _)⟩⟩
  cases b16 with
  | inl b18 =>
    simp only at h
    rintro _ _ _ _ ⟨rfl, ⟨S19, rfl, rfl, hc20⟩⟩
    refine blockL_s ?_
    refine thenL_n ?_
    refine WC.cov hc20 ?_
    refine WC.seq ?_
    refine WC.region ?_
    refine WO.asg rfl ?_
    refine WO.nil ?_
    refine thenL_n ?_
    refine WC.ret ?_
    obtain rfl := someI h
    exact ⟨.inr rfl, _, _, rfl, rfl, rfl⟩
  | inr b18 =>
    simp only at h
    rintro _ _ _ _ ⟨rfl, ⟨S21, rfl, rfl, hc22⟩⟩
    refine blockL_r ?_
    refine thenL_r ?_
    obtain rfl := someI h
    exact ⟨.inr rfl, _, _, (resK_cov hc22 rfl), rfl, rfl⟩
end Go.Proofs.Ytihmliblbhjlaaa

namespace Go.Proofs.Ytihmliblbhjlaaa
open Go.Am
theorem F63_64.fn : E.fn 63 = some ⟨9, (Try.f63.body.getD .skip), Try.f63.results.toList, []⟩ := rfl
theorem F63_64_ok {F : Nat} {m : Mem} {n : Nat} {r : Bool} {t0 : List (List UInt8)} {vt0 : SV} (h : F63_64 F t0 = some r) (kt0 : Vw Y9 n m vt0 t0) : Ret E n 63 [.sc vt0, .sc (.fn 64 [])] m n (fun v m' n' => v = .sc (.bool r)) := by
  unfold F63_64 at h
  refine Ret.walk F63_64.fn ?_
  refine WC.start fun S0 em en hz => ?_
  have hot0 := kt0.rdS em hz
  refine WC.seq ?_
  refine WC.region ?_
  refine WO.asg rfl ?_
  refine WO.nil ?_
  refine thenL_n ?_
  refine WC.seq ?_
  refine WC.region ?_
  refine WO.mv rfl ?_
  refine WO.mv rfl ?_
  obtain ⟨r1, e2, h⟩ := bindS h
  refine WO.callE (S := S0) rfl rfl (F130_64_ok e2 hot0.vw) (fun S3 c4 => ?_)
  have hot0 := hot0.to c4
  refine WO.bin rfl rfl (by decide) (by decide) rfl ?_
  refine WO.asg rfl ?_
  refine WO.nil ?_
  refine thenL_n ?_
  refine WC.ret ?_
  obtain rfl := someI h
  exact ⟨.inr rfl, _, _, rfl, rfl, rfl⟩
end Go.Proofs.Ytihmliblbhjlaaa

namespace Go.Proofs.Ytihmliblbhjlaaa
open Go.Am
theorem F131.fn : E.fn 131 = some ⟨24, (Try.f131.body.getD .skip), Try.f131.results.toList, []⟩ := rfl
theorem F131_ok {F : Nat} {m : Mem} {n : Nat} {r : Bool} {t0 : List UInt8} {t1 : List UInt8} (h : F131 F t0 t1 = some r)  : Ret E n 131 [.sc (.str t0), .sc (.str t1)] m n (fun v m' n' => v = .sc (.bool r)) := by
  unfold F131 at h
  refine Ret.walk F131.fn ?_
  refine WC.start fun S0 em en hz => ?_
  refine WC.seq ?_
  refine WC.region ?_
  refine WO.asg rfl ?_
  refine WO.nil ?_
  refine thenL_n ?_
  refine WC.seq ?_
  refine WC.region ?_
  refine WO.mv rfl ?_
  obtain ⟨r1, e2, h⟩ := bindS h
  refine WO.callE (S := S0) rfl rfl (F62_ok e2) (fun S3 c4 => ?_)
  refine WO.mv rfl ?_
  obtain ⟨r5, e6, h⟩ := bindS h
  refine WO.callE (S := S3) rfl rfl (F62_ok e6) (fun S7 c8 => ?_)
  refine WO.asg rfl ?_
  refine WO.asg rfl ?_
  refine WO.nil ?_
  refine thenL_n ?_
  refine WC.seq ?_
  refine WC.region ?_
  refine WO.mv rfl ?_
  refine WO.mv rfl ?_
  refine WO.bin rfl rfl (by decide) (by decide) rfl ?_
  refine WO.mv rfl ?_
  refine WO.cutB (d := 23) 9 ((decide (r1 < r5)) || ((r1 == r5) && (bytesLt t0 t1))) (fun q10 => ?_) (fun q10 => ?_) ?_
  · refine WO.gno rfl rfl ?_
    refine WO.gno rfl rfl ?_
    refine WO.gno rfl rfl ?_
    refine WO.gno rfl rfl ?_
    refine WO.gskip rfl rfl ?_
    refine WO.gskip rfl rfl ?_
    refine WO.gskip rfl rfl ?_
    refine WO.gno rfl rfl ?_
    refine WO.pickT rfl rfl ?_
    refine WO.nil ?_
    exact ⟨rfl, rfl, (Cov.any rfl (orT q10) (Cov.skip rfl (Cov.skip rfl (Cov.skip rfl (Cov.skip rfl (Cov.skip rfl (Cov.skip rfl (Cov.skip rfl (Cov.skip rfl (Cov.skip rfl (Cov.skip rfl (Cov.refl _))))))))))))⟩
  · skip
    refine WO.gyes rfl rfl ?_
    refine WO.mv rfl ?_
    refine WO.gyes rfl rfl ?_
    refine WO.mv rfl ?_
    refine WO.gyes rfl rfl ?_
    refine WO.bin rfl rfl (by decide) (by decide) rfl ?_
    refine WO.gyes rfl rfl ?_
    refine WO.mv rfl ?_
    refine WO.cutB (d := 22) 4 ((r1 == r5) && (bytesLt t0 t1)) (fun q9 => ?_) (fun q9 => ?_) ?_
    · skip
      refine WO.gyes rfl rfl ?_
      refine WO.mv rfl ?_
      refine WO.gyes rfl rfl ?_
      refine WO.mv rfl ?_
      refine WO.gyes rfl rfl ?_
      refine WO.do rfl rfl ?_
      refine WO.gyes rfl rfl ?_
      refine WO.pickT rfl rfl ?_
      refine WO.nil ?_
      exact ⟨rfl, rfl, (Cov.any rfl (andT q9) (Cov.skip rfl (Cov.skip rfl (Cov.skip rfl (Cov.skip rfl (Cov.skip rfl (Cov.refl _)))))))⟩
    · refine WO.gno rfl rfl ?_
      refine WO.gno rfl rfl ?_
      refine WO.gno rfl rfl ?_
      refine WO.gyes rfl rfl ?_
      refine WO.pickF rfl rfl ?_
      refine WO.nil ?_
      exact ⟨rfl, rfl, (Cov.any rfl (andF q9) (Cov.skip rfl (Cov.skip rfl (Cov.skip rfl (Cov.skip rfl (Cov.skip rfl (Cov.refl _)))))))⟩
    refine WO.pickF rfl rfl ?_
    refine WO.nil ?_
    exact ⟨rfl, rfl, (Cov.any rfl (orF q10) (Cov.skip rfl (Cov.skip rfl (Cov.skip rfl (Cov.skip rfl (Cov.skip rfl (Cov.skip rfl (Cov.refl _))))))))⟩
  refine WO.asg rfl ?_
  refine WO.nil ?_
  refine thenL_n ?_
  refine WC.ret ?_
  obtain rfl := someI h
  exact ⟨.inr rfl, _, _, rfl, rfl, rfl⟩
end Go.Proofs.Ytihmliblbhjlaaa

namespace Go.Proofs.Ytihmliblbhjlaaa
open Go.Am
theorem F66.fn : E.fn 66 = some ⟨51, (Try.f66.body.getD .skip), Try.f66.results.toList, []⟩ := rfl
theorem F66_ok {F : Nat} {m : Mem} {n : Nat} {r : (List (List UInt8))} {t0 : Int} {t1 : List (List UInt8)} {vt1 : SV} (h : F66 F t0 t1 = some r) (kt1 : Vw Y9 n m vt1 t1) : Ret E n 66 [.sc (.int .i64 t0), .sc vt1] m n (fun v m' n' => ∃ w, v = .sc w ∧ Fr Y9 n m' n' w r) := by
  unfold F66 at h
  refine Ret.walk F66.fn ?_
  refine WC.start fun S0 em en hz => ?_
  have hot1 := kt1.rdS em hz
  refine WC.seq ?_
  refine WC.region ?_
  refine WO.asg rfl ?_
  refine WO.nil ?_
  refine thenL_n ?_
  refine WC.seq ?_
  refine WC.region ?_
  refine WO.asg rfl ?_
  refine WO.nil ?_
  refine thenL_n ?_
  refine WC.seq ?_
  refine WC.block ?_
  obtain ⟨b60, e61, h⟩ := bindS h
  refine WC.loopD e61 (fun s1 l' m' n' => ∃ S3 : Cx n, ∃ v4 : SV, S3.m = m' ∧ S3.n = n' ∧ Cov l' [(0, .sc (.int .i64 t0)), (1, .sc vt1), (5, .sc v4)] ∧ Rd Y9 S3 vt1 t1 ∧ Ow Y9 S3 2 v4 s1) (fun b e l' m' n' => e = .exit 0 ∧ ∃ S5 : Cx n, ∃ v6 : SV, S5.m = m' ∧ S5.n = n' ∧ Cov l' [(5, .sc v6)] ∧ Ow Y9 S5 2 v6 b) (by exact ⟨S0, .nils, rfl, rfl, (Cov.cons rfl (Cov.cons rfl (Cov.cons rfl (Cov.nil _)))), hot1, Ow.nil⟩) ?_ ?_
  · clear h
    rintro s1 q _ _ _ ⟨S7, v8, rfl, rfl, hc9, hot1, ho5⟩ h
    unfold F66_l1 at h
    refine WC.cov hc9 ?_
    refine WC.seq ?_
    refine WC.seq ?_
    refine WC.region ?_
    refine WO.mv rfl ?_
    refine WO.lenS rfl ho5.slv rfl ?_
    refine WO.mv rfl ?_
    refine WO.bin rfl rfl (by decide) (by decide) rfl ?_
    refine WO.nil ?_
    refine thenL_n ?_
    refine WC.cond rfl (fun q10 => ?_) (fun q10 => ?_)
    · have h := iteT q10 h
      refine WC.skip ?_
      refine thenL_n ?_
      refine WC.block ?_
      refine WC.seq ?_
      refine WC.region ?_
      refine WO.asg rfl ?_
      refine WO.asg rfl ?_
      refine WO.nil ?_
      refine thenL_n ?_
      refine WC.seq ?_
      refine WC.seq ?_
      refine WC.region ?_
      refine WO.mv rfl ?_
      refine WO.lenS rfl hot1.slv rfl ?_
      refine WO.mv rfl ?_
      refine WO.nil ?_
      refine thenL_n ?_
      refine WC.block ?_
      obtain ⟨b45, e46, h⟩ := bindS h
      refine WC.loopD e46 (fun s11 l' m' n' => ∃ S12 : Cx n, S12.m = m' ∧ S12.n = n' ∧ Cov l' [(0, .sc (.int .i64 t0)), (1, .sc vt1), (5, .sc v8), (6, .sc (.str s11.1)), (7, .sc (.bool s11.2.1)), (14, .sc vt1), (15, .sc (.int .i64 ((t1.length : Int)))), (16, .sc (.int .i64 s11.2.2))] ∧ Rd Y9 S12 vt1 t1 ∧ Ow Y9 S12 2 v8 s1) (fun b e l' m' n' => e = .exit 2 ∧ ∃ S13 : Cx n, S13.m = m' ∧ S13.n = n' ∧ Cov l' [(0, .sc (.int .i64 t0)), (1, .sc vt1), (5, .sc v8), (6, .sc (.str b.1)), (7, .sc (.bool b.2))] ∧ Rd Y9 S13 vt1 t1 ∧ Ow Y9 S13 2 v8 s1) (by exact ⟨S7, rfl, rfl, (Cov.cons rfl (Cov.cons rfl (Cov.cons rfl (Cov.cons rfl (Cov.cons rfl (Cov.cons rfl (Cov.cons rfl (Cov.cons rfl (Cov.nil _))))))))), hot1, ho5⟩) ?_ ?_
      · clear h
        rintro s11 q _ _ _ ⟨S14, rfl, rfl, hc15, hot1, ho5⟩ h
        unfold F66_l0 at h
        refine WC.cov hc15 ?_
        refine WC.seq ?_
        refine WC.region ?_
        refine WO.bin rfl rfl (by decide) (by decide) rfl ?_
        refine WO.nil ?_
        refine thenL_n ?_
        refine WC.seq ?_
        refine WC.cond rfl (fun q16 => ?_) (fun q16 => ?_)
        · have h := iteT q16 h
          refine WC.skip ?_
          refine thenL_n ?_
          refine WC.seq ?_
          refine WC.block ?_
          refine WC.seq ?_
          refine WC.region ?_
          obtain ⟨x17, e18, h⟩ := bindS h
          refine WO.ixS rfl rfl hot1.slv (at?_lt e18) rfl ?_
          refine WO.ldF rfl hot1.ro (fun _ hi => hi) (at?_get e18) rfl rfl rfl ?_
          refine WO.asg rfl ?_
          refine WO.nil ?_
          refine thenL_n ?_
          refine WC.seq ?_
          refine WC.region ?_
          refine WO.mv rfl ?_
          refine WO.lenS rfl ho5.slv rfl ?_
          refine WO.bin rfl rfl (by decide) (by decide) rfl ?_
          refine WO.mv rfl ?_
          obtain ⟨y26, e27, h⟩ := bindS h
          refine WO.cutS (d := 32) (S := S14) 9 y26 (fun q25 => ?_) (fun q25 => ?_) (fun S28 c29 => ?_)
          · have h := e27
            have h := iteT q25 h
            obtain rfl := someI h
            refine WO.gno rfl rfl ?_
            refine WO.gno rfl rfl ?_
            refine WO.gno rfl rfl ?_
            refine WO.gno rfl rfl ?_
            refine WO.gno rfl rfl ?_
            refine WO.gno rfl rfl ?_
            refine WO.gno rfl rfl ?_
            refine WO.gno rfl rfl ?_
            refine WO.pickT rfl rfl ?_
            refine WO.nil ?_
            exact ⟨S14, rfl, rfl, Ch.refl _ _, (Cov.cons rfl (Cov.skip rfl (Cov.skip rfl (Cov.skip rfl (Cov.skip rfl (Cov.skip rfl (Cov.skip rfl (Cov.skip rfl (Cov.skip rfl (Cov.skip rfl (Cov.skip rfl (Cov.refl _))))))))))))⟩
          · have h := e27
            have h := iteF q25 h
            refine WO.gyes rfl rfl ?_
            refine WO.mv rfl ?_
            refine WO.gyes rfl rfl ?_
            refine WO.mv rfl ?_
            refine WO.gyes rfl rfl ?_
            refine WO.lenS rfl ho5.slv rfl ?_
            refine WO.gyes rfl rfl ?_
            refine WO.bin rfl rfl (by decide) (by decide) rfl ?_
            refine WO.gyes rfl rfl ?_
            obtain ⟨x19, e20, h⟩ := bindS h
            refine WO.ixS rfl rfl ho5.slv (at?_lt e20) rfl ?_
            refine WO.gyes rfl rfl ?_
            refine WO.ldF rfl ho5.ro (fun _ hi => hi) (at?_get e20) rfl rfl rfl ?_
            refine WO.gyes rfl rfl ?_
            refine WO.mv rfl ?_
            refine WO.gyes rfl rfl ?_
            obtain ⟨r21, e22, h⟩ := bindS h
            refine WO.callE (S := S14) rfl rfl (F131_ok e22) (fun S23 c24 => ?_)
            have hot1 := hot1.to c24
            have ho5 := ho5.to c24
            obtain rfl := someI h
            refine WO.pickF rfl rfl ?_
            refine WO.nil ?_
            exact ⟨S23, rfl, rfl, c24, (Cov.cons rfl (Cov.skip rfl (Cov.skip rfl (Cov.skip rfl (Cov.skip rfl (Cov.skip rfl (Cov.skip rfl (Cov.skip rfl (Cov.skip rfl (Cov.skip rfl (Cov.skip rfl (Cov.refl _))))))))))))⟩
          have hot1 := hot1.to c29
          have ho5 := ho5.to c29
          refine WO.mv rfl ?_
          obtain ⟨y40, e41, h⟩ := bindS h
          refine WO.cutS (d := 41) (S := S28) 8 y40 (fun q39 => ?_) (fun q39 => ?_) (fun S42 c43 => ?_)
          · have h := e41
            have h := iteT q39 h
            refine WO.gyes rfl rfl ?_
            refine WO.mv rfl ?_
            refine WO.gyes rfl rfl ?_
            refine WO.do rfl rfl ?_
            refine WO.gyes rfl rfl ?_
            refine WO.mv rfl ?_
            obtain ⟨y35, e36, h⟩ := bindS h
            refine WO.cutS (d := 40) (S := S28) 4 y35 (fun q34 => ?_) (fun q34 => ?_) (fun S37 c38 => ?_)
            · have h := e36
              have h := iteT q34 h
              obtain rfl := someI h
              refine WO.gno rfl rfl ?_
              refine WO.gno rfl rfl ?_
              refine WO.gno rfl rfl ?_
              refine WO.gyes rfl rfl ?_
              refine WO.pickT rfl rfl ?_
              refine WO.nil ?_
              exact ⟨S28, rfl, rfl, Ch.refl _ _, (Cov.cons rfl (Cov.skip rfl (Cov.skip rfl (Cov.skip rfl (Cov.skip rfl (Cov.skip rfl (Cov.refl _)))))))⟩
            · have h := e36
              have h := iteF q34 h
              refine WO.gyes rfl rfl ?_
              refine WO.mv rfl ?_
              refine WO.gyes rfl rfl ?_
              refine WO.mv rfl ?_
              refine WO.gyes rfl rfl ?_
              obtain ⟨r30, e31, h⟩ := bindS h
              refine WO.callE (S := S28) rfl rfl (F131_ok e31) (fun S32 c33 => ?_)
              have hot1 := hot1.to c33
              have ho5 := ho5.to c33
              obtain rfl := someI h
              refine WO.gyes rfl rfl ?_
              refine WO.pickF rfl rfl ?_
              refine WO.nil ?_
              exact ⟨S32, rfl, rfl, c33, (Cov.cons rfl (Cov.skip rfl (Cov.skip rfl (Cov.skip rfl (Cov.skip rfl (Cov.skip rfl (Cov.refl _)))))))⟩
            have hot1 := hot1.to c38
            have ho5 := ho5.to c38
            obtain rfl := someI h
            refine WO.pickT rfl rfl ?_
            refine WO.nil ?_
            exact ⟨S37, rfl, rfl, c38, (Cov.cons rfl (Cov.skip rfl (Cov.skip rfl (Cov.skip rfl (Cov.skip rfl (Cov.skip rfl (Cov.refl _)))))))⟩
          · have h := e41
            have h := iteF q39 h
            obtain rfl := someI h
            refine WO.gno rfl rfl ?_
            refine WO.gno rfl rfl ?_
            refine WO.gno rfl rfl ?_
            refine WO.gskip rfl rfl ?_
            refine WO.gskip rfl rfl ?_
            refine WO.gskip rfl rfl ?_
            refine WO.gno rfl rfl ?_
            refine WO.pickF rfl rfl ?_
            refine WO.nil ?_
            exact ⟨S28, rfl, rfl, Ch.refl _ _, (Cov.cons rfl (Cov.skip rfl (Cov.skip rfl (Cov.skip rfl (Cov.skip rfl (Cov.skip rfl (Cov.skip rfl (Cov.skip rfl (Cov.skip rfl (Cov.skip rfl (Cov.refl _)))))))))))⟩
          have hot1 := hot1.to c43
          have ho5 := ho5.to c43
          refine WO.nil ?_
          refine thenL_n ?_
          refine WC.cond rfl (fun q44 => ?_) (fun q44 => ?_)
          · have h := iteT q44 h
            refine WC.region ?_
            refine WO.mv rfl ?_
            refine WO.asg rfl ?_
            refine WO.asg rfl ?_
            refine WO.nil ?_
            refine blockL_n ?_
            refine thenL_n ?_
            refine WC.region ?_
            refine WO.bin rfl rfl (by decide) (by decide) rfl ?_
            refine WO.mv rfl ?_
            refine WO.nil ?_
            refine thenL_n ?_
            obtain rfl := someI h
            exact ⟨_, rfl, ⟨S42, rfl, rfl, (Cov.cons rfl (Cov.cons rfl (Cov.cons rfl (Cov.cons rfl (Cov.cons rfl (Cov.cons rfl (Cov.cons rfl (Cov.cons rfl (Cov.nil _))))))))), hot1, ho5⟩⟩
          · have h := iteF q44 h
            refine WC.skip ?_
            refine blockL_n ?_
            refine thenL_n ?_
            refine WC.region ?_
            refine WO.bin rfl rfl (by decide) (by decide) rfl ?_
            refine WO.mv rfl ?_
            refine WO.nil ?_
            refine thenL_n ?_
            obtain rfl := someI h
            exact ⟨_, rfl, ⟨S42, rfl, rfl, (Cov.cons rfl (Cov.cons rfl (Cov.cons rfl (Cov.cons rfl (Cov.cons rfl (Cov.cons rfl (Cov.cons rfl (Cov.cons rfl (Cov.nil _))))))))), hot1, ho5⟩⟩
        · have h := iteF q16 h
          refine WC.exit ?_
          refine thenL_e ?_
          refine thenL_e ?_
          obtain rfl := someI h
          exact ⟨_, rfl, rfl, ⟨S14, rfl, rfl, (Cov.cons rfl (Cov.cons rfl (Cov.cons rfl (Cov.cons rfl (Cov.cons rfl (Cov.nil _)))))), hot1, ho5⟩⟩
      rintro _ _ _ _ ⟨rfl, ⟨S47, rfl, rfl, hc48, hot1, ho5⟩⟩
      refine blockL_s ?_
      refine thenL_n ?_
      refine WC.cov hc48 ?_
      refine WC.seq ?_
      refine WC.seq ?_
      refine WC.region ?_
      refine WO.mv rfl ?_
      refine WO.do rfl rfl ?_
      refine WO.nil ?_
      refine thenL_n ?_
      refine WC.cond rfl (fun q49 => ?_) (fun q49 => ?_)
      · have h := iteT q49 h
        refine WC.exit ?_
        refine thenL_e ?_
        refine blockL_e rfl ?_
        refine thenL_e ?_
        obtain rfl := someI h
        exact ⟨_, rfl, rfl, ⟨S47, v8, rfl, rfl, (Cov.cons rfl (Cov.nil _)), ho5⟩⟩
      · have h := iteF q49 h
        refine WC.skip ?_
        refine thenL_n ?_
        refine WC.region ?_
        refine WO.mv rfl ?_
        refine WO.mv rfl ?_
        refine WO.bsS (A := Y9) (S := S47) (M := [b45.1]) (cs := [.str b45.1]) 3 rfl rfl rfl ⟨[.str b45.1], _, rfl, rfl, rfl⟩ rfl (fun v50 S51 c52 ho53 => ?_)
        have hot1 := hot1.to c52
        have ho5 := ho5.to c52
        obtain ⟨L54, e55, h⟩ := bindS h
        refine WO.appS rfl rfl ho5 ho53.ro e55 rfl rfl (fun v56 S57 c58 ho59 => ?_)
        have hot1 := hot1.to c58
        have ho53 := ho53.to c58
        refine WO.asg rfl ?_
        refine WO.nil ?_
        refine blockL_n ?_
        refine thenL_n ?_
        obtain rfl := someI h
        exact ⟨_, rfl, ⟨S57, v56, rfl, rfl, (Cov.cons rfl (Cov.cons rfl (Cov.cons rfl (Cov.nil _)))), hot1, ho59⟩⟩
    · have h := iteF q10 h
      refine WC.exit ?_
      refine thenL_e ?_
      refine thenL_e ?_
      obtain rfl := someI h
      exact ⟨_, rfl, rfl, ⟨S7, v8, rfl, rfl, (Cov.cons rfl (Cov.nil _)), ho5⟩⟩
  rintro _ _ _ _ ⟨rfl, ⟨S62, v63, rfl, rfl, hc64, ho5⟩⟩
  refine blockL_s ?_
  refine thenL_n ?_
  refine WC.cov hc64 ?_
  refine WC.seq ?_
  refine WC.region ?_
  refine WO.mv rfl ?_
  refine WO.asg rfl ?_
  refine WO.nil ?_
  refine thenL_n ?_
  refine WC.ret ?_
  obtain rfl := someI h
  exact ⟨.inr rfl, _, _, rfl, rfl, ⟨v63, rfl, (ho5.fr Lay.flat_fl)⟩⟩
end Go.Proofs.Ytihmliblbhjlaaa

namespace Go.Proofs.Ytihmliblbhjlaaa
open Go.Am
theorem F86.fn : E.fn 86 = some ⟨26, (Try.f86.body.getD .skip), Try.f86.results.toList, []⟩ := rfl
theorem F86_ok {F : Nat} {m : Mem} {n : Nat} {r : Bool} {t0 : List (List UInt8)} {t1 : List (List UInt8)} {vt0 : SV} {vt1 : SV} (h : F86 F t0 t1 = some r) (kt0 : Vw Y9 n m vt0 t0) (kt1 : Vw Y9 n m vt1 t1) : Ret E n 86 [.sc vt0, .sc vt1] m n (fun v m' n' => v = .sc (.bool r)) := by
  unfold F86 at h
  refine Ret.walk F86.fn ?_
  refine WC.start fun S0 em en hz => ?_
  have hot0 := kt0.rdS em hz
  have hot1 := kt1.rdS em hz
  refine WC.seq ?_
  refine WC.region ?_
  refine WO.asg rfl ?_
  refine WO.nil ?_
  refine thenL_n ?_
  refine WC.seq ?_
  refine WC.seq ?_
  refine WC.region ?_
  refine WO.mv rfl ?_
  refine WO.lenS rfl hot0.slv rfl ?_
  refine WO.mv rfl ?_
  refine WO.lenS rfl hot1.slv rfl ?_
  refine WO.bin rfl rfl (by decide) (by decide) rfl ?_
  refine WO.nil ?_
  refine thenL_n ?_
  refine WC.cond rfl (fun q1 => ?_) (fun q1 => ?_)
  · have h := iteT q1 h
    refine WC.seq ?_
    refine WC.region ?_
    refine WO.asg rfl ?_
    refine WO.nil ?_
    refine thenL_n ?_
    refine WC.ret ?_
    refine thenL_r ?_
    obtain rfl := someI h
    exact ⟨.inr rfl, _, _, rfl, rfl, rfl⟩
  · have h := iteF q1 h
    refine WC.skip ?_
    refine thenL_n ?_
    refine WC.seq ?_
    refine WC.seq ?_
    refine WC.region ?_
    refine WO.mv rfl ?_
    refine WO.lenS rfl hot0.slv rfl ?_
    refine WO.mv rfl ?_
    refine WO.nil ?_
    refine thenL_n ?_
    refine WC.block ?_
    obtain ⟨b15, e16, h⟩ := bindS h
    refine WC.loopD e16 (fun s2 l' m' n' => ∃ S3 : Cx n, S3.m = m' ∧ S3.n = n' ∧ Cov l' [(0, .sc vt0), (1, .sc vt1), (12, .sc (.int .i64 ((t0.length : Int)))), (13, .sc (.int .i64 s2))] ∧ Rd Y9 S3 vt0 t0 ∧ Rd Y9 S3 vt1 t1) (fun b e l' m' n' => (match b with | .inl b4 => e = .exit 0 ∧ ∃ S5 : Cx n, S5.m = m' ∧ S5.n = n' ∧ Cov l' [] | .inr b4 => e = .ret ∧ ∃ S6 : Cx n, S6.m = m' ∧ S6.n = n' ∧ Cov l' [(4, .sc (.bool b4))])) (by exact ⟨S0, rfl, rfl, (Cov.cons rfl (Cov.cons rfl (Cov.cons rfl (Cov.cons rfl (Cov.nil _))))), hot0, hot1⟩) ?_ ?_
    · clear h
      rintro s2 q _ _ _ ⟨S7, rfl, rfl, hc8, hot0, hot1⟩ h
      unfold F86_l0 at h
      refine WC.cov hc8 ?_
      refine WC.seq ?_
      refine WC.region ?_
      refine WO.bin rfl rfl (by decide) (by decide) rfl ?_
      refine WO.nil ?_
      refine thenL_n ?_
      refine WC.seq ?_
      refine WC.cond rfl (fun q9 => ?_) (fun q9 => ?_)
      · have h := iteT q9 h
        refine WC.skip ?_
        refine thenL_n ?_
        refine WC.seq ?_
        refine WC.block ?_
        refine WC.seq ?_
        refine WC.region ?_
        refine WO.mv rfl ?_
        refine WO.asg rfl ?_
        refine WO.nil ?_
        refine thenL_n ?_
        refine WC.seq ?_
        refine WC.drawP rfl rfl ?_
        refine WO.mv rfl ?_
        refine WO.mv rfl ?_
        obtain ⟨x10, e11, h⟩ := bindS h
        refine WO.ixS rfl rfl hot0.slv (at?_lt e11) rfl ?_
        refine WO.ldF rfl hot0.ro (fun _ hi => hi) (at?_get e11) rfl rfl rfl ?_
        refine WO.mv rfl ?_
        refine WO.mv rfl ?_
        obtain ⟨x12, e13, h⟩ := bindS h
        refine WO.ixS rfl rfl hot1.slv (at?_lt e13) rfl ?_
        refine WO.ldF rfl hot1.ro (fun _ hi => hi) (at?_get e13) rfl rfl rfl ?_
        refine WO.do rfl rfl ?_
        refine WO.nil ?_
        refine thenL_n ?_
        refine WC.cond rfl (fun q14 => ?_) (fun q14 => ?_)
        · have h := iteT q14 h
          refine WC.seq ?_
          refine WC.region ?_
          refine WO.asg rfl ?_
          refine WO.nil ?_
          refine thenL_n ?_
          refine WC.ret ?_
          refine blockL_r ?_
          refine thenL_r ?_
          refine thenL_r ?_
          obtain rfl := someI h
          exact ⟨_, rfl, rfl, ⟨S7, rfl, rfl, (Cov.cons rfl (Cov.nil _))⟩⟩
        · have h := iteF q14 h
          refine WC.skip ?_
          refine blockL_n ?_
          refine thenL_n ?_
          refine WC.region ?_
          refine WO.bin rfl rfl (by decide) (by decide) rfl ?_
          refine WO.mv rfl ?_
          refine WO.nil ?_
          refine thenL_n ?_
          obtain rfl := someI h
          exact ⟨_, rfl, ⟨S7, rfl, rfl, (Cov.cons rfl (Cov.cons rfl (Cov.cons rfl (Cov.cons rfl (Cov.nil _))))), hot0, hot1⟩⟩
      · have h := iteF q9 h
        refine WC.exit ?_
        refine thenL_e ?_
        refine thenL_e ?_
        obtain rfl := someI h
        exact ⟨_, rfl, rfl, ⟨S7, rfl, rfl, (Cov.nil _)⟩⟩
    cases b15 with
    | inl b17 =>
      simp only at h
      rintro _ _ _ _ ⟨rfl, ⟨S18, rfl, rfl, hc19⟩⟩
      refine blockL_s ?_
      refine thenL_n ?_
      refine WC.cov hc19 ?_
      refine WC.seq ?_
      refine WC.region ?_
      refine WO.asg rfl ?_
      refine WO.nil ?_
      refine thenL_n ?_
      refine WC.ret ?_
      obtain rfl := someI h
      exact ⟨.inr rfl, _, _, rfl, rfl, rfl⟩
    | inr b17 =>
      simp only at h
      rintro _ _ _ _ ⟨rfl, ⟨S20, rfl, rfl, hc21⟩⟩
      refine blockL_r ?_
      refine thenL_r ?_
      obtain rfl := someI h
      exact ⟨.inr rfl, _, _, (resK_cov hc21 rfl), rfl, rfl⟩
end Go.Proofs.Ytihmliblbhjlaaa

namespace Go.Proofs.Ytihmliblbhjlaaa
open Go.Am
theorem F65.fn : E.fn 65 = some ⟨8, (Try.f65.body.getD .skip), Try.f65.results.toList, []⟩ := rfl
theorem F65_ok {F : Nat} {m : Mem} {n : Nat} {r : Bool} {t0 : List (List UInt8)} {t1 : List (List UInt8)} {vt0 : SV} {vt1 : SV} (h : F65 F t0 t1 = some r) (kt0 : Vw Y9 n m vt0 t0) (kt1 : Vw Y9 n m vt1 t1) : Ret E n 65 [.sc vt0, .sc vt1] m n (fun v m' n' => v = .sc (.bool r)) := by
  unfold F65 at h
  refine Ret.walk F65.fn ?_
  refine WC.start fun S0 em en hz => ?_
  have hot0 := kt0.rdS em hz
  have hot1 := kt1.rdS em hz
  refine WC.seq ?_
  refine WC.region ?_
  refine WO.asg rfl ?_
  refine WO.nil ?_
  refine thenL_n ?_
  refine WC.seq ?_
  refine WC.region ?_
  refine WO.mv rfl ?_
  refine WO.mv rfl ?_
  obtain ⟨r1, e2, h⟩ := bindS h
  refine WO.callE (S := S0) rfl rfl (F86_ok e2 hot0.vw hot1.vw) (fun S3 c4 => ?_)
  have hot0 := hot0.to c4
  have hot1 := hot1.to c4
  refine WO.asg rfl ?_
  refine WO.nil ?_
  refine thenL_n ?_
  refine WC.ret ?_
  obtain rfl := someI h
  exact ⟨.inr rfl, _, _, rfl, rfl, rfl⟩
end Go.Proofs.Ytihmliblbhjlaaa

namespace Go.Proofs.Ytihmliblbhjlaaa
open Go.Am
theorem F67.fn : E.fn 67 = some ⟨44, (Try.f67.body.getD .skip), Try.f67.results.toList, []⟩ := rfl
theorem F67_ok {F : Nat} {m : Mem} {n : Nat} {r : Int} {t0 : Int × (List (List UInt8))} {vt0_1 : SV} (h : F67 F t0 = some r) (kt0_1 : Vw Y9 n m vt0_1 t0.2) : Ret E n 67 [.agg [.int .i64 t0.1, vt0_1]] m n (fun v m' n' => v = .sc (.int .i64 r)) := by
  unfold F67 at h
  refine Ret.walk F67.fn ?_
  refine WC.start fun S0 em en hz => ?_
  have hot0_1 := kt0_1.rdS em hz
  refine WC.seq ?_
  refine WC.region ?_
  refine WO.bxW (S := S0) (cs := [.int .i64 t0.1, vt0_1]) 2 rfl rfl rfl (fun b1 S2 c3 ho4 => ?_)
  have hot0_1 := hot0_1.to c3
  refine WO.asg rfl ?_
  refine WO.nil ?_
  refine thenL_n ?_
  refine WC.seq ?_
  refine WC.seq ?_
  refine WC.region ?_
  refine WO.fldS (j := 0) (q := 0) rfl ho4.at0 ho4.ptr rfl rfl rfl (by decide) ?_
  refine WO.ldW rfl rfl ho4 rfl rfl ho4.lt rfl ?_
  refine WO.bin rfl rfl (by decide) (by decide) rfl ?_
  refine WO.mv rfl ?_
  refine WO.cutB (d := 12) 4 ((decide (t0.1 < 1)) || (decide (t0.1 > 30))) (fun q5 => ?_) (fun q5 => ?_) ?_
  · refine WO.gno rfl rfl ?_
    refine WO.gno rfl rfl ?_
    refine WO.gno rfl rfl ?_
    refine WO.pickT rfl rfl ?_
    refine WO.nil ?_
    exact ⟨rfl, rfl, (Cov.any rfl (orT q5) (Cov.skip rfl (Cov.skip rfl (Cov.skip rfl (Cov.skip rfl (Cov.skip rfl (Cov.refl _)))))))⟩
  · skip
    refine WO.gyes rfl rfl ?_
    refine WO.fldS (j := 0) (q := 0) rfl ho4.at0 ho4.ptr rfl rfl rfl (by decide) ?_
    refine WO.gyes rfl rfl ?_
    refine WO.ldW rfl rfl ho4 rfl rfl ho4.lt rfl ?_
    refine WO.gyes rfl rfl ?_
    refine WO.bin rfl rfl (by decide) (by decide) rfl ?_
    refine WO.pickF rfl rfl ?_
    refine WO.nil ?_
    exact ⟨rfl, rfl, (Cov.any rfl (orF q5) (Cov.skip rfl (Cov.skip rfl (Cov.skip rfl (Cov.skip rfl (Cov.skip rfl (Cov.refl _)))))))⟩
  refine WO.nil ?_
  refine thenL_n ?_
  refine WC.cond rfl (fun q6 => ?_) (fun q6 => ?_)
  · have h := iteT q6 h
    refine WC.seq ?_
    refine WC.region ?_
    refine WO.asg rfl ?_
    refine WO.nil ?_
    refine thenL_n ?_
    refine WC.ret ?_
    refine thenL_r ?_
    obtain rfl := someI h
    exact ⟨.inr rfl, _, _, rfl, rfl, rfl⟩
  · have h := iteF q6 h
    refine WC.skip ?_
    refine thenL_n ?_
    refine WC.seq ?_
    refine WC.seq ?_
    refine WC.region ?_
    refine WO.fldS (j := 0) (q := 0) rfl ho4.at0 ho4.ptr rfl rfl rfl (by decide) ?_
    refine WO.ldW rfl rfl ho4 rfl rfl ho4.lt rfl ?_
    refine WO.lenS rfl hot0_1.slv rfl ?_
    refine WO.fldS (j := 0) (q := 0) rfl ho4.at0 ho4.ptr rfl rfl rfl (by decide) ?_
    refine WO.ldW rfl rfl ho4 rfl rfl ho4.lt rfl ?_
    refine WO.bin rfl rfl (by decide) (by decide) rfl ?_
    refine WO.nil ?_
    refine thenL_n ?_
    refine WC.cond rfl (fun q7 => ?_) (fun q7 => ?_)
    · have h := iteT q7 h
      refine WC.seq ?_
      refine WC.region ?_
      refine WO.asg rfl ?_
      refine WO.nil ?_
      refine thenL_n ?_
      refine WC.ret ?_
      refine thenL_r ?_
      obtain rfl := someI h
      exact ⟨.inr rfl, _, _, rfl, rfl, rfl⟩
    · have h := iteF q7 h
      refine WC.skip ?_
      refine thenL_n ?_
      refine WC.seq ?_
      refine WC.seq ?_
      refine WC.region ?_
      refine WO.fldS (j := 0) (q := 0) rfl ho4.at0 ho4.ptr rfl rfl rfl (by decide) ?_
      refine WO.ldW rfl rfl ho4 rfl rfl ho4.lt rfl ?_
      refine WO.lenS rfl hot0_1.slv rfl ?_
      refine WO.mv rfl ?_
      refine WO.nil ?_
      refine thenL_n ?_
      refine WC.block ?_
      obtain ⟨b31, e32, h⟩ := bindS h
      refine WC.loopD e32 (fun s8 l' m' n' => ∃ S9 : Cx n, S9.m = m' ∧ S9.n = n' ∧ Cov l' [(1, .sc ((.ptr b1 0))), (20, .sc vt0_1), (21, .sc (.int .i64 ((t0.2.length : Int)))), (22, .sc (.int .i64 s8))] ∧ Bw S9 2 (.ptr b1 0) [.int .i64 t0.1, vt0_1] ∧ Rd Y9 S9 vt0_1 t0.2) (fun b e l' m' n' => (match b with | .inl b10 => e = .exit 0 ∧ ∃ S11 : Cx n, S11.m = m' ∧ S11.n = n' ∧ Cov l' [] | .inr b10 => e = .ret ∧ ∃ S12 : Cx n, S12.m = m' ∧ S12.n = n' ∧ Cov l' [(2, .sc (.int .i64 b10))])) (by exact ⟨S2, rfl, rfl, (Cov.cons rfl (Cov.cons rfl (Cov.cons rfl (Cov.cons rfl (Cov.nil _))))), ho4, hot0_1⟩) ?_ ?_
      · clear h
        rintro s8 q _ _ _ ⟨S13, rfl, rfl, hc14, ho4, hot0_1⟩ h
        unfold F67_l0 at h
        refine WC.cov hc14 ?_
        refine WC.seq ?_
        refine WC.region ?_
        refine WO.bin rfl rfl (by decide) (by decide) rfl ?_
        refine WO.nil ?_
        refine thenL_n ?_
        refine WC.seq ?_
        refine WC.cond rfl (fun q15 => ?_) (fun q15 => ?_)
        · have h := iteT q15 h
          refine WC.skip ?_
          refine thenL_n ?_
          refine WC.seq ?_
          refine WC.block ?_
          refine WC.seq ?_
          refine WC.region ?_
          refine WO.mv rfl ?_
          obtain ⟨x16, e17, h⟩ := bindS h
          refine WO.ixS rfl rfl hot0_1.slv (at?_lt e17) rfl ?_
          refine WO.ldF rfl hot0_1.ro (fun _ hi => hi) (at?_get e17) rfl rfl rfl ?_
          refine WO.asg rfl ?_
          refine WO.asg rfl ?_
          refine WO.nil ?_
          refine thenL_n ?_
          refine WC.seq ?_
          refine WC.seq ?_
          refine WC.region ?_
          refine WO.mv rfl ?_
          refine WO.lenT rfl rfl rfl ?_
          refine WO.bin rfl rfl (by decide) (by decide) rfl ?_
          refine WO.nil ?_
          refine thenL_n ?_
          refine WC.cond rfl (fun q18 => ?_) (fun q18 => ?_)
          · have h := iteT q18 h
            refine WC.seq ?_
            refine WC.region ?_
            refine WO.asg rfl ?_
            refine WO.nil ?_
            refine thenL_n ?_
            refine WC.ret ?_
            refine thenL_r ?_
            refine blockL_r ?_
            refine thenL_r ?_
            refine thenL_r ?_
            obtain rfl := someI h
            exact ⟨_, rfl, rfl, ⟨S13, rfl, rfl, (Cov.cons rfl (Cov.nil _))⟩⟩
          · have h := iteF q18 h
            refine WC.skip ?_
            refine thenL_n ?_
            refine WC.seq ?_
            refine WC.region ?_
            refine WO.mv rfl ?_
            refine WO.bin rfl rfl (by decide) (by decide) rfl ?_
            refine WO.mv rfl ?_
            obtain ⟨y26, e27, h⟩ := bindS h
            refine WO.cutS (d := 42) (S := S13) 10 y26 (fun q25 => ?_) (fun q25 => ?_) (fun S28 c29 => ?_)
            · have h := e27
              have h := iteT q25 h
              refine WO.gyes rfl rfl ?_
              refine WO.fldS (j := 0) (q := 0) rfl ho4.at0 ho4.ptr rfl rfl rfl (by decide) ?_
              refine WO.gyes rfl rfl ?_
              refine WO.ldW rfl rfl ho4 rfl rfl ho4.lt rfl ?_
              refine WO.gyes rfl rfl ?_
              refine WO.mv rfl ?_
              refine WO.gyes rfl rfl ?_
              refine WO.bin rfl rfl (by decide) (by decide) rfl ?_
              refine WO.gyes rfl rfl ?_
              obtain ⟨x19, e20, h⟩ := bindS h
              refine WO.ixS rfl rfl hot0_1.slv (at?_lt e20) rfl ?_
              refine WO.gyes rfl rfl ?_
              refine WO.ldF rfl hot0_1.ro (fun _ hi => hi) (at?_get e20) rfl rfl rfl ?_
              refine WO.gyes rfl rfl ?_
              refine WO.mv rfl ?_
              refine WO.gyes rfl rfl ?_
              obtain ⟨r21, e22, h⟩ := bindS h
              refine WO.callE (S := S13) rfl rfl (F131_ok e22) (fun S23 c24 => ?_)
              have ho4 := ho4.to c24
              have hot0_1 := hot0_1.to c24
              refine WO.gyes rfl rfl ?_
              refine WO.do rfl rfl ?_
              obtain rfl := someI h
              refine WO.pickT rfl rfl ?_
              refine WO.nil ?_
              exact ⟨S23, rfl, rfl, c24, (Cov.cons rfl (Cov.skip rfl (Cov.skip rfl (Cov.skip rfl (Cov.skip rfl (Cov.skip rfl (Cov.skip rfl (Cov.skip rfl (Cov.skip rfl (Cov.skip rfl (Cov.skip rfl (Cov.skip rfl (Cov.refl _)))))))))))))⟩
            · have h := e27
              have h := iteF q25 h
              obtain rfl := someI h
              refine WO.gno rfl rfl ?_
              refine WO.gno rfl rfl ?_
              refine WO.gno rfl rfl ?_
              refine WO.gno rfl rfl ?_
              refine WO.gno rfl rfl ?_
              refine WO.gno rfl rfl ?_
              refine WO.gno rfl rfl ?_
              refine WO.gno rfl rfl ?_
              refine WO.gno rfl rfl ?_
              refine WO.pickF rfl rfl ?_
              refine WO.nil ?_
              exact ⟨S13, rfl, rfl, Ch.refl _ _, (Cov.cons rfl (Cov.skip rfl (Cov.skip rfl (Cov.skip rfl (Cov.skip rfl (Cov.skip rfl (Cov.skip rfl (Cov.skip rfl (Cov.skip rfl (Cov.skip rfl (Cov.skip rfl (Cov.skip rfl (Cov.refl _)))))))))))))⟩
            have ho4 := ho4.to c29
            have hot0_1 := hot0_1.to c29
            refine WO.nil ?_
            refine thenL_n ?_
            refine WC.cond rfl (fun q30 => ?_) (fun q30 => ?_)
            · have h := iteT q30 h
              refine WC.seq ?_
              refine WC.region ?_
              refine WO.asg rfl ?_
              refine WO.nil ?_
              refine thenL_n ?_
              refine WC.ret ?_
              refine blockL_r ?_
              refine thenL_r ?_
              refine thenL_r ?_
              obtain rfl := someI h
              exact ⟨_, rfl, rfl, ⟨S28, rfl, rfl, (Cov.cons rfl (Cov.nil _))⟩⟩
            · have h := iteF q30 h
              refine WC.skip ?_
              refine blockL_n ?_
              refine thenL_n ?_
              refine WC.region ?_
              refine WO.bin rfl rfl (by decide) (by decide) rfl ?_
              refine WO.mv rfl ?_
              refine WO.nil ?_
              refine thenL_n ?_
              obtain rfl := someI h
              exact ⟨_, rfl, ⟨S28, rfl, rfl, (Cov.cons rfl (Cov.cons rfl (Cov.cons rfl (Cov.cons rfl (Cov.nil _))))), ho4, hot0_1⟩⟩
        · have h := iteF q15 h
          refine WC.exit ?_
          refine thenL_e ?_
          refine thenL_e ?_
          obtain rfl := someI h
          exact ⟨_, rfl, rfl, ⟨S13, rfl, rfl, (Cov.nil _)⟩⟩
      cases b31 with
      | inl b33 =>
        simp only at h
        rintro _ _ _ _ ⟨rfl, ⟨S34, rfl, rfl, hc35⟩⟩
        refine blockL_s ?_
        refine thenL_n ?_
        refine WC.cov hc35 ?_
        refine WC.seq ?_
        refine WC.region ?_
        refine WO.asg rfl ?_
        refine WO.nil ?_
        refine thenL_n ?_
        refine WC.ret ?_
        obtain rfl := someI h
        exact ⟨.inr rfl, _, _, rfl, rfl, rfl⟩
      | inr b33 =>
        simp only at h
        rintro _ _ _ _ ⟨rfl, ⟨S36, rfl, rfl, hc37⟩⟩
        refine blockL_r ?_
        refine thenL_r ?_
        obtain rfl := someI h
        exact ⟨.inr rfl, _, _, (resK_cov hc37 rfl), rfl, rfl⟩
end Go.Proofs.Ytihmliblbhjlaaa

namespace Go.Proofs.Ytihmliblbhjlaaa
open Go.Am
theorem F8.fn : E.fn 8 = some ⟨205, (Try.f8.body.getD .skip), Try.f8.results.toList, [15, 26]⟩ := rfl
theorem F8_ok {F : Nat} {m : Mem} {n : Nat} {r : Bool} {t0 : Int} {t1 : List (List UInt8)} {t2 : Int × (List (List UInt8))} {t3 : Int × (List (List UInt8))} {vt1 : SV} {vt2_1 : SV} {vt3_1 : SV} (h : F8 F t0 t1 t2 t3 = some r) (kt1 : Vw Y9 n m vt1 t1) (kt2_1 : Vw Y9 n m vt2_1 t2.2) (kt3_1 : Vw Y9 n m vt3_1 t3.2) : Ret E n 8 [.sc (.int .i64 t0), .sc vt1, .agg [.int .i64 t2.1, vt2_1], .agg [.int .i64 t3.1, vt3_1]] m n (fun v m' n' => v = .sc (.bool r)) := by
  unfold F8 at h
  refine Ret.walk F8.fn ?_
  refine WC.start fun S0 em en hz => ?_
  have hot1 := kt1.rdS em hz
  have hot2_1 := kt2_1.rdS em hz
  have hot3_1 := kt3_1.rdS em hz
  refine WC.seq ?_
  refine WC.region ?_
  refine WO.bxW (S := S0) (cs := [.int .i64 t2.1, vt2_1]) 2 rfl rfl rfl (fun b1 S2 c3 ho4 => ?_)
  have hot1 := hot1.to c3
  have hot2_1 := hot2_1.to c3
  have hot3_1 := hot3_1.to c3
  refine WO.bxW (S := S2) (cs := [.int .i64 t3.1, vt3_1]) 3 rfl rfl rfl (fun b5 S6 c7 ho8 => ?_)
  have hot1 := hot1.to c7
  have hot2_1 := hot2_1.to c7
  have hot3_1 := hot3_1.to c7
  have ho4 := ho4.to c7
  refine WO.asg rfl ?_
  refine WO.nil ?_
  refine thenL_n ?_
  refine WC.seq ?_
  refine WC.region ?_
  refine WO.mv rfl ?_
  refine WO.mv rfl ?_
  obtain ⟨r9, e10, h⟩ := bindS h
  refine WO.callG (S := S6) [] [] rfl rfl (F58_ok (S0 := S6.mp []) e10 hot1.mp) (fun _ S13 S14 hb hR => ?_)
  obtain ⟨v11, rfl, hR0⟩ := hR
  have c15 : Ch 1 S6 S14 := hb.ch [] 1
  have hot1 := hot1.to c15
  have hot2_1 := hot2_1.to c15
  have hot3_1 := hot3_1.to c15
  have ho4 := ho4.to c15
  have ho8 := ho8.to c15
  have ho12 := hR0.bkS hb rfl
  refine WO.mv rfl ?_
  refine WO.do rfl rfl ?_
  refine WO.do rfl rfl ?_
  refine WO.alW (S := S14) (cs := [.int .i64 0, .nils]) 4 rfl rfl rfl (fun b16 S17 c18 ho19 => ?_)
  have hot1 := hot1.to c18
  have hot2_1 := hot2_1.to c18
  have hot3_1 := hot3_1.to c18
  have ho4 := ho4.to c18
  have ho8 := ho8.to c18
  have ho12 := ho12.to c18
  refine WO.stW (S := S17) (r := [.int .i64 r9.1.1, v11]) rfl ho19.at0 rfl rfl ho19 rfl rfl rfl rfl rfl (fun S20 c21 ho19 => ?_)
  have hot1 := hot1.to c21
  have hot2_1 := hot2_1.to c21
  have hot3_1 := hot3_1.to c21
  have ho4 := ho4.to c21
  have ho8 := ho8.to c21
  have ho12 := ho12.to c21
  refine WO.asg rfl ?_
  refine WO.nil ?_
  refine thenL_n ?_
  refine WC.seq ?_
  refine WC.region ?_
  refine WO.ldWA (sz := 2) (r := [.int .i64 t2.1, vt2_1]) rfl ho4.at0 ho4 rfl rfl rfl ho4.lt rfl ?_
  refine WO.ldWA (sz := 2) (r := [.int .i64 t3.1, vt3_1]) rfl ho8.at0 ho8 rfl rfl rfl ho8.lt rfl ?_
  obtain ⟨r22, e23, h⟩ := bindS h
  refine WO.callG (S := S20) [] [(902, 5)] rfl rfl (F59_ok (S0 := S20.mp []) e23 hot2_1.mp hot3_1.mp) (fun _ S26 S27 hb hR => ?_)
  obtain ⟨v24, rfl, hR0⟩ := hR
  have c28 : Ch 1 S20 S27 := hb.ch [] 1
  have hot1 := hot1.to c28
  have hot2_1 := hot2_1.to c28
  have hot3_1 := hot3_1.to c28
  have ho4 := ho4.to c28
  have ho8 := ho8.to c28
  have ho12 := ho12.to c28
  have ho19 := ho19.to c28
  have ho25 := hR0.bkF hb rfl Lay.flat_fl
  refine WO.mv rfl ?_
  refine WO.do rfl rfl ?_
  refine WO.do rfl rfl ?_
  refine WO.alW (S := S27) (cs := [.int .i64 0, .nils]) 6 rfl rfl rfl (fun b29 S30 c31 ho32 => ?_)
  have hot1 := hot1.to c31
  have hot2_1 := hot2_1.to c31
  have hot3_1 := hot3_1.to c31
  have ho4 := ho4.to c31
  have ho8 := ho8.to c31
  have ho12 := ho12.to c31
  have ho19 := ho19.to c31
  have ho25 := ho25.to c31
  refine WO.stW (S := S30) (r := [.int .i64 r22.1.1, v24]) rfl ho32.at0 rfl rfl ho32 rfl rfl rfl rfl rfl (fun S33 c34 ho32 => ?_)
  have hot1 := hot1.to c34
  have hot2_1 := hot2_1.to c34
  have hot3_1 := hot3_1.to c34
  have ho4 := ho4.to c34
  have ho8 := ho8.to c34
  have ho12 := ho12.to c34
  have ho19 := ho19.to c34
  have ho25 := ho25.to c34
  refine WO.asg rfl ?_
  refine WO.nil ?_
  refine thenL_n ?_
  refine WC.seq ?_
  refine WC.region ?_
  refine WO.ldWA (sz := 2) (r := [.int .i64 t2.1, vt2_1]) rfl ho4.at0 ho4 rfl rfl rfl ho4.lt rfl ?_
  refine WO.ldWA (sz := 2) (r := [.int .i64 t3.1, vt3_1]) rfl ho8.at0 ho8 rfl rfl rfl ho8.lt rfl ?_
  obtain ⟨r35, e36, h⟩ := bindS h
  refine WO.callE (S := S33) rfl rfl (F60_ok e36 hot2_1.vw hot3_1.vw) (fun S37 c38 => ?_)
  have hot1 := hot1.to c38
  have hot2_1 := hot2_1.to c38
  have hot3_1 := hot3_1.to c38
  have ho4 := ho4.to c38
  have ho8 := ho8.to c38
  have ho12 := ho12.to c38
  have ho19 := ho19.to c38
  have ho25 := ho25.to c38
  have ho32 := ho32.to c38
  refine WO.mv rfl ?_
  refine WO.do rfl rfl ?_
  refine WO.do rfl rfl ?_
  refine WO.do rfl rfl ?_
  refine WO.asg rfl ?_
  refine WO.asg rfl ?_
  refine WO.asg rfl ?_
  refine WO.nil ?_
  refine thenL_n ?_
  refine WC.seq ?_
  refine WC.seq ?_
  refine WC.region ?_
  refine WO.mv rfl ?_
  refine WO.lenS rfl hot1.slv rfl ?_
  refine WO.mv rfl ?_
  refine WO.nil ?_
  refine thenL_n ?_
  refine WC.block ?_
  obtain ⟨b58, e59, h⟩ := bindS h
  refine WC.loopD e59 (fun s39 l' m' n' => ∃ S40 : Cx n, S40.m = m' ∧ S40.n = n' ∧ Cov l' [(0, .sc (.int .i64 t0)), (1, .sc vt1), (6, .sc ((.ptr b1 0))), (7, .sc ((.ptr b5 0))), (9, .sc ((.ptr b16 0))), (10, .sc (.int .i64 r9.2)), (11, .sc ((.ptr b29 0))), (12, .sc (.int .i64 r22.2)), (13, .sc (.int .i64 r35.1)), (14, .sc (.int .i64 r35.2.1)), (15, .sc (.int .i64 r35.2.2)), (42, .sc vt1), (43, .sc (.int .i64 ((t1.length : Int)))), (44, .sc (.int .i64 s39))] ∧ Rd Y9 S40 vt1 t1 ∧ Bw S40 2 (.ptr b1 0) [.int .i64 t2.1, vt2_1] ∧ Rd Y9 S40 vt2_1 t2.2 ∧ Bw S40 3 (.ptr b5 0) [.int .i64 t3.1, vt3_1] ∧ Rd Y9 S40 vt3_1 t3.2 ∧ Bw S40 4 (.ptr b16 0) [.int .i64 r9.1.1, v11] ∧ Rd Y9 S40 v11 r9.1.2 ∧ Bw S40 6 (.ptr b29 0) [.int .i64 r22.1.1, v24] ∧ Ow Y9 S40 5 v24 r22.1.2) (fun b e l' m' n' => (match b with | .inl b41 => e = .exit 0 ∧ ∃ S42 : Cx n, S42.m = m' ∧ S42.n = n' ∧ Cov l' [(0, .sc (.int .i64 t0)), (1, .sc vt1), (6, .sc ((.ptr b1 0))), (7, .sc ((.ptr b5 0))), (9, .sc ((.ptr b16 0))), (10, .sc (.int .i64 r9.2)), (11, .sc ((.ptr b29 0))), (12, .sc (.int .i64 r22.2)), (13, .sc (.int .i64 r35.1)), (14, .sc (.int .i64 r35.2.1)), (15, .sc (.int .i64 r35.2.2))] ∧ Rd Y9 S42 vt1 t1 ∧ Bw S42 2 (.ptr b1 0) [.int .i64 t2.1, vt2_1] ∧ Rd Y9 S42 vt2_1 t2.2 ∧ Bw S42 3 (.ptr b5 0) [.int .i64 t3.1, vt3_1] ∧ Rd Y9 S42 vt3_1 t3.2 ∧ Bw S42 4 (.ptr b16 0) [.int .i64 r9.1.1, v11] ∧ Rd Y9 S42 v11 r9.1.2 ∧ Bw S42 6 (.ptr b29 0) [.int .i64 r22.1.1, v24] ∧ Ow Y9 S42 5 v24 r22.1.2 | .inr b41 => e = .ret ∧ ∃ S43 : Cx n, S43.m = m' ∧ S43.n = n' ∧ Cov l' [(8, .sc (.bool b41))])) (by exact ⟨S37, rfl, rfl, (Cov.cons rfl (Cov.cons rfl (Cov.cons rfl (Cov.cons rfl (Cov.cons rfl (Cov.cons rfl (Cov.cons rfl (Cov.cons rfl (Cov.cons rfl (Cov.cons rfl (Cov.cons rfl (Cov.cons rfl (Cov.cons rfl (Cov.cons rfl (Cov.nil _))))))))))))))), hot1, ho4, hot2_1, ho8, hot3_1, ho19, ho12, ho32, ho25⟩) ?_ ?_
  · clear h
    rintro s39 q _ _ _ ⟨S44, rfl, rfl, hc45, hot1, ho4, hot2_1, ho8, hot3_1, ho19, ho12, ho32, ho25⟩ h
    unfold F8_l0 at h
    refine WC.cov hc45 ?_
    refine WC.seq ?_
    refine WC.region ?_
    refine WO.bin rfl rfl (by decide) (by decide) rfl ?_
    refine WO.nil ?_
    refine thenL_n ?_
    refine WC.seq ?_
    refine WC.cond rfl (fun q46 => ?_) (fun q46 => ?_)
    · have h := iteT q46 h
      refine WC.skip ?_
      refine thenL_n ?_
      refine WC.seq ?_
      refine WC.block ?_
      refine WC.seq ?_
      refine WC.region ?_
      obtain ⟨x47, e48, h⟩ := bindS h
      refine WO.ixS rfl rfl hot1.slv (at?_lt e48) rfl ?_
      refine WO.ldF rfl hot1.ro (fun _ hi => hi) (at?_get e48) rfl rfl rfl ?_
      refine WO.asg rfl ?_
      refine WO.nil ?_
      refine thenL_n ?_
      refine WC.seq ?_
      refine WC.region ?_
      refine WO.mv rfl ?_
      obtain ⟨r49, e50, h⟩ := bindS h
      refine WO.callE (S := S44) rfl rfl (F61_ok e50) (fun S51 c52 => ?_)
      have hot1 := hot1.to c52
      have ho4 := ho4.to c52
      have hot2_1 := hot2_1.to c52
      have ho8 := ho8.to c52
      have hot3_1 := hot3_1.to c52
      have ho19 := ho19.to c52
      have ho12 := ho12.to c52
      have ho32 := ho32.to c52
      have ho25 := ho25.to c52
      refine WO.mv rfl ?_
      obtain ⟨r53, e54, h⟩ := bindS h
      refine WO.callE (S := S51) rfl rfl (F62_ok e54) (fun S55 c56 => ?_)
      have hot1 := hot1.to c56
      have ho4 := ho4.to c56
      have hot2_1 := hot2_1.to c56
      have ho8 := ho8.to c56
      have hot3_1 := hot3_1.to c56
      have ho19 := ho19.to c56
      have ho12 := ho12.to c56
      have ho32 := ho32.to c56
      have ho25 := ho25.to c56
      refine WO.bin rfl rfl (by decide) (by decide) rfl ?_
      refine WO.nil ?_
      refine thenL_n ?_
      refine WC.cond rfl (fun q57 => ?_) (fun q57 => ?_)
      · have h := iteT q57 h
        refine WC.seq ?_
        refine WC.region ?_
        refine WO.asg rfl ?_
        refine WO.nil ?_
        refine thenL_n ?_
        refine WC.ret ?_
        refine blockL_r ?_
        refine thenL_r ?_
        refine thenL_r ?_
        obtain rfl := someI h
        exact ⟨_, rfl, rfl, ⟨S55, rfl, rfl, (Cov.cons rfl (Cov.nil _))⟩⟩
      · have h := iteF q57 h
        refine WC.skip ?_
        refine blockL_n ?_
        refine thenL_n ?_
        refine WC.region ?_
        refine WO.bin rfl rfl (by decide) (by decide) rfl ?_
        refine WO.mv rfl ?_
        refine WO.nil ?_
        refine thenL_n ?_
        obtain rfl := someI h
        exact ⟨_, rfl, ⟨S55, rfl, rfl, (Cov.cons rfl (Cov.cons rfl (Cov.cons rfl (Cov.cons rfl (Cov.cons rfl (Cov.cons rfl (Cov.cons rfl (Cov.cons rfl (Cov.cons rfl (Cov.cons rfl (Cov.cons rfl (Cov.cons rfl (Cov.cons rfl (Cov.cons rfl (Cov.nil _))))))))))))))), hot1, ho4, hot2_1, ho8, hot3_1, ho19, ho12, ho32, ho25⟩⟩
    · have h := iteF q46 h
      refine WC.exit ?_
      refine thenL_e ?_
      refine thenL_e ?_
      obtain rfl := someI h
      exact ⟨_, rfl, rfl, ⟨S44, rfl, rfl, (Cov.cons rfl (Cov.cons rfl (Cov.cons rfl (Cov.cons rfl (Cov.cons rfl (Cov.cons rfl (Cov.cons rfl (Cov.cons rfl (Cov.cons rfl (Cov.cons rfl (Cov.cons rfl (Cov.nil _)))))))))))), hot1, ho4, hot2_1, ho8, hot3_1, ho19, ho12, ho32, ho25⟩⟩
  cases b58 with
  | inl b60 =>
    simp only at h
    rintro _ _ _ _ ⟨rfl, ⟨S61, rfl, rfl, hc62, hot1, ho4, hot2_1, ho8, hot3_1, ho19, ho12, ho32, ho25⟩⟩
    refine blockL_s ?_
    refine thenL_n ?_
    refine WC.cov hc62 ?_
    refine WC.seq ?_
    refine WC.region ?_
    refine WO.asg rfl ?_
    refine WO.nil ?_
    refine thenL_n ?_
    refine WC.seq ?_
    refine WC.seq ?_
    refine WC.region ?_
    refine WO.mv rfl ?_
    refine WO.bin rfl rfl (by decide) (by decide) rfl ?_
    refine WO.mv rfl ?_
    refine WO.cutB (d := 59) 3 ((decide (t0 < 1)) || (decide (t0 > 30))) (fun q63 => ?_) (fun q63 => ?_) ?_
    · refine WO.gno rfl rfl ?_
      refine WO.gno rfl rfl ?_
      refine WO.pickT rfl rfl ?_
      refine WO.nil ?_
      exact ⟨rfl, rfl, (Cov.any rfl (orT q63) (Cov.skip rfl (Cov.skip rfl (Cov.skip rfl (Cov.skip rfl (Cov.refl _))))))⟩
    · skip
      refine WO.gyes rfl rfl ?_
      refine WO.mv rfl ?_
      refine WO.gyes rfl rfl ?_
      refine WO.bin rfl rfl (by decide) (by decide) rfl ?_
      refine WO.pickF rfl rfl ?_
      refine WO.nil ?_
      exact ⟨rfl, rfl, (Cov.any rfl (orF q63) (Cov.skip rfl (Cov.skip rfl (Cov.skip rfl (Cov.skip rfl (Cov.refl _))))))⟩
    refine WO.nil ?_
    refine thenL_n ?_
    obtain ⟨b70, e71, h⟩ := bindS h
    refine WC.mono (Q' := (fun b e l' m' n' => e = .normal ∧ ∃ S72 : Cx n, S72.m = m' ∧ S72.n = n' ∧ Cov l' [(0, .sc (.int .i64 t0)), (1, .sc vt1), (6, .sc ((.ptr b1 0))), (7, .sc ((.ptr b5 0))), (9, .sc ((.ptr b16 0))), (10, .sc (.int .i64 r9.2)), (11, .sc ((.ptr b29 0))), (12, .sc (.int .i64 r22.2)), (13, .sc (.int .i64 r35.1)), (14, .sc (.int .i64 r35.2.1)), (15, .sc (.int .i64 r35.2.2)), (18, .sc (.int .i64 b))] ∧ Rd Y9 S72 vt1 t1 ∧ Bw S72 2 (.ptr b1 0) [.int .i64 t2.1, vt2_1] ∧ Rd Y9 S72 vt2_1 t2.2 ∧ Bw S72 3 (.ptr b5 0) [.int .i64 t3.1, vt3_1] ∧ Rd Y9 S72 vt3_1 t3.2 ∧ Bw S72 4 (.ptr b16 0) [.int .i64 r9.1.1, v11] ∧ Rd Y9 S72 v11 r9.1.2 ∧ Bw S72 6 (.ptr b29 0) [.int .i64 r22.1.1, v24] ∧ Ow Y9 S72 5 v24 r22.1.2) b70) ?_ ?_
    · have h := e71
      dsimp only at h ⊢
      refine WC.cond rfl (fun q64 => ?_) (fun q64 => ?_)
      · have h := iteT q64 h
        refine WC.region ?_
        refine WO.asg rfl ?_
        refine WO.nil ?_
        obtain rfl := someI h
        exact ⟨rfl, ⟨S61, rfl, rfl, (Cov.cons rfl (Cov.cons rfl (Cov.cons rfl (Cov.cons rfl (Cov.cons rfl (Cov.cons rfl (Cov.cons rfl (Cov.cons rfl (Cov.cons rfl (Cov.cons rfl (Cov.cons rfl (Cov.cons rfl (Cov.nil _))))))))))))), hot1, ho4, hot2_1, ho8, hot3_1, ho19, ho12, ho32, ho25⟩⟩
      · have h := iteF q64 h
        refine WC.seq ?_
        refine WC.region ?_
        refine WO.mv rfl ?_
        obtain ⟨r65, e66, h⟩ := bindS h
        refine WO.callE (S := S61) rfl rfl (F63_64_ok e66 hot1.vw) (fun S67 c68 => ?_)
        have hot1 := hot1.to c68
        have ho4 := ho4.to c68
        have hot2_1 := hot2_1.to c68
        have ho8 := ho8.to c68
        have hot3_1 := hot3_1.to c68
        have ho19 := ho19.to c68
        have ho12 := ho12.to c68
        have ho32 := ho32.to c68
        have ho25 := ho25.to c68
        refine WO.nil ?_
        refine thenL_n ?_
        refine WC.cond rfl (fun q69 => ?_) (fun q69 => ?_)
        · have h := iteT q69 h
          refine WC.region ?_
          refine WO.asg rfl ?_
          refine WO.nil ?_
          obtain rfl := someI h
          exact ⟨rfl, ⟨S67, rfl, rfl, (Cov.cons rfl (Cov.cons rfl (Cov.cons rfl (Cov.cons rfl (Cov.cons rfl (Cov.cons rfl (Cov.cons rfl (Cov.cons rfl (Cov.cons rfl (Cov.cons rfl (Cov.cons rfl (Cov.cons rfl (Cov.nil _))))))))))))), hot1, ho4, hot2_1, ho8, hot3_1, ho19, ho12, ho32, ho25⟩⟩
        · have h := iteF q69 h
          refine WC.skip ?_
          obtain rfl := someI h
          exact ⟨rfl, ⟨S67, rfl, rfl, (Cov.cons rfl (Cov.cons rfl (Cov.cons rfl (Cov.cons rfl (Cov.cons rfl (Cov.cons rfl (Cov.cons rfl (Cov.cons rfl (Cov.cons rfl (Cov.cons rfl (Cov.cons rfl (Cov.cons rfl (Cov.nil _))))))))))))), hot1, ho4, hot2_1, ho8, hot3_1, ho19, ho12, ho32, ho25⟩⟩
    dsimp only
    rintro _ _ _ _ ⟨rfl, ⟨S73, rfl, rfl, hc74, hot1, ho4, hot2_1, ho8, hot3_1, ho19, ho12, ho32, ho25⟩⟩
    refine thenL_n ?_
    refine WC.cov hc74 ?_
    refine WC.seq ?_
    refine WC.seq ?_
    refine WC.drawN rfl rfl ?_
    have hot1z := hot1.oz
    have ho4z := ho4.lt
    have hot2_1z := hot2_1.oz
    have ho8z := ho8.lt
    have hot3_1z := hot3_1.oz
    have ho19z := ho19.lt
    have ho12z := ho12.oz
    have ho32z := ho32.lt
    have ho25z := ho25.oz
    refine WO.mv rfl ?_
    refine WO.mv rfl ?_
    refine WO.bin rfl rfl (by decide) (by decide) rfl ?_
    refine WO.mv rfl ?_
    refine WO.cutB (d := 79) 14 ((r9.2 != b70) || ((b70 != 0) && ((r9.1.1 != 0) || (decide ((r9.1.2.length : Int) > 0))))) (fun q77 => ?_) (fun q77 => ?_) ?_
    · refine WO.gno rfl rfl ?_
      refine WO.gno rfl rfl ?_
      refine WO.gno rfl rfl ?_
      refine WO.gskip rfl rfl ?_
      refine WO.gskip rfl rfl ?_
      refine WO.gskip rfl rfl ?_
      refine WO.gskip rfl rfl ?_
      refine WO.gskip rfl rfl ?_
      refine WO.gskip rfl rfl ?_
      refine WO.gskip rfl rfl ?_
      refine WO.gskip rfl rfl ?_
      refine WO.gskip rfl rfl ?_
      refine WO.gno rfl rfl ?_
      refine WO.pickT rfl rfl ?_
      refine WO.nil ?_
      exact ⟨rfl, rfl, (Cov.any rfl (orT q77) (Cov.skip rfl (Cov.skip rfl (Cov.skip rfl (Cov.skip rfl (Cov.skip rfl (Cov.skip rfl (Cov.skip rfl (Cov.skip rfl (Cov.skip rfl (Cov.skip rfl (Cov.skip rfl (Cov.skip rfl (Cov.skip rfl (Cov.skip rfl (Cov.skip rfl (Cov.refl _)))))))))))))))))⟩
    · skip
      refine WO.gyes rfl rfl ?_
      refine WO.mv rfl ?_
      refine WO.gyes rfl rfl ?_
      refine WO.bin rfl rfl (by decide) (by decide) rfl ?_
      refine WO.gyes rfl rfl ?_
      refine WO.mv rfl ?_
      refine WO.cutB (d := 78) 10 ((b70 != 0) && ((r9.1.1 != 0) || (decide ((r9.1.2.length : Int) > 0)))) (fun q76 => ?_) (fun q76 => ?_) ?_
      · skip
        refine WO.gyes rfl rfl ?_
        refine WO.fldS (j := 0) (q := 0) rfl ho19.at0 ho19.ptr rfl rfl rfl (by decide) ?_
        refine WO.gyes rfl rfl ?_
        refine WO.ldW rfl rfl ho19 rfl rfl ho19z (limLe_self _) ?_
        refine WO.gyes rfl rfl ?_
        refine WO.bin rfl rfl (by decide) (by decide) rfl ?_
        refine WO.gyes rfl rfl ?_
        refine WO.mv rfl ?_
        refine WO.cutB (d := 77) 5 ((r9.1.1 != 0) || (decide ((r9.1.2.length : Int) > 0))) (fun q75 => ?_) (fun q75 => ?_) ?_
        · refine WO.gno rfl rfl ?_
          refine WO.gno rfl rfl ?_
          refine WO.gno rfl rfl ?_
          refine WO.gno rfl rfl ?_
          refine WO.gyes rfl rfl ?_
          refine WO.pickT rfl rfl ?_
          refine WO.nil ?_
          exact ⟨rfl, rfl, (Cov.any rfl (orT q75) (Cov.skip rfl (Cov.skip rfl (Cov.skip rfl (Cov.skip rfl (Cov.skip rfl (Cov.skip rfl (Cov.refl _))))))))⟩
        · skip
          refine WO.gyes rfl rfl ?_
          refine WO.fldS (j := 0) (q := 0) rfl ho19.at0 ho19.ptr rfl rfl rfl (by decide) ?_
          refine WO.gyes rfl rfl ?_
          refine WO.ldW rfl rfl ho19 rfl rfl ho19z (limLe_self _) ?_
          refine WO.gyes rfl rfl ?_
          refine WO.lenS rfl ho12.slv rfl ?_
          refine WO.gyes rfl rfl ?_
          refine WO.bin rfl rfl (by decide) (by decide) rfl ?_
          refine WO.gyes rfl rfl ?_
          refine WO.pickF rfl rfl ?_
          refine WO.nil ?_
          exact ⟨rfl, rfl, (Cov.any rfl (orF q75) (Cov.skip rfl (Cov.skip rfl (Cov.skip rfl (Cov.skip rfl (Cov.skip rfl (Cov.skip rfl (Cov.refl _))))))))⟩
        refine WO.gyes rfl rfl ?_
        refine WO.pickT rfl rfl ?_
        refine WO.nil ?_
        exact ⟨rfl, rfl, (Cov.any rfl (andT q76) (Cov.skip rfl (Cov.skip rfl (Cov.skip rfl (Cov.skip rfl (Cov.skip rfl (Cov.skip rfl (Cov.refl _))))))))⟩
      · refine WO.gno rfl rfl ?_
        refine WO.gno rfl rfl ?_
        refine WO.gno rfl rfl ?_
        refine WO.gno rfl rfl ?_
        refine WO.gskip rfl rfl ?_
        refine WO.gskip rfl rfl ?_
        refine WO.gskip rfl rfl ?_
        refine WO.gskip rfl rfl ?_
        refine WO.gno rfl rfl ?_
        refine WO.gyes rfl rfl ?_
        refine WO.pickF rfl rfl ?_
        refine WO.nil ?_
        exact ⟨rfl, rfl, (Cov.any rfl (andF q76) (Cov.skip rfl (Cov.skip rfl (Cov.skip rfl (Cov.skip rfl (Cov.skip rfl (Cov.skip rfl (Cov.skip rfl (Cov.skip rfl (Cov.skip rfl (Cov.skip rfl (Cov.skip rfl (Cov.refl _)))))))))))))⟩
      refine WO.pickF rfl rfl ?_
      refine WO.nil ?_
      exact ⟨rfl, rfl, (Cov.any rfl (orF q77) (Cov.skip rfl (Cov.skip rfl (Cov.skip rfl (Cov.skip rfl (Cov.skip rfl (Cov.refl _)))))))⟩
    refine WO.mv rfl ?_
    obtain ⟨y99, e100, h⟩ := bindS h
    refine WO.cutS (d := 98) (S := S73) 18 y99 (fun q98 => ?_) (fun q98 => ?_) (fun S101 c102 => ?_)
    · have h := e100
      have h := iteT q98 h
      obtain rfl := someI h
      refine WO.gno rfl rfl ?_
      refine WO.gno rfl rfl ?_
      refine WO.gno rfl rfl ?_
      refine WO.gskip rfl rfl ?_
      refine WO.gskip rfl rfl ?_
      refine WO.gskip rfl rfl ?_
      refine WO.gskip rfl rfl ?_
      refine WO.gskip rfl rfl ?_
      refine WO.gskip rfl rfl ?_
      refine WO.gskip rfl rfl ?_
      refine WO.gskip rfl rfl ?_
      refine WO.gskip rfl rfl ?_
      refine WO.gskip rfl rfl ?_
      refine WO.gskip rfl rfl ?_
      refine WO.gskip rfl rfl ?_
      refine WO.gskip rfl rfl ?_
      refine WO.gno rfl rfl ?_
      refine WO.pickT rfl rfl ?_
      refine WO.nil ?_
      exact ⟨S73, rfl, rfl, Ch.refl _ _, (Cov.cons rfl (Cov.skip rfl (Cov.skip rfl (Cov.skip rfl (Cov.skip rfl (Cov.skip rfl (Cov.skip rfl (Cov.skip rfl (Cov.skip rfl (Cov.skip rfl (Cov.skip rfl (Cov.skip rfl (Cov.skip rfl (Cov.skip rfl (Cov.skip rfl (Cov.skip rfl (Cov.skip rfl (Cov.skip rfl (Cov.skip rfl (Cov.skip rfl (Cov.refl _)))))))))))))))))))))⟩
    · have h := e100
      have h := iteF q98 h
      refine WO.gyes rfl rfl ?_
      refine WO.mv rfl ?_
      refine WO.gyes rfl rfl ?_
      refine WO.bin rfl rfl (by decide) (by decide) rfl ?_
      refine WO.gyes rfl rfl ?_
      refine WO.mv rfl ?_
      obtain ⟨y94, e95, h⟩ := bindS h
      refine WO.cutS (d := 97) (S := S73) 14 y94 (fun q93 => ?_) (fun q93 => ?_) (fun S96 c97 => ?_)
      · have h := e95
        have h := iteT q93 h
        refine WO.gyes rfl rfl ?_
        refine WO.fldS (j := 0) (q := 0) rfl ho19.at0 ho19.ptr rfl rfl rfl (by decide) ?_
        refine WO.gyes rfl rfl ?_
        refine WO.ldW rfl rfl ho19 rfl rfl ho19z (limLe_self _) ?_
        refine WO.gyes rfl rfl ?_
        refine WO.mv rfl ?_
        refine WO.gyes rfl rfl ?_
        refine WO.bin rfl rfl (by decide) (by decide) rfl ?_
        refine WO.gyes rfl rfl ?_
        refine WO.mv rfl ?_
        obtain ⟨y89, e90, h⟩ := bindS h
        refine WO.cutS (d := 96) (S := S73) 8 y89 (fun q88 => ?_) (fun q88 => ?_) (fun S91 c92 => ?_)
        · have h := e90
          have h := iteT q88 h
          obtain rfl := someI h
          refine WO.gno rfl rfl ?_
          refine WO.gno rfl rfl ?_
          refine WO.gno rfl rfl ?_
          refine WO.gno rfl rfl ?_
          refine WO.gno rfl rfl ?_
          refine WO.gno rfl rfl ?_
          refine WO.gno rfl rfl ?_
          refine WO.gyes rfl rfl ?_
          refine WO.pickT rfl rfl ?_
          refine WO.nil ?_
          exact ⟨S73, rfl, rfl, Ch.refl _ _, (Cov.cons rfl (Cov.skip rfl (Cov.skip rfl (Cov.skip rfl (Cov.skip rfl (Cov.skip rfl (Cov.skip rfl (Cov.skip rfl (Cov.skip rfl (Cov.skip rfl (Cov.refl _)))))))))))⟩
        · have h := e90
          have h := iteF q88 h
          refine WO.gyes rfl rfl ?_
          refine WO.fldS (j := 0) (q := 0) rfl ho19.at0 ho19.ptr rfl rfl rfl (by decide) ?_
          refine WO.gyes rfl rfl ?_
          refine WO.ldW rfl rfl ho19 rfl rfl ho19z (limLe_self _) ?_
          refine WO.gyes rfl rfl ?_
          refine WO.mv rfl ?_
          refine WO.gyes rfl rfl ?_
          refine WO.mv rfl ?_
          refine WO.gyes rfl rfl ?_
          obtain ⟨r78, e79, h⟩ := bindS h
          refine WO.callF (S := S73) 1 rfl rfl (F66_ok e79 hot1.vw) Lay.flat_fl (fun v80 S82 c83 ho81 => ?_)
          have hot1z := hot1z.toz c83
          have hot2_1z := hot2_1z.toz c83
          have hot3_1z := hot3_1z.toz c83
          have ho12z := ho12z.toz c83
          have ho25z := ho25z.tow c83
          have hot1 := hot1.to c83
          have ho4 := ho4.to c83
          have hot2_1 := hot2_1.to c83
          have ho8 := ho8.to c83
          have hot3_1 := hot3_1.to c83
          have ho19 := ho19.to c83
          have ho12 := ho12.to c83
          have ho32 := ho32.to c83
          have ho25 := ho25.to c83
          refine WO.gyes rfl rfl ?_
          obtain ⟨r84, e85, h⟩ := bindS h
          refine WO.callE (S := S82) rfl rfl (F65_ok e85 ho12.vw ho81.vw) (fun S86 c87 => ?_)
          have hot1z := hot1z.toz c87
          have hot2_1z := hot2_1z.toz c87
          have hot3_1z := hot3_1z.toz c87
          have ho12z := ho12z.toz c87
          have ho25z := ho25z.tow c87
          have hot1 := hot1.to c87
          have ho4 := ho4.to c87
          have hot2_1 := hot2_1.to c87
          have ho8 := ho8.to c87
          have hot3_1 := hot3_1.to c87
          have ho19 := ho19.to c87
          have ho12 := ho12.to c87
          have ho32 := ho32.to c87
          have ho25 := ho25.to c87
          refine WO.gyes rfl rfl ?_
          refine WO.do rfl rfl ?_
          obtain rfl := someI h
          refine WO.gyes rfl rfl ?_
          refine WO.pickF rfl rfl ?_
          refine WO.nil ?_
          exact ⟨S86, rfl, rfl, (c83.trans c87), (Cov.cons rfl (Cov.skip rfl (Cov.skip rfl (Cov.skip rfl (Cov.skip rfl (Cov.skip rfl (Cov.skip rfl (Cov.skip rfl (Cov.skip rfl (Cov.skip rfl (Cov.refl _)))))))))))⟩
        have hot1z := hot1z.toz c92
        have hot2_1z := hot2_1z.toz c92
        have hot3_1z := hot3_1z.toz c92
        have ho12z := ho12z.toz c92
        have ho25z := ho25z.tow c92
        have hot1 := hot1.to c92
        have ho4 := ho4.to c92
        have hot2_1 := hot2_1.to c92
        have ho8 := ho8.to c92
        have hot3_1 := hot3_1.to c92
        have ho19 := ho19.to c92
        have ho12 := ho12.to c92
        have ho32 := ho32.to c92
        have ho25 := ho25.to c92
        obtain rfl := someI h
        refine WO.gyes rfl rfl ?_
        refine WO.pickT rfl rfl ?_
        refine WO.nil ?_
        exact ⟨S91, rfl, rfl, c92, (Cov.cons rfl (Cov.skip rfl (Cov.skip rfl (Cov.skip rfl (Cov.skip rfl (Cov.skip rfl (Cov.skip rfl (Cov.skip rfl (Cov.refl _)))))))))⟩
      · have h := e95
        have h := iteF q93 h
        obtain rfl := someI h
        refine WO.gno rfl rfl ?_
        refine WO.gno rfl rfl ?_
        refine WO.gno rfl rfl ?_
        refine WO.gno rfl rfl ?_
        refine WO.gno rfl rfl ?_
        refine WO.gskip rfl rfl ?_
        refine WO.gskip rfl rfl ?_
        refine WO.gskip rfl rfl ?_
        refine WO.gskip rfl rfl ?_
        refine WO.gskip rfl rfl ?_
        refine WO.gskip rfl rfl ?_
        refine WO.gskip rfl rfl ?_
        refine WO.gno rfl rfl ?_
        refine WO.gyes rfl rfl ?_
        refine WO.pickF rfl rfl ?_
        refine WO.nil ?_
        exact ⟨S73, rfl, rfl, Ch.refl _ _, (Cov.cons rfl (Cov.skip rfl (Cov.skip rfl (Cov.skip rfl (Cov.skip rfl (Cov.skip rfl (Cov.skip rfl (Cov.skip rfl (Cov.skip rfl (Cov.skip rfl (Cov.skip rfl (Cov.skip rfl (Cov.skip rfl (Cov.skip rfl (Cov.skip rfl (Cov.skip rfl (Cov.refl _)))))))))))))))))⟩
      have hot1z := hot1z.toz c97
      have hot2_1z := hot2_1z.toz c97
      have hot3_1z := hot3_1z.toz c97
      have ho12z := ho12z.toz c97
      have ho25z := ho25z.tow c97
      have hot1 := hot1.to c97
      have ho4 := ho4.to c97
      have hot2_1 := hot2_1.to c97
      have ho8 := ho8.to c97
      have hot3_1 := hot3_1.to c97
      have ho19 := ho19.to c97
      have ho12 := ho12.to c97
      have ho32 := ho32.to c97
      have ho25 := ho25.to c97
      obtain rfl := someI h
      refine WO.pickF rfl rfl ?_
      refine WO.nil ?_
      exact ⟨S96, rfl, rfl, c97, (Cov.cons rfl (Cov.skip rfl (Cov.skip rfl (Cov.skip rfl (Cov.skip rfl (Cov.skip rfl (Cov.refl _)))))))⟩
    have hot1z := hot1z.toz c102
    have hot2_1z := hot2_1z.toz c102
    have hot3_1z := hot3_1z.toz c102
    have ho12z := ho12z.toz c102
    have ho25z := ho25z.tow c102
    have hot1 := hot1.to c102
    have ho4 := ho4.to c102
    have hot2_1 := hot2_1.to c102
    have ho8 := ho8.to c102
    have hot3_1 := hot3_1.to c102
    have ho19 := ho19.to c102
    have ho12 := ho12.to c102
    have ho32 := ho32.to c102
    have ho25 := ho25.to c102
    refine WO.nil ?_
    refine thenL_n ?_
    refine WC.cond rfl (fun q103 => ?_) (fun q103 => ?_)
    · have h := iteT q103 h
      refine WC.seq ?_
      refine WC.region ?_
      refine WO.asg rfl ?_
      refine WO.nil ?_
      refine thenL_n ?_
      refine WC.ret ?_
      refine thenL_r ?_
      obtain rfl := someI h
      exact ⟨.inr rfl, _, _, rfl, rfl, rfl⟩
    · have h := iteF q103 h
      refine WC.skip ?_
      refine thenL_n ?_
      refine WC.seq ?_
      refine WC.region ?_
      refine WO.ldWA (sz := 2) (r := [.int .i64 t2.1, vt2_1]) rfl ho4.at0 ho4 rfl rfl rfl ho4.lt rfl ?_
      obtain ⟨r104, e105, h⟩ := bindS h
      refine WO.callE (S := S101) rfl rfl (F67_ok e105 hot2_1.vw) (fun S106 c107 => ?_)
      have hot1 := hot1.to c107
      have ho4 := ho4.to c107
      have hot2_1 := hot2_1.to c107
      have ho8 := ho8.to c107
      have hot3_1 := hot3_1.to c107
      have ho19 := ho19.to c107
      have ho12 := ho12.to c107
      have ho32 := ho32.to c107
      have ho25 := ho25.to c107
      refine WO.asg rfl ?_
      refine WO.nil ?_
      refine thenL_n ?_
      refine WC.seq ?_
      refine WC.seq ?_
      refine WC.region ?_
      refine WO.ldWA (sz := 2) (r := [.int .i64 t2.1, vt2_1]) rfl ho4.at0 ho4 rfl rfl rfl ho4.lt rfl ?_
      obtain ⟨r108, e109, h⟩ := bindS h
      refine WO.callE (S := S106) rfl rfl (F68_ok e109 hot2_1.vw) (fun S110 c111 => ?_)
      have hot1 := hot1.to c111
      have ho4 := ho4.to c111
      have hot2_1 := hot2_1.to c111
      have ho8 := ho8.to c111
      have hot3_1 := hot3_1.to c111
      have ho19 := ho19.to c111
      have ho12 := ho12.to c111
      have ho32 := ho32.to c111
      have ho25 := ho25.to c111
      refine WO.mv rfl ?_
      refine WO.bin rfl rfl (by decide) (by decide) rfl ?_
      refine WO.nil ?_
      refine thenL_n ?_
      refine WC.cond rfl (fun q112 => ?_) (fun q112 => ?_)
      · have h := iteT q112 h
        refine WC.seq ?_
        refine WC.region ?_
        refine WO.asg rfl ?_
        refine WO.nil ?_
        refine thenL_n ?_
        refine WC.ret ?_
        refine thenL_r ?_
        obtain rfl := someI h
        exact ⟨.inr rfl, _, _, rfl, rfl, rfl⟩
      · have h := iteF q112 h
        refine WC.skip ?_
        refine thenL_n ?_
        refine WC.seq ?_
        refine WC.seq ?_
        refine WC.region ?_
        refine WO.mv rfl ?_
        refine WO.bin rfl rfl (by decide) (by decide) rfl ?_
        refine WO.nil ?_
        refine thenL_n ?_
        obtain ⟨b118, e119, h⟩ := bindS h
        refine WC.mono (Q' := (fun b e l' m' n' => e = .normal ∧ ∃ S120 : Cx n, S120.m = m' ∧ S120.n = n' ∧ Cov l' [(6, .sc ((.ptr b1 0))), (7, .sc ((.ptr b5 0))), (11, .sc ((.ptr b29 0))), (12, .sc (.int .i64 r22.2)), (13, .sc (.int .i64 r35.1)), (14, .sc (.int .i64 r35.2.1)), (15, .sc (.int .i64 r35.2.2)), (18, .sc (.int .i64 b))] ∧ Bw S120 2 (.ptr b1 0) [.int .i64 t2.1, vt2_1] ∧ Rd Y9 S120 vt2_1 t2.2 ∧ Bw S120 3 (.ptr b5 0) [.int .i64 t3.1, vt3_1] ∧ Rd Y9 S120 vt3_1 t3.2 ∧ Bw S120 6 (.ptr b29 0) [.int .i64 r22.1.1, v24] ∧ Ow Y9 S120 5 v24 r22.1.2) b118) ?_ ?_
        · have h := e119
          dsimp only at h ⊢
          refine WC.cond rfl (fun q113 => ?_) (fun q113 => ?_)
          · have h := iteT q113 h
            refine WC.region ?_
            refine WO.ldWA (sz := 2) (r := [.int .i64 t3.1, vt3_1]) rfl ho8.at0 ho8 rfl rfl rfl ho8.lt rfl ?_
            obtain ⟨r114, e115, h⟩ := bindS h
            refine WO.callE (S := S110) rfl rfl (F67_ok e115 hot3_1.vw) (fun S116 c117 => ?_)
            have hot1 := hot1.to c117
            have ho4 := ho4.to c117
            have hot2_1 := hot2_1.to c117
            have ho8 := ho8.to c117
            have hot3_1 := hot3_1.to c117
            have ho19 := ho19.to c117
            have ho12 := ho12.to c117
            have ho32 := ho32.to c117
            have ho25 := ho25.to c117
            refine WO.asg rfl ?_
            refine WO.nil ?_
            obtain rfl := someI h
            exact ⟨rfl, ⟨S116, rfl, rfl, (Cov.cons rfl (Cov.cons rfl (Cov.cons rfl (Cov.cons rfl (Cov.cons rfl (Cov.cons rfl (Cov.cons rfl (Cov.cons rfl (Cov.nil _))))))))), ho4, hot2_1, ho8, hot3_1, ho32, ho25⟩⟩
          · have h := iteF q113 h
            refine WC.skip ?_
            obtain rfl := someI h
            exact ⟨rfl, ⟨S110, rfl, rfl, (Cov.cons rfl (Cov.cons rfl (Cov.cons rfl (Cov.cons rfl (Cov.cons rfl (Cov.cons rfl (Cov.cons rfl (Cov.cons rfl (Cov.nil _))))))))), ho4, hot2_1, ho8, hot3_1, ho32, ho25⟩⟩
        dsimp only
        rintro _ _ _ _ ⟨rfl, ⟨S121, rfl, rfl, hc122, ho4, hot2_1, ho8, hot3_1, ho32, ho25⟩⟩
        refine thenL_n ?_
        refine WC.cov hc122 ?_
        refine WC.seq ?_
        refine WC.seq ?_
        refine WC.region ?_
        refine WO.mv rfl ?_
        refine WO.bin rfl rfl (by decide) (by decide) rfl ?_
        refine WO.mv rfl ?_
        refine WO.cutB (d := 117) 6 ((b118 == 0) && (t2.1 != t3.1)) (fun q123 => ?_) (fun q123 => ?_) ?_
        · skip
          refine WO.gyes rfl rfl ?_
          refine WO.fldS (j := 0) (q := 0) rfl ho4.at0 ho4.ptr rfl rfl rfl (by decide) ?_
          refine WO.gyes rfl rfl ?_
          refine WO.ldW rfl rfl ho4 rfl rfl ho4.lt rfl ?_
          refine WO.gyes rfl rfl ?_
          refine WO.fldS (j := 0) (q := 0) rfl ho8.at0 ho8.ptr rfl rfl rfl (by decide) ?_
          refine WO.gyes rfl rfl ?_
          refine WO.ldW rfl rfl ho8 rfl rfl ho8.lt rfl ?_
          refine WO.gyes rfl rfl ?_
          refine WO.bin rfl rfl (by decide) (by decide) rfl ?_
          refine WO.pickT rfl rfl ?_
          refine WO.nil ?_
          exact ⟨rfl, rfl, (Cov.any rfl (andT q123) (Cov.skip rfl (Cov.skip rfl (Cov.skip rfl (Cov.skip rfl (Cov.skip rfl (Cov.skip rfl (Cov.skip rfl (Cov.refl _)))))))))⟩
        · refine WO.gno rfl rfl ?_
          refine WO.gno rfl rfl ?_
          refine WO.gno rfl rfl ?_
          refine WO.gno rfl rfl ?_
          refine WO.gno rfl rfl ?_
          refine WO.pickF rfl rfl ?_
          refine WO.nil ?_
          exact ⟨rfl, rfl, (Cov.any rfl (andF q123) (Cov.skip rfl (Cov.skip rfl (Cov.skip rfl (Cov.skip rfl (Cov.skip rfl (Cov.skip rfl (Cov.skip rfl (Cov.refl _)))))))))⟩
        refine WO.nil ?_
        refine thenL_n ?_
        obtain ⟨b125, e126, h⟩ := bindS h
        refine WC.mono (Q' := (fun b e l' m' n' => e = .normal ∧ ∃ S127 : Cx n, S127.m = m' ∧ S127.n = n' ∧ Cov l' [(6, .sc ((.ptr b1 0))), (7, .sc ((.ptr b5 0))), (11, .sc ((.ptr b29 0))), (12, .sc (.int .i64 r22.2)), (13, .sc (.int .i64 r35.1)), (14, .sc (.int .i64 r35.2.1)), (15, .sc (.int .i64 r35.2.2)), (18, .sc (.int .i64 b))] ∧ Bw S127 2 (.ptr b1 0) [.int .i64 t2.1, vt2_1] ∧ Rd Y9 S127 vt2_1 t2.2 ∧ Bw S127 3 (.ptr b5 0) [.int .i64 t3.1, vt3_1] ∧ Rd Y9 S127 vt3_1 t3.2 ∧ Bw S127 6 (.ptr b29 0) [.int .i64 r22.1.1, v24] ∧ Ow Y9 S127 5 v24 r22.1.2) b125) ?_ ?_
        · have h := e126
          dsimp only at h ⊢
          refine WC.cond rfl (fun q124 => ?_) (fun q124 => ?_)
          · have h := iteT q124 h
            refine WC.region ?_
            refine WO.asg rfl ?_
            refine WO.nil ?_
            obtain rfl := someI h
            exact ⟨rfl, ⟨S121, rfl, rfl, (Cov.cons rfl (Cov.cons rfl (Cov.cons rfl (Cov.cons rfl (Cov.cons rfl (Cov.cons rfl (Cov.cons rfl (Cov.cons rfl (Cov.nil _))))))))), ho4, hot2_1, ho8, hot3_1, ho32, ho25⟩⟩
          · have h := iteF q124 h
            refine WC.skip ?_
            obtain rfl := someI h
            exact ⟨rfl, ⟨S121, rfl, rfl, (Cov.cons rfl (Cov.cons rfl (Cov.cons rfl (Cov.cons rfl (Cov.cons rfl (Cov.cons rfl (Cov.cons rfl (Cov.cons rfl (Cov.nil _))))))))), ho4, hot2_1, ho8, hot3_1, ho32, ho25⟩⟩
        dsimp only
        rintro _ _ _ _ ⟨rfl, ⟨S128, rfl, rfl, hc129, ho4, hot2_1, ho8, hot3_1, ho32, ho25⟩⟩
        refine thenL_n ?_
        refine WC.cov hc129 ?_
        refine WC.seq ?_
        refine WC.seq ?_
        refine WC.region ?_
        refine WO.mv rfl ?_
        refine WO.bin rfl rfl (by decide) (by decide) rfl ?_
        refine WO.nil ?_
        refine thenL_n ?_
        refine WC.cond rfl (fun q130 => ?_) (fun q130 => ?_)
        · have h := iteT q130 h
          refine WC.seq ?_
          refine WC.region ?_
          refine WO.mv rfl ?_
          refine WO.mv rfl ?_
          refine WO.bin rfl rfl (by decide) (by decide) rfl ?_
          refine WO.mv rfl ?_
          refine WO.cutB (d := 127) 4 ((r22.2 == b125) && (r35.2.2 == b125)) (fun q131 => ?_) (fun q131 => ?_) ?_
          · skip
            refine WO.gyes rfl rfl ?_
            refine WO.mv rfl ?_
            refine WO.gyes rfl rfl ?_
            refine WO.mv rfl ?_
            refine WO.gyes rfl rfl ?_
            refine WO.bin rfl rfl (by decide) (by decide) rfl ?_
            refine WO.pickT rfl rfl ?_
            refine WO.nil ?_
            exact ⟨rfl, rfl, (Cov.any rfl (andT q131) (Cov.skip rfl (Cov.skip rfl (Cov.skip rfl (Cov.skip rfl (Cov.skip rfl (Cov.refl _)))))))⟩
          · refine WO.gno rfl rfl ?_
            refine WO.gno rfl rfl ?_
            refine WO.gno rfl rfl ?_
            refine WO.pickF rfl rfl ?_
            refine WO.nil ?_
            exact ⟨rfl, rfl, (Cov.any rfl (andF q131) (Cov.skip rfl (Cov.skip rfl (Cov.skip rfl (Cov.skip rfl (Cov.skip rfl (Cov.refl _)))))))⟩
          refine WO.mv rfl ?_
          refine WO.cutB (d := 132) 4 (((r22.2 == b125) && (r35.2.2 == b125)) && (r22.1.1 == 0)) (fun q132 => ?_) (fun q132 => ?_) ?_
          · skip
            refine WO.gyes rfl rfl ?_
            refine WO.fldS (j := 0) (q := 0) rfl ho32.at0 ho32.ptr rfl rfl rfl (by decide) ?_
            refine WO.gyes rfl rfl ?_
            refine WO.ldW rfl rfl ho32 rfl rfl ho32.lt rfl ?_
            refine WO.gyes rfl rfl ?_
            refine WO.bin rfl rfl (by decide) (by decide) rfl ?_
            refine WO.pickT rfl rfl ?_
            refine WO.nil ?_
            exact ⟨rfl, rfl, (Cov.any rfl (andT q132) (Cov.skip rfl (Cov.skip rfl (Cov.skip rfl (Cov.skip rfl (Cov.skip rfl (Cov.refl _)))))))⟩
          · refine WO.gno rfl rfl ?_
            refine WO.gno rfl rfl ?_
            refine WO.gno rfl rfl ?_
            refine WO.pickF rfl rfl ?_
            refine WO.nil ?_
            exact ⟨rfl, rfl, (Cov.any rfl (andF q132) (Cov.skip rfl (Cov.skip rfl (Cov.skip rfl (Cov.skip rfl (Cov.skip rfl (Cov.refl _)))))))⟩
          refine WO.mv rfl ?_
          refine WO.cutB (d := 138) 5 ((((r22.2 == b125) && (r35.2.2 == b125)) && (r22.1.1 == 0)) && ((r22.1.2.length : Int) == 0)) (fun q133 => ?_) (fun q133 => ?_) ?_
          · skip
            refine WO.gyes rfl rfl ?_
            refine WO.fldS (j := 0) (q := 0) rfl ho32.at0 ho32.ptr rfl rfl rfl (by decide) ?_
            refine WO.gyes rfl rfl ?_
            refine WO.ldW rfl rfl ho32 rfl rfl ho32.lt rfl ?_
            refine WO.gyes rfl rfl ?_
            refine WO.lenS rfl ho25.slv rfl ?_
            refine WO.gyes rfl rfl ?_
            refine WO.bin rfl rfl (by decide) (by decide) rfl ?_
            refine WO.pickT rfl rfl ?_
            refine WO.nil ?_
            exact ⟨rfl, rfl, (Cov.any rfl (andT q133) (Cov.skip rfl (Cov.skip rfl (Cov.skip rfl (Cov.skip rfl (Cov.skip rfl (Cov.skip rfl (Cov.refl _))))))))⟩
          · refine WO.gno rfl rfl ?_
            refine WO.gno rfl rfl ?_
            refine WO.gno rfl rfl ?_
            refine WO.gno rfl rfl ?_
            refine WO.pickF rfl rfl ?_
            refine WO.nil ?_
            exact ⟨rfl, rfl, (Cov.any rfl (andF q133) (Cov.skip rfl (Cov.skip rfl (Cov.skip rfl (Cov.skip rfl (Cov.skip rfl (Cov.skip rfl (Cov.refl _))))))))⟩
          refine WO.mv rfl ?_
          refine WO.cutB (d := 142) 3 (((((r22.2 == b125) && (r35.2.2 == b125)) && (r22.1.1 == 0)) && ((r22.1.2.length : Int) == 0)) && (r35.1 == 0)) (fun q134 => ?_) (fun q134 => ?_) ?_
          · skip
            refine WO.gyes rfl rfl ?_
            refine WO.mv rfl ?_
            refine WO.gyes rfl rfl ?_
            refine WO.bin rfl rfl (by decide) (by decide) rfl ?_
            refine WO.pickT rfl rfl ?_
            refine WO.nil ?_
            exact ⟨rfl, rfl, (Cov.any rfl (andT q134) (Cov.skip rfl (Cov.skip rfl (Cov.skip rfl (Cov.skip rfl (Cov.refl _))))))⟩
          · refine WO.gno rfl rfl ?_
            refine WO.gno rfl rfl ?_
            refine WO.pickF rfl rfl ?_
            refine WO.nil ?_
            exact ⟨rfl, rfl, (Cov.any rfl (andF q134) (Cov.skip rfl (Cov.skip rfl (Cov.skip rfl (Cov.skip rfl (Cov.refl _))))))⟩
          refine WO.mv rfl ?_
          refine WO.cutB (d := 146) 3 ((((((r22.2 == b125) && (r35.2.2 == b125)) && (r22.1.1 == 0)) && ((r22.1.2.length : Int) == 0)) && (r35.1 == 0)) && (r35.2.1 == 0)) (fun q135 => ?_) (fun q135 => ?_) ?_
          · skip
            refine WO.gyes rfl rfl ?_
            refine WO.mv rfl ?_
            refine WO.gyes rfl rfl ?_
            refine WO.bin rfl rfl (by decide) (by decide) rfl ?_
            refine WO.pickT rfl rfl ?_
            refine WO.nil ?_
            exact ⟨rfl, rfl, (Cov.any rfl (andT q135) (Cov.skip rfl (Cov.skip rfl (Cov.skip rfl (Cov.skip rfl (Cov.refl _))))))⟩
          · refine WO.gno rfl rfl ?_
            refine WO.gno rfl rfl ?_
            refine WO.pickF rfl rfl ?_
            refine WO.nil ?_
            exact ⟨rfl, rfl, (Cov.any rfl (andF q135) (Cov.skip rfl (Cov.skip rfl (Cov.skip rfl (Cov.skip rfl (Cov.refl _))))))⟩
          refine WO.asg rfl ?_
          refine WO.nil ?_
          refine thenL_n ?_
          refine WC.ret ?_
          refine thenL_r ?_
          obtain rfl := someI h
          exact ⟨.inr rfl, _, _, rfl, rfl, rfl⟩
        · have h := iteF q130 h
          refine WC.skip ?_
          refine thenL_n ?_
          refine WC.seq ?_
          refine WC.drawN rfl rfl ?_
          have ho4z := ho4.lt
          have hot2_1z := hot2_1.oz
          have ho8z := ho8.lt
          have hot3_1z := hot3_1.oz
          have ho32z := ho32.lt
          have ho25z := ho25.oz
          refine WO.fldS (j := 0) (q := 0) rfl ho4.at0 ho4.ptr rfl rfl rfl (by decide) ?_
          refine WO.ldW rfl rfl ho4 rfl rfl ho4z (limLe_self _) ?_
          refine WO.fldS (j := 0) (q := 0) rfl ho4.at0 ho4.ptr rfl rfl rfl (by decide) ?_
          refine WO.ldW rfl rfl ho4 rfl rfl ho4z (limLe_self _) ?_
          refine WO.fldS (j := 0) (q := 0) rfl ho8.at0 ho8.ptr rfl rfl rfl (by decide) ?_
          refine WO.ldW rfl rfl ho8 rfl rfl ho8z (limLe_self _) ?_
          refine WO.bsS (A := Y78) (S := S128) (M := [t2.2, t3.2]) (cs := [vt2_1, vt3_1]) 7 rfl rfl rfl ⟨_, _, rfl, ⟨vt2_1, rfl, hot2_1⟩, ⟨_, _, rfl, ⟨vt3_1, rfl, hot3_1⟩, rfl⟩⟩ rfl (fun v136 S137 c138 ho139 => ?_)
          have hot2_1z := hot2_1z.toz c138
          have hot3_1z := hot3_1z.toz c138
          have ho25z := ho25z.tow c138
          have ho4 := ho4.to c138
          have hot2_1 := hot2_1.to c138
          have ho8 := ho8.to c138
          have hot3_1 := hot3_1.to c138
          have ho32 := ho32.to c138
          have ho25 := ho25.to c138
          obtain ⟨r140, e141, h⟩ := bindS h
          refine WO.callF (S := S137) 8 rfl rfl (F69_ok e141 ho139.vw) Lay.flat_fl (fun v142 S144 c145 ho143 => ?_)
          have hot2_1z := hot2_1z.toz c145
          have hot3_1z := hot3_1z.toz c145
          have ho25z := ho25z.tow c145
          have ho4 := ho4.to c145
          have hot2_1 := hot2_1.to c145
          have ho8 := ho8.to c145
          have hot3_1 := hot3_1.to c145
          have ho32 := ho32.to c145
          have ho25 := ho25.to c145
          have ho139 := ho139.to c145
          obtain ⟨r146, e147, h⟩ := bindS h
          refine WO.callF (S := S144) 9 rfl rfl (F66_ok e147 ho143.vw) Lay.flat_fl (fun v148 S150 c151 ho149 => ?_)
          have hot2_1z := hot2_1z.toz c151
          have hot3_1z := hot3_1z.toz c151
          have ho25z := ho25z.tow c151
          have ho4 := ho4.to c151
          have hot2_1 := hot2_1.to c151
          have ho8 := ho8.to c151
          have hot3_1 := hot3_1.to c151
          have ho32 := ho32.to c151
          have ho25 := ho25.to c151
          have ho139 := ho139.to c151
          have ho143 := ho143.to c151
          refine WO.asg rfl ?_
          refine WO.nil ?_
          refine thenL_n ?_
          refine WC.seq ?_
          refine WC.region ?_
          refine WO.asg rfl ?_
          refine WO.nil ?_
          refine thenL_n ?_
          refine WC.seq ?_
          refine WC.seq ?_
          refine WC.region ?_
          refine WO.mv rfl ?_
          refine WO.lenS rfl ho149.slv rfl ?_
          refine WO.mv rfl ?_
          refine WO.nil ?_
          refine thenL_n ?_
          refine WC.block ?_
          obtain ⟨b174, e175, h⟩ := bindS h
          refine WC.loopD e175 (fun s152 l' m' n' => ∃ S153 : Cx n, S153.m = m' ∧ S153.n = n' ∧ Cov l' [(6, .sc ((.ptr b1 0))), (7, .sc ((.ptr b5 0))), (11, .sc ((.ptr b29 0))), (12, .sc (.int .i64 r22.2)), (13, .sc (.int .i64 r35.1)), (14, .sc (.int .i64 r35.2.1)), (15, .sc (.int .i64 r35.2.2)), (19, .sc v148), (20, .sc (.int .i64 s152.1)), (156, .sc v148), (157, .sc (.int .i64 ((r146.length : Int)))), (158, .sc (.int .i64 s152.2))] ∧ Bw S153 2 (.ptr b1 0) [.int .i64 t2.1, vt2_1] ∧ Rd Y9 S153 vt2_1 t2.2 ∧ Bw S153 3 (.ptr b5 0) [.int .i64 t3.1, vt3_1] ∧ Rd Y9 S153 vt3_1 t3.2 ∧ Bw S153 6 (.ptr b29 0) [.int .i64 r22.1.1, v24] ∧ Ow Y9 S153 5 v24 r22.1.2 ∧ Ow Y9 S153 9 v148 r146) (fun b e l' m' n' => e = .exit 2 ∧ ∃ S154 : Cx n, S154.m = m' ∧ S154.n = n' ∧ Cov l' [(6, .sc ((.ptr b1 0))), (11, .sc ((.ptr b29 0))), (12, .sc (.int .i64 r22.2)), (13, .sc (.int .i64 r35.1)), (14, .sc (.int .i64 r35.2.1)), (15, .sc (.int .i64 r35.2.2)), (19, .sc v148), (20, .sc (.int .i64 b))] ∧ Bw S154 2 (.ptr b1 0) [.int .i64 t2.1, vt2_1] ∧ Rd Y9 S154 vt2_1 t2.2 ∧ Bw S154 6 (.ptr b29 0) [.int .i64 r22.1.1, v24] ∧ Ow Y9 S154 5 v24 r22.1.2 ∧ Ow Y9 S154 9 v148 r146) (by exact ⟨S150, rfl, rfl, (Cov.cons rfl (Cov.cons rfl (Cov.cons rfl (Cov.cons rfl (Cov.cons rfl (Cov.cons rfl (Cov.cons rfl (Cov.cons rfl (Cov.cons rfl (Cov.cons rfl (Cov.cons rfl (Cov.cons rfl (Cov.nil _))))))))))))), ho4, hot2_1, ho8, hot3_1, ho32, ho25, ho149⟩) ?_ ?_
          · clear h
            rintro s152 q _ _ _ ⟨S155, rfl, rfl, hc156, ho4, hot2_1, ho8, hot3_1, ho32, ho25, ho149⟩ h
            unfold F8_l1 at h
            refine WC.cov hc156 ?_
            refine WC.seq ?_
            refine WC.region ?_
            refine WO.bin rfl rfl (by decide) (by decide) rfl ?_
            refine WO.nil ?_
            refine thenL_n ?_
            refine WC.seq ?_
            refine WC.cond rfl (fun q157 => ?_) (fun q157 => ?_)
            · have h := iteT q157 h
              refine WC.skip ?_
              refine thenL_n ?_
              refine WC.seq ?_
              refine WC.block ?_
              refine WC.seq ?_
              refine WC.region ?_
              obtain ⟨x158, e159, h⟩ := bindS h
              refine WO.ixS rfl rfl ho149.slv (at?_lt e159) rfl ?_
              refine WO.ldF rfl ho149.ro (fun _ hi => hi) (at?_get e159) rfl rfl rfl ?_
              refine WO.asg rfl ?_
              refine WO.nil ?_
              refine thenL_n ?_
              refine WC.seq ?_
              refine WC.region ?_
              refine WO.fldS (j := 0) (q := 0) rfl ho4.at0 ho4.ptr rfl rfl rfl (by decide) ?_
              refine WO.ldW rfl rfl ho4 rfl rfl ho4.lt rfl ?_
              refine WO.mv rfl ?_
              obtain ⟨r160, e161, h⟩ := bindS h
              refine WO.callE (S := S155) rfl rfl (F70_ok e161 hot2_1.vw) (fun S162 c163 => ?_)
              have ho4 := ho4.to c163
              have hot2_1 := hot2_1.to c163
              have ho8 := ho8.to c163
              have hot3_1 := hot3_1.to c163
              have ho32 := ho32.to c163
              have ho25 := ho25.to c163
              have ho149 := ho149.to c163
              refine WO.mv rfl ?_
              obtain ⟨y169, e170, h⟩ := bindS h
              refine WO.cutS (d := 171) (S := S162) 5 y169 (fun q168 => ?_) (fun q168 => ?_) (fun S171 c172 => ?_)
              · have h := e170
                have h := iteT q168 h
                refine WO.gyes rfl rfl ?_
                refine WO.fldS (j := 0) (q := 0) rfl ho8.at0 ho8.ptr rfl rfl rfl (by decide) ?_
                refine WO.gyes rfl rfl ?_
                refine WO.ldW rfl rfl ho8 rfl rfl ho8.lt rfl ?_
                refine WO.gyes rfl rfl ?_
                refine WO.mv rfl ?_
                refine WO.gyes rfl rfl ?_
                obtain ⟨r164, e165, h⟩ := bindS h
                refine WO.callE (S := S162) rfl rfl (F70_ok e165 hot3_1.vw) (fun S166 c167 => ?_)
                have ho4 := ho4.to c167
                have hot2_1 := hot2_1.to c167
                have ho8 := ho8.to c167
                have hot3_1 := hot3_1.to c167
                have ho32 := ho32.to c167
                have ho25 := ho25.to c167
                have ho149 := ho149.to c167
                obtain rfl := someI h
                refine WO.pickT rfl rfl ?_
                refine WO.nil ?_
                exact ⟨S166, rfl, rfl, c167, (Cov.cons rfl (Cov.skip rfl (Cov.skip rfl (Cov.skip rfl (Cov.skip rfl (Cov.skip rfl (Cov.skip rfl (Cov.refl _))))))))⟩
              · have h := e170
                have h := iteF q168 h
                obtain rfl := someI h
                refine WO.gno rfl rfl ?_
                refine WO.gno rfl rfl ?_
                refine WO.gno rfl rfl ?_
                refine WO.gno rfl rfl ?_
                refine WO.pickF rfl rfl ?_
                refine WO.nil ?_
                exact ⟨S162, rfl, rfl, Ch.refl _ _, (Cov.cons rfl (Cov.skip rfl (Cov.skip rfl (Cov.skip rfl (Cov.skip rfl (Cov.skip rfl (Cov.skip rfl (Cov.refl _))))))))⟩
              have ho4 := ho4.to c172
              have hot2_1 := hot2_1.to c172
              have ho8 := ho8.to c172
              have hot3_1 := hot3_1.to c172
              have ho32 := ho32.to c172
              have ho25 := ho25.to c172
              have ho149 := ho149.to c172
              refine WO.nil ?_
              refine thenL_n ?_
              refine WC.cond rfl (fun q173 => ?_) (fun q173 => ?_)
              · have h := iteT q173 h
                refine WC.region ?_
                refine WO.mv rfl ?_
                refine WO.bin rfl rfl (by decide) (by decide) rfl ?_
                refine WO.asg rfl ?_
                refine WO.nil ?_
                refine blockL_n ?_
                refine thenL_n ?_
                refine WC.region ?_
                refine WO.bin rfl rfl (by decide) (by decide) rfl ?_
                refine WO.mv rfl ?_
                refine WO.nil ?_
                refine thenL_n ?_
                obtain rfl := someI h
                exact ⟨_, rfl, ⟨S171, rfl, rfl, (Cov.cons rfl (Cov.cons rfl (Cov.cons rfl (Cov.cons rfl (Cov.cons rfl (Cov.cons rfl (Cov.cons rfl (Cov.cons rfl (Cov.cons rfl (Cov.cons rfl (Cov.cons rfl (Cov.cons rfl (Cov.nil _))))))))))))), ho4, hot2_1, ho8, hot3_1, ho32, ho25, ho149⟩⟩
              · have h := iteF q173 h
                refine WC.skip ?_
                refine blockL_n ?_
                refine thenL_n ?_
                refine WC.region ?_
                refine WO.bin rfl rfl (by decide) (by decide) rfl ?_
                refine WO.mv rfl ?_
                refine WO.nil ?_
                refine thenL_n ?_
                obtain rfl := someI h
                exact ⟨_, rfl, ⟨S171, rfl, rfl, (Cov.cons rfl (Cov.cons rfl (Cov.cons rfl (Cov.cons rfl (Cov.cons rfl (Cov.cons rfl (Cov.cons rfl (Cov.cons rfl (Cov.cons rfl (Cov.cons rfl (Cov.cons rfl (Cov.cons rfl (Cov.nil _))))))))))))), ho4, hot2_1, ho8, hot3_1, ho32, ho25, ho149⟩⟩
            · have h := iteF q157 h
              refine WC.exit ?_
              refine thenL_e ?_
              refine thenL_e ?_
              obtain rfl := someI h
              exact ⟨_, rfl, rfl, ⟨S155, rfl, rfl, (Cov.cons rfl (Cov.cons rfl (Cov.cons rfl (Cov.cons rfl (Cov.cons rfl (Cov.cons rfl (Cov.cons rfl (Cov.cons rfl (Cov.nil _))))))))), ho4, hot2_1, ho32, ho25, ho149⟩⟩
          rintro _ _ _ _ ⟨rfl, ⟨S176, rfl, rfl, hc177, ho4, hot2_1, ho32, ho25, ho149⟩⟩
          refine blockL_s ?_
          refine thenL_n ?_
          refine WC.cov hc177 ?_
          refine WC.seq ?_
          refine WC.region ?_
          refine WO.mv rfl ?_
          refine WO.bin rfl rfl (by decide) (by decide) rfl ?_
          refine WO.mv rfl ?_
          refine WO.cutB (d := 183) 6 ((r22.2 == 0) && (r22.1.1 == t2.1)) (fun q178 => ?_) (fun q178 => ?_) ?_
          · skip
            refine WO.gyes rfl rfl ?_
            refine WO.fldS (j := 0) (q := 0) rfl ho32.at0 ho32.ptr rfl rfl rfl (by decide) ?_
            refine WO.gyes rfl rfl ?_
            refine WO.ldW rfl rfl ho32 rfl rfl ho32.lt rfl ?_
            refine WO.gyes rfl rfl ?_
            refine WO.fldS (j := 0) (q := 0) rfl ho4.at0 ho4.ptr rfl rfl rfl (by decide) ?_
            refine WO.gyes rfl rfl ?_
            refine WO.ldW rfl rfl ho4 rfl rfl ho4.lt rfl ?_
            refine WO.gyes rfl rfl ?_
            refine WO.bin rfl rfl (by decide) (by decide) rfl ?_
            refine WO.pickT rfl rfl ?_
            refine WO.nil ?_
            exact ⟨rfl, rfl, (Cov.any rfl (andT q178) (Cov.skip rfl (Cov.skip rfl (Cov.skip rfl (Cov.skip rfl (Cov.skip rfl (Cov.skip rfl (Cov.skip rfl (Cov.refl _)))))))))⟩
          · refine WO.gno rfl rfl ?_
            refine WO.gno rfl rfl ?_
            refine WO.gno rfl rfl ?_
            refine WO.gno rfl rfl ?_
            refine WO.gno rfl rfl ?_
            refine WO.pickF rfl rfl ?_
            refine WO.nil ?_
            exact ⟨rfl, rfl, (Cov.any rfl (andF q178) (Cov.skip rfl (Cov.skip rfl (Cov.skip rfl (Cov.skip rfl (Cov.skip rfl (Cov.skip rfl (Cov.skip rfl (Cov.refl _)))))))))⟩
          refine WO.mv rfl ?_
          obtain ⟨y184, e185, h⟩ := bindS h
          refine WO.cutS (d := 189) (S := S176) 5 y184 (fun q183 => ?_) (fun q183 => ?_) (fun S186 c187 => ?_)
          · have h := e185
            have h := iteT q183 h
            refine WO.gyes rfl rfl ?_
            refine WO.fldS (j := 0) (q := 0) rfl ho32.at0 ho32.ptr rfl rfl rfl (by decide) ?_
            refine WO.gyes rfl rfl ?_
            refine WO.ldW rfl rfl ho32 rfl rfl ho32.lt rfl ?_
            refine WO.gyes rfl rfl ?_
            refine WO.mv rfl ?_
            refine WO.gyes rfl rfl ?_
            obtain ⟨r179, e180, h⟩ := bindS h
            refine WO.callE (S := S176) rfl rfl (F65_ok e180 ho25.vw ho149.vw) (fun S181 c182 => ?_)
            have ho4 := ho4.to c182
            have hot2_1 := hot2_1.to c182
            have ho32 := ho32.to c182
            have ho25 := ho25.to c182
            have ho149 := ho149.to c182
            obtain rfl := someI h
            refine WO.pickT rfl rfl ?_
            refine WO.nil ?_
            exact ⟨S181, rfl, rfl, c182, (Cov.cons rfl (Cov.skip rfl (Cov.skip rfl (Cov.skip rfl (Cov.skip rfl (Cov.skip rfl (Cov.skip rfl (Cov.refl _))))))))⟩
          · have h := e185
            have h := iteF q183 h
            obtain rfl := someI h
            refine WO.gno rfl rfl ?_
            refine WO.gno rfl rfl ?_
            refine WO.gno rfl rfl ?_
            refine WO.gno rfl rfl ?_
            refine WO.pickF rfl rfl ?_
            refine WO.nil ?_
            exact ⟨S176, rfl, rfl, Ch.refl _ _, (Cov.cons rfl (Cov.skip rfl (Cov.skip rfl (Cov.skip rfl (Cov.skip rfl (Cov.skip rfl (Cov.skip rfl (Cov.refl _))))))))⟩
          have ho4 := ho4.to c187
          have hot2_1 := hot2_1.to c187
          have ho32 := ho32.to c187
          have ho25 := ho25.to c187
          have ho149 := ho149.to c187
          refine WO.mv rfl ?_
          refine WO.cutB (d := 193) 3 (y184 && (r35.2.2 == 0)) (fun q188 => ?_) (fun q188 => ?_) ?_
          · skip
            refine WO.gyes rfl rfl ?_
            refine WO.mv rfl ?_
            refine WO.gyes rfl rfl ?_
            refine WO.bin rfl rfl (by decide) (by decide) rfl ?_
            refine WO.pickT rfl rfl ?_
            refine WO.nil ?_
            exact ⟨rfl, rfl, (Cov.any rfl (andT q188) (Cov.skip rfl (Cov.skip rfl (Cov.skip rfl (Cov.skip rfl (Cov.refl _))))))⟩
          · refine WO.gno rfl rfl ?_
            refine WO.gno rfl rfl ?_
            refine WO.pickF rfl rfl ?_
            refine WO.nil ?_
            exact ⟨rfl, rfl, (Cov.any rfl (andF q188) (Cov.skip rfl (Cov.skip rfl (Cov.skip rfl (Cov.skip rfl (Cov.refl _))))))⟩
          refine WO.mv rfl ?_
          refine WO.cutB (d := 198) 4 ((y184 && (r35.2.2 == 0)) && (r35.1 == b174)) (fun q189 => ?_) (fun q189 => ?_) ?_
          · skip
            refine WO.gyes rfl rfl ?_
            refine WO.mv rfl ?_
            refine WO.gyes rfl rfl ?_
            refine WO.mv rfl ?_
            refine WO.gyes rfl rfl ?_
            refine WO.bin rfl rfl (by decide) (by decide) rfl ?_
            refine WO.pickT rfl rfl ?_
            refine WO.nil ?_
            exact ⟨rfl, rfl, (Cov.any rfl (andT q189) (Cov.skip rfl (Cov.skip rfl (Cov.skip rfl (Cov.skip rfl (Cov.skip rfl (Cov.refl _)))))))⟩
          · refine WO.gno rfl rfl ?_
            refine WO.gno rfl rfl ?_
            refine WO.gno rfl rfl ?_
            refine WO.pickF rfl rfl ?_
            refine WO.nil ?_
            exact ⟨rfl, rfl, (Cov.any rfl (andF q189) (Cov.skip rfl (Cov.skip rfl (Cov.skip rfl (Cov.skip rfl (Cov.skip rfl (Cov.refl _)))))))⟩
          refine WO.mv rfl ?_
          refine WO.cutB (d := 204) 5 (((y184 && (r35.2.2 == 0)) && (r35.1 == b174)) && (r35.2.1 == (r146.length : Int))) (fun q190 => ?_) (fun q190 => ?_) ?_
          · skip
            refine WO.gyes rfl rfl ?_
            refine WO.mv rfl ?_
            refine WO.gyes rfl rfl ?_
            refine WO.mv rfl ?_
            refine WO.gyes rfl rfl ?_
            refine WO.lenS rfl ho149.slv rfl ?_
            refine WO.gyes rfl rfl ?_
            refine WO.bin rfl rfl (by decide) (by decide) rfl ?_
            refine WO.pickT rfl rfl ?_
            refine WO.nil ?_
            exact ⟨rfl, rfl, (Cov.any rfl (andT q190) (Cov.skip rfl (Cov.skip rfl (Cov.skip rfl (Cov.skip rfl (Cov.skip rfl (Cov.skip rfl (Cov.refl _))))))))⟩
          · refine WO.gno rfl rfl ?_
            refine WO.gno rfl rfl ?_
            refine WO.gno rfl rfl ?_
            refine WO.gno rfl rfl ?_
            refine WO.pickF rfl rfl ?_
            refine WO.nil ?_
            exact ⟨rfl, rfl, (Cov.any rfl (andF q190) (Cov.skip rfl (Cov.skip rfl (Cov.skip rfl (Cov.skip rfl (Cov.skip rfl (Cov.skip rfl (Cov.refl _))))))))⟩
          refine WO.asg rfl ?_
          refine WO.nil ?_
          refine thenL_n ?_
          refine WC.ret ?_
          obtain rfl := someI h
          exact ⟨.inr rfl, _, _, rfl, rfl, rfl⟩
  | inr b60 =>
    simp only at h
    rintro _ _ _ _ ⟨rfl, ⟨S191, rfl, rfl, hc192⟩⟩
    refine blockL_r ?_
    refine thenL_r ?_
    obtain rfl := someI h
    exact ⟨.inr rfl, _, _, (resK_cov hc192 rfl), rfl, rfl⟩
end Go.Proofs.Ytihmliblbhjlaaa

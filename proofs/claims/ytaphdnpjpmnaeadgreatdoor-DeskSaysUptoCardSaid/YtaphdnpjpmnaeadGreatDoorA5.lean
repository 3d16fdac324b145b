/- Towards castlaw.DeskSays, part 5: joined by a program of ours. -/
import Derived.Test.YtaphdnpjpmnaeadGreatDoorA4
set_option linter.unusedVariables false
set_option linter.unusedSimpArgs false
set_option linter.unusedSectionVars false
namespace Go.Proofs.YtaphdnpjpmnaeadGreatDoor
set_option maxRecDepth 20000
set_option maxHeartbeats 4000000
open Go.Am
theorem F60.fn:E.fn 60 = some (fi 28 Tryz.f60 [1000005]):=rfl
theorem F60_ok {F:Nat} {fl:Nat} {S0:Cx fl} {r:(List Int) × (List Int)} {t0:(List ((List UInt8) × Int × Int)) × (List ((List UInt8) × (List UInt8) × Int))} {vt0_0:SV} {vt0_1:SV} (h:F60 F t0 = some r) (hot0_0:Rd Y59 S0 vt0_0 t0.1) (hot0_1:Rd Y118 S0 vt0_1 t0.2):Ret E fl 60 [.agg [vt0_0,vt0_1]] S0.m S0.n (fun v m' n'=>∃ S':Cx fl,S'.m = m'∧S'.n = n'∧ChM S0 S'∧(∃ w110 w111:SV,v = .tup [.sc w110,.sc w111]∧Ow Y3 S' 902 w110 r.1∧Ow Y3 S' 904 w111 r.2)):=by
 unfold F60 at h
 refine Ret.walk F60.fn ?_
 have hM:=ChM.refl S0
 refine go ?_
 refine WO.bxW (cs:=[vt0_0,vt0_1]) 2 rfl rfl rfl (fun b1 S2 c3 ho4=>?_)
 obtain ⟨b104,e105,h⟩:=bindS h
 refine go ?_
 refine WC.loopD e105 (fun s5 l' m' n'=>∃ S8:Cx fl,∃ v9 v10:SV,S8.m = m'∧S8.n = n'∧Cov l' [(4,.sc v9),(5,.sc v10),(9,.sc vt0_0),(10,.sc (.int .i64 ((t0.1.length:Int)))),(11,.sc (.int .i64 s5.2.2))]∧ChM S0 S8∧Rd Y59 S8 vt0_0 t0.1∧Ow Y3 S8 3 v9 s5.1∧Ow Y3 S8 4 v10 s5.2.1) (fun b e l' m' n'=>e = .exit 0∧∃ S11:Cx fl,∃ v12 v13:SV,S11.m = m'∧S11.n = n'∧Cov l' [(4,.sc v12),(5,.sc v13)]∧ChM S0 S11∧Ow Y3 S11 3 v12 b.1∧Ow Y3 S11 4 v13 b.2) fn ?_ ?_
 ·rintro s5 q _ _ _ ⟨S14,v15,v16,rfl,rfl,hc17,hM,hot0_0,ho4,ho5⟩ h
  unfold F60_l0 at h
  refine go ?_
  refine ci h (fun q18 h=>?_) fun q18 h=>?_
  ·obtain ⟨x19,e20,h⟩:=bindS h
   refine go ?_
   refine WO.alS (A:=Y59) (z0:=(([],0,0):(List UInt8) × Int × Int)) 5 rfl rfl rfl (fun v21 S22 c23 ho24=>?_)
   refine WO.stBA (u':=(x19.1,x19.2.1,x19.2.2)) rfl pa rfl tr rfl rfl (fun S25 c26 ho24=>?_)
   refine go ?_
   refine WO.bsD (A:=Y3) (M:=[((x19.1,x19.2.1,x19.2.2)).2.1]) (cs:=[.int .i64 (((x19.1,x19.2.1,x19.2.2)).2.1)]) 6 rfl rfl rfl ⟨[.int .i64 (((x19.1,x19.2.1,x19.2.2)).2.1)],_,rfl,rfl,rfl⟩ rfl (fun v31 S32 ge35 c33 ho34=>?_)
   obtain ⟨L42,e43,h⟩:=bindS h
   refine WO.appS rfl rfl tr ro e43 rfl rfl (fun v44 S45 c46 ho47=>?_)
   refine go ?_
   refine WO.bsD (A:=Y3) (M:=[((x19.1,x19.2.1,x19.2.2)).2.2]) (cs:=[.int .i64 (((x19.1,x19.2.1,x19.2.2)).2.2)]) 7 rfl rfl rfl ⟨[.int .i64 (((x19.1,x19.2.1,x19.2.2)).2.2)],_,rfl,rfl,rfl⟩ rfl (fun v54 S55 ge58 c56 ho57=>?_)
   obtain ⟨L66,e67,h⟩:=bindS h
   refine WO.appS rfl rfl tr ro e67 rfl rfl (fun v68 S69 c70 ho71=>?_)
   refine go ?_
   refine dy S25 S69 [(4,7),(4,8)] ?_
   cases h;refine go ?_
   exact fn
  cases h;refine go ?_
  exact fn
 rintro _ _ _ _ ⟨rfl,⟨S106,v107,v108,rfl,rfl,hc109,hM,ho4,ho5⟩⟩
 cases h;refine go ?_
 exact ⟨.inr rfl,_,_,rk,rfl,sx ((S106.ren 3 902).ren 4 904)⟩
open Go.Am
theorem F61.fn:E.fn 61 = some (fi 40 Tryz.f61 []):=rfl
theorem F61_ok {F:Nat} {m:Mem} {n:Nat} {r:Int × Int} {t0:List Int} {t1:Int} {vt0:SV} (h:F61 F t0 t1 = some r) (kt0:Vw Y3 n m vt0 t0):Ret E n 61 [.sc vt0,.sc (.int .i64 t1)] m n (fun v m' n'=>v = .tup [.sc (.int .i64 r.1),.sc (.int .i64 r.2)]):=by
 unfold F61 at h
 refine Ret.walk F61.fn ?_
 refine WC.start fun S0 em en hz=>?_
 have hot0:=kt0.rdS em hz
 obtain ⟨b38,e39,h⟩:=bindS h
 refine go ?_
 refine WC.loopD e39 (fun s1 l' m' n'=>∃ S3:Cx n,∃ v4:SV,S3.m = m'∧S3.n = n'∧Cov l' [(1,.sc (.int .i64 t1)),(6,.sc v4),(9,.sc vt0),(10,.sc (.int .i64 ((t0.length:Int)))),(11,.sc (.int .i64 s1.2))]∧Rd Y3 S3 vt0 t0∧Ow Y3 S3 2 v4 s1.1) (fun b e l' m' n'=>e = .exit 0∧∃ S5:Cx n,∃ v6:SV,S5.m = m'∧S5.n = n'∧Cov l' [(1,.sc (.int .i64 t1)),(6,.sc v6)]∧Ow Y3 S5 2 v6 b) fn ?_ ?_
 ·rintro s1 q _ _ _ ⟨S7,v8,rfl,rfl,hc9,hot0,ho6⟩ h
  unfold F61_l1 at h
  refine go ?_
  refine ci h (fun q10 h=>?_) fun q10 h=>?_
  ·obtain ⟨x11,e12,h⟩:=bindS h
   obtain ⟨b33,e34,h⟩:=bindS h
   refine go ?_
   refine WC.loopD e34 (fun s13 l' m' n'=>∃ S15:Cx n,∃ v16:SV,S15.m = m'∧S15.n = n'∧Cov l' [(1,.sc (.int .i64 t1)),(6,.sc v16),(7,.sc (.int .i64 s1.2)),(9,.sc vt0),(10,.sc (.int .i64 ((t0.length:Int)))),(11,.sc (.int .i64 s1.2)),(16,.sc (.int .i64 x11)),(17,.sc (.int .i64 s13.2))]∧Rd Y3 S15 vt0 t0∧Ow Y3 S15 2 v16 s13.1) (fun b e l' m' n'=>e = .exit 2∧∃ S17:Cx n,∃ v18:SV,S17.m = m'∧S17.n = n'∧Cov l' [(1,.sc (.int .i64 t1)),(6,.sc v18),(9,.sc vt0),(10,.sc (.int .i64 ((t0.length:Int)))),(11,.sc (.int .i64 s1.2))]∧Rd Y3 S17 vt0 t0∧Ow Y3 S17 2 v18 b) fn ?_ ?_
   ·rintro s13 q _ _ _ ⟨S19,v20,rfl,rfl,hc21,hot0,ho6⟩ h
    unfold F61_l0 at h
    refine go ?_
    refine ci h (fun q22 h=>?_) fun q22 h=>?_
    ·refine go ?_
     refine WO.bsS (A:=Y3) (M:=[s1.2]) (cs:=[.int .i64 s1.2]) 3 rfl rfl rfl ⟨[.int .i64 s1.2],_,rfl,rfl,rfl⟩ rfl (fun v23 S24 c25 ho26=>?_)
     obtain ⟨L27,e28,h⟩:=bindS h
     refine WO.appS rfl rfl tr ro e28 rfl rfl (fun v29 S30 c31 ho32=>?_)
     cases h;refine go ?_
     exact fn
    cases h;refine go ?_
    exact fn
   rintro _ _ _ _ ⟨rfl,⟨S35,v36,rfl,rfl,hc37,hot0,ho6⟩⟩
   cases h;refine go ?_
   exact fn
  cases h;refine go ?_
  exact fn
 rintro _ _ _ _ ⟨rfl,⟨S40,v41,rfl,rfl,hc42,ho6⟩⟩
 refine go ?_
 refine ci h (fun q43 h=>?_) fun q43 h=>?_
 ·cases h;refine go ?_
  exact fn
 refine go ?_
 refine WO.cutB (d:=35) 5 ((decide (t1 < 0)) || (decide (t1 ≥ (b38.length:Int)))) (fun q44=>?_) (fun q44=>?_) ?_
 ·refine go ?_;exact cu
 ·refine go ?_;exact cu
 refine go ?_
 refine ci h (fun q45 h=>?_) fun q45 h=>?_
 ·cases h;refine go ?_
  exact fn
 obtain ⟨x46,e47,h⟩:=bindS h
 cases h;refine go ?_
 exact fn
open Go.Am
theorem F63.fn:E.fn 63 = some (fi 5 Tryz.f63 []):=rfl
theorem F63_ok {F:Nat} {m:Mem} {n:Nat} {r:Bool} {t0:Int} (h:F63 F t0 = some r) :Ret E n 63 [.sc (.int .i64 t0)] m n (fun v m' n'=>v = .sc (.bool r)):=by
 unfold F63 at h
 refine Ret.walk F63.fn ?_
 refine WC.start fun S0 em en hz=>?_
 cases h;refine go ?_
 exact fn
open Go.Am
theorem F108_63.fn:E.fn 108 = some (fi 19 Tryz.f108 []):=rfl
theorem F108_63_ok {F:Nat} {m:Mem} {n:Nat} {r:Int} {t0:List Int} {vt0:SV} (h:F108_63 F t0 = some r) (kt0:Vw Y3 n m vt0 t0):Ret E n 108 [.sc vt0,.sc (.fn 63 [])] m n (fun v m' n'=>v = .sc (.int .i64 r)):=by
 unfold F108_63 at h
 refine Ret.walk F108_63.fn ?_
 refine WC.start fun S0 em en hz=>?_
 have hot0:=kt0.rdS em hz
 obtain ⟨b16,e17,h⟩:=bindS h
 refine go ?_
 refine WC.loopD e17 (fun s1 l' m' n'=>∃ S2:Cx n,S2.m = m'∧S2.n = n'∧Cov l' [(0,.sc vt0),(1,.sc (.fn 63 [])),(7,.sc (.int .i64 ((t0.length:Int)))),(8,.sc (.int .i64 s1))]∧Rd Y3 S2 vt0 t0) (fun b e l' m' n'=>(match b with | .inl b3=>e = .exit 0∧∃ S4:Cx n,S4.m = m'∧S4.n = n'∧Cov l' [] | .inr b3=>e = .ret∧∃ S5:Cx n,S5.m = m'∧S5.n = n'∧Cov l' [(4,.sc (.int .i64 b3))])) fn ?_ ?_
 ·rintro s1 q _ _ _ ⟨S6,rfl,rfl,hc7,hot0⟩ h
  unfold F108_63_l0 at h
  refine go ?_
  refine ci h (fun q8 h=>?_) fun q8 h=>?_
  ·obtain ⟨x9,e10,h⟩:=bindS h
   obtain ⟨r11,e12,h⟩:=bindS h
   refine go ?_
   refine WO.callE rfl rfl (F63_ok e12) (fun S13 c14=>?_)
   refine go ?_
   refine ci h (fun q15 h=>?_) fun q15 h=>?_
   ·cases h;refine go ?_
    exact fn
   cases h;refine go ?_
   exact fn
  cases h;refine go ?_
  exact fn
 cases b16 with
 | inl b18=>
  simp only at h
  rintro _ _ _ _ ⟨rfl,⟨S19,rfl,rfl,hc20⟩⟩
  cases h;refine go ?_
  exact fn
 | inr b18=>
  simp only at h
  rintro _ _ _ _ ⟨rfl,⟨S21,rfl,rfl,hc22⟩⟩
  cases h;refine go ?_
  exact fn
open Go.Am
theorem F62_63.fn:E.fn 62 = some (fi 9 Tryz.f62 []):=rfl
theorem F62_63_ok {F:Nat} {m:Mem} {n:Nat} {r:Bool} {t0:List Int} {vt0:SV} (h:F62_63 F t0 = some r) (kt0:Vw Y3 n m vt0 t0):Ret E n 62 [.sc vt0,.sc (.fn 63 [])] m n (fun v m' n'=>v = .sc (.bool r)):=by
 unfold F62_63 at h
 refine Ret.walk F62_63.fn ?_
 refine WC.start fun S0 em en hz=>?_
 have hot0:=kt0.rdS em hz
 obtain ⟨r1,e2,h⟩:=bindS h
 refine go ?_
 refine WO.callE rfl rfl (F108_63_ok e2 vw) (fun S3 c4=>?_)
 cases h;refine go ?_
 exact fn
open Go.Am
theorem F64.fn:E.fn 64 = some (fi 79 Tryz.f64 []):=rfl
theorem F64_ok {F:Nat} {m:Mem} {n:Nat} {r:Int} {t0:List Int} {t1:List Int} {vt0:SV} {vt1:SV} (h:F64 F t0 t1 = some r) (kt0:Vw Y3 n m vt0 t0) (kt1:Vw Y3 n m vt1 t1):Ret E n 64 [.sc vt0,.sc vt1] m n (fun v m' n'=>v = .sc (.int .i64 r)):=by
 unfold F64 at h
 refine Ret.walk F64.fn ?_
 refine WC.start fun S0 em en hz=>?_
 have hot0:=kt0.rdS em hz
 have hot1:=kt1.rdS em hz
 obtain ⟨b51,e52,h⟩:=bindS h
 refine go ?_
 refine WC.loopD e52 (fun s1 l' m' n'=>∃ S2:Cx n,S2.m = m'∧S2.n = n'∧Cov l' [(0,.sc vt0),(1,.sc vt1),(9,.sc (.int .i64 ((t0.length:Int)))),(10,.sc (.int .i64 s1))]∧Rd Y3 S2 vt0 t0∧Rd Y3 S2 vt1 t1) (fun b e l' m' n'=>(match b with | .inl b3=>e = .exit 0∧∃ S4:Cx n,S4.m = m'∧S4.n = n'∧Cov l' [] | .inr b3=>e = .ret∧∃ S5:Cx n,S5.m = m'∧S5.n = n'∧Cov l' [(4,.sc (.int .i64 b3))])) fn ?_ ?_
 ·rintro s1 q _ _ _ ⟨S6,rfl,rfl,hc7,hot0,hot1⟩ h
  unfold F64_l1 at h
  refine go ?_
  refine ci h (fun q8 h=>?_) fun q8 h=>?_
  ·obtain ⟨x9,e10,h⟩:=bindS h
   refine go ?_
   refine ci h (fun q11 h=>?_) fun q11 h=>?_
   ·cases h;refine go ?_
    exact fn
   obtain ⟨b46,e47,h⟩:=bindS h
   refine go ?_
   refine WC.loopD e47 (fun s12 l' m' n'=>∃ S13:Cx n,S13.m = m'∧S13.n = n'∧Cov l' [(0,.sc vt0),(1,.sc vt1),(5,.sc (.int .i64 s1)),(6,.sc (.bool s12.1)),(9,.sc (.int .i64 ((t0.length:Int)))),(10,.sc (.int .i64 s1)),(19,.sc (.int .i64 ((t0.length:Int)))),(20,.sc (.int .i64 s12.2))]∧Rd Y3 S13 vt0 t0∧Rd Y3 S13 vt1 t1) (fun b e l' m' n'=>e = .exit 2∧∃ S14:Cx n,S14.m = m'∧S14.n = n'∧Cov l' [(0,.sc vt0),(1,.sc vt1),(5,.sc (.int .i64 s1)),(6,.sc (.bool b)),(9,.sc (.int .i64 ((t0.length:Int)))),(10,.sc (.int .i64 s1))]∧Rd Y3 S14 vt0 t0∧Rd Y3 S14 vt1 t1) fn ?_ ?_
   ·rintro s12 q _ _ _ ⟨S15,rfl,rfl,hc16,hot0,hot1⟩ h
    unfold F64_l0 at h
    refine go ?_
    refine ci h (fun q17 h=>?_) fun q17 h=>?_
    ·obtain ⟨x18,e19,h⟩:=bindS h
     obtain ⟨y43,e44,h⟩:=bindS h
     refine go ?_
     refine WO.cutB (d:=74) 46 y43 (fun q42=>?_) (fun q42=>?_) ?_
     ·have h:=e44
      have h:=iteT q42 h
      obtain ⟨x20,e21,h⟩:=bindS h
      have h:=bindE e10 h
      obtain ⟨x24,e25,h⟩:=bindS h
      have h:=bindE e19 h
      obtain ⟨y40,e41,h⟩:=bindS h
      refine go ?_
      refine WO.cutB (d:=73) 25 y40 (fun q39=>?_) (fun q39=>?_) ?_
      ·have h:=e41
       have h:=iteT q39 h
       cases h;refine go ?_
       exact cu
      ·have h:=e41
       have h:=iteF q39 h
       obtain ⟨y37,e38,h⟩:=bindS h
       refine go ?_
       refine WO.cutB (d:=72) 20 y37 (fun q36=>?_) (fun q36=>?_) ?_
       ·have h:=e38
        have h:=iteT q36 h
        have h:=bindE e21 h
        have h:=bindE e10 h
        have h:=bindE e25 h
        have h:=bindE e19 h
        cases h;refine go ?_
        exact cu
       ·have h:=e38
        have h:=iteF q36 h
        cases h;refine go ?_
        exact cu
       cases h;refine go ?_
       exact cu
      cases h;refine go ?_
      exact cu
     ·have h:=e44
      have h:=iteF q42 h
      cases h;refine go ?_
      exact cu
     refine go ?_
     refine ci h (fun q45 h=>?_) fun q45 h=>?_
     ·cases h;refine go ?_
      exact fn
     cases h;refine go ?_
     exact fn
    cases h;refine go ?_
    exact fn
   rintro _ _ _ _ ⟨rfl,⟨S48,rfl,rfl,hc49,hot0,hot1⟩⟩
   refine go ?_
   refine ci h (fun q50 h=>?_) fun q50 h=>?_
   ·cases h;refine go ?_
    exact fn
   cases h;refine go ?_
   exact fn
  cases h;refine go ?_
  exact fn
 cases b51 with
 | inl b53=>
  simp only at h
  rintro _ _ _ _ ⟨rfl,⟨S54,rfl,rfl,hc55⟩⟩
  cases h;refine go ?_
  exact fn
 | inr b53=>
  simp only at h
  rintro _ _ _ _ ⟨rfl,⟨S56,rfl,rfl,hc57⟩⟩
  cases h;refine go ?_
  exact fn
open Go.Am
theorem F65.fn:E.fn 65 = some (fi 15 Tryz.f65 []):=rfl
theorem F65_ok {F:Nat} {m:Mem} {n:Nat} {r:Bool} {t0:List UInt8} (h:F65 F t0 = some r) :Ret E n 65 [.sc (.str t0)] m n (fun v m' n'=>v = .sc (.bool r)):=by
 unfold F65 at h
 refine Ret.walk F65.fn ?_
 refine WC.start fun S0 em en hz=>?_
 refine go ?_
 refine WO.cutB (d:=9) 4 ((!(t0 == [])) && (decide ((t0.length:Int) < 13))) (fun q1=>?_) (fun q1=>?_) ?_
 ·refine go ?_;exact cu
 ·refine go ?_;exact cu
 obtain ⟨y7,e8,h⟩:=bindS h
 refine go ?_
 refine WO.cutS (d:=14) (S:=S0) 4 y7 (fun q6=>?_) (fun q6=>?_) (fun S9 c10=>?_)
 ·have h:=e8
  have h:=iteT q6 h
  obtain ⟨r2,e3,h⟩:=bindS h
  refine go ?_
  refine WO.callE rfl rfl (F44_ok e3) (fun S4 c5=>?_)
  cases h;refine go ?_
  exact cu
 ·have h:=e8
  have h:=iteF q6 h
  cases h;refine go ?_
  exact ⟨S0,rfl,rfl,Ch.refl _ _,(Cov.cons rfl (Cov.skip rfl (Cov.skip rfl (Cov.skip rfl (Cov.skip rfl (Cov.skip rfl (Cov.refl _)))))))⟩
 cases h;refine go ?_
 exact fn
open Go.Am
theorem F110.fn:E.fn 110 = some (fi 8 Tryz.f110 []):=rfl
theorem F110_ok {F:Nat} {m:Mem} {n:Nat} {r:Bool} {t0:(List UInt8) × Int × Int} {c0:List UInt8} {bc0:Nat} (h:F110 F t0 c0 = some r) (kc0:Pv Y9 n m bc0 c0):Ret E n 110 [.agg [.str t0.1,.int .i64 t0.2.1,.int .i64 t0.2.2],.sc (.ptr bc0 0)] m n (fun v m' n'=>v = .sc (.bool r)):=by
 unfold F110 at h
 refine Ret.walk F110.fn ?_
 refine WC.start fun S0 em en hz=>?_
 have hoc0:=kc0.rpS em hz
 refine go ?_
 refine WO.bxS (A:=Y59) (u:=(t0.1,t0.2.1,t0.2.2)) 2 rfl rfl rfl rfl (fun v1 S2 c3 ho4=>?_)
 cases h;refine go ?_
 exact fn
open Go.Am
theorem F109_110.fn:E.fn 109 = some (fi 19 Tryz.f109 []):=rfl
theorem F109_110_ok {F:Nat} {m:Mem} {n:Nat} {r:Int} {t0:List ((List UInt8) × Int × Int)} {t1c0:List UInt8} {vt0:SV} {bt1c0:Nat} (h:F109_110 F t0 t1c0 = some r) (kt0:Vw Y59 n m vt0 t0) (kt1c0:Pv Y9 n m bt1c0 t1c0):Ret E n 109 [.sc vt0,.sc (.fn 110 [(bt1c0,0)])] m n (fun v m' n'=>v = .sc (.int .i64 r)):=by
 unfold F109_110 at h
 refine Ret.walk F109_110.fn ?_
 refine WC.start fun S0 em en hz=>?_
 have hot0:=kt0.rdS em hz
 have hot1c0:=kt1c0.rpS em hz
 obtain ⟨b16,e17,h⟩:=bindS h
 refine go ?_
 refine WC.loopD e17 (fun s1 l' m' n'=>∃ S2:Cx n,S2.m = m'∧S2.n = n'∧Cov l' [(0,.sc vt0),(1,.sc (.fn 110 [(bt1c0,0)])),(7,.sc (.int .i64 ((t0.length:Int)))),(8,.sc (.int .i64 s1))]∧Rd Y59 S2 vt0 t0∧Rp Y9 S2 (.ptr bt1c0 0) t1c0) (fun b e l' m' n'=>(match b with | .inl b3=>e = .exit 0∧∃ S4:Cx n,S4.m = m'∧S4.n = n'∧Cov l' [] | .inr b3=>e = .ret∧∃ S5:Cx n,S5.m = m'∧S5.n = n'∧Cov l' [(4,.sc (.int .i64 b3))])) fn ?_ ?_
 ·rintro s1 q _ _ _ ⟨S6,rfl,rfl,hc7,hot0,hot1c0⟩ h
  unfold F109_110_l0 at h
  refine go ?_
  refine ci h (fun q8 h=>?_) fun q8 h=>?_
  ·obtain ⟨x9,e10,h⟩:=bindS h
   obtain ⟨r11,e12,h⟩:=bindS h
   refine go ?_
   refine WO.callE rfl rfl (F110_ok e12 pv') (fun S13 c14=>?_)
   refine go ?_
   refine ci h (fun q15 h=>?_) fun q15 h=>?_
   ·cases h;refine go ?_
    exact fn
   cases h;refine go ?_
   exact fn
  cases h;refine go ?_
  exact fn
 cases b16 with
 | inl b18=>
  simp only at h
  rintro _ _ _ _ ⟨rfl,⟨S19,rfl,rfl,hc20⟩⟩
  cases h;refine go ?_
  exact fn
 | inr b18=>
  simp only at h
  rintro _ _ _ _ ⟨rfl,⟨S21,rfl,rfl,hc22⟩⟩
  cases h;refine go ?_
  exact fn
open Go.Am
theorem F66.fn:E.fn 66 = some (fi 9 Tryz.f66 []):=rfl
theorem F66_ok {F:Nat} {m:Mem} {n:Nat} {r:Int} {t0:(List ((List UInt8) × Int × Int)) × (List ((List UInt8) × (List UInt8) × Int))} {t1:List UInt8} {vt0_0:SV} {vt0_1:SV} (h:F66 F t0 t1 = some r) (kt0_0:Vw Y59 n m vt0_0 t0.1) (kt0_1:Vw Y118 n m vt0_1 t0.2):Ret E n 66 [.agg [vt0_0,vt0_1],.sc (.str t1)] m n (fun v m' n'=>v = .sc (.int .i64 r)):=by
 unfold F66 at h
 refine Ret.walk F66.fn ?_
 refine WC.start fun S0 em en hz=>?_
 have hot0_0:=kt0_0.rdS em hz
 have hot0_1:=kt0_1.rdS em hz
 refine go ?_
 refine WO.bxW (cs:=[vt0_0,vt0_1]) 2 rfl rfl rfl (fun b1 S2 c3 ho4=>?_)
 refine WO.bxS (A:=Y9) (u:=t1) 3 rfl rfl rfl rfl (fun v5 S6 c7 ho8=>?_)
 refine go ?_
 obtain ⟨b9,rfl⟩:=ho8.isp
 obtain ⟨r10,e11,h⟩:=bindS h
 refine go ?_
 refine WO.callE rfl rfl (F109_110_ok e11 vw pv') (fun S12 c13=>?_)
 cases h;refine go ?_
 exact fn
open Go.Am
theorem F68.fn:E.fn 68 = some (fi 6 Tryz.f68 []):=rfl
theorem F68_ok {F:Nat} {m:Mem} {n:Nat} {r:Bool} {t0:(List UInt8) × (List UInt8) × Int} (h:F68 F t0 = some r) :Ret E n 68 [.agg [.str t0.1,.str t0.2.1,.int .i64 t0.2.2]] m n (fun v m' n'=>v = .sc (.bool r)):=by
 unfold F68 at h
 refine Ret.walk F68.fn ?_
 refine WC.start fun S0 em en hz=>?_
 refine go ?_
 refine WO.bxS (A:=Y118) (u:=(t0.1,t0.2.1,t0.2.2)) 2 rfl rfl rfl rfl (fun v1 S2 c3 ho4=>?_)
 cases h;refine go ?_
 exact fn
open Go.Am
theorem F111_68.fn:E.fn 111 = some (fi 19 Tryz.f111 []):=rfl
theorem F111_68_ok {F:Nat} {m:Mem} {n:Nat} {r:Int} {t0:List ((List UInt8) × (List UInt8) × Int)} {vt0:SV} (h:F111_68 F t0 = some r) (kt0:Vw Y118 n m vt0 t0):Ret E n 111 [.sc vt0,.sc (.fn 68 [])] m n (fun v m' n'=>v = .sc (.int .i64 r)):=by
 unfold F111_68 at h
 refine Ret.walk F111_68.fn ?_
 refine WC.start fun S0 em en hz=>?_
 have hot0:=kt0.rdS em hz
 obtain ⟨b16,e17,h⟩:=bindS h
 refine go ?_
 refine WC.loopD e17 (fun s1 l' m' n'=>∃ S2:Cx n,S2.m = m'∧S2.n = n'∧Cov l' [(0,.sc vt0),(1,.sc (.fn 68 [])),(7,.sc (.int .i64 ((t0.length:Int)))),(8,.sc (.int .i64 s1))]∧Rd Y118 S2 vt0 t0) (fun b e l' m' n'=>(match b with | .inl b3=>e = .exit 0∧∃ S4:Cx n,S4.m = m'∧S4.n = n'∧Cov l' [] | .inr b3=>e = .ret∧∃ S5:Cx n,S5.m = m'∧S5.n = n'∧Cov l' [(4,.sc (.int .i64 b3))])) fn ?_ ?_
 ·rintro s1 q _ _ _ ⟨S6,rfl,rfl,hc7,hot0⟩ h
  unfold F111_68_l0 at h
  refine go ?_
  refine ci h (fun q8 h=>?_) fun q8 h=>?_
  ·obtain ⟨x9,e10,h⟩:=bindS h
   obtain ⟨r11,e12,h⟩:=bindS h
   refine go ?_
   refine WO.callE rfl rfl (F68_ok e12) (fun S13 c14=>?_)
   refine go ?_
   refine ci h (fun q15 h=>?_) fun q15 h=>?_
   ·cases h;refine go ?_
    exact fn
   cases h;refine go ?_
   exact fn
  cases h;refine go ?_
  exact fn
 cases b16 with
 | inl b18=>
  simp only at h
  rintro _ _ _ _ ⟨rfl,⟨S19,rfl,rfl,hc20⟩⟩
  cases h;refine go ?_
  exact fn
 | inr b18=>
  simp only at h
  rintro _ _ _ _ ⟨rfl,⟨S21,rfl,rfl,hc22⟩⟩
  cases h;refine go ?_
  exact fn
open Go.Am
theorem F67_68.fn:E.fn 67 = some (fi 42 Tryz.f67 []):=rfl
theorem F67_68_ok {F:Nat} {fl:Nat} {S0:Cx fl} {r:(List ((List UInt8) × (List UInt8) × Int))} {t0:List ((List UInt8) × (List UInt8) × Int)} {vt0:SV} (h:F67_68 F t0 = some r) (hot0:Ow Y118 S0 2 vt0 t0):Ret E fl 67 [.sc vt0,.sc (.fn 68 [])] S0.m S0.n (fun v m' n'=>∃ S':Cx fl,S'.m = m'∧S'.n = n'∧ChM S0 S'∧(∃ w44:SV,v = .sc w44∧Ow Y118 S' 902 w44 r)):=by
 unfold F67_68 at h
 refine Ret.walk F67_68.fn ?_
 have hM:=ChM.refl S0
 obtain ⟨r1,e2,h⟩:=bindS h
 refine go ?_
 refine WO.callE rfl rfl (F111_68_ok e2 vw) (fun S3 c4=>?_)
 refine go ?_
 refine ci h (fun q5 h=>?_) fun q5 h=>?_
 ·cases h;refine go ?_
  exact ⟨.inr rfl,_,_,rk,rfl,sx (S3.ren 2 902)⟩
 obtain ⟨b29,e30,h⟩:=bindS h
 refine go ?_
 refine WC.loopD e30 (fun s6 l' m' n'=>∃ S7:Cx fl,S7.m = m'∧S7.n = n'∧Cov l' [(0,.sc vt0),(1,.sc (.fn 68 [])),(5,.sc (.int .i64 s6.1)),(6,.sc (.int .i64 s6.2.1))]∧ChM S0 S7∧Ow Y118 S7 2 vt0 s6.2.2) (fun b e l' m' n'=>e = .exit 0∧∃ S8:Cx fl,S8.m = m'∧S8.n = n'∧Cov l' [(0,.sc vt0),(5,.sc (.int .i64 b.1))]∧ChM S0 S8∧Ow Y118 S8 2 vt0 b.2) fn ?_ ?_
 ·rintro s6 q _ _ _ ⟨S9,rfl,rfl,hc10,hM,hot0⟩ h
  unfold F67_68_l0 at h
  refine go ?_
  refine ci h (fun q11 h=>?_) fun q11 h=>?_
  ·obtain ⟨x12,e13,h⟩:=bindS h
   refine go ?_
   refine WO.alS (A:=Y118) (z0:=(([],[],0):(List UInt8) × (List UInt8) × Int)) 3 rfl rfl rfl (fun v14 S15 c16 ho17=>?_)
   refine WO.stBA (u':=(x12.1,x12.2.1,x12.2.2)) rfl pa rfl tr rfl rfl (fun S18 c19 ho17=>?_)
   obtain ⟨r20,e21,h⟩:=bindS h
   refine go ?_
   refine WO.callE rfl rfl (F68_ok e21) (fun S22 c23=>?_)
   refine go ?_
   refine ci h (fun q24 h=>?_) fun q24 h=>?_
   ·obtain ⟨u25,e26,h⟩:=bindS h
    refine go ?_
    refine WO.stA (u':=(((x12.1,x12.2.1,x12.2.2)).1,((x12.1,x12.2.1,x12.2.2)).2.1,((x12.1,x12.2.1,x12.2.2)).2.2)) rfl rfl tr ntl (by rfl) (by rfl) (fun S27 c28 hot0=>?_)
    cases h;refine go ?_
    exact fn
   cases h;refine go ?_
   exact fn
  cases h;refine go ?_
  exact fn
 rintro _ _ _ _ ⟨rfl,⟨S31,rfl,rfl,hc32,hM,hot0⟩⟩
 obtain ⟨L33,e34,h⟩:=bindS h
 refine go ?_
 refine WO.slcB (k':=.i64) rfl (.inl ⟨_,rfl,rfl⟩) (.inr ⟨rfl,rfl⟩) (wk (S:=S31)) e34 rfl (fun v35 ho36 b37=>?_)
 have ho36:Wk Y118 S31 2 v35 L33:=ho36
 refine WO.clrB (z0:=(([],[],0):(List UInt8) × (List UInt8) × Int)) tr e34 b37 rfl rfl rfl rfl (fun S38 c39 hot0=>?_)
 obtain ⟨L40,e41,h⟩:=bindS h
 refine go ?_
 refine WO.slcO rfl rfl tr e41 rfl (fun v42 ho43=>?_)
 cases h;refine go ?_
 exact ⟨.inr rfl,_,_,rk,rfl,sx (S38.ren 2 902)⟩
end Go.Proofs.YtaphdnpjpmnaeadGreatDoor

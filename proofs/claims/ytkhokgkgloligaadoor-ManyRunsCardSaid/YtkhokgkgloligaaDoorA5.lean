/- Towards castlaw.ManyRuns, part 5: joined by a program of ours. -/
import Derived.Test.YtkhokgkgloligaaDoorA4
set_option linter.unusedVariables false
set_option linter.unusedSimpArgs false
set_option linter.unusedSectionVars false
namespace Go.Proofs.YtkhokgkgloligaaDoor
open Go.Am
theorem F64.fn:E.fn 64 = some (fi 122 Tryd.f64 [7]):=rfl
theorem F64_ok {F:Nat} {fl:Nat} {S0:Cx fl} {r:((List UInt8) × Int) × ((List ((List UInt8) × Int × Int)) × (List ((List UInt8) × (List UInt8) × Int)))} {t0:(List ((List UInt8) × Int × Int)) × (List ((List UInt8) × (List UInt8) × Int))} {t1:List UInt8} {bt0:Nat} {vt0_0:SV} {vt0_1:SV} (h:F64 F t0 t1 = some r) (hot0:Bw S0 2 (.ptr bt0 0) [vt0_0,vt0_1]) (hot0_0:Ow Y114 S0 3 vt0_0 t0.1) (hot0_1:Ow Y134 S0 4 vt0_1 t0.2):Ret E fl 64 [.sc (.ptr bt0 0),.sc (.str t1)] S0.m S0.n (fun v m' n'=>∃ S':Cx fl,S'.m = m'/\S'.n = n'/\ChM S0 S'/\(∃ w78 w79:SV,v = .agg [.str r.1.1,.int .i64 r.1.2]/\Bw S' 2 (.ptr bt0 0) [w78,w79]/\Ow Y114 S' 3 w78 r.2.1/\Ow Y134 S' 4 w79 r.2.2)):=by
 unfold F64 at h
 refine Ret.walk F64.fn ?_
 have hM:=ChM.refl S0
 refine WC.sq (WC.rg ?_)
 refine WO.alS (A:=Y37) (S:=S0) (z0:=(([],0):(List UInt8) × Int)) 5 rfl rfl rfl (fun v1 S2 c3 ho4=>?_)
 have hot0_0:=hot0_0.to c3
 have hot0_1:=hot0_1.to c3
 have hot0:=hot0.to c3
 have hM:=hM.to c3
 refine WO.ni (tN (WC.sq (WC.rg (WO.as rfl (WO.ni (tN (WC.sq (WC.sq (WC.rg (WO.mv rfl ?_))))))))))
 refine WO.nck rfl hot0.isp ?_
 refine WO.fldS (j:=0) (q:=0) rfl hot0.at0 hot0.ptr rfl rfl rfl (by decide) ?_
 refine WO.ldW rfl rfl hot0 rfl rfl hot0.lt rfl ?_
 refine WO.lenS rfl hot0_1.slv rfl ?_
 refine WO.bi rfl rfl rfl ?_
 refine WO.as rfl (WO.ni (tN (WC.block ?_)))
 obtain ⟨b69,e70,h⟩:=bindS h
 refine WC.loopD e70 (fun s5 l' m' n'=>∃ S8:Cx fl,∃ v9 v10:SV,S8.m = m'/\S8.n = n'/\Cov l' [(0,.sc ((.ptr bt0 0))),(1,.sc (.str t1)),(4,.sc v1),(5,.sc (.int .i64 s5.1)),(6,.sc (.int .i64 s5.2.1))]/\ChM S0 S8/\Bw S8 2 (.ptr bt0 0) [v9,v10]/\Bk Y37 S8 5 v1 ((([],0):(List UInt8) × Int))/\Ow Y114 S8 3 v9 s5.2.2.1/\Ow Y134 S8 4 v10 s5.2.2.2) (fun b e l' m' n'=>e = .exit 0/\∃ S11:Cx fl,∃ v12 v13:SV,S11.m = m'/\S11.n = n'/\Cov l' [(0,.sc ((.ptr bt0 0))),(1,.sc (.str t1)),(4,.sc v1),(5,.sc (.int .i64 b.1))]/\ChM S0 S11/\Bw S11 2 (.ptr bt0 0) [v12,v13]/\Bk Y37 S11 5 v1 ((([],0):(List UInt8) × Int))/\Ow Y114 S11 3 v12 b.2.1/\Ow Y134 S11 4 v13 b.2.2) (by exact ⟨S2,vt0_0,vt0_1,rfl,rfl,(Kc (Kc (Kc (Kc (Kc (Cov.nil _)))))),hM,hot0,ho4,hot0_0,hot0_1⟩) ?_ ?_
 ·clear h
  rintro s5 q _ _ _ ⟨S14,v15,v16,rfl,rfl,hc17,hM,hot0,ho4,hot0c0,hot0c1⟩ h
  unfold F64_l0 at h
  refine WC.cov hc17 ?_
  refine WC.sq (WC.sq (WC.rg (WO.mv rfl ?_)))
  refine WO.bi rfl rfl rfl ?_
  refine WO.ni (tN ?_)
  refine WC.cond rfl (fun q18=>?_) (fun q18=>?_)
  ·have h:=iteT q18 h
   refine WC.skip (tN (WC.sq (WC.block (WC.sq (WC.rg (WO.mv rfl ?_))))))
   refine WO.nck rfl hot0.isp ?_
   refine WO.fldS (j:=0) (q:=0) rfl hot0.at0 hot0.ptr rfl rfl rfl (by decide) ?_
   refine WO.ldW rfl rfl hot0 rfl rfl hot0.lt rfl ?_
   refine WO.mv rfl ?_
   obtain ⟨x19,e20,h⟩:=bindS h
   refine WO.ixS rfl rfl hot0c1.slv (at?_lt e20) rfl ?_
   refine WO.ldA rfl hot0c1.ro (fun _ hi=>hi) (at?_get e20) rfl rfl ?_
   refine WO.alS (A:=Y134) (S:=S14) (z0:=(([],[],0):(List UInt8) × (List UInt8) × Int)) 6 rfl rfl rfl (fun v21 S22 c23 ho24=>?_)
   have hM:=hM.to c23
   have hot0:=hot0.to c23
   have ho4:=ho4.to c23
   have hot0c0:=hot0c0.to c23
   have hot0c1:=hot0c1.to c23
   refine WO.stBA (u':=(x19.1,x19.2.1,x19.2.2)) rfl ho24.at0 rfl ho24 rfl rfl (fun S25 c26 ho24=>?_)
   have hM:=hM.to c26
   have hot0:=hot0.to c26
   have ho4:=ho4.to c26
   have hot0c0:=hot0c0.to c26
   have hot0c1:=hot0c1.to c26
   refine WO.ni (tN (WC.sq (WC.sq (WC.rg ?_))))
   refine WO.fldS (j:=0) (q:=0) rfl ho24.at0 ho24.ptr rfl rfl rfl (by decide) ?_
   refine WO.ldB (j:=0) (q:=0) rfl rfl ho24 rfl rfl rfl ?_
   refine WO.mv rfl (WO.do rfl rfl (WO.ni (tN ?_)))
   refine WC.cond rfl (fun q27=>?_) (fun q27=>?_)
   ·have h:=iteT q27 h
    refine WC.exit (tE (bS (tN (WC.rg (WO.mv rfl ?_)))))
    refine WO.bi rfl rfl rfl ?_
    refine WO.as rfl (WO.ni (tN ?_))
    obtain rfl:=someI h
    exact ⟨_,rfl,⟨S25,v15,v16,rfl,rfl,(Kc (Kc (Kc (Kc (Kc (Cov.nil _)))))),hM,hot0,ho4,hot0c0,hot0c1⟩⟩
   ·have h:=iteF q27 h
    refine WC.skip (tN (WC.sq ?_))
    refine WC.drawN rfl rfl ?_
    have ho24z:=ho24.lt
    refine WO.mv rfl ?_
    refine WO.fldS (j:=0) (q:=0) rfl ho24.at0 ho24.ptr rfl rfl rfl (by decide) ?_
    refine WO.ldBz (j:=0) (q:=0) rfl rfl ho24 rfl rfl ho24z (limLe_self _) ?_
    obtain ⟨r28,e29,h⟩:=bindS h
    refine WO.callE (S:=S25) rfl rfl (F60_ok e29 hot0.pw hot0c0.vw hot0c1.vw) (fun S30 c31=>?_)
    have hM:=hM.to c31
    have hot0:=hot0.to c31
    have ho4:=ho4.to c31
    have hot0c0:=hot0c0.to c31
    have hot0c1:=hot0c1.to c31
    have ho24:=ho24.to c31
    refine WO.mv rfl ?_
    refine WO.fldS (j:=0) (q:=0) rfl ho24.at0 ho24.ptr rfl rfl rfl (by decide) ?_
    refine WO.ldBz (j:=0) (q:=1) rfl rfl ho24 rfl rfl ho24z (limLe_self _) ?_
    obtain ⟨r32,e33,h⟩:=bindS h
    refine WO.callE (S:=S30) rfl rfl (F60_ok e33 hot0.pw hot0c0.vw hot0c1.vw) (fun S34 c35=>?_)
    have hM:=hM.to c35
    have hot0:=hot0.to c35
    have ho4:=ho4.to c35
    have hot0c0:=hot0c0.to c35
    have hot0c1:=hot0c1.to c35
    have ho24:=ho24.to c35
    refine WO.as rfl (WO.as rfl (WO.ni (tN (WC.sq ?_))))
    refine WC.drawP rfl rfl ?_
    refine WO.fldS (j:=0) (q:=0) rfl ho24.at0 ho24.ptr rfl rfl rfl (by decide) ?_
    refine WO.ldB (j:=0) (q:=2) rfl rfl ho24 rfl rfl (limLe_self _) ?_
    refine WO.mv rfl ?_
    refine WO.nck rfl hot0.isp ?_
    refine WO.fldS (j:=0) (q:=0) rfl hot0.at0 hot0.ptr rfl rfl rfl (by decide) ?_
    refine WO.ldW rfl rfl hot0 rfl rfl hot0.lt (limLe_self _) ?_
    refine WO.mv rfl ?_
    obtain ⟨x36,e37,h⟩:=bindS h
    refine WO.ixS rfl rfl hot0c0.slv (at?_lt e37) rfl ?_
    refine WO.fldS rfl rfl (SlV.ptr hot0c0.slv (at?_nat e37)) rfl rfl rfl (by decide) ?_
    refine WO.ldF rfl hot0c0.ro (fun _ hi=>hi) (at?_get e37) rfl rfl (limLe_self _) ?_
    refine WO.mv rfl ?_
    refine WO.nck rfl hot0.isp ?_
    refine WO.fldS (j:=0) (q:=0) rfl hot0.at0 hot0.ptr rfl rfl rfl (by decide) ?_
    refine WO.ldW rfl rfl hot0 rfl rfl hot0.lt (limLe_self _) ?_
    refine WO.mv rfl ?_
    obtain ⟨x38,e39,h⟩:=bindS h
    refine WO.ixS rfl rfl hot0c0.slv (at?_lt e39) rfl ?_
    refine WO.fldS rfl rfl (SlV.ptr hot0c0.slv (at?_nat e39)) rfl rfl rfl (by decide) ?_
    refine WO.ldF rfl hot0c0.ro (fun _ hi=>hi) (at?_get e39) rfl rfl (limLe_self _) ?_
    refine WO.bi rfl rfl rfl ?_
    refine WO.min3 rfl rfl rfl rfl rfl ?_
    refine WO.as rfl (WO.ni (tN (WC.sq (WC.rg (WO.mv rfl ?_)))))
    refine WO.nck rfl hot0.isp ?_
    refine WO.fldS (j:=0) (q:=0) rfl hot0.at0 hot0.ptr rfl rfl rfl (by decide) ?_
    refine WO.ldW rfl rfl hot0 rfl rfl hot0.lt rfl ?_
    refine WO.mv rfl ?_
    obtain ⟨x40,e41,h⟩:=bindS h
    refine WO.ixS rfl rfl hot0c0.slv (at?_lt e41) rfl ?_
    refine WO.fldS rfl rfl (SlV.ptr hot0c0.slv (at?_nat e41)) rfl rfl rfl (by decide) ?_
    refine WO.ldF rfl hot0c0.ro (fun _ hi=>hi) (at?_get e41) rfl rfl rfl ?_
    refine WO.mv rfl ?_
    refine WO.bi rfl rfl rfl ?_
    obtain ⟨x42,e43,h⟩:=bindS h
    refine WO.ixS rfl rfl hot0c0.slv (at?_lt e43) rfl ?_
    refine WO.fldS rfl rfl (SlV.ptr hot0c0.slv (at?_nat e43)) rfl rfl rfl (by decide) ?_
    refine WO.stF (q:=1) (u':=(x42.1,(wrapA .i64 (x40.2.1 - (minI (minI ((x19.1,x19.2.1,x19.2.2)).2.2 x36.2.1) (wrapA .i64 (100 - x38.2.1))))),x42.2.2)) rfl rfl hot0c0 (at?_get e43) rfl (by decide) rfl rfl (fun S44 c45 hot0c0=>?_)
    have hM:=hM.to c45
    have hot0:=hot0.to c45
    have ho4:=ho4.to c45
    have hot0c1:=hot0c1.to c45
    refine WO.ni (tN (WC.sq (WC.rg (WO.mv rfl ?_))))
    refine WO.nck rfl hot0.isp ?_
    refine WO.fldS (j:=0) (q:=0) rfl hot0.at0 hot0.ptr rfl rfl rfl (by decide) ?_
    refine WO.ldW rfl rfl hot0 rfl rfl hot0.lt rfl ?_
    refine WO.mv rfl ?_
    obtain ⟨x46,e47,h⟩:=bindS h
    refine WO.ixS rfl rfl hot0c0.slv (at?_lt e47) rfl ?_
    refine WO.fldS rfl rfl (SlV.ptr hot0c0.slv (at?_nat e47)) rfl rfl rfl (by decide) ?_
    refine WO.ldF rfl hot0c0.ro (fun _ hi=>hi) (at?_get e47) rfl rfl rfl ?_
    refine WO.mv rfl ?_
    refine WO.bi rfl rfl rfl ?_
    obtain ⟨x48,e49,h⟩:=bindS h
    refine WO.ixS rfl rfl hot0c0.slv (at?_lt e49) rfl ?_
    refine WO.fldS rfl rfl (SlV.ptr hot0c0.slv (at?_nat e49)) rfl rfl rfl (by decide) ?_
    refine WO.stF (q:=1) (u':=(x48.1,(wrapA .i64 (x46.2.1 + (minI (minI ((x19.1,x19.2.1,x19.2.2)).2.2 x36.2.1) (wrapA .i64 (100 - x38.2.1))))),x48.2.2)) rfl rfl hot0c0 (at?_get e49) rfl (by decide) rfl rfl (fun S50 c51 hot0c0=>?_)
    have hM:=hM.to c51
    have hot0:=hot0.to c51
    have ho4:=ho4.to c51
    have hot0c1:=hot0c1.to c51
    refine WO.ni (tN (WC.sq (WC.rg (WO.mv rfl (WO.mv rfl ?_)))))
    refine WO.bi rfl rfl rfl ?_
    refine WO.as rfl (WO.ni (tN (WC.sq (WC.rg (WO.mv rfl ?_)))))
    refine WO.nck rfl hot0.isp ?_
    refine WO.fldS (j:=0) (q:=0) rfl hot0.at0 hot0.ptr rfl rfl rfl (by decide) ?_
    refine WO.ldW rfl rfl hot0 rfl rfl hot0.lt rfl ?_
    refine WO.mv rfl ?_
    obtain ⟨x52,e53,h⟩:=bindS h
    refine WO.ixS rfl rfl hot0c1.slv (at?_lt e53) rfl ?_
    refine WO.fldS rfl rfl (SlV.ptr hot0c1.slv (at?_nat e53)) rfl rfl rfl (by decide) ?_
    refine WO.ldF rfl hot0c1.ro (fun _ hi=>hi) (at?_get e53) rfl rfl rfl ?_
    refine WO.mv rfl ?_
    refine WO.bi rfl rfl rfl ?_
    obtain ⟨x54,e55,h⟩:=bindS h
    refine WO.ixS rfl rfl hot0c1.slv (at?_lt e55) rfl ?_
    refine WO.fldS rfl rfl (SlV.ptr hot0c1.slv (at?_nat e55)) rfl rfl rfl (by decide) ?_
    refine WO.stF (q:=2) (u':=(x54.1,x54.2.1,(wrapA .i64 (x52.2.2 - (minI (minI ((x19.1,x19.2.1,x19.2.2)).2.2 x36.2.1) (wrapA .i64 (100 - x38.2.1))))))) rfl rfl hot0c1 (at?_get e55) rfl (by decide) rfl rfl (fun S56 c57 hot0c1=>?_)
    have hM:=hM.to c57
    have hot0:=hot0.to c57
    have ho4:=ho4.to c57
    have hot0c0:=hot0c0.to c57
    refine WO.ni (tN (WC.sq (WC.rg (WO.mv rfl ?_))))
    refine WO.nck rfl hot0.isp ?_
    refine WO.fldS (j:=0) (q:=0) rfl hot0.at0 hot0.ptr rfl rfl rfl (by decide) ?_
    refine WO.ldW rfl rfl hot0 rfl rfl hot0.lt rfl ?_
    refine WO.mv rfl ?_
    obtain ⟨x58,e59,h⟩:=bindS h
    refine WO.ixS rfl rfl hot0c1.slv (at?_lt e59) rfl ?_
    refine WO.fldS rfl rfl (SlV.ptr hot0c1.slv (at?_nat e59)) rfl rfl rfl (by decide) ?_
    refine WO.ldF rfl hot0c1.ro (fun _ hi=>hi) (at?_get e59) rfl rfl rfl ?_
    refine WO.bi rfl rfl rfl ?_
    refine WO.ni (tN ?_)
    refine WC.cond rfl (fun q60=>?_) (fun q60=>?_)
    ·have h:=iteT q60 h
     refine WC.rg (WO.mv rfl (WO.mv rfl ?_))
     refine WO.nck rfl hot0.isp ?_
     refine WO.fldS (j:=0) (q:=0) rfl hot0.at0 hot0.ptr rfl rfl rfl (by decide) ?_
     refine WO.ldW rfl rfl hot0 rfl rfl hot0.lt rfl ?_
     refine WO.mv rfl (WO.mv rfl ?_)
     refine WO.bi rfl rfl rfl ?_
     obtain ⟨r61,e62,h⟩:=bindS h
     refine WO.callO (S:=S56) hot0c1 (delB?_ne e62) rfl rfl (fun bq hI=>F82_ok e62 S56.le hI) Lay.flat_fl (fun v63 S64 c65 ho66=>?_)
     have hM:=hM.to c65
     have hot0:=hot0.to c65
     have ho4:=ho4.to c65
     have hot0c0:=hot0c0.to c65
     refine WO.nck rfl hot0.isp ?_
     refine WO.fldS (j:=0) (q:=0) rfl hot0.at0 hot0.ptr rfl rfl rfl (by decide) ?_
     refine WO.stW (S:=S64) (r:=[v15,v63]) rfl rfl rfl rfl hot0 rfl rfl rfl rfl rfl (fun S67 c68 hot0=>?_)
     have hM:=hM.to c68
     have ho4:=ho4.to c68
     have hot0c0:=hot0c0.to c68
     have ho66:=ho66.to c68
     refine WO.ni (bN (tN (WC.rg (WO.mv rfl ?_))))
     refine WO.bi rfl rfl rfl ?_
     refine WO.as rfl (WO.ni (tN ?_))
     obtain rfl:=someI h
     exact ⟨_,rfl,⟨S67,v15,v63,rfl,rfl,(Kc (Kc (Kc (Kc (Kc (Cov.nil _)))))),hM,hot0,ho4,hot0c0,ho66⟩⟩
    ·have h:=iteF q60 h
     refine WC.skip (bN (tN (WC.rg (WO.mv rfl ?_))))
     refine WO.bi rfl rfl rfl ?_
     refine WO.as rfl (WO.ni (tN ?_))
     obtain rfl:=someI h
     exact ⟨_,rfl,⟨S56,v15,v16,rfl,rfl,(Kc (Kc (Kc (Kc (Kc (Cov.nil _)))))),hM,hot0,ho4,hot0c0,hot0c1⟩⟩
  ·have h:=iteF q18 h
   refine WC.exit (tE (tE ?_))
   obtain rfl:=someI h
   exact ⟨_,rfl,rfl,⟨S14,v15,v16,rfl,rfl,(Kc (Kc (Kc (Kc (Cov.nil _))))),hM,hot0,ho4,hot0c0,hot0c1⟩⟩
 rintro _ _ _ _ ⟨rfl,⟨S71,v72,v73,rfl,rfl,hc74,hM,hot0,ho4,hot0c0,hot0c1⟩⟩
 refine bS (tN ?_)
 refine WC.cov hc74 ?_
 refine WC.sq (WC.rg (WO.mv rfl (WO.mv rfl (WO.do rfl rfl ?_))))
 refine WO.stBA (u':=(t1,b69.1)) rfl ho4.at0 rfl ho4 rfl rfl (fun S75 c76 ho4=>?_)
 have hM:=hM.to c76
 have hot0:=hot0.to c76
 have hot0c0:=hot0c0.to c76
 have hot0c1:=hot0c1.to c76
 refine WO.ni (tN (WC.ret ?_))
 have hcell77:=ho4
 obtain rfl:=someI h
 exact ⟨.inr rfl,_,_,(resK_b hcell77 (Cov.refl _) rfl rfl rfl),rfl,⟨S75,rfl,rfl,hM,v72,v73,rfl,hot0,hot0c0,hot0c1⟩⟩
open Go.Am
theorem F40.fn:E.fn 40 = some (fi 113 Tryd.f40 [5,3000023,3000028,3000030,2000055,2000060,2000064]):=rfl
theorem F40_ok {F:Nat} {fl:Nat} {S0:Cx fl} {r:((List UInt8) × Int) × Int × ((List ((List UInt8) × Int × Int)) × (List ((List UInt8) × (List UInt8) × Int)))} {t0:(List ((List UInt8) × Int × Int)) × (List ((List UInt8) × (List UInt8) × Int))} {t1:Int × Int × (List UInt8) × (List UInt8)} {bt0:Nat} {vt0_0:SV} {vt0_1:SV} (h:F40 F t0 t1 = some r) (hot0:Bw S0 2 (.ptr bt0 0) [vt0_0,vt0_1]) (hot0_0:Ow Y114 S0 3 vt0_0 t0.1) (hot0_1:Ow Y134 S0 4 vt0_1 t0.2):Ret E fl 40 [.sc (.ptr bt0 0),.agg [.int .i64 t1.1,.int .i64 t1.2.1,.str t1.2.2.1,.str t1.2.2.2]] S0.m S0.n (fun v m' n'=>∃ S':Cx fl,S'.m = m'/\S'.n = n'/\ChM S0 S'/\(∃ w197 w198:SV,v = .tup [.agg [.str r.1.1,.int .i64 r.1.2],.sc (.int .i64 r.2.1)]/\Bw S' 2 (.ptr bt0 0) [w197,w198]/\Ow Y114 S' 3 w197 r.2.2.1/\Ow Y134 S' 4 w198 r.2.2.2)):=by
 unfold F40 at h
 refine Ret.walk F40.fn ?_
 have hM:=ChM.refl S0
 refine WC.sq (WC.rg ?_)
 refine WO.bxS (A:=Y35) (S:=S0) (u:=(t1.1,t1.2.1,t1.2.2.1,t1.2.2.2)) 5 rfl rfl rfl rfl (fun v1 S2 c3 ho4=>?_)
 have hot0_0:=hot0_0.to c3
 have hot0_1:=hot0_1.to c3
 have hot0:=hot0.to c3
 have hM:=hM.to c3
 refine WO.alS (A:=Y37) (S:=S2) (z0:=(([],0):(List UInt8) × Int)) 6 rfl rfl rfl (fun v5 S6 c7 ho8=>?_)
 have hot0_0:=hot0_0.to c7
 have hot0_1:=hot0_1.to c7
 have hot0:=hot0.to c7
 have hM:=hM.to c7
 have ho4:=ho4.to c7
 refine WO.as rfl (WO.ni (tN (WC.sq (WC.rg (WO.do rfl rfl ?_)))))
 refine WO.alS (A:=Y37) (S:=S6) (z0:=(([],0):(List UInt8) × Int)) 7 rfl rfl rfl (fun v9 S10 c11 ho12=>?_)
 have hot0_0:=hot0_0.to c11
 have hot0_1:=hot0_1.to c11
 have hot0:=hot0.to c11
 have hM:=hM.to c11
 have ho4:=ho4.to c11
 have ho8:=ho8.to c11
 refine WO.stBA (u':=(([],0):(List UInt8) × Int)) rfl ho12.at0 rfl ho12 rfl rfl (fun S13 c14 ho12=>?_)
 have hot0_0:=hot0_0.to c14
 have hot0_1:=hot0_1.to c14
 have hot0:=hot0.to c14
 have hM:=hM.to c14
 have ho4:=ho4.to c14
 have ho8:=ho8.to c14
 refine WO.ni (tN (WC.sq (WC.sq (WC.rg ?_))))
 refine WO.fldS (j:=0) (q:=0) rfl ho4.at0 ho4.ptr rfl rfl rfl (by decide) ?_
 refine WO.ldB (j:=0) (q:=0) rfl rfl ho4 rfl rfl rfl ?_
 refine WO.ni (tN (WC.block (WC.sq (WC.rg ?_))))
 refine WO.bi rfl rfl rfl ?_
 refine WO.as rfl (WO.ni (tN ?_))
 refine WC.cond rfl (fun q15=>?_) (fun q15=>?_)
 ·have h:=iteT q15 h
  refine WC.sq ?_
  refine WC.drawN rfl rfl ?_
  have ho4z:=ho4.lt
  refine WO.mv rfl (WO.mv rfl ?_)
  obtain ⟨r16,e17,h⟩:=bindS h
  refine WO.callF (S:=S13) 8 rfl rfl (F57_ok e17 hot0.pw hot0_0.vw hot0_1.vw) Lay.flat_fl (fun v18 S20 c21 ho19=>?_)
  have hot0_0:=hot0_0.to c21
  have hot0_1:=hot0_1.to c21
  have hot0:=hot0.to c21
  have hM:=hM.to c21
  have ho4:=ho4.to c21
  have ho8:=ho8.to c21
  refine WO.fldS (j:=0) (q:=0) rfl ho4.at0 ho4.ptr rfl rfl rfl (by decide) ?_
  refine WO.ldBz (j:=0) (q:=1) rfl rfl ho4 rfl rfl ho4z (limLe_self _) ?_
  obtain ⟨r22,e23,h⟩:=bindS h
  refine WO.callE (S:=S20) rfl rfl (F56_ok e23 ho19.vw) (fun S24 c25=>?_)
  have hot0_0:=hot0_0.to c25
  have hot0_1:=hot0_1.to c25
  have hot0:=hot0.to c25
  have hM:=hM.to c25
  have ho8:=ho8.to c25
  refine WO.do rfl rfl (WO.do rfl rfl ?_)
  obtain ⟨r26,e27,h⟩:=bindS h
  refine WO.callG (S:=S24) [(2,2),(3,3),(4,4)] [(2,2),(3,3),(4,4)] rfl rfl (F55_ok (S0:=S24.mp [(2,2),(3,3),(4,4)]) e27 (hot0.mp rfl) (hot0_0.mp rfl) (hot0_1.mp rfl)) (fun _ S32 S33 hb hR=>?_)
  obtain ⟨v28,v30,rfl,hR0,hR1,hR2⟩:=hR
  have c34:=Cx.mg_ch S24 3 2
  have hM:=hM.to c34
  have ho8:=ho8.to c34
  have c35:=Cx.mg_ch (S24.mg 3 2) 4 2
  have hM:=hM.to c35
  have ho8:=ho8.to c35
  have c36:Ch 2 ((S24.mg 3 2).mg 4 2) S33:=hb.ch [3,4] 2
  have hM:=hM.to c36
  have ho8:=ho8.to c36
  have hot0:=hR0.bk hb rfl
  have ho29:=hR1.bkF hb rfl Lay.flat_fl
  have ho31:=hR2.bkF hb rfl Lay.flat_fl
  refine WO.do rfl rfl (WO.do rfl rfl ?_)
  refine WO.stBA (u':=(r26.1.1,r26.1.2)) rfl ho8.at0 rfl ho8 rfl rfl (fun S37 c38 ho8=>?_)
  have hot0:=hot0.to c38
  have hM:=hM.to c38
  have ho29:=ho29.to c38
  have ho31:=ho31.to c38
  refine WO.as rfl (WO.ni (tN (WC.ret (bR (tR ?_)))))
  have hcell39:=ho8
  obtain rfl:=someI h
  exact ⟨.inr rfl,_,_,(resK_b hcell39 (Cov.refl _) rfl rfl (resK_t (Cov.refl _) rfl rfl)),rfl,⟨S37,rfl,rfl,hM,v28,v30,rfl,hot0,ho29,ho31⟩⟩
 ·have h:=iteF q15 h
  refine WC.sq (WC.rg ?_)
  refine WO.bi rfl rfl rfl ?_
  refine WO.as rfl (WO.ni (tN ?_))
  refine WC.cond rfl (fun q40=>?_) (fun q40=>?_)
  ·have h:=iteT q40 h
   refine WC.sq (WC.rg (WO.as rfl (WO.ni (tN (WC.sq (WC.sq (WC.rg (WO.mv rfl ?_))))))))
   refine WO.nck rfl hot0.isp ?_
   refine WO.fldS (j:=0) (q:=0) rfl hot0.at0 hot0.ptr rfl rfl rfl (by decide) ?_
   refine WO.ldW rfl rfl hot0 rfl rfl hot0.lt rfl ?_
   refine WO.lenS rfl hot0_0.slv rfl ?_
   refine WO.mv rfl (WO.ni (tN (WC.block ?_)))
   obtain ⟨b69,e70,h⟩:=bindS h
   refine WC.loopD e70 (fun s41 l' m' n'=>∃ S43:Cx fl,∃ v44:SV,S43.m = m'/\S43.n = n'/\Cov l' [(0,.sc ((.ptr bt0 0))),(4,.sc v5),(7,.sc v44),(33,.sc vt0_0),(34,.sc (.int .i64 ((t0.1.length:Int)))),(35,.sc (.int .i64 s41.2))]/\ChM S0 S43/\Bw S43 2 (.ptr bt0 0) [vt0_0,vt0_1]/\Ow Y114 S43 3 vt0_0 t0.1/\Ow Y134 S43 4 vt0_1 t0.2/\Bk Y37 S43 6 v5 ((([],0):(List UInt8) × Int))/\Ow Y3 S43 11 v44 s41.1) (fun b e l' m' n'=>e = .exit 1/\∃ S45:Cx fl,∃ v46:SV,S45.m = m'/\S45.n = n'/\Cov l' [(0,.sc ((.ptr bt0 0))),(4,.sc v5),(7,.sc v46)]/\ChM S0 S45/\Bw S45 2 (.ptr bt0 0) [vt0_0,vt0_1]/\Ow Y114 S45 3 vt0_0 t0.1/\Ow Y134 S45 4 vt0_1 t0.2/\Bk Y37 S45 6 v5 ((([],0):(List UInt8) × Int))/\Ow Y3 S45 11 v46 b) (by exact ⟨S13,.nils,rfl,rfl,(Kc (Kc (Kc (Kc (Kc (Kc (Cov.nil _))))))),hM,hot0,hot0_0,hot0_1,ho8,Ow.nil⟩) ?_ ?_
   ·clear h
    rintro s41 q _ _ _ ⟨S47,v48,rfl,rfl,hc49,hM,hot0,hot0_0,hot0_1,ho8,ho7⟩ h
    unfold F40_l0 at h
    refine WC.cov hc49 ?_
    refine WC.sq (WC.rg ?_)
    refine WO.bi rfl rfl rfl ?_
    refine WO.ni (tN (WC.sq ?_))
    refine WC.cond rfl (fun q50=>?_) (fun q50=>?_)
    ·have h:=iteT q50 h
     refine WC.skip (tN (WC.sq (WC.block (WC.sq (WC.rg ?_)))))
     obtain ⟨x51,e52,h⟩:=bindS h
     refine WO.ixS rfl rfl hot0_0.slv (at?_lt e52) rfl ?_
     refine WO.ldA rfl hot0_0.ro (fun _ hi=>hi) (at?_get e52) rfl rfl ?_
     refine WO.alS (A:=Y114) (S:=S47) (z0:=(([],0,0):(List UInt8) × Int × Int)) 12 rfl rfl rfl (fun v53 S54 c55 ho56=>?_)
     have hM:=hM.to c55
     have hot0:=hot0.to c55
     have hot0_0:=hot0_0.to c55
     have hot0_1:=hot0_1.to c55
     have ho8:=ho8.to c55
     have ho7:=ho7.to c55
     refine WO.stBA (u':=(x51.1,x51.2.1,x51.2.2)) rfl ho56.at0 rfl ho56 rfl rfl (fun S57 c58 ho56=>?_)
     have hM:=hM.to c58
     have hot0:=hot0.to c58
     have hot0_0:=hot0_0.to c58
     have hot0_1:=hot0_1.to c58
     have ho8:=ho8.to c58
     have ho7:=ho7.to c58
     refine WO.ni (tN (WC.rg (WO.mv rfl ?_)))
     refine WO.fldS (j:=0) (q:=0) rfl ho56.at0 ho56.ptr rfl rfl rfl (by decide) ?_
     refine WO.ldB (j:=0) (q:=2) rfl rfl ho56 rfl rfl rfl ?_
     refine WO.bsS (A:=Y3) (S:=S57) (M:=[((x51.1,x51.2.1,x51.2.2)).2.2]) (cs:=[.int .i64 (((x51.1,x51.2.1,x51.2.2)).2.2)]) 13 rfl rfl rfl ⟨[.int .i64 (((x51.1,x51.2.1,x51.2.2)).2.2)],_,rfl,rfl,rfl⟩ rfl (fun v59 S60 c61 ho62=>?_)
     have hM:=hM.to c61
     have hot0:=hot0.to c61
     have hot0_0:=hot0_0.to c61
     have hot0_1:=hot0_1.to c61
     have ho8:=ho8.to c61
     have ho7:=ho7.to c61
     obtain ⟨L63,e64,h⟩:=bindS h
     refine WO.appS rfl rfl ho7 ho62.ro e64 rfl rfl (fun v65 S66 c67 ho68=>?_)
     have hM:=hM.to c67
     have hot0:=hot0.to c67
     have hot0_0:=hot0_0.to c67
     have hot0_1:=hot0_1.to c67
     have ho8:=ho8.to c67
     refine WO.as rfl (WO.ni (bN (tN (WC.rg ?_))))
     refine WO.bi rfl rfl rfl ?_
     refine WO.mv rfl (WO.ni (tN ?_))
     obtain rfl:=someI h
     exact ⟨_,rfl,⟨S66,v65,rfl,rfl,(Kc (Kc (Kc (Kc (Kc (Kc (Cov.nil _))))))),hM,hot0,hot0_0,hot0_1,ho8,ho68⟩⟩
    ·have h:=iteF q50 h
     refine WC.exit (tE (tE ?_))
     obtain rfl:=someI h
     exact ⟨_,rfl,rfl,⟨S47,v48,rfl,rfl,(Kc (Kc (Kc (Cov.nil _)))),hM,hot0,hot0_0,hot0_1,ho8,ho7⟩⟩
   rintro _ _ _ _ ⟨rfl,⟨S71,v72,rfl,rfl,hc73,hM,hot0,hot0_0,hot0_1,ho8,ho7⟩⟩
   refine bS (tN ?_)
   refine WC.cov hc73 ?_
   refine WC.sq (WC.rg (WO.mv rfl (WO.mv rfl ?_)))
   obtain ⟨r74,e75,h⟩:=bindS h
   refine WO.callF (S:=S71) 14 rfl rfl (F57_ok e75 hot0.pw hot0_0.vw hot0_1.vw) Lay.flat_fl (fun v76 S78 c79 ho77=>?_)
   have hM:=hM.to c79
   have hot0:=hot0.to c79
   have hot0_0:=hot0_0.to c79
   have hot0_1:=hot0_1.to c79
   have ho8:=ho8.to c79
   have ho7:=ho7.to c79
   refine WO.mv rfl ?_
   obtain ⟨r80,e81,h⟩:=bindS h
   refine WO.callE (S:=S78) rfl rfl (F58_ok e81 ho77.vw ho7.vw) (fun S82 c83=>?_)
   have hM:=hM.to c83
   have hot0:=hot0.to c83
   have hot0_0:=hot0_0.to c83
   have hot0_1:=hot0_1.to c83
   have ho8:=ho8.to c83
   refine WO.do rfl rfl (WO.do rfl rfl ?_)
   obtain ⟨r84,e85,h⟩:=bindS h
   refine WO.callG (S:=S82) [(2,2),(3,3),(4,4)] [(2,2),(3,3),(4,4)] rfl rfl (F55_ok (S0:=S82.mp [(2,2),(3,3),(4,4)]) e85 (hot0.mp rfl) (hot0_0.mp rfl) (hot0_1.mp rfl)) (fun _ S90 S91 hb hR=>?_)
   obtain ⟨v86,v88,rfl,hR0,hR1,hR2⟩:=hR
   have c92:=Cx.mg_ch S82 3 2
   have hM:=hM.to c92
   have ho8:=ho8.to c92
   have c93:=Cx.mg_ch (S82.mg 3 2) 4 2
   have hM:=hM.to c93
   have ho8:=ho8.to c93
   have c94:Ch 2 ((S82.mg 3 2).mg 4 2) S91:=hb.ch [3,4] 2
   have hM:=hM.to c94
   have ho8:=ho8.to c94
   have hot0:=hR0.bk hb rfl
   have ho87:=hR1.bkF hb rfl Lay.flat_fl
   have ho89:=hR2.bkF hb rfl Lay.flat_fl
   refine WO.do rfl rfl (WO.do rfl rfl ?_)
   refine WO.stBA (u':=(r84.1.1,r84.1.2)) rfl ho8.at0 rfl ho8 rfl rfl (fun S95 c96 ho8=>?_)
   have hM:=hM.to c96
   have hot0:=hot0.to c96
   have ho87:=ho87.to c96
   have ho89:=ho89.to c96
   refine WO.as rfl (WO.ni (tN (WC.ret (bR (tR ?_)))))
   have hcell97:=ho8
   obtain rfl:=someI h
   exact ⟨.inr rfl,_,_,(resK_b hcell97 (Cov.refl _) rfl rfl (resK_t (Cov.refl _) rfl rfl)),rfl,⟨S95,rfl,rfl,hM,v86,v88,rfl,hot0,ho87,ho89⟩⟩
  ·have h:=iteF q40 h
   refine WC.sq (WC.sq (WC.rg ?_))
   refine WO.bi rfl rfl rfl ?_
   refine WO.as rfl (WO.ni (tN ?_))
   obtain ⟨b102,e103,h⟩:=bindS h
   refine WC.mono (Q':=(fun b e l' m' n'=>e = .normal/\∃ S104:Cx fl,S104.m = m'/\S104.n = n'/\Cov l' [(0,.sc ((.ptr bt0 0))),(3,.sc v1),(4,.sc v5),(6,.sc v9),(55,.sc (.bool b))]/\ChM S0 S104/\Bw S104 2 (.ptr bt0 0) [vt0_0,vt0_1]/\Ow Y114 S104 3 vt0_0 t0.1/\Ow Y134 S104 4 vt0_1 t0.2/\Bk Y35 S104 5 v1 ((t1.1,t1.2.1,t1.2.2.1,t1.2.2.2))/\Bk Y37 S104 6 v5 ((([],0):(List UInt8) × Int))/\Bk Y37 S104 7 v9 ((([],0):(List UInt8) × Int))) b102) ?_ ?_
   ·have h:=e103
    dsimp only at h ⊢
    refine WC.cond rfl (fun q98=>?_) (fun q98=>?_)
    ·have h:=iteT q98 h
     refine WC.skip ?_
     obtain rfl:=someI h
     exact ⟨rfl,⟨S13,rfl,rfl,(Kc (Kc (Kc (Kc (Kc (Cov.nil _)))))),hM,hot0,hot0_0,hot0_1,ho4,ho8,ho12⟩⟩
    ·have h:=iteF q98 h
     refine WC.sq (WC.rg ?_)
     refine WO.bi rfl rfl rfl ?_
     refine WO.as rfl (WO.ni (tN ?_))
     refine WC.cond rfl (fun q99=>?_) (fun q99=>?_)
     ·have h:=iteT q99 h
      refine WC.skip ?_
      obtain rfl:=someI h
      exact ⟨rfl,⟨S13,rfl,rfl,(Kc (Kc (Kc (Kc (Kc (Cov.nil _)))))),hM,hot0,hot0_0,hot0_1,ho4,ho8,ho12⟩⟩
     ·have h:=iteF q99 h
      refine WC.sq (WC.rg ?_)
      refine WO.bi rfl rfl rfl ?_
      refine WO.as rfl (WO.ni (tN ?_))
      refine WC.cond rfl (fun q100=>?_) (fun q100=>?_)
      ·have h:=iteT q100 h
       refine WC.skip ?_
       obtain rfl:=someI h
       exact ⟨rfl,⟨S13,rfl,rfl,(Kc (Kc (Kc (Kc (Kc (Cov.nil _)))))),hM,hot0,hot0_0,hot0_1,ho4,ho8,ho12⟩⟩
      ·have h:=iteF q100 h
       refine WC.sq (WC.rg ?_)
       refine WO.bi rfl rfl rfl ?_
       refine WO.as rfl (WO.ni (tN ?_))
       refine WC.cond rfl (fun q101=>?_) (fun q101=>?_)
       ·have h:=iteT q101 h
        refine WC.skip ?_
        obtain rfl:=someI h
        exact ⟨rfl,⟨S13,rfl,rfl,(Kc (Kc (Kc (Kc (Kc (Cov.nil _)))))),hM,hot0,hot0_0,hot0_1,ho4,ho8,ho12⟩⟩
       ·have h:=iteF q101 h
        refine WC.rg ?_
        refine WO.bi rfl rfl rfl ?_
        refine WO.as rfl (WO.ni ?_)
        obtain rfl:=someI h
        exact ⟨rfl,⟨S13,rfl,rfl,(Kc (Kc (Kc (Kc (Kc (Cov.nil _)))))),hM,hot0,hot0_0,hot0_1,ho4,ho8,ho12⟩⟩
   dsimp only
   rintro _ _ _ _ ⟨rfl,⟨S105,rfl,rfl,hc106,hM,hot0,hot0_0,hot0_1,ho4,ho8,ho12⟩⟩
   refine tN ?_
   refine WC.cov hc106 ?_
   refine WC.cond rfl (fun q107=>?_) (fun q107=>?_)
   ·have h:=iteT q107 h
    refine WC.skip (bN (tN (WC.sq (WC.sq (WC.rg ?_)))))
    refine WO.fldS (j:=0) (q:=0) rfl ho4.at0 ho4.ptr rfl rfl rfl (by decide) ?_
    refine WO.ldB (j:=0) (q:=2) rfl rfl ho4 rfl rfl rfl ?_
    obtain ⟨r108,e109,h⟩:=bindS h
    refine WO.callE (S:=S105) rfl rfl (F59_ok e109) (fun S110 c111=>?_)
    have hM:=hM.to c111
    have hot0:=hot0.to c111
    have hot0_0:=hot0_0.to c111
    have hot0_1:=hot0_1.to c111
    have ho4:=ho4.to c111
    have ho8:=ho8.to c111
    have ho12:=ho12.to c111
    refine WO.do rfl rfl (WO.ni (tN ?_))
    refine WC.cond rfl (fun q112=>?_) (fun q112=>?_)
    ·have h:=iteT q112 h
     refine WC.sq (WC.rg ?_)
     refine WO.ldBA (j:=0) rfl ho12.at0 ho12 rfl rfl ?_
     refine WO.stBA (u':=((((([],0):(List UInt8) × Int)).1,((([],0):(List UInt8) × Int)).2):(List UInt8) × Int)) rfl ho8.at0 rfl ho8 rfl rfl (fun S113 c114 ho8=>?_)
     have hM:=hM.to c114
     have hot0:=hot0.to c114
     have hot0_0:=hot0_0.to c114
     have hot0_1:=hot0_1.to c114
     refine WO.as rfl (WO.ni (tN (WC.ret (tR ?_))))
     have hcell115:=ho8
     obtain rfl:=someI h
     exact ⟨.inr rfl,_,_,(resK_b hcell115 (Cov.refl _) rfl rfl (resK_t (Cov.refl _) rfl rfl)),rfl,⟨S113,rfl,rfl,hM,vt0_0,vt0_1,rfl,hot0,hot0_0,hot0_1⟩⟩
    ·have h:=iteF q112 h
     refine WC.skip (tN (WC.sq (WC.rg (WO.mv rfl ?_))))
     refine WO.fldS (j:=0) (q:=0) rfl ho4.at0 ho4.ptr rfl rfl rfl (by decide) ?_
     refine WO.ldB (j:=0) (q:=2) rfl rfl ho4 rfl rfl rfl ?_
     obtain ⟨r116,e117,h⟩:=bindS h
     refine WO.callE (S:=S110) rfl rfl (F60_ok e117 hot0.pw hot0_0.vw hot0_1.vw) (fun S118 c119=>?_)
     have hM:=hM.to c119
     have hot0:=hot0.to c119
     have hot0_0:=hot0_0.to c119
     have hot0_1:=hot0_1.to c119
     have ho4:=ho4.to c119
     have ho8:=ho8.to c119
     have ho12:=ho12.to c119
     refine WO.as rfl (WO.ni (tN (WC.sq (WC.sq (WC.rg ?_)))))
     refine WO.fldS (j:=0) (q:=0) rfl ho4.at0 ho4.ptr rfl rfl rfl (by decide) ?_
     refine WO.ldB (j:=0) (q:=0) rfl rfl ho4 rfl rfl rfl ?_
     refine WO.bi rfl rfl rfl ?_
     refine WO.ni (tN ?_)
     refine WC.cond rfl (fun q120=>?_) (fun q120=>?_)
     ·have h:=iteT q120 h
      refine WC.sq ?_
      obtain ⟨b121,rfl⟩:=ho12.isp
      obtain ⟨b122,rfl⟩:=ho4.isp
      refine WC.drawG [b121,b122] rfl rfl rfl (fun t ht=>rdB_in ht rfl (by simp [SV.blk])) ?_
      have ho4z:=ho4.lt
      have ho12z:=ho12.lt
      refine WOG.split 4 rfl ?_
      refine WO.ldBAz (j:=0) rfl ho12.at0 ho12 rfl ho12z (limLe_self _) ?_
      refine WO.mv rfl (WO.mv rfl ?_)
      refine WO.ldBAz (j:=0) rfl ho4.at0 ho4 rfl ho4z (limLe_self _) ?_
      refine WO.ni ?_
      obtain ⟨r123,e124,h⟩:=bindS h
      refine WOG.callG (S:=S118) [(2,2),(3,3),(4,4)] [(2,2),(3,3),(4,4)] ⟨ho12.apt rfl,ho4.apt rfl,trivial⟩ rfl rfl (F61_ok (S0:=S118.mp [(2,2),(3,3),(4,4)]) e124 (hot0.mp rfl) (hot0_0.mp rfl) (hot0_1.mp rfl)) (fun _ S129 S130 hb hR=>?_)
      obtain ⟨v125,v127,rfl,hR0,hR1,hR2⟩:=hR
      have c131:=Cx.mg_ch S118 3 2
      have hM:=hM.to c131
      have ho8:=ho8.to c131
      have c132:=Cx.mg_ch (S118.mg 3 2) 4 2
      have hM:=hM.to c132
      have ho8:=ho8.to c132
      have c133:Ch 2 ((S118.mg 3 2).mg 4 2) S130:=hb.ch [3,4] 2
      have hM:=hM.to c133
      have ho8:=ho8.to c133
      have hot0:=hR0.bk hb rfl
      have ho126:=hR1.bkF hb rfl Lay.flat_fl
      have ho128:=hR2.bkF hb rfl Lay.flat_fl
      refine WOG.split 2 rfl ?_
      refine WO.stBA (u':=((((([],0):(List UInt8) × Int)).1,((([],0):(List UInt8) × Int)).2):(List UInt8) × Int)) rfl ho8.at0 rfl ho8 rfl rfl (fun S134 c135 ho8=>?_)
      have hM:=hM.to c135
      have hot0:=hot0.to c135
      have ho126:=ho126.to c135
      have ho128:=ho128.to c135
      refine WO.as rfl (WO.ni ?_)
      refine WOG.nil ?_
      refine tN (WC.ret (tR ?_))
      have hcell136:=ho8
      obtain rfl:=someI h
      exact ⟨.inr rfl,_,_,(resK_b hcell136 (Cov.refl _) rfl rfl (resK_t (Cov.refl _) rfl rfl)),rfl,⟨S134,rfl,rfl,hM,v125,v127,rfl,hot0,ho126,ho128⟩⟩
     ·have h:=iteF q120 h
      refine WC.skip (tN (WC.sq (WC.sq (WC.rg (WO.mv rfl ?_)))))
      refine WO.bi rfl rfl rfl ?_
      refine WO.ni (tN ?_)
      refine WC.cond rfl (fun q137=>?_) (fun q137=>?_)
      ·have h:=iteT q137 h
       refine WC.sq (WC.rg ?_)
       refine WO.ldBA (j:=0) rfl ho12.at0 ho12 rfl rfl ?_
       refine WO.stBA (u':=((((([],0):(List UInt8) × Int)).1,((([],0):(List UInt8) × Int)).2):(List UInt8) × Int)) rfl ho8.at0 rfl ho8 rfl rfl (fun S138 c139 ho8=>?_)
       have hM:=hM.to c139
       have hot0:=hot0.to c139
       have hot0_0:=hot0_0.to c139
       have hot0_1:=hot0_1.to c139
       refine WO.as rfl (WO.ni (tN (WC.ret (tR ?_))))
       have hcell140:=ho8
       obtain rfl:=someI h
       exact ⟨.inr rfl,_,_,(resK_b hcell140 (Cov.refl _) rfl rfl (resK_t (Cov.refl _) rfl rfl)),rfl,⟨S138,rfl,rfl,hM,vt0_0,vt0_1,rfl,hot0,hot0_0,hot0_1⟩⟩
      ·have h:=iteF q137 h
       refine WC.skip (tN (WC.sq (WC.sq (WC.rg ?_))))
       refine WO.fldS (j:=0) (q:=0) rfl ho4.at0 ho4.ptr rfl rfl rfl (by decide) ?_
       refine WO.ldB (j:=0) (q:=0) rfl rfl ho4 rfl rfl rfl ?_
       refine WO.ni (tN (WC.block (WC.sq (WC.rg ?_))))
       refine WO.bi rfl rfl rfl ?_
       refine WO.as rfl (WO.ni (tN ?_))
       refine WC.cond rfl (fun q141=>?_) (fun q141=>?_)
       ·have h:=iteT q141 h
        refine WC.sq ?_
        obtain ⟨b142,rfl⟩:=ho12.isp
        refine WC.drawG [b142] rfl rfl rfl (fun t ht=>rdB_in ht rfl (by simp [SV.blk])) ?_
        have ho12z:=ho12.lt
        refine WOG.split 3 rfl ?_
        refine WO.ldBAz (j:=0) rfl ho12.at0 ho12 rfl ho12z (limLe_self _) ?_
        refine WO.mv rfl (WO.mv rfl (WO.ni ?_))
        obtain ⟨r143,e144,h⟩:=bindS h
        refine WOG.callG (S:=S118) [(2,2),(3,3),(4,4)] [(2,2),(3,3),(4,4)] ⟨ho12.apt rfl,trivial⟩ rfl rfl (F62_ok (S0:=S118.mp [(2,2),(3,3),(4,4)]) e144 (hot0.mp rfl) (hot0_0.mp rfl) (hot0_1.mp rfl)) (fun _ S149 S150 hb hR=>?_)
        obtain ⟨v145,v147,rfl,hR0,hR1,hR2⟩:=hR
        have c151:=Cx.mg_ch S118 3 2
        have hM:=hM.to c151
        have ho8:=ho8.to c151
        have c152:=Cx.mg_ch (S118.mg 3 2) 4 2
        have hM:=hM.to c152
        have ho8:=ho8.to c152
        have c153:Ch 2 ((S118.mg 3 2).mg 4 2) S150:=hb.ch [3,4] 2
        have hM:=hM.to c153
        have ho8:=ho8.to c153
        have hot0:=hR0.bk hb rfl
        have ho146:=hR1.bkF hb rfl Lay.flat_fl
        have ho148:=hR2.bkF hb rfl Lay.flat_fl
        refine WOG.split 2 rfl ?_
        refine WO.stBA (u':=((((([],0):(List UInt8) × Int)).1,((([],0):(List UInt8) × Int)).2):(List UInt8) × Int)) rfl ho8.at0 rfl ho8 rfl rfl (fun S154 c155 ho8=>?_)
        have hM:=hM.to c155
        have hot0:=hot0.to c155
        have ho146:=ho146.to c155
        have ho148:=ho148.to c155
        refine WO.as rfl (WO.ni ?_)
        refine WOG.nil ?_
        refine tN (WC.ret (bR (tR ?_)))
        have hcell156:=ho8
        obtain rfl:=someI h
        exact ⟨.inr rfl,_,_,(resK_b hcell156 (Cov.refl _) rfl rfl (resK_t (Cov.refl _) rfl rfl)),rfl,⟨S154,rfl,rfl,hM,v145,v147,rfl,hot0,ho146,ho148⟩⟩
       ·have h:=iteF q141 h
        refine WC.sq (WC.rg ?_)
        refine WO.bi rfl rfl rfl ?_
        refine WO.as rfl (WO.ni (tN ?_))
        refine WC.cond rfl (fun q157=>?_) (fun q157=>?_)
        ·have h:=iteT q157 h
         refine WC.sq ?_
         obtain ⟨b158,rfl⟩:=ho12.isp
         obtain ⟨b159,rfl⟩:=ho4.isp
         refine WC.drawG [b158,b159] rfl rfl rfl (fun t ht=>rdB_in ht rfl (by simp [SV.blk])) ?_
         have ho4z:=ho4.lt
         have ho12z:=ho12.lt
         refine WOG.split 4 rfl ?_
         refine WO.ldBAz (j:=0) rfl ho12.at0 ho12 rfl ho12z (limLe_self _) ?_
         refine WO.mv rfl (WO.mv rfl ?_)
         refine WO.ldBAz (j:=0) rfl ho4.at0 ho4 rfl ho4z (limLe_self _) ?_
         refine WO.ni ?_
         obtain ⟨r160,e161,h⟩:=bindS h
         refine WOG.callG (S:=S118) [(2,2),(3,3),(4,4)] [(2,2),(3,3),(4,4)] ⟨ho12.apt rfl,ho4.apt rfl,trivial⟩ rfl rfl (F63_ok (S0:=S118.mp [(2,2),(3,3),(4,4)]) e161 (hot0.mp rfl) (hot0_0.mp rfl) (hot0_1.mp rfl)) (fun _ S166 S167 hb hR=>?_)
         obtain ⟨v162,v164,rfl,hR0,hR1,hR2⟩:=hR
         have c168:=Cx.mg_ch S118 3 2
         have hM:=hM.to c168
         have ho8:=ho8.to c168
         have c169:=Cx.mg_ch (S118.mg 3 2) 4 2
         have hM:=hM.to c169
         have ho8:=ho8.to c169
         have c170:Ch 2 ((S118.mg 3 2).mg 4 2) S167:=hb.ch [3,4] 2
         have hM:=hM.to c170
         have ho8:=ho8.to c170
         have hot0:=hR0.bk hb rfl
         have ho163:=hR1.bkF hb rfl Lay.flat_fl
         have ho165:=hR2.bkF hb rfl Lay.flat_fl
         refine WOG.split 2 rfl ?_
         refine WO.stBA (u':=((((([],0):(List UInt8) × Int)).1,((([],0):(List UInt8) × Int)).2):(List UInt8) × Int)) rfl ho8.at0 rfl ho8 rfl rfl (fun S171 c172 ho8=>?_)
         have hM:=hM.to c172
         have hot0:=hot0.to c172
         have ho163:=ho163.to c172
         have ho165:=ho165.to c172
         refine WO.as rfl (WO.ni ?_)
         refine WOG.nil ?_
         refine tN (WC.ret (bR (tR ?_)))
         have hcell173:=ho8
         obtain rfl:=someI h
         exact ⟨.inr rfl,_,_,(resK_b hcell173 (Cov.refl _) rfl rfl (resK_t (Cov.refl _) rfl rfl)),rfl,⟨S171,rfl,rfl,hM,v162,v164,rfl,hot0,ho163,ho165⟩⟩
        ·have h:=iteF q157 h
         refine WC.sq (WC.rg ?_)
         refine WO.bi rfl rfl rfl ?_
         refine WO.as rfl (WO.ni (tN ?_))
         refine WC.cond rfl (fun q174=>?_) (fun q174=>?_)
         ·have h:=iteT q174 h
          refine WC.sq (WC.rg (WO.mv rfl ?_))
          refine WO.fldS (j:=0) (q:=0) rfl ho4.at0 ho4.ptr rfl rfl rfl (by decide) ?_
          refine WO.ldB (j:=0) (q:=2) rfl rfl ho4 rfl rfl rfl ?_
          obtain ⟨r175,e176,h⟩:=bindS h
          refine WO.callG (S:=S118) [(2,2),(3,3),(4,4)] [(2,2),(3,3),(4,4)] rfl rfl (F64_ok (S0:=S118.mp [(2,2),(3,3),(4,4)]) e176 (hot0.mp rfl) (hot0_0.mp rfl) (hot0_1.mp rfl)) (fun _ S181 S182 hb hR=>?_)
          obtain ⟨v177,v179,rfl,hR0,hR1,hR2⟩:=hR
          have c183:=Cx.mg_ch S118 3 2
          have hM:=hM.to c183
          have ho8:=ho8.to c183
          have c184:=Cx.mg_ch (S118.mg 3 2) 4 2
          have hM:=hM.to c184
          have ho8:=ho8.to c184
          have c185:Ch 2 ((S118.mg 3 2).mg 4 2) S182:=hb.ch [3,4] 2
          have hM:=hM.to c185
          have ho8:=ho8.to c185
          have hot0:=hR0.bk hb rfl
          have ho178:=hR1.bkF hb rfl Lay.flat_fl
          have ho180:=hR2.bkF hb rfl Lay.flat_fl
          refine WO.stBA (u':=(r175.1.1,r175.1.2)) rfl ho8.at0 rfl ho8 rfl rfl (fun S186 c187 ho8=>?_)
          have hM:=hM.to c187
          have hot0:=hot0.to c187
          have ho178:=ho178.to c187
          have ho180:=ho180.to c187
          refine WO.as rfl (WO.ni (tN (WC.ret (bR (tR ?_)))))
          have hcell188:=ho8
          obtain rfl:=someI h
          exact ⟨.inr rfl,_,_,(resK_b hcell188 (Cov.refl _) rfl rfl (resK_t (Cov.refl _) rfl rfl)),rfl,⟨S186,rfl,rfl,hM,v177,v179,rfl,hot0,ho178,ho180⟩⟩
         ·have h:=iteF q174 h
          refine WC.skip (bN (tN (WC.sq ?_)))
          refine WC.drawN rfl rfl ?_
          have hot0z:=hot0.lt
          have hot0_0z:=hot0_0.oz
          have ho4z:=ho4.lt
          refine WO.fldS (j:=0) (q:=0) rfl ho4.at0 ho4.ptr rfl rfl rfl (by decide) ?_
          refine WO.ldBz (j:=0) (q:=2) rfl rfl ho4 rfl rfl ho4z (limLe_self _) ?_
          refine WO.mv rfl ?_
          refine WO.nck rfl hot0.isp ?_
          refine WO.fldS (j:=0) (q:=0) rfl hot0.at0 hot0.ptr rfl rfl rfl (by decide) ?_
          refine WO.ldW rfl rfl hot0 rfl rfl hot0z (limLe_self _) ?_
          refine WO.mv rfl ?_
          obtain ⟨x189,e190,h⟩:=bindS h
          refine WO.ixS rfl rfl hot0_0.slv (at?_lt e190) rfl ?_
          refine WO.fldS rfl rfl (SlV.ptr hot0_0.slv (at?_nat e190)) rfl rfl rfl (by decide) ?_
          refine WO.ldF rfl hot0_0z (fun _ hi=>hi.1) (at?_get e190) rfl rfl (limLe_self _) ?_
          refine WO.do rfl rfl ?_
          refine WO.stBA (u':=(((t1.1,t1.2.1,t1.2.2.1,t1.2.2.2)).2.2.1,x189.2.2)) rfl ho8.at0 rfl ho8 rfl rfl (fun S191 c192 ho8=>?_)
          have hM:=hM.to c192
          have hot0:=hot0.to c192
          have hot0_0:=hot0_0.to c192
          have hot0_1:=hot0_1.to c192
          refine WO.as rfl (WO.ni (tN (WC.ret ?_)))
          have hcell193:=ho8
          obtain rfl:=someI h
          exact ⟨.inr rfl,_,_,(resK_b hcell193 (Cov.refl _) rfl rfl (resK_t (Cov.refl _) rfl rfl)),rfl,⟨S191,rfl,rfl,hM,vt0_0,vt0_1,rfl,hot0,hot0_0,hot0_1⟩⟩
   ·have h:=iteF q107 h
    refine WC.sq (WC.rg ?_)
    refine WO.ldBA (j:=0) rfl ho12.at0 ho12 rfl rfl ?_
    refine WO.stBA (u':=((((([],0):(List UInt8) × Int)).1,((([],0):(List UInt8) × Int)).2):(List UInt8) × Int)) rfl ho8.at0 rfl ho8 rfl rfl (fun S194 c195 ho8=>?_)
    have hM:=hM.to c195
    have hot0:=hot0.to c195
    have hot0_0:=hot0_0.to c195
    have hot0_1:=hot0_1.to c195
    refine WO.as rfl (WO.ni (tN (WC.ret (bR (tR ?_)))))
    have hcell196:=ho8
    obtain rfl:=someI h
    exact ⟨.inr rfl,_,_,(resK_b hcell196 (Cov.refl _) rfl rfl (resK_t (Cov.refl _) rfl rfl)),rfl,⟨S194,rfl,rfl,hM,vt0_0,vt0_1,rfl,hot0,hot0_0,hot0_1⟩⟩
open Go.Am
theorem F10.fn:E.fn 10 = some (fi 36 Tryd.f10 [1000007,2000040]):=rfl
theorem F10_ok {F:Nat} {fl:Nat} {S0:Cx fl} {r:((List ((List UInt8) × Int)) × (List Int))} {t0:List (Int × Int × (List UInt8) × (List UInt8))} {vt0:SV} (h:F10 F t0 = some r) (hot0:Rd Y35 S0 vt0 t0):Ret E fl 10 [.sc vt0] S0.m S0.n (fun v m' n'=>∃ S':Cx fl,S'.m = m'/\S'.n = n'/\ChM S0 S'/\(∃ w311 w312:SV,v = .agg [w311,w312]/\Ow Y37 S' 902 w311 r.1/\Ow Y24 S' 904 w312 r.2)):=by
 unfold F10 at h
 refine Ret.walk F10.fn ?_
 have hM:=ChM.refl S0
 refine WC.sq (WC.rg ?_)
 refine WO.alW (S:=S0) (cs:=[.nils,.nils]) 2 rfl rfl rfl (fun b1 S2 c3 ho4=>?_)
 have hot0:=hot0.to c3
 have hM:=hM.to c3
 refine WO.ni (tN (WC.sq (WC.rg ?_)))
 obtain ⟨r5,e6,h⟩:=bindS h
 refine WO.callG (S:=S2) [] [(904,3),(906,4),(902,5)] rfl rfl (F39_ok (S0:=S2.mp []) e6) (fun _ S8 S9 hb hR=>?_)
 obtain ⟨v7,rfl,hR⟩:=hR
 have c10:Ch 1 S2 S9:=hb.ch [] 1
 have hot0:=hot0.to c10
 have hM:=hM.to c10
 have ho4:=ho4.to c10
 cases hN:r5 with
 | none=>
  rw [hN] at h hR
  simp only at h hR
  subst hR
  refine WO.as rfl (WO.ni (tN (WC.sq (WC.rg ?_))))
  refine WO.alW (S:=S9) (cs:=[.nils,.nils]) 6 rfl rfl rfl (fun b18 S19 c20 ho21=>?_)
  have hot0:=hot0.to c20
  have hM:=hM.to c20
  have ho4:=ho4.to c20
  refine WO.ni (tN (WC.sq (WC.sq (WC.rg (WO.mv rfl ?_)))))
  refine WO.lenS rfl hot0.slv rfl ?_
  refine WO.mv rfl (WO.ni (tN (WC.block ?_)))
  obtain ⟨b44,e45,h⟩:=bindS h
  refine WC.loopD e45 (fun s22 l' m' n'=>∃ S25:Cx fl,∃ v26 v27:SV,S25.m = m'/\S25.n = n'/\Cov l' [(2,.sc ((.ptr b1 0))),(3,.sc .nilp),(4,.sc ((.ptr b18 0))),(10,.sc vt0),(11,.sc (.int .i64 ((t0.length:Int)))),(12,.sc (.int .i64 s22.1))]/\ChM S0 S25/\Bw S25 2 (.ptr b1 0) [.nils,.nils]/\Bw S25 6 (.ptr b18 0) [v26,v27]/\Rd Y35 S25 vt0 t0/\Ow Y37 S25 7 v26 s22.2.1/\Ow Y24 S25 8 v27 s22.2.2) (fun b e l' m' n'=>e = .exit 0/\∃ S28:Cx fl,∃ v29 v30:SV,S28.m = m'/\S28.n = n'/\Cov l' [(2,.sc ((.ptr b1 0))),(4,.sc ((.ptr b18 0)))]/\ChM S0 S28/\Bw S28 2 (.ptr b1 0) [.nils,.nils]/\Bw S28 6 (.ptr b18 0) [v29,v30]/\Ow Y37 S28 7 v29 b.1/\Ow Y24 S28 8 v30 b.2) (by exact ⟨S19,.nils,.nils,rfl,rfl,(Kc (Kc (Kc (Kc (Kc (Kc (Cov.nil _))))))),hM,ho4,ho21,hot0,Ow.nil,Ow.nil⟩) ?_ ?_
  ·clear h
   rintro s22 q _ _ _ ⟨S31,v32,v33,rfl,rfl,hc34,hM,ho4,ho21,hot0,ho21c0,ho21c1⟩ h
   unfold F10_l0 at h
   refine WC.cov hc34 ?_
   refine WC.sq (WC.rg ?_)
   refine WO.bi rfl rfl rfl ?_
   refine WO.ni (tN (WC.sq ?_))
   refine WC.cond rfl (fun q35=>?_) (fun q35=>?_)
   ·have h:=iteT q35 h
    refine WC.skip (tN (WC.sq (WC.block (WC.sq (WC.rg ?_)))))
    obtain ⟨x36,e37,h⟩:=bindS h
    refine WO.ixS rfl rfl hot0.slv (at?_lt e37) rfl ?_
    refine WO.ldA rfl hot0.ro (fun _ hi=>hi) (at?_get e37) rfl rfl ?_
    refine WO.alS (A:=Y35) (S:=S31) (z0:=((0,0,[],[]):Int × Int × (List UInt8) × (List UInt8))) 9 rfl rfl rfl (fun v38 S39 c40 ho41=>?_)
    refine WO.stBA (u':=(x36.1,x36.2.1,x36.2.2.1,x36.2.2.2)) rfl ho41.at0 rfl ho41 rfl rfl (fun S42 c43 ho41=>?_)
    refine WO.ni (tN (WC.sq (WC.rg (WO.mv rfl ?_))))
    refine WO.ldBA (j:=0) rfl ho41.at0 ho41 rfl rfl ?_
    cases h
   ·have h:=iteF q35 h
    refine WC.exit (tE (tE ?_))
    obtain rfl:=someI h
    exact ⟨_,rfl,rfl,⟨S31,v32,v33,rfl,rfl,(Kc (Kc (Cov.nil _))),hM,ho4,ho21,ho21c0,ho21c1⟩⟩
  rintro _ _ _ _ ⟨rfl,⟨S46,v47,v48,rfl,rfl,hc49,hM,ho4,ho21,ho21c0,ho21c1⟩⟩
  refine bS (tN ?_)
  refine WC.cov hc49 ?_
  refine WC.sq (WC.rg ?_)
  refine WO.ldWA (sz:=2) (r:=[v47,v48]) rfl ho21.at0 ho21 rfl rfl rfl ho21.lt rfl ?_
  refine WO.stW (S:=S46) (r:=[v47,v48]) rfl ho4.at0 rfl rfl ho4 rfl rfl rfl rfl rfl (fun S50 c51 ho4=>?_)
  have hM:=hM.to c51
  have ho21c0:=ho21c0.to c51
  have ho21c1:=ho21c1.to c51
  refine WO.ni (tN (WC.ret ?_))
  have hcell52:=ho4
  have hM:=hM.renO 7 902
  have ho21c0:=ho21c0.ren (j:=902)
  have ho21c1:=ho21c1.renO 7 902
  have hM:=hM.renO 8 904
  have ho21c0:=ho21c0.renO 8 904
  have ho21c1:=ho21c1.ren (j:=904)
  obtain rfl:=someI h
  exact ⟨.inr rfl,_,_,(resK_w (sz:=2) hcell52 (Cov.refl _) rfl rfl rfl rfl),rfl,⟨((S50.ren 7 902).ren 8 904),rfl,rfl,hM,v47,v48,rfl,ho21c0,ho21c1⟩⟩
 | some x11=>
  rw [hN] at h hR
  simp only at h hR
  obtain ⟨b12,v13,v15,rfl,hR,hR500,hR501⟩:=hR
  have ho17:=hR.bk hb rfl
  have ho14:=hR500.bkF hb rfl Lay.flat_fl
  have ho16:=hR501.bkF hb rfl Lay.flat_fl
  refine WO.as rfl (WO.ni (tN (WC.sq (WC.rg ?_))))
  refine WO.alW (S:=S9) (cs:=[.nils,.nils]) 10 rfl rfl rfl (fun b53 S54 c55 ho56=>?_)
  have hot0:=hot0.to c55
  have hM:=hM.to c55
  have ho4:=ho4.to c55
  have ho14:=ho14.to c55
  have ho16:=ho16.to c55
  have ho17:=ho17.to c55
  refine WO.ni (tN (WC.sq (WC.sq (WC.rg (WO.mv rfl ?_)))))
  refine WO.lenS rfl hot0.slv rfl ?_
  refine WO.mv rfl (WO.ni (tN (WC.block ?_)))
  obtain ⟨b302,e303,h⟩:=bindS h
  refine WC.loopD e303 (fun s57 l' m' n'=>∃ S62:Cx fl,∃ v63 v64 v65 v66:SV,S62.m = m'/\S62.n = n'/\Cov l' [(2,.sc ((.ptr b1 0))),(3,.sc ((.ptr b12 0))),(4,.sc ((.ptr b53 0))),(10,.sc vt0),(11,.sc (.int .i64 ((t0.length:Int)))),(12,.sc (.int .i64 s57.1))]/\ChM S0 S62/\Bw S62 2 (.ptr b1 0) [.nils,.nils]/\Bw S62 5 (.ptr b12 0) [v63,v64]/\Bw S62 10 (.ptr b53 0) [v65,v66]/\Rd Y35 S62 vt0 t0/\Ow Y114 S62 3 v63 s57.2.1/\Ow Y134 S62 4 v64 s57.2.2.1/\Ow Y37 S62 11 v65 s57.2.2.2.1/\Ow Y24 S62 12 v66 s57.2.2.2.2) (fun b e l' m' n'=>e = .exit 0/\∃ S67:Cx fl,∃ v68 v69:SV,S67.m = m'/\S67.n = n'/\Cov l' [(2,.sc ((.ptr b1 0))),(4,.sc ((.ptr b53 0)))]/\ChM S0 S67/\Bw S67 2 (.ptr b1 0) [.nils,.nils]/\Bw S67 10 (.ptr b53 0) [v68,v69]/\Ow Y37 S67 11 v68 b.1/\Ow Y24 S67 12 v69 b.2) (by exact ⟨S54,v13,v15,.nils,.nils,rfl,rfl,(Kc (Kc (Kc (Kc (Kc (Kc (Cov.nil _))))))),hM,ho4,ho17,ho56,hot0,ho14,ho16,Ow.nil,Ow.nil⟩) ?_ ?_
  ·clear h
   rintro s57 q _ _ _ ⟨S70,v71,v72,v73,v74,rfl,rfl,hc75,hM,ho4,ho17,ho56,hot0,ho17c0,ho17c1,ho56c0,ho56c1⟩ h
   unfold F10_l1 at h
   refine WC.cov hc75 ?_
   refine WC.sq (WC.rg ?_)
   refine WO.bi rfl rfl rfl ?_
   refine WO.ni (tN (WC.sq ?_))
   refine WC.cond rfl (fun q76=>?_) (fun q76=>?_)
   ·have h:=iteT q76 h
    refine WC.skip (tN (WC.sq (WC.block (WC.sq (WC.rg ?_)))))
    obtain ⟨x77,e78,h⟩:=bindS h
    refine WO.ixS rfl rfl hot0.slv (at?_lt e78) rfl ?_
    refine WO.ldA rfl hot0.ro (fun _ hi=>hi) (at?_get e78) rfl rfl ?_
    refine WO.alS (A:=Y35) (S:=S70) (z0:=((0,0,[],[]):Int × Int × (List UInt8) × (List UInt8))) 13 rfl rfl rfl (fun v79 S80 c81 ho82=>?_)
    have hM:=hM.to c81
    have ho4:=ho4.to c81
    have ho17:=ho17.to c81
    have ho56:=ho56.to c81
    have hot0:=hot0.to c81
    have ho17c0:=ho17c0.to c81
    have ho17c1:=ho17c1.to c81
    have ho56c0:=ho56c0.to c81
    have ho56c1:=ho56c1.to c81
    refine WO.stBA (u':=(x77.1,x77.2.1,x77.2.2.1,x77.2.2.2)) rfl ho82.at0 rfl ho82 rfl rfl (fun S83 c84 ho82=>?_)
    have hM:=hM.to c84
    have ho4:=ho4.to c84
    have ho17:=ho17.to c84
    have ho56:=ho56.to c84
    have hot0:=hot0.to c84
    have ho17c0:=ho17c0.to c84
    have ho17c1:=ho17c1.to c84
    have ho56c0:=ho56c0.to c84
    have ho56c1:=ho56c1.to c84
    refine WO.ni (tN (WC.sq (WC.rg (WO.mv rfl ?_))))
    refine WO.ldBA (j:=0) rfl ho82.at0 ho82 rfl rfl ?_
    obtain ⟨r85,e86,h⟩:=bindS h
    refine WO.callG (S:=S83) [(5,2),(3,3),(4,4)] [(2,5),(3,3),(4,4)] rfl rfl (F40_ok (S0:=S83.mp [(5,2),(3,3),(4,4)]) e86 (ho17.mp rfl) (ho17c0.mp rfl) (ho17c1.mp rfl)) (fun _ S91 S92 hb hR=>?_)
    obtain ⟨v87,v89,rfl,hR0,hR1,hR2⟩:=hR
    have c93:=Cx.mg_ch S83 3 5
    have hM:=hM.to c93
    have ho4:=ho4.to c93
    have ho56:=ho56.to c93
    have hot0:=hot0.to c93
    have ho56c0:=ho56c0.to c93
    have ho56c1:=ho56c1.to c93
    have ho82:=ho82.to c93
    have c94:=Cx.mg_ch (S83.mg 3 5) 4 5
    have hM:=hM.to c94
    have ho4:=ho4.to c94
    have ho56:=ho56.to c94
    have hot0:=hot0.to c94
    have ho56c0:=ho56c0.to c94
    have ho56c1:=ho56c1.to c94
    have ho82:=ho82.to c94
    have c95:Ch 5 ((S83.mg 3 5).mg 4 5) S92:=hb.ch [3,4] 5
    have hM:=hM.to c95
    have ho4:=ho4.to c95
    have ho56:=ho56.to c95
    have hot0:=hot0.to c95
    have ho56c0:=ho56c0.to c95
    have ho56c1:=ho56c1.to c95
    have ho82:=ho82.to c95
    have ho17:=hR0.bk hb rfl
    have ho88:=hR1.bkF hb rfl Lay.flat_fl
    have ho90:=hR2.bkF hb rfl Lay.flat_fl
    refine WO.mv rfl (WO.do rfl rfl (WO.do rfl rfl ?_))
    refine WO.alS (A:=Y37) (S:=S92) (z0:=(([],0):(List UInt8) × Int)) 16 rfl rfl rfl (fun v96 S97 c98 ho99=>?_)
    have hM:=hM.to c98
    have ho4:=ho4.to c98
    have ho17:=ho17.to c98
    have ho56:=ho56.to c98
    have hot0:=hot0.to c98
    have ho56c0:=ho56c0.to c98
    have ho56c1:=ho56c1.to c98
    have ho82:=ho82.to c98
    have ho88:=ho88.to c98
    have ho90:=ho90.to c98
    refine WO.stBA (u':=(r85.1.1,r85.1.2)) rfl ho99.at0 rfl ho99 rfl rfl (fun S100 c101 ho99=>?_)
    have hM:=hM.to c101
    have ho4:=ho4.to c101
    have ho17:=ho17.to c101
    have ho56:=ho56.to c101
    have hot0:=hot0.to c101
    have ho56c0:=ho56c0.to c101
    have ho56c1:=ho56c1.to c101
    have ho82:=ho82.to c101
    have ho88:=ho88.to c101
    have ho90:=ho90.to c101
    refine WO.as rfl (WO.ni (tN ?_))
    refine WC.drawDN rfl ?_
    have ho56z:=ho56.lt
    have ho99z:=ho99.lt
    have k102:=ho4.bko
    have k103:=ho17.bko
    have k104:=ho56.bko
    have k105:=hot0.bko
    have k106:=ho56c0.bko
    have k107:=ho56c1.bko
    have k108:=ho82.bko
    have k109:=ho88.bko
    have k110:=ho90.bko
    have k111:=ho99.bko
    refine WO.fldS (j:=0) (q:=0) rfl ho56.at0 ho56.ptr rfl rfl rfl (by decide) ?_
    refine WO.ldW rfl rfl ho56 rfl rfl ho56z (limLe_self _) ?_
    refine WO.ldBAz (j:=0) rfl ho99.at0 ho99 rfl ho99z (limLe_self _) ?_
    refine WO.bsD (A:=Y37) (S:=S100) (M:=[(((r85.1.1,r85.1.2)).1,((r85.1.1,r85.1.2)).2)]) (cs:=[.str (((r85.1.1,r85.1.2)).1),.int .i64 (((r85.1.1,r85.1.2)).2)]) 17 rfl rfl rfl ⟨[.str (((r85.1.1,r85.1.2)).1),.int .i64 (((r85.1.1,r85.1.2)).2)],_,rfl,rfl,rfl⟩ rfl (fun v112 S113 ge116 c114 ho115=>?_)
    have hM:=hM.to c114
    have ho4:=ho4.to c114
    have ho17:=ho17.to c114
    have ho56:=ho56.to c114
    have hot0:=hot0.to c114
    have ho56c0:=ho56c0.to c114
    have ho56c1:=ho56c1.to c114
    have ho82:=ho82.to c114
    have ho88:=ho88.to c114
    have ho90:=ho90.to c114
    have ho99:=ho99.to c114
    have n117:=c114.n
    have k118:=ho4.bko
    have k119:=ho17.bko
    have k120:=ho56.bko
    have k121:=hot0.bko
    have k122:=ho56c0.bko
    have k123:=ho56c1.bko
    have k124:=ho82.bko
    have k125:=ho88.bko
    have k126:=ho90.bko
    have k127:=ho99.bko
    have k128:=ho115.bko
    obtain ⟨L129,e130,h⟩:=bindS h
    refine WO.appSB rfl rfl ho56c0 ho115.ro e130 rfl rfl rfl (fun v131 S132 c133 ho134=>?_)
    have hM:=hM.to c133
    have ho4:=ho4.to c133
    have ho17:=ho17.to c133
    have ho56:=ho56.to c133
    have hot0:=hot0.to c133
    have ho56c1:=ho56c1.to c133
    have ho82:=ho82.to c133
    have ho88:=ho88.to c133
    have ho90:=ho90.to c133
    have ho99:=ho99.to c133
    have ho115:=ho115.to c133
    have n135:=c133.n
    have k136:=ho4.bko
    have k137:=ho17.bko
    have k138:=ho56.bko
    have k139:=hot0.bko
    have k140:=ho56c1.bko
    have k141:=ho82.bko
    have k142:=ho88.bko
    have k143:=ho90.bko
    have k144:=ho99.bko
    have k145:=ho115.bko
    have k146:=ho134.bko
    refine WO.fldS (j:=0) (q:=0) rfl ho56.at0 ho56.ptr rfl rfl rfl (by decide) ?_
    refine WO.ldW rfl rfl ho56 rfl rfl ho56z (limLe_self _) ?_
    refine WO.mv rfl ?_
    refine WO.bsD (A:=Y24) (S:=S132) (M:=[r85.2.1]) (cs:=[.int .i64 r85.2.1]) 18 rfl rfl rfl ⟨[.int .i64 r85.2.1],_,rfl,rfl,rfl⟩ rfl (fun v147 S148 ge151 c149 ho150=>?_)
    have hM:=hM.to c149
    have ho4:=ho4.to c149
    have ho17:=ho17.to c149
    have ho56:=ho56.to c149
    have hot0:=hot0.to c149
    have ho56c1:=ho56c1.to c149
    have ho82:=ho82.to c149
    have ho88:=ho88.to c149
    have ho90:=ho90.to c149
    have ho99:=ho99.to c149
    have ho115:=ho115.to c149
    have ho134:=ho134.to c149
    have n152:=c149.n
    have k153:=ho4.bko
    have k154:=ho17.bko
    have k155:=ho56.bko
    have k156:=hot0.bko
    have k157:=ho56c1.bko
    have k158:=ho82.bko
    have k159:=ho88.bko
    have k160:=ho90.bko
    have k161:=ho99.bko
    have k162:=ho115.bko
    have k163:=ho134.bko
    have k164:=ho150.bko
    obtain ⟨L165,e166,h⟩:=bindS h
    refine WO.appSB rfl rfl ho56c1 ho150.ro e166 rfl rfl rfl (fun v167 S168 c169 ho170=>?_)
    have hM:=hM.to c169
    have ho4:=ho4.to c169
    have ho17:=ho17.to c169
    have ho56:=ho56.to c169
    have hot0:=hot0.to c169
    have ho82:=ho82.to c169
    have ho88:=ho88.to c169
    have ho90:=ho90.to c169
    have ho99:=ho99.to c169
    have ho115:=ho115.to c169
    have ho134:=ho134.to c169
    have ho150:=ho150.to c169
    have n171:=c169.n
    have k172:=ho4.bko
    have k173:=ho17.bko
    have k174:=ho56.bko
    have k175:=hot0.bko
    have k176:=ho82.bko
    have k177:=ho88.bko
    have k178:=ho90.bko
    have k179:=ho99.bko
    have k180:=ho115.bko
    have k181:=ho134.bko
    have k182:=ho150.bko
    have k183:=ho170.bko
    refine WO.fldS (j:=0) (q:=0) rfl ho56.at0 ho56.ptr rfl rfl rfl (by decide) ?_
    refine WO.stW (S:=S168) (r:=[v131,v74]) rfl rfl rfl rfl ho56 rfl rfl rfl rfl rfl (fun S184 c185 ho56=>?_)
    have hM:=hM.to c185
    have ho4:=ho4.to c185
    have ho17:=ho17.to c185
    have hot0:=hot0.to c185
    have ho82:=ho82.to c185
    have ho88:=ho88.to c185
    have ho90:=ho90.to c185
    have ho99:=ho99.to c185
    have ho115:=ho115.to c185
    have ho134:=ho134.to c185
    have ho150:=ho150.to c185
    have ho170:=ho170.to c185
    have n186:=c185.n
    have k187:=ho4.bko
    have k188:=ho17.bko
    have k189:=ho56.bko
    have k190:=hot0.bko
    have k191:=ho82.bko
    have k192:=ho88.bko
    have k193:=ho90.bko
    have k194:=ho99.bko
    have k195:=ho115.bko
    have k196:=ho134.bko
    have k197:=ho150.bko
    have k198:=ho170.bko
    refine WO.fldS (j:=0) (q:=0) rfl ho56.at0 ho56.ptr rfl rfl rfl (by decide) ?_
    refine WO.stW (S:=S184) (r:=[v131,v167]) rfl rfl rfl rfl ho56 rfl rfl rfl rfl rfl (fun S199 c200 ho56=>?_)
    have hM:=hM.to c200
    have ho4:=ho4.to c200
    have ho17:=ho17.to c200
    have hot0:=hot0.to c200
    have ho82:=ho82.to c200
    have ho88:=ho88.to c200
    have ho90:=ho90.to c200
    have ho99:=ho99.to c200
    have ho115:=ho115.to c200
    have ho134:=ho134.to c200
    have ho150:=ho150.to c200
    have ho170:=ho170.to c200
    have n201:=c200.n
    have k202:=ho4.bko
    have k203:=ho17.bko
    have k204:=ho56.bko
    have k205:=hot0.bko
    have k206:=ho82.bko
    have k207:=ho88.bko
    have k208:=ho90.bko
    have k209:=ho99.bko
    have k210:=ho115.bko
    have k211:=ho134.bko
    have k212:=ho150.bko
    have k213:=ho170.bko
    refine WO.ni ?_
    refine ⟨fun tt hs=>dynOk_of [(4,6),(4,8)] (by kernel_rfl) ⟨?_,?_,trivial⟩,?_⟩
    ·show djT tt _ _ = true
     have nb220:=k102.nb k109
     have nb224:=k136.nb k146
     have nb240:=k104.nb k106
     have nb247:=k138.nb k146
     have nb253:=k105.nb k109
     have nb262:=k106.nb k109
     refine djT_of hs rfl rfl rfl rfl rfl ?_ ?_ ?_ <;> simp only [NBs,NB1,and_true,true_and] <;> (repeat' apply And.intro) <;> (first | assumption | (apply NB.symm;assumption) | exact NB.none rfl | exact NB.noneR rfl | (apply NB.pt;first | assumption | (apply NB.symm;assumption)) | (apply NB.symm;apply NB.pt;first | assumption | (apply NB.symm;assumption) | (apply NB.symm;apply NB.pt;first | assumption | (apply NB.symm;assumption))))
    ·show djT tt _ _ = true
     have nb220:=k102.nb k109
     have nb224:=k136.nb k146
     have nb240:=k104.nb k106
     have nb247:=k138.nb k146
     have nb253:=k105.nb k109
     have nb262:=k106.nb k109
     refine djT_of hs rfl rfl rfl rfl rfl ?_ ?_ ?_ <;> simp only [NBs,NB1,and_true,true_and] <;> (repeat' apply And.intro) <;> (first | assumption | (apply NB.symm;assumption) | exact NB.none rfl | exact NB.noneR rfl | (apply NB.pt;first | assumption | (apply NB.symm;assumption)) | (apply NB.symm;apply NB.pt;first | assumption | (apply NB.symm;assumption) | (apply NB.symm;apply NB.pt;first | assumption | (apply NB.symm;assumption))))
    clear k102 k103 k104 k105 k106 k107 k108 k109 k110 k111 k118 k119 k120 k121 k122 k123 k124 k125 k126 k127 k128 k136 k137 k138 k139 k140 k141 k142 k143 k144 k145 k146 k153 k154 k155 k156 k157 k158 k159 k160 k161 k162 k163 k164 k172 k173 k174 k175 k176 k177 k178 k179 k180 k181 k182 k183 k187 k188 k189 k190 k191 k192 k193 k194 k195 k196 k197 k198 k202 k203 k204 k205 k206 k207 k208 k209 k210 k211 k212 k213 ge116 ge151 n117 n135 n152 n171 n186 n201
    refine bN (tN (WC.rg ?_))
    refine WO.bi rfl rfl rfl ?_
    refine WO.mv rfl (WO.ni (tN ?_))
    obtain rfl:=someI h
    exact ⟨_,rfl,⟨S199,v87,v89,v131,v167,rfl,rfl,(Kc (Kc (Kc (Kc (Kc (Kc (Cov.nil _))))))),hM,ho4,ho17,ho56,hot0,ho88,ho90,ho134,ho170⟩⟩
   ·have h:=iteF q76 h
    refine WC.exit (tE (tE ?_))
    obtain rfl:=someI h
    exact ⟨_,rfl,rfl,⟨S70,v73,v74,rfl,rfl,(Kc (Kc (Cov.nil _))),hM,ho4,ho56,ho56c0,ho56c1⟩⟩
  rintro _ _ _ _ ⟨rfl,⟨S304,v305,v306,rfl,rfl,hc307,hM,ho4,ho56,ho56c0,ho56c1⟩⟩
  refine bS (tN ?_)
  refine WC.cov hc307 ?_
  refine WC.sq (WC.rg ?_)
  refine WO.ldWA (sz:=2) (r:=[v305,v306]) rfl ho56.at0 ho56 rfl rfl rfl ho56.lt rfl ?_
  refine WO.stW (S:=S304) (r:=[v305,v306]) rfl ho4.at0 rfl rfl ho4 rfl rfl rfl rfl rfl (fun S308 c309 ho4=>?_)
  have hM:=hM.to c309
  have ho56c0:=ho56c0.to c309
  have ho56c1:=ho56c1.to c309
  refine WO.ni (tN (WC.ret ?_))
  have hcell310:=ho4
  have hM:=hM.renO 11 902
  have ho56c0:=ho56c0.ren (j:=902)
  have ho56c1:=ho56c1.renO 11 902
  have hM:=hM.renO 12 904
  have ho56c0:=ho56c0.renO 12 904
  have ho56c1:=ho56c1.ren (j:=904)
  obtain rfl:=someI h
  exact ⟨.inr rfl,_,_,(resK_w (sz:=2) hcell310 (Cov.refl _) rfl rfl rfl rfl),rfl,⟨((S308.ren 11 902).ren 12 904),rfl,rfl,hM,v305,v306,rfl,ho56c0,ho56c1⟩⟩
open Go.Am
theorem F13.fn:E.fn 13 = some (fi 8 Tryd.f13 []):=rfl
theorem F13_ok {F:Nat} {m:Mem} {n:Nat} {r:(List ((List UInt8) × Int × Int))} {t0:(List ((List UInt8) × Int × Int))} {vt0:SV} (h:F13 F t0 = some r) (kt0:Vw Y60 n m vt0 t0):Ret E n 13 [.sc vt0] m n (fun v m' n'=>∃ w,v = .sc w/\Fr Y60 n m' n' w r):=by
 unfold F13 at h
 split at h
 ·rename_i hq
  obtain rfl:=someI h
  refine Ret.walk F13.fn ?_
  refine WC.start fun S0 em en hz=>?_
  have hR:=kt0.rdS em hz
  rcases kt0 with ⟨hv | hv,rfl⟩ | ⟨i,o,c,cs,hv,_⟩
  ·subst hv
   repeat (first | refine WC.sq ?_ | refine tN ?_ | refine tR ?_ | refine WC.rg ?_ | refine WO.ni ?_ | refine WC.condT rfl ?_ | refine WC.condF rfl ?_ | refine WC.skip ?_ | refine WC.ret ?_ | refine WO.as rfl ?_ | refine WO.mv rfl ?_)
   refine WO.do rfl rfl ?_
   repeat (first | refine WC.sq ?_ | refine tN ?_ | refine tR ?_ | refine WC.rg ?_ | refine WO.ni ?_ | refine WC.condT rfl ?_ | refine WC.condF rfl ?_ | refine WC.skip ?_ | refine WC.ret ?_ | refine WO.as rfl ?_ | refine WO.mv rfl ?_)
   exact ⟨.inr rfl,_,_,rfl,rfl,.nils,rfl,Fr.nil⟩
  all_goals
   subst hv
   repeat (first | refine WC.sq ?_ | refine tN ?_ | refine tR ?_ | refine WC.rg ?_ | refine WO.ni ?_ | refine WC.condT rfl ?_ | refine WC.condF rfl ?_ | refine WC.skip ?_ | refine WC.ret ?_ | refine WO.as rfl ?_ | refine WO.mv rfl ?_)
   refine WO.do rfl rfl ?_
   repeat (first | refine WC.sq ?_ | refine tN ?_ | refine tR ?_ | refine WC.rg ?_ | refine WO.ni ?_ | refine WC.condT rfl ?_ | refine WC.condF rfl ?_ | refine WC.skip ?_ | refine WC.ret ?_ | refine WO.as rfl ?_ | refine WO.mv rfl ?_)
   refine WO.bsS (A:=Y60) (S:=S0) (M:=[]) (cs:=[]) 2 rfl rfl rfl rfl rfl (fun v1 S1 c1 h1=>?_)
   have hR:=hR.to c1
   repeat (first | refine WC.sq ?_ | refine tN ?_ | refine tR ?_ | refine WC.rg ?_ | refine WO.ni ?_ | refine WC.condT rfl ?_ | refine WC.condF rfl ?_ | refine WC.skip ?_ | refine WC.ret ?_ | refine WO.as rfl ?_ | refine WO.mv rfl ?_)
   refine WO.appN rfl rfl h1 hR.ro hq (by decide) rfl rfl (fun v2 S2 c2 h2=>?_)
   repeat (first | refine WC.sq ?_ | refine tN ?_ | refine tR ?_ | refine WC.rg ?_ | refine WO.ni ?_ | refine WC.condT rfl ?_ | refine WC.condF rfl ?_ | refine WC.skip ?_ | refine WC.ret ?_ | refine WO.as rfl ?_ | refine WO.mv rfl ?_)
   exact ⟨.inr rfl,_,_,rfl,rfl,_,rfl,h2.fr Lay.flat_fl⟩
 ·cases h
open Go.Am
theorem F14.fn:E.fn 14 = some (fi 8 Tryd.f14 []):=rfl
theorem F14_ok {F:Nat} {m:Mem} {n:Nat} {r:(List ((List UInt8) × (List UInt8) × Int))} {t0:(List ((List UInt8) × (List UInt8) × Int))} {vt0:SV} (h:F14 F t0 = some r) (kt0:Vw Y63 n m vt0 t0):Ret E n 14 [.sc vt0] m n (fun v m' n'=>∃ w,v = .sc w/\Fr Y63 n m' n' w r):=by
 unfold F14 at h
 split at h
 ·rename_i hq
  obtain rfl:=someI h
  refine Ret.walk F14.fn ?_
  refine WC.start fun S0 em en hz=>?_
  have hR:=kt0.rdS em hz
  rcases kt0 with ⟨hv | hv,rfl⟩ | ⟨i,o,c,cs,hv,_⟩
  ·subst hv
   repeat (first | refine WC.sq ?_ | refine tN ?_ | refine tR ?_ | refine WC.rg ?_ | refine WO.ni ?_ | refine WC.condT rfl ?_ | refine WC.condF rfl ?_ | refine WC.skip ?_ | refine WC.ret ?_ | refine WO.as rfl ?_ | refine WO.mv rfl ?_)
   refine WO.do rfl rfl ?_
   repeat (first | refine WC.sq ?_ | refine tN ?_ | refine tR ?_ | refine WC.rg ?_ | refine WO.ni ?_ | refine WC.condT rfl ?_ | refine WC.condF rfl ?_ | refine WC.skip ?_ | refine WC.ret ?_ | refine WO.as rfl ?_ | refine WO.mv rfl ?_)
   exact ⟨.inr rfl,_,_,rfl,rfl,.nils,rfl,Fr.nil⟩
  all_goals
   subst hv
   repeat (first | refine WC.sq ?_ | refine tN ?_ | refine tR ?_ | refine WC.rg ?_ | refine WO.ni ?_ | refine WC.condT rfl ?_ | refine WC.condF rfl ?_ | refine WC.skip ?_ | refine WC.ret ?_ | refine WO.as rfl ?_ | refine WO.mv rfl ?_)
   refine WO.do rfl rfl ?_
   repeat (first | refine WC.sq ?_ | refine tN ?_ | refine tR ?_ | refine WC.rg ?_ | refine WO.ni ?_ | refine WC.condT rfl ?_ | refine WC.condF rfl ?_ | refine WC.skip ?_ | refine WC.ret ?_ | refine WO.as rfl ?_ | refine WO.mv rfl ?_)
   refine WO.bsS (A:=Y63) (S:=S0) (M:=[]) (cs:=[]) 2 rfl rfl rfl rfl rfl (fun v1 S1 c1 h1=>?_)
   have hR:=hR.to c1
   repeat (first | refine WC.sq ?_ | refine tN ?_ | refine tR ?_ | refine WC.rg ?_ | refine WO.ni ?_ | refine WC.condT rfl ?_ | refine WC.condF rfl ?_ | refine WC.skip ?_ | refine WC.ret ?_ | refine WO.as rfl ?_ | refine WO.mv rfl ?_)
   refine WO.appN rfl rfl h1 hR.ro hq (by decide) rfl rfl (fun v2 S2 c2 h2=>?_)
   repeat (first | refine WC.sq ?_ | refine tN ?_ | refine tR ?_ | refine WC.rg ?_ | refine WO.ni ?_ | refine WC.condT rfl ?_ | refine WC.condF rfl ?_ | refine WC.skip ?_ | refine WC.ret ?_ | refine WO.as rfl ?_ | refine WO.mv rfl ?_)
   exact ⟨.inr rfl,_,_,rfl,rfl,_,rfl,h2.fr Lay.flat_fl⟩
 ·cases h
open Go.Am
theorem F15.fn:E.fn 15 = some (fi 28 Tryd.f15 [1000005]):=rfl
theorem F15_ok {F:Nat} {fl:Nat} {S0:Cx fl} {r:(List Int) × (List Int)} {t0:(List ((List UInt8) × Int × Int)) × (List ((List UInt8) × (List UInt8) × Int))} {vt0_0:SV} {vt0_1:SV} (h:F15 F t0 = some r) (hot0_0:Rd Y60 S0 vt0_0 t0.1) (hot0_1:Rd Y63 S0 vt0_1 t0.2):Ret E fl 15 [.agg [vt0_0,vt0_1]] S0.m S0.n (fun v m' n'=>∃ S':Cx fl,S'.m = m'/\S'.n = n'/\ChM S0 S'/\(∃ w110 w111:SV,v = .tup [.sc w110,.sc w111]/\Ow Y3 S' 902 w110 r.1/\Ow Y3 S' 904 w111 r.2)):=by
 unfold F15 at h
 refine Ret.walk F15.fn ?_
 have hM:=ChM.refl S0
 refine WC.sq (WC.rg ?_)
 refine WO.bxW (S:=S0) (cs:=[vt0_0,vt0_1]) 2 rfl rfl rfl (fun b1 S2 c3 ho4=>?_)
 have hot0_0:=hot0_0.to c3
 have hM:=hM.to c3
 refine WO.as rfl (WO.as rfl (WO.ni (tN (WC.sq (WC.rg (WO.as rfl (WO.as rfl (WO.ni (tN (WC.sq (WC.sq (WC.rg ?_))))))))))))
 refine WO.fldS (j:=0) (q:=0) rfl ho4.at0 ho4.ptr rfl rfl rfl (by decide) ?_
 refine WO.ldW rfl rfl ho4 rfl rfl ho4.lt rfl ?_
 refine WO.lenS rfl hot0_0.slv rfl ?_
 refine WO.mv rfl (WO.ni (tN (WC.block ?_)))
 obtain ⟨b104,e105,h⟩:=bindS h
 refine WC.loopD e105 (fun s5 l' m' n'=>∃ S8:Cx fl,∃ v9 v10:SV,S8.m = m'/\S8.n = n'/\Cov l' [(4,.sc v9),(5,.sc v10),(9,.sc vt0_0),(10,.sc (.int .i64 ((t0.1.length:Int)))),(11,.sc (.int .i64 s5.2.2))]/\ChM S0 S8/\Rd Y60 S8 vt0_0 t0.1/\Ow Y3 S8 3 v9 s5.1/\Ow Y3 S8 4 v10 s5.2.1) (fun b e l' m' n'=>e = .exit 0/\∃ S11:Cx fl,∃ v12 v13:SV,S11.m = m'/\S11.n = n'/\Cov l' [(4,.sc v12),(5,.sc v13)]/\ChM S0 S11/\Ow Y3 S11 3 v12 b.1/\Ow Y3 S11 4 v13 b.2) (by exact ⟨S2,.nils,.nils,rfl,rfl,(Kc (Kc (Kc (Kc (Kc (Cov.nil _)))))),hM,hot0_0,Ow.nil,Ow.nil⟩) ?_ ?_
 ·clear h
  rintro s5 q _ _ _ ⟨S14,v15,v16,rfl,rfl,hc17,hM,hot0_0,ho4,ho5⟩ h
  unfold F15_l0 at h
  refine WC.cov hc17 ?_
  refine WC.sq (WC.rg ?_)
  refine WO.bi rfl rfl rfl ?_
  refine WO.ni (tN (WC.sq ?_))
  refine WC.cond rfl (fun q18=>?_) (fun q18=>?_)
  ·have h:=iteT q18 h
   refine WC.skip (tN (WC.sq (WC.block (WC.sq (WC.rg ?_)))))
   obtain ⟨x19,e20,h⟩:=bindS h
   refine WO.ixS rfl rfl hot0_0.slv (at?_lt e20) rfl ?_
   refine WO.ldA rfl hot0_0.ro (fun _ hi=>hi) (at?_get e20) rfl rfl ?_
   refine WO.alS (A:=Y60) (S:=S14) (z0:=(([],0,0):(List UInt8) × Int × Int)) 5 rfl rfl rfl (fun v21 S22 c23 ho24=>?_)
   have hM:=hM.to c23
   have hot0_0:=hot0_0.to c23
   have ho4:=ho4.to c23
   have ho5:=ho5.to c23
   refine WO.stBA (u':=(x19.1,x19.2.1,x19.2.2)) rfl ho24.at0 rfl ho24 rfl rfl (fun S25 c26 ho24=>?_)
   have hM:=hM.to c26
   have hot0_0:=hot0_0.to c26
   have ho4:=ho4.to c26
   have ho5:=ho5.to c26
   refine WO.ni (tN ?_)
   refine WC.drawDN rfl ?_
   have ho24z:=ho24.lt
   have k27:=hot0_0.bko
   have k28:=ho4.bko
   have k29:=ho5.bko
   have k30:=ho24.bko
   refine WO.mv rfl ?_
   refine WO.fldS (j:=0) (q:=0) rfl ho24.at0 ho24.ptr rfl rfl rfl (by decide) ?_
   refine WO.ldBz (j:=0) (q:=1) rfl rfl ho24 rfl rfl ho24z (limLe_self _) ?_
   refine WO.bsD (A:=Y3) (S:=S25) (M:=[((x19.1,x19.2.1,x19.2.2)).2.1]) (cs:=[.int .i64 (((x19.1,x19.2.1,x19.2.2)).2.1)]) 6 rfl rfl rfl ⟨[.int .i64 (((x19.1,x19.2.1,x19.2.2)).2.1)],_,rfl,rfl,rfl⟩ rfl (fun v31 S32 ge35 c33 ho34=>?_)
   have hM:=hM.to c33
   have hot0_0:=hot0_0.to c33
   have ho4:=ho4.to c33
   have ho5:=ho5.to c33
   have ho24:=ho24.to c33
   have n36:=c33.n
   have k37:=hot0_0.bko
   have k38:=ho4.bko
   have k39:=ho5.bko
   have k40:=ho24.bko
   have k41:=ho34.bko
   obtain ⟨L42,e43,h⟩:=bindS h
   refine WO.appS rfl rfl ho4 ho34.ro e43 rfl rfl (fun v44 S45 c46 ho47=>?_)
   have hM:=hM.to c46
   have hot0_0:=hot0_0.to c46
   have ho5:=ho5.to c46
   have ho24:=ho24.to c46
   have ho34:=ho34.to c46
   have n48:=c46.n
   have k49:=hot0_0.bko
   have k50:=ho5.bko
   have k51:=ho24.bko
   have k52:=ho34.bko
   have k53:=ho47.bko
   refine WO.mv rfl ?_
   refine WO.fldS (j:=0) (q:=0) rfl ho24.at0 ho24.ptr rfl rfl rfl (by decide) ?_
   refine WO.ldBz (j:=0) (q:=2) rfl rfl ho24 rfl rfl ho24z (limLe_self _) ?_
   refine WO.bsD (A:=Y3) (S:=S45) (M:=[((x19.1,x19.2.1,x19.2.2)).2.2]) (cs:=[.int .i64 (((x19.1,x19.2.1,x19.2.2)).2.2)]) 7 rfl rfl rfl ⟨[.int .i64 (((x19.1,x19.2.1,x19.2.2)).2.2)],_,rfl,rfl,rfl⟩ rfl (fun v54 S55 ge58 c56 ho57=>?_)
   have hM:=hM.to c56
   have hot0_0:=hot0_0.to c56
   have ho5:=ho5.to c56
   have ho24:=ho24.to c56
   have ho34:=ho34.to c56
   have ho47:=ho47.to c56
   have n59:=c56.n
   have k60:=hot0_0.bko
   have k61:=ho5.bko
   have k62:=ho24.bko
   have k63:=ho34.bko
   have k64:=ho47.bko
   have k65:=ho57.bko
   obtain ⟨L66,e67,h⟩:=bindS h
   refine WO.appS rfl rfl ho5 ho57.ro e67 rfl rfl (fun v68 S69 c70 ho71=>?_)
   have hM:=hM.to c70
   have hot0_0:=hot0_0.to c70
   have ho24:=ho24.to c70
   have ho34:=ho34.to c70
   have ho47:=ho47.to c70
   have ho57:=ho57.to c70
   have n72:=c70.n
   have k73:=hot0_0.bko
   have k74:=ho24.bko
   have k75:=ho34.bko
   have k76:=ho47.bko
   have k77:=ho57.bko
   have k78:=ho71.bko
   refine WO.as rfl (WO.as rfl (WO.ni ?_))
   refine ⟨fun tt hs=>dynOk_of [(4,7),(4,8)] (by kernel_rfl) ⟨?_,?_,trivial⟩,?_⟩
   ·show djT tt _ _ = true
    have nb87:=k28.nb k30
    have nb95:=k51.nb k53
    have nb102:=k76.nb k78
    refine djT_of hs rfl rfl rfl rfl rfl ?_ ?_ ?_ <;> simp only [NBs,NB1,and_true,true_and] <;> (repeat' apply And.intro) <;> (first | assumption | (apply NB.symm;assumption) | exact NB.none rfl | exact NB.noneR rfl | (apply NB.pt;first | assumption | (apply NB.symm;assumption)) | (apply NB.symm;apply NB.pt;first | assumption | (apply NB.symm;assumption) | (apply NB.symm;apply NB.pt;first | assumption | (apply NB.symm;assumption))))
   ·show djT tt _ _ = true
    have nb87:=k28.nb k30
    have nb95:=k51.nb k53
    have nb102:=k76.nb k78
    refine djT_of hs rfl rfl rfl rfl rfl ?_ ?_ ?_ <;> simp only [NBs,NB1,and_true,true_and] <;> (repeat' apply And.intro) <;> (first | assumption | (apply NB.symm;assumption) | exact NB.none rfl | exact NB.noneR rfl | (apply NB.pt;first | assumption | (apply NB.symm;assumption)) | (apply NB.symm;apply NB.pt;first | assumption | (apply NB.symm;assumption) | (apply NB.symm;apply NB.pt;first | assumption | (apply NB.symm;assumption))))
   clear k27 k28 k29 k30 k37 k38 k39 k40 k41 k49 k50 k51 k52 k53 k60 k61 k62 k63 k64 k65 k73 k74 k75 k76 k77 k78 ge35 ge58 n36 n48 n59 n72
   refine bN (tN (WC.rg ?_))
   refine WO.bi rfl rfl rfl ?_
   refine WO.mv rfl (WO.ni (tN ?_))
   obtain rfl:=someI h
   exact ⟨_,rfl,⟨S69,v44,v68,rfl,rfl,(Kc (Kc (Kc (Kc (Kc (Cov.nil _)))))),hM,hot0_0,ho47,ho71⟩⟩
  ·have h:=iteF q18 h
   refine WC.exit (tE (tE ?_))
   obtain rfl:=someI h
   exact ⟨_,rfl,rfl,⟨S14,v15,v16,rfl,rfl,(Kc (Kc (Cov.nil _))),hM,ho4,ho5⟩⟩
 rintro _ _ _ _ ⟨rfl,⟨S106,v107,v108,rfl,rfl,hc109,hM,ho4,ho5⟩⟩
 refine bS (tN ?_)
 refine WC.cov hc109 ?_
 refine WC.sq (WC.rg (WO.mv rfl (WO.mv rfl (WO.as rfl (WO.as rfl (WO.ni (tN (WC.ret ?_))))))))
 have hM:=hM.renO 3 902
 have ho4:=ho4.ren (j:=902)
 have ho5:=ho5.renO 3 902
 have hM:=hM.renO 4 904
 have ho4:=ho4.renO 4 904
 have ho5:=ho5.ren (j:=904)
 obtain rfl:=someI h
 exact ⟨.inr rfl,_,_,rfl,rfl,⟨((S106.ren 3 902).ren 4 904),rfl,rfl,hM,v107,v108,rfl,ho4,ho5⟩⟩
open Go.Am
theorem F16.fn:E.fn 16 = some (fi 40 Tryd.f16 []):=rfl
theorem F16_ok {F:Nat} {m:Mem} {n:Nat} {r:Int × Int} {t0:List Int} {t1:Int} {vt0:SV} (h:F16 F t0 t1 = some r) (kt0:Vw Y3 n m vt0 t0):Ret E n 16 [.sc vt0,.sc (.int .i64 t1)] m n (fun v m' n'=>v = .tup [.sc (.int .i64 r.1),.sc (.int .i64 r.2)]):=by
 unfold F16 at h
 refine Ret.walk F16.fn ?_
 refine WC.start fun S0 em en hz=>?_
 have hot0:=kt0.rdS em hz
 refine WC.sq (WC.rg (WO.as rfl (WO.as rfl (WO.ni (tN (WC.sq (WC.rg (WO.as rfl (WO.ni (tN (WC.sq (WC.sq (WC.rg (WO.mv rfl ?_))))))))))))))
 refine WO.lenS rfl hot0.slv rfl ?_
 refine WO.mv rfl (WO.ni (tN (WC.block ?_)))
 obtain ⟨b38,e39,h⟩:=bindS h
 refine WC.loopD e39 (fun s1 l' m' n'=>∃ S3:Cx n,∃ v4:SV,S3.m = m'/\S3.n = n'/\Cov l' [(1,.sc (.int .i64 t1)),(6,.sc v4),(9,.sc vt0),(10,.sc (.int .i64 ((t0.length:Int)))),(11,.sc (.int .i64 s1.2))]/\Rd Y3 S3 vt0 t0/\Ow Y3 S3 2 v4 s1.1) (fun b e l' m' n'=>e = .exit 0/\∃ S5:Cx n,∃ v6:SV,S5.m = m'/\S5.n = n'/\Cov l' [(1,.sc (.int .i64 t1)),(6,.sc v6)]/\Ow Y3 S5 2 v6 b) (by exact ⟨S0,.nils,rfl,rfl,(Kc (Kc (Kc (Kc (Kc (Cov.nil _)))))),hot0,Ow.nil⟩) ?_ ?_
 ·clear h
  rintro s1 q _ _ _ ⟨S7,v8,rfl,rfl,hc9,hot0,ho6⟩ h
  unfold F16_l1 at h
  refine WC.cov hc9 ?_
  refine WC.sq (WC.rg ?_)
  refine WO.bi rfl rfl rfl ?_
  refine WO.ni (tN (WC.sq ?_))
  refine WC.cond rfl (fun q10=>?_) (fun q10=>?_)
  ·have h:=iteT q10 h
   refine WC.skip (tN (WC.sq (WC.block (WC.sq (WC.rg (WO.mv rfl ?_))))))
   obtain ⟨x11,e12,h⟩:=bindS h
   refine WO.ixS rfl rfl hot0.slv (at?_lt e12) rfl ?_
   refine WO.ldF rfl hot0.ro (fun _ hi=>hi) (at?_get e12) rfl rfl rfl ?_
   refine WO.as rfl (WO.as rfl (WO.ni (tN (WC.sq (WC.rg (WO.mv rfl (WO.mv rfl (WO.ni (tN (WC.block ?_))))))))))
   obtain ⟨b33,e34,h⟩:=bindS h
   refine WC.loopD e34 (fun s13 l' m' n'=>∃ S15:Cx n,∃ v16:SV,S15.m = m'/\S15.n = n'/\Cov l' [(1,.sc (.int .i64 t1)),(6,.sc v16),(7,.sc (.int .i64 s1.2)),(9,.sc vt0),(10,.sc (.int .i64 ((t0.length:Int)))),(11,.sc (.int .i64 s1.2)),(16,.sc (.int .i64 x11)),(17,.sc (.int .i64 s13.2))]/\Rd Y3 S15 vt0 t0/\Ow Y3 S15 2 v16 s13.1) (fun b e l' m' n'=>e = .exit 2/\∃ S17:Cx n,∃ v18:SV,S17.m = m'/\S17.n = n'/\Cov l' [(1,.sc (.int .i64 t1)),(6,.sc v18),(9,.sc vt0),(10,.sc (.int .i64 ((t0.length:Int)))),(11,.sc (.int .i64 s1.2))]/\Rd Y3 S17 vt0 t0/\Ow Y3 S17 2 v18 b) (by exact ⟨S7,v8,rfl,rfl,(Kc (Kc (Kc (Kc (Kc (Kc (Kc (Kc (Cov.nil _))))))))),hot0,ho6⟩) ?_ ?_
   ·clear h
    rintro s13 q _ _ _ ⟨S19,v20,rfl,rfl,hc21,hot0,ho6⟩ h
    unfold F16_l0 at h
    refine WC.cov hc21 ?_
    refine WC.sq (WC.rg ?_)
    refine WO.bi rfl rfl rfl ?_
    refine WO.ni (tN (WC.sq ?_))
    refine WC.cond rfl (fun q22=>?_) (fun q22=>?_)
    ·have h:=iteT q22 h
     refine WC.skip (tN (WC.sq (WC.block (WC.rg (WO.mv rfl (WO.mv rfl ?_))))))
     refine WO.bsS (A:=Y3) (S:=S19) (M:=[s1.2]) (cs:=[.int .i64 s1.2]) 3 rfl rfl rfl ⟨[.int .i64 s1.2],_,rfl,rfl,rfl⟩ rfl (fun v23 S24 c25 ho26=>?_)
     have hot0:=hot0.to c25
     have ho6:=ho6.to c25
     obtain ⟨L27,e28,h⟩:=bindS h
     refine WO.appS rfl rfl ho6 ho26.ro e28 rfl rfl (fun v29 S30 c31 ho32=>?_)
     have hot0:=hot0.to c31
     refine WO.as rfl (WO.ni (bN (tN (WC.rg ?_))))
     refine WO.bi rfl rfl rfl ?_
     refine WO.mv rfl (WO.ni (tN ?_))
     obtain rfl:=someI h
     exact ⟨_,rfl,⟨S30,v29,rfl,rfl,(Kc (Kc (Kc (Kc (Kc (Kc (Kc (Kc (Cov.nil _))))))))),hot0,ho32⟩⟩
    ·have h:=iteF q22 h
     refine WC.exit (tE (tE ?_))
     obtain rfl:=someI h
     exact ⟨_,rfl,rfl,⟨S19,v20,rfl,rfl,(Kc (Kc (Kc (Kc (Kc (Cov.nil _)))))),hot0,ho6⟩⟩
   rintro _ _ _ _ ⟨rfl,⟨S35,v36,rfl,rfl,hc37,hot0,ho6⟩⟩
   refine bS (bN (tN ?_))
   refine WC.cov hc37 ?_
   refine WC.rg ?_
   refine WO.bi rfl rfl rfl ?_
   refine WO.mv rfl (WO.ni (tN ?_))
   obtain rfl:=someI h
   exact ⟨_,rfl,⟨S35,v36,rfl,rfl,(Kc (Kc (Kc (Kc (Kc (Cov.nil _)))))),hot0,ho6⟩⟩
  ·have h:=iteF q10 h
   refine WC.exit (tE (tE ?_))
   obtain rfl:=someI h
   exact ⟨_,rfl,rfl,⟨S7,v8,rfl,rfl,(Kc (Kc (Cov.nil _))),ho6⟩⟩
 rintro _ _ _ _ ⟨rfl,⟨S40,v41,rfl,rfl,hc42,ho6⟩⟩
 refine bS (tN ?_)
 refine WC.cov hc42 ?_
 refine WC.sq (WC.sq (WC.rg (WO.mv rfl ?_)))
 refine WO.lenS rfl ho6.slv rfl ?_
 refine WO.bi rfl rfl rfl ?_
 refine WO.ni (tN ?_)
 refine WC.cond rfl (fun q43=>?_) (fun q43=>?_)
 ·have h:=iteT q43 h
  refine WC.sq (WC.rg (WO.as rfl (WO.as rfl (WO.ni (tN (WC.ret (tR ?_)))))))
  obtain rfl:=someI h
  exact ⟨.inr rfl,_,_,rfl,rfl,rfl⟩
 ·have h:=iteF q43 h
  refine WC.skip (tN (WC.sq (WC.sq (WC.rg (WO.mv rfl ?_)))))
  refine WO.bi rfl rfl rfl ?_
  refine WO.mv rfl ?_
  refine WO.cutB (d:=35) 5 ((decide (t1 < 0)) || (decide (t1 ≥ (b38.length:Int)))) (fun q44=>?_) (fun q44=>?_) ?_
  ·refine WO.gno rfl rfl (WO.gno rfl rfl (WO.gno rfl rfl (WO.gno rfl rfl ?_)))
   refine WO.pickT rfl rfl ?_
   refine WO.ni ?_
   exact ⟨rfl,rfl,(Cov.any rfl (orT q44) (Ks (Ks (Ks (Ks (Ks (Ks (Cov.refl _))))))))⟩
  ·skip
   refine WO.gyes rfl rfl (WO.mv rfl (WO.gyes rfl rfl (WO.mv rfl (WO.gyes rfl rfl ?_))))
   refine WO.lenS rfl ho6.slv rfl ?_
   refine WO.gyes rfl rfl ?_
   refine WO.bi rfl rfl rfl ?_
   refine WO.pickF rfl rfl ?_
   refine WO.ni ?_
   exact ⟨rfl,rfl,(Cov.any rfl (orF q44) (Ks (Ks (Ks (Ks (Ks (Ks (Cov.refl _))))))))⟩
  refine WO.ni (tN ?_)
  refine WC.cond rfl (fun q45=>?_) (fun q45=>?_)
  ·have h:=iteT q45 h
   refine WC.sq (WC.rg (WO.as rfl (WO.as rfl (WO.ni (tN (WC.ret (tR ?_)))))))
   obtain rfl:=someI h
   exact ⟨.inr rfl,_,_,rfl,rfl,rfl⟩
  ·have h:=iteF q45 h
   refine WC.skip (tN (WC.sq (WC.rg (WO.mv rfl (WO.mv rfl ?_)))))
   obtain ⟨x46,e47,h⟩:=bindS h
   refine WO.ixS rfl rfl ho6.slv (at?_lt e47) rfl ?_
   refine WO.ldF rfl ho6.ro (fun _ hi=>hi) (at?_get e47) rfl rfl rfl ?_
   refine WO.as rfl (WO.as rfl (WO.ni (tN (WC.ret ?_))))
   obtain rfl:=someI h
   exact ⟨.inr rfl,_,_,rfl,rfl,rfl⟩
open Go.Am
theorem F18.fn:E.fn 18 = some (fi 5 Tryd.f18 []):=rfl
theorem F18_ok {F:Nat} {m:Mem} {n:Nat} {r:Bool} {t0:Int} (h:F18 F t0 = some r) :Ret E n 18 [.sc (.int .i64 t0)] m n (fun v m' n'=>v = .sc (.bool r)):=by
 unfold F18 at h
 refine Ret.walk F18.fn ?_
 refine WC.start fun S0 em en hz=>?_
 refine WC.sq (WC.rg (WO.as rfl (WO.ni (tN (WC.sq (WC.rg (WO.mv rfl ?_)))))))
 refine WO.bi rfl rfl rfl ?_
 refine WO.as rfl (WO.ni (tN (WC.ret ?_)))
 obtain rfl:=someI h
 exact ⟨.inr rfl,_,_,rfl,rfl,rfl⟩
open Go.Am
theorem F46_18.fn:E.fn 46 = some (fi 19 Tryd.f46 []):=rfl
theorem F46_18_ok {F:Nat} {m:Mem} {n:Nat} {r:Int} {t0:List Int} {vt0:SV} (h:F46_18 F t0 = some r) (kt0:Vw Y3 n m vt0 t0):Ret E n 46 [.sc vt0,.sc (.fn 18 [])] m n (fun v m' n'=>v = .sc (.int .i64 r)):=by
 unfold F46_18 at h
 refine Ret.walk F46_18.fn ?_
 refine WC.start fun S0 em en hz=>?_
 have hot0:=kt0.rdS em hz
 refine WC.sq (WC.rg (WO.as rfl (WO.ni (tN (WC.sq (WC.sq (WC.rg (WO.mv rfl ?_))))))))
 refine WO.lenS rfl hot0.slv rfl ?_
 refine WO.mv rfl (WO.ni (tN (WC.block ?_)))
 obtain ⟨b16,e17,h⟩:=bindS h
 refine WC.loopD e17 (fun s1 l' m' n'=>∃ S2:Cx n,S2.m = m'/\S2.n = n'/\Cov l' [(0,.sc vt0),(1,.sc (.fn 18 [])),(7,.sc (.int .i64 ((t0.length:Int)))),(8,.sc (.int .i64 s1))]/\Rd Y3 S2 vt0 t0) (fun b e l' m' n'=>(match b with | .inl b3=>e = .exit 0/\∃ S4:Cx n,S4.m = m'/\S4.n = n'/\Cov l' [] | .inr b3=>e = .ret/\∃ S5:Cx n,S5.m = m'/\S5.n = n'/\Cov l' [(4,.sc (.int .i64 b3))])) (by exact ⟨S0,rfl,rfl,(Kc (Kc (Kc (Kc (Cov.nil _))))),hot0⟩) ?_ ?_
 ·clear h
  rintro s1 q _ _ _ ⟨S6,rfl,rfl,hc7,hot0⟩ h
  unfold F46_18_l0 at h
  refine WC.cov hc7 ?_
  refine WC.sq (WC.rg ?_)
  refine WO.bi rfl rfl rfl ?_
  refine WO.ni (tN (WC.sq ?_))
  refine WC.cond rfl (fun q8=>?_) (fun q8=>?_)
  ·have h:=iteT q8 h
   refine WC.skip (tN (WC.sq (WC.block (WC.sq (WC.rg (WO.mv rfl (WO.as rfl (WO.ni (tN (WC.sq (WC.rg (WO.mv rfl (WO.mv rfl (WO.mv rfl ?_))))))))))))))
   obtain ⟨x9,e10,h⟩:=bindS h
   refine WO.ixS rfl rfl hot0.slv (at?_lt e10) rfl ?_
   refine WO.ldF rfl hot0.ro (fun _ hi=>hi) (at?_get e10) rfl rfl rfl ?_
   obtain ⟨r11,e12,h⟩:=bindS h
   refine WO.callE (S:=S6) rfl rfl (F18_ok e12) (fun S13 c14=>?_)
   have hot0:=hot0.to c14
   refine WO.ni (tN ?_)
   refine WC.cond rfl (fun q15=>?_) (fun q15=>?_)
   ·have h:=iteT q15 h
    refine WC.sq (WC.rg (WO.mv rfl (WO.as rfl (WO.ni (tN (WC.ret (bR (tR (tR ?_)))))))))
    obtain rfl:=someI h
    exact ⟨_,rfl,rfl,⟨S13,rfl,rfl,(Kc (Cov.nil _))⟩⟩
   ·have h:=iteF q15 h
    refine WC.skip (bN (tN (WC.rg ?_)))
    refine WO.bi rfl rfl rfl ?_
    refine WO.mv rfl (WO.ni (tN ?_))
    obtain rfl:=someI h
    exact ⟨_,rfl,⟨S13,rfl,rfl,(Kc (Kc (Kc (Kc (Cov.nil _))))),hot0⟩⟩
  ·have h:=iteF q8 h
   refine WC.exit (tE (tE ?_))
   obtain rfl:=someI h
   exact ⟨_,rfl,rfl,⟨S6,rfl,rfl,(Cov.nil _)⟩⟩
 cases b16 with
 | inl b18=>
  simp only at h
  rintro _ _ _ _ ⟨rfl,⟨S19,rfl,rfl,hc20⟩⟩
  refine bS (tN ?_)
  refine WC.cov hc20 ?_
  refine WC.sq (WC.rg (WO.as rfl (WO.ni (tN (WC.ret ?_)))))
  obtain rfl:=someI h
  exact ⟨.inr rfl,_,_,rfl,rfl,rfl⟩
 | inr b18=>
  simp only at h
  rintro _ _ _ _ ⟨rfl,⟨S21,rfl,rfl,hc22⟩⟩
  refine bR (tR ?_)
  obtain rfl:=someI h
  exact ⟨.inr rfl,_,_,(resK_cov hc22 rfl),rfl,rfl⟩
open Go.Am
theorem F17_18.fn:E.fn 17 = some (fi 9 Tryd.f17 []):=rfl
theorem F17_18_ok {F:Nat} {m:Mem} {n:Nat} {r:Bool} {t0:List Int} {vt0:SV} (h:F17_18 F t0 = some r) (kt0:Vw Y3 n m vt0 t0):Ret E n 17 [.sc vt0,.sc (.fn 18 [])] m n (fun v m' n'=>v = .sc (.bool r)):=by
 unfold F17_18 at h
 refine Ret.walk F17_18.fn ?_
 refine WC.start fun S0 em en hz=>?_
 have hot0:=kt0.rdS em hz
 refine WC.sq (WC.rg (WO.as rfl (WO.ni (tN (WC.sq (WC.rg (WO.mv rfl (WO.mv rfl ?_))))))))
 obtain ⟨r1,e2,h⟩:=bindS h
 refine WO.callE (S:=S0) rfl rfl (F46_18_ok e2 hot0.vw) (fun S3 c4=>?_)
 refine WO.bi rfl rfl rfl ?_
 refine WO.as rfl (WO.ni (tN (WC.ret ?_)))
 obtain rfl:=someI h
 exact ⟨.inr rfl,_,_,rfl,rfl,rfl⟩
open Go.Am
theorem F19.fn:E.fn 19 = some (fi 79 Tryd.f19 []):=rfl
theorem F19_ok {F:Nat} {m:Mem} {n:Nat} {r:Int} {t0:List Int} {t1:List Int} {vt0:SV} {vt1:SV} (h:F19 F t0 t1 = some r) (kt0:Vw Y3 n m vt0 t0) (kt1:Vw Y3 n m vt1 t1):Ret E n 19 [.sc vt0,.sc vt1] m n (fun v m' n'=>v = .sc (.int .i64 r)):=by
 unfold F19 at h
 refine Ret.walk F19.fn ?_
 refine WC.start fun S0 em en hz=>?_
 have hot0:=kt0.rdS em hz
 have hot1:=kt1.rdS em hz
 refine WC.sq (WC.rg (WO.as rfl (WO.ni (tN (WC.sq (WC.sq (WC.rg (WO.mv rfl ?_))))))))
 refine WO.lenS rfl hot0.slv rfl ?_
 refine WO.mv rfl (WO.ni (tN (WC.block ?_)))
 obtain ⟨b51,e52,h⟩:=bindS h
 refine WC.loopD e52 (fun s1 l' m' n'=>∃ S2:Cx n,S2.m = m'/\S2.n = n'/\Cov l' [(0,.sc vt0),(1,.sc vt1),(9,.sc (.int .i64 ((t0.length:Int)))),(10,.sc (.int .i64 s1))]/\Rd Y3 S2 vt0 t0/\Rd Y3 S2 vt1 t1) (fun b e l' m' n'=>(match b with | .inl b3=>e = .exit 0/\∃ S4:Cx n,S4.m = m'/\S4.n = n'/\Cov l' [] | .inr b3=>e = .ret/\∃ S5:Cx n,S5.m = m'/\S5.n = n'/\Cov l' [(4,.sc (.int .i64 b3))])) (by exact ⟨S0,rfl,rfl,(Kc (Kc (Kc (Kc (Cov.nil _))))),hot0,hot1⟩) ?_ ?_
 ·clear h
  rintro s1 q _ _ _ ⟨S6,rfl,rfl,hc7,hot0,hot1⟩ h
  unfold F19_l1 at h
  refine WC.cov hc7 ?_
  refine WC.sq (WC.rg ?_)
  refine WO.bi rfl rfl rfl ?_
  refine WO.ni (tN (WC.sq ?_))
  refine WC.cond rfl (fun q8=>?_) (fun q8=>?_)
  ·have h:=iteT q8 h
   refine WC.skip (tN (WC.sq (WC.block (WC.sq (WC.rg (WO.mv rfl (WO.as rfl (WO.ni (tN (WC.sq (WC.sq (WC.rg (WO.mv rfl (WO.mv rfl ?_))))))))))))))
   obtain ⟨x9,e10,h⟩:=bindS h
   refine WO.ixS rfl rfl hot0.slv (at?_lt e10) rfl ?_
   refine WO.ldF rfl hot0.ro (fun _ hi=>hi) (at?_get e10) rfl rfl rfl ?_
   refine WO.bi rfl rfl rfl ?_
   refine WO.ni (tN ?_)
   refine WC.cond rfl (fun q11=>?_) (fun q11=>?_)
   ·have h:=iteT q11 h
    refine WC.exit (tE (bS (tN (WC.rg ?_))))
    refine WO.bi rfl rfl rfl ?_
    refine WO.mv rfl (WO.ni (tN ?_))
    obtain rfl:=someI h
    exact ⟨_,rfl,⟨S6,rfl,rfl,(Kc (Kc (Kc (Kc (Cov.nil _))))),hot0,hot1⟩⟩
   ·have h:=iteF q11 h
    refine WC.skip (tN (WC.sq (WC.rg (WO.as rfl (WO.ni (tN (WC.sq (WC.sq (WC.rg (WO.mv rfl ?_))))))))))
    refine WO.lenS rfl hot0.slv rfl ?_
    refine WO.mv rfl (WO.ni (tN (WC.block ?_)))
    obtain ⟨b46,e47,h⟩:=bindS h
    refine WC.loopD e47 (fun s12 l' m' n'=>∃ S13:Cx n,S13.m = m'/\S13.n = n'/\Cov l' [(0,.sc vt0),(1,.sc vt1),(5,.sc (.int .i64 s1)),(6,.sc (.bool s12.1)),(9,.sc (.int .i64 ((t0.length:Int)))),(10,.sc (.int .i64 s1)),(19,.sc (.int .i64 ((t0.length:Int)))),(20,.sc (.int .i64 s12.2))]/\Rd Y3 S13 vt0 t0/\Rd Y3 S13 vt1 t1) (fun b e l' m' n'=>e = .exit 2/\∃ S14:Cx n,S14.m = m'/\S14.n = n'/\Cov l' [(0,.sc vt0),(1,.sc vt1),(5,.sc (.int .i64 s1)),(6,.sc (.bool b)),(9,.sc (.int .i64 ((t0.length:Int)))),(10,.sc (.int .i64 s1))]/\Rd Y3 S14 vt0 t0/\Rd Y3 S14 vt1 t1) (by exact ⟨S6,rfl,rfl,(Kc (Kc (Kc (Kc (Kc (Kc (Kc (Kc (Cov.nil _))))))))),hot0,hot1⟩) ?_ ?_
    ·clear h
     rintro s12 q _ _ _ ⟨S15,rfl,rfl,hc16,hot0,hot1⟩ h
     unfold F19_l0 at h
     refine WC.cov hc16 ?_
     refine WC.sq (WC.rg ?_)
     refine WO.bi rfl rfl rfl ?_
     refine WO.ni (tN (WC.sq ?_))
     refine WC.cond rfl (fun q17=>?_) (fun q17=>?_)
     ·have h:=iteT q17 h
      refine WC.skip (tN (WC.sq (WC.block (WC.sq (WC.rg (WO.mv rfl (WO.as rfl (WO.ni (tN (WC.sq ?_))))))))))
      refine WC.drawP rfl rfl ?_
      refine WO.mv rfl (WO.mv rfl ?_)
      obtain ⟨x18,e19,h⟩:=bindS h
      refine WO.ixS rfl rfl hot0.slv (at?_lt e19) rfl ?_
      refine WO.ldF rfl hot0.ro (fun _ hi=>hi) (at?_get e19) rfl rfl (limLe_self _) ?_
      refine WO.bi rfl rfl rfl ?_
      refine WO.mv rfl ?_
      obtain ⟨y43,e44,h⟩:=bindS h
      refine WO.cutB (d:=74) 46 y43 (fun q42=>?_) (fun q42=>?_) ?_
      ·have h:=e44
       have h:=iteT q42 h
       refine WO.gyes rfl rfl (WO.mv rfl (WO.gyes rfl rfl (WO.mv rfl (WO.gyes rfl rfl ?_))))
       obtain ⟨x20,e21,h⟩:=bindS h
       refine WO.ixS rfl rfl hot1.slv (at?_lt e21) rfl ?_
       refine WO.gyes rfl rfl ?_
       refine WO.ldF rfl hot1.ro (fun _ hi=>hi) (at?_get e21) rfl rfl (limLe_self _) ?_
       refine WO.gyes rfl rfl (WO.mv rfl (WO.gyes rfl rfl (WO.mv rfl (WO.gyes rfl rfl ?_))))
       obtain ⟨x22,e23,h⟩:=bindS h
       refine WO.ixS rfl rfl hot0.slv (at?_lt e23) rfl ?_
       refine WO.gyes rfl rfl ?_
       refine WO.ldF rfl hot0.ro (fun _ hi=>hi) (at?_get e23) rfl rfl (limLe_self _) ?_
       refine WO.gyes rfl rfl ?_
       refine WO.bi rfl rfl rfl ?_
       refine WO.gyes rfl rfl (WO.mv rfl (WO.gyes rfl rfl (WO.mv rfl (WO.gyes rfl rfl ?_))))
       obtain ⟨x24,e25,h⟩:=bindS h
       refine WO.ixS rfl rfl hot1.slv (at?_lt e25) rfl ?_
       refine WO.gyes rfl rfl ?_
       refine WO.ldF rfl hot1.ro (fun _ hi=>hi) (at?_get e25) rfl rfl (limLe_self _) ?_
       refine WO.gyes rfl rfl (WO.mv rfl (WO.gyes rfl rfl (WO.mv rfl (WO.gyes rfl rfl ?_))))
       obtain ⟨x26,e27,h⟩:=bindS h
       refine WO.ixS rfl rfl hot0.slv (at?_lt e27) rfl ?_
       refine WO.gyes rfl rfl ?_
       refine WO.ldF rfl hot0.ro (fun _ hi=>hi) (at?_get e27) rfl rfl (limLe_self _) ?_
       refine WO.gyes rfl rfl ?_
       refine WO.bi rfl rfl rfl ?_
       refine WO.gyes rfl rfl ?_
       refine WO.bi rfl rfl rfl ?_
       refine WO.gyes rfl rfl (WO.mv rfl ?_)
       obtain ⟨y40,e41,h⟩:=bindS h
       refine WO.cutB (d:=73) 25 y40 (fun q39=>?_) (fun q39=>?_) ?_
       ·have h:=e41
        have h:=iteT q39 h
        obtain rfl:=someI h
        refine WO.gno rfl rfl (WO.gno rfl rfl (WO.gno rfl rfl (WO.gno rfl rfl (WO.gskip rfl rfl (WO.gskip rfl rfl (WO.gskip rfl rfl (WO.gskip rfl rfl (WO.gskip rfl rfl (WO.gskip rfl rfl (WO.gskip rfl rfl (WO.gskip rfl rfl (WO.gskip rfl rfl (WO.gskip rfl rfl (WO.gskip rfl rfl (WO.gskip rfl rfl ?_)))))))))))))))
        refine WO.gskip rfl rfl (WO.gskip rfl rfl (WO.gskip rfl rfl (WO.gskip rfl rfl (WO.gskip rfl rfl (WO.gskip rfl rfl (WO.gskip rfl rfl (WO.gno rfl rfl (WO.gyes rfl rfl ?_))))))))
        refine WO.pickT rfl rfl ?_
        refine WO.ni ?_
        exact ⟨rfl,rfl,(Kc (Ks (Ks (Ks (Ks (Ks (Ks (Ks (Ks (Ks (Ks (Ks (Ks (Ks (Ks (Ks (Ks (Ks (Ks (Ks (Ks (Ks (Ks (Ks (Ks (Ks (Ks (Cov.refl _))))))))))))))))))))))))))))⟩
       ·have h:=e41
        have h:=iteF q39 h
        refine WO.gyes rfl rfl (WO.mv rfl (WO.gyes rfl rfl (WO.mv rfl (WO.gyes rfl rfl ?_))))
        refine WO.bi rfl rfl rfl ?_
        refine WO.gyes rfl rfl (WO.mv rfl ?_)
        obtain ⟨y37,e38,h⟩:=bindS h
        refine WO.cutB (d:=72) 20 y37 (fun q36=>?_) (fun q36=>?_) ?_
        ·have h:=e38
         have h:=iteT q36 h
         refine WO.gyes rfl rfl (WO.mv rfl (WO.gyes rfl rfl (WO.mv rfl (WO.gyes rfl rfl ?_))))
         obtain ⟨x28,e29,h⟩:=bindS h
         refine WO.ixS rfl rfl hot1.slv (at?_lt e29) rfl ?_
         refine WO.gyes rfl rfl ?_
         refine WO.ldF rfl hot1.ro (fun _ hi=>hi) (at?_get e29) rfl rfl (limLe_self _) ?_
         refine WO.gyes rfl rfl (WO.mv rfl (WO.gyes rfl rfl (WO.mv rfl (WO.gyes rfl rfl ?_))))
         obtain ⟨x30,e31,h⟩:=bindS h
         refine WO.ixS rfl rfl hot0.slv (at?_lt e31) rfl ?_
         refine WO.gyes rfl rfl ?_
         refine WO.ldF rfl hot0.ro (fun _ hi=>hi) (at?_get e31) rfl rfl (limLe_self _) ?_
         refine WO.gyes rfl rfl ?_
         refine WO.bi rfl rfl rfl ?_
         refine WO.gyes rfl rfl (WO.mv rfl (WO.gyes rfl rfl (WO.mv rfl (WO.gyes rfl rfl ?_))))
         obtain ⟨x32,e33,h⟩:=bindS h
         refine WO.ixS rfl rfl hot1.slv (at?_lt e33) rfl ?_
         refine WO.gyes rfl rfl ?_
         refine WO.ldF rfl hot1.ro (fun _ hi=>hi) (at?_get e33) rfl rfl (limLe_self _) ?_
         refine WO.gyes rfl rfl (WO.mv rfl (WO.gyes rfl rfl (WO.mv rfl (WO.gyes rfl rfl ?_))))
         obtain ⟨x34,e35,h⟩:=bindS h
         refine WO.ixS rfl rfl hot0.slv (at?_lt e35) rfl ?_
         refine WO.gyes rfl rfl ?_
         refine WO.ldF rfl hot0.ro (fun _ hi=>hi) (at?_get e35) rfl rfl (limLe_self _) ?_
         refine WO.gyes rfl rfl ?_
         refine WO.bi rfl rfl rfl ?_
         refine WO.gyes rfl rfl ?_
         refine WO.bi rfl rfl rfl ?_
         obtain rfl:=someI h
         refine WO.gyes rfl rfl ?_
         refine WO.pickT rfl rfl ?_
         refine WO.ni ?_
         exact ⟨rfl,rfl,(Kc (Ks (Ks (Ks (Ks (Ks (Ks (Ks (Ks (Ks (Ks (Ks (Ks (Ks (Ks (Ks (Ks (Ks (Ks (Ks (Ks (Ks (Cov.refl _)))))))))))))))))))))))⟩
        ·have h:=e38
         have h:=iteF q36 h
         obtain rfl:=someI h
         refine WO.gno rfl rfl (WO.gno rfl rfl (WO.gno rfl rfl (WO.gno rfl rfl (WO.gno rfl rfl (WO.gno rfl rfl (WO.gno rfl rfl (WO.gno rfl rfl (WO.gno rfl rfl (WO.gno rfl rfl (WO.gno rfl rfl (WO.gno rfl rfl (WO.gno rfl rfl (WO.gno rfl rfl (WO.gno rfl rfl (WO.gno rfl rfl ?_)))))))))))))))
         refine WO.gno rfl rfl (WO.gno rfl rfl (WO.gno rfl rfl (WO.gyes rfl rfl ?_)))
         refine WO.pickF rfl rfl ?_
         refine WO.ni ?_
         exact ⟨rfl,rfl,(Kc (Ks (Ks (Ks (Ks (Ks (Ks (Ks (Ks (Ks (Ks (Ks (Ks (Ks (Ks (Ks (Ks (Ks (Ks (Ks (Ks (Ks (Cov.refl _)))))))))))))))))))))))⟩
        obtain rfl:=someI h
        refine WO.gyes rfl rfl ?_
        refine WO.pickF rfl rfl ?_
        refine WO.ni ?_
        exact ⟨rfl,rfl,(Kc (Ks (Ks (Ks (Ks (Ks (Ks (Cov.refl _))))))))⟩
       obtain rfl:=someI h
       refine WO.pickT rfl rfl ?_
       refine WO.ni ?_
       exact ⟨rfl,rfl,(Kc (Ks (Ks (Ks (Ks (Ks (Ks (Ks (Ks (Ks (Ks (Ks (Ks (Ks (Ks (Ks (Ks (Ks (Ks (Ks (Ks (Ks (Ks (Cov.refl _))))))))))))))))))))))))⟩
      ·have h:=e44
       have h:=iteF q42 h
       obtain rfl:=someI h
       refine WO.gno rfl rfl (WO.gno rfl rfl (WO.gno rfl rfl (WO.gno rfl rfl (WO.gno rfl rfl (WO.gno rfl rfl (WO.gno rfl rfl (WO.gno rfl rfl (WO.gno rfl rfl (WO.gno rfl rfl (WO.gno rfl rfl (WO.gno rfl rfl (WO.gno rfl rfl (WO.gno rfl rfl (WO.gno rfl rfl (WO.gno rfl rfl ?_)))))))))))))))
       refine WO.gno rfl rfl (WO.gno rfl rfl (WO.gno rfl rfl (WO.gno rfl rfl (WO.gskip rfl rfl (WO.gskip rfl rfl (WO.gskip rfl rfl (WO.gskip rfl rfl (WO.gskip rfl rfl (WO.gskip rfl rfl (WO.gskip rfl rfl (WO.gskip rfl rfl (WO.gskip rfl rfl (WO.gskip rfl rfl (WO.gskip rfl rfl (WO.gskip rfl rfl ?_)))))))))))))))
       refine WO.gskip rfl rfl (WO.gskip rfl rfl (WO.gskip rfl rfl (WO.gskip rfl rfl (WO.gskip rfl rfl (WO.gskip rfl rfl (WO.gskip rfl rfl (WO.gskip rfl rfl (WO.gskip rfl rfl (WO.gskip rfl rfl (WO.gskip rfl rfl (WO.gskip rfl rfl (WO.gno rfl rfl ?_))))))))))))
       refine WO.pickF rfl rfl ?_
       refine WO.ni ?_
       exact ⟨rfl,rfl,(Kc (Ks (Ks (Ks (Ks (Ks (Ks (Ks (Ks (Ks (Ks (Ks (Ks (Ks (Ks (Ks (Ks (Ks (Ks (Ks (Ks (Ks (Ks (Ks (Ks (Ks (Ks (Ks (Ks (Ks (Ks (Ks (Ks (Ks (Ks (Ks (Ks (Ks (Ks (Ks (Ks (Ks (Ks (Ks (Ks (Ks (Ks (Ks (Cov.refl _)))))))))))))))))))))))))))))))))))))))))))))))))⟩
      refine WO.ni (tN ?_)
      refine WC.cond rfl (fun q45=>?_) (fun q45=>?_)
      ·have h:=iteT q45 h
       refine WC.rg (WO.as rfl (WO.ni (bN (tN (WC.rg ?_)))))
       refine WO.bi rfl rfl rfl ?_
       refine WO.mv rfl (WO.ni (tN ?_))
       obtain rfl:=someI h
       exact ⟨_,rfl,⟨S15,rfl,rfl,(Kc (Kc (Kc (Kc (Kc (Kc (Kc (Kc (Cov.nil _))))))))),hot0,hot1⟩⟩
      ·have h:=iteF q45 h
       refine WC.skip (bN (tN (WC.rg ?_)))
       refine WO.bi rfl rfl rfl ?_
       refine WO.mv rfl (WO.ni (tN ?_))
       obtain rfl:=someI h
       exact ⟨_,rfl,⟨S15,rfl,rfl,(Kc (Kc (Kc (Kc (Kc (Kc (Kc (Kc (Cov.nil _))))))))),hot0,hot1⟩⟩
     ·have h:=iteF q17 h
      refine WC.exit (tE (tE ?_))
      obtain rfl:=someI h
      exact ⟨_,rfl,rfl,⟨S15,rfl,rfl,(Kc (Kc (Kc (Kc (Kc (Kc (Cov.nil _))))))),hot0,hot1⟩⟩
    rintro _ _ _ _ ⟨rfl,⟨S48,rfl,rfl,hc49,hot0,hot1⟩⟩
    refine bS (tN ?_)
    refine WC.cov hc49 ?_
    refine WC.sq (WC.rg (WO.mv rfl (WO.ni (tN ?_))))
    refine WC.cond rfl (fun q50=>?_) (fun q50=>?_)
    ·have h:=iteT q50 h
     refine WC.sq (WC.rg (WO.mv rfl (WO.as rfl (WO.ni (tN (WC.ret (bR (tR (tR ?_)))))))))
     obtain rfl:=someI h
     exact ⟨_,rfl,rfl,⟨S48,rfl,rfl,(Kc (Cov.nil _))⟩⟩
    ·have h:=iteF q50 h
     refine WC.skip (bN (tN (WC.rg ?_)))
     refine WO.bi rfl rfl rfl ?_
     refine WO.mv rfl (WO.ni (tN ?_))
     obtain rfl:=someI h
     exact ⟨_,rfl,⟨S48,rfl,rfl,(Kc (Kc (Kc (Kc (Cov.nil _))))),hot0,hot1⟩⟩
  ·have h:=iteF q8 h
   refine WC.exit (tE (tE ?_))
   obtain rfl:=someI h
   exact ⟨_,rfl,rfl,⟨S6,rfl,rfl,(Cov.nil _)⟩⟩
 cases b51 with
 | inl b53=>
  simp only at h
  rintro _ _ _ _ ⟨rfl,⟨S54,rfl,rfl,hc55⟩⟩
  refine bS (tN ?_)
  refine WC.cov hc55 ?_
  refine WC.sq (WC.rg (WO.as rfl (WO.ni (tN (WC.ret ?_)))))
  obtain rfl:=someI h
  exact ⟨.inr rfl,_,_,rfl,rfl,rfl⟩
 | inr b53=>
  simp only at h
  rintro _ _ _ _ ⟨rfl,⟨S56,rfl,rfl,hc57⟩⟩
  refine bR (tR ?_)
  obtain rfl:=someI h
  exact ⟨.inr rfl,_,_,(resK_cov hc57 rfl),rfl,rfl⟩
open Go.Am
theorem F66.fn:E.fn 66 = some (fi 17 Tryd.f66 []):=rfl
theorem F66_ok {F:Nat} {m:Mem} {n:Nat} {r:(List UInt8)} {t0:List UInt8} {t1:Int} (h:F66 F t0 t1 = some r) :Ret E n 66 [.sc (.str t0),.sc (.int .u8 t1)] m n (fun v m' n'=>v = .sc (.str r)):=by
 unfold F66 at h
 refine Ret.walk F66.fn ?_
 refine WC.start fun S0 em en hz=>?_
 refine WC.sq (WC.rg (WO.as rfl (WO.ni (tN (WC.sq (WC.block ?_))))))
 obtain ⟨b14,e15,h⟩:=bindS h
 refine WC.loopD e15 (fun s1 l' m' n'=>∃ S2:Cx n,S2.m = m'/\S2.n = n'/\Cov l' [(0,.sc (.str s1)),(1,.sc (.int .u8 t1))]) (fun b e l' m' n'=>e = .exit 0/\∃ S3:Cx n,S3.m = m'/\S3.n = n'/\Cov l' [(0,.sc (.str b))]) (by exact ⟨S0,rfl,rfl,(Kc (Kc (Cov.nil _)))⟩) ?_ ?_
 ·clear h
  rintro s1 q _ _ _ ⟨S4,rfl,rfl,hc5⟩ h
  unfold F66_l0 at h
  refine WC.cov hc5 ?_
  refine WC.sq (WC.sq (WC.rg (WO.mv rfl ?_)))
  refine WO.lenT rfl rfl rfl ?_
  refine WO.bi rfl rfl rfl ?_
  refine WO.mv rfl ?_
  obtain ⟨y9,e10,h⟩:=bindS h
  refine WO.cutB (d:=13) 5 y9 (fun q8=>?_) (fun q8=>?_) ?_
  ·have h:=e10
   have h:=iteT q8 h
   refine WO.gyes rfl rfl (WO.mv rfl (WO.gyes rfl rfl ?_))
   obtain ⟨x6,e7,h⟩:=bindS h
   refine WO.ixT rfl rfl e7 rfl rfl ?_
   refine WO.gyes rfl rfl (WO.mv rfl (WO.gyes rfl rfl ?_))
   refine WO.bi rfl rfl rfl ?_
   obtain rfl:=someI h
   refine WO.pickT rfl rfl ?_
   refine WO.ni ?_
   exact ⟨rfl,rfl,(Kc (Ks (Ks (Ks (Ks (Ks (Ks (Cov.refl _))))))))⟩
  ·have h:=e10
   have h:=iteF q8 h
   obtain rfl:=someI h
   refine WO.gno rfl rfl (WO.gno rfl rfl (WO.gno rfl rfl (WO.gno rfl rfl ?_)))
   refine WO.pickF rfl rfl ?_
   refine WO.ni ?_
   exact ⟨rfl,rfl,(Kc (Ks (Ks (Ks (Ks (Ks (Ks (Cov.refl _))))))))⟩
  refine WO.ni (tN ?_)
  refine WC.cond rfl (fun q11=>?_) (fun q11=>?_)
  ·have h:=iteT q11 h
   refine WC.skip (tN (WC.block (WC.rg (WO.mv rfl ?_))))
   obtain ⟨x12,e13,h⟩:=bindS h
   refine WO.slcT (k':=.i64) rfl (.inl ⟨_,rfl,rfl⟩) (.inr ⟨rfl,rfl⟩) e13 rfl rfl ?_
   refine WO.as rfl (WO.ni (bN (tN ?_)))
   obtain rfl:=someI h
   exact ⟨_,rfl,⟨S4,rfl,rfl,(Kc (Kc (Cov.nil _)))⟩⟩
  ·have h:=iteF q11 h
   refine WC.exit (tE (tE ?_))
   obtain rfl:=someI h
   exact ⟨_,rfl,rfl,⟨S4,rfl,rfl,(Kc (Cov.nil _))⟩⟩
 rintro _ _ _ _ ⟨rfl,⟨S16,rfl,rfl,hc17⟩⟩
 refine bS (tN ?_)
 refine WC.cov hc17 ?_
 refine WC.sq (WC.rg (WO.mv rfl (WO.as rfl (WO.ni (tN (WC.ret ?_))))))
 obtain rfl:=someI h
 exact ⟨.inr rfl,_,_,rfl,rfl,rfl⟩
open Go.Am
theorem F67.fn:E.fn 67 = some (fi 23 Tryd.f67 []):=rfl
theorem F67_ok {F:Nat} {m:Mem} {n:Nat} {r:(List UInt8)} {t0:List UInt8} {t1:Int} (h:F67 F t0 t1 = some r) :Ret E n 67 [.sc (.str t0),.sc (.int .u8 t1)] m n (fun v m' n'=>v = .sc (.str r)):=by
 unfold F67 at h
 refine Ret.walk F67.fn ?_
 refine WC.start fun S0 em en hz=>?_
 refine WC.sq (WC.rg (WO.as rfl (WO.ni (tN (WC.sq (WC.block ?_))))))
 obtain ⟨b14,e15,h⟩:=bindS h
 refine WC.loopD e15 (fun s1 l' m' n'=>∃ S2:Cx n,S2.m = m'/\S2.n = n'/\Cov l' [(0,.sc (.str s1)),(1,.sc (.int .u8 t1))]) (fun b e l' m' n'=>e = .exit 0/\∃ S3:Cx n,S3.m = m'/\S3.n = n'/\Cov l' [(0,.sc (.str b))]) (by exact ⟨S0,rfl,rfl,(Kc (Kc (Cov.nil _)))⟩) ?_ ?_
 ·clear h
  rintro s1 q _ _ _ ⟨S4,rfl,rfl,hc5⟩ h
  unfold F67_l0 at h
  refine WC.cov hc5 ?_
  refine WC.sq (WC.sq (WC.rg (WO.mv rfl ?_)))
  refine WO.lenT rfl rfl rfl ?_
  refine WO.bi rfl rfl rfl ?_
  refine WO.mv rfl ?_
  obtain ⟨y9,e10,h⟩:=bindS h
  refine WO.cutB (d:=16) 8 y9 (fun q8=>?_) (fun q8=>?_) ?_
  ·have h:=e10
   have h:=iteT q8 h
   refine WO.gyes rfl rfl (WO.mv rfl (WO.gyes rfl rfl (WO.mv rfl (WO.gyes rfl rfl ?_))))
   refine WO.lenT rfl rfl rfl ?_
   refine WO.gyes rfl rfl ?_
   refine WO.bi rfl rfl rfl ?_
   refine WO.gyes rfl rfl ?_
   obtain ⟨x6,e7,h⟩:=bindS h
   refine WO.ixT rfl rfl e7 rfl rfl ?_
   refine WO.gyes rfl rfl (WO.mv rfl (WO.gyes rfl rfl ?_))
   refine WO.bi rfl rfl rfl ?_
   obtain rfl:=someI h
   refine WO.pickT rfl rfl ?_
   refine WO.ni ?_
   exact ⟨rfl,rfl,(Kc (Ks (Ks (Ks (Ks (Ks (Ks (Ks (Ks (Ks (Cov.refl _)))))))))))⟩
  ·have h:=e10
   have h:=iteF q8 h
   obtain rfl:=someI h
   refine WO.gno rfl rfl (WO.gno rfl rfl (WO.gno rfl rfl (WO.gno rfl rfl (WO.gno rfl rfl (WO.gno rfl rfl (WO.gno rfl rfl ?_))))))
   refine WO.pickF rfl rfl ?_
   refine WO.ni ?_
   exact ⟨rfl,rfl,(Kc (Ks (Ks (Ks (Ks (Ks (Ks (Ks (Ks (Ks (Cov.refl _)))))))))))⟩
  refine WO.ni (tN ?_)
  refine WC.cond rfl (fun q11=>?_) (fun q11=>?_)
  ·have h:=iteT q11 h
   refine WC.skip (tN (WC.block (WC.rg (WO.mv rfl (WO.mv rfl ?_)))))
   refine WO.lenT rfl rfl rfl ?_
   refine WO.bi rfl rfl rfl ?_
   obtain ⟨x12,e13,h⟩:=bindS h
   refine WO.slcT (k:=.i64) rfl (.inr ⟨rfl,rfl⟩) (.inl ⟨_,rfl,rfl⟩) e13 rfl rfl ?_
   refine WO.as rfl (WO.ni (bN (tN ?_)))
   obtain rfl:=someI h
   exact ⟨_,rfl,⟨S4,rfl,rfl,(Kc (Kc (Cov.nil _)))⟩⟩
  ·have h:=iteF q11 h
   refine WC.exit (tE (tE ?_))
   obtain rfl:=someI h
   exact ⟨_,rfl,rfl,⟨S4,rfl,rfl,(Kc (Cov.nil _))⟩⟩
 rintro _ _ _ _ ⟨rfl,⟨S16,rfl,rfl,hc17⟩⟩
 refine bS (tN ?_)
 refine WC.cov hc17 ?_
 refine WC.sq (WC.rg (WO.mv rfl (WO.as rfl (WO.ni (tN (WC.ret ?_))))))
 obtain rfl:=someI h
 exact ⟨.inr rfl,_,_,rfl,rfl,rfl⟩
end Go.Proofs.YtkhokgkgloligaaDoor
namespace Go.Proofs.YtkhokgkgloligaaDoor
set_option maxRecDepth 20000
open Go.Am
theorem F68.fn:E.fn 68 = some (fi 21 Tryd.f68 []):=rfl
theorem F68_ok {F:Nat} {m:Mem} {n:Nat} {r:(List Bool) × Bool} {t0:List UInt8} (h:F68 F t0 = some r) :Ret E n 68 [.sc (.str t0)] m n (fun v m' n'=>v = .tup [.agg (List.map SV.bool r.1),.sc (.bool r.2)]):=by
 unfold F68 at h
 refine Ret.walk F68.fn ?_
 refine WC.start fun S0 em en hz=>?_
 refine WC.sq (WC.rg ?_)
 refine WO.alS (A:=Y122) (S:=S0) (z0:=(List.replicate 256 false)) 2 rfl ⟨List.length_replicate,List.map_replicate.symm⟩ rfl (fun v1 S2 c3 ho4=>?_)
 refine WO.as rfl (WO.ni (tN (WC.sq (WC.sq (WC.rg (WO.as rfl (WO.ni (tN (WC.block ?_)))))))))
 obtain ⟨b23,e24,h⟩:=bindS h
 refine WC.loopD e24 (fun s5 l' m' n'=>∃ S6:Cx n,S6.m = m'/\S6.n = n'/\Cov l' [(0,.sc (.str t0)),(2,.sc v1),(4,.sc (.int .i64 s5.1))]/\Bk Y122 S6 2 v1 s5.2) (fun b e l' m' n'=>(match b with | .inl b7=>e = .exit 0/\∃ S8:Cx n,S8.m = m'/\S8.n = n'/\Cov l' [(2,.sc v1)]/\Bk Y122 S8 2 v1 b7 | .inr b7=>e = .ret/\∃ S9:Cx n,S9.m = m'/\S9.n = n'/\Cov l' [(2,.sc v1),(3,.sc (.bool b7.1))]/\Bk Y122 S9 2 v1 b7.2)) (by exact ⟨S2,rfl,rfl,(Kc (Kc (Kc (Cov.nil _)))),ho4⟩) ?_ ?_
 ·clear h
  rintro s5 q _ _ _ ⟨S10,rfl,rfl,hc11,ho4⟩ h
  unfold F68_l0 at h
  refine WC.cov hc11 ?_
  refine WC.sq (WC.sq (WC.rg (WO.mv rfl (WO.mv rfl ?_))))
  refine WO.lenT rfl rfl rfl ?_
  refine WO.bi rfl rfl rfl ?_
  refine WO.ni (tN ?_)
  refine WC.cond rfl (fun q12=>?_) (fun q12=>?_)
  ·have h:=iteT q12 h
   refine WC.skip (tN (WC.sq (WC.block (WC.sq (WC.rg (WO.mv rfl (WO.mv rfl ?_)))))))
   obtain ⟨x13,e14,h⟩:=bindS h
   refine WO.ixT rfl rfl e14 rfl rfl ?_
   refine WO.as rfl (WO.ni (tN (WC.sq (WC.sq (WC.rg (WO.mv rfl ?_))))))
   refine WO.bi rfl rfl rfl ?_
   refine WO.ni (tN ?_)
   refine WC.cond rfl (fun q15=>?_) (fun q15=>?_)
   ·have h:=iteT q15 h
    refine WC.sq (WC.rg ?_)
    refine WO.ldV (j:=0) rfl ho4.at0 ho4 rfl rfl (fun hv16=>?_)
    refine WO.stV (S:=S10) rfl ho4.at0 rfl ho4 hv16 rfl rfl (fun S17 c18 ho4=>?_)
    refine WO.as rfl (WO.ni (tN (WC.ret (tR (bR (tR (tR ?_)))))))
    obtain rfl:=someI h
    exact ⟨_,rfl,rfl,⟨S17,rfl,rfl,(Kc (Kc (Cov.nil _))),ho4⟩⟩
   ·have h:=iteF q15 h
    refine WC.skip (tN (WC.rg (WO.mv rfl ?_)))
    obtain ⟨u19,e20,h⟩:=bindS h
    refine WO.ixR rfl ho4 rfl (ck_some e20) rfl ?_
    refine WO.stR rfl rfl rfl ho4 (ck_nat e20) rfl rfl (fun S21 c22 ho4=>?_)
    refine WO.ni (bN (tN (WC.rg (WO.mv rfl ?_))))
    refine WO.bi rfl rfl rfl ?_
    refine WO.as rfl (WO.ni (tN ?_))
    obtain rfl:=someI h
    exact ⟨_,rfl,⟨S21,rfl,rfl,(Kc (Kc (Kc (Cov.nil _)))),ho4⟩⟩
  ·have h:=iteF q12 h
   refine WC.exit (tE (tE ?_))
   obtain rfl:=someI h
   exact ⟨_,rfl,rfl,⟨S10,rfl,rfl,(Kc (Cov.nil _)),ho4⟩⟩
 cases b23 with
 | inl b25=>
  simp only at h
  rintro _ _ _ _ ⟨rfl,⟨S26,rfl,rfl,hc27,ho4⟩⟩
  refine bS (tN ?_)
  refine WC.cov hc27 ?_
  refine WC.sq (WC.rg ?_)
  refine WO.ldV (j:=0) rfl ho4.at0 ho4 rfl rfl (fun hv28=>?_)
  refine WO.stV (S:=S26) rfl ho4.at0 rfl ho4 hv28 rfl rfl (fun S29 c30 ho4=>?_)
  refine WO.as rfl (WO.ni (tN (WC.ret ?_)))
  have hcell:=ho4
  obtain rfl:=someI h
  exact ⟨.inr rfl,_,_,(resK_ar hcell (Cov.refl _) rfl rfl (resK_t (Cov.refl _) rfl rfl)),rfl,rfl⟩
 | inr b25=>
  simp only at h
  rintro _ _ _ _ ⟨rfl,⟨S31,rfl,rfl,hc32,ho4⟩⟩
  refine bR (tR ?_)
  have hcell:=ho4
  obtain rfl:=someI h
  exact ⟨.inr rfl,_,_,(resK_ar hcell hc32 rfl rfl (resK_t hc32 rfl rfl)),rfl,rfl⟩
open Go.Am
theorem F83.fn:E.fn 83 = some (fi 10 Tryd.f83 []):=rfl
theorem F83_ok {F:Nat} {m:Mem} {n:Nat} {r:Bool} {t0:List Bool} {t1:Int} {bt0:Nat} (h:F83 F t0 t1 = some r) (kt0:Pv Y122 n m bt0 t0):Ret E n 83 [.sc (.ptr bt0 0),.sc (.int .u8 t1)] m n (fun v m' n'=>v = .sc (.bool r)):=by
 unfold F83 at h
 refine Ret.walk F83.fn ?_
 refine WC.start fun S0 em en hz=>?_
 have hot0:=kt0.rpS em hz
 refine WC.sq (WC.rg (WO.as rfl (WO.ni (tN (WC.sq (WC.rg (WO.mv rfl (WO.mv rfl ?_))))))))
 refine WO.nck rfl hot0.isp ?_
 obtain ⟨x1,e2,h⟩:=bindS h
 refine WO.ixRp rfl hot0 rfl (at?_lt e2) rfl ?_
 refine WO.ldRp rfl rfl hot0 (at?_get e2) rfl rfl ?_
 refine WO.as rfl (WO.ni (tN (WC.ret ?_)))
 obtain rfl:=someI h
 exact ⟨.inr rfl,_,_,rfl,rfl,rfl⟩
open Go.Am
theorem F69.fn:E.fn 69 = some (fi 16 Tryd.f69 []):=rfl
theorem F69_ok {F:Nat} {m:Mem} {n:Nat} {r:(List UInt8)} {t0:List UInt8} {t1:List Bool} {bt1:Nat} (h:F69 F t0 t1 = some r) (kt1:Pv Y122 n m bt1 t1):Ret E n 69 [.sc (.str t0),.sc (.ptr bt1 0)] m n (fun v m' n'=>v = .sc (.str r)):=by
 unfold F69 at h
 refine Ret.walk F69.fn ?_
 refine WC.start fun S0 em en hz=>?_
 have hot1:=kt1.rpS em hz
 refine WC.sq (WC.rg (WO.as rfl (WO.ni (tN (WC.sq (WC.block ?_))))))
 obtain ⟨b16,e17,h⟩:=bindS h
 refine WC.loopD e17 (fun s1 l' m' n'=>∃ S2:Cx n,S2.m = m'/\S2.n = n'/\Cov l' [(0,.sc (.str s1)),(1,.sc ((.ptr bt1 0)))]/\Rp Y122 S2 (.ptr bt1 0) t1) (fun b e l' m' n'=>e = .exit 0/\∃ S3:Cx n,S3.m = m'/\S3.n = n'/\Cov l' [(0,.sc (.str b))]) (by exact ⟨S0,rfl,rfl,(Kc (Kc (Cov.nil _))),hot1⟩) ?_ ?_
 ·clear h
  rintro s1 q _ _ _ ⟨S4,rfl,rfl,hc5,hot1⟩ h
  unfold F69_l0 at h
  refine WC.cov hc5 ?_
  refine WC.sq (WC.sq (WC.rg (WO.mv rfl ?_)))
  refine WO.lenT rfl rfl rfl ?_
  refine WO.bi rfl rfl rfl ?_
  refine WO.ni (tN ?_)
  refine WC.cond rfl (fun q6=>?_) (fun q6=>?_)
  ·have h:=iteT q6 h
   refine WC.skip (tN (WC.block (WC.sq (WC.sq (WC.rg (WO.mv rfl (WO.mv rfl ?_)))))))
   obtain ⟨x7,e8,h⟩:=bindS h
   refine WO.ixT rfl rfl e8 rfl rfl ?_
   obtain ⟨r9,e10,h⟩:=bindS h
   refine WO.callE (S:=S4) rfl rfl (F83_ok e10 hot1.pv) (fun S11 c12=>?_)
   have hot1:=hot1.to c12
   refine WO.do rfl rfl (WO.ni (tN ?_))
   refine WC.cond rfl (fun q13=>?_) (fun q13=>?_)
   ·have h:=iteT q13 h
    refine WC.exit (tE (bE rfl (tE ?_)))
    obtain rfl:=someI h
    exact ⟨_,rfl,rfl,⟨S11,rfl,rfl,(Kc (Cov.nil _))⟩⟩
   ·have h:=iteF q13 h
    refine WC.skip (tN (WC.rg (WO.mv rfl ?_)))
    obtain ⟨x14,e15,h⟩:=bindS h
    refine WO.slcT (k':=.i64) rfl (.inl ⟨_,rfl,rfl⟩) (.inr ⟨rfl,rfl⟩) e15 rfl rfl ?_
    refine WO.as rfl (WO.ni (bN (tN ?_)))
    obtain rfl:=someI h
    exact ⟨_,rfl,⟨S11,rfl,rfl,(Kc (Kc (Cov.nil _))),hot1⟩⟩
  ·have h:=iteF q6 h
   refine WC.exit (tE (tE ?_))
   obtain rfl:=someI h
   exact ⟨_,rfl,rfl,⟨S4,rfl,rfl,(Kc (Cov.nil _))⟩⟩
 rintro _ _ _ _ ⟨rfl,⟨S18,rfl,rfl,hc19⟩⟩
 refine bS (tN ?_)
 refine WC.cov hc19 ?_
 refine WC.sq (WC.rg (WO.mv rfl (WO.as rfl (WO.ni (tN (WC.ret ?_))))))
 obtain rfl:=someI h
 exact ⟨.inr rfl,_,_,rfl,rfl,rfl⟩
open Go.Am
theorem F70.fn:E.fn 70 = some (fi 22 Tryd.f70 []):=rfl
theorem F70_ok {F:Nat} {m:Mem} {n:Nat} {r:(List UInt8)} {t0:List UInt8} {t1:List Bool} {bt1:Nat} (h:F70 F t0 t1 = some r) (kt1:Pv Y122 n m bt1 t1):Ret E n 70 [.sc (.str t0),.sc (.ptr bt1 0)] m n (fun v m' n'=>v = .sc (.str r)):=by
 unfold F70 at h
 refine Ret.walk F70.fn ?_
 refine WC.start fun S0 em en hz=>?_
 have hot1:=kt1.rpS em hz
 refine WC.sq (WC.rg (WO.as rfl (WO.ni (tN (WC.sq (WC.block ?_))))))
 obtain ⟨b16,e17,h⟩:=bindS h
 refine WC.loopD e17 (fun s1 l' m' n'=>∃ S2:Cx n,S2.m = m'/\S2.n = n'/\Cov l' [(0,.sc (.str s1)),(1,.sc ((.ptr bt1 0)))]/\Rp Y122 S2 (.ptr bt1 0) t1) (fun b e l' m' n'=>e = .exit 0/\∃ S3:Cx n,S3.m = m'/\S3.n = n'/\Cov l' [(0,.sc (.str b))]) (by exact ⟨S0,rfl,rfl,(Kc (Kc (Cov.nil _))),hot1⟩) ?_ ?_
 ·clear h
  rintro s1 q _ _ _ ⟨S4,rfl,rfl,hc5,hot1⟩ h
  unfold F70_l0 at h
  refine WC.cov hc5 ?_
  refine WC.sq (WC.sq (WC.rg (WO.mv rfl ?_)))
  refine WO.lenT rfl rfl rfl ?_
  refine WO.bi rfl rfl rfl ?_
  refine WO.ni (tN ?_)
  refine WC.cond rfl (fun q6=>?_) (fun q6=>?_)
  ·have h:=iteT q6 h
   refine WC.skip (tN (WC.block (WC.sq (WC.sq (WC.rg (WO.mv rfl (WO.mv rfl (WO.mv rfl ?_))))))))
   refine WO.lenT rfl rfl rfl ?_
   refine WO.bi rfl rfl rfl ?_
   obtain ⟨x7,e8,h⟩:=bindS h
   refine WO.ixT rfl rfl e8 rfl rfl ?_
   obtain ⟨r9,e10,h⟩:=bindS h
   refine WO.callE (S:=S4) rfl rfl (F83_ok e10 hot1.pv) (fun S11 c12=>?_)
   have hot1:=hot1.to c12
   refine WO.do rfl rfl (WO.ni (tN ?_))
   refine WC.cond rfl (fun q13=>?_) (fun q13=>?_)
   ·have h:=iteT q13 h
    refine WC.exit (tE (bE rfl (tE ?_)))
    obtain rfl:=someI h
    exact ⟨_,rfl,rfl,⟨S11,rfl,rfl,(Kc (Cov.nil _))⟩⟩
   ·have h:=iteF q13 h
    refine WC.skip (tN (WC.rg (WO.mv rfl (WO.mv rfl ?_))))
    refine WO.lenT rfl rfl rfl ?_
    refine WO.bi rfl rfl rfl ?_
    obtain ⟨x14,e15,h⟩:=bindS h
    refine WO.slcT (k:=.i64) rfl (.inr ⟨rfl,rfl⟩) (.inl ⟨_,rfl,rfl⟩) e15 rfl rfl ?_
    refine WO.as rfl (WO.ni (bN (tN ?_)))
    obtain rfl:=someI h
    exact ⟨_,rfl,⟨S11,rfl,rfl,(Kc (Kc (Cov.nil _))),hot1⟩⟩
  ·have h:=iteF q6 h
   refine WC.exit (tE (tE ?_))
   obtain rfl:=someI h
   exact ⟨_,rfl,rfl,⟨S4,rfl,rfl,(Kc (Cov.nil _))⟩⟩
 rintro _ _ _ _ ⟨rfl,⟨S18,rfl,rfl,hc19⟩⟩
 refine bS (tN ?_)
 refine WC.cov hc19 ?_
 refine WC.sq (WC.rg (WO.mv rfl (WO.as rfl (WO.ni (tN (WC.ret ?_))))))
 obtain rfl:=someI h
 exact ⟨.inr rfl,_,_,rfl,rfl,rfl⟩
open Go.Am
theorem F47.fn:E.fn 47 = some (fi 43 Tryd.f47 []):=rfl
theorem F47_ok {F:Nat} {m:Mem} {n:Nat} {r:(List UInt8)} {t0:List UInt8} {t1:List UInt8} (h:F47 F t0 t1 = some r) :Ret E n 47 [.sc (.str t0),.sc (.str t1)] m n (fun v m' n'=>v = .sc (.str r)):=by
 unfold F47 at h
 refine Ret.walk F47.fn ?_
 refine WC.start fun S0 em en hz=>?_
 refine WC.sq (WC.rg (WO.as rfl (WO.ni (tN (WC.sq (WC.sq (WC.rg (WO.mv rfl (WO.do rfl rfl (WO.mv rfl ?_))))))))))
 refine WO.cutB (d:=12) 3 ((t0 == []) || (t1 == [])) (fun q1=>?_) (fun q1=>?_) ?_
 ·refine WO.gno rfl rfl (WO.gno rfl rfl ?_)
  refine WO.pickT rfl rfl ?_
  refine WO.ni ?_
  exact ⟨rfl,rfl,(Cov.any rfl (orT q1) (Ks (Ks (Ks (Ks (Cov.refl _))))))⟩
 ·skip
  refine WO.gyes rfl rfl (WO.mv rfl (WO.gyes rfl rfl (WO.do rfl rfl ?_)))
  refine WO.pickF rfl rfl ?_
  refine WO.ni ?_
  exact ⟨rfl,rfl,(Cov.any rfl (orF q1) (Ks (Ks (Ks (Ks (Cov.refl _))))))⟩
 refine WO.ni (tN ?_)
 refine WC.cond rfl (fun q2=>?_) (fun q2=>?_)
 ·have h:=iteT q2 h
  refine WC.sq (WC.rg (WO.mv rfl (WO.as rfl (WO.ni (tN (WC.ret (tR ?_)))))))
  obtain rfl:=someI h
  exact ⟨.inr rfl,_,_,rfl,rfl,rfl⟩
 ·have h:=iteF q2 h
  refine WC.skip (tN (WC.sq (WC.sq (WC.rg (WO.mv rfl ?_)))))
  refine WO.lenT rfl rfl rfl ?_
  refine WO.bi rfl rfl rfl ?_
  refine WO.mv rfl ?_
  obtain ⟨y6,e7,h⟩:=bindS h
  refine WO.cutB (d:=21) 4 y6 (fun q5=>?_) (fun q5=>?_) ?_
  ·have h:=e7
   have h:=iteT q5 h
   refine WO.gyes rfl rfl (WO.mv rfl (WO.gyes rfl rfl ?_))
   obtain ⟨x3,e4,h⟩:=bindS h
   refine WO.ixT rfl rfl e4 rfl rfl ?_
   refine WO.gyes rfl rfl ?_
   refine WO.bi rfl rfl rfl ?_
   obtain rfl:=someI h
   refine WO.pickT rfl rfl ?_
   refine WO.ni ?_
   exact ⟨rfl,rfl,(Kc (Ks (Ks (Ks (Ks (Ks (Cov.refl _)))))))⟩
  ·have h:=e7
   have h:=iteF q5 h
   obtain rfl:=someI h
   refine WO.gno rfl rfl (WO.gno rfl rfl (WO.gno rfl rfl ?_))
   refine WO.pickF rfl rfl ?_
   refine WO.ni ?_
   exact ⟨rfl,rfl,(Kc (Ks (Ks (Ks (Ks (Ks (Cov.refl _)))))))⟩
  refine WO.ni (tN ?_)
  refine WC.cond rfl (fun q8=>?_) (fun q8=>?_)
  ·have h:=iteT q8 h
   refine WC.sq ?_
   refine WC.drawN rfl rfl ?_
   refine WO.mv rfl (WO.mv rfl ?_)
   obtain ⟨x9,e10,h⟩:=bindS h
   refine WO.ixT rfl rfl e10 rfl rfl ?_
   obtain ⟨r11,e12,h⟩:=bindS h
   refine WO.callE (S:=S0) rfl rfl (F67_ok e12) (fun S13 c14=>?_)
   refine WO.mv rfl ?_
   obtain ⟨x15,e16,h⟩:=bindS h
   refine WO.ixT rfl rfl e16 rfl rfl ?_
   obtain ⟨r17,e18,h⟩:=bindS h
   refine WO.callE (S:=S13) rfl rfl (F66_ok e18) (fun S19 c20=>?_)
   refine WO.as rfl (WO.ni (tN (WC.ret (tR ?_))))
   obtain rfl:=someI h
   exact ⟨.inr rfl,_,_,rfl,rfl,rfl⟩
  ·have h:=iteF q8 h
   refine WC.skip (tN (WC.sq (WC.sq (WC.rg (WO.mv rfl ?_)))))
   obtain ⟨r21,e22,h⟩:=bindS h
   refine WO.callE (S:=S0) rfl rfl (F68_ok e22) (fun S23 c24=>?_)
   refine WO.mv rfl (WO.do rfl rfl (WO.do rfl rfl ?_))
   refine WO.alS (A:=Y122) (S:=S23) (z0:=(List.replicate 256 false)) 2 rfl ⟨List.length_replicate,List.map_replicate.symm⟩ rfl (fun v25 S26 c27 ho28=>?_)
   obtain ⟨u31,e32,h⟩:=bindS h
   refine WO.stV (S:=S26) rfl ho28.at0 rfl ho28 (ckN?_ok e32) rfl rfl (fun S29 c30 ho28=>?_)
   refine WO.as rfl (WO.ni (tN (WC.sq (WC.rg (WO.mv rfl (WO.ni (tN ?_)))))))
   refine WC.cond rfl (fun q33=>?_) (fun q33=>?_)
   ·have h:=iteT q33 h
    refine WC.sq (WC.rg (WO.mv rfl ?_))
    obtain ⟨b34,rfl⟩:=ho28.isp
    obtain ⟨r35,e36,h⟩:=bindS h
    refine WO.callE (S:=S29) rfl rfl (F70_ok e36 ho28.pv) (fun S37 c38=>?_)
    have ho28:=ho28.to c38
    obtain ⟨r39,e40,h⟩:=bindS h
    refine WO.callE (S:=S37) rfl rfl (F69_ok e40 ho28.pv) (fun S41 c42=>?_)
    refine WO.as rfl (WO.ni (tN (WC.ret (tR ?_))))
    obtain rfl:=someI h
    exact ⟨.inr rfl,_,_,rfl,rfl,rfl⟩
   ·have h:=iteF q33 h
    refine WC.skip (tN (WC.sq (WC.rg (WO.mv rfl (WO.mv rfl ?_)))))
    cases h
end Go.Proofs.YtkhokgkgloligaaDoor
namespace Go.Proofs.YtkhokgkgloligaaDoor
open Go.Am
theorem F20.fn:E.fn 20 = some (fi 15 Tryd.f20 []):=rfl
theorem F20_ok {F:Nat} {m:Mem} {n:Nat} {r:Bool} {t0:List UInt8} (h:F20 F t0 = some r) :Ret E n 20 [.sc (.str t0)] m n (fun v m' n'=>v = .sc (.bool r)):=by
 unfold F20 at h
 refine Ret.walk F20.fn ?_
 refine WC.start fun S0 em en hz=>?_
 refine WC.sq (WC.rg (WO.as rfl (WO.ni (tN (WC.sq (WC.rg (WO.mv rfl (WO.do rfl rfl (WO.mv rfl ?_)))))))))
 refine WO.cutB (d:=9) 4 ((!(t0 == [])) && (decide ((t0.length:Int) < 13))) (fun q1=>?_) (fun q1=>?_) ?_
 ·skip
  refine WO.gyes rfl rfl (WO.mv rfl (WO.gyes rfl rfl ?_))
  refine WO.lenT rfl rfl rfl ?_
  refine WO.gyes rfl rfl ?_
  refine WO.bi rfl rfl rfl ?_
  refine WO.pickT rfl rfl ?_
  refine WO.ni ?_
  exact ⟨rfl,rfl,(Cov.any rfl (andT q1) (Ks (Ks (Ks (Ks (Ks (Cov.refl _)))))))⟩
 ·refine WO.gno rfl rfl (WO.gno rfl rfl (WO.gno rfl rfl ?_))
  refine WO.pickF rfl rfl ?_
  refine WO.ni ?_
  exact ⟨rfl,rfl,(Cov.any rfl (andF q1) (Ks (Ks (Ks (Ks (Ks (Cov.refl _)))))))⟩
 refine WO.mv rfl ?_
 obtain ⟨y7,e8,h⟩:=bindS h
 refine WO.cutS (d:=14) (S:=S0) 4 y7 (fun q6=>?_) (fun q6=>?_) (fun S9 c10=>?_)
 ·have h:=e8
  have h:=iteT q6 h
  refine WO.gyes rfl rfl (WO.mv rfl (WO.gyes rfl rfl ?_))
  obtain ⟨r2,e3,h⟩:=bindS h
  refine WO.callE (S:=S0) rfl rfl (F47_ok e3) (fun S4 c5=>?_)
  refine WO.gyes rfl rfl (WO.do rfl rfl ?_)
  obtain rfl:=someI h
  refine WO.pickT rfl rfl ?_
  refine WO.ni ?_
  exact ⟨S4,rfl,rfl,c5,(Kc (Ks (Ks (Ks (Ks (Ks (Cov.refl _)))))))⟩
 ·have h:=e8
  have h:=iteF q6 h
  obtain rfl:=someI h
  refine WO.gno rfl rfl (WO.gno rfl rfl (WO.gno rfl rfl ?_))
  refine WO.pickF rfl rfl ?_
  refine WO.ni ?_
  exact ⟨S0,rfl,rfl,Ch.refl _ _,(Kc (Ks (Ks (Ks (Ks (Ks (Cov.refl _)))))))⟩
 refine WO.as rfl (WO.ni (tN (WC.ret ?_)))
 obtain rfl:=someI h
 exact ⟨.inr rfl,_,_,rfl,rfl,rfl⟩
open Go.Am
theorem F49.fn:E.fn 49 = some (fi 8 Tryd.f49 []):=rfl
theorem F49_ok {F:Nat} {m:Mem} {n:Nat} {r:Bool} {t0:(List UInt8) × Int × Int} {c0:List UInt8} {bc0:Nat} (h:F49 F t0 c0 = some r) (kc0:Pv Y9 n m bc0 c0):Ret E n 49 [.agg [.str t0.1,.int .i64 t0.2.1,.int .i64 t0.2.2],.sc (.ptr bc0 0)] m n (fun v m' n'=>v = .sc (.bool r)):=by
 unfold F49 at h
 refine Ret.walk F49.fn ?_
 refine WC.start fun S0 em en hz=>?_
 have hoc0:=kc0.rpS em hz
 refine WC.sq (WC.rg ?_)
 refine WO.bxS (A:=Y60) (S:=S0) (u:=(t0.1,t0.2.1,t0.2.2)) 2 rfl rfl rfl rfl (fun v1 S2 c3 ho4=>?_)
 have hoc0:=hoc0.to c3
 refine WO.as rfl (WO.ni (tN (WC.sq (WC.rg ?_))))
 refine WO.fldS (j:=0) (q:=0) rfl ho4.at0 ho4.ptr rfl rfl rfl (by decide) ?_
 refine WO.ldB (j:=0) (q:=0) rfl rfl ho4 rfl rfl rfl ?_
 refine WO.ldP rfl hoc0 rfl rfl rfl ?_
 refine WO.do rfl rfl (WO.as rfl (WO.ni (tN (WC.ret ?_))))
 obtain rfl:=someI h
 exact ⟨.inr rfl,_,_,rfl,rfl,rfl⟩
open Go.Am
theorem F48_49.fn:E.fn 48 = some (fi 19 Tryd.f48 []):=rfl
theorem F48_49_ok {F:Nat} {m:Mem} {n:Nat} {r:Int} {t0:List ((List UInt8) × Int × Int)} {t1c0:List UInt8} {vt0:SV} {bt1c0:Nat} (h:F48_49 F t0 t1c0 = some r) (kt0:Vw Y60 n m vt0 t0) (kt1c0:Pv Y9 n m bt1c0 t1c0):Ret E n 48 [.sc vt0,.sc (.fn 49 [(bt1c0,0)])] m n (fun v m' n'=>v = .sc (.int .i64 r)):=by
 unfold F48_49 at h
 refine Ret.walk F48_49.fn ?_
 refine WC.start fun S0 em en hz=>?_
 have hot0:=kt0.rdS em hz
 have hot1c0:=kt1c0.rpS em hz
 refine WC.sq (WC.rg (WO.as rfl (WO.ni (tN (WC.sq (WC.sq (WC.rg (WO.mv rfl ?_))))))))
 refine WO.lenS rfl hot0.slv rfl ?_
 refine WO.mv rfl (WO.ni (tN (WC.block ?_)))
 obtain ⟨b16,e17,h⟩:=bindS h
 refine WC.loopD e17 (fun s1 l' m' n'=>∃ S2:Cx n,S2.m = m'/\S2.n = n'/\Cov l' [(0,.sc vt0),(1,.sc (.fn 49 [(bt1c0,0)])),(7,.sc (.int .i64 ((t0.length:Int)))),(8,.sc (.int .i64 s1))]/\Rd Y60 S2 vt0 t0/\Rp Y9 S2 (.ptr bt1c0 0) t1c0) (fun b e l' m' n'=>(match b with | .inl b3=>e = .exit 0/\∃ S4:Cx n,S4.m = m'/\S4.n = n'/\Cov l' [] | .inr b3=>e = .ret/\∃ S5:Cx n,S5.m = m'/\S5.n = n'/\Cov l' [(4,.sc (.int .i64 b3))])) (by exact ⟨S0,rfl,rfl,(Kc (Kc (Kc (Kc (Cov.nil _))))),hot0,hot1c0⟩) ?_ ?_
 ·clear h
  rintro s1 q _ _ _ ⟨S6,rfl,rfl,hc7,hot0,hot1c0⟩ h
  unfold F48_49_l0 at h
  refine WC.cov hc7 ?_
  refine WC.sq (WC.rg ?_)
  refine WO.bi rfl rfl rfl ?_
  refine WO.ni (tN (WC.sq ?_))
  refine WC.cond rfl (fun q8=>?_) (fun q8=>?_)
  ·have h:=iteT q8 h
   refine WC.skip (tN (WC.sq (WC.block (WC.sq (WC.rg (WO.mv rfl (WO.as rfl (WO.ni (tN (WC.sq (WC.rg (WO.mv rfl (WO.mv rfl (WO.mv rfl ?_))))))))))))))
   obtain ⟨x9,e10,h⟩:=bindS h
   refine WO.ixS rfl rfl hot0.slv (at?_lt e10) rfl ?_
   refine WO.ldA rfl hot0.ro (fun _ hi=>hi) (at?_get e10) rfl rfl ?_
   obtain ⟨r11,e12,h⟩:=bindS h
   refine WO.callE (S:=S6) rfl rfl (F49_ok e12 hot1c0.pv) (fun S13 c14=>?_)
   have hot0:=hot0.to c14
   have hot1c0:=hot1c0.to c14
   refine WO.ni (tN ?_)
   refine WC.cond rfl (fun q15=>?_) (fun q15=>?_)
   ·have h:=iteT q15 h
    refine WC.sq (WC.rg (WO.mv rfl (WO.as rfl (WO.ni (tN (WC.ret (bR (tR (tR ?_)))))))))
    obtain rfl:=someI h
    exact ⟨_,rfl,rfl,⟨S13,rfl,rfl,(Kc (Cov.nil _))⟩⟩
   ·have h:=iteF q15 h
    refine WC.skip (bN (tN (WC.rg ?_)))
    refine WO.bi rfl rfl rfl ?_
    refine WO.mv rfl (WO.ni (tN ?_))
    obtain rfl:=someI h
    exact ⟨_,rfl,⟨S13,rfl,rfl,(Kc (Kc (Kc (Kc (Cov.nil _))))),hot0,hot1c0⟩⟩
  ·have h:=iteF q8 h
   refine WC.exit (tE (tE ?_))
   obtain rfl:=someI h
   exact ⟨_,rfl,rfl,⟨S6,rfl,rfl,(Cov.nil _)⟩⟩
 cases b16 with
 | inl b18=>
  simp only at h
  rintro _ _ _ _ ⟨rfl,⟨S19,rfl,rfl,hc20⟩⟩
  refine bS (tN ?_)
  refine WC.cov hc20 ?_
  refine WC.sq (WC.rg (WO.as rfl (WO.ni (tN (WC.ret ?_)))))
  obtain rfl:=someI h
  exact ⟨.inr rfl,_,_,rfl,rfl,rfl⟩
 | inr b18=>
  simp only at h
  rintro _ _ _ _ ⟨rfl,⟨S21,rfl,rfl,hc22⟩⟩
  refine bR (tR ?_)
  obtain rfl:=someI h
  exact ⟨.inr rfl,_,_,(resK_cov hc22 rfl),rfl,rfl⟩
open Go.Am
theorem F21.fn:E.fn 21 = some (fi 9 Tryd.f21 []):=rfl
theorem F21_ok {F:Nat} {m:Mem} {n:Nat} {r:Int} {t0:(List ((List UInt8) × Int × Int)) × (List ((List UInt8) × (List UInt8) × Int))} {t1:List UInt8} {vt0_0:SV} {vt0_1:SV} (h:F21 F t0 t1 = some r) (kt0_0:Vw Y60 n m vt0_0 t0.1) (kt0_1:Vw Y63 n m vt0_1 t0.2):Ret E n 21 [.agg [vt0_0,vt0_1],.sc (.str t1)] m n (fun v m' n'=>v = .sc (.int .i64 r)):=by
 unfold F21 at h
 refine Ret.walk F21.fn ?_
 refine WC.start fun S0 em en hz=>?_
 have hot0_0:=kt0_0.rdS em hz
 refine WC.sq (WC.rg ?_)
 refine WO.bxW (S:=S0) (cs:=[vt0_0,vt0_1]) 2 rfl rfl rfl (fun b1 S2 c3 ho4=>?_)
 have hot0_0:=hot0_0.to c3
 refine WO.bxS (A:=Y9) (S:=S2) (u:=t1) 3 rfl rfl rfl rfl (fun v5 S6 c7 ho8=>?_)
 have hot0_0:=hot0_0.to c7
 have ho4:=ho4.to c7
 refine WO.as rfl (WO.ni (tN (WC.sq (WC.rg ?_))))
 refine WO.fldS (j:=0) (q:=0) rfl ho4.at0 ho4.ptr rfl rfl rfl (by decide) ?_
 refine WO.ldW rfl rfl ho4 rfl rfl ho4.lt rfl ?_
 obtain ⟨b9,rfl⟩:=ho8.isp
 refine WO.do rfl rfl ?_
 obtain ⟨r10,e11,h⟩:=bindS h
 refine WO.callE (S:=S6) rfl rfl (F48_49_ok e11 hot0_0.vw ho8.pv) (fun S12 c13=>?_)
 refine WO.as rfl (WO.ni (tN (WC.ret ?_)))
 obtain rfl:=someI h
 exact ⟨.inr rfl,_,_,rfl,rfl,rfl⟩
open Go.Am
theorem F23.fn:E.fn 23 = some (fi 6 Tryd.f23 []):=rfl
theorem F23_ok {F:Nat} {m:Mem} {n:Nat} {r:Bool} {t0:(List UInt8) × (List UInt8) × Int} (h:F23 F t0 = some r) :Ret E n 23 [.agg [.str t0.1,.str t0.2.1,.int .i64 t0.2.2]] m n (fun v m' n'=>v = .sc (.bool r)):=by
 unfold F23 at h
 refine Ret.walk F23.fn ?_
 refine WC.start fun S0 em en hz=>?_
 refine WC.sq (WC.rg ?_)
 refine WO.bxS (A:=Y63) (S:=S0) (u:=(t0.1,t0.2.1,t0.2.2)) 2 rfl rfl rfl rfl (fun v1 S2 c3 ho4=>?_)
 refine WO.as rfl (WO.ni (tN (WC.sq (WC.rg ?_))))
 refine WO.fldS (j:=0) (q:=0) rfl ho4.at0 ho4.ptr rfl rfl rfl (by decide) ?_
 refine WO.ldB (j:=0) (q:=2) rfl rfl ho4 rfl rfl rfl ?_
 refine WO.bi rfl rfl rfl ?_
 refine WO.as rfl (WO.ni (tN (WC.ret ?_)))
 obtain rfl:=someI h
 exact ⟨.inr rfl,_,_,rfl,rfl,rfl⟩
open Go.Am
theorem F50_23.fn:E.fn 50 = some (fi 19 Tryd.f50 []):=rfl
theorem F50_23_ok {F:Nat} {m:Mem} {n:Nat} {r:Int} {t0:List ((List UInt8) × (List UInt8) × Int)} {vt0:SV} (h:F50_23 F t0 = some r) (kt0:Vw Y63 n m vt0 t0):Ret E n 50 [.sc vt0,.sc (.fn 23 [])] m n (fun v m' n'=>v = .sc (.int .i64 r)):=by
 unfold F50_23 at h
 refine Ret.walk F50_23.fn ?_
 refine WC.start fun S0 em en hz=>?_
 have hot0:=kt0.rdS em hz
 refine WC.sq (WC.rg (WO.as rfl (WO.ni (tN (WC.sq (WC.sq (WC.rg (WO.mv rfl ?_))))))))
 refine WO.lenS rfl hot0.slv rfl ?_
 refine WO.mv rfl (WO.ni (tN (WC.block ?_)))
 obtain ⟨b16,e17,h⟩:=bindS h
 refine WC.loopD e17 (fun s1 l' m' n'=>∃ S2:Cx n,S2.m = m'/\S2.n = n'/\Cov l' [(0,.sc vt0),(1,.sc (.fn 23 [])),(7,.sc (.int .i64 ((t0.length:Int)))),(8,.sc (.int .i64 s1))]/\Rd Y63 S2 vt0 t0) (fun b e l' m' n'=>(match b with | .inl b3=>e = .exit 0/\∃ S4:Cx n,S4.m = m'/\S4.n = n'/\Cov l' [] | .inr b3=>e = .ret/\∃ S5:Cx n,S5.m = m'/\S5.n = n'/\Cov l' [(4,.sc (.int .i64 b3))])) (by exact ⟨S0,rfl,rfl,(Kc (Kc (Kc (Kc (Cov.nil _))))),hot0⟩) ?_ ?_
 ·clear h
  rintro s1 q _ _ _ ⟨S6,rfl,rfl,hc7,hot0⟩ h
  unfold F50_23_l0 at h
  refine WC.cov hc7 ?_
  refine WC.sq (WC.rg ?_)
  refine WO.bi rfl rfl rfl ?_
  refine WO.ni (tN (WC.sq ?_))
  refine WC.cond rfl (fun q8=>?_) (fun q8=>?_)
  ·have h:=iteT q8 h
   refine WC.skip (tN (WC.sq (WC.block (WC.sq (WC.rg (WO.mv rfl (WO.as rfl (WO.ni (tN (WC.sq (WC.rg (WO.mv rfl (WO.mv rfl (WO.mv rfl ?_))))))))))))))
   obtain ⟨x9,e10,h⟩:=bindS h
   refine WO.ixS rfl rfl hot0.slv (at?_lt e10) rfl ?_
   refine WO.ldA rfl hot0.ro (fun _ hi=>hi) (at?_get e10) rfl rfl ?_
   obtain ⟨r11,e12,h⟩:=bindS h
   refine WO.callE (S:=S6) rfl rfl (F23_ok e12) (fun S13 c14=>?_)
   have hot0:=hot0.to c14
   refine WO.ni (tN ?_)
   refine WC.cond rfl (fun q15=>?_) (fun q15=>?_)
   ·have h:=iteT q15 h
    refine WC.sq (WC.rg (WO.mv rfl (WO.as rfl (WO.ni (tN (WC.ret (bR (tR (tR ?_)))))))))
    obtain rfl:=someI h
    exact ⟨_,rfl,rfl,⟨S13,rfl,rfl,(Kc (Cov.nil _))⟩⟩
   ·have h:=iteF q15 h
    refine WC.skip (bN (tN (WC.rg ?_)))
    refine WO.bi rfl rfl rfl ?_
    refine WO.mv rfl (WO.ni (tN ?_))
    obtain rfl:=someI h
    exact ⟨_,rfl,⟨S13,rfl,rfl,(Kc (Kc (Kc (Kc (Cov.nil _))))),hot0⟩⟩
  ·have h:=iteF q8 h
   refine WC.exit (tE (tE ?_))
   obtain rfl:=someI h
   exact ⟨_,rfl,rfl,⟨S6,rfl,rfl,(Cov.nil _)⟩⟩
 cases b16 with
 | inl b18=>
  simp only at h
  rintro _ _ _ _ ⟨rfl,⟨S19,rfl,rfl,hc20⟩⟩
  refine bS (tN ?_)
  refine WC.cov hc20 ?_
  refine WC.sq (WC.rg (WO.as rfl (WO.ni (tN (WC.ret ?_)))))
  obtain rfl:=someI h
  exact ⟨.inr rfl,_,_,rfl,rfl,rfl⟩
 | inr b18=>
  simp only at h
  rintro _ _ _ _ ⟨rfl,⟨S21,rfl,rfl,hc22⟩⟩
  refine bR (tR ?_)
  obtain rfl:=someI h
  exact ⟨.inr rfl,_,_,(resK_cov hc22 rfl),rfl,rfl⟩
open Go.Am
theorem F22_23.fn:E.fn 22 = some (fi 42 Tryd.f22 []):=rfl
theorem F22_23_ok {F:Nat} {fl:Nat} {S0:Cx fl} {r:(List ((List UInt8) × (List UInt8) × Int))} {t0:List ((List UInt8) × (List UInt8) × Int)} {vt0:SV} (h:F22_23 F t0 = some r) (hot0:Ow Y63 S0 2 vt0 t0):Ret E fl 22 [.sc vt0,.sc (.fn 23 [])] S0.m S0.n (fun v m' n'=>∃ S':Cx fl,S'.m = m'/\S'.n = n'/\ChM S0 S'/\(∃ w44:SV,v = .sc w44/\Ow Y63 S' 902 w44 r)):=by
 unfold F22_23 at h
 refine Ret.walk F22_23.fn ?_
 have hM:=ChM.refl S0
 refine WC.sq (WC.rg (WO.as rfl (WO.ni (tN (WC.sq (WC.rg (WO.mv rfl (WO.mv rfl ?_))))))))
 obtain ⟨r1,e2,h⟩:=bindS h
 refine WO.callE (S:=S0) rfl rfl (F50_23_ok e2 hot0.vw) (fun S3 c4=>?_)
 have hot0:=hot0.to c4
 have hM:=hM.to c4
 refine WO.as rfl (WO.ni (tN (WC.sq (WC.sq (WC.rg (WO.mv rfl ?_))))))
 refine WO.bi rfl rfl rfl ?_
 refine WO.ni (tN ?_)
 refine WC.cond rfl (fun q5=>?_) (fun q5=>?_)
 ·have h:=iteT q5 h
  refine WC.sq (WC.rg (WO.mv rfl (WO.as rfl (WO.ni (tN (WC.ret (tR ?_)))))))
  have hot0:=hot0.ren (j:=902)
  have hM:=hM.renO 2 902
  obtain rfl:=someI h
  exact ⟨.inr rfl,_,_,rfl,rfl,⟨(S3.ren 2 902),rfl,rfl,hM,vt0,rfl,hot0⟩⟩
 ·have h:=iteF q5 h
  refine WC.skip (tN (WC.sq (WC.sq (WC.rg (WO.mv rfl ?_)))))
  refine WO.bi rfl rfl rfl ?_
  refine WO.as rfl (WO.ni (tN (WC.block ?_)))
  obtain ⟨b29,e30,h⟩:=bindS h
  refine WC.loopD e30 (fun s6 l' m' n'=>∃ S7:Cx fl,S7.m = m'/\S7.n = n'/\Cov l' [(0,.sc vt0),(1,.sc (.fn 23 [])),(5,.sc (.int .i64 s6.1)),(6,.sc (.int .i64 s6.2.1))]/\ChM S0 S7/\Ow Y63 S7 2 vt0 s6.2.2) (fun b e l' m' n'=>e = .exit 0/\∃ S8:Cx fl,S8.m = m'/\S8.n = n'/\Cov l' [(0,.sc vt0),(5,.sc (.int .i64 b.1))]/\ChM S0 S8/\Ow Y63 S8 2 vt0 b.2) (by exact ⟨S3,rfl,rfl,(Kc (Kc (Kc (Kc (Cov.nil _))))),hM,hot0⟩) ?_ ?_
  ·clear h
   rintro s6 q _ _ _ ⟨S9,rfl,rfl,hc10,hM,hot0⟩ h
   unfold F22_23_l0 at h
   refine WC.cov hc10 ?_
   refine WC.sq (WC.sq (WC.rg (WO.mv rfl (WO.mv rfl ?_))))
   refine WO.lenS rfl hot0.slv rfl ?_
   refine WO.bi rfl rfl rfl ?_
   refine WO.ni (tN ?_)
   refine WC.cond rfl (fun q11=>?_) (fun q11=>?_)
   ·have h:=iteT q11 h
    refine WC.skip (tN (WC.sq (WC.block (WC.sq (WC.rg (WO.mv rfl (WO.mv rfl ?_)))))))
    obtain ⟨x12,e13,h⟩:=bindS h
    refine WO.ixS rfl rfl hot0.slv (at?_lt e13) rfl ?_
    refine WO.ldA rfl hot0.ro (fun _ hi=>hi) (at?_get e13) rfl rfl ?_
    refine WO.alS (A:=Y63) (S:=S9) (z0:=(([],[],0):(List UInt8) × (List UInt8) × Int)) 3 rfl rfl rfl (fun v14 S15 c16 ho17=>?_)
    have hM:=hM.to c16
    have hot0:=hot0.to c16
    refine WO.stBA (u':=(x12.1,x12.2.1,x12.2.2)) rfl ho17.at0 rfl ho17 rfl rfl (fun S18 c19 ho17=>?_)
    have hM:=hM.to c19
    have hot0:=hot0.to c19
    refine WO.ni (tN (WC.sq (WC.rg (WO.mv rfl ?_))))
    refine WO.ldBA (j:=0) rfl ho17.at0 ho17 rfl rfl ?_
    obtain ⟨r20,e21,h⟩:=bindS h
    refine WO.callE (S:=S18) rfl rfl (F23_ok e21) (fun S22 c23=>?_)
    have hM:=hM.to c23
    have hot0:=hot0.to c23
    have ho17:=ho17.to c23
    refine WO.do rfl rfl (WO.ni (tN ?_))
    refine WC.cond rfl (fun q24=>?_) (fun q24=>?_)
    ·have h:=iteT q24 h
     refine WC.sq (WC.rg (WO.mv rfl (WO.mv rfl ?_)))
     refine WO.ldBA (j:=0) rfl ho17.at0 ho17 rfl rfl ?_
     obtain ⟨u25,e26,h⟩:=bindS h
     refine WO.ixS rfl rfl hot0.slv (ck_some e26) rfl ?_
     refine WO.stA (u':=(((x12.1,x12.2.1,x12.2.2)).1,((x12.1,x12.2.1,x12.2.2)).2.1,((x12.1,x12.2.1,x12.2.2)).2.2)) rfl rfl hot0 (ck_nat e26) rfl rfl (fun S27 c28 hot0=>?_)
     have hM:=hM.to c28
     refine WO.ni (tN (WC.rg (WO.mv rfl ?_)))
     refine WO.bi rfl rfl rfl ?_
     refine WO.as rfl (WO.ni (bN (tN (WC.rg (WO.mv rfl ?_)))))
     refine WO.bi rfl rfl rfl ?_
     refine WO.as rfl (WO.ni (tN ?_))
     obtain rfl:=someI h
     exact ⟨_,rfl,⟨S27,rfl,rfl,(Kc (Kc (Kc (Kc (Cov.nil _))))),hM,hot0⟩⟩
    ·have h:=iteF q24 h
     refine WC.skip (bN (tN (WC.rg (WO.mv rfl ?_))))
     refine WO.bi rfl rfl rfl ?_
     refine WO.as rfl (WO.ni (tN ?_))
     obtain rfl:=someI h
     exact ⟨_,rfl,⟨S22,rfl,rfl,(Kc (Kc (Kc (Kc (Cov.nil _))))),hM,hot0⟩⟩
   ·have h:=iteF q11 h
    refine WC.exit (tE (tE ?_))
    obtain rfl:=someI h
    exact ⟨_,rfl,rfl,⟨S9,rfl,rfl,(Kc (Kc (Cov.nil _))),hM,hot0⟩⟩
  rintro _ _ _ _ ⟨rfl,⟨S31,rfl,rfl,hc32,hM,hot0⟩⟩
  refine bS (tN ?_)
  refine WC.cov hc32 ?_
  refine WC.sq (WC.rg (WO.mv rfl (WO.mv rfl ?_)))
  obtain ⟨L33,e34,h⟩:=bindS h
  refine WO.slcB (k':=.i64) rfl (.inl ⟨_,rfl,rfl⟩) (.inr ⟨rfl,rfl⟩) hot0.wk e34 rfl (fun v35 ho36 b37=>?_)
  have ho36:Wk Y63 S31 2 v35 L33:=ho36
  refine WO.clrB (S:=S31) (z0:=(([],[],0):(List UInt8) × (List UInt8) × Int)) hot0 e34 b37 rfl rfl rfl rfl (fun S38 c39 hot0=>?_)
  have hM:=hM.to c39
  refine WO.ni (tN (WC.sq (WC.rg (WO.mv rfl (WO.mv rfl ?_)))))
  obtain ⟨L40,e41,h⟩:=bindS h
  refine WO.slcO rfl rfl hot0 e41 rfl (fun v42 ho43=>?_)
  refine WO.as rfl (WO.ni (tN (WC.ret ?_)))
  have hM:=hM.renO 2 902
  have ho43:=ho43.ren (j:=902)
  obtain rfl:=someI h
  exact ⟨.inr rfl,_,_,rfl,rfl,⟨(S38.ren 2 902),rfl,rfl,hM,v42,rfl,ho43⟩⟩
end Go.Proofs.YtkhokgkgloligaaDoor
namespace Go.Proofs.YtkhokgkgloligaaDoor
set_option maxHeartbeats 4000000
open Go.Am
theorem F5.fn:E.fn 5 = some (fi 364 Tryd.f5 [1,1000004,1000016,1000018,1000020,1000024,1000026,1000028,1000030,1000032,1000039,1000045,1000047,1000049,1000051,1000068,1000070,1000071]):=rfl
theorem F5_ok {F:Nat} {fl:Nat} {S0:Cx fl} {r:((List ((List UInt8) × Int × Int)) × (List ((List UInt8) × (List UInt8) × Int))) × ((List UInt8) × Int) × Int} {t0:(List ((List UInt8) × Int × Int)) × (List ((List UInt8) × (List UInt8) × Int))} {t1:Int × Int × (List UInt8) × (List UInt8)} {vt0_0:SV} {vt0_1:SV} (h:F5 F t0 t1 = some r) (hot0_0:Rd Y60 S0 vt0_0 t0.1) (hot0_1:Rd Y63 S0 vt0_1 t0.2):Ret E fl 5 [.agg [vt0_0,vt0_1],.agg [.int .i64 t1.1,.int .i64 t1.2.1,.str t1.2.2.1,.str t1.2.2.2]] S0.m S0.n (fun v m' n'=>∃ S':Cx fl,S'.m = m'/\S'.n = n'/\ChM S0 S'/\(∃ w1894 w1895:SV,v = .tup [.agg [w1894,w1895],.agg [.str r.2.1.1,.int .i64 r.2.1.2],.sc (.int .i64 r.2.2)]/\Rd Y60 S' w1894 r.1.1/\Rd Y63 S' w1895 r.1.2)):=by
 unfold F5 at h
 refine Ret.walk F5.fn ?_
 have hM:=ChM.refl S0
 refine WC.sq (WC.rg ?_)
 refine WO.bxW (S:=S0) (cs:=[vt0_0,vt0_1]) 2 rfl rfl rfl (fun b1 S2 c3 ho4=>?_)
 have hot0_0:=hot0_0.to c3
 have hot0_1:=hot0_1.to c3
 have hM:=hM.to c3
 refine WO.bxS (A:=Y35) (S:=S2) (u:=(t1.1,t1.2.1,t1.2.2.1,t1.2.2.2)) 3 rfl rfl rfl rfl (fun v5 S6 c7 ho8=>?_)
 have hot0_0:=hot0_0.to c7
 have hot0_1:=hot0_1.to c7
 have hM:=hM.to c7
 have ho4:=ho4.to c7
 refine WO.alW (S:=S6) (cs:=[.nils,.nils]) 4 rfl rfl rfl (fun b9 S10 c11 ho12=>?_)
 have hot0_0:=hot0_0.to c11
 have hot0_1:=hot0_1.to c11
 have hM:=hM.to c11
 have ho4:=ho4.to c11
 have ho8:=ho8.to c11
 refine WO.alS (A:=Y37) (S:=S10) (z0:=(([],0):(List UInt8) × Int)) 5 rfl rfl rfl (fun v13 S14 c15 ho16=>?_)
 have hot0_0:=hot0_0.to c15
 have hot0_1:=hot0_1.to c15
 have hM:=hM.to c15
 have ho4:=ho4.to c15
 have ho8:=ho8.to c15
 have ho12:=ho12.to c15
 refine WO.as rfl (WO.ni (tN (WC.sq ?_)))
 refine WC.drawN rfl rfl ?_
 have ho4z:=ho4.lt
 have ho8z:=ho8.lt
 refine WO.fldS (j:=0) (q:=0) rfl ho4.at0 ho4.ptr rfl rfl rfl (by decide) ?_
 refine WO.ldW rfl rfl ho4 rfl rfl ho4z (limLe_self _) ?_
 obtain ⟨r17,e18,h⟩:=bindS h
 refine WO.callF (S:=S14) 6 rfl rfl (F13_ok e18 hot0_0.vw) Lay.flat_fl (fun v19 S21 c22 ho20=>?_)
 have hot0_0:=hot0_0.to c22
 have hot0_1:=hot0_1.to c22
 have hM:=hM.to c22
 have ho4:=ho4.to c22
 have ho8:=ho8.to c22
 have ho12:=ho12.to c22
 have ho16:=ho16.to c22
 refine WO.fldS (j:=0) (q:=0) rfl ho4.at0 ho4.ptr rfl rfl rfl (by decide) ?_
 refine WO.ldW rfl rfl ho4 rfl rfl ho4z (limLe_self _) ?_
 obtain ⟨r23,e24,h⟩:=bindS h
 refine WO.callF (S:=S21) 7 rfl rfl (F14_ok e24 hot0_1.vw) Lay.flat_fl (fun v25 S27 c28 ho26=>?_)
 have hot0_0:=hot0_0.to c28
 have hot0_1:=hot0_1.to c28
 have hM:=hM.to c28
 have ho4:=ho4.to c28
 have ho8:=ho8.to c28
 have ho12:=ho12.to c28
 have ho16:=ho16.to c28
 have ho20:=ho20.to c28
 refine WO.fldS (j:=0) (q:=0) rfl ho4.at0 ho4.ptr rfl rfl rfl (by decide) ?_
 refine WO.stW (S:=S27) (r:=[v19,vt0_1]) rfl rfl rfl rfl ho4 rfl rfl rfl rfl rfl (fun S29 c30 ho4=>?_)
 have hot0_0:=hot0_0.to c30
 have hot0_1:=hot0_1.to c30
 have hM:=hM.to c30
 have ho8:=ho8.to c30
 have ho12:=ho12.to c30
 have ho16:=ho16.to c30
 have ho20:=ho20.to c30
 have ho26:=ho26.to c30
 refine WO.fldS (j:=0) (q:=0) rfl ho4.at0 ho4.ptr rfl rfl rfl (by decide) ?_
 refine WO.stW (S:=S29) (r:=[v19,v25]) rfl rfl rfl rfl ho4 rfl rfl rfl rfl rfl (fun S31 c32 ho4=>?_)
 have hot0_0:=hot0_0.to c32
 have hot0_1:=hot0_1.to c32
 have hM:=hM.to c32
 have ho8:=ho8.to c32
 have ho12:=ho12.to c32
 have ho16:=ho16.to c32
 have ho20:=ho20.to c32
 have ho26:=ho26.to c32
 refine WO.ni (tN (WC.sq (WC.rg (WO.do rfl rfl ?_))))
 refine WO.alS (A:=Y37) (S:=S31) (z0:=(([],0):(List UInt8) × Int)) 8 rfl rfl rfl (fun v33 S34 c35 ho36=>?_)
 have hot0_0:=hot0_0.to c35
 have hot0_1:=hot0_1.to c35
 have hM:=hM.to c35
 have ho4:=ho4.to c35
 have ho8:=ho8.to c35
 have ho12:=ho12.to c35
 have ho16:=ho16.to c35
 have ho20:=ho20.to c35
 have ho26:=ho26.to c35
 refine WO.stBA (u':=(([],0):(List UInt8) × Int)) rfl ho36.at0 rfl ho36 rfl rfl (fun S37 c38 ho36=>?_)
 have hot0_0:=hot0_0.to c38
 have hot0_1:=hot0_1.to c38
 have hM:=hM.to c38
 have ho4:=ho4.to c38
 have ho8:=ho8.to c38
 have ho12:=ho12.to c38
 have ho16:=ho16.to c38
 have ho20:=ho20.to c38
 have ho26:=ho26.to c38
 refine WO.ni (tN (WC.sq (WC.sq (WC.rg ?_))))
 refine WO.fldS (j:=0) (q:=0) rfl ho8.at0 ho8.ptr rfl rfl rfl (by decide) ?_
 refine WO.ldB (j:=0) (q:=0) rfl rfl ho8 rfl rfl rfl ?_
 refine WO.bi rfl rfl rfl ?_
 refine WO.mv rfl ?_
 refine WO.cutB (d:=35) 4 ((decide (((t1.1,t1.2.1,t1.2.2.1,t1.2.2.2)).1 < 1)) || (decide (((t1.1,t1.2.1,t1.2.2.1,t1.2.2.2)).1 > 7))) (fun q39=>?_) (fun q39=>?_) ?_
 ·refine WO.gno rfl rfl (WO.gno rfl rfl (WO.gno rfl rfl ?_))
  refine WO.pickT rfl rfl ?_
  refine WO.ni ?_
  exact ⟨rfl,rfl,(Cov.any rfl (orT q39) (Ks (Ks (Ks (Ks (Ks (Cov.refl _)))))))⟩
 ·skip
  refine WO.gyes rfl rfl ?_
  refine WO.fldS (j:=0) (q:=0) rfl ho8.at0 ho8.ptr rfl rfl rfl (by decide) ?_
  refine WO.gyes rfl rfl ?_
  refine WO.ldB (j:=0) (q:=0) rfl rfl ho8 rfl rfl rfl ?_
  refine WO.gyes rfl rfl ?_
  refine WO.bi rfl rfl rfl ?_
  refine WO.pickF rfl rfl ?_
  refine WO.ni ?_
  exact ⟨rfl,rfl,(Cov.any rfl (orF q39) (Ks (Ks (Ks (Ks (Ks (Cov.refl _)))))))⟩
 refine WO.ni (tN ?_)
 refine WC.cond rfl (fun q40=>?_) (fun q40=>?_)
 ·have h:=iteT q40 h
  refine WC.sq ?_
  refine WC.drawDN rfl ?_
  have ho4z:=ho4.lt
  have ho36z:=ho36.lt
  have k41:=hot0_0.bko
  have k42:=hot0_1.bko
  have k43:=ho4.bko
  have k44:=ho8.bko
  have k45:=ho12.bko
  have k46:=ho16.bko
  have k47:=ho20.bko
  have k48:=ho26.bko
  have k49:=ho36.bko
  refine WO.ldWA (sz:=2) (r:=[v19,v25]) rfl ho4.at0 ho4 rfl rfl rfl ho4z (limLe_self _) ?_
  refine WO.ldBAz (j:=0) rfl ho36.at0 ho36 rfl ho36z (limLe_self _) ?_
  refine WO.stW (S:=S37) (r:=[v19,v25]) rfl ho12.at0 rfl rfl ho12 rfl rfl rfl rfl rfl (fun S50 c51 ho12=>?_)
  have hot0_0:=hot0_0.to c51
  have hot0_1:=hot0_1.to c51
  have hM:=hM.to c51
  have ho4:=ho4.to c51
  have ho8:=ho8.to c51
  have ho16:=ho16.to c51
  have ho20:=ho20.to c51
  have ho26:=ho26.to c51
  have ho36:=ho36.to c51
  have n52:=c51.n
  have k53:=hot0_0.bko
  have k54:=hot0_1.bko
  have k55:=ho4.bko
  have k56:=ho8.bko
  have k57:=ho12.bko
  have k58:=ho16.bko
  have k59:=ho20.bko
  have k60:=ho26.bko
  have k61:=ho36.bko
  refine WO.stBA (u':=((((([],0):(List UInt8) × Int)).1,((([],0):(List UInt8) × Int)).2):(List UInt8) × Int)) rfl ho16.at0 rfl ho16 rfl rfl (fun S62 c63 ho16=>?_)
  have hot0_0:=hot0_0.to c63
  have hot0_1:=hot0_1.to c63
  have hM:=hM.to c63
  have ho4:=ho4.to c63
  have ho8:=ho8.to c63
  have ho12:=ho12.to c63
  have ho20:=ho20.to c63
  have ho26:=ho26.to c63
  have ho36:=ho36.to c63
  have n64:=c63.n
  have k65:=hot0_0.bko
  have k66:=hot0_1.bko
  have k67:=ho4.bko
  have k68:=ho8.bko
  have k69:=ho12.bko
  have k70:=ho16.bko
  have k71:=ho20.bko
  have k72:=ho26.bko
  have k73:=ho36.bko
  refine WO.as rfl (WO.ni ?_)
  refine ⟨fun tt hs=>dynOk_of [(1,2)] (by kernel_rfl) ⟨?_,trivial⟩,?_⟩
  ·show djT tt _ _ = true
   have nb87:=k42.nb k49
   have nb95:=k44.nb k46
   have nb102:=k45.nb k49
   refine djT_of hs rfl rfl rfl rfl rfl ?_ ?_ ?_ <;> simp only [NBs,NB1,and_true,true_and] <;> (repeat' apply And.intro) <;> (first | assumption | (apply NB.symm;assumption) | exact NB.none rfl | exact NB.noneR rfl | (apply NB.pt;first | assumption | (apply NB.symm;assumption)) | (apply NB.symm;apply NB.pt;first | assumption | (apply NB.symm;assumption) | (apply NB.symm;apply NB.pt;first | assumption | (apply NB.symm;assumption))))
  clear k41 k42 k43 k44 k45 k46 k47 k48 k49 k53 k54 k55 k56 k57 k58 k59 k60 k61 k65 k66 k67 k68 k69 k70 k71 k72 k73 n52 n64
  refine tN (WC.ret (tR ?_))
  have hcell109:=ho12
  have hcell110:=ho16
  have hM:=hM.drop 6
  have ho20:=ho20.freeze
  have ho26:=ho26.drop 6
  have hM:=hM.drop 7
  have ho20:=ho20.drop 7
  have ho26:=ho26.freeze
  obtain rfl:=someI h
  exact ⟨.inr rfl,_,_,(resK_w (sz:=2) hcell109 (Cov.refl _) rfl rfl rfl (resK_b hcell110 (Cov.refl _) rfl rfl (resK_t (Cov.refl _) rfl rfl))),rfl,⟨((S62.drop 6).drop 7),rfl,rfl,hM,v19,v25,rfl,ho20,ho26⟩⟩
 ·have h:=iteF q40 h
  refine WC.skip (tN (WC.sq (WC.rg ?_)))
  refine WO.ldWA (sz:=2) (r:=[v19,v25]) rfl ho4.at0 ho4 rfl rfl rfl ho4.lt rfl ?_
  obtain ⟨r111,e112,h⟩:=bindS h
  refine WO.callG (S:=S37) [(6,0),(7,0)] [(902,9),(904,10)] rfl rfl (F15_ok (S0:=S37.mp [(6,0),(7,0)]) e112 (ho20.mp0 rfl) (ho26.mp0 rfl)) (fun _ S117 S118 hb hR=>?_)
  obtain ⟨v113,v115,rfl,hR0,hR1⟩:=hR
  have c119:Ch 1 S37 S118:=hb.ch [] 1
  have hot0_0:=hot0_0.to c119
  have hot0_1:=hot0_1.to c119
  have hM:=hM.to c119
  have ho4:=ho4.to c119
  have ho8:=ho8.to c119
  have ho12:=ho12.to c119
  have ho16:=ho16.to c119
  have ho20:=ho20.to c119
  have ho26:=ho26.to c119
  have ho36:=ho36.to c119
  have ho114:=hR0.bkF hb rfl Lay.flat_fl
  have ho116:=hR1.bkF hb rfl Lay.flat_fl
  refine WO.mv rfl (WO.do rfl rfl (WO.do rfl rfl (WO.as rfl (WO.as rfl (WO.ni (tN (WC.sq (WC.sq (WC.rg ?_)))))))))
  refine WO.fldS (j:=0) (q:=0) rfl ho8.at0 ho8.ptr rfl rfl rfl (by decide) ?_
  refine WO.ldB (j:=0) (q:=0) rfl rfl ho8 rfl rfl rfl ?_
  refine WO.bi rfl rfl rfl ?_
  refine WO.mv rfl ?_
  refine WO.cutB (d:=50) 4 ((((t1.1,t1.2.1,t1.2.2.1,t1.2.2.2)).1 == 5) || (((t1.1,t1.2.1,t1.2.2.1,t1.2.2.2)).1 == 7)) (fun q120=>?_) (fun q120=>?_) ?_
  ·refine WO.gno rfl rfl (WO.gno rfl rfl (WO.gno rfl rfl ?_))
   refine WO.pickT rfl rfl ?_
   refine WO.ni ?_
   exact ⟨rfl,rfl,(Cov.any rfl (orT q120) (Ks (Ks (Ks (Ks (Ks (Cov.refl _)))))))⟩
  ·skip
   refine WO.gyes rfl rfl ?_
   refine WO.fldS (j:=0) (q:=0) rfl ho8.at0 ho8.ptr rfl rfl rfl (by decide) ?_
   refine WO.gyes rfl rfl ?_
   refine WO.ldB (j:=0) (q:=0) rfl rfl ho8 rfl rfl rfl ?_
   refine WO.gyes rfl rfl ?_
   refine WO.bi rfl rfl rfl ?_
   refine WO.pickF rfl rfl ?_
   refine WO.ni ?_
   exact ⟨rfl,rfl,(Cov.any rfl (orF q120) (Ks (Ks (Ks (Ks (Ks (Cov.refl _)))))))⟩
  refine WO.ni (tN ?_)
  refine WC.cond rfl (fun q121=>?_) (fun q121=>?_)
  ·have h:=iteT q121 h
   refine WC.sq (WC.rg (WO.as rfl (WO.as rfl (WO.ni (tN (WC.sq (WC.sq (WC.rg ?_))))))))
   refine WO.fldS (j:=0) (q:=0) rfl ho8.at0 ho8.ptr rfl rfl rfl (by decide) ?_
   refine WO.ldB (j:=0) (q:=0) rfl rfl ho8 rfl rfl rfl ?_
   refine WO.bi rfl rfl rfl ?_
   refine WO.ni (tN ?_)
   obtain ⟨b137,e138,h⟩:=bindS h
   refine WC.mono (Q':=(fun b e l' m' n'=>e = .normal/\∃ S139:Cx fl,S139.m = m'/\S139.n = n'/\Cov l' [(2,.sc ((.ptr b1 0))),(4,.sc ((.ptr b9 0))),(5,.sc v13),(7,.sc v33),(10,.sc (.int .i64 b.1)),(11,.sc (.int .i64 b.2))]/\ChM S0 S139/\Bw S139 2 (.ptr b1 0) [v19,v25]/\Ow Y60 S139 6 v19 r17/\Ow Y63 S139 7 v25 r23/\Bw S139 4 (.ptr b9 0) [.nils,.nils]/\Bk Y37 S139 5 v13 ((([],0):(List UInt8) × Int))/\Bk Y37 S139 8 v33 ((([],0):(List UInt8) × Int))) b137) ?_ ?_
   ·have h:=e138
    dsimp only at h ⊢
    refine WC.cond rfl (fun q122=>?_) (fun q122=>?_)
    ·have h:=iteT q122 h
     refine WC.rg (WO.mv rfl ?_)
     refine WO.fldS (j:=0) (q:=0) rfl ho8.at0 ho8.ptr rfl rfl rfl (by decide) ?_
     refine WO.ldB (j:=0) (q:=1) rfl rfl ho8 rfl rfl rfl ?_
     obtain ⟨r123,e124,h⟩:=bindS h
     refine WO.callE (S:=S118) rfl rfl (F16_ok e124 ho114.vw) (fun S125 c126=>?_)
     have hM:=hM.to c126
     have ho4:=ho4.to c126
     have ho12:=ho12.to c126
     have ho16:=ho16.to c126
     have ho20:=ho20.to c126
     have ho26:=ho26.to c126
     have ho36:=ho36.to c126
     refine WO.mv rfl (WO.do rfl rfl (WO.do rfl rfl (WO.as rfl (WO.as rfl (WO.ni ?_)))))
     obtain rfl:=someI h
     exact ⟨rfl,⟨S125,rfl,rfl,(Kc (Kc (Kc (Kc (Kc (Kc (Cov.nil _))))))),hM,ho4,ho20,ho26,ho12,ho16,ho36⟩⟩
    ·have h:=iteF q122 h
     refine WC.sq (WC.rg (WO.mv rfl ?_))
     obtain ⟨r127,e128,h⟩:=bindS h
     refine WO.callE (S:=S118) rfl rfl (F17_18_ok e128 ho116.vw) (fun S129 c130=>?_)
     have hM:=hM.to c130
     have ho4:=ho4.to c130
     have ho12:=ho12.to c130
     have ho16:=ho16.to c130
     have ho20:=ho20.to c130
     have ho26:=ho26.to c130
     have ho36:=ho36.to c130
     have ho114:=ho114.to c130
     have ho116:=ho116.to c130
     refine WO.ni (tN ?_)
     refine WC.cond rfl (fun q131=>?_) (fun q131=>?_)
     ·have h:=iteT q131 h
      refine WC.rg (WO.as rfl (WO.ni ?_))
      obtain rfl:=someI h
      exact ⟨rfl,⟨S129,rfl,rfl,(Kc (Kc (Kc (Kc (Kc (Kc (Cov.nil _))))))),hM,ho4,ho20,ho26,ho12,ho16,ho36⟩⟩
     ·have h:=iteF q131 h
      refine WC.sq (WC.rg (WO.mv rfl (WO.mv rfl ?_)))
      obtain ⟨r132,e133,h⟩:=bindS h
      refine WO.callE (S:=S129) rfl rfl (F19_ok e133 ho114.vw ho116.vw) (fun S134 c135=>?_)
      have hM:=hM.to c135
      have ho4:=ho4.to c135
      have ho12:=ho12.to c135
      have ho16:=ho16.to c135
      have ho20:=ho20.to c135
      have ho26:=ho26.to c135
      have ho36:=ho36.to c135
      refine WO.as rfl (WO.ni (tN (WC.sq (WC.rg (WO.mv rfl ?_)))))
      refine WO.bi rfl rfl rfl ?_
      refine WO.ni (tN ?_)
      refine WC.cond rfl (fun q136=>?_) (fun q136=>?_)
      ·have h:=iteT q136 h
       refine WC.rg (WO.as rfl (WO.ni ?_))
       obtain rfl:=someI h
       exact ⟨rfl,⟨S134,rfl,rfl,(Kc (Kc (Kc (Kc (Kc (Kc (Cov.nil _))))))),hM,ho4,ho20,ho26,ho12,ho16,ho36⟩⟩
      ·have h:=iteF q136 h
       refine WC.skip ?_
       obtain rfl:=someI h
       exact ⟨rfl,⟨S134,rfl,rfl,(Kc (Kc (Kc (Kc (Kc (Kc (Cov.nil _))))))),hM,ho4,ho20,ho26,ho12,ho16,ho36⟩⟩
   dsimp only
   rintro _ _ _ _ ⟨rfl,⟨S140,rfl,rfl,hc141,hM,ho4,ho20,ho26,ho12,ho16,ho36⟩⟩
   refine tN ?_
   refine WC.cov hc141 ?_
   refine WC.sq (WC.sq (WC.rg (WO.mv rfl ?_)))
   refine WO.bi rfl rfl rfl ?_
   refine WO.ni (tN ?_)
   refine WC.cond rfl (fun q142=>?_) (fun q142=>?_)
   ·have h:=iteT q142 h
    refine WC.sq ?_
    refine WC.drawDN rfl ?_
    have ho4z:=ho4.lt
    have ho36z:=ho36.lt
    have k143:=ho4.bko
    have k144:=ho20.bko
    have k145:=ho26.bko
    have k146:=ho12.bko
    have k147:=ho16.bko
    have k148:=ho36.bko
    refine WO.ldWA (sz:=2) (r:=[v19,v25]) rfl ho4.at0 ho4 rfl rfl rfl ho4z (limLe_self _) ?_
    refine WO.ldBAz (j:=0) rfl ho36.at0 ho36 rfl ho36z (limLe_self _) ?_
    refine WO.mv rfl ?_
    refine WO.stW (S:=S140) (r:=[v19,v25]) rfl ho12.at0 rfl rfl ho12 rfl rfl rfl rfl rfl (fun S149 c150 ho12=>?_)
    have hM:=hM.to c150
    have ho4:=ho4.to c150
    have ho20:=ho20.to c150
    have ho26:=ho26.to c150
    have ho16:=ho16.to c150
    have ho36:=ho36.to c150
    have n151:=c150.n
    have k152:=ho4.bko
    have k153:=ho20.bko
    have k154:=ho26.bko
    have k155:=ho12.bko
    have k156:=ho16.bko
    have k157:=ho36.bko
    refine WO.stBA (u':=((((([],0):(List UInt8) × Int)).1,((([],0):(List UInt8) × Int)).2):(List UInt8) × Int)) rfl ho16.at0 rfl ho16 rfl rfl (fun S158 c159 ho16=>?_)
    have hM:=hM.to c159
    have ho4:=ho4.to c159
    have ho20:=ho20.to c159
    have ho26:=ho26.to c159
    have ho12:=ho12.to c159
    have ho36:=ho36.to c159
    have n160:=c159.n
    have k161:=ho4.bko
    have k162:=ho20.bko
    have k163:=ho26.bko
    have k164:=ho12.bko
    have k165:=ho16.bko
    have k166:=ho36.bko
    refine WO.as rfl (WO.ni ?_)
    refine ⟨fun tt hs=>dynOk_of [(1,3)] (by kernel_rfl) ⟨?_,trivial⟩,?_⟩
    ·show djT tt _ _ = true
     have nb180:=k146.nb k148
     refine djT_of hs rfl rfl rfl rfl rfl ?_ ?_ ?_ <;> simp only [NBs,NB1,and_true,true_and] <;> (repeat' apply And.intro) <;> (first | assumption | (apply NB.symm;assumption) | exact NB.none rfl | exact NB.noneR rfl | (apply NB.pt;first | assumption | (apply NB.symm;assumption)) | (apply NB.symm;apply NB.pt;first | assumption | (apply NB.symm;assumption) | (apply NB.symm;apply NB.pt;first | assumption | (apply NB.symm;assumption))))
    clear k143 k144 k145 k146 k147 k148 k152 k153 k154 k155 k156 k157 k161 k162 k163 k164 k165 k166 n151 n160
    refine tN (WC.ret (tR (tR ?_)))
    have hcell182:=ho12
    have hcell183:=ho16
    have hM:=hM.drop 6
    have ho20:=ho20.freeze
    have ho26:=ho26.drop 6
    have hM:=hM.drop 7
    have ho20:=ho20.drop 7
    have ho26:=ho26.freeze
    obtain rfl:=someI h
    exact ⟨.inr rfl,_,_,(resK_w (sz:=2) hcell182 (Cov.refl _) rfl rfl rfl (resK_b hcell183 (Cov.refl _) rfl rfl (resK_t (Cov.refl _) rfl rfl))),rfl,⟨((S158.drop 6).drop 7),rfl,rfl,hM,v19,v25,rfl,ho20,ho26⟩⟩
   ·have h:=iteF q142 h
    refine WC.skip (tN (WC.sq (WC.rg ?_)))
    refine WO.fldS (j:=0) (q:=0) rfl ho4.at0 ho4.ptr rfl rfl rfl (by decide) ?_
    refine WO.ldW rfl rfl ho4 rfl rfl ho4.lt rfl ?_
    refine WO.mv rfl ?_
    obtain ⟨x184,e185,h⟩:=bindS h
    refine WO.ixS rfl rfl ho20.slv (at?_lt e185) rfl ?_
    refine WO.fldS rfl rfl (SlV.ptr ho20.slv (at?_nat e185)) rfl rfl rfl (by decide) ?_
    refine WO.ldF rfl ho20.ro (fun _ hi=>hi) (at?_get e185) rfl rfl rfl ?_
    refine WO.bi rfl rfl rfl ?_
    obtain ⟨x186,e187,h⟩:=bindS h
    refine WO.ixS rfl rfl ho20.slv (at?_lt e187) rfl ?_
    refine WO.fldS rfl rfl (SlV.ptr ho20.slv (at?_nat e187)) rfl rfl rfl (by decide) ?_
    refine WO.stF (q:=2) (u':=(x186.1,x186.2.1,(wrapA .i64 (x184.2.2 + 1)))) rfl rfl ho20 (at?_get e187) rfl (by decide) rfl rfl (fun S188 c189 ho20=>?_)
    have hM:=hM.to c189
    have ho4:=ho4.to c189
    have ho26:=ho26.to c189
    have ho12:=ho12.to c189
    have ho16:=ho16.to c189
    have ho36:=ho36.to c189
    refine WO.ni (tN (WC.sq ?_))
    refine WC.drawDN rfl ?_
    have ho4z:=ho4.lt
    have ho20z:=ho20.oz
    have k190:=ho4.bko
    have k191:=ho20.bko
    have k192:=ho26.bko
    have k193:=ho12.bko
    have k194:=ho16.bko
    have k195:=ho36.bko
    refine WO.ldWA (sz:=2) (r:=[v19,v25]) rfl ho4.at0 ho4 rfl rfl rfl ho4z (limLe_self _) ?_
    refine WO.fldS (j:=0) (q:=0) rfl ho4.at0 ho4.ptr rfl rfl rfl (by decide) ?_
    refine WO.ldW rfl rfl ho4 rfl rfl ho4z (limLe_self _) ?_
    refine WO.mv rfl ?_
    obtain ⟨x196,e197,h⟩:=bindS h
    refine WO.ixS rfl rfl ho20.slv (at?_lt e197) rfl ?_
    refine WO.fldS rfl rfl (SlV.ptr ho20.slv (at?_nat e197)) rfl rfl rfl (by decide) ?_
    refine WO.ldF rfl ho20z (fun _ hi=>hi.1) (at?_get e197) rfl rfl (limLe_self _) ?_
    refine WO.fldS (j:=0) (q:=0) rfl ho4.at0 ho4.ptr rfl rfl rfl (by decide) ?_
    refine WO.ldW rfl rfl ho4 rfl rfl ho4z (limLe_self _) ?_
    refine WO.mv rfl ?_
    obtain ⟨x198,e199,h⟩:=bindS h
    refine WO.ixS rfl rfl ho20.slv (at?_lt e199) rfl ?_
    refine WO.fldS rfl rfl (SlV.ptr ho20.slv (at?_nat e199)) rfl rfl rfl (by decide) ?_
    refine WO.ldF rfl ho20z (fun _ hi=>hi.1) (at?_get e199) rfl rfl (limLe_self _) ?_
    refine WO.do rfl rfl ?_
    refine WO.stW (S:=S188) (r:=[v19,v25]) rfl ho12.at0 rfl rfl ho12 rfl rfl rfl rfl rfl (fun S200 c201 ho12=>?_)
    have hM:=hM.to c201
    have ho4:=ho4.to c201
    have ho20:=ho20.to c201
    have ho26:=ho26.to c201
    have ho16:=ho16.to c201
    have ho36:=ho36.to c201
    have n202:=c201.n
    have k203:=ho4.bko
    have k204:=ho20.bko
    have k205:=ho26.bko
    have k206:=ho12.bko
    have k207:=ho16.bko
    have k208:=ho36.bko
    refine WO.stBA (u':=(x196.1,x198.2.2)) rfl ho16.at0 rfl ho16 rfl rfl (fun S209 c210 ho16=>?_)
    have hM:=hM.to c210
    have ho4:=ho4.to c210
    have ho20:=ho20.to c210
    have ho26:=ho26.to c210
    have ho12:=ho12.to c210
    have ho36:=ho36.to c210
    have n211:=c210.n
    have k212:=ho4.bko
    have k213:=ho20.bko
    have k214:=ho26.bko
    have k215:=ho12.bko
    have k216:=ho16.bko
    have k217:=ho36.bko
    refine WO.as rfl (WO.ni ?_)
    refine ⟨fun tt hs=>dynOk_of [(2,14),(6,14),(8,14),(12,14)] (by kernel_rfl) ⟨?_,?_,?_,?_,trivial⟩,?_⟩
    ·show djT tt _ _ = true
     have nb220:=k190.nb k193
     have nb224:=k191.nb k193
     refine djT_of hs rfl rfl rfl rfl rfl ?_ ?_ ?_ <;> simp only [NBs,NB1,and_true,true_and] <;> (repeat' apply And.intro) <;> (first | assumption | (apply NB.symm;assumption) | exact NB.none rfl | exact NB.noneR rfl | (apply NB.pt;first | assumption | (apply NB.symm;assumption)) | (apply NB.symm;apply NB.pt;first | assumption | (apply NB.symm;assumption) | (apply NB.symm;apply NB.pt;first | assumption | (apply NB.symm;assumption))))
    ·show djT tt _ _ = true
     have nb220:=k190.nb k193
     have nb224:=k191.nb k193
     refine djT_of hs rfl rfl rfl rfl rfl ?_ ?_ ?_ <;> simp only [NBs,NB1,and_true,true_and] <;> (repeat' apply And.intro) <;> (first | assumption | (apply NB.symm;assumption) | exact NB.none rfl | exact NB.noneR rfl | (apply NB.pt;first | assumption | (apply NB.symm;assumption)) | (apply NB.symm;apply NB.pt;first | assumption | (apply NB.symm;assumption) | (apply NB.symm;apply NB.pt;first | assumption | (apply NB.symm;assumption))))
    ·show djT tt _ _ = true
     have nb220:=k190.nb k193
     have nb224:=k191.nb k193
     refine djT_of hs rfl rfl rfl rfl rfl ?_ ?_ ?_ <;> simp only [NBs,NB1,and_true,true_and] <;> (repeat' apply And.intro) <;> (first | assumption | (apply NB.symm;assumption) | exact NB.none rfl | exact NB.noneR rfl | (apply NB.pt;first | assumption | (apply NB.symm;assumption)) | (apply NB.symm;apply NB.pt;first | assumption | (apply NB.symm;assumption) | (apply NB.symm;apply NB.pt;first | assumption | (apply NB.symm;assumption))))
    ·show djT tt _ _ = true
     have nb220:=k190.nb k193
     have nb224:=k191.nb k193
     refine djT_of hs rfl rfl rfl rfl rfl ?_ ?_ ?_ <;> simp only [NBs,NB1,and_true,true_and] <;> (repeat' apply And.intro) <;> (first | assumption | (apply NB.symm;assumption) | exact NB.none rfl | exact NB.noneR rfl | (apply NB.pt;first | assumption | (apply NB.symm;assumption)) | (apply NB.symm;apply NB.pt;first | assumption | (apply NB.symm;assumption) | (apply NB.symm;apply NB.pt;first | assumption | (apply NB.symm;assumption))))
    clear k190 k191 k192 k193 k194 k195 k203 k204 k205 k206 k207 k208 k212 k213 k214 k215 k216 k217 n202 n211
    refine tN (WC.ret (tR ?_))
    have hcell233:=ho12
    have hcell234:=ho16
    have hM:=hM.drop 6
    have ho20:=ho20.freeze
    have ho26:=ho26.drop 6
    have hM:=hM.drop 7
    have ho20:=ho20.drop 7
    have ho26:=ho26.freeze
    obtain rfl:=someI h
    exact ⟨.inr rfl,_,_,(resK_w (sz:=2) hcell233 (Cov.refl _) rfl rfl rfl (resK_b hcell234 (Cov.refl _) rfl rfl (resK_t (Cov.refl _) rfl rfl))),rfl,⟨((S209.drop 6).drop 7),rfl,rfl,hM,v19,v25,rfl,ho20,ho26⟩⟩
  ·have h:=iteF q121 h
   refine WC.skip (tN (WC.sq (WC.sq (WC.rg ?_))))
   refine WO.fldS (j:=0) (q:=0) rfl ho8.at0 ho8.ptr rfl rfl rfl (by decide) ?_
   refine WO.ldB (j:=0) (q:=2) rfl rfl ho8 rfl rfl rfl ?_
   obtain ⟨r235,e236,h⟩:=bindS h
   refine WO.callE (S:=S118) rfl rfl (F20_ok e236) (fun S237 c238=>?_)
   have hot0_0:=hot0_0.to c238
   have hot0_1:=hot0_1.to c238
   have hM:=hM.to c238
   have ho4:=ho4.to c238
   have ho8:=ho8.to c238
   have ho12:=ho12.to c238
   have ho16:=ho16.to c238
   have ho20:=ho20.to c238
   have ho26:=ho26.to c238
   have ho36:=ho36.to c238
   have ho114:=ho114.to c238
   have ho116:=ho116.to c238
   refine WO.do rfl rfl (WO.ni (tN ?_))
   refine WC.cond rfl (fun q239=>?_) (fun q239=>?_)
   ·have h:=iteT q239 h
    refine WC.sq ?_
    refine WC.drawDN rfl ?_
    have ho4z:=ho4.lt
    have ho36z:=ho36.lt
    have k240:=hot0_0.bko
    have k241:=hot0_1.bko
    have k242:=ho4.bko
    have k243:=ho8.bko
    have k244:=ho12.bko
    have k245:=ho16.bko
    have k246:=ho20.bko
    have k247:=ho26.bko
    have k248:=ho36.bko
    have k249:=ho114.bko
    have k250:=ho116.bko
    refine WO.ldWA (sz:=2) (r:=[v19,v25]) rfl ho4.at0 ho4 rfl rfl rfl ho4z (limLe_self _) ?_
    refine WO.ldBAz (j:=0) rfl ho36.at0 ho36 rfl ho36z (limLe_self _) ?_
    refine WO.stW (S:=S237) (r:=[v19,v25]) rfl ho12.at0 rfl rfl ho12 rfl rfl rfl rfl rfl (fun S251 c252 ho12=>?_)
    have hot0_0:=hot0_0.to c252
    have hot0_1:=hot0_1.to c252
    have hM:=hM.to c252
    have ho4:=ho4.to c252
    have ho8:=ho8.to c252
    have ho16:=ho16.to c252
    have ho20:=ho20.to c252
    have ho26:=ho26.to c252
    have ho36:=ho36.to c252
    have ho114:=ho114.to c252
    have ho116:=ho116.to c252
    have n253:=c252.n
    have k254:=hot0_0.bko
    have k255:=hot0_1.bko
    have k256:=ho4.bko
    have k257:=ho8.bko
    have k258:=ho12.bko
    have k259:=ho16.bko
    have k260:=ho20.bko
    have k261:=ho26.bko
    have k262:=ho36.bko
    have k263:=ho114.bko
    have k264:=ho116.bko
    refine WO.stBA (u':=((((([],0):(List UInt8) × Int)).1,((([],0):(List UInt8) × Int)).2):(List UInt8) × Int)) rfl ho16.at0 rfl ho16 rfl rfl (fun S265 c266 ho16=>?_)
    have hot0_0:=hot0_0.to c266
    have hot0_1:=hot0_1.to c266
    have hM:=hM.to c266
    have ho4:=ho4.to c266
    have ho8:=ho8.to c266
    have ho12:=ho12.to c266
    have ho20:=ho20.to c266
    have ho26:=ho26.to c266
    have ho36:=ho36.to c266
    have ho114:=ho114.to c266
    have ho116:=ho116.to c266
    have n267:=c266.n
    have k268:=hot0_0.bko
    have k269:=hot0_1.bko
    have k270:=ho4.bko
    have k271:=ho8.bko
    have k272:=ho12.bko
    have k273:=ho16.bko
    have k274:=ho20.bko
    have k275:=ho26.bko
    have k276:=ho36.bko
    have k277:=ho114.bko
    have k278:=ho116.bko
    refine WO.as rfl (WO.ni ?_)
    refine ⟨fun tt hs=>dynOk_of [(1,2)] (by kernel_rfl) ⟨?_,trivial⟩,?_⟩
    ·show djT tt _ _ = true
     have nb315:=k244.nb k248
     refine djT_of hs rfl rfl rfl rfl rfl ?_ ?_ ?_ <;> simp only [NBs,NB1,and_true,true_and] <;> (repeat' apply And.intro) <;> (first | assumption | (apply NB.symm;assumption) | exact NB.none rfl | exact NB.noneR rfl | (apply NB.pt;first | assumption | (apply NB.symm;assumption)) | (apply NB.symm;apply NB.pt;first | assumption | (apply NB.symm;assumption) | (apply NB.symm;apply NB.pt;first | assumption | (apply NB.symm;assumption))))
    clear k240 k241 k242 k243 k244 k245 k246 k247 k248 k249 k250 k254 k255 k256 k257 k258 k259 k260 k261 k262 k263 k264 k268 k269 k270 k271 k272 k273 k274 k275 k276 k277 k278 n253 n267
    refine tN (WC.ret (tR ?_))
    have hcell333:=ho12
    have hcell334:=ho16
    have hM:=hM.drop 6
    have ho20:=ho20.freeze
    have ho26:=ho26.drop 6
    have hM:=hM.drop 7
    have ho20:=ho20.drop 7
    have ho26:=ho26.freeze
    obtain rfl:=someI h
    exact ⟨.inr rfl,_,_,(resK_w (sz:=2) hcell333 (Cov.refl _) rfl rfl rfl (resK_b hcell334 (Cov.refl _) rfl rfl (resK_t (Cov.refl _) rfl rfl))),rfl,⟨((S265.drop 6).drop 7),rfl,rfl,hM,v19,v25,rfl,ho20,ho26⟩⟩
   ·have h:=iteF q239 h
    refine WC.skip (tN (WC.sq (WC.rg ?_)))
    refine WO.ldWA (sz:=2) (r:=[v19,v25]) rfl ho4.at0 ho4 rfl rfl rfl ho4.lt rfl ?_
    refine WO.fldS (j:=0) (q:=0) rfl ho8.at0 ho8.ptr rfl rfl rfl (by decide) ?_
    refine WO.ldB (j:=0) (q:=2) rfl rfl ho8 rfl rfl rfl ?_
    obtain ⟨r335,e336,h⟩:=bindS h
    refine WO.callE (S:=S237) rfl rfl (F21_ok e336 ho20.vw ho26.vw) (fun S337 c338=>?_)
    have hot0_0:=hot0_0.to c338
    have hot0_1:=hot0_1.to c338
    have hM:=hM.to c338
    have ho4:=ho4.to c338
    have ho8:=ho8.to c338
    have ho12:=ho12.to c338
    have ho16:=ho16.to c338
    have ho20:=ho20.to c338
    have ho26:=ho26.to c338
    have ho36:=ho36.to c338
    have ho114:=ho114.to c338
    have ho116:=ho116.to c338
    refine WO.as rfl (WO.ni (tN (WC.sq (WC.sq (WC.rg ?_)))))
    refine WO.fldS (j:=0) (q:=0) rfl ho8.at0 ho8.ptr rfl rfl rfl (by decide) ?_
    refine WO.ldB (j:=0) (q:=0) rfl rfl ho8 rfl rfl rfl ?_
    refine WO.bi rfl rfl rfl ?_
    refine WO.ni (tN ?_)
    refine WC.cond rfl (fun q339=>?_) (fun q339=>?_)
    ·have h:=iteT q339 h
     refine WC.sq (WC.block (WC.sq (WC.rg (WO.mv rfl ?_))))
     refine WO.bi rfl rfl rfl ?_
     refine WO.as rfl (WO.ni (tN ?_))
     refine WC.cond rfl (fun q340=>?_) (fun q340=>?_)
     ·have h:=iteT q340 h
      refine WC.sq ?_
      refine WC.drawDN rfl ?_
      have ho4z:=ho4.lt
      have ho36z:=ho36.lt
      have k341:=hot0_0.bko
      have k342:=hot0_1.bko
      have k343:=ho4.bko
      have k344:=ho8.bko
      have k345:=ho12.bko
      have k346:=ho16.bko
      have k347:=ho20.bko
      have k348:=ho26.bko
      have k349:=ho36.bko
      have k350:=ho114.bko
      have k351:=ho116.bko
      refine WO.ldWA (sz:=2) (r:=[v19,v25]) rfl ho4.at0 ho4 rfl rfl rfl ho4z (limLe_self _) ?_
      refine WO.ldBAz (j:=0) rfl ho36.at0 ho36 rfl ho36z (limLe_self _) ?_
      refine WO.stW (S:=S337) (r:=[v19,v25]) rfl ho12.at0 rfl rfl ho12 rfl rfl rfl rfl rfl (fun S352 c353 ho12=>?_)
      have hot0_0:=hot0_0.to c353
      have hot0_1:=hot0_1.to c353
      have hM:=hM.to c353
      have ho4:=ho4.to c353
      have ho8:=ho8.to c353
      have ho16:=ho16.to c353
      have ho20:=ho20.to c353
      have ho26:=ho26.to c353
      have ho36:=ho36.to c353
      have ho114:=ho114.to c353
      have ho116:=ho116.to c353
      have n354:=c353.n
      have k355:=hot0_0.bko
      have k356:=hot0_1.bko
      have k357:=ho4.bko
      have k358:=ho8.bko
      have k359:=ho12.bko
      have k360:=ho16.bko
      have k361:=ho20.bko
      have k362:=ho26.bko
      have k363:=ho36.bko
      have k364:=ho114.bko
      have k365:=ho116.bko
      refine WO.stBA (u':=((((([],0):(List UInt8) × Int)).1,((([],0):(List UInt8) × Int)).2):(List UInt8) × Int)) rfl ho16.at0 rfl ho16 rfl rfl (fun S366 c367 ho16=>?_)
      have hot0_0:=hot0_0.to c367
      have hot0_1:=hot0_1.to c367
      have hM:=hM.to c367
      have ho4:=ho4.to c367
      have ho8:=ho8.to c367
      have ho12:=ho12.to c367
      have ho20:=ho20.to c367
      have ho26:=ho26.to c367
      have ho36:=ho36.to c367
      have ho114:=ho114.to c367
      have ho116:=ho116.to c367
      have n368:=c367.n
      have k369:=hot0_0.bko
      have k370:=hot0_1.bko
      have k371:=ho4.bko
      have k372:=ho8.bko
      have k373:=ho12.bko
      have k374:=ho16.bko
      have k375:=ho20.bko
      have k376:=ho26.bko
      have k377:=ho36.bko
      have k378:=ho114.bko
      have k379:=ho116.bko
      refine WO.as rfl (WO.ni ?_)
      refine ⟨fun tt hs=>dynOk_of [(1,2)] (by kernel_rfl) ⟨?_,trivial⟩,?_⟩
      ·show djT tt _ _ = true
       have nb416:=k345.nb k349
       refine djT_of hs rfl rfl rfl rfl rfl ?_ ?_ ?_ <;> simp only [NBs,NB1,and_true,true_and] <;> (repeat' apply And.intro) <;> (first | assumption | (apply NB.symm;assumption) | exact NB.none rfl | exact NB.noneR rfl | (apply NB.pt;first | assumption | (apply NB.symm;assumption)) | (apply NB.symm;apply NB.pt;first | assumption | (apply NB.symm;assumption) | (apply NB.symm;apply NB.pt;first | assumption | (apply NB.symm;assumption))))
      clear k341 k342 k343 k344 k345 k346 k347 k348 k349 k350 k351 k355 k356 k357 k358 k359 k360 k361 k362 k363 k364 k365 k369 k370 k371 k372 k373 k374 k375 k376 k377 k378 k379 n354 n368
      refine tN (WC.ret (bR (tR (tR ?_))))
      have hcell434:=ho12
      have hcell435:=ho16
      have hM:=hM.drop 6
      have ho20:=ho20.freeze
      have ho26:=ho26.drop 6
      have hM:=hM.drop 7
      have ho20:=ho20.drop 7
      have ho26:=ho26.freeze
      obtain rfl:=someI h
      exact ⟨.inr rfl,_,_,(resK_w (sz:=2) hcell434 (Cov.refl _) rfl rfl rfl (resK_b hcell435 (Cov.refl _) rfl rfl (resK_t (Cov.refl _) rfl rfl))),rfl,⟨((S366.drop 6).drop 7),rfl,rfl,hM,v19,v25,rfl,ho20,ho26⟩⟩
     ·have h:=iteF q340 h
      refine WC.sq (WC.rg ?_)
      refine WO.fldS (j:=0) (q:=0) rfl ho8.at0 ho8.ptr rfl rfl rfl (by decide) ?_
      refine WO.ldB (j:=0) (q:=1) rfl rfl ho8 rfl rfl rfl ?_
      refine WO.bi rfl rfl rfl ?_
      refine WO.mv rfl ?_
      refine WO.cutB (d:=122) 4 ((decide (((t1.1,t1.2.1,t1.2.2.1,t1.2.2.2)).2.1 < 0)) || (decide (((t1.1,t1.2.1,t1.2.2.1,t1.2.2.2)).2.1 > 100))) (fun q436=>?_) (fun q436=>?_) ?_
      ·refine WO.gno rfl rfl (WO.gno rfl rfl (WO.gno rfl rfl ?_))
       refine WO.pickT rfl rfl ?_
       refine WO.ni ?_
       exact ⟨rfl,rfl,(Cov.any rfl (orT q436) (Ks (Ks (Ks (Ks (Ks (Cov.refl _)))))))⟩
      ·skip
       refine WO.gyes rfl rfl ?_
       refine WO.fldS (j:=0) (q:=0) rfl ho8.at0 ho8.ptr rfl rfl rfl (by decide) ?_
       refine WO.gyes rfl rfl ?_
       refine WO.ldB (j:=0) (q:=1) rfl rfl ho8 rfl rfl rfl ?_
       refine WO.gyes rfl rfl ?_
       refine WO.bi rfl rfl rfl ?_
       refine WO.pickF rfl rfl ?_
       refine WO.ni ?_
       exact ⟨rfl,rfl,(Cov.any rfl (orF q436) (Ks (Ks (Ks (Ks (Ks (Cov.refl _)))))))⟩
      refine WO.as rfl (WO.ni (tN ?_))
      refine WC.cond rfl (fun q437=>?_) (fun q437=>?_)
      ·have h:=iteT q437 h
       refine WC.sq ?_
       refine WC.drawDN rfl ?_
       have ho4z:=ho4.lt
       have ho36z:=ho36.lt
       have k438:=hot0_0.bko
       have k439:=hot0_1.bko
       have k440:=ho4.bko
       have k441:=ho8.bko
       have k442:=ho12.bko
       have k443:=ho16.bko
       have k444:=ho20.bko
       have k445:=ho26.bko
       have k446:=ho36.bko
       have k447:=ho114.bko
       have k448:=ho116.bko
       refine WO.ldWA (sz:=2) (r:=[v19,v25]) rfl ho4.at0 ho4 rfl rfl rfl ho4z (limLe_self _) ?_
       refine WO.ldBAz (j:=0) rfl ho36.at0 ho36 rfl ho36z (limLe_self _) ?_
       refine WO.stW (S:=S337) (r:=[v19,v25]) rfl ho12.at0 rfl rfl ho12 rfl rfl rfl rfl rfl (fun S449 c450 ho12=>?_)
       have hot0_0:=hot0_0.to c450
       have hot0_1:=hot0_1.to c450
       have hM:=hM.to c450
       have ho4:=ho4.to c450
       have ho8:=ho8.to c450
       have ho16:=ho16.to c450
       have ho20:=ho20.to c450
       have ho26:=ho26.to c450
       have ho36:=ho36.to c450
       have ho114:=ho114.to c450
       have ho116:=ho116.to c450
       have n451:=c450.n
       have k452:=hot0_0.bko
       have k453:=hot0_1.bko
       have k454:=ho4.bko
       have k455:=ho8.bko
       have k456:=ho12.bko
       have k457:=ho16.bko
       have k458:=ho20.bko
       have k459:=ho26.bko
       have k460:=ho36.bko
       have k461:=ho114.bko
       have k462:=ho116.bko
       refine WO.stBA (u':=((((([],0):(List UInt8) × Int)).1,((([],0):(List UInt8) × Int)).2):(List UInt8) × Int)) rfl ho16.at0 rfl ho16 rfl rfl (fun S463 c464 ho16=>?_)
       have hot0_0:=hot0_0.to c464
       have hot0_1:=hot0_1.to c464
       have hM:=hM.to c464
       have ho4:=ho4.to c464
       have ho8:=ho8.to c464
       have ho12:=ho12.to c464
       have ho20:=ho20.to c464
       have ho26:=ho26.to c464
       have ho36:=ho36.to c464
       have ho114:=ho114.to c464
       have ho116:=ho116.to c464
       have n465:=c464.n
       have k466:=hot0_0.bko
       have k467:=hot0_1.bko
       have k468:=ho4.bko
       have k469:=ho8.bko
       have k470:=ho12.bko
       have k471:=ho16.bko
       have k472:=ho20.bko
       have k473:=ho26.bko
       have k474:=ho36.bko
       have k475:=ho114.bko
       have k476:=ho116.bko
       refine WO.as rfl (WO.ni ?_)
       refine ⟨fun tt hs=>dynOk_of [(1,2)] (by kernel_rfl) ⟨?_,trivial⟩,?_⟩
       ·show djT tt _ _ = true
        have nb513:=k442.nb k446
        refine djT_of hs rfl rfl rfl rfl rfl ?_ ?_ ?_ <;> simp only [NBs,NB1,and_true,true_and] <;> (repeat' apply And.intro) <;> (first | assumption | (apply NB.symm;assumption) | exact NB.none rfl | exact NB.noneR rfl | (apply NB.pt;first | assumption | (apply NB.symm;assumption)) | (apply NB.symm;apply NB.pt;first | assumption | (apply NB.symm;assumption) | (apply NB.symm;apply NB.pt;first | assumption | (apply NB.symm;assumption))))
       clear k438 k439 k440 k441 k442 k443 k444 k445 k446 k447 k448 k452 k453 k454 k455 k456 k457 k458 k459 k460 k461 k462 k466 k467 k468 k469 k470 k471 k472 k473 k474 k475 k476 n451 n465
       refine tN (WC.ret (bR (tR (tR ?_))))
       have hcell531:=ho12
       have hcell532:=ho16
       have hM:=hM.drop 6
       have ho20:=ho20.freeze
       have ho26:=ho26.drop 6
       have hM:=hM.drop 7
       have ho20:=ho20.drop 7
       have ho26:=ho26.freeze
       obtain rfl:=someI h
       exact ⟨.inr rfl,_,_,(resK_w (sz:=2) hcell531 (Cov.refl _) rfl rfl rfl (resK_b hcell532 (Cov.refl _) rfl rfl (resK_t (Cov.refl _) rfl rfl))),rfl,⟨((S463.drop 6).drop 7),rfl,rfl,hM,v19,v25,rfl,ho20,ho26⟩⟩
      ·have h:=iteF q437 h
       refine WC.sq (WC.rg ?_)
       refine WO.fldS (j:=0) (q:=0) rfl ho4.at0 ho4.ptr rfl rfl rfl (by decide) ?_
       refine WO.ldW rfl rfl ho4 rfl rfl ho4.lt rfl ?_
       refine WO.lenS rfl ho20.slv rfl ?_
       refine WO.bi rfl rfl rfl ?_
       refine WO.as rfl (WO.ni (tN ?_))
       refine WC.cond rfl (fun q533=>?_) (fun q533=>?_)
       ·have h:=iteT q533 h
        refine WC.sq ?_
        refine WC.drawDN rfl ?_
        have ho4z:=ho4.lt
        have ho36z:=ho36.lt
        have k534:=hot0_0.bko
        have k535:=hot0_1.bko
        have k536:=ho4.bko
        have k537:=ho8.bko
        have k538:=ho12.bko
        have k539:=ho16.bko
        have k540:=ho20.bko
        have k541:=ho26.bko
        have k542:=ho36.bko
        have k543:=ho114.bko
        have k544:=ho116.bko
        refine WO.ldWA (sz:=2) (r:=[v19,v25]) rfl ho4.at0 ho4 rfl rfl rfl ho4z (limLe_self _) ?_
        refine WO.ldBAz (j:=0) rfl ho36.at0 ho36 rfl ho36z (limLe_self _) ?_
        refine WO.stW (S:=S337) (r:=[v19,v25]) rfl ho12.at0 rfl rfl ho12 rfl rfl rfl rfl rfl (fun S545 c546 ho12=>?_)
        have hot0_0:=hot0_0.to c546
        have hot0_1:=hot0_1.to c546
        have hM:=hM.to c546
        have ho4:=ho4.to c546
        have ho8:=ho8.to c546
        have ho16:=ho16.to c546
        have ho20:=ho20.to c546
        have ho26:=ho26.to c546
        have ho36:=ho36.to c546
        have ho114:=ho114.to c546
        have ho116:=ho116.to c546
        have n547:=c546.n
        have k548:=hot0_0.bko
        have k549:=hot0_1.bko
        have k550:=ho4.bko
        have k551:=ho8.bko
        have k552:=ho12.bko
        have k553:=ho16.bko
        have k554:=ho20.bko
        have k555:=ho26.bko
        have k556:=ho36.bko
        have k557:=ho114.bko
        have k558:=ho116.bko
        refine WO.stBA (u':=((((([],0):(List UInt8) × Int)).1,((([],0):(List UInt8) × Int)).2):(List UInt8) × Int)) rfl ho16.at0 rfl ho16 rfl rfl (fun S559 c560 ho16=>?_)
        have hot0_0:=hot0_0.to c560
        have hot0_1:=hot0_1.to c560
        have hM:=hM.to c560
        have ho4:=ho4.to c560
        have ho8:=ho8.to c560
        have ho12:=ho12.to c560
        have ho20:=ho20.to c560
        have ho26:=ho26.to c560
        have ho36:=ho36.to c560
        have ho114:=ho114.to c560
        have ho116:=ho116.to c560
        have n561:=c560.n
        have k562:=hot0_0.bko
        have k563:=hot0_1.bko
        have k564:=ho4.bko
        have k565:=ho8.bko
        have k566:=ho12.bko
        have k567:=ho16.bko
        have k568:=ho20.bko
        have k569:=ho26.bko
        have k570:=ho36.bko
        have k571:=ho114.bko
        have k572:=ho116.bko
        refine WO.as rfl (WO.ni ?_)
        refine ⟨fun tt hs=>dynOk_of [(1,2)] (by kernel_rfl) ⟨?_,trivial⟩,?_⟩
        ·show djT tt _ _ = true
         have nb609:=k538.nb k542
         refine djT_of hs rfl rfl rfl rfl rfl ?_ ?_ ?_ <;> simp only [NBs,NB1,and_true,true_and] <;> (repeat' apply And.intro) <;> (first | assumption | (apply NB.symm;assumption) | exact NB.none rfl | exact NB.noneR rfl | (apply NB.pt;first | assumption | (apply NB.symm;assumption)) | (apply NB.symm;apply NB.pt;first | assumption | (apply NB.symm;assumption) | (apply NB.symm;apply NB.pt;first | assumption | (apply NB.symm;assumption))))
        clear k534 k535 k536 k537 k538 k539 k540 k541 k542 k543 k544 k548 k549 k550 k551 k552 k553 k554 k555 k556 k557 k558 k562 k563 k564 k565 k566 k567 k568 k569 k570 k571 k572 n547 n561
        refine tN (WC.ret (bR (tR (tR ?_))))
        have hcell627:=ho12
        have hcell628:=ho16
        have hM:=hM.drop 6
        have ho20:=ho20.freeze
        have ho26:=ho26.drop 6
        have hM:=hM.drop 7
        have ho20:=ho20.drop 7
        have ho26:=ho26.freeze
        obtain rfl:=someI h
        exact ⟨.inr rfl,_,_,(resK_w (sz:=2) hcell627 (Cov.refl _) rfl rfl rfl (resK_b hcell628 (Cov.refl _) rfl rfl (resK_t (Cov.refl _) rfl rfl))),rfl,⟨((S559.drop 6).drop 7),rfl,rfl,hM,v19,v25,rfl,ho20,ho26⟩⟩
       ·have h:=iteF q533 h
        refine WC.skip (bN (tN (WC.sq (WC.rg ?_))))
        refine WO.fldS (j:=0) (q:=0) rfl ho4.at0 ho4.ptr rfl rfl rfl (by decide) ?_
        refine WO.ldW rfl rfl ho4 rfl rfl ho4.lt rfl ?_
        refine WO.fldS (j:=0) (q:=0) rfl ho8.at0 ho8.ptr rfl rfl rfl (by decide) ?_
        refine WO.ldB (j:=0) (q:=2) rfl rfl ho8 rfl rfl rfl ?_
        refine WO.fldS (j:=0) (q:=0) rfl ho8.at0 ho8.ptr rfl rfl rfl (by decide) ?_
        refine WO.ldB (j:=0) (q:=1) rfl rfl ho8 rfl rfl rfl ?_
        refine WO.do rfl rfl ?_
        refine WO.bsS (A:=Y60) (S:=S337) (M:=[(((t1.1,t1.2.1,t1.2.2.1,t1.2.2.2)).2.2.1,((t1.1,t1.2.1,t1.2.2.1,t1.2.2.2)).2.1,0)]) (cs:=[.str (((t1.1,t1.2.1,t1.2.2.1,t1.2.2.2)).2.2.1),.int .i64 (((t1.1,t1.2.1,t1.2.2.1,t1.2.2.2)).2.1),.int .i64 0]) 11 rfl rfl rfl ⟨[.str (((t1.1,t1.2.1,t1.2.2.1,t1.2.2.2)).2.2.1),.int .i64 (((t1.1,t1.2.1,t1.2.2.1,t1.2.2.2)).2.1),.int .i64 0],_,rfl,rfl,rfl⟩ rfl (fun v629 S630 c631 ho632=>?_)
        have hot0_0:=hot0_0.to c631
        have hot0_1:=hot0_1.to c631
        have hM:=hM.to c631
        have ho4:=ho4.to c631
        have ho8:=ho8.to c631
        have ho12:=ho12.to c631
        have ho16:=ho16.to c631
        have ho20:=ho20.to c631
        have ho26:=ho26.to c631
        have ho36:=ho36.to c631
        have ho114:=ho114.to c631
        have ho116:=ho116.to c631
        obtain ⟨L633,e634,h⟩:=bindS h
        refine WO.appSB rfl rfl ho20 ho632.ro e634 rfl rfl rfl (fun v635 S636 c637 ho638=>?_)
        have hot0_0:=hot0_0.to c637
        have hot0_1:=hot0_1.to c637
        have hM:=hM.to c637
        have ho4:=ho4.to c637
        have ho8:=ho8.to c637
        have ho12:=ho12.to c637
        have ho16:=ho16.to c637
        have ho26:=ho26.to c637
        have ho36:=ho36.to c637
        have ho114:=ho114.to c637
        have ho116:=ho116.to c637
        have ho632:=ho632.to c637
        refine WO.fldS (j:=0) (q:=0) rfl ho4.at0 ho4.ptr rfl rfl rfl (by decide) ?_
        refine WO.stW (S:=S636) (r:=[v635,v25]) rfl rfl rfl rfl ho4 rfl rfl rfl rfl rfl (fun S639 c640 ho4=>?_)
        have hot0_0:=hot0_0.to c640
        have hot0_1:=hot0_1.to c640
        have hM:=hM.to c640
        have ho8:=ho8.to c640
        have ho12:=ho12.to c640
        have ho16:=ho16.to c640
        have ho26:=ho26.to c640
        have ho36:=ho36.to c640
        have ho114:=ho114.to c640
        have ho116:=ho116.to c640
        have ho632:=ho632.to c640
        have ho638:=ho638.to c640
        refine WO.ni (tN (WC.sq ?_))
        refine WC.drawDN rfl ?_
        have ho4z:=ho4.lt
        have ho36z:=ho36.lt
        have k641:=hot0_0.bko
        have k642:=hot0_1.bko
        have k643:=ho4.bko
        have k644:=ho8.bko
        have k645:=ho12.bko
        have k646:=ho16.bko
        have k647:=ho26.bko
        have k648:=ho36.bko
        have k649:=ho114.bko
        have k650:=ho116.bko
        have k651:=ho632.bko
        have k652:=ho638.bko
        refine WO.ldWA (sz:=2) (r:=[v635,v25]) rfl ho4.at0 ho4 rfl rfl rfl ho4z (limLe_self _) ?_
        refine WO.ldBAz (j:=0) rfl ho36.at0 ho36 rfl ho36z (limLe_self _) ?_
        refine WO.stW (S:=S639) (r:=[v635,v25]) rfl ho12.at0 rfl rfl ho12 rfl rfl rfl rfl rfl (fun S653 c654 ho12=>?_)
        have hot0_0:=hot0_0.to c654
        have hot0_1:=hot0_1.to c654
        have hM:=hM.to c654
        have ho4:=ho4.to c654
        have ho8:=ho8.to c654
        have ho16:=ho16.to c654
        have ho26:=ho26.to c654
        have ho36:=ho36.to c654
        have ho114:=ho114.to c654
        have ho116:=ho116.to c654
        have ho632:=ho632.to c654
        have ho638:=ho638.to c654
        have n655:=c654.n
        have k656:=hot0_0.bko
        have k657:=hot0_1.bko
        have k658:=ho4.bko
        have k659:=ho8.bko
        have k660:=ho12.bko
        have k661:=ho16.bko
        have k662:=ho26.bko
        have k663:=ho36.bko
        have k664:=ho114.bko
        have k665:=ho116.bko
        have k666:=ho632.bko
        have k667:=ho638.bko
        refine WO.stBA (u':=((((([],0):(List UInt8) × Int)).1,((([],0):(List UInt8) × Int)).2):(List UInt8) × Int)) rfl ho16.at0 rfl ho16 rfl rfl (fun S668 c669 ho16=>?_)
        have hot0_0:=hot0_0.to c669
        have hot0_1:=hot0_1.to c669
        have hM:=hM.to c669
        have ho4:=ho4.to c669
        have ho8:=ho8.to c669
        have ho12:=ho12.to c669
        have ho26:=ho26.to c669
        have ho36:=ho36.to c669
        have ho114:=ho114.to c669
        have ho116:=ho116.to c669
        have ho632:=ho632.to c669
        have ho638:=ho638.to c669
        have n670:=c669.n
        have k671:=hot0_0.bko
        have k672:=hot0_1.bko
        have k673:=ho4.bko
        have k674:=ho8.bko
        have k675:=ho12.bko
        have k676:=ho16.bko
        have k677:=ho26.bko
        have k678:=ho36.bko
        have k679:=ho114.bko
        have k680:=ho116.bko
        have k681:=ho632.bko
        have k682:=ho638.bko
        refine WO.as rfl (WO.ni ?_)
        refine ⟨fun tt hs=>dynOk_of [(1,2)] (by kernel_rfl) ⟨?_,trivial⟩,?_⟩
        ·show djT tt _ _ = true
         have nb722:=k645.nb k648
         refine djT_of hs rfl rfl rfl rfl rfl ?_ ?_ ?_ <;> simp only [NBs,NB1,and_true,true_and] <;> (repeat' apply And.intro) <;> (first | assumption | (apply NB.symm;assumption) | exact NB.none rfl | exact NB.noneR rfl | (apply NB.pt;first | assumption | (apply NB.symm;assumption)) | (apply NB.symm;apply NB.pt;first | assumption | (apply NB.symm;assumption) | (apply NB.symm;apply NB.pt;first | assumption | (apply NB.symm;assumption))))
        clear k641 k642 k643 k644 k645 k646 k647 k648 k649 k650 k651 k652 k656 k657 k658 k659 k660 k661 k662 k663 k664 k665 k666 k667 k671 k672 k673 k674 k675 k676 k677 k678 k679 k680 k681 k682 n655 n670
        refine tN (WC.ret (tR ?_))
        have hcell748:=ho12
        have hcell749:=ho16
        have hM:=hM.drop 6
        have ho26:=ho26.drop 6
        have ho638:=ho638.freeze
        have hM:=hM.drop 7
        have ho26:=ho26.freeze
        have ho638:=ho638.drop 7
        obtain rfl:=someI h
        exact ⟨.inr rfl,_,_,(resK_w (sz:=2) hcell748 (Cov.refl _) rfl rfl rfl (resK_b hcell749 (Cov.refl _) rfl rfl (resK_t (Cov.refl _) rfl rfl))),rfl,⟨((S668.drop 6).drop 7),rfl,rfl,hM,v635,v25,rfl,ho638,ho26⟩⟩
    ·have h:=iteF q339 h
     refine WC.skip (tN (WC.sq (WC.sq (WC.rg (WO.mv rfl ?_)))))
     refine WO.bi rfl rfl rfl ?_
     refine WO.ni (tN ?_)
     refine WC.cond rfl (fun q750=>?_) (fun q750=>?_)
     ·have h:=iteT q750 h
      refine WC.sq ?_
      refine WC.drawDN rfl ?_
      have ho4z:=ho4.lt
      have ho36z:=ho36.lt
      have k751:=hot0_0.bko
      have k752:=hot0_1.bko
      have k753:=ho4.bko
      have k754:=ho8.bko
      have k755:=ho12.bko
      have k756:=ho16.bko
      have k757:=ho20.bko
      have k758:=ho26.bko
      have k759:=ho36.bko
      have k760:=ho114.bko
      have k761:=ho116.bko
      refine WO.ldWA (sz:=2) (r:=[v19,v25]) rfl ho4.at0 ho4 rfl rfl rfl ho4z (limLe_self _) ?_
      refine WO.ldBAz (j:=0) rfl ho36.at0 ho36 rfl ho36z (limLe_self _) ?_
      refine WO.stW (S:=S337) (r:=[v19,v25]) rfl ho12.at0 rfl rfl ho12 rfl rfl rfl rfl rfl (fun S762 c763 ho12=>?_)
      have hot0_0:=hot0_0.to c763
      have hot0_1:=hot0_1.to c763
      have hM:=hM.to c763
      have ho4:=ho4.to c763
      have ho8:=ho8.to c763
      have ho16:=ho16.to c763
      have ho20:=ho20.to c763
      have ho26:=ho26.to c763
      have ho36:=ho36.to c763
      have ho114:=ho114.to c763
      have ho116:=ho116.to c763
      have n764:=c763.n
      have k765:=hot0_0.bko
      have k766:=hot0_1.bko
      have k767:=ho4.bko
      have k768:=ho8.bko
      have k769:=ho12.bko
      have k770:=ho16.bko
      have k771:=ho20.bko
      have k772:=ho26.bko
      have k773:=ho36.bko
      have k774:=ho114.bko
      have k775:=ho116.bko
      refine WO.stBA (u':=((((([],0):(List UInt8) × Int)).1,((([],0):(List UInt8) × Int)).2):(List UInt8) × Int)) rfl ho16.at0 rfl ho16 rfl rfl (fun S776 c777 ho16=>?_)
      have hot0_0:=hot0_0.to c777
      have hot0_1:=hot0_1.to c777
      have hM:=hM.to c777
      have ho4:=ho4.to c777
      have ho8:=ho8.to c777
      have ho12:=ho12.to c777
      have ho20:=ho20.to c777
      have ho26:=ho26.to c777
      have ho36:=ho36.to c777
      have ho114:=ho114.to c777
      have ho116:=ho116.to c777
      have n778:=c777.n
      have k779:=hot0_0.bko
      have k780:=hot0_1.bko
      have k781:=ho4.bko
      have k782:=ho8.bko
      have k783:=ho12.bko
      have k784:=ho16.bko
      have k785:=ho20.bko
      have k786:=ho26.bko
      have k787:=ho36.bko
      have k788:=ho114.bko
      have k789:=ho116.bko
      refine WO.as rfl (WO.ni ?_)
      refine ⟨fun tt hs=>dynOk_of [(1,2)] (by kernel_rfl) ⟨?_,trivial⟩,?_⟩
      ·show djT tt _ _ = true
       have nb826:=k755.nb k759
       refine djT_of hs rfl rfl rfl rfl rfl ?_ ?_ ?_ <;> simp only [NBs,NB1,and_true,true_and] <;> (repeat' apply And.intro) <;> (first | assumption | (apply NB.symm;assumption) | exact NB.none rfl | exact NB.noneR rfl | (apply NB.pt;first | assumption | (apply NB.symm;assumption)) | (apply NB.symm;apply NB.pt;first | assumption | (apply NB.symm;assumption) | (apply NB.symm;apply NB.pt;first | assumption | (apply NB.symm;assumption))))
      clear k751 k752 k753 k754 k755 k756 k757 k758 k759 k760 k761 k765 k766 k767 k768 k769 k770 k771 k772 k773 k774 k775 k779 k780 k781 k782 k783 k784 k785 k786 k787 k788 k789 n764 n778
      refine tN (WC.ret (tR ?_))
      have hcell844:=ho12
      have hcell845:=ho16
      have hM:=hM.drop 6
      have ho20:=ho20.freeze
      have ho26:=ho26.drop 6
      have hM:=hM.drop 7
      have ho20:=ho20.drop 7
      have ho26:=ho26.freeze
      obtain rfl:=someI h
      exact ⟨.inr rfl,_,_,(resK_w (sz:=2) hcell844 (Cov.refl _) rfl rfl rfl (resK_b hcell845 (Cov.refl _) rfl rfl (resK_t (Cov.refl _) rfl rfl))),rfl,⟨((S776.drop 6).drop 7),rfl,rfl,hM,v19,v25,rfl,ho20,ho26⟩⟩
     ·have h:=iteF q750 h
      refine WC.skip (tN (WC.sq (WC.sq (WC.rg ?_))))
      refine WO.fldS (j:=0) (q:=0) rfl ho8.at0 ho8.ptr rfl rfl rfl (by decide) ?_
      refine WO.ldB (j:=0) (q:=0) rfl rfl ho8 rfl rfl rfl ?_
      refine WO.ni (tN (WC.block (WC.sq (WC.rg ?_))))
      refine WO.bi rfl rfl rfl ?_
      refine WO.as rfl (WO.ni (tN ?_))
      refine WC.cond rfl (fun q846=>?_) (fun q846=>?_)
      ·have h:=iteT q846 h
       refine WC.sq (WC.sq (WC.rg ?_))
       refine WO.fldS (j:=0) (q:=0) rfl ho4.at0 ho4.ptr rfl rfl rfl (by decide) ?_
       refine WO.ldW rfl rfl ho4 rfl rfl ho4.lt rfl ?_
       refine WO.lenS rfl ho26.slv rfl ?_
       refine WO.mv rfl (WO.ni (tN (WC.block ?_)))
       obtain ⟨b955,e956,h⟩:=bindS h
       refine WC.loopD e956 (fun s847 l' m' n'=>∃ S850:Cx fl,∃ v851 v852:SV,S850.m = m'/\S850.n = n'/\Cov l' [(2,.sc ((.ptr b1 0))),(3,.sc v5),(4,.sc ((.ptr b9 0))),(5,.sc v13),(7,.sc v33),(12,.sc (.int .i64 r335)),(153,.sc v25),(154,.sc (.int .i64 ((r23.length:Int)))),(155,.sc (.int .i64 s847.1))]/\ChM S0 S850/\Bw S850 2 (.ptr b1 0) [v19,v25]/\Ow Y60 S850 6 v19 r17/\Ow Y63 S850 7 v25 r23/\Bk Y35 S850 3 v5 ((t1.1,t1.2.1,t1.2.2.1,t1.2.2.2))/\Bw S850 4 (.ptr b9 0) [v851,v852]/\Bk Y37 S850 5 v13 s847.2.2.2/\Bk Y37 S850 8 v33 ((([],0):(List UInt8) × Int))/\Rd Y60 S850 v851 s847.2.1/\Rd Y63 S850 v852 s847.2.2.1) (fun b e l' m' n'=>(match b with | .inl b853=>e = .exit 2/\∃ S854:Cx fl,∃ v855 v856:SV,S854.m = m'/\S854.n = n'/\Cov l' [(2,.sc ((.ptr b1 0))),(4,.sc ((.ptr b9 0))),(5,.sc v13),(7,.sc v33),(12,.sc (.int .i64 r335))]/\ChM S0 S854/\Bw S854 2 (.ptr b1 0) [v19,v25]/\Ow Y60 S854 6 v19 r17/\Ow Y63 S854 7 v25 r23/\Bw S854 4 (.ptr b9 0) [v855,v856]/\Bk Y37 S854 5 v13 b853.2.2/\Bk Y37 S854 8 v33 ((([],0):(List UInt8) × Int))/\Rd Y60 S854 v855 b853.1/\Rd Y63 S854 v856 b853.2.1 | .inr b853=>e = .ret/\∃ S857:Cx fl,∃ v858 v859:SV,S857.m = m'/\S857.n = n'/\Cov l' [(4,.sc ((.ptr b9 0))),(5,.sc v13),(6,.sc (.int .i64 b853.1))]/\ChM S0 S857/\Bw S857 4 (.ptr b9 0) [v858,v859]/\Bk Y37 S857 5 v13 b853.2.2.2/\Rd Y60 S857 v858 b853.2.1/\Rd Y63 S857 v859 b853.2.2.1)) (by exact ⟨S337,.nils,.nils,rfl,rfl,(Kc (Kc (Kc (Kc (Kc (Kc (Kc (Kc (Kc (Cov.nil _)))))))))),hM,ho4,ho20,ho26,ho8,ho12,ho16,ho36,Rd.nil,Rd.nil⟩) ?_ ?_
       ·clear h
        rintro s847 q _ _ _ ⟨S860,v861,v862,rfl,rfl,hc863,hM,ho4,ho20,ho26,ho8,ho12,ho16,ho36,ho12c0,ho12c1⟩ h
        unfold F5_l0 at h
        refine WC.cov hc863 ?_
        refine WC.sq (WC.rg ?_)
        refine WO.bi rfl rfl rfl ?_
        refine WO.ni (tN (WC.sq ?_))
        refine WC.cond rfl (fun q864=>?_) (fun q864=>?_)
        ·have h:=iteT q864 h
         refine WC.skip (tN (WC.sq (WC.block (WC.sq (WC.rg ?_)))))
         obtain ⟨x865,e866,h⟩:=bindS h
         refine WO.ixS rfl rfl ho26.slv (at?_lt e866) rfl ?_
         refine WO.ldA rfl ho26.ro (fun _ hi=>hi) (at?_get e866) rfl rfl ?_
         refine WO.alS (A:=Y63) (S:=S860) (z0:=(([],[],0):(List UInt8) × (List UInt8) × Int)) 12 rfl rfl rfl (fun v867 S868 c869 ho870=>?_)
         have hM:=hM.to c869
         have ho4:=ho4.to c869
         have ho20:=ho20.to c869
         have ho26:=ho26.to c869
         have ho8:=ho8.to c869
         have ho12:=ho12.to c869
         have ho16:=ho16.to c869
         have ho36:=ho36.to c869
         have ho12c0:=ho12c0.to c869
         have ho12c1:=ho12c1.to c869
         refine WO.stBA (u':=(x865.1,x865.2.1,x865.2.2)) rfl ho870.at0 rfl ho870 rfl rfl (fun S871 c872 ho870=>?_)
         have hM:=hM.to c872
         have ho4:=ho4.to c872
         have ho20:=ho20.to c872
         have ho26:=ho26.to c872
         have ho8:=ho8.to c872
         have ho12:=ho12.to c872
         have ho16:=ho16.to c872
         have ho36:=ho36.to c872
         have ho12c0:=ho12c0.to c872
         have ho12c1:=ho12c1.to c872
         refine WO.ni (tN (WC.sq (WC.rg ?_)))
         refine WO.fldS (j:=0) (q:=0) rfl ho870.at0 ho870.ptr rfl rfl rfl (by decide) ?_
         refine WO.ldB (j:=0) (q:=0) rfl rfl ho870 rfl rfl rfl ?_
         refine WO.fldS (j:=0) (q:=0) rfl ho8.at0 ho8.ptr rfl rfl rfl (by decide) ?_
         refine WO.ldB (j:=0) (q:=2) rfl rfl ho8 rfl rfl rfl ?_
         refine WO.do rfl rfl (WO.mv rfl ?_)
         refine WO.cutB (d:=170) 6 ((((x865.1,x865.2.1,x865.2.2)).1 == ((t1.1,t1.2.1,t1.2.2.1,t1.2.2.2)).2.2.1) || (((x865.1,x865.2.1,x865.2.2)).2.1 == ((t1.1,t1.2.1,t1.2.2.1,t1.2.2.2)).2.2.1)) (fun q873=>?_) (fun q873=>?_) ?_
         ·refine WO.gno rfl rfl (WO.gno rfl rfl (WO.gno rfl rfl (WO.gno rfl rfl (WO.gno rfl rfl ?_))))
          refine WO.pickT rfl rfl ?_
          refine WO.ni ?_
          exact ⟨rfl,rfl,(Cov.any rfl (orT q873) (Ks (Ks (Ks (Ks (Ks (Ks (Ks (Cov.refl _)))))))))⟩
         ·skip
          refine WO.gyes rfl rfl ?_
          refine WO.fldS (j:=0) (q:=0) rfl ho870.at0 ho870.ptr rfl rfl rfl (by decide) ?_
          refine WO.gyes rfl rfl ?_
          refine WO.ldB (j:=0) (q:=1) rfl rfl ho870 rfl rfl rfl ?_
          refine WO.gyes rfl rfl ?_
          refine WO.fldS (j:=0) (q:=0) rfl ho8.at0 ho8.ptr rfl rfl rfl (by decide) ?_
          refine WO.gyes rfl rfl ?_
          refine WO.ldB (j:=0) (q:=2) rfl rfl ho8 rfl rfl rfl ?_
          refine WO.gyes rfl rfl (WO.do rfl rfl ?_)
          refine WO.pickF rfl rfl ?_
          refine WO.ni ?_
          exact ⟨rfl,rfl,(Cov.any rfl (orF q873) (Ks (Ks (Ks (Ks (Ks (Ks (Ks (Cov.refl _)))))))))⟩
         refine WO.ni (tN ?_)
         refine WC.cond rfl (fun q874=>?_) (fun q874=>?_)
         ·have h:=iteT q874 h
          refine WC.sq ?_
          refine WC.drawDN rfl ?_
          have ho4z:=ho4.lt
          have ho36z:=ho36.lt
          have k875:=ho4.bko
          have k876:=ho20.bko
          have k877:=ho26.bko
          have k878:=ho8.bko
          have k879:=ho12.bko
          have k880:=ho16.bko
          have k881:=ho36.bko
          have k882:=ho12c0.bko
          have k883:=ho12c1.bko
          have k884:=ho870.bko
          refine WO.ldWA (sz:=2) (r:=[v19,v25]) rfl ho4.at0 ho4 rfl rfl rfl ho4z (limLe_self _) ?_
          refine WO.ldBAz (j:=0) rfl ho36.at0 ho36 rfl ho36z (limLe_self _) ?_
          refine WO.stW (S:=S871) (r:=[v19,v25]) rfl ho12.at0 rfl rfl ho12 rfl rfl rfl rfl rfl (fun S885 c886 ho12=>?_)
          have hM:=hM.to c886
          have ho4:=ho4.to c886
          have ho20:=ho20.to c886
          have ho26:=ho26.to c886
          have ho8:=ho8.to c886
          have ho16:=ho16.to c886
          have ho36:=ho36.to c886
          have ho12c0:=ho12c0.to c886
          have ho12c1:=ho12c1.to c886
          have ho870:=ho870.to c886
          have n887:=c886.n
          have k888:=ho4.bko
          have k889:=ho20.bko
          have k890:=ho26.bko
          have k891:=ho8.bko
          have k892:=ho12.bko
          have k893:=ho16.bko
          have k894:=ho36.bko
          have k895:=ho12c0.bko
          have k896:=ho12c1.bko
          have k897:=ho870.bko
          refine WO.stBA (u':=((((([],0):(List UInt8) × Int)).1,((([],0):(List UInt8) × Int)).2):(List UInt8) × Int)) rfl ho16.at0 rfl ho16 rfl rfl (fun S898 c899 ho16=>?_)
          have hM:=hM.to c899
          have ho4:=ho4.to c899
          have ho20:=ho20.to c899
          have ho26:=ho26.to c899
          have ho8:=ho8.to c899
          have ho12:=ho12.to c899
          have ho36:=ho36.to c899
          have ho12c0:=ho12c0.to c899
          have ho12c1:=ho12c1.to c899
          have ho870:=ho870.to c899
          have n900:=c899.n
          have k901:=ho4.bko
          have k902:=ho20.bko
          have k903:=ho26.bko
          have k904:=ho8.bko
          have k905:=ho12.bko
          have k906:=ho16.bko
          have k907:=ho36.bko
          have k908:=ho12c0.bko
          have k909:=ho12c1.bko
          have k910:=ho870.bko
          refine WO.as rfl (WO.ni ?_)
          refine ⟨fun tt hs=>dynOk_of [(1,2)] (by kernel_rfl) ⟨?_,trivial⟩,?_⟩
          ·show djT tt _ _ = true
           have nb942:=k879.nb k881
           refine djT_of hs rfl rfl rfl rfl rfl ?_ ?_ ?_ <;> simp only [NBs,NB1,and_true,true_and] <;> (repeat' apply And.intro) <;> (first | assumption | (apply NB.symm;assumption) | exact NB.none rfl | exact NB.noneR rfl | (apply NB.pt;first | assumption | (apply NB.symm;assumption)) | (apply NB.symm;apply NB.pt;first | assumption | (apply NB.symm;assumption) | (apply NB.symm;apply NB.pt;first | assumption | (apply NB.symm;assumption))))
          clear k875 k876 k877 k878 k879 k880 k881 k882 k883 k884 k888 k889 k890 k891 k892 k893 k894 k895 k896 k897 k901 k902 k903 k904 k905 k906 k907 k908 k909 k910 n887 n900
          refine tN (WC.ret (bR (tR (tR ?_))))
          have hM:=hM.drop 6
          have ho20:=ho20.freeze
          have ho26:=ho26.drop 6
          have ho12:=ho12.drop 6
          have ho16:=ho16.drop 6
          have hM:=hM.drop 7
          have ho20:=ho20.drop 7
          have ho26:=ho26.freeze
          have ho12:=ho12.drop 7
          have ho16:=ho16.drop 7
          obtain rfl:=someI h
          exact ⟨_,rfl,rfl,⟨((S898.drop 6).drop 7),v19,v25,rfl,rfl,(Kc (Kc (Kc (Cov.nil _)))),hM,ho12,ho16,ho20,ho26⟩⟩
         ·have h:=iteF q874 h
          refine WC.skip (bN (tN (WC.rg ?_)))
          refine WO.bi rfl rfl rfl ?_
          refine WO.mv rfl (WO.ni (tN ?_))
          obtain rfl:=someI h
          exact ⟨_,rfl,⟨S871,v861,v862,rfl,rfl,(Kc (Kc (Kc (Kc (Kc (Kc (Kc (Kc (Kc (Cov.nil _)))))))))),hM,ho4,ho20,ho26,ho8,ho12,ho16,ho36,ho12c0,ho12c1⟩⟩
        ·have h:=iteF q864 h
         refine WC.exit (tE (tE ?_))
         obtain rfl:=someI h
         exact ⟨_,rfl,rfl,⟨S860,v861,v862,rfl,rfl,(Kc (Kc (Kc (Kc (Kc (Cov.nil _)))))),hM,ho4,ho20,ho26,ho12,ho16,ho36,ho12c0,ho12c1⟩⟩
       cases b955 with
       | inl b957=>
        simp only at h
        rintro _ _ _ _ ⟨rfl,⟨S958,v959,v960,rfl,rfl,hc961,hM,ho4,ho20,ho26,ho12,ho16,ho36,ho12c0,ho12c1⟩⟩
        refine bS (tN ?_)
        refine WC.cov hc961 ?_
        refine WC.drawN rfl rfl ?_
        have ho4z:=ho4.lt
        refine WO.fldS (j:=0) (q:=0) rfl ho4.at0 ho4.ptr rfl rfl rfl (by decide) ?_
        refine WO.ldW rfl rfl ho4 rfl rfl ho4z (limLe_self _) ?_
        refine WO.mv rfl ?_
        obtain ⟨L962,e963,h⟩:=bindS h
        refine WO.slcP rfl rfl ho20 e963 rfl (fun v964 ho965 hO966=>?_)
        refine WO.fldS (j:=0) (q:=0) rfl ho4.at0 ho4.ptr rfl rfl rfl (by decide) ?_
        refine WO.ldW rfl rfl ho4 rfl rfl ho4z (limLe_self _) ?_
        refine WO.mv rfl ?_
        refine WO.bi rfl rfl rfl ?_
        obtain ⟨L967,e968,h⟩:=bindS h
        refine WO.slc (k':=.i64) rfl (.inl ⟨_,rfl,rfl⟩) (.inr ⟨rfl,rfl⟩) ho20.wk e968 rfl (fun v969 ho970=>?_)
        have ho970:Wk Y60 S958 6 v969 L967:=ho970
        obtain ⟨L971,e972,h⟩:=bindS h
        refine WO.appSB rfl rfl hO966 ho970.ro e972 rfl rfl rfl (fun v973 S974 c975 ho976=>?_)
        have hM:=hM.to c975
        have ho4:=ho4.to c975
        have ho26:=ho26.to c975
        have ho12:=ho12.to c975
        have ho16:=ho16.to c975
        have ho36:=ho36.to c975
        have ho12c0:=ho12c0.to c975
        have ho12c1:=ho12c1.to c975
        refine WO.fldS (j:=0) (q:=0) rfl ho4.at0 ho4.ptr rfl rfl rfl (by decide) ?_
        refine WO.stW (S:=S974) (r:=[v973,v25]) rfl rfl rfl rfl ho4 rfl rfl rfl rfl rfl (fun S977 c978 ho4=>?_)
        have hM:=hM.to c978
        have ho26:=ho26.to c978
        have ho12:=ho12.to c978
        have ho16:=ho16.to c978
        have ho36:=ho36.to c978
        have ho12c0:=ho12c0.to c978
        have ho12c1:=ho12c1.to c978
        have ho976:=ho976.to c978
        refine WO.ni (bN (tN (WC.sq ?_)))
        refine WC.drawDN rfl ?_
        have ho4z:=ho4.lt
        have ho36z:=ho36.lt
        have k979:=ho4.bko
        have k980:=ho26.bko
        have k981:=ho12.bko
        have k982:=ho16.bko
        have k983:=ho36.bko
        have k984:=ho12c0.bko
        have k985:=ho12c1.bko
        have k986:=ho976.bko
        refine WO.ldWA (sz:=2) (r:=[v973,v25]) rfl ho4.at0 ho4 rfl rfl rfl ho4z (limLe_self _) ?_
        refine WO.ldBAz (j:=0) rfl ho36.at0 ho36 rfl ho36z (limLe_self _) ?_
        refine WO.stW (S:=S977) (r:=[v973,v25]) rfl ho12.at0 rfl rfl ho12 rfl rfl rfl rfl rfl (fun S987 c988 ho12=>?_)
        have hM:=hM.to c988
        have ho4:=ho4.to c988
        have ho26:=ho26.to c988
        have ho16:=ho16.to c988
        have ho36:=ho36.to c988
        have ho12c0:=ho12c0.to c988
        have ho12c1:=ho12c1.to c988
        have ho976:=ho976.to c988
        have n989:=c988.n
        have k990:=ho4.bko
        have k991:=ho26.bko
        have k992:=ho12.bko
        have k993:=ho16.bko
        have k994:=ho36.bko
        have k995:=ho12c0.bko
        have k996:=ho12c1.bko
        have k997:=ho976.bko
        refine WO.stBA (u':=((((([],0):(List UInt8) × Int)).1,((([],0):(List UInt8) × Int)).2):(List UInt8) × Int)) rfl ho16.at0 rfl ho16 rfl rfl (fun S998 c999 ho16=>?_)
        have hM:=hM.to c999
        have ho4:=ho4.to c999
        have ho26:=ho26.to c999
        have ho12:=ho12.to c999
        have ho36:=ho36.to c999
        have ho12c0:=ho12c0.to c999
        have ho12c1:=ho12c1.to c999
        have ho976:=ho976.to c999
        have n1000:=c999.n
        have k1001:=ho4.bko
        have k1002:=ho26.bko
        have k1003:=ho12.bko
        have k1004:=ho16.bko
        have k1005:=ho36.bko
        have k1006:=ho12c0.bko
        have k1007:=ho12c1.bko
        have k1008:=ho976.bko
        refine WO.as rfl (WO.ni ?_)
        refine ⟨fun tt hs=>dynOk_of [(1,2)] (by kernel_rfl) ⟨?_,trivial⟩,?_⟩
        ·show djT tt _ _ = true
         have nb1023:=k981.nb k983
         refine djT_of hs rfl rfl rfl rfl rfl ?_ ?_ ?_ <;> simp only [NBs,NB1,and_true,true_and] <;> (repeat' apply And.intro) <;> (first | assumption | (apply NB.symm;assumption) | exact NB.none rfl | exact NB.noneR rfl | (apply NB.pt;first | assumption | (apply NB.symm;assumption)) | (apply NB.symm;apply NB.pt;first | assumption | (apply NB.symm;assumption) | (apply NB.symm;apply NB.pt;first | assumption | (apply NB.symm;assumption))))
        clear k979 k980 k981 k982 k983 k984 k985 k986 k990 k991 k992 k993 k994 k995 k996 k997 k1001 k1002 k1003 k1004 k1005 k1006 k1007 k1008 n989 n1000
        refine tN (WC.ret ?_)
        have hcell1036:=ho12
        have hcell1037:=ho16
        have hM:=hM.drop 6
        have ho26:=ho26.drop 6
        have ho976:=ho976.freeze
        have hM:=hM.drop 7
        have ho26:=ho26.freeze
        have ho976:=ho976.drop 7
        obtain rfl:=someI h
        exact ⟨.inr rfl,_,_,(resK_w (sz:=2) hcell1036 (Cov.refl _) rfl rfl rfl (resK_b hcell1037 (Cov.refl _) rfl rfl (resK_t (Cov.refl _) rfl rfl))),rfl,⟨((S998.drop 6).drop 7),rfl,rfl,hM,v973,v25,rfl,ho976,ho26⟩⟩
       | inr b957=>
        simp only at h
        rintro _ _ _ _ ⟨rfl,⟨S1038,v1039,v1040,rfl,rfl,hc1041,hM,ho12,ho16,ho12c0,ho12c1⟩⟩
        refine bR (tR (bR (tR ?_)))
        have hcell1042:=ho12
        have hcell1043:=ho16
        obtain rfl:=someI h
        exact ⟨.inr rfl,_,_,(resK_w (sz:=2) hcell1042 hc1041 rfl rfl rfl (resK_b hcell1043 hc1041 rfl rfl (resK_t hc1041 rfl rfl))),rfl,⟨S1038,rfl,rfl,hM,v1039,v1040,rfl,ho12c0,ho12c1⟩⟩
      ·have h:=iteF q846 h
       refine WC.sq (WC.rg ?_)
       refine WO.bi rfl rfl rfl ?_
       refine WO.as rfl (WO.ni (tN ?_))
       refine WC.cond rfl (fun q1044=>?_) (fun q1044=>?_)
       ·have h:=iteT q1044 h
        refine WC.sq (WC.rg ?_)
        refine WO.ldWA (sz:=2) (r:=[v19,v25]) rfl ho4.at0 ho4 rfl rfl rfl ho4.lt rfl ?_
        refine WO.fldS (j:=0) (q:=0) rfl ho8.at0 ho8.ptr rfl rfl rfl (by decide) ?_
        refine WO.ldB (j:=0) (q:=3) rfl rfl ho8 rfl rfl rfl ?_
        obtain ⟨r1045,e1046,h⟩:=bindS h
        refine WO.callE (S:=S337) rfl rfl (F21_ok e1046 ho20.vw ho26.vw) (fun S1047 c1048=>?_)
        have hot0_0:=hot0_0.to c1048
        have hot0_1:=hot0_1.to c1048
        have hM:=hM.to c1048
        have ho4:=ho4.to c1048
        have ho8:=ho8.to c1048
        have ho12:=ho12.to c1048
        have ho16:=ho16.to c1048
        have ho20:=ho20.to c1048
        have ho26:=ho26.to c1048
        have ho36:=ho36.to c1048
        have ho114:=ho114.to c1048
        have ho116:=ho116.to c1048
        refine WO.as rfl (WO.ni (tN (WC.sq (WC.block (WC.sq (WC.rg (WO.mv rfl ?_)))))))
        refine WO.bi rfl rfl rfl ?_
        refine WO.as rfl (WO.ni (tN ?_))
        refine WC.cond rfl (fun q1049=>?_) (fun q1049=>?_)
        ·have h:=iteT q1049 h
         refine WC.sq ?_
         refine WC.drawDN rfl ?_
         have ho4z:=ho4.lt
         have ho36z:=ho36.lt
         have k1050:=hot0_0.bko
         have k1051:=hot0_1.bko
         have k1052:=ho4.bko
         have k1053:=ho8.bko
         have k1054:=ho12.bko
         have k1055:=ho16.bko
         have k1056:=ho20.bko
         have k1057:=ho26.bko
         have k1058:=ho36.bko
         have k1059:=ho114.bko
         have k1060:=ho116.bko
         refine WO.ldWA (sz:=2) (r:=[v19,v25]) rfl ho4.at0 ho4 rfl rfl rfl ho4z (limLe_self _) ?_
         refine WO.ldBAz (j:=0) rfl ho36.at0 ho36 rfl ho36z (limLe_self _) ?_
         refine WO.stW (S:=S1047) (r:=[v19,v25]) rfl ho12.at0 rfl rfl ho12 rfl rfl rfl rfl rfl (fun S1061 c1062 ho12=>?_)
         have hot0_0:=hot0_0.to c1062
         have hot0_1:=hot0_1.to c1062
         have hM:=hM.to c1062
         have ho4:=ho4.to c1062
         have ho8:=ho8.to c1062
         have ho16:=ho16.to c1062
         have ho20:=ho20.to c1062
         have ho26:=ho26.to c1062
         have ho36:=ho36.to c1062
         have ho114:=ho114.to c1062
         have ho116:=ho116.to c1062
         have n1063:=c1062.n
         have k1064:=hot0_0.bko
         have k1065:=hot0_1.bko
         have k1066:=ho4.bko
         have k1067:=ho8.bko
         have k1068:=ho12.bko
         have k1069:=ho16.bko
         have k1070:=ho20.bko
         have k1071:=ho26.bko
         have k1072:=ho36.bko
         have k1073:=ho114.bko
         have k1074:=ho116.bko
         refine WO.stBA (u':=((((([],0):(List UInt8) × Int)).1,((([],0):(List UInt8) × Int)).2):(List UInt8) × Int)) rfl ho16.at0 rfl ho16 rfl rfl (fun S1075 c1076 ho16=>?_)
         have hot0_0:=hot0_0.to c1076
         have hot0_1:=hot0_1.to c1076
         have hM:=hM.to c1076
         have ho4:=ho4.to c1076
         have ho8:=ho8.to c1076
         have ho12:=ho12.to c1076
         have ho20:=ho20.to c1076
         have ho26:=ho26.to c1076
         have ho36:=ho36.to c1076
         have ho114:=ho114.to c1076
         have ho116:=ho116.to c1076
         have n1077:=c1076.n
         have k1078:=hot0_0.bko
         have k1079:=hot0_1.bko
         have k1080:=ho4.bko
         have k1081:=ho8.bko
         have k1082:=ho12.bko
         have k1083:=ho16.bko
         have k1084:=ho20.bko
         have k1085:=ho26.bko
         have k1086:=ho36.bko
         have k1087:=ho114.bko
         have k1088:=ho116.bko
         refine WO.as rfl (WO.ni ?_)
         refine ⟨fun tt hs=>dynOk_of [(1,2)] (by kernel_rfl) ⟨?_,trivial⟩,?_⟩
         ·show djT tt _ _ = true
          have nb1125:=k1054.nb k1058
          refine djT_of hs rfl rfl rfl rfl rfl ?_ ?_ ?_ <;> simp only [NBs,NB1,and_true,true_and] <;> (repeat' apply And.intro) <;> (first | assumption | (apply NB.symm;assumption) | exact NB.none rfl | exact NB.noneR rfl | (apply NB.pt;first | assumption | (apply NB.symm;assumption)) | (apply NB.symm;apply NB.pt;first | assumption | (apply NB.symm;assumption) | (apply NB.symm;apply NB.pt;first | assumption | (apply NB.symm;assumption))))
         clear k1050 k1051 k1052 k1053 k1054 k1055 k1056 k1057 k1058 k1059 k1060 k1064 k1065 k1066 k1067 k1068 k1069 k1070 k1071 k1072 k1073 k1074 k1078 k1079 k1080 k1081 k1082 k1083 k1084 k1085 k1086 k1087 k1088 n1063 n1077
         refine tN (WC.ret (bR (tR (bR (tR ?_)))))
         have hcell1143:=ho12
         have hcell1144:=ho16
         have hM:=hM.drop 6
         have ho20:=ho20.freeze
         have ho26:=ho26.drop 6
         have hM:=hM.drop 7
         have ho20:=ho20.drop 7
         have ho26:=ho26.freeze
         obtain rfl:=someI h
         exact ⟨.inr rfl,_,_,(resK_w (sz:=2) hcell1143 (Cov.refl _) rfl rfl rfl (resK_b hcell1144 (Cov.refl _) rfl rfl (resK_t (Cov.refl _) rfl rfl))),rfl,⟨((S1075.drop 6).drop 7),rfl,rfl,hM,v19,v25,rfl,ho20,ho26⟩⟩
        ·have h:=iteF q1049 h
         refine WC.sq (WC.rg (WO.mv rfl (WO.mv rfl ?_)))
         refine WO.bi rfl rfl rfl ?_
         refine WO.mv rfl ?_
         refine WO.cutB (d:=204) 4 ((r1045 == r335) || (decide (((t1.1,t1.2.1,t1.2.2.1,t1.2.2.2)).2.1 < 1))) (fun q1145=>?_) (fun q1145=>?_) ?_
         ·refine WO.gno rfl rfl (WO.gno rfl rfl (WO.gno rfl rfl ?_))
          refine WO.pickT rfl rfl ?_
          refine WO.ni ?_
          exact ⟨rfl,rfl,(Cov.any rfl (orT q1145) (Ks (Ks (Ks (Ks (Ks (Cov.refl _)))))))⟩
         ·skip
          refine WO.gyes rfl rfl ?_
          refine WO.fldS (j:=0) (q:=0) rfl ho8.at0 ho8.ptr rfl rfl rfl (by decide) ?_
          refine WO.gyes rfl rfl ?_
          refine WO.ldB (j:=0) (q:=1) rfl rfl ho8 rfl rfl rfl ?_
          refine WO.gyes rfl rfl ?_
          refine WO.bi rfl rfl rfl ?_
          refine WO.pickF rfl rfl ?_
          refine WO.ni ?_
          exact ⟨rfl,rfl,(Cov.any rfl (orF q1145) (Ks (Ks (Ks (Ks (Ks (Cov.refl _)))))))⟩
         refine WO.as rfl (WO.ni (tN ?_))
         refine WC.cond rfl (fun q1146=>?_) (fun q1146=>?_)
         ·have h:=iteT q1146 h
          refine WC.sq ?_
          refine WC.drawDN rfl ?_
          have ho4z:=ho4.lt
          have ho36z:=ho36.lt
          have k1147:=hot0_0.bko
          have k1148:=hot0_1.bko
          have k1149:=ho4.bko
          have k1150:=ho8.bko
          have k1151:=ho12.bko
          have k1152:=ho16.bko
          have k1153:=ho20.bko
          have k1154:=ho26.bko
          have k1155:=ho36.bko
          have k1156:=ho114.bko
          have k1157:=ho116.bko
          refine WO.ldWA (sz:=2) (r:=[v19,v25]) rfl ho4.at0 ho4 rfl rfl rfl ho4z (limLe_self _) ?_
          refine WO.ldBAz (j:=0) rfl ho36.at0 ho36 rfl ho36z (limLe_self _) ?_
          refine WO.stW (S:=S1047) (r:=[v19,v25]) rfl ho12.at0 rfl rfl ho12 rfl rfl rfl rfl rfl (fun S1158 c1159 ho12=>?_)
          have hot0_0:=hot0_0.to c1159
          have hot0_1:=hot0_1.to c1159
          have hM:=hM.to c1159
          have ho4:=ho4.to c1159
          have ho8:=ho8.to c1159
          have ho16:=ho16.to c1159
          have ho20:=ho20.to c1159
          have ho26:=ho26.to c1159
          have ho36:=ho36.to c1159
          have ho114:=ho114.to c1159
          have ho116:=ho116.to c1159
          have n1160:=c1159.n
          have k1161:=hot0_0.bko
          have k1162:=hot0_1.bko
          have k1163:=ho4.bko
          have k1164:=ho8.bko
          have k1165:=ho12.bko
          have k1166:=ho16.bko
          have k1167:=ho20.bko
          have k1168:=ho26.bko
          have k1169:=ho36.bko
          have k1170:=ho114.bko
          have k1171:=ho116.bko
          refine WO.stBA (u':=((((([],0):(List UInt8) × Int)).1,((([],0):(List UInt8) × Int)).2):(List UInt8) × Int)) rfl ho16.at0 rfl ho16 rfl rfl (fun S1172 c1173 ho16=>?_)
          have hot0_0:=hot0_0.to c1173
          have hot0_1:=hot0_1.to c1173
          have hM:=hM.to c1173
          have ho4:=ho4.to c1173
          have ho8:=ho8.to c1173
          have ho12:=ho12.to c1173
          have ho20:=ho20.to c1173
          have ho26:=ho26.to c1173
          have ho36:=ho36.to c1173
          have ho114:=ho114.to c1173
          have ho116:=ho116.to c1173
          have n1174:=c1173.n
          have k1175:=hot0_0.bko
          have k1176:=hot0_1.bko
          have k1177:=ho4.bko
          have k1178:=ho8.bko
          have k1179:=ho12.bko
          have k1180:=ho16.bko
          have k1181:=ho20.bko
          have k1182:=ho26.bko
          have k1183:=ho36.bko
          have k1184:=ho114.bko
          have k1185:=ho116.bko
          refine WO.as rfl (WO.ni ?_)
          refine ⟨fun tt hs=>dynOk_of [(1,2)] (by kernel_rfl) ⟨?_,trivial⟩,?_⟩
          ·show djT tt _ _ = true
           have nb1222:=k1151.nb k1155
           refine djT_of hs rfl rfl rfl rfl rfl ?_ ?_ ?_ <;> simp only [NBs,NB1,and_true,true_and] <;> (repeat' apply And.intro) <;> (first | assumption | (apply NB.symm;assumption) | exact NB.none rfl | exact NB.noneR rfl | (apply NB.pt;first | assumption | (apply NB.symm;assumption)) | (apply NB.symm;apply NB.pt;first | assumption | (apply NB.symm;assumption) | (apply NB.symm;apply NB.pt;first | assumption | (apply NB.symm;assumption))))
          clear k1147 k1148 k1149 k1150 k1151 k1152 k1153 k1154 k1155 k1156 k1157 k1161 k1162 k1163 k1164 k1165 k1166 k1167 k1168 k1169 k1170 k1171 k1175 k1176 k1177 k1178 k1179 k1180 k1181 k1182 k1183 k1184 k1185 n1160 n1174
          refine tN (WC.ret (bR (tR (bR (tR ?_)))))
          have hcell1240:=ho12
          have hcell1241:=ho16
          have hM:=hM.drop 6
          have ho20:=ho20.freeze
          have ho26:=ho26.drop 6
          have hM:=hM.drop 7
          have ho20:=ho20.drop 7
          have ho26:=ho26.freeze
          obtain rfl:=someI h
          exact ⟨.inr rfl,_,_,(resK_w (sz:=2) hcell1240 (Cov.refl _) rfl rfl rfl (resK_b hcell1241 (Cov.refl _) rfl rfl (resK_t (Cov.refl _) rfl rfl))),rfl,⟨((S1172.drop 6).drop 7),rfl,rfl,hM,v19,v25,rfl,ho20,ho26⟩⟩
         ·have h:=iteF q1146 h
          refine WC.sq ?_
          refine WC.drawP rfl rfl ?_
          refine WO.fldS (j:=0) (q:=0) rfl ho8.at0 ho8.ptr rfl rfl rfl (by decide) ?_
          refine WO.ldB (j:=0) (q:=1) rfl rfl ho8 rfl rfl (limLe_self _) ?_
          refine WO.mv rfl (WO.mv rfl ?_)
          obtain ⟨x1242,e1243,h⟩:=bindS h
          refine WO.ixS rfl rfl ho114.slv (at?_lt e1243) rfl ?_
          refine WO.ldF rfl ho114.ro (fun _ hi=>hi) (at?_get e1243) rfl rfl (limLe_self _) ?_
          refine WO.bi rfl rfl rfl ?_
          refine WO.as rfl (WO.ni (tN ?_))
          refine WC.cond rfl (fun q1244=>?_) (fun q1244=>?_)
          ·have h:=iteT q1244 h
           refine WC.sq ?_
           refine WC.drawDN rfl ?_
           have ho4z:=ho4.lt
           have ho36z:=ho36.lt
           have k1245:=hot0_0.bko
           have k1246:=hot0_1.bko
           have k1247:=ho4.bko
           have k1248:=ho8.bko
           have k1249:=ho12.bko
           have k1250:=ho16.bko
           have k1251:=ho20.bko
           have k1252:=ho26.bko
           have k1253:=ho36.bko
           have k1254:=ho114.bko
           have k1255:=ho116.bko
           refine WO.ldWA (sz:=2) (r:=[v19,v25]) rfl ho4.at0 ho4 rfl rfl rfl ho4z (limLe_self _) ?_
           refine WO.ldBAz (j:=0) rfl ho36.at0 ho36 rfl ho36z (limLe_self _) ?_
           refine WO.stW (S:=S1047) (r:=[v19,v25]) rfl ho12.at0 rfl rfl ho12 rfl rfl rfl rfl rfl (fun S1256 c1257 ho12=>?_)
           have hot0_0:=hot0_0.to c1257
           have hot0_1:=hot0_1.to c1257
           have hM:=hM.to c1257
           have ho4:=ho4.to c1257
           have ho8:=ho8.to c1257
           have ho16:=ho16.to c1257
           have ho20:=ho20.to c1257
           have ho26:=ho26.to c1257
           have ho36:=ho36.to c1257
           have ho114:=ho114.to c1257
           have ho116:=ho116.to c1257
           have n1258:=c1257.n
           have k1259:=hot0_0.bko
           have k1260:=hot0_1.bko
           have k1261:=ho4.bko
           have k1262:=ho8.bko
           have k1263:=ho12.bko
           have k1264:=ho16.bko
           have k1265:=ho20.bko
           have k1266:=ho26.bko
           have k1267:=ho36.bko
           have k1268:=ho114.bko
           have k1269:=ho116.bko
           refine WO.stBA (u':=((((([],0):(List UInt8) × Int)).1,((([],0):(List UInt8) × Int)).2):(List UInt8) × Int)) rfl ho16.at0 rfl ho16 rfl rfl (fun S1270 c1271 ho16=>?_)
           have hot0_0:=hot0_0.to c1271
           have hot0_1:=hot0_1.to c1271
           have hM:=hM.to c1271
           have ho4:=ho4.to c1271
           have ho8:=ho8.to c1271
           have ho12:=ho12.to c1271
           have ho20:=ho20.to c1271
           have ho26:=ho26.to c1271
           have ho36:=ho36.to c1271
           have ho114:=ho114.to c1271
           have ho116:=ho116.to c1271
           have n1272:=c1271.n
           have k1273:=hot0_0.bko
           have k1274:=hot0_1.bko
           have k1275:=ho4.bko
           have k1276:=ho8.bko
           have k1277:=ho12.bko
           have k1278:=ho16.bko
           have k1279:=ho20.bko
           have k1280:=ho26.bko
           have k1281:=ho36.bko
           have k1282:=ho114.bko
           have k1283:=ho116.bko
           refine WO.as rfl (WO.ni ?_)
           refine ⟨fun tt hs=>dynOk_of [(1,2)] (by kernel_rfl) ⟨?_,trivial⟩,?_⟩
           ·show djT tt _ _ = true
            have nb1320:=k1249.nb k1253
            refine djT_of hs rfl rfl rfl rfl rfl ?_ ?_ ?_ <;> simp only [NBs,NB1,and_true,true_and] <;> (repeat' apply And.intro) <;> (first | assumption | (apply NB.symm;assumption) | exact NB.none rfl | exact NB.noneR rfl | (apply NB.pt;first | assumption | (apply NB.symm;assumption)) | (apply NB.symm;apply NB.pt;first | assumption | (apply NB.symm;assumption) | (apply NB.symm;apply NB.pt;first | assumption | (apply NB.symm;assumption))))
           clear k1245 k1246 k1247 k1248 k1249 k1250 k1251 k1252 k1253 k1254 k1255 k1259 k1260 k1261 k1262 k1263 k1264 k1265 k1266 k1267 k1268 k1269 k1273 k1274 k1275 k1276 k1277 k1278 k1279 k1280 k1281 k1282 k1283 n1258 n1272
           refine tN (WC.ret (bR (tR (bR (tR ?_)))))
           have hcell1338:=ho12
           have hcell1339:=ho16
           have hM:=hM.drop 6
           have ho20:=ho20.freeze
           have ho26:=ho26.drop 6
           have hM:=hM.drop 7
           have ho20:=ho20.drop 7
           have ho26:=ho26.freeze
           obtain rfl:=someI h
           exact ⟨.inr rfl,_,_,(resK_w (sz:=2) hcell1338 (Cov.refl _) rfl rfl rfl (resK_b hcell1339 (Cov.refl _) rfl rfl (resK_t (Cov.refl _) rfl rfl))),rfl,⟨((S1270.drop 6).drop 7),rfl,rfl,hM,v19,v25,rfl,ho20,ho26⟩⟩
          ·have h:=iteF q1244 h
           refine WC.sq ?_
           refine WC.drawP rfl rfl ?_
           refine WO.mv rfl (WO.mv rfl ?_)
           obtain ⟨x1340,e1341,h⟩:=bindS h
           refine WO.ixS rfl rfl ho114.slv (at?_lt e1341) rfl ?_
           refine WO.ldF rfl ho114.ro (fun _ hi=>hi) (at?_get e1341) rfl rfl (limLe_self _) ?_
           refine WO.fldS (j:=0) (q:=0) rfl ho8.at0 ho8.ptr rfl rfl rfl (by decide) ?_
           refine WO.ldB (j:=0) (q:=1) rfl rfl ho8 rfl rfl (limLe_self _) ?_
           refine WO.bi rfl rfl rfl ?_
           refine WO.bi rfl rfl rfl ?_
           refine WO.as rfl (WO.ni (tN ?_))
           refine WC.cond rfl (fun q1342=>?_) (fun q1342=>?_)
           ·have h:=iteT q1342 h
            refine WC.sq ?_
            refine WC.drawDN rfl ?_
            have ho4z:=ho4.lt
            have ho36z:=ho36.lt
            have k1343:=hot0_0.bko
            have k1344:=hot0_1.bko
            have k1345:=ho4.bko
            have k1346:=ho8.bko
            have k1347:=ho12.bko
            have k1348:=ho16.bko
            have k1349:=ho20.bko
            have k1350:=ho26.bko
            have k1351:=ho36.bko
            have k1352:=ho114.bko
            have k1353:=ho116.bko
            refine WO.ldWA (sz:=2) (r:=[v19,v25]) rfl ho4.at0 ho4 rfl rfl rfl ho4z (limLe_self _) ?_
            refine WO.ldBAz (j:=0) rfl ho36.at0 ho36 rfl ho36z (limLe_self _) ?_
            refine WO.stW (S:=S1047) (r:=[v19,v25]) rfl ho12.at0 rfl rfl ho12 rfl rfl rfl rfl rfl (fun S1354 c1355 ho12=>?_)
            have hot0_0:=hot0_0.to c1355
            have hot0_1:=hot0_1.to c1355
            have hM:=hM.to c1355
            have ho4:=ho4.to c1355
            have ho8:=ho8.to c1355
            have ho16:=ho16.to c1355
            have ho20:=ho20.to c1355
            have ho26:=ho26.to c1355
            have ho36:=ho36.to c1355
            have ho114:=ho114.to c1355
            have ho116:=ho116.to c1355
            have n1356:=c1355.n
            have k1357:=hot0_0.bko
            have k1358:=hot0_1.bko
            have k1359:=ho4.bko
            have k1360:=ho8.bko
            have k1361:=ho12.bko
            have k1362:=ho16.bko
            have k1363:=ho20.bko
            have k1364:=ho26.bko
            have k1365:=ho36.bko
            have k1366:=ho114.bko
            have k1367:=ho116.bko
            refine WO.stBA (u':=((((([],0):(List UInt8) × Int)).1,((([],0):(List UInt8) × Int)).2):(List UInt8) × Int)) rfl ho16.at0 rfl ho16 rfl rfl (fun S1368 c1369 ho16=>?_)
            have hot0_0:=hot0_0.to c1369
            have hot0_1:=hot0_1.to c1369
            have hM:=hM.to c1369
            have ho4:=ho4.to c1369
            have ho8:=ho8.to c1369
            have ho12:=ho12.to c1369
            have ho20:=ho20.to c1369
            have ho26:=ho26.to c1369
            have ho36:=ho36.to c1369
            have ho114:=ho114.to c1369
            have ho116:=ho116.to c1369
            have n1370:=c1369.n
            have k1371:=hot0_0.bko
            have k1372:=hot0_1.bko
            have k1373:=ho4.bko
            have k1374:=ho8.bko
            have k1375:=ho12.bko
            have k1376:=ho16.bko
            have k1377:=ho20.bko
            have k1378:=ho26.bko
            have k1379:=ho36.bko
            have k1380:=ho114.bko
            have k1381:=ho116.bko
            refine WO.as rfl (WO.ni ?_)
            refine ⟨fun tt hs=>dynOk_of [(1,2)] (by kernel_rfl) ⟨?_,trivial⟩,?_⟩
            ·show djT tt _ _ = true
             have nb1418:=k1347.nb k1351
             refine djT_of hs rfl rfl rfl rfl rfl ?_ ?_ ?_ <;> simp only [NBs,NB1,and_true,true_and] <;> (repeat' apply And.intro) <;> (first | assumption | (apply NB.symm;assumption) | exact NB.none rfl | exact NB.noneR rfl | (apply NB.pt;first | assumption | (apply NB.symm;assumption)) | (apply NB.symm;apply NB.pt;first | assumption | (apply NB.symm;assumption) | (apply NB.symm;apply NB.pt;first | assumption | (apply NB.symm;assumption))))
            clear k1343 k1344 k1345 k1346 k1347 k1348 k1349 k1350 k1351 k1352 k1353 k1357 k1358 k1359 k1360 k1361 k1362 k1363 k1364 k1365 k1366 k1367 k1371 k1372 k1373 k1374 k1375 k1376 k1377 k1378 k1379 k1380 k1381 n1356 n1370
            refine tN (WC.ret (bR (tR (bR (tR ?_)))))
            have hcell1436:=ho12
            have hcell1437:=ho16
            have hM:=hM.drop 6
            have ho20:=ho20.freeze
            have ho26:=ho26.drop 6
            have hM:=hM.drop 7
            have ho20:=ho20.drop 7
            have ho26:=ho26.freeze
            obtain rfl:=someI h
            exact ⟨.inr rfl,_,_,(resK_w (sz:=2) hcell1436 (Cov.refl _) rfl rfl rfl (resK_b hcell1437 (Cov.refl _) rfl rfl (resK_t (Cov.refl _) rfl rfl))),rfl,⟨((S1368.drop 6).drop 7),rfl,rfl,hM,v19,v25,rfl,ho20,ho26⟩⟩
           ·have h:=iteF q1342 h
            refine WC.skip (bN (tN (WC.sq ?_)))
            refine WC.drawN rfl rfl ?_
            have ho4z:=ho4.lt
            have ho8z:=ho8.lt
            have ho20z:=ho20.oz
            refine WO.fldS (j:=0) (q:=0) rfl ho4.at0 ho4.ptr rfl rfl rfl (by decide) ?_
            refine WO.ldW rfl rfl ho4 rfl rfl ho4z (limLe_self _) ?_
            refine WO.mv rfl ?_
            obtain ⟨x1438,e1439,h⟩:=bindS h
            refine WO.ixS rfl rfl ho20.slv (at?_lt e1439) rfl ?_
            refine WO.fldS rfl rfl (SlV.ptr ho20.slv (at?_nat e1439)) rfl rfl rfl (by decide) ?_
            refine WO.ldF rfl ho20z (fun _ hi=>hi.1) (at?_get e1439) rfl rfl (limLe_self _) ?_
            refine WO.fldS (j:=0) (q:=0) rfl ho8.at0 ho8.ptr rfl rfl rfl (by decide) ?_
            refine WO.ldBz (j:=0) (q:=1) rfl rfl ho8 rfl rfl ho8z (limLe_self _) ?_
            refine WO.bi rfl rfl rfl ?_
            obtain ⟨x1440,e1441,h⟩:=bindS h
            refine WO.ixS rfl rfl ho20.slv (at?_lt e1441) rfl ?_
            refine WO.fldS rfl rfl (SlV.ptr ho20.slv (at?_nat e1441)) rfl rfl rfl (by decide) ?_
            refine WO.stF (q:=1) (u':=(x1440.1,(wrapA .i64 (x1438.2.1 - ((t1.1,t1.2.1,t1.2.2.1,t1.2.2.2)).2.1)),x1440.2.2)) rfl rfl ho20 (at?_get e1441) rfl (by decide) rfl rfl (fun S1442 c1443 ho20=>?_)
            have hot0_0:=hot0_0.to c1443
            have hot0_1:=hot0_1.to c1443
            have hM:=hM.to c1443
            have ho4:=ho4.to c1443
            have ho8:=ho8.to c1443
            have ho12:=ho12.to c1443
            have ho16:=ho16.to c1443
            have ho26:=ho26.to c1443
            have ho36:=ho36.to c1443
            have ho114:=ho114.to c1443
            have ho116:=ho116.to c1443
            refine WO.ni (tN (WC.sq ?_))
            refine WC.drawN rfl rfl ?_
            have ho4z:=ho4.lt
            have ho8z:=ho8.lt
            have ho20z:=ho20.oz
            refine WO.fldS (j:=0) (q:=0) rfl ho4.at0 ho4.ptr rfl rfl rfl (by decide) ?_
            refine WO.ldW rfl rfl ho4 rfl rfl ho4z (limLe_self _) ?_
            refine WO.mv rfl ?_
            obtain ⟨x1444,e1445,h⟩:=bindS h
            refine WO.ixS rfl rfl ho20.slv (at?_lt e1445) rfl ?_
            refine WO.fldS rfl rfl (SlV.ptr ho20.slv (at?_nat e1445)) rfl rfl rfl (by decide) ?_
            refine WO.ldF rfl ho20z (fun _ hi=>hi.1) (at?_get e1445) rfl rfl (limLe_self _) ?_
            refine WO.fldS (j:=0) (q:=0) rfl ho8.at0 ho8.ptr rfl rfl rfl (by decide) ?_
            refine WO.ldBz (j:=0) (q:=1) rfl rfl ho8 rfl rfl ho8z (limLe_self _) ?_
            refine WO.bi rfl rfl rfl ?_
            obtain ⟨x1446,e1447,h⟩:=bindS h
            refine WO.ixS rfl rfl ho20.slv (at?_lt e1447) rfl ?_
            refine WO.fldS rfl rfl (SlV.ptr ho20.slv (at?_nat e1447)) rfl rfl rfl (by decide) ?_
            refine WO.stF (q:=1) (u':=(x1446.1,(wrapA .i64 (x1444.2.1 + ((t1.1,t1.2.1,t1.2.2.1,t1.2.2.2)).2.1)),x1446.2.2)) rfl rfl ho20 (at?_get e1447) rfl (by decide) rfl rfl (fun S1448 c1449 ho20=>?_)
            have hot0_0:=hot0_0.to c1449
            have hot0_1:=hot0_1.to c1449
            have hM:=hM.to c1449
            have ho4:=ho4.to c1449
            have ho8:=ho8.to c1449
            have ho12:=ho12.to c1449
            have ho16:=ho16.to c1449
            have ho26:=ho26.to c1449
            have ho36:=ho36.to c1449
            have ho114:=ho114.to c1449
            have ho116:=ho116.to c1449
            refine WO.ni (tN (WC.rg ?_))
            refine WO.fldS (j:=0) (q:=0) rfl ho4.at0 ho4.ptr rfl rfl rfl (by decide) ?_
            refine WO.ldW rfl rfl ho4 rfl rfl ho4.lt rfl ?_
            refine WO.fldS (j:=0) (q:=0) rfl ho8.at0 ho8.ptr rfl rfl rfl (by decide) ?_
            refine WO.ldB (j:=0) (q:=2) rfl rfl ho8 rfl rfl rfl ?_
            refine WO.fldS (j:=0) (q:=0) rfl ho8.at0 ho8.ptr rfl rfl rfl (by decide) ?_
            refine WO.ldB (j:=0) (q:=3) rfl rfl ho8 rfl rfl rfl ?_
            refine WO.fldS (j:=0) (q:=0) rfl ho8.at0 ho8.ptr rfl rfl rfl (by decide) ?_
            refine WO.ldB (j:=0) (q:=1) rfl rfl ho8 rfl rfl rfl ?_
            refine WO.do rfl rfl ?_
            refine WO.bsS (A:=Y63) (S:=S1448) (M:=[(((t1.1,t1.2.1,t1.2.2.1,t1.2.2.2)).2.2.1,((t1.1,t1.2.1,t1.2.2.1,t1.2.2.2)).2.2.2,((t1.1,t1.2.1,t1.2.2.1,t1.2.2.2)).2.1)]) (cs:=[.str (((t1.1,t1.2.1,t1.2.2.1,t1.2.2.2)).2.2.1),.str (((t1.1,t1.2.1,t1.2.2.1,t1.2.2.2)).2.2.2),.int .i64 (((t1.1,t1.2.1,t1.2.2.1,t1.2.2.2)).2.1)]) 13 rfl rfl rfl ⟨[.str (((t1.1,t1.2.1,t1.2.2.1,t1.2.2.2)).2.2.1),.str (((t1.1,t1.2.1,t1.2.2.1,t1.2.2.2)).2.2.2),.int .i64 (((t1.1,t1.2.1,t1.2.2.1,t1.2.2.2)).2.1)],_,rfl,rfl,rfl⟩ rfl (fun v1450 S1451 c1452 ho1453=>?_)
            have hot0_0:=hot0_0.to c1452
            have hot0_1:=hot0_1.to c1452
            have hM:=hM.to c1452
            have ho4:=ho4.to c1452
            have ho8:=ho8.to c1452
            have ho12:=ho12.to c1452
            have ho16:=ho16.to c1452
            have ho20:=ho20.to c1452
            have ho26:=ho26.to c1452
            have ho36:=ho36.to c1452
            have ho114:=ho114.to c1452
            have ho116:=ho116.to c1452
            obtain ⟨L1454,e1455,h⟩:=bindS h
            refine WO.appSB rfl rfl ho26 ho1453.ro e1455 rfl rfl rfl (fun v1456 S1457 c1458 ho1459=>?_)
            have hot0_0:=hot0_0.to c1458
            have hot0_1:=hot0_1.to c1458
            have hM:=hM.to c1458
            have ho4:=ho4.to c1458
            have ho8:=ho8.to c1458
            have ho12:=ho12.to c1458
            have ho16:=ho16.to c1458
            have ho20:=ho20.to c1458
            have ho36:=ho36.to c1458
            have ho114:=ho114.to c1458
            have ho116:=ho116.to c1458
            have ho1453:=ho1453.to c1458
            refine WO.fldS (j:=0) (q:=0) rfl ho4.at0 ho4.ptr rfl rfl rfl (by decide) ?_
            refine WO.stW (S:=S1457) (r:=[v19,v1456]) rfl rfl rfl rfl ho4 rfl rfl rfl rfl rfl (fun S1460 c1461 ho4=>?_)
            have hot0_0:=hot0_0.to c1461
            have hot0_1:=hot0_1.to c1461
            have hM:=hM.to c1461
            have ho8:=ho8.to c1461
            have ho12:=ho12.to c1461
            have ho16:=ho16.to c1461
            have ho20:=ho20.to c1461
            have ho36:=ho36.to c1461
            have ho114:=ho114.to c1461
            have ho116:=ho116.to c1461
            have ho1453:=ho1453.to c1461
            have ho1459:=ho1459.to c1461
            refine WO.ni (bN (tN (WC.sq ?_)))
            refine WC.drawDN rfl ?_
            have ho4z:=ho4.lt
            have ho36z:=ho36.lt
            have k1462:=hot0_0.bko
            have k1463:=hot0_1.bko
            have k1464:=ho4.bko
            have k1465:=ho8.bko
            have k1466:=ho12.bko
            have k1467:=ho16.bko
            have k1468:=ho20.bko
            have k1469:=ho36.bko
            have k1470:=ho114.bko
            have k1471:=ho116.bko
            have k1472:=ho1453.bko
            have k1473:=ho1459.bko
            refine WO.ldWA (sz:=2) (r:=[v19,v1456]) rfl ho4.at0 ho4 rfl rfl rfl ho4z (limLe_self _) ?_
            refine WO.ldBAz (j:=0) rfl ho36.at0 ho36 rfl ho36z (limLe_self _) ?_
            refine WO.stW (S:=S1460) (r:=[v19,v1456]) rfl ho12.at0 rfl rfl ho12 rfl rfl rfl rfl rfl (fun S1474 c1475 ho12=>?_)
            have hot0_0:=hot0_0.to c1475
            have hot0_1:=hot0_1.to c1475
            have hM:=hM.to c1475
            have ho4:=ho4.to c1475
            have ho8:=ho8.to c1475
            have ho16:=ho16.to c1475
            have ho20:=ho20.to c1475
            have ho36:=ho36.to c1475
            have ho114:=ho114.to c1475
            have ho116:=ho116.to c1475
            have ho1453:=ho1453.to c1475
            have ho1459:=ho1459.to c1475
            have n1476:=c1475.n
            have k1477:=hot0_0.bko
            have k1478:=hot0_1.bko
            have k1479:=ho4.bko
            have k1480:=ho8.bko
            have k1481:=ho12.bko
            have k1482:=ho16.bko
            have k1483:=ho20.bko
            have k1484:=ho36.bko
            have k1485:=ho114.bko
            have k1486:=ho116.bko
            have k1487:=ho1453.bko
            have k1488:=ho1459.bko
            refine WO.stBA (u':=((((([],0):(List UInt8) × Int)).1,((([],0):(List UInt8) × Int)).2):(List UInt8) × Int)) rfl ho16.at0 rfl ho16 rfl rfl (fun S1489 c1490 ho16=>?_)
            have hot0_0:=hot0_0.to c1490
            have hot0_1:=hot0_1.to c1490
            have hM:=hM.to c1490
            have ho4:=ho4.to c1490
            have ho8:=ho8.to c1490
            have ho12:=ho12.to c1490
            have ho20:=ho20.to c1490
            have ho36:=ho36.to c1490
            have ho114:=ho114.to c1490
            have ho116:=ho116.to c1490
            have ho1453:=ho1453.to c1490
            have ho1459:=ho1459.to c1490
            have n1491:=c1490.n
            have k1492:=hot0_0.bko
            have k1493:=hot0_1.bko
            have k1494:=ho4.bko
            have k1495:=ho8.bko
            have k1496:=ho12.bko
            have k1497:=ho16.bko
            have k1498:=ho20.bko
            have k1499:=ho36.bko
            have k1500:=ho114.bko
            have k1501:=ho116.bko
            have k1502:=ho1453.bko
            have k1503:=ho1459.bko
            refine WO.as rfl (WO.ni ?_)
            refine ⟨fun tt hs=>dynOk_of [(1,2)] (by kernel_rfl) ⟨?_,trivial⟩,?_⟩
            ·show djT tt _ _ = true
             have nb1543:=k1466.nb k1469
             refine djT_of hs rfl rfl rfl rfl rfl ?_ ?_ ?_ <;> simp only [NBs,NB1,and_true,true_and] <;> (repeat' apply And.intro) <;> (first | assumption | (apply NB.symm;assumption) | exact NB.none rfl | exact NB.noneR rfl | (apply NB.pt;first | assumption | (apply NB.symm;assumption)) | (apply NB.symm;apply NB.pt;first | assumption | (apply NB.symm;assumption) | (apply NB.symm;apply NB.pt;first | assumption | (apply NB.symm;assumption))))
            clear k1462 k1463 k1464 k1465 k1466 k1467 k1468 k1469 k1470 k1471 k1472 k1473 k1477 k1478 k1479 k1480 k1481 k1482 k1483 k1484 k1485 k1486 k1487 k1488 k1492 k1493 k1494 k1495 k1496 k1497 k1498 k1499 k1500 k1501 k1502 k1503 n1476 n1491
            refine tN (WC.ret ?_)
            have hcell1569:=ho12
            have hcell1570:=ho16
            have hM:=hM.drop 6
            have ho20:=ho20.freeze
            have ho1459:=ho1459.drop 6
            have hM:=hM.drop 7
            have ho20:=ho20.drop 7
            have ho1459:=ho1459.freeze
            obtain rfl:=someI h
            exact ⟨.inr rfl,_,_,(resK_w (sz:=2) hcell1569 (Cov.refl _) rfl rfl rfl (resK_b hcell1570 (Cov.refl _) rfl rfl (resK_t (Cov.refl _) rfl rfl))),rfl,⟨((S1489.drop 6).drop 7),rfl,rfl,hM,v19,v1456,rfl,ho20,ho1459⟩⟩
       ·have h:=iteF q1044 h
        refine WC.sq (WC.rg ?_)
        refine WO.bi rfl rfl rfl ?_
        refine WO.as rfl (WO.ni (tN ?_))
        refine WC.cond rfl (fun q1571=>?_) (fun q1571=>?_)
        ·have h:=iteT q1571 h
         refine WC.sq (WC.rg (WO.as rfl (WO.ni (tN (WC.sq (WC.sq (WC.rg ?_)))))))
         refine WO.fldS (j:=0) (q:=0) rfl ho4.at0 ho4.ptr rfl rfl rfl (by decide) ?_
         refine WO.ldW rfl rfl ho4 rfl rfl ho4.lt rfl ?_
         refine WO.lenS rfl ho26.slv rfl ?_
         refine WO.bi rfl rfl rfl ?_
         refine WO.as rfl (WO.ni (tN (WC.block ?_)))
         obtain ⟨b1645,e1646,h⟩:=bindS h
         refine WC.loopD e1646 (fun s1572 l' m' n'=>∃ S1575:Cx fl,∃ v1576 v1577:SV,S1575.m = m'/\S1575.n = n'/\Cov l' [(2,.sc ((.ptr b1 0))),(3,.sc v5),(4,.sc ((.ptr b9 0))),(5,.sc v13),(12,.sc (.int .i64 r335)),(16,.sc (.int .i64 s1572.1)),(17,.sc (.int .i64 s1572.2.1))]/\ChM S0 S1575/\Bw S1575 2 (.ptr b1 0) [v1576,v1577]/\Bk Y35 S1575 3 v5 ((t1.1,t1.2.1,t1.2.2.1,t1.2.2.2))/\Bw S1575 4 (.ptr b9 0) [.nils,.nils]/\Bk Y37 S1575 5 v13 ((([],0):(List UInt8) × Int))/\Ow Y60 S1575 6 v1576 s1572.2.2.1/\Ow Y63 S1575 7 v1577 s1572.2.2.2) (fun b e l' m' n'=>e = .exit 5/\∃ S1578:Cx fl,∃ v1579 v1580:SV,S1578.m = m'/\S1578.n = n'/\Cov l' [(2,.sc ((.ptr b1 0))),(3,.sc v5),(4,.sc ((.ptr b9 0))),(5,.sc v13),(16,.sc (.int .i64 b.1))]/\ChM S0 S1578/\Bw S1578 2 (.ptr b1 0) [v1579,v1580]/\Bk Y35 S1578 3 v5 ((t1.1,t1.2.1,t1.2.2.1,t1.2.2.2))/\Bw S1578 4 (.ptr b9 0) [.nils,.nils]/\Bk Y37 S1578 5 v13 ((([],0):(List UInt8) × Int))/\Ow Y60 S1578 6 v1579 b.2.1/\Ow Y63 S1578 7 v1580 b.2.2) (by exact ⟨S337,v19,v25,rfl,rfl,(Kc (Kc (Kc (Kc (Kc (Kc (Kc (Cov.nil _)))))))),hM,ho4,ho8,ho12,ho16,ho20,ho26⟩) ?_ ?_
         ·clear h
          rintro s1572 q _ _ _ ⟨S1581,v1582,v1583,rfl,rfl,hc1584,hM,ho4,ho8,ho12,ho16,ho4c0,ho4c1⟩ h
          unfold F5_l2 at h
          refine WC.cov hc1584 ?_
          refine WC.sq (WC.sq (WC.rg (WO.mv rfl ?_)))
          refine WO.bi rfl rfl rfl ?_
          refine WO.ni (tN ?_)
          refine WC.cond rfl (fun q1585=>?_) (fun q1585=>?_)
          ·have h:=iteT q1585 h
           refine WC.skip (tN (WC.sq (WC.block (WC.sq (WC.sq ?_)))))
           refine WC.drawP rfl rfl ?_
           refine WO.fldS (j:=0) (q:=0) rfl ho4.at0 ho4.ptr rfl rfl rfl (by decide) ?_
           refine WO.ldW rfl rfl ho4 rfl rfl ho4.lt (limLe_self _) ?_
           refine WO.mv rfl ?_
           obtain ⟨x1586,e1587,h⟩:=bindS h
           refine WO.ixS rfl rfl ho4c1.slv (at?_lt e1587) rfl ?_
           refine WO.fldS rfl rfl (SlV.ptr ho4c1.slv (at?_nat e1587)) rfl rfl rfl (by decide) ?_
           refine WO.ldF rfl ho4c1.ro (fun _ hi=>hi) (at?_get e1587) rfl rfl (limLe_self _) ?_
           refine WO.fldS (j:=0) (q:=0) rfl ho8.at0 ho8.ptr rfl rfl rfl (by decide) ?_
           refine WO.ldB (j:=0) (q:=2) rfl rfl ho8 rfl rfl (limLe_self _) ?_
           refine WO.do rfl rfl (WO.ni (tN ?_))
           refine WC.cond rfl (fun q1588=>?_) (fun q1588=>?_)
           ·have h:=iteT q1588 h
            refine WC.exit (tE (bS (tN (WC.rg (WO.mv rfl ?_)))))
            refine WO.bi rfl rfl rfl ?_
            refine WO.as rfl (WO.ni (tN ?_))
            obtain rfl:=someI h
            exact ⟨_,rfl,⟨S1581,v1582,v1583,rfl,rfl,(Kc (Kc (Kc (Kc (Kc (Kc (Kc (Cov.nil _)))))))),hM,ho4,ho8,ho12,ho16,ho4c0,ho4c1⟩⟩
           ·have h:=iteF q1588 h
            refine WC.skip (tN (WC.sq ?_))
            refine WC.drawN rfl rfl ?_
            have ho4z:=ho4.lt
            have ho4c1z:=ho4c1.oz
            refine WO.ldWA (sz:=2) (r:=[v1582,v1583]) rfl ho4.at0 ho4 rfl rfl rfl ho4z (limLe_self _) ?_
            refine WO.fldS (j:=0) (q:=0) rfl ho4.at0 ho4.ptr rfl rfl rfl (by decide) ?_
            refine WO.ldW rfl rfl ho4 rfl rfl ho4z (limLe_self _) ?_
            refine WO.mv rfl ?_
            obtain ⟨x1589,e1590,h⟩:=bindS h
            refine WO.ixS rfl rfl ho4c1.slv (at?_lt e1590) rfl ?_
            refine WO.fldS rfl rfl (SlV.ptr ho4c1.slv (at?_nat e1590)) rfl rfl rfl (by decide) ?_
            refine WO.ldF rfl ho4c1z (fun _ hi=>hi.1) (at?_get e1590) rfl rfl (limLe_self _) ?_
            obtain ⟨r1591,e1592,h⟩:=bindS h
            refine WO.callE (S:=S1581) rfl rfl (F21_ok e1592 ho4c0.vw ho4c1.vw) (fun S1593 c1594=>?_)
            have hM:=hM.to c1594
            have ho4:=ho4.to c1594
            have ho8:=ho8.to c1594
            have ho12:=ho12.to c1594
            have ho16:=ho16.to c1594
            have ho4c0:=ho4c0.to c1594
            have ho4c1:=ho4c1.to c1594
            refine WO.as rfl (WO.ni (tN (WC.block ?_)))
            obtain ⟨b1639,e1640,h⟩:=bindS h
            refine WC.loopD e1640 (fun s1595 l' m' n'=>∃ S1598:Cx fl,∃ v1599 v1600:SV,S1598.m = m'/\S1598.n = n'/\Cov l' [(2,.sc ((.ptr b1 0))),(3,.sc v5),(4,.sc ((.ptr b9 0))),(5,.sc v13),(12,.sc (.int .i64 r335)),(16,.sc (.int .i64 s1595.1)),(17,.sc (.int .i64 s1572.2.1)),(18,.sc (.int .i64 r1591))]/\ChM S0 S1598/\Bw S1598 2 (.ptr b1 0) [v1599,v1600]/\Bk Y35 S1598 3 v5 ((t1.1,t1.2.1,t1.2.2.1,t1.2.2.2))/\Bw S1598 4 (.ptr b9 0) [.nils,.nils]/\Bk Y37 S1598 5 v13 ((([],0):(List UInt8) × Int))/\Ow Y60 S1598 6 v1599 s1595.2.1/\Ow Y63 S1598 7 v1600 s1595.2.2) (fun b e l' m' n'=>e = .exit 7/\∃ S1601:Cx fl,∃ v1602 v1603:SV,S1601.m = m'/\S1601.n = n'/\Cov l' [(2,.sc ((.ptr b1 0))),(3,.sc v5),(4,.sc ((.ptr b9 0))),(5,.sc v13),(12,.sc (.int .i64 r335)),(16,.sc (.int .i64 b.1)),(17,.sc (.int .i64 s1572.2.1))]/\ChM S0 S1601/\Bw S1601 2 (.ptr b1 0) [v1602,v1603]/\Bk Y35 S1601 3 v5 ((t1.1,t1.2.1,t1.2.2.1,t1.2.2.2))/\Bw S1601 4 (.ptr b9 0) [.nils,.nils]/\Bk Y37 S1601 5 v13 ((([],0):(List UInt8) × Int))/\Ow Y60 S1601 6 v1602 b.2.1/\Ow Y63 S1601 7 v1603 b.2.2) (by exact ⟨S1593,v1582,v1583,rfl,rfl,(Kc (Kc (Kc (Kc (Kc (Kc (Kc (Kc (Cov.nil _))))))))),hM,ho4,ho8,ho12,ho16,ho4c0,ho4c1⟩) ?_ ?_
            ·clear h
             rintro s1595 q _ _ _ ⟨S1604,v1605,v1606,rfl,rfl,hc1607,hM,ho4,ho8,ho12,ho16,ho4c0,ho4c1⟩ h
             unfold F5_l1 at h
             refine WC.cov hc1607 ?_
             refine WC.sq (WC.sq (WC.rg ?_))
             refine WO.fldS (j:=0) (q:=0) rfl ho4.at0 ho4.ptr rfl rfl rfl (by decide) ?_
             refine WO.ldW rfl rfl ho4 rfl rfl ho4.lt rfl ?_
             refine WO.mv rfl ?_
             obtain ⟨x1608,e1609,h⟩:=bindS h
             refine WO.ixS rfl rfl ho4c1.slv (at?_lt e1609) rfl ?_
             refine WO.fldS rfl rfl (SlV.ptr ho4c1.slv (at?_nat e1609)) rfl rfl rfl (by decide) ?_
             refine WO.ldF rfl ho4c1.ro (fun _ hi=>hi) (at?_get e1609) rfl rfl rfl ?_
             refine WO.bi rfl rfl rfl ?_
             refine WO.mv rfl ?_
             obtain ⟨y1613,e1614,h⟩:=bindS h
             refine WO.cutB (d:=304) 8 y1613 (fun q1612=>?_) (fun q1612=>?_) ?_
             ·have h:=e1614
              have h:=iteT q1612 h
              refine WO.gyes rfl rfl ?_
              refine WO.fldS (j:=0) (q:=0) rfl ho4.at0 ho4.ptr rfl rfl rfl (by decide) ?_
              refine WO.gyes rfl rfl ?_
              refine WO.ldW rfl rfl ho4 rfl rfl ho4.lt rfl ?_
              refine WO.gyes rfl rfl (WO.mv rfl (WO.gyes rfl rfl ?_))
              obtain ⟨x1610,e1611,h⟩:=bindS h
              refine WO.ixS rfl rfl ho4c0.slv (at?_lt e1611) rfl ?_
              refine WO.gyes rfl rfl ?_
              refine WO.fldS rfl rfl (SlV.ptr ho4c0.slv (at?_nat e1611)) rfl rfl rfl (by decide) ?_
              refine WO.gyes rfl rfl ?_
              refine WO.ldF rfl ho4c0.ro (fun _ hi=>hi) (at?_get e1611) rfl rfl rfl ?_
              refine WO.gyes rfl rfl ?_
              refine WO.bi rfl rfl rfl ?_
              obtain rfl:=someI h
              refine WO.pickT rfl rfl ?_
              refine WO.ni ?_
              exact ⟨rfl,rfl,(Kc (Ks (Ks (Ks (Ks (Ks (Ks (Ks (Ks (Ks (Cov.refl _)))))))))))⟩
             ·have h:=e1614
              have h:=iteF q1612 h
              obtain rfl:=someI h
              refine WO.gno rfl rfl (WO.gno rfl rfl (WO.gno rfl rfl (WO.gno rfl rfl (WO.gno rfl rfl (WO.gno rfl rfl (WO.gno rfl rfl ?_))))))
              refine WO.pickF rfl rfl ?_
              refine WO.ni ?_
              exact ⟨rfl,rfl,(Kc (Ks (Ks (Ks (Ks (Ks (Ks (Ks (Ks (Ks (Cov.refl _)))))))))))⟩
             refine WO.mv rfl ?_
             obtain ⟨y1618,e1619,h⟩:=bindS h
             refine WO.cutB (d:=313) 8 y1618 (fun q1617=>?_) (fun q1617=>?_) ?_
             ·have h:=e1619
              have h:=iteT q1617 h
              refine WO.gyes rfl rfl ?_
              refine WO.fldS (j:=0) (q:=0) rfl ho4.at0 ho4.ptr rfl rfl rfl (by decide) ?_
              refine WO.gyes rfl rfl ?_
              refine WO.ldW rfl rfl ho4 rfl rfl ho4.lt rfl ?_
              refine WO.gyes rfl rfl (WO.mv rfl (WO.gyes rfl rfl ?_))
              obtain ⟨x1615,e1616,h⟩:=bindS h
              refine WO.ixS rfl rfl ho4c0.slv (at?_lt e1616) rfl ?_
              refine WO.gyes rfl rfl ?_
              refine WO.fldS rfl rfl (SlV.ptr ho4c0.slv (at?_nat e1616)) rfl rfl rfl (by decide) ?_
              refine WO.gyes rfl rfl ?_
              refine WO.ldF rfl ho4c0.ro (fun _ hi=>hi) (at?_get e1616) rfl rfl rfl ?_
              refine WO.gyes rfl rfl ?_
              refine WO.bi rfl rfl rfl ?_
              obtain rfl:=someI h
              refine WO.pickT rfl rfl ?_
              refine WO.ni ?_
              exact ⟨rfl,rfl,(Kc (Ks (Ks (Ks (Ks (Ks (Ks (Ks (Ks (Ks (Cov.refl _)))))))))))⟩
             ·have h:=e1619
              have h:=iteF q1617 h
              obtain rfl:=someI h
              refine WO.gno rfl rfl (WO.gno rfl rfl (WO.gno rfl rfl (WO.gno rfl rfl (WO.gno rfl rfl (WO.gno rfl rfl (WO.gno rfl rfl ?_))))))
              refine WO.pickF rfl rfl ?_
              refine WO.ni ?_
              exact ⟨rfl,rfl,(Kc (Ks (Ks (Ks (Ks (Ks (Ks (Ks (Ks (Ks (Cov.refl _)))))))))))⟩
             refine WO.ni (tN ?_)
             refine WC.cond rfl (fun q1620=>?_) (fun q1620=>?_)
             ·have h:=iteT q1620 h
              refine WC.skip (tN (WC.block (WC.sq (WC.rg ?_))))
              refine WO.fldS (j:=0) (q:=0) rfl ho4.at0 ho4.ptr rfl rfl rfl (by decide) ?_
              refine WO.ldW rfl rfl ho4 rfl rfl ho4.lt rfl ?_
              refine WO.mv rfl ?_
              obtain ⟨x1621,e1622,h⟩:=bindS h
              refine WO.ixS rfl rfl ho4c1.slv (at?_lt e1622) rfl ?_
              refine WO.fldS rfl rfl (SlV.ptr ho4c1.slv (at?_nat e1622)) rfl rfl rfl (by decide) ?_
              refine WO.ldF rfl ho4c1.ro (fun _ hi=>hi) (at?_get e1622) rfl rfl rfl ?_
              refine WO.bi rfl rfl rfl ?_
              obtain ⟨x1623,e1624,h⟩:=bindS h
              refine WO.ixS rfl rfl ho4c1.slv (at?_lt e1624) rfl ?_
              refine WO.fldS rfl rfl (SlV.ptr ho4c1.slv (at?_nat e1624)) rfl rfl rfl (by decide) ?_
              refine WO.stF (q:=2) (u':=(x1623.1,x1623.2.1,(wrapA .i64 (x1621.2.2 - 1)))) rfl rfl ho4c1 (at?_get e1624) rfl (by decide) rfl rfl (fun S1625 c1626 ho4c1=>?_)
              have hM:=hM.to c1626
              have ho4:=ho4.to c1626
              have ho8:=ho8.to c1626
              have ho12:=ho12.to c1626
              have ho16:=ho16.to c1626
              have ho4c0:=ho4c0.to c1626
              refine WO.ni (tN (WC.sq (WC.rg ?_)))
              refine WO.fldS (j:=0) (q:=0) rfl ho4.at0 ho4.ptr rfl rfl rfl (by decide) ?_
              refine WO.ldW rfl rfl ho4 rfl rfl ho4.lt rfl ?_
              refine WO.mv rfl ?_
              obtain ⟨x1627,e1628,h⟩:=bindS h
              refine WO.ixS rfl rfl ho4c0.slv (at?_lt e1628) rfl ?_
              refine WO.fldS rfl rfl (SlV.ptr ho4c0.slv (at?_nat e1628)) rfl rfl rfl (by decide) ?_
              refine WO.ldF rfl ho4c0.ro (fun _ hi=>hi) (at?_get e1628) rfl rfl rfl ?_
              refine WO.bi rfl rfl rfl ?_
              obtain ⟨x1629,e1630,h⟩:=bindS h
              refine WO.ixS rfl rfl ho4c0.slv (at?_lt e1630) rfl ?_
              refine WO.fldS rfl rfl (SlV.ptr ho4c0.slv (at?_nat e1630)) rfl rfl rfl (by decide) ?_
              refine WO.stF (q:=1) (u':=(x1629.1,(wrapA .i64 (x1627.2.1 - 1)),x1629.2.2)) rfl rfl ho4c0 (at?_get e1630) rfl (by decide) rfl rfl (fun S1631 c1632 ho4c0=>?_)
              have hM:=hM.to c1632
              have ho4:=ho4.to c1632
              have ho8:=ho8.to c1632
              have ho12:=ho12.to c1632
              have ho16:=ho16.to c1632
              have ho4c1:=ho4c1.to c1632
              refine WO.ni (tN (WC.sq (WC.rg ?_)))
              refine WO.fldS (j:=0) (q:=0) rfl ho4.at0 ho4.ptr rfl rfl rfl (by decide) ?_
              refine WO.ldW rfl rfl ho4 rfl rfl ho4.lt rfl ?_
              refine WO.mv rfl ?_
              obtain ⟨x1633,e1634,h⟩:=bindS h
              refine WO.ixS rfl rfl ho4c0.slv (at?_lt e1634) rfl ?_
              refine WO.fldS rfl rfl (SlV.ptr ho4c0.slv (at?_nat e1634)) rfl rfl rfl (by decide) ?_
              refine WO.ldF rfl ho4c0.ro (fun _ hi=>hi) (at?_get e1634) rfl rfl rfl ?_
              refine WO.bi rfl rfl rfl ?_
              obtain ⟨x1635,e1636,h⟩:=bindS h
              refine WO.ixS rfl rfl ho4c0.slv (at?_lt e1636) rfl ?_
              refine WO.fldS rfl rfl (SlV.ptr ho4c0.slv (at?_nat e1636)) rfl rfl rfl (by decide) ?_
              refine WO.stF (q:=1) (u':=(x1635.1,(wrapA .i64 (x1633.2.1 + 1)),x1635.2.2)) rfl rfl ho4c0 (at?_get e1636) rfl (by decide) rfl rfl (fun S1637 c1638 ho4c0=>?_)
              have hM:=hM.to c1638
              have ho4:=ho4.to c1638
              have ho8:=ho8.to c1638
              have ho12:=ho12.to c1638
              have ho16:=ho16.to c1638
              have ho4c1:=ho4c1.to c1638
              refine WO.ni (tN (WC.rg (WO.mv rfl ?_)))
              refine WO.bi rfl rfl rfl ?_
              refine WO.as rfl (WO.ni (bN (tN ?_)))
              obtain rfl:=someI h
              exact ⟨_,rfl,⟨S1637,v1605,v1606,rfl,rfl,(Kc (Kc (Kc (Kc (Kc (Kc (Kc (Kc (Cov.nil _))))))))),hM,ho4,ho8,ho12,ho16,ho4c0,ho4c1⟩⟩
             ·have h:=iteF q1620 h
              refine WC.exit (tE (tE ?_))
              obtain rfl:=someI h
              exact ⟨_,rfl,rfl,⟨S1604,v1605,v1606,rfl,rfl,(Kc (Kc (Kc (Kc (Kc (Kc (Kc (Cov.nil _)))))))),hM,ho4,ho8,ho12,ho16,ho4c0,ho4c1⟩⟩
            rintro _ _ _ _ ⟨rfl,⟨S1641,v1642,v1643,rfl,rfl,hc1644,hM,ho4,ho8,ho12,ho16,ho4c0,ho4c1⟩⟩
            refine bS (bN (tN ?_))
            refine WC.cov hc1644 ?_
            refine WC.rg (WO.mv rfl ?_)
            refine WO.bi rfl rfl rfl ?_
            refine WO.as rfl (WO.ni (tN ?_))
            obtain rfl:=someI h
            exact ⟨_,rfl,⟨S1641,v1642,v1643,rfl,rfl,(Kc (Kc (Kc (Kc (Kc (Kc (Kc (Cov.nil _)))))))),hM,ho4,ho8,ho12,ho16,ho4c0,ho4c1⟩⟩
          ·have h:=iteF q1585 h
           refine WC.exit (tE (tE ?_))
           obtain rfl:=someI h
           exact ⟨_,rfl,rfl,⟨S1581,v1582,v1583,rfl,rfl,(Kc (Kc (Kc (Kc (Kc (Cov.nil _)))))),hM,ho4,ho8,ho12,ho16,ho4c0,ho4c1⟩⟩
         rintro _ _ _ _ ⟨rfl,⟨S1647,v1648,v1649,rfl,rfl,hc1650,hM,ho4,ho8,ho12,ho16,ho4c0,ho4c1⟩⟩
         refine bS (tN ?_)
         refine WC.cov hc1650 ?_
         refine WC.sq (WC.rg ?_)
         refine WO.fldS (j:=0) (q:=0) rfl ho4.at0 ho4.ptr rfl rfl rfl (by decide) ?_
         refine WO.ldW rfl rfl ho4 rfl rfl ho4.lt rfl ?_
         obtain ⟨r1651,e1652,h⟩:=bindS h
         refine WO.callG (S:=S1647) [(7,2)] [(902,14)] rfl rfl (F22_23_ok (S0:=S1647.mp [(7,2)]) e1652 (ho4c1.mp rfl)) (fun _ S1655 S1656 hb hR=>?_)
         obtain ⟨v1653,rfl,hR0⟩:=hR
         have c1657:Ch 7 S1647 S1656:=hb.ch [] 7
         have hM:=hM.to c1657
         have ho4:=ho4.to c1657
         have ho8:=ho8.to c1657
         have ho12:=ho12.to c1657
         have ho16:=ho16.to c1657
         have ho4c0:=ho4c0.to c1657
         have ho1654:=hR0.bkF hb rfl Lay.flat_fl
         refine WO.fldS (j:=0) (q:=0) rfl ho4.at0 ho4.ptr rfl rfl rfl (by decide) ?_
         refine WO.stW (S:=S1656) (r:=[v1648,v1653]) rfl rfl rfl rfl ho4 rfl rfl rfl rfl rfl (fun S1658 c1659 ho4=>?_)
         have hM:=hM.to c1659
         have ho8:=ho8.to c1659
         have ho12:=ho12.to c1659
         have ho16:=ho16.to c1659
         have ho4c0:=ho4c0.to c1659
         have ho1654:=ho1654.to c1659
         refine WO.ni (tN (WC.sq ?_))
         refine WC.drawDN rfl ?_
         have ho4z:=ho4.lt
         have ho8z:=ho8.lt
         have k1660:=ho4.bko
         have k1661:=ho8.bko
         have k1662:=ho12.bko
         have k1663:=ho16.bko
         have k1664:=ho4c0.bko
         have k1665:=ho1654.bko
         refine WO.ldWA (sz:=2) (r:=[v1648,v1653]) rfl ho4.at0 ho4 rfl rfl rfl ho4z (limLe_self _) ?_
         refine WO.fldS (j:=0) (q:=0) rfl ho8.at0 ho8.ptr rfl rfl rfl (by decide) ?_
         refine WO.ldBz (j:=0) (q:=2) rfl rfl ho8 rfl rfl ho8z (limLe_self _) ?_
         refine WO.mv rfl (WO.do rfl rfl ?_)
         refine WO.stW (S:=S1658) (r:=[v1648,v1653]) rfl ho12.at0 rfl rfl ho12 rfl rfl rfl rfl rfl (fun S1666 c1667 ho12=>?_)
         have hM:=hM.to c1667
         have ho4:=ho4.to c1667
         have ho8:=ho8.to c1667
         have ho16:=ho16.to c1667
         have ho4c0:=ho4c0.to c1667
         have ho1654:=ho1654.to c1667
         have n1668:=c1667.n
         have k1669:=ho4.bko
         have k1670:=ho8.bko
         have k1671:=ho12.bko
         have k1672:=ho16.bko
         have k1673:=ho4c0.bko
         have k1674:=ho1654.bko
         refine WO.stBA (u':=(((t1.1,t1.2.1,t1.2.2.1,t1.2.2.2)).2.2.1,b1645.1)) rfl ho16.at0 rfl ho16 rfl rfl (fun S1675 c1676 ho16=>?_)
         have hM:=hM.to c1676
         have ho4:=ho4.to c1676
         have ho8:=ho8.to c1676
         have ho12:=ho12.to c1676
         have ho4c0:=ho4c0.to c1676
         have ho1654:=ho1654.to c1676
         have n1677:=c1676.n
         have k1678:=ho4.bko
         have k1679:=ho8.bko
         have k1680:=ho12.bko
         have k1681:=ho16.bko
         have k1682:=ho4c0.bko
         have k1683:=ho1654.bko
         refine WO.as rfl (WO.ni ?_)
         refine ⟨fun tt hs=>dynOk_of [(2,5)] (by kernel_rfl) ⟨?_,trivial⟩,?_⟩
         ·show djT tt _ _ = true
          have nb1689:=k1661.nb k1662
          refine djT_of hs rfl rfl rfl rfl rfl ?_ ?_ ?_ <;> simp only [NBs,NB1,and_true,true_and] <;> (repeat' apply And.intro) <;> (first | assumption | (apply NB.symm;assumption) | exact NB.none rfl | exact NB.noneR rfl | (apply NB.pt;first | assumption | (apply NB.symm;assumption)) | (apply NB.symm;apply NB.pt;first | assumption | (apply NB.symm;assumption) | (apply NB.symm;apply NB.pt;first | assumption | (apply NB.symm;assumption))))
         clear k1660 k1661 k1662 k1663 k1664 k1665 k1669 k1670 k1671 k1672 k1673 k1674 k1678 k1679 k1680 k1681 k1682 k1683 n1668 n1677
         refine tN (WC.ret (bR (tR ?_)))
         have hcell1699:=ho12
         have hcell1700:=ho16
         have hM:=hM.drop 6
         have ho4c0:=ho4c0.freeze
         have ho1654:=ho1654.drop 6
         have hM:=hM.drop 14
         have ho4c0:=ho4c0.drop 14
         have ho1654:=ho1654.freeze
         obtain rfl:=someI h
         exact ⟨.inr rfl,_,_,(resK_w (sz:=2) hcell1699 (Cov.refl _) rfl rfl rfl (resK_b hcell1700 (Cov.refl _) rfl rfl (resK_t (Cov.refl _) rfl rfl))),rfl,⟨((S1675.drop 6).drop 14),rfl,rfl,hM,v1648,v1653,rfl,ho4c0,ho1654⟩⟩
        ·have h:=iteF q1571 h
         refine WC.sq (WC.rg ?_)
         refine WO.bi rfl rfl rfl ?_
         refine WO.as rfl (WO.ni (tN ?_))
         refine WC.cond rfl (fun q1701=>?_) (fun q1701=>?_)
         ·have h:=iteT q1701 h
          refine WC.sq ?_
          refine WC.drawDN rfl ?_
          have ho4z:=ho4.lt
          have ho8z:=ho8.lt
          have ho116z:=ho116.oz
          have k1702:=hot0_0.bko
          have k1703:=hot0_1.bko
          have k1704:=ho4.bko
          have k1705:=ho8.bko
          have k1706:=ho12.bko
          have k1707:=ho16.bko
          have k1708:=ho20.bko
          have k1709:=ho26.bko
          have k1710:=ho36.bko
          have k1711:=ho114.bko
          have k1712:=ho116.bko
          refine WO.ldWA (sz:=2) (r:=[v19,v25]) rfl ho4.at0 ho4 rfl rfl rfl ho4z (limLe_self _) ?_
          refine WO.fldS (j:=0) (q:=0) rfl ho8.at0 ho8.ptr rfl rfl rfl (by decide) ?_
          refine WO.ldBz (j:=0) (q:=2) rfl rfl ho8 rfl rfl ho8z (limLe_self _) ?_
          refine WO.mv rfl (WO.mv rfl ?_)
          obtain ⟨x1713,e1714,h⟩:=bindS h
          refine WO.ixS rfl rfl ho116.slv (at?_lt e1714) rfl ?_
          refine WO.ldF rfl ho116z (fun _ hi=>hi.1) (at?_get e1714) rfl rfl (limLe_self _) ?_
          refine WO.do rfl rfl ?_
          refine WO.stW (S:=S337) (r:=[v19,v25]) rfl ho12.at0 rfl rfl ho12 rfl rfl rfl rfl rfl (fun S1715 c1716 ho12=>?_)
          have hot0_0:=hot0_0.to c1716
          have hot0_1:=hot0_1.to c1716
          have hM:=hM.to c1716
          have ho4:=ho4.to c1716
          have ho8:=ho8.to c1716
          have ho16:=ho16.to c1716
          have ho20:=ho20.to c1716
          have ho26:=ho26.to c1716
          have ho36:=ho36.to c1716
          have ho114:=ho114.to c1716
          have ho116:=ho116.to c1716
          have n1717:=c1716.n
          have k1718:=hot0_0.bko
          have k1719:=hot0_1.bko
          have k1720:=ho4.bko
          have k1721:=ho8.bko
          have k1722:=ho12.bko
          have k1723:=ho16.bko
          have k1724:=ho20.bko
          have k1725:=ho26.bko
          have k1726:=ho36.bko
          have k1727:=ho114.bko
          have k1728:=ho116.bko
          refine WO.stBA (u':=(((t1.1,t1.2.1,t1.2.2.1,t1.2.2.2)).2.2.1,x1713)) rfl ho16.at0 rfl ho16 rfl rfl (fun S1729 c1730 ho16=>?_)
          have hot0_0:=hot0_0.to c1730
          have hot0_1:=hot0_1.to c1730
          have hM:=hM.to c1730
          have ho4:=ho4.to c1730
          have ho8:=ho8.to c1730
          have ho12:=ho12.to c1730
          have ho20:=ho20.to c1730
          have ho26:=ho26.to c1730
          have ho36:=ho36.to c1730
          have ho114:=ho114.to c1730
          have ho116:=ho116.to c1730
          have n1731:=c1730.n
          have k1732:=hot0_0.bko
          have k1733:=hot0_1.bko
          have k1734:=ho4.bko
          have k1735:=ho8.bko
          have k1736:=ho12.bko
          have k1737:=ho16.bko
          have k1738:=ho20.bko
          have k1739:=ho26.bko
          have k1740:=ho36.bko
          have k1741:=ho114.bko
          have k1742:=ho116.bko
          refine WO.as rfl (WO.ni ?_)
          refine ⟨fun tt hs=>dynOk_of [(2,8),(6,8)] (by kernel_rfl) ⟨?_,?_,trivial⟩,?_⟩
          ·show djT tt _ _ = true
           have nb1769:=k1705.nb k1706
           have nb1781:=k1706.nb k1712
           refine djT_of hs rfl rfl rfl rfl rfl ?_ ?_ ?_ <;> simp only [NBs,NB1,and_true,true_and] <;> (repeat' apply And.intro) <;> (first | assumption | (apply NB.symm;assumption) | exact NB.none rfl | exact NB.noneR rfl | (apply NB.pt;first | assumption | (apply NB.symm;assumption)) | (apply NB.symm;apply NB.pt;first | assumption | (apply NB.symm;assumption) | (apply NB.symm;apply NB.pt;first | assumption | (apply NB.symm;assumption))))
          ·show djT tt _ _ = true
           have nb1769:=k1705.nb k1706
           have nb1781:=k1706.nb k1712
           refine djT_of hs rfl rfl rfl rfl rfl ?_ ?_ ?_ <;> simp only [NBs,NB1,and_true,true_and] <;> (repeat' apply And.intro) <;> (first | assumption | (apply NB.symm;assumption) | exact NB.none rfl | exact NB.noneR rfl | (apply NB.pt;first | assumption | (apply NB.symm;assumption)) | (apply NB.symm;apply NB.pt;first | assumption | (apply NB.symm;assumption) | (apply NB.symm;apply NB.pt;first | assumption | (apply NB.symm;assumption))))
          clear k1702 k1703 k1704 k1705 k1706 k1707 k1708 k1709 k1710 k1711 k1712 k1718 k1719 k1720 k1721 k1722 k1723 k1724 k1725 k1726 k1727 k1728 k1732 k1733 k1734 k1735 k1736 k1737 k1738 k1739 k1740 k1741 k1742 n1717 n1731
          refine tN (WC.ret (bR (tR ?_)))
          have hcell1797:=ho12
          have hcell1798:=ho16
          have hM:=hM.drop 6
          have ho20:=ho20.freeze
          have ho26:=ho26.drop 6
          have hM:=hM.drop 7
          have ho20:=ho20.drop 7
          have ho26:=ho26.freeze
          obtain rfl:=someI h
          exact ⟨.inr rfl,_,_,(resK_w (sz:=2) hcell1797 (Cov.refl _) rfl rfl rfl (resK_b hcell1798 (Cov.refl _) rfl rfl (resK_t (Cov.refl _) rfl rfl))),rfl,⟨((S1729.drop 6).drop 7),rfl,rfl,hM,v19,v25,rfl,ho20,ho26⟩⟩
         ·have h:=iteF q1701 h
          refine WC.skip (bN (tN (WC.sq ?_)))
          refine WC.drawDN rfl ?_
          have ho4z:=ho4.lt
          have ho36z:=ho36.lt
          have k1799:=hot0_0.bko
          have k1800:=hot0_1.bko
          have k1801:=ho4.bko
          have k1802:=ho8.bko
          have k1803:=ho12.bko
          have k1804:=ho16.bko
          have k1805:=ho20.bko
          have k1806:=ho26.bko
          have k1807:=ho36.bko
          have k1808:=ho114.bko
          have k1809:=ho116.bko
          refine WO.ldWA (sz:=2) (r:=[v19,v25]) rfl ho4.at0 ho4 rfl rfl rfl ho4z (limLe_self _) ?_
          refine WO.ldBAz (j:=0) rfl ho36.at0 ho36 rfl ho36z (limLe_self _) ?_
          refine WO.stW (S:=S337) (r:=[v19,v25]) rfl ho12.at0 rfl rfl ho12 rfl rfl rfl rfl rfl (fun S1810 c1811 ho12=>?_)
          have hot0_0:=hot0_0.to c1811
          have hot0_1:=hot0_1.to c1811
          have hM:=hM.to c1811
          have ho4:=ho4.to c1811
          have ho8:=ho8.to c1811
          have ho16:=ho16.to c1811
          have ho20:=ho20.to c1811
          have ho26:=ho26.to c1811
          have ho36:=ho36.to c1811
          have ho114:=ho114.to c1811
          have ho116:=ho116.to c1811
          have n1812:=c1811.n
          have k1813:=hot0_0.bko
          have k1814:=hot0_1.bko
          have k1815:=ho4.bko
          have k1816:=ho8.bko
          have k1817:=ho12.bko
          have k1818:=ho16.bko
          have k1819:=ho20.bko
          have k1820:=ho26.bko
          have k1821:=ho36.bko
          have k1822:=ho114.bko
          have k1823:=ho116.bko
          refine WO.stBA (u':=((((([],0):(List UInt8) × Int)).1,((([],0):(List UInt8) × Int)).2):(List UInt8) × Int)) rfl ho16.at0 rfl ho16 rfl rfl (fun S1824 c1825 ho16=>?_)
          have hot0_0:=hot0_0.to c1825
          have hot0_1:=hot0_1.to c1825
          have hM:=hM.to c1825
          have ho4:=ho4.to c1825
          have ho8:=ho8.to c1825
          have ho12:=ho12.to c1825
          have ho20:=ho20.to c1825
          have ho26:=ho26.to c1825
          have ho36:=ho36.to c1825
          have ho114:=ho114.to c1825
          have ho116:=ho116.to c1825
          have n1826:=c1825.n
          have k1827:=hot0_0.bko
          have k1828:=hot0_1.bko
          have k1829:=ho4.bko
          have k1830:=ho8.bko
          have k1831:=ho12.bko
          have k1832:=ho16.bko
          have k1833:=ho20.bko
          have k1834:=ho26.bko
          have k1835:=ho36.bko
          have k1836:=ho114.bko
          have k1837:=ho116.bko
          refine WO.as rfl (WO.ni ?_)
          refine ⟨fun tt hs=>dynOk_of [(1,2)] (by kernel_rfl) ⟨?_,trivial⟩,?_⟩
          ·show djT tt _ _ = true
           have nb1874:=k1803.nb k1807
           refine djT_of hs rfl rfl rfl rfl rfl ?_ ?_ ?_ <;> simp only [NBs,NB1,and_true,true_and] <;> (repeat' apply And.intro) <;> (first | assumption | (apply NB.symm;assumption) | exact NB.none rfl | exact NB.noneR rfl | (apply NB.pt;first | assumption | (apply NB.symm;assumption)) | (apply NB.symm;apply NB.pt;first | assumption | (apply NB.symm;assumption) | (apply NB.symm;apply NB.pt;first | assumption | (apply NB.symm;assumption))))
          clear k1799 k1800 k1801 k1802 k1803 k1804 k1805 k1806 k1807 k1808 k1809 k1813 k1814 k1815 k1816 k1817 k1818 k1819 k1820 k1821 k1822 k1823 k1827 k1828 k1829 k1830 k1831 k1832 k1833 k1834 k1835 k1836 k1837 n1812 n1826
          refine tN (WC.ret ?_)
          have hcell1892:=ho12
          have hcell1893:=ho16
          have hM:=hM.drop 6
          have ho20:=ho20.freeze
          have ho26:=ho26.drop 6
          have hM:=hM.drop 7
          have ho20:=ho20.drop 7
          have ho26:=ho26.freeze
          obtain rfl:=someI h
          exact ⟨.inr rfl,_,_,(resK_w (sz:=2) hcell1892 (Cov.refl _) rfl rfl rfl (resK_b hcell1893 (Cov.refl _) rfl rfl (resK_t (Cov.refl _) rfl rfl))),rfl,⟨((S1824.drop 6).drop 7),rfl,rfl,hM,v19,v25,rfl,ho20,ho26⟩⟩
end Go.Proofs.YtkhokgkgloligaaDoor
namespace Go.Proofs.YtkhokgkgloligaaDoor
open Go.Am
theorem F24.fn:E.fn 24 = some (fi 26 Tryd.f24 []):=rfl
theorem F24_ok {F:Nat} {m:Mem} {n:Nat} {r:Bool} {t0:List ((List UInt8) × Int)} {t1:List ((List UInt8) × Int)} {vt0:SV} {vt1:SV} (h:F24 F t0 t1 = some r) (kt0:Vw Y37 n m vt0 t0) (kt1:Vw Y37 n m vt1 t1):Ret E n 24 [.sc vt0,.sc vt1] m n (fun v m' n'=>v = .sc (.bool r)):=by
 unfold F24 at h
 refine Ret.walk F24.fn ?_
 refine WC.start fun S0 em en hz=>?_
 have hot0:=kt0.rdS em hz
 have hot1:=kt1.rdS em hz
 refine WC.sq (WC.rg (WO.as rfl (WO.ni (tN (WC.sq (WC.sq (WC.rg (WO.mv rfl ?_))))))))
 refine WO.lenS rfl hot0.slv rfl ?_
 refine WO.mv rfl ?_
 refine WO.lenS rfl hot1.slv rfl ?_
 refine WO.bi rfl rfl rfl ?_
 refine WO.ni (tN ?_)
 refine WC.cond rfl (fun q1=>?_) (fun q1=>?_)
 ·have h:=iteT q1 h
  refine WC.sq (WC.rg (WO.as rfl (WO.ni (tN (WC.ret (tR ?_))))))
  obtain rfl:=someI h
  exact ⟨.inr rfl,_,_,rfl,rfl,rfl⟩
 ·have h:=iteF q1 h
  refine WC.skip (tN (WC.sq (WC.sq (WC.rg (WO.mv rfl ?_)))))
  refine WO.lenS rfl hot0.slv rfl ?_
  refine WO.mv rfl (WO.ni (tN (WC.block ?_)))
  obtain ⟨b15,e16,h⟩:=bindS h
  refine WC.loopD e16 (fun s2 l' m' n'=>∃ S3:Cx n,S3.m = m'/\S3.n = n'/\Cov l' [(0,.sc vt0),(1,.sc vt1),(12,.sc (.int .i64 ((t0.length:Int)))),(13,.sc (.int .i64 s2))]/\Rd Y37 S3 vt0 t0/\Rd Y37 S3 vt1 t1) (fun b e l' m' n'=>(match b with | .inl b4=>e = .exit 0/\∃ S5:Cx n,S5.m = m'/\S5.n = n'/\Cov l' [] | .inr b4=>e = .ret/\∃ S6:Cx n,S6.m = m'/\S6.n = n'/\Cov l' [(4,.sc (.bool b4))])) (by exact ⟨S0,rfl,rfl,(Kc (Kc (Kc (Kc (Cov.nil _))))),hot0,hot1⟩) ?_ ?_
  ·clear h
   rintro s2 q _ _ _ ⟨S7,rfl,rfl,hc8,hot0,hot1⟩ h
   unfold F24_l0 at h
   refine WC.cov hc8 ?_
   refine WC.sq (WC.rg ?_)
   refine WO.bi rfl rfl rfl ?_
   refine WO.ni (tN (WC.sq ?_))
   refine WC.cond rfl (fun q9=>?_) (fun q9=>?_)
   ·have h:=iteT q9 h
    refine WC.skip (tN (WC.sq (WC.block (WC.sq (WC.rg (WO.mv rfl (WO.as rfl (WO.ni (tN (WC.sq ?_))))))))))
    refine WC.drawP rfl rfl ?_
    refine WO.mv rfl (WO.mv rfl ?_)
    obtain ⟨x10,e11,h⟩:=bindS h
    refine WO.ixS rfl rfl hot0.slv (at?_lt e11) rfl ?_
    refine WO.ldA rfl hot0.ro (fun _ hi=>hi) (at?_get e11) rfl (limLe_self _) ?_
    refine WO.mv rfl (WO.mv rfl ?_)
    obtain ⟨x12,e13,h⟩:=bindS h
    refine WO.ixS rfl rfl hot1.slv (at?_lt e13) rfl ?_
    refine WO.ldA rfl hot1.ro (fun _ hi=>hi) (at?_get e13) rfl (limLe_self _) ?_
    refine WO.neA rfl rfl rfl rfl (eqFields_cons rfl rfl rfl eqC_str (eqFields_cons rfl rfl rfl eqC_int rfl)) ?_
    refine WO.ni (tN ?_)
    refine WC.cond rfl (fun q14=>?_) (fun q14=>?_)
    ·have h:=iteT q14 h
     refine WC.sq (WC.rg (WO.as rfl (WO.ni (tN (WC.ret (bR (tR (tR ?_))))))))
     obtain rfl:=someI h
     exact ⟨_,rfl,rfl,⟨S7,rfl,rfl,(Kc (Cov.nil _))⟩⟩
    ·have h:=iteF q14 h
     refine WC.skip (bN (tN (WC.rg ?_)))
     refine WO.bi rfl rfl rfl ?_
     refine WO.mv rfl (WO.ni (tN ?_))
     obtain rfl:=someI h
     exact ⟨_,rfl,⟨S7,rfl,rfl,(Kc (Kc (Kc (Kc (Cov.nil _))))),hot0,hot1⟩⟩
   ·have h:=iteF q9 h
    refine WC.exit (tE (tE ?_))
    obtain rfl:=someI h
    exact ⟨_,rfl,rfl,⟨S7,rfl,rfl,(Cov.nil _)⟩⟩
  cases b15 with
  | inl b17=>
   simp only at h
   rintro _ _ _ _ ⟨rfl,⟨S18,rfl,rfl,hc19⟩⟩
   refine bS (tN ?_)
   refine WC.cov hc19 ?_
   refine WC.sq (WC.rg (WO.as rfl (WO.ni (tN (WC.ret ?_)))))
   obtain rfl:=someI h
   exact ⟨.inr rfl,_,_,rfl,rfl,rfl⟩
  | inr b17=>
   simp only at h
   rintro _ _ _ _ ⟨rfl,⟨S20,rfl,rfl,hc21⟩⟩
   refine bR (tR ?_)
   obtain rfl:=someI h
   exact ⟨.inr rfl,_,_,(resK_cov hc21 rfl),rfl,rfl⟩
open Go.Am
theorem F6.fn:E.fn 6 = some (fi 8 Tryd.f6 []):=rfl
theorem F6_ok {F:Nat} {m:Mem} {n:Nat} {r:Bool} {t0:List ((List UInt8) × Int)} {t1:List ((List UInt8) × Int)} {vt0:SV} {vt1:SV} (h:F6 F t0 t1 = some r) (kt0:Vw Y37 n m vt0 t0) (kt1:Vw Y37 n m vt1 t1):Ret E n 6 [.sc vt0,.sc vt1] m n (fun v m' n'=>v = .sc (.bool r)):=by
 unfold F6 at h
 refine Ret.walk F6.fn ?_
 refine WC.start fun S0 em en hz=>?_
 have hot0:=kt0.rdS em hz
 have hot1:=kt1.rdS em hz
 refine WC.sq (WC.rg (WO.as rfl (WO.ni (tN (WC.sq (WC.rg (WO.mv rfl (WO.mv rfl ?_))))))))
 obtain ⟨r1,e2,h⟩:=bindS h
 refine WO.callE (S:=S0) rfl rfl (F24_ok e2 hot0.vw hot1.vw) (fun S3 c4=>?_)
 refine WO.as rfl (WO.ni (tN (WC.ret ?_)))
 obtain rfl:=someI h
 exact ⟨.inr rfl,_,_,rfl,rfl,rfl⟩
open Go.Am
theorem F25.fn:E.fn 25 = some (fi 26 Tryd.f25 []):=rfl
theorem F25_ok {F:Nat} {m:Mem} {n:Nat} {r:Bool} {t0:List Int} {t1:List Int} {vt0:SV} {vt1:SV} (h:F25 F t0 t1 = some r) (kt0:Vw Y24 n m vt0 t0) (kt1:Vw Y24 n m vt1 t1):Ret E n 25 [.sc vt0,.sc vt1] m n (fun v m' n'=>v = .sc (.bool r)):=by
 unfold F25 at h
 refine Ret.walk F25.fn ?_
 refine WC.start fun S0 em en hz=>?_
 have hot0:=kt0.rdS em hz
 have hot1:=kt1.rdS em hz
 refine WC.sq (WC.rg (WO.as rfl (WO.ni (tN (WC.sq (WC.sq (WC.rg (WO.mv rfl ?_))))))))
 refine WO.lenS rfl hot0.slv rfl ?_
 refine WO.mv rfl ?_
 refine WO.lenS rfl hot1.slv rfl ?_
 refine WO.bi rfl rfl rfl ?_
 refine WO.ni (tN ?_)
 refine WC.cond rfl (fun q1=>?_) (fun q1=>?_)
 ·have h:=iteT q1 h
  refine WC.sq (WC.rg (WO.as rfl (WO.ni (tN (WC.ret (tR ?_))))))
  obtain rfl:=someI h
  exact ⟨.inr rfl,_,_,rfl,rfl,rfl⟩
 ·have h:=iteF q1 h
  refine WC.skip (tN (WC.sq (WC.sq (WC.rg (WO.mv rfl ?_)))))
  refine WO.lenS rfl hot0.slv rfl ?_
  refine WO.mv rfl (WO.ni (tN (WC.block ?_)))
  obtain ⟨b15,e16,h⟩:=bindS h
  refine WC.loopD e16 (fun s2 l' m' n'=>∃ S3:Cx n,S3.m = m'/\S3.n = n'/\Cov l' [(0,.sc vt0),(1,.sc vt1),(12,.sc (.int .i64 ((t0.length:Int)))),(13,.sc (.int .i64 s2))]/\Rd Y24 S3 vt0 t0/\Rd Y24 S3 vt1 t1) (fun b e l' m' n'=>(match b with | .inl b4=>e = .exit 0/\∃ S5:Cx n,S5.m = m'/\S5.n = n'/\Cov l' [] | .inr b4=>e = .ret/\∃ S6:Cx n,S6.m = m'/\S6.n = n'/\Cov l' [(4,.sc (.bool b4))])) (by exact ⟨S0,rfl,rfl,(Kc (Kc (Kc (Kc (Cov.nil _))))),hot0,hot1⟩) ?_ ?_
  ·clear h
   rintro s2 q _ _ _ ⟨S7,rfl,rfl,hc8,hot0,hot1⟩ h
   unfold F25_l0 at h
   refine WC.cov hc8 ?_
   refine WC.sq (WC.rg ?_)
   refine WO.bi rfl rfl rfl ?_
   refine WO.ni (tN (WC.sq ?_))
   refine WC.cond rfl (fun q9=>?_) (fun q9=>?_)
   ·have h:=iteT q9 h
    refine WC.skip (tN (WC.sq (WC.block (WC.sq (WC.rg (WO.mv rfl (WO.as rfl (WO.ni (tN (WC.sq ?_))))))))))
    refine WC.drawP rfl rfl ?_
    refine WO.mv rfl (WO.mv rfl ?_)
    obtain ⟨x10,e11,h⟩:=bindS h
    refine WO.ixS rfl rfl hot0.slv (at?_lt e11) rfl ?_
    refine WO.ldF rfl hot0.ro (fun _ hi=>hi) (at?_get e11) rfl rfl (limLe_self _) ?_
    refine WO.mv rfl (WO.mv rfl ?_)
    obtain ⟨x12,e13,h⟩:=bindS h
    refine WO.ixS rfl rfl hot1.slv (at?_lt e13) rfl ?_
    refine WO.ldF rfl hot1.ro (fun _ hi=>hi) (at?_get e13) rfl rfl (limLe_self _) ?_
    refine WO.bi rfl rfl rfl ?_
    refine WO.ni (tN ?_)
    refine WC.cond rfl (fun q14=>?_) (fun q14=>?_)
    ·have h:=iteT q14 h
     refine WC.sq (WC.rg (WO.as rfl (WO.ni (tN (WC.ret (bR (tR (tR ?_))))))))
     obtain rfl:=someI h
     exact ⟨_,rfl,rfl,⟨S7,rfl,rfl,(Kc (Cov.nil _))⟩⟩
    ·have h:=iteF q14 h
     refine WC.skip (bN (tN (WC.rg ?_)))
     refine WO.bi rfl rfl rfl ?_
     refine WO.mv rfl (WO.ni (tN ?_))
     obtain rfl:=someI h
     exact ⟨_,rfl,⟨S7,rfl,rfl,(Kc (Kc (Kc (Kc (Cov.nil _))))),hot0,hot1⟩⟩
   ·have h:=iteF q9 h
    refine WC.exit (tE (tE ?_))
    obtain rfl:=someI h
    exact ⟨_,rfl,rfl,⟨S7,rfl,rfl,(Cov.nil _)⟩⟩
  cases b15 with
  | inl b17=>
   simp only at h
   rintro _ _ _ _ ⟨rfl,⟨S18,rfl,rfl,hc19⟩⟩
   refine bS (tN ?_)
   refine WC.cov hc19 ?_
   refine WC.sq (WC.rg (WO.as rfl (WO.ni (tN (WC.ret ?_)))))
   obtain rfl:=someI h
   exact ⟨.inr rfl,_,_,rfl,rfl,rfl⟩
  | inr b17=>
   simp only at h
   rintro _ _ _ _ ⟨rfl,⟨S20,rfl,rfl,hc21⟩⟩
   refine bR (tR ?_)
   obtain rfl:=someI h
   exact ⟨.inr rfl,_,_,(resK_cov hc21 rfl),rfl,rfl⟩
open Go.Am
theorem F7.fn:E.fn 7 = some (fi 8 Tryd.f7 []):=rfl
theorem F7_ok {F:Nat} {m:Mem} {n:Nat} {r:Bool} {t0:List Int} {t1:List Int} {vt0:SV} {vt1:SV} (h:F7 F t0 t1 = some r) (kt0:Vw Y24 n m vt0 t0) (kt1:Vw Y24 n m vt1 t1):Ret E n 7 [.sc vt0,.sc vt1] m n (fun v m' n'=>v = .sc (.bool r)):=by
 unfold F7 at h
 refine Ret.walk F7.fn ?_
 refine WC.start fun S0 em en hz=>?_
 have hot0:=kt0.rdS em hz
 have hot1:=kt1.rdS em hz
 refine WC.sq (WC.rg (WO.as rfl (WO.ni (tN (WC.sq (WC.rg (WO.mv rfl (WO.mv rfl ?_))))))))
 obtain ⟨r1,e2,h⟩:=bindS h
 refine WO.callE (S:=S0) rfl rfl (F25_ok e2 hot0.vw hot1.vw) (fun S3 c4=>?_)
 refine WO.as rfl (WO.ni (tN (WC.ret ?_)))
 obtain rfl:=someI h
 exact ⟨.inr rfl,_,_,rfl,rfl,rfl⟩
end Go.Proofs.YtkhokgkgloligaaDoor
namespace Go.Am
section
variable {E:Env} {loose:Nat->Bool} {fl:Nat} {lim:Option Nat} {ops:Array Oper} {os:List Oper} {l:LE} {m:Mem} {n:Nat} {K:LE->Mem->Nat->Prop} {d:Nat} {ty:TypeId} {pos:String} {af:Array Edge} {t:TypeId} {x:Operand} {v:SV} {j:Nat}
theorem WO.ldP1 {α β:Type} {A:Lay α} {B:Lay β} {LL:List (List α × List β)} {L:List α × List β} {zo zi:Nat->Prop} {n0:Nat} (hx:evK l x = some (.sc (ptrAt v j 0))) (hs:RO (Lay.prod (Lay.sl A) (Lay.sl B)) zo zi m v LL) (hz:∀ i,zo i->i < n0) (hu:LL[j]? = some L) (hT:oneT E t = true) (hl:limLe lim n0 = true)
 (h:∀ w,RO A zi zi m w L.1->WO E loose fl lim ops os ((d,.sc w) :: l) m n K):WO E loose fl lim ops (⟨some d,.load t x,ty,pos,af,none⟩ :: os) l m n K:=⟨fun tt ht=>by
 obtain ⟨y,h1,h2,h3,_⟩:=oneT_ok hT
 obtain ⟨b,o,c,cs,p,rfl,h4,h5,⟨_,_,rfl,⟨w,rfl,hw⟩,⟨w',rfl,hw'⟩⟩,_,_,h7⟩:=hs.cell hu
 refine W_op2 ?_ ((h w hw).put ht)
 have hcell:=cell_at (q:=0) h7 rfl
 have e:(Lay.prod (Lay.sl A) (Lay.sl B)).sz = 2:=rfl
 rw [e] at hcell hx
 simp only [Nat.add_zero] at hcell
 simp only [opA,evK_ev ht hx,ptrAt,loadA,limOk_of hl (hz _ h4),if_true,h5,part,h1,h2,h3,or_self,if_false,Nat.add_zero,hcell,Option.map_some]⟩
theorem WO.ldP2 {α β:Type} {A:Lay α} {B:Lay β} {LL:List (List α × List β)} {L:List α × List β} {zo zi:Nat->Prop} {n0:Nat} (hx:evK l x = some (.sc (ptrAt v j 1))) (hs:RO (Lay.prod (Lay.sl A) (Lay.sl B)) zo zi m v LL) (hz:∀ i,zo i->i < n0) (hu:LL[j]? = some L) (hT:oneT E t = true) (hl:limLe lim n0 = true)
 (h:∀ w,RO B zi zi m w L.2->WO E loose fl lim ops os ((d,.sc w) :: l) m n K):WO E loose fl lim ops (⟨some d,.load t x,ty,pos,af,none⟩ :: os) l m n K:=⟨fun tt ht=>by
 obtain ⟨y,h1,h2,h3,_⟩:=oneT_ok hT
 obtain ⟨b,o,c,cs,p,rfl,h4,h5,⟨_,_,rfl,⟨w,rfl,hw⟩,⟨w',rfl,hw'⟩⟩,_,_,h7⟩:=hs.cell hu
 refine W_op2 ?_ ((h w' hw').put ht)
 have hcell:=cell_at (q:=1) h7 rfl
 have e:(Lay.prod (Lay.sl A) (Lay.sl B)).sz = 2:=rfl
 rw [e] at hcell hx
 simp only [opA,evK_ev ht hx,ptrAt,loadA,limOk_of hl (hz _ h4),if_true,h5,part,h1,h2,h3,or_self,if_false,hcell,Option.map_some]⟩
end
end Go.Am

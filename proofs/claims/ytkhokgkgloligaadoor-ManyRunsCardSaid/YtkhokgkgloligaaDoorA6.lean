/- Towards castlaw.ManyRuns, part 6: joined by a program of ours. -/
import Derived.Test.YtkhokgkgloligaaDoorA5
set_option linter.unusedVariables false
set_option linter.unusedSimpArgs false
set_option linter.unusedSectionVars false
namespace Go.Proofs.YtkhokgkgloligaaDoor
open Go.Am
abbrev Y32:Lay (List ((List UInt8) × Int)):=Lay.sl Y37
abbrev Y33:Lay (List Int):=Lay.sl Y24
abbrev YD:Lay (List ((List UInt8) × Int) × List Int):=Lay.prod Y32 Y33
def F3_l0 (F:Nat) (L14:List (Int × Int × (List UInt8) × (List UInt8))) (s24:(List ((List UInt8) × Int)) × (List Int) × Int × (List ((List UInt8) × Int × Int)) × (List ((List UInt8) × (List UInt8) × Int))):Option (Stp ((List ((List UInt8) × Int)) × (List Int) × Int × (List ((List UInt8) × Int × Int)) × (List ((List UInt8) × (List UInt8) × Int))) ((List ((List UInt8) × Int)) × (List Int))):=
 if (decide (s24.2.2.1 < (L14.length:Int))) then
 ((at? L14 s24.2.2.1).bind fun x44=>
 (F5 F ((s24.2.2.2.1,s24.2.2.2.2)) ((((x44.1,x44.2.1,x44.2.2.1,x44.2.2.2)).1,((x44.1,x44.2.1,x44.2.2.1,x44.2.2.2)).2.1,((x44.1,x44.2.1,x44.2.2.1,x44.2.2.2)).2.2.1,((x44.1,x44.2.1,x44.2.2.1,x44.2.2.2)).2.2.2))).bind fun r52=>
 (appB? 5864062014805 s24.1 ([(((r52.2.1.1,r52.2.1.2)).1,((r52.2.1.1,r52.2.1.2)).2)])).bind fun L108=>
 (appB? 17592186044416 s24.2.1 ([r52.2.2])).bind fun L152=>
 some (.more ((L108,L152,(wrapA .i64 (s24.2.2.1 + 1)),r52.1.1,r52.1.2))))
 else
 some (.stop ((s24.1,s24.2.1)))
def F3_l1 (F:Nat) (t1:List (List (Int × Int × (List UInt8) × (List UInt8)))) (t2:List (List ((List UInt8) × Int) × List Int)) (s6:Int):Option (Stp (Int) (Unit ⊕ Bool)):=
 if (decide (s6 < (t1.length:Int))) then
 ((at? t1 s6).bind fun L14=>
 (iter (F3_l0 F L14) F ([],[],0,[],[])).bind fun b316=>
 (at? t2 s6).bind fun L322=>
 (F6 F L322.1 b316.1).bind fun r326=>
 (if (!r326) then some true else
 ((at? t2 s6).bind fun L330=>
 (F7 F L330.2 b316.2).bind fun r334=>
 some (!r334))
 ).bind fun y339=>
 if y339 then
 (some (.stop ((.inr false))))
 else
 some (.more ((wrapA .i64 (s6 + 1)))))
 else
 some (.stop ((.inl ())))
def F3 (F:Nat) (t0:Int) (t1:List (List (Int × Int × (List UInt8) × (List UInt8)))) (t2:List (List ((List UInt8) × Int) × List Int)) (t4:Int):Option Bool:=
 if ((decide (t0 < 1)) || (decide (t0 > 8))) then
 (some (((t4 == 1) && ((t2.length:Int) == 0))))
 else
 if ((t4 != 0) || ((t2.length:Int) != (t1.length:Int))) then
 (some false)
 else
 (iter (F3_l1 F t1 t2) F 0).bind fun b344=>
 match b344 with
 | .inl b346=>(some true)
 | .inr b346=>(some b346)
noncomputable def tailC:Code:=match (Tryd.f3.body.getD .skip) with | .seq _ (.seq _ c)=>c | _=>.skip
set_option maxRecDepth 100000 in
theorem F3t_ok {F:Nat} {m:Mem} {n:Nat} {r:Bool} {t0:Int} {t1:List (List (Int × Int × (List UInt8) × (List UInt8)))} {t2:List (List ((List UInt8) × Int) × List Int)} {t4:Int} {vt1:SV} {vt2:SV} (h:F3 F t0 t1 t2 t4 = some r) (kt1:Vw Y27 n m vt1 t1) (kt2:Vw YD n m vt2 t2):
 WC E [1000016] n tailC [(6,.sc (.int .i64 t4)),(95,.un),(5,.sc vt2),(1,.sc vt1),(0,.sc (.int .i64 t0))] m n (fun e l' m' n'=>(e = .normal\/e = .ret)/\∃ vs v,resK E l' m' [.tmp 4] = some vs/\tupA vs = some v/\v = .sc (.bool r)):=by
 unfold F3 at h
 refine WC.start fun S0 em en hz=>?_
 have hot1:=kt1.rdS em hz
 have hot2:=kt2.rdS em hz
 have hot3:=hot2
 refine WC.sq (WC.sq (WC.rg (WO.mv rfl ?_)))
 refine WO.bi rfl rfl rfl ?_
 refine WO.mv rfl ?_
 refine WO.cutB (d:=28) 3 ((decide (t0 < 1)) || (decide (t0 > 8))) (fun q1=>?_) (fun q1=>?_) ?_
 ·refine WO.gno rfl rfl (WO.gno rfl rfl ?_)
  refine WO.pickT rfl rfl ?_
  refine WO.ni ?_
  exact ⟨rfl,rfl,(Cov.any rfl (orT q1) (Ks (Ks (Ks (Ks (Cov.refl _))))))⟩
 ·skip
  refine WO.gyes rfl rfl (WO.mv rfl (WO.gyes rfl rfl ?_))
  refine WO.bi rfl rfl rfl ?_
  refine WO.pickF rfl rfl ?_
  refine WO.ni ?_
  exact ⟨rfl,rfl,(Cov.any rfl (orF q1) (Ks (Ks (Ks (Ks (Cov.refl _))))))⟩
 refine WO.ni (tN ?_)
 refine WC.cond rfl (fun q2=>?_) (fun q2=>?_)
 ·have h:=iteT q2 h
  refine WC.sq (WC.rg (WO.mv rfl ?_))
  refine WO.bi rfl rfl rfl ?_
  refine WO.mv rfl ?_
  refine WO.cutB (d:=35) 4 ((t4 == 1) && ((t2.length:Int) == 0)) (fun q3=>?_) (fun q3=>?_) ?_
  ·skip
   refine WO.gyes rfl rfl (WO.mv rfl (WO.gyes rfl rfl ?_))
   refine WO.lenS rfl hot2.slv rfl ?_
   refine WO.gyes rfl rfl ?_
   refine WO.bi rfl rfl rfl ?_
   refine WO.pickT rfl rfl ?_
   refine WO.ni ?_
   exact ⟨rfl,rfl,(Cov.any rfl (andT q3) (Ks (Ks (Ks (Ks (Ks (Cov.refl _)))))))⟩
  ·refine WO.gno rfl rfl (WO.gno rfl rfl (WO.gno rfl rfl ?_))
   refine WO.pickF rfl rfl ?_
   refine WO.ni ?_
   exact ⟨rfl,rfl,(Cov.any rfl (andF q3) (Ks (Ks (Ks (Ks (Ks (Cov.refl _)))))))⟩
  refine WO.as rfl (WO.ni (tN (WC.ret (tR ?_))))
  obtain rfl:=someI h
  exact ⟨.inr rfl,_,_,rfl,rfl,rfl⟩
 ·have h:=iteF q2 h
  refine WC.skip (tN (WC.sq (WC.sq (WC.rg (WO.mv rfl ?_)))))
  refine WO.bi rfl rfl rfl ?_
  refine WO.mv rfl ?_
  refine WO.cutB (d:=44) 6 ((t4 != 0) || ((t2.length:Int) != (t1.length:Int))) (fun q4=>?_) (fun q4=>?_) ?_
  ·refine WO.gno rfl rfl (WO.gno rfl rfl (WO.gno rfl rfl (WO.gno rfl rfl (WO.gno rfl rfl ?_))))
   refine WO.pickT rfl rfl ?_
   refine WO.ni ?_
   exact ⟨rfl,rfl,(Cov.any rfl (orT q4) (Ks (Ks (Ks (Ks (Ks (Ks (Ks (Cov.refl _)))))))))⟩
  ·skip
   refine WO.gyes rfl rfl (WO.mv rfl (WO.gyes rfl rfl ?_))
   refine WO.lenS rfl hot2.slv rfl ?_
   refine WO.gyes rfl rfl (WO.mv rfl (WO.gyes rfl rfl ?_))
   refine WO.lenS rfl hot1.slv rfl ?_
   refine WO.gyes rfl rfl ?_
   refine WO.bi rfl rfl rfl ?_
   refine WO.pickF rfl rfl ?_
   refine WO.ni ?_
   exact ⟨rfl,rfl,(Cov.any rfl (orF q4) (Ks (Ks (Ks (Ks (Ks (Ks (Ks (Cov.refl _)))))))))⟩
  refine WO.ni (tN ?_)
  refine WC.cond rfl (fun q5=>?_) (fun q5=>?_)
  ·have h:=iteT q5 h
   refine WC.sq (WC.rg (WO.as rfl (WO.ni (tN (WC.ret (tR ?_))))))
   obtain rfl:=someI h
   exact ⟨.inr rfl,_,_,rfl,rfl,rfl⟩
  ·have h:=iteF q5 h
   refine WC.skip (tN (WC.sq (WC.sq (WC.rg (WO.mv rfl ?_)))))
   refine WO.lenS rfl hot1.slv rfl ?_
   refine WO.mv rfl (WO.ni (tN (WC.block ?_)))
   obtain ⟨b344,e345,h⟩:=bindS h
   refine WC.loopD e345 (fun s6 l' m' n'=>∃ S7:Cx n,S7.m = m'/\S7.n = n'/\Cov l' [(5,.sc vt2),(45,.sc vt1),(46,.sc (.int .i64 ((t1.length:Int)))),(47,.sc (.int .i64 s6)),(95,.un)]/\Rd YD S7 vt2 t2/\Rd Y27 S7 vt1 t1/\Rd YD S7 vt2 t2) (fun b e l' m' n'=>(match b with | .inl b8=>e = .exit 0/\∃ S9:Cx n,S9.m = m'/\S9.n = n'/\Cov l' [] | .inr b8=>e = .ret/\∃ S10:Cx n,S10.m = m'/\S10.n = n'/\Cov l' [(4,.sc (.bool b8))])) (by exact ⟨S0,rfl,rfl,(Kc (Kc (Kc (Kc (Kc (Cov.nil _)))))),hot2,hot1,hot3⟩) ?_ ?_
   ·clear h
    rintro s6 q _ _ _ ⟨S11,rfl,rfl,hc12,hot2,hot1,hot3⟩ h
    unfold F3_l1 at h
    refine WC.cov hc12 ?_
    refine WC.sq (WC.rg ?_)
    refine WO.bi rfl rfl rfl ?_
    refine WO.ni (tN (WC.sq ?_))
    refine WC.cond rfl (fun q13=>?_) (fun q13=>?_)
    ·have h:=iteT q13 h
     refine WC.skip (tN (WC.sq (WC.block (WC.sq (WC.rg (WO.mv rfl ?_))))))
     obtain ⟨L14,e15,h⟩:=bindS h
     refine WO.ixS rfl rfl hot1.slv (at?_lt e15) rfl ?_
     refine WO.ldS rfl hot1.ro (fun _ hi=>hi) (at?_get e15) rfl rfl (fun v16 ho17=>?_)
     have ho17:Rd Y35 S11 v16 L14:=ho17
     refine WO.as rfl (WO.as rfl (WO.ni (tN (WC.sq (WC.rg (WO.do rfl rfl ?_))))))
     refine WO.alW (S:=S11) (cs:=[.nils,.nils]) 2 rfl rfl rfl (fun b18 S19 c20 ho21=>?_)
     have hot2:=hot2.to c20
     have hot1:=hot1.to c20
     have hot3:=hot3.to c20
     have ho17:=ho17.to c20
     refine WO.stW (S:=S19) (r:=[.nils,.nils]) rfl ho21.at0 rfl rfl ho21 rfl rfl rfl rfl rfl (fun S22 c23 ho21=>?_)
     have hot2:=hot2.to c23
     have hot1:=hot1.to c23
     have hot3:=hot3.to c23
     have ho17:=ho17.to c23
     refine WO.ni (tN (WC.sq (WC.rg (WO.as rfl (WO.ni (tN (WC.sq (WC.rg (WO.as rfl (WO.ni (tN (WC.sq (WC.sq (WC.rg (WO.mv rfl ?_)))))))))))))))
     refine WO.lenS rfl ho17.slv rfl ?_
     refine WO.mv rfl (WO.ni (tN (WC.block ?_)))
     obtain ⟨b316,e317,h⟩:=bindS h
     refine WC.loopD e317 (fun s24 l' m' n'=>∃ S29:Cx n,∃ v30 v31 v32 v33:SV,S29.m = m'/\S29.n = n'/\Cov l' [(5,.sc vt2),(7,.sc (.int .i64 s6)),(9,.sc ((.ptr b18 0))),(10,.sc v30),(11,.sc v31),(45,.sc vt1),(46,.sc (.int .i64 ((t1.length:Int)))),(47,.sc (.int .i64 s6)),(53,.sc v16),(54,.sc (.int .i64 ((L14.length:Int)))),(55,.sc (.int .i64 s24.2.2.1)),(95,.un)]/\Rd YD S29 vt2 t2/\Bw S29 2 (.ptr b18 0) [v32,v33]/\Rd Y27 S29 vt1 t1/\Rd Y35 S29 v16 L14/\Rd YD S29 vt2 t2/\Ow Y37 S29 3 v30 s24.1/\Ow Y24 S29 4 v31 s24.2.1/\Rd Y60 S29 v32 s24.2.2.2.1/\Rd Y63 S29 v33 s24.2.2.2.2) (fun b e l' m' n'=>e = .exit 2/\∃ S34:Cx n,∃ v35 v36:SV,S34.m = m'/\S34.n = n'/\Cov l' [(5,.sc vt2),(7,.sc (.int .i64 s6)),(10,.sc v35),(11,.sc v36),(45,.sc vt1),(46,.sc (.int .i64 ((t1.length:Int)))),(47,.sc (.int .i64 s6)),(95,.un)]/\Rd YD S34 vt2 t2/\Rd Y27 S34 vt1 t1/\Rd YD S34 vt2 t2/\Ow Y37 S34 3 v35 b.1/\Ow Y24 S34 4 v36 b.2) (by exact ⟨S22,.nils,.nils,.nils,.nils,rfl,rfl,(Kc (Kc (Kc (Kc (Kc (Kc (Kc (Kc (Kc (Kc (Kc (Kc (Cov.nil _))))))))))))),hot2,ho21,hot1,ho17,hot3,Ow.nil,Ow.nil,Rd.nil,Rd.nil⟩) ?_ ?_
     ·clear h
      rintro s24 q _ _ _ ⟨S37,v38,v39,v40,v41,rfl,rfl,hc42,hot2,ho21,hot1,ho17,hot3,ho10,ho11,ho21c0,ho21c1⟩ h
      unfold F3_l0 at h
      refine WC.cov hc42 ?_
      refine WC.sq (WC.rg ?_)
      refine WO.bi rfl rfl rfl ?_
      refine WO.ni (tN (WC.sq ?_))
      refine WC.cond rfl (fun q43=>?_) (fun q43=>?_)
      ·have h:=iteT q43 h
       refine WC.skip (tN (WC.sq (WC.block (WC.sq (WC.rg ?_)))))
       obtain ⟨x44,e45,h⟩:=bindS h
       refine WO.ixS rfl rfl ho17.slv (at?_lt e45) rfl ?_
       refine WO.ldA rfl ho17.ro (fun _ hi=>hi) (at?_get e45) rfl rfl ?_
       refine WO.alS (A:=Y35) (S:=S37) (z0:=((0,0,[],[]):Int × Int × (List UInt8) × (List UInt8))) 5 rfl rfl rfl (fun v46 S47 c48 ho49=>?_)
       have hot2:=hot2.to c48
       have ho21:=ho21.to c48
       have hot1:=hot1.to c48
       have ho17:=ho17.to c48
       have hot3:=hot3.to c48
       have ho10:=ho10.to c48
       have ho11:=ho11.to c48
       have ho21c0:=ho21c0.to c48
       have ho21c1:=ho21c1.to c48
       refine WO.stBA (u':=(x44.1,x44.2.1,x44.2.2.1,x44.2.2.2)) rfl ho49.at0 rfl ho49 rfl rfl (fun S50 c51 ho49=>?_)
       have hot2:=hot2.to c51
       have ho21:=ho21.to c51
       have hot1:=hot1.to c51
       have ho17:=ho17.to c51
       have hot3:=hot3.to c51
       have ho10:=ho10.to c51
       have ho11:=ho11.to c51
       have ho21c0:=ho21c0.to c51
       have ho21c1:=ho21c1.to c51
       refine WO.ni (tN (WC.sq (WC.rg ?_)))
       refine WO.ldWA (sz:=2) (r:=[v40,v41]) rfl ho21.at0 ho21 rfl rfl rfl ho21.lt rfl ?_
       refine WO.ldBA (j:=0) rfl ho49.at0 ho49 rfl rfl ?_
       obtain ⟨r52,e53,h⟩:=bindS h
       refine WO.callG (S:=S50) [] [] rfl rfl (F5_ok (S0:=S50.mp []) e53 ho21c0.mp ho21c1.mp) (fun _ S58 S59 hb hR=>?_)
       obtain ⟨v54,v56,rfl,hR0,hR1⟩:=hR
       have c60:Ch 1 S50 S59:=hb.ch [] 1
       have hot2:=hot2.to c60
       have ho21:=ho21.to c60
       have hot1:=hot1.to c60
       have ho17:=ho17.to c60
       have hot3:=hot3.to c60
       have ho10:=ho10.to c60
       have ho11:=ho11.to c60
       have ho21c0:=ho21c0.to c60
       have ho21c1:=ho21c1.to c60
       have ho49:=ho49.to c60
       have ho55:=hR0.bkS hb rfl
       have ho57:=hR1.bkS hb rfl
       refine WO.mv rfl (WO.do rfl rfl (WO.do rfl rfl (WO.do rfl rfl ?_)))
       refine WO.alW (S:=S59) (cs:=[.nils,.nils]) 6 rfl rfl rfl (fun b61 S62 c63 ho64=>?_)
       have hot2:=hot2.to c63
       have ho21:=ho21.to c63
       have hot1:=hot1.to c63
       have ho17:=ho17.to c63
       have hot3:=hot3.to c63
       have ho10:=ho10.to c63
       have ho11:=ho11.to c63
       have ho21c0:=ho21c0.to c63
       have ho21c1:=ho21c1.to c63
       have ho49:=ho49.to c63
       have ho55:=ho55.to c63
       have ho57:=ho57.to c63
       refine WO.alS (A:=Y37) (S:=S62) (z0:=(([],0):(List UInt8) × Int)) 7 rfl rfl rfl (fun v65 S66 c67 ho68=>?_)
       have hot2:=hot2.to c67
       have ho21:=ho21.to c67
       have hot1:=hot1.to c67
       have ho17:=ho17.to c67
       have hot3:=hot3.to c67
       have ho10:=ho10.to c67
       have ho11:=ho11.to c67
       have ho21c0:=ho21c0.to c67
       have ho21c1:=ho21c1.to c67
       have ho49:=ho49.to c67
       have ho55:=ho55.to c67
       have ho57:=ho57.to c67
       have ho64:=ho64.to c67
       refine WO.stW (S:=S66) (r:=[v54,v56]) rfl ho64.at0 rfl rfl ho64 rfl rfl rfl rfl rfl (fun S69 c70 ho64=>?_)
       have hot2:=hot2.to c70
       have ho21:=ho21.to c70
       have hot1:=hot1.to c70
       have ho17:=ho17.to c70
       have hot3:=hot3.to c70
       have ho10:=ho10.to c70
       have ho11:=ho11.to c70
       have ho21c0:=ho21c0.to c70
       have ho21c1:=ho21c1.to c70
       have ho49:=ho49.to c70
       have ho55:=ho55.to c70
       have ho57:=ho57.to c70
       have ho68:=ho68.to c70
       refine WO.stBA (u':=(r52.2.1.1,r52.2.1.2)) rfl ho68.at0 rfl ho68 rfl rfl (fun S71 c72 ho68=>?_)
       have hot2:=hot2.to c72
       have ho21:=ho21.to c72
       have hot1:=hot1.to c72
       have ho17:=ho17.to c72
       have hot3:=hot3.to c72
       have ho10:=ho10.to c72
       have ho11:=ho11.to c72
       have ho21c0:=ho21c0.to c72
       have ho21c1:=ho21c1.to c72
       have ho49:=ho49.to c72
       have ho55:=ho55.to c72
       have ho57:=ho57.to c72
       have ho64:=ho64.to c72
       refine WO.as rfl (WO.ni (tN ?_))
       refine WC.drawDN rfl ?_
       have ho64z:=ho64.lt
       have ho68z:=ho68.lt
       have k73:=hot2.bko
       have k74:=ho21.bko
       have k75:=hot1.bko
       have k76:=ho17.bko
       have k77:=hot3.bko
       have k78:=ho10.bko
       have k79:=ho11.bko
       have k80:=ho21c0.bko
       have k81:=ho21c1.bko
       have k82:=ho49.bko
       have k83:=ho55.bko
       have k84:=ho57.bko
       have k85:=ho64.bko
       have k86:=ho68.bko
       refine WO.ldWA (sz:=2) (r:=[v54,v56]) rfl ho64.at0 ho64 rfl rfl rfl ho64z (limLe_self _) ?_
       refine WO.mv rfl ?_
       refine WO.ldBAz (j:=0) rfl ho68.at0 ho68 rfl ho68z (limLe_self _) ?_
       refine WO.bsD (A:=Y37) (S:=S71) (M:=[(((r52.2.1.1,r52.2.1.2)).1,((r52.2.1.1,r52.2.1.2)).2)]) (cs:=[.str (((r52.2.1.1,r52.2.1.2)).1),.int .i64 (((r52.2.1.1,r52.2.1.2)).2)]) 8 rfl rfl rfl ⟨[.str (((r52.2.1.1,r52.2.1.2)).1),.int .i64 (((r52.2.1.1,r52.2.1.2)).2)],_,rfl,rfl,rfl⟩ rfl (fun v87 S88 ge91 c89 ho90=>?_)
       have hot2:=hot2.to c89
       have ho21:=ho21.to c89
       have hot1:=hot1.to c89
       have ho17:=ho17.to c89
       have hot3:=hot3.to c89
       have ho10:=ho10.to c89
       have ho11:=ho11.to c89
       have ho21c0:=ho21c0.to c89
       have ho21c1:=ho21c1.to c89
       have ho49:=ho49.to c89
       have ho55:=ho55.to c89
       have ho57:=ho57.to c89
       have ho64:=ho64.to c89
       have ho68:=ho68.to c89
       have n92:=c89.n
       have k93:=hot2.bko
       have k94:=ho21.bko
       have k95:=hot1.bko
       have k96:=ho17.bko
       have k97:=hot3.bko
       have k98:=ho10.bko
       have k99:=ho11.bko
       have k100:=ho21c0.bko
       have k101:=ho21c1.bko
       have k102:=ho49.bko
       have k103:=ho55.bko
       have k104:=ho57.bko
       have k105:=ho64.bko
       have k106:=ho68.bko
       have k107:=ho90.bko
       obtain ⟨L108,e109,h⟩:=bindS h
       refine WO.appSB rfl rfl ho10 ho90.ro e109 rfl rfl rfl (fun v110 S111 c112 ho113=>?_)
       have hot2:=hot2.to c112
       have ho21:=ho21.to c112
       have hot1:=hot1.to c112
       have ho17:=ho17.to c112
       have hot3:=hot3.to c112
       have ho11:=ho11.to c112
       have ho21c0:=ho21c0.to c112
       have ho21c1:=ho21c1.to c112
       have ho49:=ho49.to c112
       have ho55:=ho55.to c112
       have ho57:=ho57.to c112
       have ho64:=ho64.to c112
       have ho68:=ho68.to c112
       have ho90:=ho90.to c112
       have n114:=c112.n
       have k115:=hot2.bko
       have k116:=ho21.bko
       have k117:=hot1.bko
       have k118:=ho17.bko
       have k119:=hot3.bko
       have k120:=ho11.bko
       have k121:=ho21c0.bko
       have k122:=ho21c1.bko
       have k123:=ho49.bko
       have k124:=ho55.bko
       have k125:=ho57.bko
       have k126:=ho64.bko
       have k127:=ho68.bko
       have k128:=ho90.bko
       have k129:=ho113.bko
       refine WO.mv rfl (WO.mv rfl ?_)
       refine WO.bsD (A:=Y24) (S:=S111) (M:=[r52.2.2]) (cs:=[.int .i64 r52.2.2]) 9 rfl rfl rfl ⟨[.int .i64 r52.2.2],_,rfl,rfl,rfl⟩ rfl (fun v130 S131 ge134 c132 ho133=>?_)
       have hot2:=hot2.to c132
       have ho21:=ho21.to c132
       have hot1:=hot1.to c132
       have ho17:=ho17.to c132
       have hot3:=hot3.to c132
       have ho11:=ho11.to c132
       have ho21c0:=ho21c0.to c132
       have ho21c1:=ho21c1.to c132
       have ho49:=ho49.to c132
       have ho55:=ho55.to c132
       have ho57:=ho57.to c132
       have ho64:=ho64.to c132
       have ho68:=ho68.to c132
       have ho90:=ho90.to c132
       have ho113:=ho113.to c132
       have n135:=c132.n
       have k136:=hot2.bko
       have k137:=ho21.bko
       have k138:=hot1.bko
       have k139:=ho17.bko
       have k140:=hot3.bko
       have k141:=ho11.bko
       have k142:=ho21c0.bko
       have k143:=ho21c1.bko
       have k144:=ho49.bko
       have k145:=ho55.bko
       have k146:=ho57.bko
       have k147:=ho64.bko
       have k148:=ho68.bko
       have k149:=ho90.bko
       have k150:=ho113.bko
       have k151:=ho133.bko
       obtain ⟨L152,e153,h⟩:=bindS h
       refine WO.appSB rfl rfl ho11 ho133.ro e153 rfl rfl rfl (fun v154 S155 c156 ho157=>?_)
       have hot2:=hot2.to c156
       have ho21:=ho21.to c156
       have hot1:=hot1.to c156
       have ho17:=ho17.to c156
       have hot3:=hot3.to c156
       have ho21c0:=ho21c0.to c156
       have ho21c1:=ho21c1.to c156
       have ho49:=ho49.to c156
       have ho55:=ho55.to c156
       have ho57:=ho57.to c156
       have ho64:=ho64.to c156
       have ho68:=ho68.to c156
       have ho90:=ho90.to c156
       have ho113:=ho113.to c156
       have ho133:=ho133.to c156
       have n158:=c156.n
       have k159:=hot2.bko
       have k160:=ho21.bko
       have k161:=hot1.bko
       have k162:=ho17.bko
       have k163:=hot3.bko
       have k164:=ho21c0.bko
       have k165:=ho21c1.bko
       have k166:=ho49.bko
       have k167:=ho55.bko
       have k168:=ho57.bko
       have k169:=ho64.bko
       have k170:=ho68.bko
       have k171:=ho90.bko
       have k172:=ho113.bko
       have k173:=ho133.bko
       have k174:=ho157.bko
       refine WO.stW (S:=S155) (r:=[v54,v56]) rfl ho21.at0 rfl rfl ho21 rfl rfl rfl rfl rfl (fun S175 c176 ho21=>?_)
       have hot2:=hot2.to c176
       have hot1:=hot1.to c176
       have ho17:=ho17.to c176
       have hot3:=hot3.to c176
       have ho21c0:=ho21c0.to c176
       have ho21c1:=ho21c1.to c176
       have ho49:=ho49.to c176
       have ho55:=ho55.to c176
       have ho57:=ho57.to c176
       have ho64:=ho64.to c176
       have ho68:=ho68.to c176
       have ho90:=ho90.to c176
       have ho113:=ho113.to c176
       have ho133:=ho133.to c176
       have ho157:=ho157.to c176
       have n177:=c176.n
       have k178:=hot2.bko
       have k179:=ho21.bko
       have k180:=hot1.bko
       have k181:=ho17.bko
       have k182:=hot3.bko
       have k183:=ho21c0.bko
       have k184:=ho21c1.bko
       have k185:=ho49.bko
       have k186:=ho55.bko
       have k187:=ho57.bko
       have k188:=ho64.bko
       have k189:=ho68.bko
       have k190:=ho90.bko
       have k191:=ho113.bko
       have k192:=ho133.bko
       have k193:=ho157.bko
       refine WO.as rfl (WO.as rfl (WO.ni ?_))
       refine ⟨fun tt hs=>dynOk_of [(0,4),(4,7),(0,8)] (by kernel_rfl) ⟨?_,?_,?_,trivial⟩,?_⟩
       ·show djT tt _ _ = true
        have nb220:=k75.nb k78
        have nb224:=k75.nb k86
        have nb240:=k77.nb k82
        have nb247:=k78.nb k79
        have nb253:=k78.nb k85
        have nb262:=k79.nb k85
        have nb315:=k173.nb k174
        refine djT_of hs rfl rfl rfl rfl rfl ?_ ?_ ?_ <;> simp only [NBs,NB1,and_true,true_and] <;> (repeat' apply And.intro) <;> (first | assumption | (apply NB.symm;assumption) | exact NB.none rfl | exact NB.noneR rfl | (apply NB.pt;first | assumption | (apply NB.symm;assumption)) | (apply NB.symm;apply NB.pt;first | assumption | (apply NB.symm;assumption) | (apply NB.symm;apply NB.pt;first | assumption | (apply NB.symm;assumption))))
       ·show djT tt _ _ = true
        have nb220:=k75.nb k78
        have nb224:=k75.nb k86
        have nb240:=k77.nb k82
        have nb247:=k78.nb k79
        have nb253:=k78.nb k85
        have nb262:=k79.nb k85
        have nb315:=k173.nb k174
        refine djT_of hs rfl rfl rfl rfl rfl ?_ ?_ ?_ <;> simp only [NBs,NB1,and_true,true_and] <;> (repeat' apply And.intro) <;> (first | assumption | (apply NB.symm;assumption) | exact NB.none rfl | exact NB.noneR rfl | (apply NB.pt;first | assumption | (apply NB.symm;assumption)) | (apply NB.symm;apply NB.pt;first | assumption | (apply NB.symm;assumption) | (apply NB.symm;apply NB.pt;first | assumption | (apply NB.symm;assumption))))
       ·show djT tt _ _ = true
        have nb220:=k75.nb k78
        have nb224:=k75.nb k86
        have nb240:=k77.nb k82
        have nb247:=k78.nb k79
        have nb253:=k78.nb k85
        have nb262:=k79.nb k85
        have nb315:=k173.nb k174
        refine djT_of hs rfl rfl rfl rfl rfl ?_ ?_ ?_ <;> simp only [NBs,NB1,and_true,true_and] <;> (repeat' apply And.intro) <;> (first | assumption | (apply NB.symm;assumption) | exact NB.none rfl | exact NB.noneR rfl | (apply NB.pt;first | assumption | (apply NB.symm;assumption)) | (apply NB.symm;apply NB.pt;first | assumption | (apply NB.symm;assumption) | (apply NB.symm;apply NB.pt;first | assumption | (apply NB.symm;assumption))))
       clear k73 k74 k75 k76 k77 k78 k79 k80 k81 k82 k83 k84 k85 k86 k93 k94 k95 k96 k97 k98 k99 k100 k101 k102 k103 k104 k105 k106 k107 k115 k116 k117 k118 k119 k120 k121 k122 k123 k124 k125 k126 k127 k128 k129 k136 k137 k138 k139 k140 k141 k142 k143 k144 k145 k146 k147 k148 k149 k150 k151 k159 k160 k161 k162 k163 k164 k165 k166 k167 k168 k169 k170 k171 k172 k173 k174 k178 k179 k180 k181 k182 k183 k184 k185 k186 k187 k188 k189 k190 k191 k192 k193 ge91 ge134 n92 n114 n135 n158 n177
       refine bN (tN (WC.rg ?_))
       refine WO.bi rfl rfl rfl ?_
       refine WO.mv rfl (WO.ni (tN ?_))
       obtain rfl:=someI h
       exact ⟨_,rfl,⟨S175,v110,v154,v54,v56,rfl,rfl,(Kc (Kc (Kc (Kc (Kc (Kc (Kc (Kc (Kc (Kc (Kc (Kc (Cov.nil _))))))))))))),hot2,ho21,hot1,ho17,hot3,ho113,ho157,ho55,ho57⟩⟩
      ·have h:=iteF q43 h
       refine WC.exit (tE (tE ?_))
       obtain rfl:=someI h
       exact ⟨_,rfl,rfl,⟨S37,v38,v39,rfl,rfl,(Kc (Kc (Kc (Kc (Kc (Kc (Kc (Kc (Cov.nil _))))))))),hot2,hot1,hot3,ho10,ho11⟩⟩
     rintro _ _ _ _ ⟨rfl,⟨S318,v319,v320,rfl,rfl,hc321,hot2,hot1,hot3,ho10,ho11⟩⟩
     refine bS (tN ?_)
     refine WC.cov hc321 ?_
     refine WC.sq (WC.rg (WO.mv rfl (WO.mv rfl ?_)))
     obtain ⟨L322,e323,h⟩:=bindS h
     refine WO.ixS rfl rfl hot2.slv (at?_lt e323) rfl ?_
     refine WO.fldS (q:=0) rfl rfl (hot2.slv.ptr (by have:=at?_lt e323;omega)) rfl rfl rfl (by decide) ?_
     refine WO.ldP1 (A:=Y37) (B:=Y24) rfl hot2.ro (fun _ hi=>hi) (at?_get e323) rfl rfl (fun v324 ho325=>?_)
     have ho325:Rd Y37 S318 v324 L322.1:=ho325
     refine WO.mv rfl ?_
     obtain ⟨r326,e327,h⟩:=bindS h
     refine WO.callE (S:=S318) rfl rfl (F6_ok e327 ho325.vw ho10.vw) (fun S328 c329=>?_)
     have hot2:=hot2.to c329
     have hot1:=hot1.to c329
     have hot3:=hot3.to c329
     have ho11:=ho11.to c329
     refine WO.do rfl rfl (WO.mv rfl ?_)
     obtain ⟨y339,e340,h⟩:=bindS h
     refine WO.cutS (d:=93) (S:=S328) 9 y339 (fun q338=>?_) (fun q338=>?_) (fun S341 c342=>?_)
     ·have h:=e340
      have h:=iteT q338 h
      obtain rfl:=someI h
      refine WO.gno rfl rfl (WO.gno rfl rfl (WO.gno rfl rfl (WO.gno rfl rfl (WO.gno rfl rfl (WO.gno rfl rfl (WO.gno rfl rfl (WO.gno rfl rfl ?_)))))))
      refine WO.pickT rfl rfl ?_
      refine WO.ni ?_
      exact ⟨S328,rfl,rfl,Ch.refl _ _,(Kc (Ks (Ks (Ks (Ks (Ks (Ks (Ks (Ks (Ks (Ks (Cov.refl _))))))))))))⟩
     ·have h:=e340
      have h:=iteF q338 h
      refine WO.gyes rfl rfl (WO.mv rfl (WO.gyes rfl rfl (WO.mv rfl (WO.gyes rfl rfl ?_))))
      obtain ⟨L330,e331,h⟩:=bindS h
      refine WO.ixS rfl rfl hot3.slv (at?_lt e331) rfl ?_
      refine WO.gyes rfl rfl ?_
      refine WO.fldS (q:=0) rfl rfl (hot3.slv.ptr (by have:=at?_lt e331;omega)) rfl rfl rfl (by decide) ?_
      refine WO.gyes rfl rfl ?_
      refine WO.ldP2 (A:=Y37) (B:=Y24) rfl hot3.ro (fun _ hi=>hi) (at?_get e331) rfl rfl (fun v332 ho333=>?_)
      have ho333:Rd Y24 S328 v332 L330.2:=ho333
      refine WO.gyes rfl rfl (WO.mv rfl (WO.gyes rfl rfl ?_))
      obtain ⟨r334,e335,h⟩:=bindS h
      refine WO.callE (S:=S328) rfl rfl (F7_ok e335 ho333.vw ho11.vw) (fun S336 c337=>?_)
      refine WO.gyes rfl rfl (WO.do rfl rfl ?_)
      obtain rfl:=someI h
      refine WO.pickF rfl rfl ?_
      refine WO.ni ?_
      exact ⟨S336,rfl,rfl,c337,(Kc (Ks (Ks (Ks (Ks (Ks (Ks (Ks (Ks (Ks (Ks (Cov.refl _))))))))))))⟩
     have hot2:=hot2.to c342
     have hot1:=hot1.to c342
     have hot3:=hot3.to c342
     refine WO.ni (tN ?_)
     refine WC.cond rfl (fun q343=>?_) (fun q343=>?_)
     ·have h:=iteT q343 h
      refine WC.sq (WC.rg (WO.as rfl (WO.ni (tN (WC.ret (bR (tR (tR ?_))))))))
      obtain rfl:=someI h
      exact ⟨_,rfl,rfl,⟨S341,rfl,rfl,(Kc (Cov.nil _))⟩⟩
     ·have h:=iteF q343 h
      refine WC.skip (bN (tN (WC.rg ?_)))
      refine WO.bi rfl rfl rfl ?_
      refine WO.mv rfl (WO.ni (tN ?_))
      obtain rfl:=someI h
      exact ⟨_,rfl,⟨S341,rfl,rfl,(Kc (Kc (Kc (Kc (Kc (Cov.nil _)))))),hot2,hot1,hot3⟩⟩
    ·have h:=iteF q13 h
     refine WC.exit (tE (tE ?_))
     obtain rfl:=someI h
     exact ⟨_,rfl,rfl,⟨S11,rfl,rfl,(Cov.nil _)⟩⟩
   cases b344 with
   | inl b346=>
    simp only at h
    rintro _ _ _ _ ⟨rfl,⟨S347,rfl,rfl,hc348⟩⟩
    refine bS (tN ?_)
    refine WC.cov hc348 ?_
    refine WC.sq (WC.rg (WO.as rfl (WO.ni (tN (WC.ret ?_)))))
    obtain rfl:=someI h
    exact ⟨.inr rfl,_,_,rfl,rfl,rfl⟩
   | inr b346=>
    simp only at h
    rintro _ _ _ _ ⟨rfl,⟨S349,rfl,rfl,hc350⟩⟩
    refine bR (tR ?_)
    obtain rfl:=someI h
    exact ⟨.inr rfl,_,_,(resK_cov hc350 rfl),rfl,rfl⟩
end Go.Proofs.YtkhokgkgloligaaDoor
namespace Go.Co
open Go.Conc Go.Am Go.Proofs Go.RowKit Go.Proofs.YtkhokgkgloligaaDoor
open Go.ConcR (Payload)
def trAllB {α:Type} (p:α->Bool):Tr α->Bool
 | .nil=>true
 | .node v l r=>(match v with | some x=>p x | none=>true) && trAllB p l && trAllB p r
theorem trAllB_get {α:Type} {p:α->Bool}:∀ {t:Tr α},trAllB p t = true->∀ k x,t.get k = some x->p x = true
 | .nil,_,k,x,h=>by simp [Tr.get] at h
 | .node v l r,ha,k,x,h=>by
  simp only [trAllB,Bool.and_eq_true] at ha
  simp only [Tr.get] at h
  by_cases h0:k = 0
  ·rw [if_pos h0] at h;subst h;exact ha.1.1
  ·rw [if_neg h0] at h
   by_cases h1:k % 2 = 1
   ·rw [if_pos h1] at h;exact trAllB_get ha.1.2 _ _ h
   ·rw [if_neg h1] at h;exact trAllB_get ha.2 _ _ h
theorem co_chk:trAllB (fun fi:Fi=>coCode E fi.body) E.fnTr = true:=by kernel_rfl
theorem co_all (f:Nat) (fi:Fi) (h:E.fn f = some fi):coCode E fi.body = true:=trAllB_get co_chk f fi h
theorem ext_none (f:Nat):E.ext.is f = false:=rfl
def ResD (told:Nat->List (List UInt8 × Int)) (errs:Nat->List Int) (k:Nat) (v1 v2:Value) (fin:Nat->Prop) (w:World):Prop:=RdW (Lay.sl Y37) (told k) v1 fin w/\RdW (Lay.sl Y24) (errs k) v2 fin w
theorem resD_stable {told:Nat->List (List UInt8 × Int)} {errs:Nat->List Int} (k:Nat) (v1 v2:Value) (fin:Nat->Prop) (w w':World) (h:ResD told errs k v1 v2 fin w) (e:∀ b,fin b->w'.heap[b]? = w.heap[b]?):ResD told errs k v1 v2 fin w':=⟨h.1.heap e,h.2.heap e⟩
theorem ow_slice {α:Type} {fl:Nat} {A:Lay α} {S:Cx fl} {k:Nat} {v:SV} {L:List α} (h:Ow A S k v L) {ρ:Rho} {val:Value} (hv:SV.rel ρ v val):∃ x n c,val = .slice x n c:=by
 rcases h with ⟨rfl,_⟩ | ⟨b,c,cs,rfl,_⟩
 ·exact ⟨_,_,_,hv⟩
 ·obtain ⟨p,cc,_,_,_,_,_,rfl⟩:=hv
  exact ⟨_,_,_,rfl⟩
theorem do_calls {F:Nat} {W w:World} (X:Ab W) (hb:Below W.heap.size W w) {ro:Nat->Prop} {L:World->World->Prop} (hL:∀ a b c,L a b->L b c->L a c) (hro:∀ b,b < W.heap.size->ro b) {k:Nat} {told:Nat->List (List UInt8 × Int)} {errs:Nat->List Int}
 {deeds:List (Int × Int × List UInt8 × List UInt8)} {x:SV} {v:Value} (hx:Vw Y35 X.n X.m x deeds) (hv:SV.rel X.ρ x v) (hF:F10 F deeds = some (told k,errs k)):
 CallsO Tryd.prog false (pact ro L true) 10 #[v] ⟨noOwn,w⟩ fun v σ'=>∃ x1 n1 c1 x2 n2 c2,v = .agg #[.slice x1 n1 c1,.slice x2 n2 c2]/\∃ fin,ResD told errs k (.slice x1 n1 c1) (.slice x2 n2 c2) fin σ'.w/\∀ b,fin b->σ'.own b\/ro b:=by
 obtain ⟨kk,v',m',n',hc,S',rfl,rfl,_,w1,w2,rfl,o1,o2⟩:=F10_ok (fl:=X.n) (S0:=⟨X.m,X.n,fun _=>0,Nat.le_refl _⟩) hF (RO.to hx (fun i h=>⟨⟨h,rfl⟩,rfl⟩) fun i h=>⟨⟨h,rfl⟩,rfl⟩)
 obtain ⟨Y,e1,e2,e3⟩:=Ab.to hb X
 have hm0:=Ab.mem (RO:=ro) (L:=L) (own:=noOwn) hb Y fun i l p hi hp=>by
  rw [e2] at hi
  rw [e3] at hp
  obtain ⟨_,p',hp',hat⟩:=X.ok i l hi
  rw [hp] at hp';cases hp'
  obtain ⟨_,_,_,h4,_⟩:=hat.at_
  exact hro _ (Array.getElem?_eq_some_iff.1 h4).1
 rw [e1,e2,e3] at hm0
 have hcall:=callF_okO (P:=Tryd.prog) (main:=false) (RO:=ro) (L:=L) (ev:=true) (B:=W.heap.size) (fl0:=X.n) (w0:=W) E.ok hL hro E.fns ext_none (fun f fi h=>.inl (co_all f fi h)) (runOkO E.ok hL hro E.fns ext_none (fun f fi h=>.inl (co_all f fi h)) kk)
 refine (hcall X.n 10 [.sc x] X.m X.n _ _ _ (Nat.le_refl _) (Nat.le_refl _) hc X.ρ ⟨noOwn,w⟩ #[v] hm0 ⟨hv,trivial⟩ (fun i h _=>X.fresh i h)).2.mono fun val σ' q=>?_
 obtain ⟨ρ',_,_,hm,hr⟩:=q
 obtain ⟨cs,rfl,ha⟩:=hr
 obtain ⟨l⟩:=cs
 match l,ha with
 | [a,b],⟨ha,hb,_⟩=>
  obtain ⟨x1,n1,c1,rfl⟩:=ow_slice o1 ha
  obtain ⟨x2,n2,c2,rfl⟩:=ow_slice o2 hb
  refine ⟨x1,n1,c1,x2,n2,c2,rfl,fun b=>σ'.own b\/ro b,⟨?_,?_⟩,fun b h=>h⟩
  ·exact rdW_of_ow (fun a x hx=>by simp at hx;rcases hx with rfl | rfl <;> trivial) o1 hm ha fun b h=>h
  ·exact rdW_of_ow (fun a x hx=>by simp at hx;subst hx;trivial) o2 hm hb fun b h=>h
open Go.Conc Go.Am Go.Proofs Go.RowKit Go.Proofs.YtkhokgkgloligaaDoor
open Go.ConcR (Payload)
variable [Payload]
noncomputable def b3:Frame:=base 3
theorem early3:b3.kind≠.early:=by simp [b3,base]
noncomputable def c3:Code:=Tryd.f3.body.getD .skip
noncomputable def o3a:Array Oper:=regc (fstc c3)
noncomputable def o3b:Array Oper:=regc (fstc (sndc c3))
theorem c3_eq:c3 = .seq (.region 0 o3a false) (.seq (.region 1 o3b false) tailC):=rfl
theorem f3_body:Tryd.f3.body = some c3:=rfl
theorem tail_code:codeOk [1000016] tailC = true:=by kernel_rfl
theorem tail_dst:dstOk 95 tailC = true:=by kernel_rfl
theorem tail_co:coCode E tailC = true:=by kernel_rfl
theorem opG_calc {P:Program} {main:Bool} {K:Pact} {ops:Array Oper} {a:Act} {σ:GW} {b:Frame} {k:List Item} {cs:List Frame} {Stop:Goroutine->GW->Prop} {i:Nat} {rest:List Nat} (T:K.Ok) (hk:b.kind≠.early) (o:Oper) (d:Option Nat) (v:Value) (ho:ops[i]? = some o) (hd:o.dst = d) (hg:o.guard = none)
 (hx:∀ w,(execOp a.eval o).run P w = .ok (.value v) w/\(execOp a.eval o).events P w #[] = #[]) (h:∀ w₁,K.R σ w₁->GoesO P main K Stop (G (b.at (a.put d v) (.inRegion ops rest :: k)) cs) ⟨σ.own,w₁⟩):GoesO P main K Stop (G (b.at a (.inRegion ops (i :: rest) :: k)) cs) σ:=by
 subst hd
 exact opG_cons T hk (opO_calcK T ho hg hx h)
theorem stepG_done {P:Program} {b:Frame} {a:Act} {f:Func} {todo:List Item} {v:Value} {w:World} (hi:P.inits.idxOf? b.fn = none) (hn:b.kind = .normal) (hd:a.defers = []) (hf:P.funcs[b.fn]? = some f) (hr:(results f a.tmps).run P w = .ok v w):
 stepG P true (G { b.at a todo with mode:=.returning } []) w = .ended (.done v) w (seen P b.fn ((results f a.tmps).events P w #[])):=by
 simp [G,stepG,unwind,doReturn,Frame.at,hi,hn,hd,hf,hr,GStep.after]
theorem inits3:Tryd.prog.inits.idxOf? b3.fn = none:=by kernel_rfl
def PostR (W:World) (v:Value) (w:World):Prop:=v = .bool true/\Below W.heap.size W w
theorem tail3 {Wg Ch Out Lz N:Nat} {RO0:Nat->Prop} {Res:Nat->Value->Value->(Nat->Prop)->World->Prop} {W w:World} {B F n:Nat} {m:Mem} {ρ:Rho} {hands t4:Int} {jobs:List (List (Int × Int × List UInt8 × List UInt8))} {t2:List (List (List UInt8 × Int) × List Int)} {vt1 vt2:SV} {v1 v2:Value}
 (hB:W.heap.size<=B) (hWg:W.heap.size<=Wg) (hm:MemO (fun b=>b < B/\b≠Wg) true W.heap.size n W ρ m ⟨noOwn,w⟩) (hfr:∀ i,n<=i->ρ i = none) (h1:Vw Y27 n m vt1 jobs) (h2:Vw YD n m vt2 t2) (hv1:SV.rel ρ vt1 v1) (hv2:SV.rel ρ vt2 v2)
 (hF:F3 F hands jobs t2 t4 = some true) {a3:Act} {E3:Nat->Value} (hs:ShA 95 E3 a3) (e0:E3 0 = .int .i64 hands) (e1:E3 1 = v1):
 GoesO Tryd.prog true (Kt (cfg Wg Ch Out Lz N RO0 Res) B) (AtRet (cfg Wg Ch Out Lz N RO0 Res) (PostR W) B) (G (b3.at (a3.put (some 20) (.tuple #[v2,.int .i64 t4])) [.inRegion o3b [3,4,5,6,7],.code tailC]) []) ⟨noOwn,w⟩:=by
 have T:=Kt.ok (cfg Wg Ch Out Lz N RO0 Res) B
 have early3:=early3
 have hL:∀ a b c:World,b.heap = a.heap->c.heap = b.heap->c.heap = a.heap:=fun a b c h k=>k.trans h
 have hro:∀ b,b < W.heap.size->b < B/\b≠Wg:=fun b hb=>by omega
 have hs:=hs.put (d:=20) (by decide) (.tuple #[v2,.int .i64 t4])
 refine opG_calc T early3 (opn o3b 3) (some 17) (.tuple #[v2,.int .i64 t4]) rfl rfl rfl (fun w=>run_move (.inl rfl) ((hs.2.2 20).trans rfl)) fun w₁ r=>?_
 have hm:=hm.rely hro r
 have hs:=hs.put (d:=17) (by decide) (.tuple #[v2,.int .i64 t4])
 refine opG_calc T early3 (opn o3b 4) (some 21) v2 rfl rfl rfl (fun w=>run_extract rfl ((hs.2.2 17).trans rfl) rfl) fun w₂ r=>?_
 have hm:=hm.rely hro r
 have hs:=hs.put (d:=21) (by decide) v2
 refine opG_calc T early3 (opn o3b 5) (some 22) (.int .i64 t4) rfl rfl rfl (fun w=>run_extract rfl ((hs.2.2 17).trans rfl) rfl) fun w₃ r=>?_
 have hm:=hm.rely hro r
 have hs:=hs.put (d:=22) (by decide) (.int .i64 t4)
 refine opG_calc T early3 (opn o3b 6) (some 5) v2 rfl rfl rfl (fun w=>run_move (.inr rfl) ((hs.2.2 21).trans rfl)) fun w₄ r=>?_
 have hm:=hm.rely hro r
 have hs:=hs.put (d:=5) (by decide) v2
 refine opG_calc T early3 (opn o3b 7) (some 6) (.int .i64 t4) rfl rfl rfl (fun w=>run_move (.inr rfl) ((hs.2.2 22).trans rfl)) fun w₅ r=>?_
 have hm:=hm.rely hro r
 have hs:=hs.put (d:=6) (by decide) (.int .i64 t4)
 refine .ctl T rfl (fun _=>stepG_region_end) ?_
 generalize (((((a3.put (some 20) (.tuple #[v2,.int .i64 t4])).put (some 17) (.tuple #[v2,.int .i64 t4])).put (some 21) v2).put (some 22) (.int .i64 t4)).put (some 5) v2).put (some 6) (.int .i64 t4) = aF at hs ⊢
 have hwc:=(F3t_ok (n:=n) (m:=m) hF h1 h2).ok ((((((Tr.nil:Tr AV).set 0 (.sc (.int .i64 hands))).set 1 (.sc vt1)).set 5 (.sc vt2)).set 95 .un).set 6 (.sc (.int .i64 t4))) (((((Sees.nil _).set _ _).set _ _).set _ _).set _ _ |>.set _ _)
 obtain ⟨kk,e,s',hrun,l',hl',he,vs,v,hvs,htup,rfl⟩:=hwc
 have hrun':=(runOkO (P:=Tryd.prog) (main:=true) (RO:=fun b=>b < B/\b≠Wg) (L:=fun w w₁=>w₁.heap = w.heap) (ev:=true) (B:=W.heap.size) (fl0:=n) (w0:=W) E.ok hL hro E.fns ext_none (fun f fi h=>.inl (co_all f fi h)) kk).2.1 [] 95 [1000016] n tailC _ e s' hrun tail_code tail_dst (.inl tail_co) (Nat.le_refl _) 3
 refine hrun' ρ _ _ ⟨⟨hm.rel,fun d=>?_,by rw [hs.2.1];exact Nat.le_refl _,hs.1,Nat.le_refl _⟩,hm.own,hm.ro,hm.all⟩ (fun q hq _=>hfr q hq) b3 [] [] _ rfl early3 ?_
 ·show AV.rel ρ _ (aF.eval (.tmp d))
  rw [hs.2.2 d]
  simp only [Tr.get_set]
  by_cases d6:d = 6
  ·subst d6;simp [upd9];rfl
  ·by_cases d95:d = 95
   ·subst d95;simp;trivial
   ·by_cases d5:d = 5
    ·subst d5;simp [upd9];exact hv2
    ·by_cases d1:d = 1
     ·subst d1;simp [upd9,e1];exact hv1
     ·by_cases d0:d = 0
      ·subst d0;simp [upd9,e0];rfl
      ·simp [d6,d95,d5,d1,d0,Tr.get_nil];trivial
 ·have hfin:∀ (a':Act) (σ':GW) (todo:List Item),(∃ ρ',Ext ρ ρ'/\(∀ q,ρ' q≠none->ρ q≠none\/(n<=q/\q < s'.n))/\StO (fun b=>b < B/\b≠Wg) true [] W.heap.size n W 95 ρ' s' a' σ') ->
   GoesO Tryd.prog true (Kt (cfg Wg Ch Out Lz N RO0 Res) B) (AtRet (cfg Wg Ch Out Lz N RO0 Res) (PostR W) B) (G { b3.at a' todo with mode:=.returning } []) σ':=by
   rintro a' σ' todo ⟨ρ',_,_,hst⟩
   refine .stop fun w₁ r=>?_
   have hst:=hst.rely hro r
   obtain ⟨val,q1,q2,q3⟩:=results_relO (fn:=Tryd.f3) E.ok hst (resK_ok hl' hvs) htup
   have hval:val = .bool true:=q2
   subst hval
   exact ⟨rfl,_,_,stepG_done (b:=b3) inits3 rfl hst.st.defers Tryd.func3 q1,fun e he=>q3 e (mem_seen he),rfl,hst.st.mem.below⟩
  intro ex a' σ' hp
  obtain ⟨rfl,hp⟩:=hp
  rcases he with rfl | rfl
  ·exact .ctl T rfl (fun _=>stepG_end) (hfin a' σ' [] hp)
  ·exact fun todo=>hfin a' σ' todo hp
open Go.Conc Go.Am Go.Proofs Go.RowKit Go.Proofs.YtkhokgkgloligaaDoor
open Go.ConcR (Payload)
theorem jobs_read {W:World} (X:Ab W) {jobs:List (List (Int × Int × List UInt8 × List UInt8))} {vt:SV} {v:Value} (h:Vw Y27 X.n X.m vt jobs) (hv:SV.rel X.ρ vt v):
 ∃ j0 cap,v = .slice j0 jobs.length cap/\∃ El:Nat->Value,∀ k,k < jobs.length->(∃ J o,j0 = some ⟨J,o,none⟩/\J < W.heap.size/\W.cell? ⟨J,o + k,none⟩ = some (El k))/\∃ x,SV.rel X.ρ x (El k)/\Vw Y35 X.n X.m x (jobs.getD k []):=by
 rcases h with ⟨h | h,rfl⟩ | ⟨i,o,c,cs,rfl,h2,h3,h4,h5,h6⟩
 ·subst h
  exact ⟨none,0,hv,fun _=>undef,fun k hk=>absurd hk (Nat.not_lt_zero _)⟩
 ·subst h
  obtain ⟨a,n,rfl⟩:=hv
  exact ⟨_,_,rfl,fun _=>undef,fun k hk=>absurd hk (Nat.not_lt_zero _)⟩
 ·obtain ⟨p,cc,hp,k1,k2,k3,k4,rfl⟩:=hv
  refine ⟨_,_,rfl,?_⟩
  obtain ⟨_,p',hp',hat⟩:=X.ok i cs h4
  rw [hp] at hp';cases hp'
  obtain ⟨arr,T,fz,a1,a2,a3,a4,_⟩:=hat.at_
  have hJ:p.b < W.heap.size:=(Array.getElem?_eq_some_iff.1 a1).1
  have key:∀ k,k < jobs.length->∃ y,W.cell? ⟨p.b,p.base + o + k,none⟩ = some y/\∃ x,SV.rel X.ρ x y/\Vw Y35 X.n X.m x (jobs.getD k []):=by
   intro k hk
   have h5:o + jobs.length * 1<=cs.length:=h5
   have hg:=RL.get h6 (j:=k) (a:=jobs.getD k []) (by rw [List.getD_eq_getElem?_getD,List.getElem?_eq_getElem hk];rfl)
   obtain ⟨x,hx,hro⟩:=hg
   have hx:((((cs.drop o).take (jobs.length * 1)).drop (k * 1)).take 1) = [x]:=hx
   have hcx:cs[o + k]? = some x:=by
    have:=congrArg (fun l:List SV=>l[0]?) hx
    simp only [List.getElem?_cons_zero] at this
    rw [List.getElem?_take,if_pos (by omega),List.getElem?_drop,List.getElem?_take,if_pos (by omega),List.getElem?_drop] at this
    rw [<- this];congr 1;omega
   obtain ⟨y,hy,hr⟩:=All2.get a4 (o + k) x hcx
   refine ⟨y,?_,x,hr,hro⟩
   rw [List.getElem?_take,List.getElem?_drop] at hy
   split at hy
   ·simp only [World.cell?,a1]
    rw [<- Array.getElem?_toList,Nat.add_assoc]
    exact hy
   ·cases hy
  refine ⟨fun k=>(W.cell? ⟨p.b,p.base + o + k,none⟩).getD undef,fun k hk=>?_⟩
  obtain ⟨y,hy,x,hx,hq⟩:=key k hk
  have e:(W.cell? ⟨p.b,p.base + o + k,none⟩).getD undef = y:=by rw [hy];rfl
  refine ⟨⟨_,_,rfl,hJ,by show _ = some ((W.cell? ⟨p.b,p.base + o + k,none⟩).getD undef);rw [e];exact hy⟩,x,by show SV.rel X.ρ x ((W.cell? ⟨p.b,p.base + o + k,none⟩).getD undef);rw [e];exact hx,hq⟩
theorem readOut {W w:World} {Wg Out N:Nat} (hWg:W.heap.size<=Wg) (X:Ab W) (hb:Below W.heap.size W w) {cs:Array Value} {T:TypeId} (hout:w.heap[Out]? = some (.cells cs T)) (hOW:Out≠Wg) (hsz:cs.size = 2 * N) {told:Nat->List (List UInt8 × Int)} {errs:Nat->List Int}
 (h:∀ k,k < N->∃ v1 v2 fin,cs[2 * k]? = some v1/\cs[2 * k + 1]? = some v2/\ResD told errs k v1 v2 fin w/\∀ b,fin b->b≠Wg) (hN:N<=maxLen):
 ∃ (n:Nat) (m:Mem) (ρ:Rho) (vt:SV),(∀ i,n<=i->ρ i = none)/\MemO (fun b=>b < w.heap.size/\b≠Wg) true W.heap.size n W ρ m ⟨noOwn,w⟩/\SV.rel ρ vt (.slice (some ⟨Out,0,none⟩) N N)/\Vw YD n m vt ((List.range N).map fun k=>(told k,errs k)) /\
  X.n<=n/\Ext X.ρ ρ/\∀ i,i < X.n->m.get i = X.m.get i:=by
 have hex:∃ W':World,W'.heap = w.heap.setIfInBounds Wg (.deferred none)/\W'.tape = w.tape/\W'.os = w.os/\W'.output = w.output:=⟨{ w with heap:=w.heap.setIfInBounds Wg (.deferred none) },rfl,rfl,rfl,rfl⟩
 obtain ⟨W',eh,et,eo,ep⟩:=hex
 have hne:∀ b,b≠Wg->W'.heap[b]? = w.heap[b]?:=fun b hb=>by rw [eh,Array.getElem?_setIfInBounds_ne (Ne.symm hb)]
 have hb':Below W.heap.size W W':=hb.trans ⟨eo,et,ep,by rw [eh];simp,fun b hb=>hne b (by omega)⟩
 obtain ⟨X',x1,x2,x3⟩:=Ab.to hb' X
 obtain ⟨Y,vt,y1,y2,y3⟩:=out_read (A:=Y37) (B:=Y24) (w:=W') (b:=Out) (T:=T) (fz:=(0,0)) (by rw [hne _ hOW];exact hout) hsz told errs (fun k hk=>by
  obtain ⟨v1,v2,fin,e1,e2,⟨r1,r2⟩,hf⟩:=h k hk
  exact ⟨v1,v2,fin,e1,e2,r1.heap fun b hb=>hne b (hf b hb),r2.heap fun b hb=>hne b (hf b hb)⟩) hN X'
 have hYne:∀ i l p,Y.m.get i = some l->Y.ρ i = some p->p.b≠Wg/\p.b < w.heap.size:=by
  intro i l p hi hp
  obtain ⟨_,p',hp',hat⟩:=Y.ok i l hi
  rw [hp] at hp';cases hp'
  obtain ⟨arr,T',fz,a1,_⟩:=hat.at_
  have hlt:p.b < W'.heap.size:=(Array.getElem?_eq_some_iff.1 a1).1
  rw [eh,Array.size_setIfInBounds] at hlt
  refine ⟨fun e=>?_,hlt⟩
  rw [e,eh,Array.getElem?_setIfInBounds_self_of_lt (by omega)] at a1
  cases a1
 have hZ:∃ Z:Ab w,Z.n = Y.n/\Z.m = Y.m/\Z.ρ = Y.ρ:=⟨⟨Y.n,Y.m,Y.ρ,Y.fresh,fun i l hi=>by
  obtain ⟨h1,p,h2,h3⟩:=Y.ok i l hi
  exact ⟨h1,p,h2,h3.world (hne _ (hYne i l p hi h2).1).symm⟩⟩,rfl,rfl,rfl⟩
 obtain ⟨Z,z1,z2,z3⟩:=hZ
 have hm:=Ab.mem (RO:=fun b=>b < w.heap.size/\b≠Wg) (L:=fun _ _=>True) (own:=noOwn) hb Z fun i l p hi hp=>by
  rw [z2] at hi;rw [z3] at hp
  exact ⟨(hYne i l p hi hp).2,(hYne i l p hi hp).1⟩
 rw [z1,z2,z3] at hm
 refine ⟨Y.n,Y.m,Y.ρ,vt,Y.fresh,hm,y2,y3,?_,?_,fun i hi=>?_⟩
 ·rw [<- x1];exact y1.1
 ·rw [<- x3];exact y1.2.1
 ·rw [<- x2];exact y1.2.2 i (by rw [x1];exact hi)
open Go.Conc Go.ConcN Go.Am Go.Proofs Go.RowKit Go.Conc.Lib Go.ConcR.Gen Go.ConcN.Gen Go.Proofs.YtkhokgkgloligaaDoor
open Go.ConcR (KK wgBlock WgAt stA smA rd wr mk Payload DC0)
theorem opG_read {P:Program} {main:Bool} {ro:Nat->Prop} {L:World->World->Prop} {ops:Array Oper} {a:Act} {σ:GW} {b:Frame} {k:List Item} {cs:List Frame} {Stop:Goroutine->GW->Prop} {i:Nat} {rest:List Nat} (T:(pact ro L true).Ok) (hk:b.kind≠.early) (o:Oper) (d:Option Nat) (v:Value) {ad:Addr} (ho:ops[i]? = some o) (hd:o.dst = d) (hg:o.guard = none) (hro:ro ad.block)
 (hx:∀ w,w.cell? ad = some v->(execOp a.eval o).run P w = .ok (.value v) w/\(execOp a.eval o).events P w #[] = #[⟨.cell ad,false,false⟩]) (hc:σ.w.cell? ad = some v) (h:∀ w₁,(pact ro L true).R σ w₁->GoesO P main (pact ro L true) Stop (G (b.at (a.put d v) (.inRegion ops rest :: k)) cs) ⟨σ.own,w₁⟩):
 GoesO P main (pact ro L true) Stop (G (b.at a (.inRegion ops (i :: rest) :: k)) cs) σ:=by
 subst hd
 refine opG_cons T hk ?_
 unfold opO
 rw [ho]
 simp only [wanted_none hg,if_true]
 intro w₁ hr
 have hc1:w₁.cell? ad = some v:=(World.cell?_of_block (hr.2.2.2.2.1 _ (.inr hro))).trans hc
 obtain ⟨h1,h2⟩:=hx w₁ hc1
 rw [h1]
 refine ⟨σ.own,⟨rfl,rfl,rfl,Nat.le_refl _,fun _ _ _=>rfl,fun b=>⟨.inl,fun q=>q.elim id fun q=>absurd q.2 (Nat.not_lt.2 q.1)⟩,fun _ e he=>?_⟩,h w₁ hr⟩
 have hm:=mem_listed he
 rw [h2,Array.mem_singleton] at hm
 subst hm
 exact .inl ⟨ad,rfl,rfl,.inr ⟨hro,rfl⟩⟩
theorem leave4 {a:Act} {E:Nat->Value} {v4 v5:Value} {cF:Frame} {cs:List Frame} {todo:List Item} {w:World} (hs:ShA 39 E a) (e4:E 4 = v4) (e5:E 5 = v5):
 stepG Tryd.prog true (G { b4.at a todo with mode:=.returning } (cF :: cs)) w = .go (G (cF.finish (.tuple #[v4,v5])) cs) w #[]:=by
 have h4:a.tmps.getD 4 undef = v4:=(hs.2.2 4).trans e4
 have h5:a.tmps.getD 5 undef = v5:=(hs.2.2 5).trans e5
 have hres:Tryd.f4.results = #[.tmp 4,.tmp 5]:=rfl
 have hr:results Tryd.f4 a.tmps = pure (.tuple #[v4,v5]):=by
  rw [Array.getD_eq_getD_getElem?] at h4 h5
  unfold results
  rw [hres]
  simp [Array.mapM_eq_mapM_toList,h4,h5]
 have hst:=stepG_leaveE (P:=Tryd.prog) (main:=true) (b:=b4) (a:=a) (todo:=todo) (c:=cF) (cs:=cs) (v:=.tuple #[v4,v5]) (w:=w) rfl hs.1 Tryd.func4 (by rw [hr];rfl)
 rw [hr] at hst
 rw [hst]
 rfl
section
variable {c:Cfg} {B:Nat} {Stop:Goroutine->GW->Prop}
theorem tail18 {a:Act} {E:Nat->Value} {w:World} {bo:Nat} {v:Value} {cF:Frame} {cs:List Frame} (hs:ShA 39 E a) (h6:E 6 = .pointer (some ⟨bo,0,none⟩)) (hc:w.cell? ⟨bo,0,none⟩ = some v) (hro:bo < B/\bo≠c.Wg)
 (hn:∀ w₁,(Kt c B).R ⟨noOwn,w⟩ w₁->GoesO Tryd.prog true (Kt c B) Stop (G (cF.finish (.tuple #[v,.int .i64 0])) cs) ⟨noOwn,w₁⟩):
 GoesO Tryd.prog true (Kt c B) Stop (G (b4.at a [.inRegion o4r [],.code c4i]) (cF :: cs)) ⟨noOwn,w⟩:=by
 have T:=Kt.ok c B
 have early4:=early4
 refine .ctl T rfl (fun _=>stepG_region_end) ?_
 rw [c4i_eq]
 refine .ctl T rfl (fun _=>stepG_seq) (.ctl T rfl (fun _=>stepG_region) ?_)
 refine opG_read (ro:=fun b=>b < B/\b≠c.Wg) (L:=fun w w₁=>w₁.heap = w.heap) T early4 (opn o4s 0) (some 38) v (ad:=⟨bo,0,none⟩) rfl rfl rfl hro (fun w hc=>run_load23 rfl ((hs.2.2 6).trans h6) hc) hc fun w₁ r₁=>?_
 have hs:=hs.put (d:=38) (by decide) v
 refine opG_calc T early4 (opn o4s 1) (some 4) v rfl rfl rfl (fun w=>run_move (.inr rfl) ((hs.2.2 38).trans rfl)) fun w₂ r₂=>?_
 have r₂:=T.trans _ _ _ r₁ r₂
 have hs:=hs.put (d:=4) (by decide) v
 refine opG_calc T early4 (opn o4s 2) (some 5) (.int .i64 0) rfl rfl rfl (fun w=>run_move (.inr rfl) rfl) fun w₃ r₃=>?_
 have r₃:=T.trans _ _ _ r₂ r₃
 have hs:=hs.put (d:=5) (by decide) (.int .i64 0)
 refine .ctl T rfl (fun _=>stepG_region_end) (.ctl T rfl (fun _=>stepG_ret') ?_)
 refine .go rfl fun w₄ r₄=>⟨_,⟨noOwn,w₄⟩,#[],leave4 hs rfl rfl,T.idle _,hn w₄ (T.trans _ _ _ r₃ r₄)⟩
end
theorem argE {n:Nat} {x y:Value}:∃ E,ShA (n + 2) E { tmps:=#[x,y] ++ Array.replicate n undef,defers:=[] }/\E 0 = x/\E 1 = y:=by
 refine ⟨_,⟨rfl,by simp;omega,fun _=>rfl⟩,?_,?_⟩
 ·show (#[x,y] ++ Array.replicate n undef).getD 0 undef = x
  rw [Array.getD_eq_getD_getElem?,Array.getElem?_append_left (by simp)];rfl
 ·show (#[x,y] ++ Array.replicate n undef).getD 1 undef = y
  rw [Array.getD_eq_getD_getElem?,Array.getElem?_append_left (by simp)];rfl
open Go.Conc Go.ConcN Go.Am Go.Proofs Go.RowKit Go.Conc.Lib Go.ConcR.Gen Go.ConcN.Gen Go.Proofs.YtkhokgkgloligaaDoor
open Go.ConcR (KK wgBlock WgAt stA smA rd wr mk Payload DC0)
def RoM (s:Nat) (b:Nat):Prop:=b < s + 6/\b≠s + 5/\b≠s + 3/\b≠s + 1
def ResM (s:Nat) (told:Nat->List (List UInt8 × Int)) (errs:Nat->List Int) (k:Nat) (v1 v2:Value) (fin:Nat->Prop) (w:World):Prop:=ResD told errs k v1 v2 fin w/\∀ b,fin b->b≠s + 5
theorem resM_stable {s:Nat} {told:Nat->List (List UInt8 × Int)} {errs:Nat->List Int} (k:Nat) (v1 v2:Value) (fin:Nat->Prop) (w w':World) (h:ResM s told errs k v1 v2 fin w) (e:∀ b,fin b->w'.heap[b]? = w.heap[b]?):ResM s told errs k v1 v2 fin w':=⟨resD_stable k v1 v2 fin w w' h.1 e,h.2⟩
@[reducible] noncomputable def cfgM (W:World) (N:Nat) (told:Nat->List (List UInt8 × Int)) (errs:Nat->List Int):Cfg:=cfg (W.heap.size + 5) (W.heap.size + 3) (W.heap.size + 1) (W.heap.size + 6) N (RoM W.heap.size) (ResM W.heap.size told errs)
theorem whM (W:World) (N:Nat) (told:Nat->List (List UInt8 × Int)) (errs:Nat->List Int):Wh (cfgM W N told errs) W W.heap.size (W.heap.size + 2):=
 ⟨fun b hb=>⟨by omega,by omega,by omega,by omega⟩,⟨by omega,by omega,by omega,by omega⟩,⟨by omega,by omega,by omega,by omega⟩⟩
theorem wgLive_lt {ty Wg:Nat} {w:World} (h:WgLive ty Wg w):Wg < w.heap.size:=by
 obtain ⟨st,sm,q⟩:=h
 exact (Array.getElem?_eq_some_iff.1 q).1
theorem doM {F N:Nat} {W:World} (X:Ab W) {told:Nat->List (List UInt8 × Int)} {errs:Nat->List Int} {vj:Value} {El:Nat->Value} {deeds:Nat->List (Int × Int × List UInt8 × List UInt8)} (hEl:∀ k,k < N->∃ x,SV.rel X.ρ x (El k)/\Vw Y35 X.n X.m x (deeds k)) (hF:∀ k,k < N->F10 F (deeds k) = some (told k,errs k))
 (k:Nat) (hk:k < N) (w:World) (hw:WF (cfgM W N told errs) W W.heap.size (W.heap.size + 2) vj El w):
 CallsO Tryd.prog false (Kw (cfgM W N told errs)) 10 #[El k] ⟨noOwn,w⟩ fun v σ'=>(∃ x1 n1 c1 x2 n2 c2,v = .agg #[.slice x1 n1 c1,.slice x2 n2 c2]/\∃ fin,ResM W.heap.size told errs k (.slice x1 n1 c1) (.slice x2 n2 c2) fin σ'.w/\∀ b,fin b->σ'.own b\/RoM W.heap.size b)/\WF (cfgM W N told errs) W W.heap.size (W.heap.size + 2) vj El σ'.w:=by
 obtain ⟨x,hx,hv⟩:=hEl k hk
 have hW:=whM W N told errs
 have h1:=do_calls (L:=Lk (cfgM W N told errs)) X hw.below (fun _ _ _=>Lk.trans _) (ro:=RoM W.heap.size) hW.low hv hx (hF k hk)
 have hM:W.heap.size < w.heap.size/\W.heap.size + 2 < w.heap.size/\W.heap.size + 5 < w.heap.size:=⟨cell_lt hw.jb,cell_lt hw.ob,wgLive_lt hw.live⟩
 have h2:=CallsO.inv (K:=Kw (cfgM W N told errs)) (I:=fun σ=>WF (cfgM W N told errs) W W.heap.size (W.heap.size + 2) vj El σ.w/\w.heap.size<=σ.w.heap.size/\∀ b,σ.own b->w.heap.size<=b) (Kw.ok _) kw_refl
  (fun σ w₁ hI r=>⟨hI.1.rely hW r,Nat.le_trans hI.2.1 r.2.2.2.1,hI.2.2⟩) (fun σ es σ' hI d=>by
    obtain ⟨d1,d2,d3,d4,d5,d6,_⟩:=d
    refine ⟨hI.1.keep (M:=w.heap.size) ⟨hM.1,hM.2.1,hM.2.2,by omega⟩ d1 d2 d3 d4 fun b hb=>d5 b (by have:=hI.2.1;omega) fun ho=>by have:=hI.2.2 b ho;omega,Nat.le_trans hI.2.1 d4,fun b hb=>?_⟩
    rcases (d6 b).1 hb with q | q
    ·exact hI.2.2 b q
    ·exact Nat.le_trans hI.2.1 q.1) h1 ⟨hw,Nat.le_refl _,fun b hb=>hb.elim⟩
 refine h2.mono fun v σ' q=>?_
 obtain ⟨⟨x1,n1,c1,x2,n2,c2,rfl,fin,r1,r2⟩,hI1,hI2,hI3⟩:=q
 refine ⟨⟨x1,n1,c1,x2,n2,c2,rfl,fin,⟨r1,fun b hb=>?_⟩,r2⟩,hI1⟩
 rcases r2 b hb with q | q
 ·have:=hI3 b q;omega
 ·exact q.2.1
theorem geoM (W:World):Geo (W.heap.size + 5) (W.heap.size + 3) (W.heap.size + 1) (W.heap.size + 6) (RoM W.heap.size):=
 ⟨by omega,by omega,by omega,by omega,by omega,by omega,fun b hb=>⟨hb.1,hb.2.1,hb.2.2.1,hb.2.2.2⟩⟩
theorem jobs_eq (N:Nat):(List.range N).map (fun (k:Nat)=>Value.int .i64 (k:Int)) = ((List.range' 0 (N - 0)).map fun (k:Nat)=>Value.int .i64 (k:Int)):=by rw [Nat.sub_zero,List.range_eq_range']
theorem crowdM {F F' N:Nat} {W:World} (X:Ab W) {told:Nat->List (List UInt8 × Int)} {errs:Nat->List Int} {j0:Option Addr} {cap:Nat} {El:Nat->Value} {jobs:List (List (Int × Int × List UInt8 × List UInt8))} {vt:SV} {n:Nat} (hNj:N = jobs.length) (hN:N<=maxLen) (h1n:1<=n) (h8:n<=8)
 (hv:SV.rel X.ρ vt (.slice j0 N cap)) (hV:Vw Y27 X.n X.m vt jobs) (hEl:∀ k,k < N->(∃ J o,j0 = some ⟨J,o,none⟩/\J < W.heap.size/\W.cell? ⟨J,o + k,none⟩ = some (El k))/\∃ x,SV.rel X.ρ x (El k)/\Vw Y35 X.n X.m x (jobs.getD k []))
 (hF:∀ k,k < N->F10 F (jobs.getD k []) = some (told k,errs k)) (hF3:F3 F' (n:Int) jobs ((List.range N).map fun k=>(told k,errs k)) 0 = some true)
 {a3:Act} {E3:Nat->Value} (hs3:ShA 95 E3 a3) (e30:E3 0 = .int .i64 (n:Int)) (e31:E3 1 = .slice j0 N cap)
 {a:Act} {w:World} {E:Nat->Value} (hs:ShA 39 E a) (hA:A4 (n:Int) W.heap.size E) (h9:E 9 = .pointer (some ⟨W.heap.size + 5,0,none⟩)) (hMd:Made W N (.slice j0 N cap) w):
 LWB (W.heap.size + 5) Tryd.prog (PostR W) (G (b4.at a [.code c4g]) [b3.at a3 [.inRegion o3b [2,3,4,5,6,7],.code tailC]]) w:=by
 intro t ht
 have hW:=whM W N told errs
 have early4:=early4
 obtain ⟨hp,hch,hwg⟩:=hMd
 have hbc:(cfgM W N told errs).RO (W.heap.size + 4):=⟨by omega,by omega,by omega,by omega⟩
 have hOut:¬ (cfgM W N told errs).RO (W.heap.size + 1):=fun h=>h.2.2.2 rfl
 have hne:W.heap.size≠W.heap.size + 5/\W.heap.size + 2≠W.heap.size + 5/\W.heap.size + 4≠W.heap.size + 5/\W.heap.size<=W.heap.size + 5:=by omega
 have hDo:=fun k hk w hw=>doM (vj:=.slice j0 N cap) (El:=El) X (deeds:=fun k=>jobs.getD k []) (fun k hk=>(hEl k hk).2) hF k hk w hw
 have hSF:SF (cfgM W N told errs) W W.heap.size (W.heap.size + 2) (W.heap.size + 4) (.slice j0 N cap) El w:=by
  refine ⟨cell0 (hp.h0 (by omega)),cell0 (hp.h2 (by omega)),fun k hk=>?_,hp.bl,cell0 (hp.h4 (by omega))⟩
  obtain ⟨⟨J,o,rfl,hJ,hc⟩,_⟩:=hEl k hk
  exact ⟨J,o,cap,rfl,hJ,(World.cell?_of_block (hp.bl.block _ hJ)).trans hc⟩
 have hlive:WgLive lnk.tWg (W.heap.size + 5) w:=⟨0,0,hwg⟩
 refine LW.crowd (c:=cfgM W N told errs) (n:=n) (Anch:=Anch9 (cfgM W N told errs) W W.heap.size (W.heap.size + 2) (.slice j0 N cap) El)
  (AnW:=AnW4 (cfgM W N told errs) W W.heap.size (W.heap.size + 2) (W.heap.size + 4) (.slice j0 N cap) El [b3.at a3 [.inRegion o3b [2,3,4,5,6,7],.code tailC]]) (geoM W) resM_stable (fun g σ=>anch9 hW (by omega) resM_stable hOut (by omega) hDo g σ) ?_ (by omega) h1n ?_ hwg ⟨Nat.zero_le _,?_⟩ ?_ (by rw [hp.sz];exact Nat.le_refl _) ht (by show W.heap.size + 5 < w.heap.size;rw [hp.sz];omega)
 ·rintro g w' ⟨a',E',hs',e6,hA'⟩
  refine waitRoundW (c:=cfgM W N told errs) wgLib (fun _ _ r h=>SF.rely hW hbc r h) (fun _ _ v ha h=>h.set hne v ha) rfl resM_stable (fun w₂ hF2 hl2 hdone=>?_) (fun g w hA'=>⟨_,_,hs',e6,hA'⟩) g w' hA'
  obtain ⟨_,hLz,⟨cs,hcs,hsz⟩,hall⟩:=hdone
  have hLz:W.heap.size + 6<=w₂.heap.size:=hLz
  have hsz:cs.size = 2 * N:=hsz
  have hs':=hs'.put (d:=37) (by decide) (.tuple #[])
  refine tail18 (c:=cfgM W N told errs) (B:=w₂.heap.size) (bo:=W.heap.size + 2) hs' e6 hF2.ob ⟨by omega,by show W.heap.size + 2≠W.heap.size + 5;omega⟩ fun w₃ r₃=>?_
  rw [Frame.finish_at]
  obtain ⟨nn,m,ρ,vt2,hfr,hm,hv2,hV2,x1,x2,x3⟩:=readOut (Wg:=W.heap.size + 5) (Out:=W.heap.size + 1) (N:=N) (T:=42) (told:=told) (errs:=errs) (by omega) X hF2.below hcs (by omega) hsz (fun k hk=>by
   obtain ⟨v1,v2,fin,q1,q2,q3⟩:=hall k hk
   refine ⟨v1,v2,fin,?_,?_,q3.1,q3.2⟩
   ·have q1:w₂.cell? ⟨W.heap.size + 1,2 * k,none⟩ = some v1:=q1
    simpa [World.cell?,show w₂.heap[W.heap.size + 1]? = some (.cells cs 42) from hcs] using q1
   ·have q2:w₂.cell? ⟨W.heap.size + 1,2 * k + 1,none⟩ = some v2:=q2
    simpa [World.cell?,show w₂.heap[W.heap.size + 1]? = some (.cells cs 42) from hcs] using q2) hN
  have hm:=hm.rely (L:=fun w w₁=>w₁.heap = w.heap) (ev:=true) (fun b hb=>by omega) r₃
  exact tail3 (hands:=(n:Int)) (t4:=0) (by omega) (by omega) hm hfr (RO.to hV (fun i hi=>⟨Nat.lt_of_lt_of_le hi x1,x3 i hi⟩) fun i hi=>⟨Nat.lt_of_lt_of_le hi x1,x3 i hi⟩) hV2 (SV.rel_ext x2 hv) hv2 hF3 hs3 e30 e31
 ·rw [c4g_eq]
  have T:=K0.ok (cfgM W N told errs)
  refine .ctl T rfl (fun _=>stepG_seq) (.ctl T rfl (fun _=>stepG_seq) (.ctl T rfl (fun _=>stepG_region) ?_))
  refine opG_calc T early4 (opn o4m 0) (some 31) (.int .i64 (n:Int)) rfl rfl rfl (fun w=>run_move (.inl rfl) ((hs.2.2 0).trans hA.t0)) fun w₁ r₁=>?_
  have hSF:=hSF.rely hW hbc r₁
  have hlive:=r₁.lk.wg hlive
  have hs:=hs.put (d:=31) (by decide) (.int .i64 (n:Int))
  refine opG_calc T early4 (opn o4m 1) (some 32) (.int .i64 (0:Nat)) rfl rfl rfl (fun w=>run_move (.inl rfl) rfl) fun w₂ r₂=>?_
  have hSF:=hSF.rely hW hbc r₂
  have hlive:=r₂.lk.wg hlive
  have hs:=hs.put (d:=32) (by decide) (.int .i64 (0:Nat))
  refine .ctl T rfl (fun _=>stepG_region_end) (.ctl T rfl (fun _=>stepG_block) (.ctl T rfl (fun _=>stepG_loop) ?_))
  exact spawn4 hW hbc resM_stable hOut hDo h8 n 0 _ w₂ _ (by omega) hs ⟨hA.t0,hA.t3,hA.t6,hA.t7⟩ h9 rfl rfl hSF hlive
 ·show w.heap[W.heap.size + 3]? = _
  rw [hch]
  simp only [jobsTo,Cfg.jobs,jobs_eq]
 ·obtain ⟨cs,h1,h2⟩:=hp.h1 (by omega)
  exact ⟨cs,h2,h1⟩
open Go.Conc Go.ConcN Go.Am Go.Proofs Go.RowKit Go.Conc.Lib Go.ConcR.Gen Go.ConcN.Gen Go.Proofs.YtkhokgkgloligaaDoor
open Go.ConcR (KK wgBlock WgAt stA smA rd wr mk Payload DC0)
theorem Tq.nil (B:Nat):Tq B #[]:=⟨by simp,by simp,by simp⟩
theorem start3 {W:World} {Post:Value->World->Prop} {x y:Value}
 (hK:∀ (a3:Act) (E3:Nat->Value),ShA 95 E3 a3->E3 0 = x->E3 1 = y->LW Tryd.prog Post (G (Frame.enter Tryd.prog 4 #[x,y] .normal) [b3.at a3 [.inRegion o3b [2,3,4,5,6,7],.code tailC]]) W):
 LW Tryd.prog Post (G (Frame.enter Tryd.prog 3 #[x,y] .normal) []) W:=by
 have early3:=early3
 obtain ⟨E,hs,e0,e1⟩:=argE (n:=93) (x:=x) (y:=y)
 rw [enter_at (P:=Tryd.prog) (f:=3) #[x,y] Tryd.func3 f3_body]
 have en:Tryd.f3.ntmps - (#[x,y]:Array Value).size = 93:=rfl
 rw [en]
 change LW Tryd.prog Post (G (b3.at _ _) []) W
 generalize ({ tmps:=#[x,y] ++ Array.replicate 93 undef,defers:=[] }:Act) = a at hs ⊢
 rw [c3_eq]
 refine .ctl rfl stepG_seq (.ctl rfl stepG_region ?_)
 refine .w0 (opn o3a 0) (some 4) (.bool false) early3 rfl rfl rfl (run_move (.inr rfl) rfl) ?_
 have hs:=hs.put (d:=4) (by decide) (.bool false)
 refine .ctl rfl stepG_region_end (.ctl rfl stepG_seq (.ctl rfl stepG_region ?_))
 refine .w0 (opn o3b 0) (some 18) x early3 rfl rfl rfl (run_move (.inl rfl) ((hs.2.2 0).trans e0)) ?_
 have hs:=hs.put (d:=18) (by decide) x
 refine .w0 (opn o3b 1) (some 19) y early3 rfl rfl rfl (run_move (.inl rfl) ((hs.2.2 1).trans e1)) ?_
 have hs:=hs.put (d:=19) (by decide) y
 generalize hg:((a.put (some 4) (.bool false)).put (some 18) x).put (some 19) y = a' at hs ⊢
 obtain ⟨r1,r2⟩:=run_callF (f:=4) (w:=W) (a:=a') (o:=opn o3b 2) (xs:=#[.tmp 18,.tmp 19]) (vs:=#[x,y]) Tryd.func4 (by kernel_rfl) (by kernel_rfl) rfl (by
  simp only [List.map_toArray,List.map_cons,List.map_nil]
  rw [hs.2.2 18,hs.2.2 19]
  rfl)
 have hst:=stepG_enter (P:=Tryd.prog) (main:=true) (b:=b3) (k:=[.code tailC]) (cs:=[]) (ops:=o3b) (i:=2) (rest:=[3,4,5,6,7]) (o:=opn o3b 2) rfl (wanted_none rfl) early3 r1
 rw [listed_nil r2] at hst
 exact .ctl rfl hst (hK a' _ hs e0 e1)
theorem entry4 {W:World} {Post:Value->World->Prop} {x y:Value} {cs:List Frame} (hK:∀ (a:Act) (E:Nat->Value),ShA 39 E a->E 0 = x->E 1 = y->LW Tryd.prog Post (G (b4.at a [.code c4]) cs) W):
 LW Tryd.prog Post (G (Frame.enter Tryd.prog 4 #[x,y] .normal) cs) W:=by
 obtain ⟨E,hs,e0,e1⟩:=argE (n:=37) (x:=x) (y:=y)
 rw [enter_at (P:=Tryd.prog) (f:=4) #[x,y] Tryd.func4 f4_body]
 have en:Tryd.f4.ntmps - (#[x,y]:Array Value).size = 37:=rfl
 rw [en]
 exact hK _ E hs e0 e1
theorem many_ends {F F':Nat} {W:World} (X:Ab W) {hands:Int} {told:Nat->List (List UInt8 × Int)} {errs:Nat->List Int} {jobs:List (List (Int × Int × List UInt8 × List UInt8))} {vt:SV} {v:Value} (hN:48 * jobs.length<=2 ^ 48)
 (hv:SV.rel X.ρ vt v) (hV:Vw Y27 X.n X.m vt jobs) (hF:1<=hands/\hands<=8->∀ k,k < jobs.length->F10 F (jobs.getD k []) = some (told k,errs k))
 (hF3:1<=hands/\hands<=8->F3 F' hands jobs ((List.range jobs.length).map fun k=>(told k,errs k)) 0 = some true) (hF3b:¬ (1<=hands/\hands<=8)->F3 F' hands jobs [] 1 = some true):
 Ends Tryd.prog (PostR W) (G (Frame.enter Tryd.prog 3 #[.int .i64 hands,v] .normal) []) W #[]:=by
 obtain ⟨j0,cap,rfl,El,hEl⟩:=jobs_read X hV hv
 refine start3 (fun a3 E3 hs3 e30 e31=>?_) #[] (Tq.nil _)
 refine entry4 fun a E hs e0 e1=>?_
 refine head4 hs e0 e1 (fun hok a w E hs h0 h3 hH=>?_) (fun hbad a w E hs h4 h5 hH todo=>?_)
 ·obtain ⟨n,rfl⟩:∃ n:Nat,hands = (n:Int):=⟨hands.toNat,by omega⟩
  refine mid4 hN (fun a w E hs hA h9 hMd=>?_) hs h0 h3 hH
  exact crowdM (F:=F) (F':=F') X rfl (by simp only [maxLen];omega) (by omega) (by omega) hv hV hEl (hF hok) (hF3 hok) hs3 e30 e31 hs hA h9 hMd
 ·refine .ctl rfl (leave4 hs h4 h5) ?_
  rw [Frame.finish_at]
  intro t ht
  have hb:=hH.bl
  obtain ⟨Y,y1,y2,y3⟩:=Ab.to hb X
  have hm:=Ab.mem (RO:=fun b=>b < W.heap.size/\b≠w.heap.size) (L:=fun _ _=>True) (own:=noOwn) hb Y fun i l p hi hp=>by
   rw [y2] at hi
   rw [y3] at hp
   obtain ⟨_,p',hp',hat⟩:=X.ok i l hi
   rw [hp] at hp';cases hp'
   obtain ⟨_,_,_,h4,_⟩:=hat.at_
   have hlt:=(Array.getElem?_eq_some_iff.1 h4).1
   exact ⟨hlt,by rw [hH.sz];omega⟩
  rw [y1,y2,y3] at hm
  have hT:=tail3 (Wg:=w.heap.size) (Ch:=0) (Out:=0) (Lz:=0) (N:=0) (RO0:=fun _=>False) (Res:=fun _ _ _ _ _=>True) (B:=W.heap.size) (F:=F') (hands:=hands) (t4:=1) (jobs:=jobs) (t2:=[]) (vt1:=vt) (vt2:=.nils) (Nat.le_refl _) (by rw [hH.sz];omega) hm X.fresh hV (.inl ⟨.inl rfl,rfl⟩) hv rfl (hF3b hbad) hs3 e30 e31
  exact LW.lone (c:=cfg w.heap.size 0 0 0 0 (fun _=>False) fun _ _ _ _ _=>True) hT t ht.g0
end Go.Co
namespace Go.Am
section
variable {σ β:Type} {step:σ->Option (Stp σ β)}
theorem iter_more {f:Nat} {s s':σ} (h:step s = some (.more s')):iter step (f + 1) s = iter step f s':=by simp only [iter,h]
theorem iter_stop {f:Nat} {s:σ} {b:β} (h:step s = some (.stop b)):iter step (f + 1) s = some b:=by simp only [iter,h]
theorem iter_run (P:Nat->σ) {b:β}:∀ (N i F:Nat),(∀ j,i<=j->j < i + N->step (P j) = some (.more (P (j + 1))))->step (P (i + N)) = some (.stop b)->N < F->iter step F (P i) = some b
 | 0,i,F,_,he,hF=>by
  obtain ⟨F,rfl⟩:∃ q,F = q + 1:=⟨F - 1,by omega⟩
  exact iter_stop he
 | N + 1,i,F,hs,he,hF=>by
  obtain ⟨F,rfl⟩:∃ q,F = q + 1:=⟨F - 1,by omega⟩
  rw [iter_more (hs i (Nat.le_refl _) (by omega))]
  exact iter_run P N (i + 1) F (fun j h1 h2=>hs j (by omega) (by omega)) (by rw [show i + 1 + N = i + (N + 1) from by omega];exact he) (by omega)
theorem iter_count (P:Nat->σ) {b:β} {F:Nat} (N:Nat) (hs:∀ j,j < N->step (P j) = some (.more (P (j + 1)))) (he:step (P N) = some (.stop b)) (hF:N < F):iter step F (P 0) = some b:=
 iter_run P N 0 F (fun j _ h=>hs j (by omega)) (by rw [Nat.zero_add];exact he) hF
theorem iter_inv (I:σ->Prop) (μ:σ->Nat) (Q:β->Prop) (h:∀ s,I s->(∃ s',step s = some (.more s')/\I s'/\μ s' < μ s)\/∃ b,step s = some (.stop b)/\Q b):∀ (F:Nat) (s:σ),I s->μ s < F->∃ b,iter step F s = some b/\Q b
 | 0,_,_,hF=>by omega
 | F + 1,s,hs,hF=>by
  rcases h s hs with ⟨s',h1,h2,h3⟩ | ⟨b,h1,h2⟩
  ·rw [iter_more h1];exact iter_inv I μ Q h F s' h2 (by omega)
  ·exact ⟨b,iter_stop h1,h2⟩
end
theorem w64 {a:Int} (h1:-9223372036854775808<=a) (h2:a<=9223372036854775807):wrapA .i64 a = a:=if_pos ⟨h1,h2⟩
theorem at?_in {α:Type} {L:List α} {i:Nat} (h:i < L.length):at? L (i:Int) = some L[i]:=by
 unfold at?;rw [if_pos (by omega)];simp [h]
theorem app?_ok {α:Type} {L L':List α} (h:L.length + L'.length<=549755813888):app? L L' = some (L ++ L'):=if_pos h
theorem ck_ok {α:Type} {L:List α} {i:Nat} (h:i < L.length):ck L (i:Int) = some ():=by
 unfold ck;rw [if_pos (by omega)]
theorem sub?_ok {α:Type} {L:List α} {a b:Nat} (h:a<=b) (h2:b<=L.length):sub? L (a:Int) (b:Int) = some ((L.take b).drop a):=by
 unfold sub?;rw [if_pos (by omega)];rfl
theorem sub?_from {α:Type} {L:List α} {a:Nat} (h:a<=L.length):sub? L (a:Int) (L.length:Int) = some (L.drop a):=by
 rw [sub?_ok h (Nat.le_refl _),List.take_length]
theorem sub?_to {α:Type} {L:List α} {b:Nat} (h:b<=L.length):sub? L 0 (b:Int) = some (L.take b):=by
 rw [show (0:Int) = ((0:Nat):Int) from rfl,sub?_ok (Nat.zero_le _) h,List.drop_zero]
theorem find_loop {α β:Type} {step:Int->Option (Stp Int (Unit ⊕ β))} {F:Nat} (L:List α) (p:α->Bool) (g:Nat->α->β)
 (hs:∀ (i:Nat) (h:i < L.length),step (i:Int) = some (if p L[i] then .stop (.inr (g i L[i])) else .more ((i + 1:Nat):Int)))
 (he:step (L.length:Int) = some (.stop (.inl ()))) (hF:L.length < F):
 ((∀ x∈L,p x = false)/\iter step F 0 = some (.inl ()))\/∃ (i:Nat) (h:i < L.length),p L[i] = true/\(∀ (j:Nat) (hj:j < i),p (L[j]'(by omega)) = false)/\iter step F 0 = some (.inr (g i L[i])):=by
 have hmore:∀ j,j < L.findIdx p->step (j:Int) = some (.more ((j + 1:Nat):Int)):=by
  intro j hj
  have hl:j < L.length:=Nat.lt_of_lt_of_le hj List.findIdx_le_length
  rw [hs j hl,if_neg (by simpa using List.not_of_lt_findIdx hj)]
 by_cases h:L.findIdx p < L.length
 ·right
  refine ⟨L.findIdx p,h,List.findIdx_getElem,fun j hj=>by simpa using List.not_of_lt_findIdx hj,?_⟩
  refine iter_count (step:=step) (fun i=>(i:Int)) (L.findIdx p) hmore ?_ (by omega)
  rw [hs _ h,if_pos List.findIdx_getElem]
 ·left
  have e:L.findIdx p = L.length:=Nat.le_antisymm List.findIdx_le_length (by omega)
  refine ⟨List.findIdx_eq_length.1 e,?_⟩
  rw [e] at hmore
  exact iter_count (step:=step) (fun i=>(i:Int)) L.length hmore he hF
theorem any_of_first {α:Type} {L:List α} {p:α->Bool} {i:Nat} (h:i < L.length) (hp:p L[i] = true):L.any p = true:=by
 rw [List.any_eq_true];exact ⟨_,List.getElem_mem h,hp⟩
theorem any_none {α:Type} {L:List α} {p:α->Bool} (h:∀ x∈L,p x = false):L.any p = false:=by
 rw [List.any_eq_false];intro x hx;rw [h x hx];decide
theorem any_loop {α β:Type} {step:Int->Option (Stp Int (Unit ⊕ β))} {F:Nat} (L:List α) (p:α->Bool) (c:β)
 (hs:∀ (i:Nat) (h:i < L.length),step (i:Int) = some (if p L[i] then .stop (.inr c) else .more ((i + 1:Nat):Int)))
 (he:step (L.length:Int) = some (.stop (.inl ()))) (hF:L.length < F):iter step F 0 = some (if L.any p then .inr c else .inl ()):=by
 rcases find_loop L p (fun _ _=>c) hs he hF with ⟨h1,h2⟩ | ⟨i,h,h1,_,h2⟩
 ·rw [h2,any_none h1];rfl
 ·rw [h2,any_of_first h h1];rfl
theorem seek_loop {β:Type} {step:Int->Option (Stp Int (Unit ⊕ β))} {F:Nat} (N:Nat) (p:Nat->Bool) (g:Nat->β)
 (hs:∀ (i:Nat),i < N->step (i:Int) = some (if p i then .stop (.inr (g i)) else .more ((i + 1:Nat):Int)))
 (he:step (N:Int) = some (.stop (.inl ()))) (hF:N < F):
 ((∀ i,i < N->p i = false)/\iter step F 0 = some (.inl ()))\/∃ (i:Nat),i < N/\p i = true/\(∀ (j:Nat),j < i->p j = false)/\iter step F 0 = some (.inr (g i)):=by
 rcases find_loop (step:=step) (F:=F) (List.range N) p (fun i _=>g i) (fun i h=>by simp only [List.getElem_range];exact hs i (by simpa using h)) (by simpa using he) (by simpa using hF) with ⟨h1,h2⟩ | ⟨i,h,h1,h3,h2⟩
 ·exact .inl ⟨fun i hi=>h1 i (by simpa using hi),h2⟩
 ·simp only [List.getElem_range] at h1 h3 h2
  exact .inr ⟨i,by simpa using h,h1,h3,h2⟩
theorem wsuc {a:Nat} (h:a < 9223372036854775807):wrapA .i64 ((a:Int) + 1) = ((a + 1:Nat):Int):=by
 rw [w64 (by omega) (by omega)];rfl
theorem wpred {a:Nat} (h:0 < a) (h2:a<=9223372036854775807):wrapA .i64 ((a:Int) - 1) = ((a - 1:Nat):Int):=by
 rw [w64 (by omega) (by omega)];omega
def tb {α:Type} (n:Nat) (f:Nat->α):List α:=(List.range n).map f
section
variable {α:Type} {n:Nat} {f g:Nat->α}
theorem tb_len (n:Nat) (f:Nat->α):(tb n f).length = n:=by simp [tb]
theorem tb_get {i:Nat} (h:i < n):at? (tb n f) (i:Int) = some (f i):=by
 rw [at?_in (by rw [tb_len];exact h)];simp [tb]
theorem tb_get? (i:Nat):(tb n f)[i]? = if i < n then some (f i) else none:=by
 by_cases h:i < n
 ·rw [if_pos h];simp [tb,h]
 ·rw [if_neg h];simp [tb,h]
theorem tb_set {i:Nat} {x:α}:(tb n f).set i x = tb n fun j=>if j = i then x else f j:=by
 apply List.ext_getElem?
 intro j
 rw [List.getElem?_set,tb_get?,tb_get?,tb_len]
 by_cases hj:j < n
 ·by_cases e:i = j
  ·subst e;simp [hj]
  ·rw [if_neg e,if_pos hj,if_pos hj,if_neg (fun q=>e q.symm)]
 ·by_cases e:i = j
  ·subst e;simp [hj]
  ·simp [e,hj]
theorem tb_rep (n:Nat) (z:α):List.replicate n z = tb n fun _=>z:=by
 apply List.ext_getElem?
 intro j
 rw [tb_get?,List.getElem?_replicate]
theorem tb_congr (h:∀ i,i < n->f i = g i):tb n f = tb n g:=by
 unfold tb
 exact List.map_congr_left fun i hi=>h i (by simpa using hi)
theorem tb_ck {i:Nat} (h:i < n):ck (tb n f) (i:Int) = some ():=ck_ok (by rw [tb_len];exact h)
end
def nx {α:Type} (d:α) (L:List α) (i:Nat):α:=(L[i]?).getD d
theorem nx_get {α:Type} {d:α} {L:List α} {i:Nat} (h:i < L.length):at? L (i:Int) = some (nx d L i):=by
 rw [at?_in h];simp [nx,h]
theorem nx_eq {α:Type} {d:α} {L:List α} {i:Nat} (h:i < L.length):nx d L i = L[i]:=by simp [nx,h]
theorem nx_mem {α:Type} {d:α} {L:List α} {i:Nat} (h:i < L.length):nx d L i∈L:=by
 rw [nx_eq h];exact List.getElem_mem h
theorem ite_some {α:Type} {c:Prop} [Decidable c] (a b:α):(if c then some a else some b) = some (if c then a else b):=by split <;> rfl
theorem seekS {σ β:Type} {step:σ->Option (Stp σ β)} {F:Nat} (N:Nat) (P:Nat->σ) (p:Nat->Bool) (g:Nat->β) (b:β)
 (hs:∀ i,i < N->(∀ j,j < i->p j = false)->step (P i) = some (if p i then .stop (g i) else .more (P (i + 1))))
 (he:(∀ j,j < N->p j = false)->step (P N) = some (.stop b)) (hF:N < F):
 ((∀ i,i < N->p i = false)/\iter step F (P 0) = some b)\/∃ i,i < N/\p i = true/\(∀ j,j < i->p j = false)/\iter step F (P 0) = some (g i):=by
 by_cases h:∀ i,i < N->p i = false
 ·left
  refine ⟨h,iter_count P N (fun i hi=>?_) (he h) hF⟩
  rw [hs i hi (fun j hj=>h j (by omega)),if_neg (by rw [h i hi];decide)]
 ·right
  have hx:∃ i,i < N/\p i = true/\∀ j,j < i->p j = false:=by
   have hf:(List.range N).findIdx p < N:=by
    have h1:(List.range N).findIdx p<=(List.range N).length:=List.findIdx_le_length
    rw [List.length_range] at h1
    rcases Nat.lt_or_ge ((List.range N).findIdx p) N with h2 | h2
    ·exact h2
    ·exfalso
     apply h
     have e:(List.range N).findIdx p = (List.range N).length:=by rw [List.length_range];omega
     intro i hi
     exact (List.findIdx_eq_length.1 e) i (by simpa using hi)
   refine ⟨(List.range N).findIdx p,hf,?_,fun j hj=>?_⟩
   ·have:=List.findIdx_getElem (p:=p) (xs:=List.range N) (w:=by simpa using hf)
    simpa using this
   ·have:=List.not_of_lt_findIdx hj
    simpa using this
  obtain ⟨i,hi,h1,h2⟩:=hx
  refine ⟨i,hi,h1,h2,iter_count P i (fun j hj=>?_) ?_ (by omega)⟩
  ·rw [hs j (by omega) (fun q hq=>h2 q (by omega)),if_neg (by rw [h2 j hj];decide)]
  ·rw [hs i hi h2,if_pos h1]
def sm:Nat->(Nat->Int)->Int
 | 0,_=>0
 | k + 1,f=>sm k f + f k
theorem sm_succ (k:Nat) (f:Nat->Int):sm (k + 1) f = sm k f + f k:=rfl
theorem sm_bound {f:Nat->Int} {B:Int}:∀ {k:Nat},(∀ i,i < k->0<=f i/\f i<=B)->0<=sm k f/\sm k f<=B * k
 | 0,_=>by simp [sm]
 | k + 1,h=>by
  have h1:=sm_bound (k:=k) (fun i hi=>h i (by omega))
  have h2:=h k (by omega)
  rw [sm_succ,Int.natCast_add,Int.mul_add]
  simp only [Int.natCast_one,Int.mul_one]
  omega
theorem sm_mono {f:Nat->Int} {j:Nat}:∀ {k:Nat},(∀ i,i < k->0<=f i)->j<=k->sm j f<=sm k f
 | 0,_,h=>by rw [show j = 0 from by omega];exact Int.le_refl _
 | k + 1,h,hj=>by
  by_cases e:j = k + 1
  ·subst e;exact Int.le_refl _
  ·have:=sm_mono (k:=k) (fun i hi=>h i (by omega)) (by omega:j<=k);have:=h k (by omega);rw [sm_succ];omega
end Go.Am
namespace Go.Proofs.YtkhokgkgloligaaDoor
open Go.Am
def tickE (l:List Int):Int:=if 8 < l.length then 2 else if l.any (fun x=>decide (x < 0) || decide (x > 100)) then 1 else 0
theorem tickE_ok {l:List Int} (h:tickE l = 0):l.length<=8/\∀ x∈l,0<=x/\x<=100:=by
 unfold tickE at h
 split at h
 ·cases h
 ·split at h
  ·cases h
  ·rename_i h1 h2
   refine ⟨by omega,fun x hx=>?_⟩
   have:¬ (x < 0\/x > 100):=fun hc=>h2 (List.any_eq_true.2 ⟨x,hx,by simpa using hc⟩)
   omega
theorem tickCheck_eq (F:Nat) (l:List Int) (hF:10<=F):F74 F l = some (tickE l):=by
 unfold F74 tickE
 by_cases h:8 < l.length
 ·rw [if_pos (decide_eq_true (by omega)),if_pos h]
 ·rw [if_neg (by rw [decide_eq_true_eq];omega),if_neg h]
  rw [any_loop (step:=F74_l0 F l) l (fun x=>decide (x < 0) || decide (x > 100)) 1 ?_ ?_ (by omega)]
  ·cases l.any (fun x=>decide (x < 0) || decide (x > 100)) <;> rfl
  ·intro i hi
   unfold F74_l0
   rw [if_pos (decide_eq_true (by omega)),at?_in hi,w64 (by omega) (by omega)]
   simp only [Option.bind_some]
   split <;> simp_all
  ·unfold F74_l0
   rw [if_neg (by rw [decide_eq_true_eq];omega)]
open Go.Am
theorem tick_rng {l:List Int} (h:tickE l = 0):l.length<=8/\∀ i,i < l.length->0<=nx 0 l i/\nx 0 l i<=100:=by
 obtain ⟨a,b⟩:=tickE_ok h
 exact ⟨a,fun i hi=>b _ (nx_mem hi)⟩
theorem tick_sm {l:List Int} (h:tickE l = 0):∀ k,k<=l.length->0<=sm k (nx 0 l)/\sm k (nx 0 l)<=800:=by
 obtain ⟨a,b⟩:=tick_rng h
 intro k hk
 have:=sm_bound (f:=nx 0 l) (k:=k) (B:=100) fun i hi=>b i (by omega)
 omega
theorem sumLoop (F:Nat) (l:List Int) (h:tickE l = 0) (hF:20<=F) (step:Int × Int->Option (Stp (Int × Int) Int))
 (hs:∀ s:Int × Int,step s = if (decide (s.2 < (l.length:Int))) then ((at? l s.2).bind fun x12=>some (.more (((wrapA .i64 (s.1 + x12)),(wrapA .i64 (s.2 + 1)))))) else some (.stop s.1)):iter step F (0,0) = some (sm l.length (nx 0 l)):=by
 obtain ⟨a,b⟩:=tick_rng h
 refine iter_count (step:=step) (fun i=>(sm i (nx 0 l),(i:Int))) l.length ?_ ?_ (by omega)
 ·intro i hi
  have h1:=tick_sm h i (by omega)
  have h2:=b i hi
  rw [hs]
  simp only
  rw [if_pos (decide_eq_true (by omega)),nx_get (d:=0) hi,Option.bind_some,w64 (by omega) (by omega),wsuc (by omega)]
  rfl
 ·rw [hs]
  simp only
  rw [if_neg (by simp)]
theorem all_eq (F:Nat) (l:List Int) (h:tickE l = 0) (hF:20<=F):F73 F l = some (sm l.length (nx 0 l),0):=by
 unfold F73
 rw [tickCheck_eq F l (by omega),h,Option.bind_some,if_neg (by simp),sumLoop F l h hF (F73_l0 F l) (fun s=>rfl)]
 rfl
def RowOk (l A:List Int) (k:Nat):Prop:=(A.length:Int) = sm k (nx 0 l)/\∀ j,j < k->∀ p:Nat,sm j (nx 0 l)<=p->(p:Int) < sm (j + 1) (nx 0 l)->A[p]? = some (j:Int)
theorem row_eq (F:Nat) (l:List Int) (h:tickE l = 0) (hF:200<=F):∃ A,iter (F16_l1 F l) F ([],0) = some A/\RowOk l A l.length:=by
 obtain ⟨a,b⟩:=tick_rng h
 refine iter_inv (step:=F16_l1 F l) (I:=fun s=>∃ k:Nat,s.2 = (k:Int)/\k<=l.length/\RowOk l s.1 k) (μ:=fun s=>l.length - s.2.toNat) (Q:=fun A=>RowOk l A l.length) ?_ F ([],0) ⟨0,rfl,by omega,by simp [sm],by omega⟩ (by simp only;omega)
 rintro ⟨A,k_⟩ ⟨k,rfl,hk,hA⟩
 simp only at hA
 unfold F16_l1
 simp only
 by_cases hlt:k < l.length
 ·left
  have hx:=b k hlt
  have hs:=tick_sm h k hk
  have hs2:=tick_sm h (k + 1) (by omega)
  rw [sm_succ] at hs2
  obtain ⟨c,hc⟩:∃ c:Nat,nx 0 l k = c:=⟨(nx 0 l k).toNat,by omega⟩
  have hin:iter (F16_l0 F (A,(k:Int)) (c:Int)) F (A,0) = some (A ++ List.replicate c (k:Int)):=by
   have:=iter_count (step:=F16_l0 F (A,(k:Int)) (c:Int)) (F:=F) (fun q=>(A ++ List.replicate q (k:Int),(q:Int))) (b:=A ++ List.replicate c (k:Int)) c ?_ ?_ (by omega)
   ·simpa using this
   ·intro q hq
    unfold F16_l0
    simp only
    rw [if_pos (decide_eq_true (by omega)),app?_ok (by have:=hA.1;simp <;> omega),Option.bind_some,wsuc (by omega),List.replicate_succ',List.append_assoc]
   ·unfold F16_l0
    simp only
    rw [if_neg (by simp)]
  rw [if_pos (decide_eq_true (by omega)),nx_get (d:=0) hlt,Option.bind_some,hc,hin,Option.bind_some,wsuc (by omega)]
  refine ⟨_,rfl,⟨k + 1,rfl,hlt,?_,?_⟩,by simp only;omega⟩
  ·simp only [List.length_append,List.length_replicate,sm_succ,hc]
   have:=hA.1;omega
  ·intro j hj p hp1 hp2
   by_cases e:j = k
   ·subst e
    rw [sm_succ,hc] at hp2
    have:=hA.1
    rw [List.getElem?_append_right (by omega),List.getElem?_replicate,if_pos (by omega)]
   ·have h1:=sm_mono (f:=nx 0 l) (j:=j + 1) (k:=k) (fun i hi=>(b i (by omega)).1) (by omega)
    have:=hA.1
    rw [List.getElem?_append_left (by omega)]
    exact hA.2 j (by omega) p hp1 hp2
 ·right
  have e:k = l.length:=by omega
  subst e
  rw [if_neg (by simp)]
  exact ⟨_,rfl,hA⟩
theorem winner_both (F:Nat) (l:List Int) (lot:Int) (h:tickE l = 0) (hF:200<=F):∃ r:Int × Int,F56 F l lot = some r/\F16 F l lot = some r/\(r.2 = 0->∃ k:Nat,r.1 = k/\k < l.length):=by
 obtain ⟨a,b⟩:=tick_rng h
 obtain ⟨A,hA,hlen,hrow⟩:=row_eq F l h hF
 have hs:=tick_sm h l.length (Nat.le_refl _)
 unfold F56 F16
 rw [all_eq F l h (by omega),hA,Option.bind_some,Option.bind_some,if_neg (by simp),hlen]
 by_cases h0:sm l.length (nx 0 l) = 0
 ·have h0':(sm l.length (nx 0 l) == 0) = true:=by simpa using h0
  simp only [if_pos h0']
  exact ⟨_,rfl,rfl,fun h=>by cases h⟩
 ·have h0':¬ (sm l.length (nx 0 l) == 0) = true:=by simpa using h0
  simp only [if_neg h0']
  by_cases hr:lot < 0\/lot ≥ sm l.length (nx 0 l)
  ·have hr':(decide (lot < 0) || decide (lot ≥ sm l.length (nx 0 l))) = true:=by rw [Bool.or_eq_true,decide_eq_true_eq,decide_eq_true_eq];exact hr
   simp only [if_pos hr']
   exact ⟨_,rfl,rfl,fun h=>by cases h⟩
  ·have hr':¬ (decide (lot < 0) || decide (lot ≥ sm l.length (nx 0 l))) = true:=by rw [Bool.or_eq_true,decide_eq_true_eq,decide_eq_true_eq];exact hr
   simp only [if_neg hr']
   rcases seekS (step:=F56_l0 F l) (F:=F) l.length (fun k=>(lot - sm k (nx 0 l),(k:Int))) (fun k=>decide (lot < sm (k + 1) (nx 0 l))) (fun k=>(k:Int)) (0:Int) (by
    intro k hk _
    have h1:=tick_sm h k (by omega)
    have h2:=b k hk
    unfold F56_l0
    simp only
    rw [nx_get (d:=0) hk,Option.bind_some,Option.bind_some,sm_succ]
    by_cases e:lot < sm k (nx 0 l) + nx 0 l k
    ·rw [if_neg (by rw [decide_eq_true_eq];omega),if_pos (decide_eq_true e)]
    ·rw [if_pos (decide_eq_true (by omega)),if_neg (mt of_decide_eq_true e),w64 (by omega) (by omega),wsuc (by omega),Int.sub_sub]) (by
    intro hall
    exfalso
    rcases Nat.eq_zero_or_pos l.length with e | e
    ·rw [e] at h0;exact h0 rfl
    ·have:=hall (l.length - 1) (by omega)
     rw [show l.length - 1 + 1 = l.length from by omega] at this
     simp at this;omega) (by omega) with ⟨h1,_⟩ | ⟨k,hk,h1,h2,h3⟩
   ·exfalso
    rcases Nat.eq_zero_or_pos l.length with e | e
    ·rw [e] at h0;exact h0 rfl
    ·have:=h1 (l.length - 1) (by omega)
     rw [show l.length - 1 + 1 = l.length from by omega] at this
     simp at this;omega
   ·have h3':iter (F56_l0 F l) F (lot,0) = some (k:Int):=by
     rw [<- h3];simp [sm]
    rw [h3',Option.bind_some]
    have hge:sm k (nx 0 l)<=lot:=by
     rcases Nat.eq_zero_or_pos k with e | e
     ·subst e;simp only [sm];omega
     ·have:=h2 (k - 1) (by omega)
      rw [show k - 1 + 1 = k from by omega] at this
      simp at this;omega
    have hat:at? A lot = some (k:Int):=by
     unfold at?
     rw [if_pos (by omega)]
     exact hrow k hk lot.toNat (by omega) (by have:=of_decide_eq_true h1;omega)
    rw [hat,Option.bind_some]
    exact ⟨_,rfl,rfl,fun _=>⟨k,rfl,hk⟩⟩
def lendE (l:List Int) (fr tq n:Int):Int:=
 if fr < 0\/fr ≥ l.length\/tq < 0\/tq ≥ l.length\/n < 0 then 1 else if n > nx 0 l fr.toNat then 4 else if fr≠tq/\nx 0 l tq.toNat + n > 100 then 9 else 0
def lent (l:List Int) (fr tq n:Int):List Int:=(l.set fr.toNat (nx 0 l fr.toNat - n)).set tq.toNat (nx 0 (l.set fr.toNat (nx 0 l fr.toNat - n)) tq.toNat + n)
theorem nx_set (l:List Int) (i j:Nat) (x:Int) (hi:i < l.length):nx 0 (l.set i x) j = if i = j then x else nx 0 l j:=by
 unfold nx
 rw [List.getElem?_set]
 by_cases e:i = j
 ·subst e;simp [hi]
 ·simp [e]
theorem lend_eq (F:Nat) (l:List Int) (fr tq n:Int) (h:tickE l = 0) (hF:20<=F):F81 F l fr tq n = some (if lendE l fr tq n = 0 then lent l fr tq n else [],lendE l fr tq n):=by
 obtain ⟨a,b⟩:=tick_rng h
 unfold F81
 rw [tickCheck_eq F l (by omega),h,Option.bind_some,if_neg (by simp)]
 unfold lendE
 by_cases h1:fr < 0\/fr ≥ l.length\/tq < 0\/tq ≥ l.length\/n < 0
 ·rw [if_pos (by simpa [or_assoc] using h1),if_pos h1,if_neg (by decide)]
 ·rw [if_neg (by simpa [or_assoc] using h1),if_neg h1]
  obtain ⟨f,rfl⟩:∃ f:Nat,fr = f:=⟨fr.toNat,by omega⟩
  obtain ⟨t,rfl⟩:∃ t:Nat,tq = t:=⟨tq.toNat,by omega⟩
  have hf:f < l.length:=by omega
  have ht:t < l.length:=by omega
  have bf:=b f hf
  have bt:=b t ht
  rw [nx_get (d:=0) hf,Option.bind_some,Int.toNat_natCast,Int.toNat_natCast]
  by_cases h2:n > nx 0 l f
  ·rw [if_pos (decide_eq_true h2),if_pos h2,if_neg (by decide)]
  ·rw [if_neg (mt of_decide_eq_true h2),if_neg h2,app?_ok (by simp <;> omega),Option.bind_some,List.nil_append,nx_get (d:=0) hf,Option.bind_some,ck_ok hf,Option.bind_some,w64 (a:=nx 0 l f - n) (by omega) (by omega)]
   have ht':t < (l.set f (nx 0 l f - n)).length:=by simpa using ht
   rw [nx_get (d:=0) ht',Option.bind_some,ck_ok ht',Option.bind_some]
   have hx:nx 0 (l.set f (nx 0 l f - n)) t = if f = t then nx 0 l f - n else nx 0 l t:=nx_set l f t _ hf
   have hxb:0<=nx 0 (l.set f (nx 0 l f - n)) t/\nx 0 (l.set f (nx 0 l f - n)) t<=100:=by rw [hx];split <;> omega
   rw [w64 (a:=nx 0 (l.set f (nx 0 l f - n)) t + n) (by omega) (by omega)]
   have ht'':t < ((l.set f (nx 0 l f - n)).set t (nx 0 (l.set f (nx 0 l f - n)) t + n)).length:=by simpa using ht
   rw [nx_get (d:=0) ht'',Option.bind_some,nx_set _ t t _ ht',if_pos rfl]
   by_cases e:f = t
   ·subst e
    rw [if_pos rfl] at hx
    have hz:(if ((f:Int)≠(f:Int)/\nx 0 l f + n > 100) then (9:Int) else 0) = 0:=if_neg (by simp)
    rw [hz,if_pos rfl,if_neg (by rw [decide_eq_true_eq,hx];omega)]
    rfl
   ·rw [if_neg e] at hx
    by_cases h3:nx 0 l t + n > 100
    ·have hz:(if ((f:Int)≠(t:Int)/\nx 0 l t + n > 100) then (9:Int) else 0) = 9:=if_pos ⟨by omega,h3⟩
     rw [hz,if_pos (by rw [decide_eq_true_eq,hx];exact h3),if_neg (by decide)]
    ·have hz:(if ((f:Int)≠(t:Int)/\nx 0 l t + n > 100) then (9:Int) else 0) = 0:=if_neg (fun q=>h3 q.2)
     rw [hz,if_pos rfl,if_neg (by rw [decide_eq_true_eq,hx];exact h3)]
     rfl
open Go.Am
def nth (p:List Int) (i:Nat):Int:=(p[i]?).getD 0
theorem at?_nth {p:List Int} {i:Nat} (h:i < p.length):at? p (i:Int) = some (nth p i):=by
 rw [at?_in h];simp [nth,h]
theorem nth_mem {p:List Int} {i:Nat} (h:i < p.length):nth p i∈p:=by
 have:nth p i = p[i]:=by simp [nth,h]
 rw [this];exact List.getElem_mem h
def lt (l had:List Int) (k i:Nat):Prop:=nth had k * nth l i < nth had i * nth l k
instance (l had:List Int) (k i:Nat):Decidable (lt l had k i):=inferInstanceAs (Decidable (_ < _))
theorem lt_trans' {a b c x y z:Int} (hx:0 < x) (hy:0 < y) (hz:0 < z) (h1:a * y < b * x) (h2:b * z<=c * y):a * z < c * x:=by
 have e1:a * y * z < b * x * z:=Int.mul_lt_mul_of_pos_right h1 hz
 have e2:b * z * x<=c * y * x:=Int.mul_le_mul_of_nonneg_right h2 (by omega)
 have e3:b * x * z = b * z * x:=by rw [Int.mul_assoc,Int.mul_comm x z,<- Int.mul_assoc]
 have e4:a * y * z = a * z * y:=by rw [Int.mul_assoc,Int.mul_comm y z,<- Int.mul_assoc]
 have e5:c * y * x = c * x * y:=by rw [Int.mul_assoc,Int.mul_comm y x,<- Int.mul_assoc]
 rw [e3,e4] at e1
 rw [e5] at e2
 exact Int.lt_of_mul_lt_mul_right (Int.lt_of_lt_of_le e1 e2) (by omega)
def Best (l had:List Int) (N:Nat) (b:Int):Prop:=(b = -1/\∀ k,k < N->nth l k = 0)\/∃ c:Nat,b = c/\c < N/\0 < nth l c/\∀ k,k < N->0 < nth l k->¬ lt l had k c/\(k < c->lt l had c k)
def bestC (l had:List Int):Nat->Int
 | 0=>-1
 | i + 1=>if 0 < nth l i/\(bestC l had i < 0\/lt l had i (bestC l had i).toNat) then (i:Int) else bestC l had i
theorem bestC_ok (l had:List Int) (hp:∀ x∈l,0<=x):∀ N,N<=l.length->Best l had N (bestC l had N)
 | 0,_=>.inl ⟨rfl,by omega⟩
 | N + 1,hN=>by
  have h0:=hp _ (nth_mem (show N < l.length by omega))
  rcases bestC_ok l had hp N (by omega) with ⟨h1,h2⟩ | ⟨c,h1,h2,h3,h4⟩
  ·simp only [bestC]
   by_cases hx:0 < nth l N
   ·rw [if_pos ⟨hx,.inl (by omega)⟩]
    refine .inr ⟨N,rfl,by omega,hx,fun k hk hk2=>?_⟩
    by_cases e:k = N
    ·subst e;exact ⟨by simp [lt],by omega⟩
    ·rw [h2 k (by omega)] at hk2;omega
   ·rw [if_neg (by omega)]
    refine .inl ⟨h1,fun k hk=>?_⟩
    by_cases e:k = N
    ·subst e;omega
    ·exact h2 k (by omega)
  ·have hc:(bestC l had N).toNat = c:=by omega
   simp only [bestC]
   rw [hc]
   by_cases hx:0 < nth l N/\lt l had N c
   ·rw [if_pos ⟨hx.1,.inr hx.2⟩]
    refine .inr ⟨N,rfl,by omega,hx.1,fun k hk hk2=>?_⟩
    by_cases e:k = N
    ·subst e;exact ⟨by simp [lt],by omega⟩
    ·have ⟨q1,q2⟩:=h4 k (by omega) hk2
     have q:lt l had N k:=by
      unfold lt at q1 hx ⊢
      exact lt_trans' hx.1 h3 hk2 hx.2 (by omega)
     refine ⟨?_,fun _=>q⟩
     unfold lt at q ⊢;omega
   ·rw [if_neg (by intro hc2;rcases hc2.2 with h | h;(· omega);exact hx ⟨hc2.1,h⟩)]
    refine .inr ⟨c,h1,by omega,h3,fun k hk hk2=>?_⟩
    by_cases e:k = N
    ·subst e
     exact ⟨fun h=>hx ⟨hk2,h⟩,by omega⟩
    ·exact h4 k (by omega) hk2
structure Good (l had:List Int) (B:Int):Prop where
 len:had.length = l.length
 len8:l.length<=8
 l0:∀ x∈l,0<=x/\x<=100
 h0:∀ x∈had,0<=x/\x<=B
 hB:B<=1000000000
theorem Good.prod {l had:List Int} {B:Int} (g:Good l had B) {i k:Nat} (hi:i < l.length) (hk:k < l.length):0<=nth had i * nth l k/\nth had i * nth l k<=100000000000:=by
 have h1:=g.l0 _ (nth_mem hk)
 have h2:=g.h0 _ (nth_mem (p:=had) (i:=i) (by rw [g.len];exact hi))
 have h3:=g.hB
 refine ⟨Int.mul_nonneg h2.1 h1.1,?_⟩
 have:=Int.mul_le_mul (a:=nth had i) (b:=nth l k) (c:=1000000000) (d:=100) (by omega) h1.2 h1.1 (by omega)
 omega
theorem next_eq (F:Nat) (l had:List Int) (B:Int) (g:Good l had B) (hF:10<=F):F75 F l had = some (bestC l had l.length):=by
 have hp:∀ x∈l,0<=x:=fun x hx=>(g.l0 x hx).1
 have h8:=g.len8
 unfold F75
 have:=iter_count (step:=F75_l0 F l had) (F:=F) (fun i=>(bestC l had i,(i:Int))) (b:=bestC l had l.length) l.length ?_ ?_ (by omega)
 ·rw [show ((-1:Int),(0:Int)) = (bestC l had 0,((0:Nat):Int)) from rfl,this];rfl
 ·intro i hi
  unfold F75_l0
  simp only
  rw [if_pos (decide_eq_true (by omega)),at?_nth hi]
  simp only [Option.bind_some,bestC]
  rw [w64 (by omega) (by omega)]
  by_cases hx:0 < nth l i
  ·rw [if_pos (decide_eq_true (by omega))]
   rcases bestC_ok l had hp i (by omega) with ⟨h1,h2⟩ | ⟨c,h1,h2,h3,h4⟩
   ·rw [if_pos (decide_eq_true (by omega)),if_pos ⟨hx,.inl (by omega)⟩];rfl
   ·rw [h1,if_neg (by rw [decide_eq_true_eq];omega),at?_nth (by rw [g.len];exact hi),at?_nth (by omega),at?_nth (by rw [g.len];omega)]
    simp only [Option.bind_some]
    have p1:=g.prod (i:=i) (k:=c) hi (by omega)
    have p2:=g.prod (i:=c) (k:=i) (by omega) hi
    rw [w64 (by omega) (by omega),w64 (by omega) (by omega)]
    by_cases hc:lt l had i c
    ·rw [if_pos (by simpa [lt] using hc),if_pos ⟨hx,.inr (by simpa using hc)⟩];rfl
    ·rw [if_neg (by simpa [lt] using hc),if_neg (by intro hq;rcases hq.2 with h | h;(· omega);exact hc (by simpa using h))];rfl
  ·rw [if_neg (by simpa using hx),if_neg (by omega)];rfl
 ·unfold F75_l0
  simp only
  rw [if_neg (by rw [decide_eq_true_eq];omega)]
def bad (l had:List Int) (i k:Nat):Bool:=decide (0 < nth l k) && (decide (lt l had k i) || (decide (k < i) && decide (nth had k * nth l i = nth had i * nth l k)))
theorem refIn_eq (F:Nat) (l had:List Int) (B:Int) (g:Good l had B) (hF:10<=F) (i:Nat) (hi:i < l.length):iter (F19_l0 F l had (i:Int)) F (true,0) = some ((List.range l.length).all fun k=>!bad l had i k):=by
 have h8:=g.len8
 refine iter_count (step:=F19_l0 F l had (i:Int)) (fun k=>((List.range k).all (fun k=>!bad l had i k),(k:Int))) l.length ?_ ?_ (by omega)
 ·intro k hk
  unfold F19_l0
  simp only
  have p1:=g.prod (i:=k) (k:=i) hk hi
  have p2:=g.prod (i:=i) (k:=k) hi hk
  rw [if_pos (decide_eq_true (by omega)),at?_nth hk,at?_nth (by rw [g.len];exact hk),at?_nth hi,at?_nth (by rw [g.len];exact hi)]
  simp only [Option.bind_some]
  rw [w64 (by omega) (by omega),w64 (by omega) (by omega),w64 (by omega) (by omega),List.range_succ,List.all_append]
  by_cases hx:0 < nth l k
  ·rw [if_pos (decide_eq_true (by omega))]
   by_cases h1:lt l had k i
   ·have e:bad l had i k = true:=by simp [bad,hx,h1]
    rw [if_pos (by simpa [lt] using h1)]
    simp [e]
   ·rw [if_neg (by simpa [lt] using h1)]
    by_cases h2:k < i
    ·rw [if_pos (decide_eq_true (by omega))]
     by_cases h3:nth had k * nth l i = nth had i * nth l k
     ·have e:bad l had i k = true:=by simp [bad,hx,h2,h3]
      simp [e,h3]
     ·have e:bad l had i k = false:=by simp [bad,h1,h3]
      simp [e,h3]
    ·have e:bad l had i k = false:=by simp [bad,h1,h2]
     rw [if_neg (by rw [decide_eq_true_eq];omega)]
     simp [e]
  ·have e:bad l had i k = false:=by simp [bad,hx]
   rw [if_neg (by simpa using hx)]
   simp [e]
 ·unfold F19_l0
  simp only
  rw [if_neg (by rw [decide_eq_true_eq];omega)]
theorem nextOf_eq (F:Nat) (l had:List Int) (B:Int) (g:Good l had B) (hF:10<=F):F19 F l had = some (bestC l had l.length):=by
 have h8:=g.len8
 have hp:∀ x∈l,0<=x:=fun x hx=>(g.l0 x hx).1
 have hs:∀ i:Nat,i < l.length->F19_l1 F l had (i:Int) = some (if (decide (nth l i≠0) && (List.range l.length).all fun k=>!bad l had i k) then .stop (.inr (i:Int)) else .more ((i + 1:Nat):Int)):=by
  intro i hi
  unfold F19_l1
  rw [if_pos (decide_eq_true (by omega)),at?_nth hi]
  simp only [Option.bind_some]
  rw [w64 (by omega) (by omega),refIn_eq F l had B g hF i hi]
  simp only [Option.bind_some]
  by_cases h:nth l i = 0
  ·simp [h]
  ·rw [if_neg (by simpa using h)]
   cases (List.range l.length).all fun k=>!bad l had i k <;> simp [h]
 have he:F19_l1 F l had (l.length:Int) = some (.stop (.inl ())):=by
  unfold F19_l1
  rw [if_neg (by rw [decide_eq_true_eq];omega)]
 have hb:=bestC_ok l had hp l.length (Nat.le_refl _)
 unfold F19
 have notbad:∀ c k,¬ lt l had k c->(k < c->lt l had c k)->bad l had c k = false:=by
  intro c k h1 h2
  simp only [bad,Bool.and_eq_false_iff,Bool.or_eq_false_iff,decide_eq_false_iff_not]
  right
  refine ⟨h1,?_⟩
  by_cases h3:k < c
  ·right
   have:=h2 h3
   unfold lt at this
   omega
  ·left;exact h3
 rcases seek_loop l.length _ (fun i=>(i:Int)) hs he (by omega:l.length < F) with ⟨h1,h2⟩ | ⟨i,hi,h1,h3,h2⟩
 ·rw [h2]
  simp only [Option.bind_some]
  rcases hb with ⟨h4,_⟩ | ⟨c,h4,h5,h6,h7⟩
  ·rw [h4]
  ·exfalso
   have:=h1 c h5
   rw [Bool.and_eq_false_iff] at this
   rcases this with h | h
   ·simp at h;omega
   ·rw [List.all_eq_false] at h
    obtain ⟨k,hk,hk2⟩:=h
    simp only [List.mem_range] at hk
    by_cases hx:0 < nth l k
    ·have:=h7 k hk hx
     rw [notbad c k this.1 this.2] at hk2;simp at hk2
    ·have:bad l had c k = false:=by simp [bad,hx]
     rw [this] at hk2;simp at hk2
 ·rw [h2]
  simp only [Option.bind_some]
  rw [Bool.and_eq_true,List.all_eq_true] at h1
  obtain ⟨h8',h9⟩:=h1
  have h8':0 < nth l i:=by
   have:=hp _ (nth_mem hi)
   simp at h8';omega
  rcases hb with ⟨h4,h5⟩ | ⟨c,h4,h5,h6,h7⟩
  ·rw [h5 i hi] at h8';omega
  ·rw [h4]
   have hc:=h9 c (by simpa using h5)
   have hi':=h7 i hi h8'
   by_cases e:i = c
   ·rw [e]
   ·exfalso
    have hbad:bad l had i c = true:=by
     simp only [bad,Bool.and_eq_true,Bool.or_eq_true,decide_eq_true_eq]
     refine ⟨h6,?_⟩
     by_cases hlt:i < c
     ·exact .inl (hi'.2 hlt)
     ·by_cases h10:lt l had c i
      ·exact .inl h10
      ·right
       refine ⟨by omega,?_⟩
       have:=hi'.1
       unfold lt at this h10
       omega
    rw [hbad] at hc;cases hc
def hadBad (had:List Int):Bool:=had.any fun x=>decide (x < 0) || decide (x > 1000000000)
def nextR (l had:List Int):Int × Int:=if tickE l≠0 then (0,tickE l) else if had.length≠l.length then (0,3) else if hadBad had = true then (0,1) else if bestC l had l.length < 0 then (0,4) else (bestC l had l.length,0)
theorem hadBad_good {l had:List Int} (h1:tickE l = 0) (h2:had.length = l.length) (h3:¬ hadBad had = true):Good l had 1000000000:=by
 have ⟨a,b⟩:=tickE_ok h1
 refine ⟨h2,a,b,fun x hx=>?_,Int.le_refl _⟩
 have:¬ (x < 0\/x > 1000000000):=fun hc=>h3 (List.any_eq_true.2 ⟨x,hx,by simpa using hc⟩)
 omega
theorem nextR_ok {l had:List Int} (h1:tickE l = 0) (h2:had.length = l.length) (h3:¬ hadBad had = true):nextR l had = if bestC l had l.length < 0 then (0,4) else (bestC l had l.length,0):=by
 unfold nextR;rw [if_neg (by rw [h1];decide),if_neg (by simp [h2]),if_neg h3]
theorem Next_eq (F:Nat) (l had:List Int) (hF:10<=F):F58 F l had = some (nextR l had):=by
 unfold F58 nextR
 rw [tickCheck_eq F l hF]
 simp only [Option.bind_some]
 by_cases h1:tickE l = 0
 ·simp only [h1,bne_self_eq_false,ne_eq,eq_self,not_true_eq_false,Bool.false_eq_true,if_false]
  have ⟨a,b⟩:=tickE_ok h1
  by_cases h2:had.length = l.length
  ·rw [if_neg (by simp [h2]),if_neg (by simp [h2])]
   rw [any_loop (step:=F58_l0 F had) had (fun x=>decide (x < 0) || decide (x > 1000000000)) (0,1) ?_ ?_ (by omega)]
   ·by_cases h3:hadBad had = true
    ·rw [if_pos h3]
     unfold hadBad at h3
     rw [if_pos h3];rfl
    ·have h3':=h3
     unfold hadBad at h3'
     rw [if_neg h3,if_neg h3']
     simp only [Option.bind_some]
     rw [next_eq F l had _ (hadBad_good h1 h2 h3) hF]
     simp only [Option.bind_some]
     by_cases h4:bestC l had l.length < 0
     ·rw [if_pos (by simpa using h4),if_pos h4]
     ·rw [if_neg (by simpa using h4),if_neg h4]
   ·intro i hi
    unfold F58_l0
    rw [if_pos (decide_eq_true (by omega)),at?_in hi,w64 (by omega) (by omega)]
    simp only [Option.bind_some]
    split <;> simp_all
   ·unfold F58_l0
    rw [if_neg (by rw [decide_eq_true_eq];omega)]
  ·rw [if_pos (by simp;omega),if_pos h2]
 ·rw [if_pos (by simpa using h1),if_pos h1]
theorem bestC_range {l had:List Int} {B:Int} (g:Good l had B):bestC l had l.length < 0\/∃ c:Nat,bestC l had l.length = c/\c < l.length:=by
 rcases bestC_ok l had (fun x hx=>(g.l0 x hx).1) l.length (Nat.le_refl _) with ⟨h,_⟩ | ⟨c,h1,h2,_⟩
 ·left;omega
 ·exact .inr ⟨c,h1,h2⟩
end Go.Proofs.YtkhokgkgloligaaDoor
namespace Go.Proofs.YtkhokgkgloligaaDoor.hal
open Go.Am
abbrev Mb:=List UInt8 × Int × Int
abbrev Ln:=List UInt8 × List UInt8 × Int
abbrev nms (M:List Mb):List (List UInt8):=M.map fun x=>x.1
abbrev tks (M:List Mb):List Int:=M.map fun x=>x.2.1
abbrev wns (M:List Mb):List Int:=M.map fun x=>x.2.2
def ixN (N:List (List UInt8)) (s:List UInt8):Int:=if N.findIdx (fun x=>x == s) < N.length then (N.findIdx (fun x=>x == s):Int) else -1
theorem ixN_cases (N:List (List UInt8)) (s:List UInt8):(ixN N s = -1/\s ∉ N)\/∃ i:Nat,ixN N s = i/\∃ h:i < N.length,N[i] = s:=by
 unfold ixN
 by_cases h:N.findIdx (fun x=>x == s) < N.length
 ·rw [if_pos h]
  exact .inr ⟨_,rfl,h,by simpa using List.findIdx_getElem (w:=h)⟩
 ·rw [if_neg h]
  refine .inl ⟨rfl,fun hm=>h ?_⟩
  exact List.findIdx_lt_length.2 ⟨s,hm,by simp⟩
theorem ixN_mem {N:List (List UInt8)} {s:List UInt8} (h:s∈N):∃ i:Nat,ixN N s = i/\∃ h:i < N.length,N[i] = s:=by
 rcases ixN_cases N s with ⟨_,h2⟩ | h2
 ·exact absurd h h2
 ·exact h2
theorem ix_loop {step:Int->Option (Stp Int (Unit ⊕ Int))} {F:Nat} (M:List Mb) (s:List UInt8) (hs:∀ i,(h:i < M.length)->step (i:Int) = some (if (M[i].1 == s) then .stop (.inr (i:Int)) else .more ((i + 1:Nat):Int)))
 (he:step (M.length:Int) = some (.stop (.inl ()))) (hF:M.length < F):(iter step F 0 = some (.inl ())/\ixN (nms M) s = -1)\/∃ i:Nat,iter step F 0 = some (.inr (i:Int))/\ixN (nms M) s = i:=by
 rcases find_loop M (fun x=>x.1 == s) (fun i _=>(i:Int)) hs he hF with ⟨h1,h2⟩ | ⟨i,h,h1,h3,h2⟩
 ·left
  refine ⟨h2,?_⟩
  rcases ixN_cases (nms M) s with ⟨h3,_⟩ | ⟨j,_,hj,h5⟩
  ·exact h3
  ·exfalso
   rw [List.length_map] at hj
   have:=h1 M[j] (List.getElem_mem hj)
   rw [List.getElem_map] at h5
   simp [h5] at this
 ·right
  refine ⟨i,h2,?_⟩
  unfold ixN
  have e:(nms M).findIdx (fun x=>x == s) = i:=by
   rw [List.findIdx_eq (by simpa using h)]
   refine ⟨by rw [List.getElem_map];exact h1,fun j hj=>by rw [List.getElem_map];exact h3 j hj⟩
  rw [e,if_pos (by simpa using h)]
theorem find_eq (F:Nat) (M:List Mb) (L:List Ln) (s:List UInt8) (hF:M.length < F) (hl:M.length<=1000):F60 F (M,L) s = some (ixN (nms M) s):=by
 unfold F60 F76_77
 rcases ix_loop (step:=F76_77_l0 F M s) (F:=F) M s (fun i hi=>by
  unfold F76_77_l0 F77
  rw [if_pos (decide_eq_true (by omega)),at?_in hi,Option.bind_some,Option.bind_some,wsuc (by omega)]
  by_cases q:(M[i].1 == s) = true
  ·rw [if_pos q,if_pos q]
  ·rw [if_neg q,if_neg q]) (by
  unfold F76_77_l0
  rw [if_neg (by simp)]) hF with ⟨h1,h2⟩ | ⟨i,h1,h2⟩
 ·rw [h1,h2];rfl
 ·rw [h1,h2];rfl
theorem at_eq (F:Nat) (M:List Mb) (L:List Ln) (s:List UInt8) (hF:M.length < F) (hl:M.length<=1000):F21 F (M,L) s = some (ixN (nms M) s):=by
 unfold F21 F48_49
 rcases ix_loop (step:=F48_49_l0 F M s) (F:=F) M s (fun i hi=>by
  unfold F48_49_l0 F49
  rw [if_pos (decide_eq_true (by omega)),at?_in hi,Option.bind_some,Option.bind_some,wsuc (by omega)]
  by_cases q:(M[i].1 == s) = true
  ·rw [if_pos q,if_pos q]
  ·rw [if_neg q,if_neg q]) (by
  unfold F48_49_l0
  rw [if_neg (by simp)]) hF with ⟨h1,h2⟩ | ⟨i,h1,h2⟩
 ·rw [h1,h2];rfl
 ·rw [h1,h2];rfl
theorem map_loop {β:Type} (g:Mb->β) {step:List β × Int->Option (Stp (List β × Int) (List β))} {F:Nat} (M:List Mb) (hs:∀ (A:List β) (i:Nat) (h:i < M.length),A.length<=1000->step (A,(i:Int)) = some (.more (A ++ [g M[i]],((i + 1:Nat):Int))))
 (he:∀ A,step (A,(M.length:Int)) = some (.stop A)) (hF:M.length < F) (hl:M.length<=8):iter step F ([],0) = some (M.map g):=by
 have:=iter_count (step:=step) (F:=F) (fun i=>((M.take i).map g,(i:Int))) (b:=M.map g) M.length ?_ ?_ hF
 ·simpa using this
 ·intro i hi
  rw [hs _ i hi (by simp;omega),List.take_add_one,List.getElem?_eq_getElem hi,List.map_append]
  rfl
 ·rw [he,List.take_length]
theorem tickets_eq (F:Nat) (M:List Mb) (L:List Ln) (hF:10<=F) (hl:M.length<=8):F57 F (M,L) = some (tks M):=by
 unfold F57
 rw [map_loop (fun x:Mb=>x.2.1) (step:=F57_l0 F (M,L)) M (fun A i hi hA=>by
  unfold F57_l0
  simp only
  rw [if_pos (decide_eq_true (by omega)),at?_in hi,Option.bind_some,app?_ok (by simp;omega),Option.bind_some,wsuc (by omega)]) (fun A=>by
  unfold F57_l0
  simp only
  rw [if_neg (by simp)]) (by omega) hl,Option.bind_some]
theorem had_eq (F:Nat) (M:List Mb) (L:List Ln) (hF:10<=F) (hl:M.length<=8):iter (F40_l0 F (M,L)) F ([],0) = some (wns M):=
 map_loop (fun x:Mb=>x.2.2) (step:=F40_l0 F (M,L)) M (fun A i hi hA=>by
  unfold F40_l0
  simp only
  rw [if_pos (decide_eq_true (by omega)),at?_in hi,Option.bind_some,app?_ok (by simp;omega),Option.bind_some,wsuc (by omega)]) (fun A=>by
  unfold F40_l0
  simp only
  rw [if_neg (by simp)]) (by omega) hl
theorem lists_eq (F:Nat) (M:List Mb) (L:List Ln) (hF:10<=F) (hl:M.length<=8):F15 F (M,L) = some (tks M,wns M):=by
 unfold F15
 have:=iter_count (step:=F15_l0 F (M,L)) (F:=F) (fun i=>(tks (M.take i),wns (M.take i),(i:Int))) (b:=(tks M,wns M)) M.length ?_ ?_ (by omega)
 ·rw [show (([]:List Int),([]:List Int),(0:Int)) = (tks (M.take 0),wns (M.take 0),((0:Nat):Int)) from by simp,this,Option.bind_some]
 ·intro i hi
  unfold F15_l0
  simp only
  have h1:(tks (M.take i)).length<=8:=by simp;omega
  have h2:(wns (M.take i)).length<=8:=by simp;omega
  rw [if_pos (decide_eq_true (by omega)),at?_in hi,Option.bind_some,app?_ok (by simp;omega),Option.bind_some,app?_ok (by simp;omega),Option.bind_some,wsuc (by omega),List.take_add_one,List.getElem?_eq_getElem hi]
  simp only [tks,wns,List.map_append]
  rfl
 ·unfold F15_l0
  simp only
  rw [if_neg (by simp),List.take_length]
def inAZ (c:UInt8):Bool:=decide (97<=c.toNat) && decide (c.toNat<=122)
def nmd (s:List UInt8):Bool:=decide (0 < s.length) && decide (s.length<=12) && s.all inAZ
theorem named_eq (F:Nat) (s:List UInt8) (hF:s.length < F) (hl:s.length<=9223372036854775807):F59 F s = some (nmd s):=by
 unfold F59
 have hb:bytes? s = some (s.map fun b=>(b.toNat:Int)):=if_pos (by omega)
 rw [hb,Option.bind_some]
 have:=any_loop (step:=F59_l0 F (s.map fun b=>(b.toNat:Int))) (F:=F) (s.map fun b=>(b.toNat:Int)) (fun x=>decide (x < 97) || decide (x > 122)) false (fun i hi=>by
  unfold F59_l0
  rw [List.length_map] at hi
  rw [if_pos (decide_eq_true (by rw [List.length_map];omega)),at?_in (by rw [List.length_map];exact hi),Option.bind_some,wsuc (by omega)]
  split <;> simp_all) (by
  unfold F59_l0
  rw [if_neg (by simp)]) (by rw [List.length_map];exact hF)
 rw [this,Option.bind_some]
 have e:(s.map fun b=>(b.toNat:Int)).any (fun x=>decide (x < 97) || decide (x > 122)) = !(s.all inAZ):=by
  clear this hb hF hl
  induction s with
  | nil=>rfl
  | cons b r ih=>
   rw [List.map_cons,List.any_cons,List.all_cons,ih,Bool.not_and]
   congr 1
   unfold inAZ
   rw [Bool.not_and,<- decide_not,<- decide_not]
   congr 1
   ·exact decide_eq_decide.2 (by omega)
   ·exact decide_eq_decide.2 (by omega)
 rw [e]
 unfold nmd
 by_cases h:s.all inAZ = true
 ·rw [h]
  simp only [Bool.not_true,Bool.false_eq_true,if_false,Bool.and_true]
  congr 2
  ·exact decide_eq_decide.2 (by omega)
  ·exact decide_eq_decide.2 (by omega)
 ·have h:s.all inAZ = false:=by simpa using h
  rw [h]
  simp
def azTab (i:Nat):List Bool:=tb 256 fun k=>decide (97<=k) && decide (k < 97 + i)
theorem az_lit:∀ i,i < 26->([97,98,99,100,101,102,103,104,105,106,107,108,109,110,111,112,113,114,115,116,117,118,119,120,121,122]:List UInt8)[i]? = some (UInt8.ofNat (97 + i)):=by decide
theorem az_zero:List.replicate 256 false = azTab 0:=by
 have e:∀ v:Bool,List.replicate 256 v = tb 256 fun _=>v:=fun v=>tb_rep 256 v
 rw [e]
 unfold azTab
 refine tb_congr fun k hk=>?_
 by_cases h:97<=k
 ·rw [decide_eq_false (by omega:¬ k < 97 + 0)];simp
 ·rw [decide_eq_false h];rfl
theorem az_set (F:Nat) (hF:100<=F):F68 F ([97,98,99,100,101,102,103,104,105,106,107,108,109,110,111,112,113,114,115,116,117,118,119,120,121,122]) = some (azTab 26,true):=by
 unfold F68
 have:=iter_count (step:=F68_l0 F ([97,98,99,100,101,102,103,104,105,106,107,108,109,110,111,112,113,114,115,116,117,118,119,120,121,122])) (F:=F) (fun i=>((i:Int),azTab i)) (b:=.inl (azTab 26)) 26 ?_ ?_ (by omega)
 ·rw [az_zero]
  have e:((0:Int),azTab 0) = (((0:Nat):Int),azTab 0):=by rw [Int.natCast_zero]
  rw [e,this,Option.bind_some]
 ·intro i hi
  unfold F68_l0
  simp only
  have hc:(UInt8.ofNat (97 + i)).toNat = 97 + i:=by
   rw [UInt8.toNat_ofNat'];omega
  have hat:at? ([97,98,99,100,101,102,103,104,105,106,107,108,109,110,111,112,113,114,115,116,117,118,119,120,121,122]:List UInt8) (i:Int) = some (UInt8.ofNat (97 + i)):=by
   unfold at?
   rw [if_pos (by omega),Int.toNat_natCast]
   exact az_lit i hi
  rw [if_pos (decide_eq_true (by simp;omega)),hat,Option.bind_some,hc,if_neg (by rw [decide_eq_true_eq];omega),show ck (azTab i) ((97 + i:Nat):Int) = some () from tb_ck (by omega),Option.bind_some,Int.toNat_natCast,wsuc (by omega)]
  congr 3
  unfold azTab
  rw [tb_set]
  refine tb_congr fun k hk=>?_
  by_cases e:k = 97 + i
  ·rw [if_pos e,decide_eq_true (by omega),decide_eq_true (by omega)];rfl
  ·rw [if_neg e]
   congr 1
   exact decide_eq_decide.2 (by omega)
 ·unfold F68_l0
  simp only
  rw [if_neg (by simp)]
theorem az_has (F:Nat) (c:UInt8):F83 F (azTab 26) (c.toNat:Int) = some (inAZ c):=by
 unfold F83
 have:=c.toNat_lt
 rw [show at? (azTab 26) (c.toNat:Int) = some _ from tb_get (by omega),Option.bind_some]
 unfold inAZ
 congr 2
 exact decide_eq_decide.2 (by omega)
theorem trimR_eq (F:Nat) (s:List UInt8) (hF:100<=F) (hl:s.length<=12):∃ b,F70 F s (azTab 26) = some b/\b.length<=12/\((b = []/\s.all inAZ = true)\/((∃ x∈b,inAZ x = false)/\s.all inAZ = false)):=by
 unfold F70
 obtain ⟨b,hb,hQ⟩:=iter_inv (step:=F70_l0 F (azTab 26)) (I:=fun u=>∃ j,j<=s.length/\u = s.take j/\(s.drop j).all inAZ = true) (μ:=fun u=>u.length)
  (Q:=fun b=>b.length<=12/\((b = []/\s.all inAZ = true)\/((∃ x∈b,inAZ x = false)/\s.all inAZ = false))) (by
    rintro _ ⟨j,hj,rfl,ha⟩
    unfold F70_l0
    have hlen:(s.take j).length = j:=by rw [List.length_take];omega
    by_cases h0:0 < j
    ·obtain ⟨j,rfl⟩:∃ q,j = q + 1:=⟨j - 1,by omega⟩
     have hlast:(s.take (j + 1))[j]'(by omega) = s[j]:=List.getElem_take
     rw [if_pos (decide_eq_true (by omega)),hlen,wpred (by omega) (by omega),show j + 1 - 1 = j from rfl,at?_in (by omega:j < (s.take (j + 1)).length),Option.bind_some,hlast,az_has,Option.bind_some]
     by_cases q:inAZ s[j] = true
     ·left
      rw [q,if_neg (by decide),sub?_to (by omega:j<=(s.take (j + 1)).length),Option.bind_some]
      refine ⟨_,rfl,⟨j,by omega,by rw [List.take_take,Nat.min_eq_left (by omega)],?_⟩,by rw [List.take_take,Nat.min_eq_left (by omega),List.length_take];omega⟩
      rw [List.drop_eq_getElem_cons (by omega:j < s.length),List.all_cons,q,ha];rfl
     ·right
      have q:inAZ s[j] = false:=by simpa using q
      rw [q,if_pos (by decide)]
      refine ⟨_,rfl,by omega,.inr ⟨⟨s[j],by rw [<- hlast];exact List.getElem_mem _,q⟩,?_⟩⟩
      rw [List.all_eq_false]
      exact ⟨s[j],List.getElem_mem _,by rw [q];decide⟩
    ·right
     have:j = 0:=by omega
     subst this
     rw [List.take_zero,if_neg (by simp)]
     exact ⟨_,rfl,by simp,.inl ⟨rfl,by simpa using ha⟩⟩) F s ⟨s.length,Nat.le_refl _,by rw [List.take_length],by rw [List.drop_length];rfl⟩ (by omega)
 rw [hb,Option.bind_some]
 exact ⟨b,rfl,hQ⟩
theorem trimL_eq (F:Nat) (s:List UInt8) (hF:100<=F) (hl:s.length<=12):∃ b,F69 F s (azTab 26) = some b/\(s = []->b = [])/\((∃ x∈s,inAZ x = false)->b≠[]):=by
 unfold F69
 obtain ⟨b,hb,hQ⟩:=iter_inv (step:=F69_l0 F (azTab 26)) (I:=fun u=>u.length<=12/\(s = []->u = [])/\((∃ x∈s,inAZ x = false)->∃ x∈u,inAZ x = false)) (μ:=fun u=>u.length)
  (Q:=fun b=>(s = []->b = [])/\((∃ x∈s,inAZ x = false)->b≠[])) (by
    rintro u ⟨h1,h2,h3⟩
    unfold F69_l0
    cases u with
    | nil=>
     right
     rw [if_neg (by simp)]
     exact ⟨_,rfl,(fun _=>rfl),(fun h=>by obtain ⟨x,hx,_⟩:=h3 h;simp at hx)⟩
    | cons c r=>
     have hat:at? (c :: r) 0 = some c:=rfl
     rw [if_pos (decide_eq_true (by simp only [List.length_cons];omega)),hat,Option.bind_some,az_has,Option.bind_some]
     by_cases q:inAZ c = true
     ·left
      have hsub:sub? (c :: r) 1 ((c :: r).length:Int) = some r:=by
       rw [show (1:Int) = ((1:Nat):Int) from rfl,sub?_from (by simp)];rfl
      rw [q,if_neg (by decide),hsub,Option.bind_some]
      refine ⟨r,rfl,⟨by simp at h1;omega,(fun h=>by have:=h2 h;cases this),(fun h=>?_)⟩,by simp⟩
      obtain ⟨x,hx,hq⟩:=h3 h
      rcases List.mem_cons.1 hx with rfl | hx
      ·rw [q] at hq;cases hq
      ·exact ⟨x,hx,hq⟩
     ·right
      have q:inAZ c = false:=by simpa using q
      rw [q,if_pos (by decide)]
      exact ⟨_,rfl,(fun h=>by have:=h2 h;cases this),(fun _=>by simp)⟩) F s ⟨hl,fun h=>h,fun h=>h⟩ (by omega)
 rw [hb,Option.bind_some]
 exact ⟨b,rfl,hQ⟩
theorem Named_eq (F:Nat) (s:List UInt8) (hF:100<=F):F20 F s = some (nmd s):=by
 unfold F20 nmd
 by_cases h0:s = []
 ·subst h0;rfl
 ·have hpos:0 < s.length:=List.length_pos_iff.2 h0
  by_cases h1:s.length<=12
  ·have e0:(s == []) = false:=by simpa using h0
   rw [e0,if_pos (by simp;omega),decide_eq_true hpos,decide_eq_true h1]
   unfold F47
   rw [e0,if_neg (by simp),if_neg (by simp),Option.bind_some,if_neg (by simp),az_set F hF,Option.bind_some,show ckN? 256 (azTab 26) = some () from if_pos (tb_len _ _),Option.bind_some,if_pos rfl]
   obtain ⟨b,b1,b2,b3⟩:=trimR_eq F s hF h1
   obtain ⟨c,c1,c2,c3⟩:=trimL_eq F b hF b2
   rw [b1,Option.bind_some,c1,Option.bind_some,Option.bind_some,Option.bind_some]
   rcases b3 with ⟨q1,q2⟩ | ⟨q1,q2⟩
   ·rw [c2 q1,q2];rfl
   ·have:=c3 q1
    rw [q2]
    have e:(c == []) = false:=by simpa using this
    rw [e];rfl
  ·rw [if_neg (by simp;omega),decide_eq_false h1]
   simp
open Go.Am
abbrev z0:Mb:=([],0,0)
structure HI (q:Nat) (M:List Mb) (L:List Ln):Prop where
 len:M.length<=8
 tk:∀ x∈M,0<=x.2.1/\x.2.1<=100
 wn:∀ x∈M,0<=x.2.2/\x.2.2<=(q:Int)
 nd:(nms M).Nodup
 ll:L.length<=q
 ln:∀ y∈L,y.1≠y.2.1/\y.1∈nms M/\y.2.1∈nms M/\1<=y.2.2/\y.2.2<=100
theorem HI.up {q:Nat} {M:List Mb} {L:List Ln} (h:HI q M L):HI (q + 1) M L:=
 ⟨h.len,h.tk,fun x hx=>by have:=h.wn x hx;omega,h.nd,by have:=h.ll;omega,h.ln⟩
theorem HI.tick {q:Nat} {M:List Mb} {L:List Ln} (h:HI q M L):tickE (tks M) = 0:=by
 unfold tickE
 rw [if_neg (by rw [List.length_map];have:=h.len;omega),if_neg]
 intro hc
 obtain ⟨x,hx,h2⟩:=List.any_eq_true.1 hc
 obtain ⟨y,hy,rfl⟩:=List.mem_map.1 hx
 have:=h.tk y hy
 simp only [Bool.or_eq_true,decide_eq_true_eq] at h2
 omega
theorem nxs {α:Type} {d:α} (l:List α) (i j:Nat) (x:α) (hi:i < l.length):nx d (l.set i x) j = if i = j then x else nx d l j:=by
 unfold nx
 rw [List.getElem?_set]
 by_cases e:i = j
 ·subst e;simp [hi]
 ·simp [e]
theorem nms_set {M:List Mb} {i:Nat} {x:Mb} (h:i < M.length) (e:x.1 = (nx z0 M i).1):nms (M.set i x) = nms M:=by
 have e2:x.1 = (nms M)[i]'(by simpa using h):=by rw [e,nx_eq h,List.getElem_map]
 show (M.set i x).map (fun x=>x.1) = _
 rw [List.map_set,e2,List.set_getElem_self]
theorem HI.set {q:Nat} {M:List Mb} {L:List Ln} (h:HI q M L) {i:Nat} {x:Mb} (hi:i < M.length) (e:x.1 = (nx z0 M i).1) (t:0<=x.2.1/\x.2.1<=100) (w:0<=x.2.2/\x.2.2<=(q:Int)):HI q (M.set i x) L:=by
 refine ⟨by rw [List.length_set];exact h.len,fun y hy=>?_,fun y hy=>?_,by rw [nms_set hi e];exact h.nd,h.ll,fun y hy=>by rw [nms_set hi e];exact h.ln y hy⟩
 ·rcases List.mem_or_eq_of_mem_set hy with hy | rfl
  ·exact h.tk y hy
  ·exact t
 ·rcases List.mem_or_eq_of_mem_set hy with hy | rfl
  ·exact h.wn y hy
  ·exact w
theorem HI.nx {q:Nat} {M:List Mb} {L:List Ln} (h:HI q M L) {i:Nat} (hi:i < M.length):(0<=(nx z0 M i).2.1/\(nx z0 M i).2.1<=100)/\0<=(nx z0 M i).2.2/\(nx z0 M i).2.2<=(q:Int):=⟨h.tk _ (nx_mem hi),h.wn _ (nx_mem hi)⟩
theorem tks_nx {M:List Mb} {i:Nat} (hi:i < M.length):nx 0 (tks M) i = (nx z0 M i).2.1:=by
 rw [nx_eq (by simpa using hi),nx_eq hi,List.getElem_map]
theorem wns_nx {M:List Mb} {i:Nat} (hi:i < M.length):nx 0 (wns M) i = (nx z0 M i).2.2:=by
 rw [nx_eq (by simpa using hi),nx_eq hi,List.getElem_map]
def Both (F q:Nat) (M:List Mb) (L:List Ln) (d:Int × Int × List UInt8 × List UInt8):Prop:=
 ∃ (told:List UInt8 × Int) (e:Int) (M':List Mb) (L':List Ln),F40 F (M,L) d = some (told,e,(M',L'))/\F5 F (M,L) d = some ((M',L'),told,e)/\HI (q + 1) M' L'
def wonR (M:List Mb) (i:Nat):Mb:=((nx z0 M i).1,(nx z0 M i).2.1,(nx z0 M i).2.2 + 1)
theorem HI.won {q:Nat} {M:List Mb} {L:List Ln} (h:HI q M L) {i:Nat} (hi:i < M.length):HI (q + 1) (M.set i (wonR M i)) L:=by
 have:=h.nx hi
 exact h.up.set hi rfl this.1 (by simp only [wonR];omega)
theorem won_eq (F:Nat) {q:Nat} {M:List Mb} {L:List Ln} (h:HI q M L) (hq:q<=4000000000000) (i:Nat) (hi:i < M.length):F55 F (M,L) (i:Int) 0 = some (((nx z0 M i).1,(nx z0 M i).2.2 + 1),0,(M.set i (wonR M i),L)):=by
 unfold F55
 have hn:=(h.nx hi).2
 simp only
 rw [if_neg (by decide),nx_get (d:=z0) hi]
 simp only [Option.bind_some]
 rw [w64 (by omega) (by omega),Int.toNat_natCast,nx_get (d:=z0) (by rw [List.length_set];exact hi)]
 simp only [Option.bind_some]
 rw [nxs _ _ _ _ hi,if_pos rfl]
 rfl
theorem won_err (F:Nat) (M:List Mb) (L:List Ln) (k e:Int) (he:e≠0):F55 F (M,L) k e = some (([],0),e,(M,L)):=by
 unfold F55
 rw [if_pos (by simpa using he)]
theorem draw_both (F q:Nat) {M:List Mb} {L:List Ln} (h:HI q M L) (hq:q<=3000000000000) (hF:200<=F) (n:Int) (nm tq:List UInt8):Both F q M L (5,n,nm,tq):=by
 obtain ⟨r,r1,r2,r3⟩:=winner_both F (tks M) n h.tick hF
 have hl:=h.len
 have hll:=h.ll
 unfold Both F40 F5 F13 F14
 simp only
 rw [if_pos (by decide),tickets_eq F M L (by omega) hl,Option.bind_some,r1,Option.bind_some,if_pos (by omega),Option.bind_some,if_pos (by omega),Option.bind_some,if_neg (by simp),lists_eq F M L (by omega) hl,Option.bind_some,if_pos (by decide),if_pos (by decide)]
 simp only
 rw [r2]
 simp only [Option.bind_some]
 by_cases h0:r.2 = 0
 ·obtain ⟨k,k1,k2⟩:=r3 h0
  rw [List.length_map] at k2
  have hn:=(h.nx k2).2
  rw [h0,k1,won_eq F h (by omega) k k2,if_neg (by decide),nx_get (d:=z0) k2]
  simp only [Option.bind_some]
  rw [w64 (by omega) (by omega),Int.toNat_natCast,nx_get (d:=z0) (by rw [List.length_set];exact k2)]
  simp only [Option.bind_some]
  rw [nxs _ _ _ _ k2,if_pos rfl]
  exact ⟨_,_,_,_,rfl,rfl,h.won k2⟩
 ·rw [won_err F M L _ _ h0,if_pos (by simpa using h0)]
  exact ⟨_,_,_,_,rfl,rfl,h.up⟩
theorem fair_both (F q:Nat) {M:List Mb} {L:List Ln} (h:HI q M L) (hq:q<=3000000000000) (hF:200<=F) (n:Int) (nm tq:List UInt8):Both F q M L (7,n,nm,tq):=by
 have hl:=h.len
 have hll:=h.ll
 have hlen:(wns M).length = (tks M).length:=by rw [List.length_map,List.length_map]
 unfold Both F40 F5 F13 F14
 simp only
 rw [if_neg (by decide),if_pos (by decide),had_eq F M L (by omega) hl,Option.bind_some,tickets_eq F M L (by omega) hl,Option.bind_some,Next_eq F _ _ (by omega),Option.bind_some,if_pos (by omega),Option.bind_some,if_pos (by omega),Option.bind_some,if_neg (by simp),lists_eq F M L (by omega) hl,Option.bind_some,if_pos (by decide),if_neg (by decide)]
 simp only
 have hc:F17_18 F (wns M) = some (hadBad (wns M)):=by
  have e:hadBad (wns M) = (wns M).any fun x=>decide (x > 1000000000):=by
   unfold hadBad
   rw [Bool.eq_iff_iff,List.any_eq_true,List.any_eq_true]
   constructor
   ·rintro ⟨x,hx,h2⟩
    obtain ⟨y,hy,rfl⟩:=List.mem_map.1 hx
    have:=h.wn y hy
    refine ⟨_,hx,?_⟩
    simp only [Bool.or_eq_true,decide_eq_true_eq] at h2 ⊢
    omega
   ·rintro ⟨x,hx,h2⟩
    exact ⟨x,hx,by rw [h2,Bool.or_true]⟩
  rw [e]
  have hwl:(wns M).length<=8:=by rw [List.length_map];exact hl
  have hs:∀ (i:Nat) (h:i < (wns M).length),F46_18_l0 F (wns M) (i:Int) = some (if (decide ((wns M)[i] > 1000000000)) then .stop (.inr (i:Int)) else .more ((i + 1:Nat):Int)):=by
   intro i hi
   unfold F46_18_l0 F18
   rw [if_pos (decide_eq_true (by omega)),at?_in hi,Option.bind_some,Option.bind_some,wsuc (by omega)]
   exact ite_some _ _
  have he:F46_18_l0 F (wns M) ((wns M).length:Int) = some (.stop (.inl ())):=by
   unfold F46_18_l0
   rw [if_neg (by simp)]
  unfold F17_18 F46_18
  rcases find_loop (wns M) (fun x=>decide (x > 1000000000)) (fun i _=>(i:Int)) hs he (by omega:(wns M).length < F) with ⟨q1,q2⟩ | ⟨i,h,q1,_,q2⟩
  ·rw [q2,any_none q1];rfl
  ·rw [q2,any_of_first h q1];simp
 rw [hc]
 simp only [Option.bind_some]
 by_cases hb:hadBad (wns M) = true
 ·have e:nextR (tks M) (wns M) = (0,1):=by
   unfold nextR
   rw [if_neg (by rw [h.tick];decide),if_neg (by omega),if_pos hb]
  rw [e,if_pos hb,won_err F M L _ _ (by decide)]
  simp only [Option.bind_some]
  rw [if_pos (by decide)]
  exact ⟨_,_,_,_,rfl,rfl,h.up⟩
 ·rw [nextR_ok h.tick hlen hb,if_neg hb]
  have g:=hadBad_good h.tick hlen hb
  rw [nextOf_eq F _ _ _ g (by omega)]
  simp only [Option.bind_some]
  rcases bestC_range g with h1 | ⟨c,c1,c2⟩
  ·rw [if_pos h1,won_err F M L _ _ (by decide),if_pos (by simpa using h1)]
   simp only [Option.bind_some]
   rw [if_pos (by decide)]
   exact ⟨_,_,_,_,rfl,rfl,h.up⟩
  ·rw [List.length_map] at c2
   have hn:=(h.nx c2).2
   rw [c1,if_neg (by omega),if_neg (by rw [decide_eq_true_eq];omega),won_eq F h (by omega) c c2]
   simp only [Option.bind_some]
   rw [if_neg (by decide),nx_get (d:=z0) c2]
   simp only [Option.bind_some]
   rw [w64 (by omega) (by omega),Int.toNat_natCast,nx_get (d:=z0) (by rw [List.length_set];exact c2)]
   simp only [Option.bind_some]
   rw [nxs _ _ _ _ c2,if_pos rfl]
   exact ⟨_,_,_,_,rfl,rfl,h.won c2⟩
open Go.Am
theorem ixN_at {M:List Mb} {s:List UInt8} (h:¬ ixN (nms M) s < 0):∃ i:Nat,ixN (nms M) s = i/\i < M.length/\(nx z0 M i).1 = s:=by
 rcases ixN_cases (nms M) s with ⟨h1,_⟩ | ⟨i,h1,h2,h3⟩
 ·omega
 ·rw [List.length_map] at h2
  refine ⟨i,h1,h2,?_⟩
  rw [nx_eq h2,<- h3,List.getElem_map]
theorem ixN_no {M:List Mb} {s:List UInt8} (h:¬ ixN (nms M) s ≥ 0):s ∉ nms M:=by
 rcases ixN_cases (nms M) s with ⟨_,h1⟩ | ⟨i,h1,_⟩
 ·exact h1
 ·omega
theorem join_both (F q:Nat) {M:List Mb} {L:List Ln} (h:HI q M L) (hq:q<=3000000000000) (hF:200<=F) (n:Int) (nm tq:List UInt8) (hs:nm.length < F) (hs2:nm.length<=9223372036854775807):Both F q M L (1,n,nm,tq):=by
 have hl:=h.len
 have hll:=h.ll
 have cM:(if M.length<=4398046511104 then some M else none) = some M:=if_pos (by omega)
 have cL:(if L.length<=3518437208883 then some L else none) = some L:=if_pos (by omega)
 unfold Both F40 F5 F13 F14
 simp only
 rw [if_neg (by decide),if_neg (by decide),if_pos (by decide),Option.bind_some,if_pos (by decide),named_eq F nm hs hs2,Option.bind_some,cM,Option.bind_some,cL,Option.bind_some,if_neg (by simp:¬ (decide ((1:Int) < 1) || decide ((1:Int) > 7)) = true),lists_eq F M L (by omega) hl,Option.bind_some,if_neg (by decide:¬ ((1:Int) == 5 || (1:Int) == 7) = true),Named_eq F nm (by omega),Option.bind_some]
 by_cases hn:nmd nm = true
 ·rw [hn,if_neg (by decide),if_neg (by decide),find_eq F M L nm (by omega) (by omega),at_eq F M L nm (by omega) (by omega)]
  simp only [Option.bind_some]
  rw [if_pos (by decide),if_pos (by decide)]
  unfold F61
  simp only
  by_cases h1:ixN (nms M) nm ≥ 0
  ·rw [if_pos (decide_eq_true h1),if_pos (decide_eq_true h1)]
   exact ⟨_,_,_,_,rfl,rfl,h.up⟩
  ·have d1:¬ decide (ixN (nms M) nm ≥ 0) = true:=by rw [decide_eq_true_eq];exact h1
   rw [if_neg d1,if_neg d1]
   by_cases h2:(decide (n < 0) || decide (n > 100)) = true
   ·rw [if_pos h2,if_pos h2]
    exact ⟨_,_,_,_,rfl,rfl,h.up⟩
   ·rw [if_neg h2,if_neg h2]
    by_cases h3:M.length = 8
    ·rw [if_pos (by rw [h3];rfl),if_pos (by rw [h3];rfl)]
     exact ⟨_,_,_,_,rfl,rfl,h.up⟩
    ·rw [if_neg (by rw [beq_iff_eq];omega:¬ ((M.length:Int) == 8) = true),if_neg (by rw [decide_eq_true_eq];omega:¬ decide ((M.length:Int) ≥ 8) = true),appB?_ok (by simp only [List.length_cons,List.length_nil];omega)]
     simp only [Option.bind_some]
     have h2:0<=n/\n<=100:=by
      simp only [Bool.or_eq_true,decide_eq_true_eq] at h2;omega
     refine ⟨_,_,_,_,rfl,rfl,?_,?_,?_,?_,?_,?_⟩
     ·rw [List.length_append];simp only [List.length_cons,List.length_nil];omega
     ·intro x hx
      rcases List.mem_append.1 hx with hx | hx
      ·exact h.tk x hx
      ·rw [List.mem_singleton] at hx;subst hx;exact h2
     ·intro x hx
      rcases List.mem_append.1 hx with hx | hx
      ·exact h.up.wn x hx
      ·rw [List.mem_singleton] at hx;subst hx;simp only;omega
     ·rw [nms,List.map_append,List.nodup_append]
      refine ⟨h.nd,by simp,?_⟩
      intro a ha b hb e
      simp only [List.map_cons,List.map_nil,List.mem_singleton] at hb
      subst hb;subst e
      exact ixN_no h1 ha
     ·omega
     ·intro y hy
      have:=h.ln y hy
      rw [nms,List.map_append]
      exact ⟨this.1,List.mem_append_left _ this.2.1,List.mem_append_left _ this.2.2.1,this.2.2.2⟩
 ·have hn:nmd nm = false:=by simpa using hn
  rw [hn,if_pos (by decide),if_pos (by decide)]
  exact ⟨_,_,_,_,rfl,rfl,h.up⟩
theorem leave_loan (F:Nat) (L:List Ln) (s:List UInt8) (hF:L.length < F) (hl:L.length<=9223372036854775806):F78_79 F L s = some (L.any fun y=>y.1 == s || y.2.1 == s):=by
 have hs:∀ (i:Nat) (h:i < L.length),F87_79_l0 F L s (i:Int) = some (if (L[i].1 == s || L[i].2.1 == s) then .stop (.inr (i:Int)) else .more ((i + 1:Nat):Int)):=by
  intro i hi
  unfold F87_79_l0 F79
  rw [if_pos (decide_eq_true (by omega)),at?_in hi,Option.bind_some,Option.bind_some,wsuc (by omega)]
  exact ite_some _ _
 have he:F87_79_l0 F L s (L.length:Int) = some (.stop (.inl ())):=by
  unfold F87_79_l0
  rw [if_neg (by simp)]
 unfold F78_79 F87_79
 rcases find_loop L (fun y=>y.1 == s || y.2.1 == s) (fun i _=>(i:Int)) hs he hF with ⟨q1,q2⟩ | ⟨i,h,q1,_,q2⟩
 ·rw [q2,any_none q1];rfl
 ·rw [q2,any_of_first (p:=fun y:Ln=>y.1 == s || y.2.1 == s) h q1];simp
theorem leave_ref (F:Nat) (M:List Mb) (L:List Ln) (d:Int × Int × List UInt8 × List UInt8) (hF:L.length < F) (hl:L.length<=9223372036854775806):
 iter (F5_l0 F d M L) F (0,[],[],(([],0):(List UInt8) × Int)) = some (if (L.any fun y=>y.1 == d.2.2.1 || y.2.1 == d.2.2.1) then .inr (7,M,L,([],0)) else .inl ([],[],([],0))):=by
 rcases seekS (step:=F5_l0 F d M L) (F:=F) L.length (fun i=>((i:Int),[],[],(([],0):(List UInt8) × Int))) (fun i=>match L[i]? with | some y=>y.1 == d.2.2.1 || y.2.1 == d.2.2.1 | none=>false) (fun _=>.inr (7,M,L,([],0))) (.inl ([],[],([],0))) (by
  intro i hi _
  unfold F5_l0
  simp only
  rw [if_pos (decide_eq_true (by omega)),at?_in hi,Option.bind_some,wsuc (by omega),List.getElem?_eq_getElem hi]
  exact ite_some _ _) (by
  intro _
  unfold F5_l0
  simp only
  rw [if_neg (by simp)]) hF with ⟨h1,h2⟩ | ⟨i,hi,h1,_,h2⟩
 ·rw [Int.natCast_zero] at h2
  rw [h2,any_none,if_neg (by simp)]
  intro x hx
  obtain ⟨i,hi,rfl⟩:=List.getElem_of_mem hx
  have:=h1 i hi
  rwa [List.getElem?_eq_getElem hi] at this
 ·rw [Int.natCast_zero] at h2
  rw [List.getElem?_eq_getElem hi] at h1
  rw [h2,any_of_first (p:=fun y:Ln=>y.1 == d.2.2.1 || y.2.1 == d.2.2.1) hi h1,if_pos rfl]
theorem leave_both (F q:Nat) {M:List Mb} {L:List Ln} (h:HI q M L) (hq:q<=3000000000000) (hF:200<=F) (hFq:q < F) (n:Int) (nm tq:List UInt8) (hs:nm.length < F) (hs2:nm.length<=9223372036854775807):Both F q M L (2,n,nm,tq):=by
 have hl:=h.len
 have hll:=h.ll
 have cM:(if M.length<=4398046511104 then some M else none) = some M:=if_pos (by omega)
 have cL:(if L.length<=3518437208883 then some L else none) = some L:=if_pos (by omega)
 unfold Both F40 F5 F13 F14
 simp only
 rw [if_neg (by decide),if_neg (by decide),if_neg (by decide),if_pos (by decide),Option.bind_some,if_pos (by decide),named_eq F nm hs hs2,Option.bind_some,cM,Option.bind_some,cL,Option.bind_some,if_neg (by simp:¬ (decide ((2:Int) < 1) || decide ((2:Int) > 7)) = true),lists_eq F M L (by omega) hl,Option.bind_some,if_neg (by decide:¬ ((2:Int) == 5 || (2:Int) == 7) = true),Named_eq F nm (by omega),Option.bind_some]
 by_cases hn:nmd nm = true
 ·rw [hn,if_neg (by decide),if_neg (by decide),find_eq F M L nm (by omega) (by omega),at_eq F M L nm (by omega) (by omega)]
  simp only [Option.bind_some,Int.reduceBEq,Bool.false_eq_true,↓reduceIte]
  by_cases h1:ixN (nms M) nm < 0
  ·rw [if_pos (decide_eq_true h1),if_pos (decide_eq_true h1)]
   exact ⟨_,_,_,_,rfl,rfl,h.up⟩
  ·have d1:¬ decide (ixN (nms M) nm < 0) = true:=by rw [decide_eq_true_eq];exact h1
   rw [if_neg d1,if_neg d1]
   obtain ⟨i,i1,i2,i3⟩:=ixN_at h1
   rw [i1]
   unfold F62 F80
   simp only
   rw [nx_get (d:=z0) i2,Option.bind_some,i3,leave_loan F L nm (by omega) (by omega),leave_ref F M L _ (by omega) (by omega)]
   simp only [Option.bind_some]
   by_cases h2:(L.any fun y=>y.1 == nm || y.2.1 == nm) = true
   ·rw [if_pos h2,if_pos h2]
    exact ⟨_,_,_,_,rfl,rfl,h.up⟩
   ·rw [if_neg h2,if_neg h2,if_pos (by omega),wsuc (by omega)]
    simp only
    rw [sub?_to (by omega),sub?_from (by omega)]
    simp only [Option.bind_some]
    rw [appB?_ok (by rw [List.length_take,List.length_drop];omega)]
    unfold delB?
    rw [if_pos (by omega),Int.toNat_natCast,Int.toNat_natCast]
    simp only [Option.bind_some]
    have hm:∀ x∈M.take i ++ M.drop (i + 1),x∈M:=by
     intro x hx
     rcases List.mem_append.1 hx with hx | hx
     ·exact List.mem_of_mem_take hx
     ·exact List.mem_of_mem_drop hx
    have hsub:List.Sublist (M.take i ++ M.drop (i + 1)) M:=by
     rw [<- List.eraseIdx_eq_take_drop_succ];exact List.eraseIdx_sublist _ _
    have hMe:M = M.take i ++ nx z0 M i :: M.drop (i + 1):=by
     rw [nx_eq i2,<- List.drop_eq_getElem_cons i2,List.take_append_drop]
    have hmem:∀ s,s∈nms M->s≠nm->s∈nms (M.take i ++ M.drop (i + 1)):=by
     intro s hs hne
     rw [hMe] at hs
     simp only [nms,List.map_append,List.map_cons,List.mem_append,List.mem_cons] at hs ⊢
     rcases hs with hs | hs | hs
     ·exact .inl hs
     ·rw [i3] at hs;exact absurd hs hne
     ·exact .inr hs
    refine ⟨_,_,_,_,rfl,rfl,?_,?_,?_,?_,?_,?_⟩
    ·have:=hsub.length_le;omega
    ·exact fun x hx=>h.tk x (hm x hx)
    ·exact fun x hx=>h.up.wn x (hm x hx)
    ·exact List.Sublist.nodup (hsub.map _) h.nd
    ·omega
    ·intro y hy
     have:=h.ln y hy
     have hz:¬ (y.1 = nm\/y.2.1 = nm):=fun hc=>h2 (List.any_eq_true.2 ⟨y,hy,by simpa using hc⟩)
     exact ⟨this.1,hmem _ this.2.1 (fun e=>hz (.inl e)),hmem _ this.2.2.1 (fun e=>hz (.inr e)),this.2.2.2⟩
 ·have hn:nmd nm = false:=by simpa using hn
  rw [hn,if_pos (by decide),if_pos (by decide)]
  exact ⟨_,_,_,_,rfl,rfl,h.up⟩
theorem tell_both (F q:Nat) {M:List Mb} {L:List Ln} (h:HI q M L) (hq:q<=3000000000000) (hF:200<=F) (n:Int) (nm tq:List UInt8) (hs:nm.length < F) (hs2:nm.length<=9223372036854775807):Both F q M L (6,n,nm,tq):=by
 have hl:=h.len
 have hll:=h.ll
 have cM:(if M.length<=4398046511104 then some M else none) = some M:=if_pos (by omega)
 have cL:(if L.length<=3518437208883 then some L else none) = some L:=if_pos (by omega)
 unfold Both F40 F5 F13 F14
 simp only
 rw [if_neg (by decide),if_neg (by decide),if_neg (by decide),if_neg (by decide),if_neg (by decide),if_neg (by decide),Option.bind_some,if_pos (by decide),named_eq F nm hs hs2,Option.bind_some,cM,Option.bind_some,cL,Option.bind_some,if_neg (by simp:¬ (decide ((6:Int) < 1) || decide ((6:Int) > 7)) = true),lists_eq F M L (by omega) hl,Option.bind_some,if_neg (by decide:¬ ((6:Int) == 5 || (6:Int) == 7) = true),Named_eq F nm (by omega),Option.bind_some]
 by_cases hn:nmd nm = true
 ·rw [hn,if_neg (by decide),if_neg (by decide),find_eq F M L nm (by omega) (by omega),at_eq F M L nm (by omega) (by omega)]
  simp only [Option.bind_some,Int.reduceBEq,Bool.false_eq_true,↓reduceIte]
  by_cases h1:ixN (nms M) nm < 0
  ·rw [if_pos (decide_eq_true h1),if_pos (decide_eq_true h1)]
   exact ⟨_,_,_,_,rfl,rfl,h.up⟩
  ·have d1:¬ decide (ixN (nms M) nm < 0) = true:=by rw [decide_eq_true_eq];exact h1
   rw [if_neg d1,if_neg d1]
   obtain ⟨i,i1,i2,i3⟩:=ixN_at h1
   rw [i1,nx_get (d:=z0) i2,nx_get (d:=0) (by simpa using i2),wns_nx i2]
   exact ⟨_,_,_,_,rfl,rfl,h.up⟩
 ·have hn:nmd nm = false:=by simpa using hn
  rw [hn,if_pos (by decide),if_pos (by decide)]
  exact ⟨_,_,_,_,rfl,rfl,h.up⟩
theorem bad_both (F q:Nat) {M:List Mb} {L:List Ln} (h:HI q M L) (hq:q<=3000000000000) (k n:Int) (nm tq:List UInt8) (hk:k < 1\/k > 7):Both F q M L (k,n,nm,tq):=by
 have hl:=h.len
 have hll:=h.ll
 have cM:(if M.length<=4398046511104 then some M else none) = some M:=if_pos (by omega)
 have cL:(if L.length<=3518437208883 then some L else none) = some L:=if_pos (by omega)
 unfold Both F40 F5 F13 F14
 simp only
 have e:∀ c:Int,1<=c/\c<=7->(k == c) = false:=by
  intro c hc
  rw [beq_eq_false_iff_ne];omega
 rw [e 5 (by omega),e 7 (by omega),e 1 (by omega),e 2 (by omega),e 3 (by omega),e 4 (by omega),e 6 (by omega)]
 simp only [Bool.false_eq_true,if_false,Option.bind_some]
 rw [cM,Option.bind_some,cL,Option.bind_some,if_pos (by simpa using hk)]
 exact ⟨_,_,_,_,rfl,rfl,h.up⟩
open Go.Am
theorem lend_both (F q:Nat) {M:List Mb} {L:List Ln} (h:HI q M L) (hq:q<=2940000000000) (hF:200<=F) (n:Int) (nm tq:List UInt8) (hs:nm.length < F) (hs2:nm.length<=9223372036854775807):Both F q M L (3,n,nm,tq):=by
 have hl:=h.len
 have hll:=h.ll
 have cM:(if M.length<=4398046511104 then some M else none) = some M:=if_pos (by omega)
 have cL:(if L.length<=3518437208883 then some L else none) = some L:=if_pos (by omega)
 unfold Both F40 F5 F13 F14
 simp only
 rw [if_neg (by decide),if_neg (by decide),if_neg (by decide),if_neg (by decide),if_pos (by decide),Option.bind_some,if_pos (by decide),named_eq F nm hs hs2,Option.bind_some,cM,Option.bind_some,cL,Option.bind_some,if_neg (by simp:¬ (decide ((3:Int) < 1) || decide ((3:Int) > 7)) = true),lists_eq F M L (by omega) hl,Option.bind_some,if_neg (by decide:¬ ((3:Int) == 5 || (3:Int) == 7) = true),Named_eq F nm (by omega),Option.bind_some]
 by_cases hn:nmd nm = true
 ·rw [hn,if_neg (by decide),if_neg (by decide),find_eq F M L nm (by omega) (by omega),at_eq F M L nm (by omega) (by omega)]
  simp only [Option.bind_some,Int.reduceBEq,Bool.false_eq_true,↓reduceIte]
  by_cases h1:ixN (nms M) nm < 0
  ·rw [if_pos (decide_eq_true h1),if_pos (decide_eq_true h1)]
   exact ⟨_,_,_,_,rfl,rfl,h.up⟩
  ·have d1:¬ decide (ixN (nms M) nm < 0) = true:=by rw [decide_eq_true_eq];exact h1
   rw [if_neg d1,if_neg d1]
   unfold F63
   simp only
   rw [find_eq F M L tq (by omega) (by omega),at_eq F M L tq (by omega) (by omega)]
   simp only [Option.bind_some]
   by_cases h2:ixN (nms M) tq < 0
   ·rw [if_pos (decide_eq_true h2),if_pos (decide_eq_true h2)]
    exact ⟨_,_,_,_,rfl,rfl,h.up⟩
   ·have d2:¬ decide (ixN (nms M) tq < 0) = true:=by rw [decide_eq_true_eq];exact h2
    rw [if_neg d2,if_neg d2]
    obtain ⟨f,f1,f2,f3⟩:=ixN_at h1
    obtain ⟨t,t1,t2,t3⟩:=ixN_at h2
    rw [f1,t1]
    by_cases h3:((t:Int) == (f:Int) || decide (n < 1)) = true
    ·rw [if_pos h3,if_pos h3]
     exact ⟨_,_,_,_,rfl,rfl,h.up⟩
    ·rw [if_neg h3,if_neg h3]
     simp only [Bool.or_eq_true,beq_iff_eq,decide_eq_true_eq,not_or] at h3
     have hft:f≠t:=by omega
     have hlt:(tks M).length = M.length:=List.length_map _
     have bf:=(h.nx f2).1
     have bt:=(h.nx t2).1
     rw [tickets_eq F M L (by omega) hl]
     simp only [Option.bind_some]
     rw [lend_eq F (tks M) _ _ n h.tick (by omega)]
     simp only [Option.bind_some]
     rw [nx_get (L:=tks M) (d:=0) (by omega:f < (tks M).length),nx_get (L:=tks M) (d:=0) (by omega:t < (tks M).length),tks_nx f2,tks_nx t2]
     simp only [Option.bind_some]
     have hE:lendE (tks M) f t n = if n > (nx z0 M f).2.1 then 4 else if (nx z0 M t).2.1 + n > 100 then 9 else 0:=by
      unfold lendE
      rw [if_neg (by omega),Int.toNat_natCast,Int.toNat_natCast,tks_nx f2,tks_nx t2]
      by_cases c1:n > (nx z0 M f).2.1
      ·rw [if_pos c1,if_pos c1]
      ·rw [if_neg c1,if_neg c1]
       by_cases c2:(nx z0 M t).2.1 + n > 100
       ·rw [if_pos c2,if_pos ⟨by omega,c2⟩]
       ·rw [if_neg c2,if_neg (fun hc=>c2 hc.2)]
     rw [hE]
     by_cases c1:n > (nx z0 M f).2.1
     ·rw [if_pos c1,if_pos (decide_eq_true c1)]
      exact ⟨_,_,_,_,rfl,rfl,h.up⟩
     ·have e1:¬ decide (n > (nx z0 M f).2.1) = true:=by rw [decide_eq_true_eq];exact c1
      rw [if_neg c1,if_neg e1,w64 (a:=(nx z0 M t).2.1 + n) (by omega) (by omega)]
      by_cases c2:(nx z0 M t).2.1 + n > 100
      ·rw [if_pos c2,if_pos (decide_eq_true c2)]
       exact ⟨_,_,_,_,rfl,rfl,h.up⟩
      ·have e2:¬ decide ((nx z0 M t).2.1 + n > 100) = true:=by rw [decide_eq_true_eq];exact c2
       rw [if_neg c2,if_neg e2]
       simp only [bne_self_eq_false,Bool.false_eq_true,↓reduceIte]
       have lf:nx 0 (lent (tks M) f t n) f = (nx z0 M f).2.1 - n:=by
        unfold lent
        rw [Int.toNat_natCast,Int.toNat_natCast,nx_set _ t f _ (by rw [List.length_set];omega),if_neg (by omega),nx_set _ f f _ (by omega),if_pos rfl,tks_nx f2]
       have lt:nx 0 (lent (tks M) f t n) t = (nx z0 M t).2.1 + n:=by
        unfold lent
        rw [Int.toNat_natCast,Int.toNat_natCast,nx_set _ t t _ (by rw [List.length_set];omega),if_pos rfl,nx_set _ f t _ (by omega),if_neg (by omega),tks_nx t2]
       have ll:(lent (tks M) f t n).length = M.length:=by unfold lent;rw [List.length_set,List.length_set,hlt]
       rw [nx_get (L:=lent (tks M) f t n) (d:=0) (i:=f) (by omega),nx_get (L:=lent (tks M) f t n) (d:=0) (i:=t) (by omega),lf,lt,nx_get (d:=z0) f2]
       simp only [Option.bind_some,Int.toNat_natCast]
       rw [w64 (a:=(nx z0 M f).2.1 - n) (by omega) (by omega),nx_get (d:=z0) (by rw [List.length_set];exact t2),nxs _ _ _ _ f2,if_neg hft]
       simp only [Option.bind_some]
       rw [w64 (a:=(nx z0 M t).2.1 + n) (by omega) (by omega),appB?_ok (by simp only [List.length_cons,List.length_nil];omega)]
       simp only [Option.bind_some]
       refine ⟨_,_,_,_,rfl,rfl,?_⟩
       have g1:HI q (M.set f ((nx z0 M f).1,(nx z0 M f).2.1 - n,(nx z0 M f).2.2)) L:=h.set f2 rfl ⟨by simp only;omega,by simp only;omega⟩ (h.nx f2).2
       have g2:=g1.set (i:=t) (x:=((nx z0 M t).1,(nx z0 M t).2.1 + n,(nx z0 M t).2.2)) (by rw [List.length_set];exact t2) (by rw [nxs _ _ _ _ f2,if_neg hft]) ⟨by simp only;omega,by simp only;omega⟩ (h.nx t2).2
       refine ⟨g2.len,g2.tk,g2.up.wn,g2.nd,by rw [List.length_append];simp only [List.length_cons,List.length_nil];omega,fun y hy=>?_⟩
       rcases List.mem_append.1 hy with hy | hy
       ·exact g2.ln y hy
       ·rw [List.mem_singleton] at hy
        subst hy
        rw [nms_set (by rw [List.length_set];exact t2) (by rw [nxs _ _ _ _ f2,if_neg hft]),nms_set (x:=((nx z0 M f).1,(nx z0 M f).2.1 - n,(nx z0 M f).2.2)) f2 rfl]
        refine ⟨fun e=>?_,?_,?_,by simp only;omega,by simp only;omega⟩
        ·simp only at e
         subst e;omega
        ·simp only [nms];rw [<- f3,nx_eq f2];exact List.mem_map.2 ⟨_,List.getElem_mem f2,rfl⟩
        ·simp only [nms];rw [<- t3,nx_eq t2];exact List.mem_map.2 ⟨_,List.getElem_mem t2,rfl⟩
 ·have hn:nmd nm = false:=by simpa using hn
  rw [hn,if_pos (by decide),if_pos (by decide)]
  exact ⟨_,_,_,_,rfl,rfl,h.up⟩
def nz (y:Ln):Bool:=!(y.2.2 == 0)
theorem strike_eq (F:Nat) (L:List Ln) (hF:L.length + 2 < F) (hl:L.length<=1000000000000000000):F22_23 F L = some (L.filter nz):=by
 have hs:∀ (i:Nat) (h:i < L.length),F50_23_l0 F L (i:Int) = some (if (L[i].2.2 == 0) then .stop (.inr (i:Int)) else .more ((i + 1:Nat):Int)):=by
  intro i hi
  unfold F50_23_l0 F23
  rw [if_pos (decide_eq_true (by omega)),at?_in hi,Option.bind_some,Option.bind_some,wsuc (by omega)]
  exact ite_some _ _
 have he:F50_23_l0 F L (L.length:Int) = some (.stop (.inl ())):=by
  unfold F50_23_l0
  rw [if_neg (by simp)]
 unfold F22_23 F50_23
 rcases find_loop L (fun y=>y.2.2 == 0) (fun i _=>(i:Int)) hs he (by omega:L.length < F) with ⟨q1,q2⟩ | ⟨i,hi,q1,q3,q2⟩
 ·rw [q2]
  simp only [Option.bind_some]
  rw [if_pos (by decide),List.filter_eq_self.2]
  intro y hy
  have:=q1 y hy
  unfold nz;rw [this];rfl
 ·rw [q2]
  simp only [Option.bind_some]
  rw [if_neg (by rw [beq_iff_eq];omega),wsuc (a:=i) (by omega)]
  have h0:(L.take i).filter nz = L.take i:=by
   rw [List.filter_eq_self]
   intro y hy
   obtain ⟨j,hj,rfl⟩:=List.getElem_of_mem hy
   rw [List.length_take] at hj
   have:=q3 j (by omega)
   rw [List.getElem_take]
   unfold nz;rw [this];rfl
  have h1:(L.take (i + 1)).filter nz = L.take i:=by
   rw [List.take_add_one,List.getElem?_eq_getElem hi,List.filter_append,h0]
   have:nz L[i] = false:=by unfold nz;rw [q1];rfl
   simp [this]
  obtain ⟨b,hb,G,H,b1,b2,b3⟩:=iter_inv (step:=F22_23_l0 F) (I:=fun s=>∃ (j:Nat) (H:List Ln),j<=L.length/\((L.take j).filter nz).length + H.length = j/\0 < H.length/\s = ((((L.take j).filter nz).length:Int),(j:Int),(L.take j).filter nz ++ (H ++ L.drop j))) (μ:=fun s=>L.length - s.2.1.toNat)
   (Q:=fun b=>∃ G H:List Ln,G = L.filter nz/\G.length + H.length = L.length/\b = ((G.length:Int),G ++ H)) (by
     rintro _ ⟨j,H,hj,hlen,hH,rfl⟩
     unfold F22_23_l0 F23
     have hX:((L.take j).filter nz ++ (H ++ L.drop j)).length = L.length:=by
      rw [List.length_append,List.length_append,List.length_drop];omega
     simp only
     rw [hX]
     by_cases hlt:j < L.length
     ·left
      have hat:at? ((L.take j).filter nz ++ (H ++ L.drop j)) (j:Int) = some L[j]:=by
       unfold at?
       rw [if_pos (by omega),Int.toNat_natCast,<- List.append_assoc,List.getElem?_append_right (by rw [List.length_append];omega),List.length_append,hlen,Nat.sub_self,List.drop_eq_getElem_cons hlt]
       rfl
      rw [if_pos (decide_eq_true (by omega)),hat]
      simp only [Option.bind_some]
      have htk:(L.take (j + 1)).filter nz = (L.take j).filter nz ++ (if nz L[j] then [L[j]] else []):=by
       rw [List.take_add_one,List.getElem?_eq_getElem hlt,List.filter_append]
       congr 1
       simp only [Option.toList,List.filter_cons,List.filter_nil]
      by_cases hz:nz L[j] = true
      ·rw [hz,if_pos rfl] at htk
       rw [if_pos (by exact hz),ck_ok (by omega),Option.bind_some,wsuc (by omega),wsuc (by omega),Int.toNat_natCast]
       obtain ⟨x,H',rfl⟩:∃ x H',H = x :: H':=by
        cases H with
        | nil=>simp at hH
        | cons x H'=>exact ⟨x,H',rfl⟩
       refine ⟨_,rfl,⟨j + 1,H' ++ [L[j]],by omega,?_,by simp,?_⟩,by simp only;omega⟩
       ·rw [htk];simp only [List.length_append,List.length_cons,List.length_nil] at hlen ⊢;omega
       ·rw [htk,List.set_append_right _ _ (Nat.le_refl _),Nat.sub_self]
        simp only [List.length_append,List.length_cons,List.length_nil,List.cons_append,List.set_cons_zero,List.append_assoc,List.nil_append]
        rw [<- List.drop_eq_getElem_cons hlt]
      ·have hz:nz L[j] = false:=by simpa using hz
       rw [hz] at htk
       rw [if_neg (by rw [show (!(L[j].2.2 == 0)) = nz L[j] from rfl,hz];decide),wsuc (by omega)]
       have htk2:(L.take (j + 1)).filter nz = (L.take j).filter nz:=by rw [htk];simp
       refine ⟨_,rfl,⟨j + 1,H ++ [L[j]],by omega,?_,by simp,?_⟩,by simp only;omega⟩
       ·rw [htk2];simp only [List.length_append,List.length_cons,List.length_nil];omega
       ·rw [htk2,List.append_assoc,List.singleton_append,<- List.drop_eq_getElem_cons hlt]
     ·right
      have e:j = L.length:=by omega
      subst e
      rw [if_neg (by simp)]
      refine ⟨_,rfl,_,H,rfl,?_,?_⟩
      ·rw [List.take_length] at hlen;exact hlen
      ·rw [List.take_length,List.drop_length,List.append_nil]) F (((L.take i).length:Int),((i + 1:Nat):Int),L) ⟨i + 1,[L[i]],by omega,by rw [h1,List.length_take];simp;omega,by simp,by
       rw [h1]
       have:L = L.take i ++ ([L[i]] ++ L.drop (i + 1)):=by
        rw [List.singleton_append,<- List.drop_eq_getElem_cons hi,List.take_append_drop]
       rw [<- this]⟩ (by simp only;omega)
  rw [List.length_take,Nat.min_eq_left (by omega)] at hb
  rw [hb,b3]
  simp only [Option.bind_some]
  rw [sub?_from (by rw [List.length_append];omega)]
  simp only [Option.bind_some,Int.toNat_natCast]
  rw [List.take_left,sub?_to (by rw [List.length_append];omega),List.take_left,Option.bind_some,b1]
open Go.Am
def one (s:List UInt8) (M:List Mb) (y:Ln):Int × List Mb × Ln:=
 if y.1 == s then
  (minI (minI y.2.2 (nx z0 M (ixN (nms M) y.2.1).toNat).2.1) (100 - (nx z0 M (ixN (nms M) y.1).toNat).2.1),
   (M.set (ixN (nms M) y.2.1).toNat ((nx z0 M (ixN (nms M) y.2.1).toNat).1,(nx z0 M (ixN (nms M) y.2.1).toNat).2.1 - minI (minI y.2.2 (nx z0 M (ixN (nms M) y.2.1).toNat).2.1) (100 - (nx z0 M (ixN (nms M) y.1).toNat).2.1),(nx z0 M (ixN (nms M) y.2.1).toNat).2.2)).set (ixN (nms M) y.1).toNat ((nx z0 M (ixN (nms M) y.1).toNat).1,(nx z0 M (ixN (nms M) y.1).toNat).2.1 + minI (minI y.2.2 (nx z0 M (ixN (nms M) y.2.1).toNat).2.1) (100 - (nx z0 M (ixN (nms M) y.1).toNat).2.1),(nx z0 M (ixN (nms M) y.1).toNat).2.2),
   (y.1,y.2.1,y.2.2 - minI (minI y.2.2 (nx z0 M (ixN (nms M) y.2.1).toNat).2.1) (100 - (nx z0 M (ixN (nms M) y.1).toNat).2.1)))
 else (0,M,y)
def Lw (N:List (List UInt8)) (lo:Int) (y:Ln):Prop:=y.1≠y.2.1/\y.1∈N/\y.2.1∈N/\lo<=y.2.2/\y.2.2<=100
structure OI (q:Nat) (N:List (List UInt8)) (M:List Mb):Prop where
 hi:HI q M []
 nm:nms M = N
theorem ixN_of {M:List Mb} {s:List UInt8} (h:s∈nms M):∃ i:Nat,ixN (nms M) s = i/\i < M.length/\(nx z0 M i).1 = s:=by
 refine ixN_at fun hc=>?_
 rcases ixN_mem h with ⟨i,h1,_⟩
 omega
theorem min3 {n T a b:Int} (h1:0<=n/\n<=100) (h2:0<=T/\T<=100) (h3:0<=b/\b<=100) (ha:minI (minI n T) (100 - b) = a):0<=a/\a<=n/\a<=T/\a + b<=100/\(a = n\/a = T\/a + b = 100):=by
 unfold minI at ha
 split at ha <;> split at ha <;> omega
theorem one_of {q:Nat} {N:List (List UInt8)} {M:List Mb} (o:OI q N M) (s:List UInt8) {y:Ln} (hy:Lw N 0 y):(y.1≠s/\one s M y = (0,M,y))\/∃ (f t:Nat) (a:Int),y.1 = s/\f≠t/\ixN (nms M) y.1 = f/\ixN (nms M) y.2.1 = t/\f < M.length/\t < M.length/\minI (minI y.2.2 (nx z0 M t).2.1) (100 - (nx z0 M f).2.1) = a/\(0<=a/\a<=y.2.2/\a<=(nx z0 M t).2.1/\a + (nx z0 M f).2.1<=100/\(a = y.2.2\/a = (nx z0 M t).2.1\/a + (nx z0 M f).2.1 = 100)) /\
 one s M y = (a,(M.set t ((nx z0 M t).1,(nx z0 M t).2.1 - a,(nx z0 M t).2.2)).set f ((nx z0 M f).1,(nx z0 M f).2.1 + a,(nx z0 M f).2.2),(y.1,y.2.1,y.2.2 - a)):=by
 obtain ⟨h1,h2,h3,h4,h5⟩:=hy
 by_cases e:y.1 = s
 ·right
  rw [<- o.nm] at h2 h3
  obtain ⟨f,f1,f2,f3⟩:=ixN_of h2
  obtain ⟨t,t1,t2,t3⟩:=ixN_of h3
  refine ⟨f,t,_,e,fun hc=>h1 (by rw [<- f3,<- t3,hc]),f1,t1,f2,t2,rfl,min3 ⟨h4,h5⟩ (o.hi.nx t2).1 (o.hi.nx f2).1 rfl,?_⟩
  unfold one
  rw [if_pos (by simpa using e),f1,t1,Int.toNat_natCast,Int.toNat_natCast]
 ·left
  refine ⟨e,?_⟩
  unfold one
  rw [if_neg (by simpa using e)]
theorem one_ok {q:Nat} {N:List (List UInt8)} {M:List Mb} (o:OI q N M) (s:List UInt8) {y:Ln} (hy:Lw N 0 y):OI q N (one s M y).2.1/\0<=(one s M y).1/\(one s M y).1<=100/\Lw N 0 (one s M y).2.2:=by
 have hy':=hy
 obtain ⟨h1,h2,h3,h4,h5⟩:=hy'
 rcases one_of o s hy with ⟨_,e⟩ | ⟨f,t,a,_,hft,f1,t1,f2,t2,_,⟨a1,a2,a3,a4,_⟩,e⟩
 ·rw [e];exact ⟨o,by simp,by simp,hy⟩
 ·rw [e]
  have bf:=o.hi.nx f2
  have bt:=o.hi.nx t2
  have g1:=o.hi.set (i:=t) (x:=((nx z0 M t).1,(nx z0 M t).2.1 - a,(nx z0 M t).2.2)) t2 rfl ⟨by simp only;omega,by simp only;omega⟩ bt.2
  have hn:((nx z0 M f).1,(nx z0 M f).2.1 + a,(nx z0 M f).2.2).1 = (nx z0 (M.set t ((nx z0 M t).1,(nx z0 M t).2.1 - a,(nx z0 M t).2.2)) f).1:=by rw [nxs _ _ _ _ t2,if_neg (by omega)]
  have g2:=g1.set (i:=f) (x:=((nx z0 M f).1,(nx z0 M f).2.1 + a,(nx z0 M f).2.2)) (by rw [List.length_set];exact f2) hn ⟨by simp only;omega,by simp only;omega⟩ bf.2
  refine ⟨⟨g2,?_⟩,a1,by omega,h1,h2,h3,by simp only;omega,by simp only;omega⟩
  rw [nms_set (by rw [List.length_set];exact f2) hn,nms_set (x:=((nx z0 M t).1,(nx z0 M t).2.1 - a,(nx z0 M t).2.2)) t2 rfl,o.nm]
def bk (s:List UInt8) (M:List Mb):List Ln->Int × List Mb × List Ln
 | []=>(0,M,[])
 | y :: r=>((bk s M r).1 + (one s (bk s M r).2.1 y).1,(one s (bk s M r).2.1 y).2.1,(one s (bk s M r).2.1 y).2.2 :: (bk s M r).2.2)
theorem bk_ok {q:Nat} {N:List (List UInt8)} {M:List Mb} (o:OI q N M) (s:List UInt8):∀ L:List Ln,(∀ y∈L,Lw N 0 y)->OI q N (bk s M L).2.1/\0<=(bk s M L).1/\(bk s M L).1<=100 * L.length/\(bk s M L).2.2.length = L.length/\∀ y∈(bk s M L).2.2,Lw N 0 y
 | [],_=>⟨o,by simp [bk],by simp [bk],rfl,by simp [bk]⟩
 | y :: r,h=>by
  obtain ⟨h1,h2,h3,h4,h5⟩:=bk_ok o s r fun y hy=>h y (List.mem_cons_of_mem _ hy)
  obtain ⟨g1,g2,g3,g4⟩:=one_ok h1 s (h y List.mem_cons_self)
  simp only [bk,List.length_cons]
  refine ⟨g1,by omega,by omega,by omega,fun z hz=>?_⟩
  rcases List.mem_cons.1 hz with rfl | hz
  ·exact g4
  ·exact h5 z hz
theorem at_mid {α:Type} (A R:List α) (y:α):at? (A ++ y :: R) (A.length:Int) = some y:=by
 unfold at?
 rw [if_pos (by omega),Int.toNat_natCast,List.getElem?_append_right (Nat.le_refl _),Nat.sub_self];rfl
theorem set_mid {α:Type} (A R:List α) (y x:α):(A ++ y :: R).set A.length x = A ++ x :: R:=by
 rw [List.set_append_right _ _ (Nat.le_refl _),Nat.sub_self];rfl
theorem real_step (F q:Nat) {N:List (List UInt8)} {M:List Mb} (o:OI q N M) (s:List UInt8) {y:Ln} (hy:Lw N 1 y) (A R:List Ln) (tot:Int) (ht:0<=tot/\tot<=1000000000000000) (hl:A.length + R.length + 1<=3518437208883) (hF:200<=F):
 F64_l0 F s (tot,(A.length:Int),M,A ++ y :: R.filter nz) = some (.more (tot + (one s M y).1,(A.length:Int) - 1,(one s M y).2.1,A ++ ((one s M y).2.2 :: R).filter nz)):=by
 have hy0:Lw N 0 y:=⟨hy.1,hy.2.1,hy.2.2.1,by have:=hy.2.2.2.1;omega,hy.2.2.2.2⟩
 have hRl:=List.length_filter_le nz R
 have hl8:=o.hi.len
 obtain ⟨y1,y2,y3,y4,y5⟩:=hy
 unfold F64_l0
 simp only
 rw [if_pos (decide_eq_true (by omega)),at_mid]
 simp only [Option.bind_some]
 rw [w64 (a:=(A.length:Int) - 1) (by omega) (by omega)]
 rcases one_of o s hy0 with ⟨e1,e⟩ | ⟨f,t,a,e1,hft,f1,t1,f2,t2,ea,⟨a1,a2,a3,a4,_⟩,e⟩
 ·rw [if_pos (by simpa using e1),e,List.filter_cons,if_pos (by unfold nz;simp;omega),Int.add_zero]
 ·have bf:=(o.hi.nx f2).1
  have bt:=(o.hi.nx t2).1
  rw [if_neg (by simpa using e1),find_eq F M _ y.1 (by omega) (by omega),find_eq F M _ y.2.1 (by omega) (by omega),f1,t1]
  simp only [Option.bind_some]
  rw [nx_get (d:=z0) f2,nx_get (d:=z0) t2]
  simp only [Option.bind_some,Int.toNat_natCast]
  rw [w64 (a:=100 - (nx z0 M f).2.1) (by omega) (by omega),ea,w64 (a:=(nx z0 M t).2.1 - a) (by omega) (by omega),nx_get (d:=z0) (by rw [List.length_set];exact f2),nxs _ _ _ _ t2,if_neg (by omega)]
  simp only [Option.bind_some]
  rw [set_mid,w64 (a:=y.2.2 - a) (by omega) (by omega),at_mid,w64 (a:=(nx z0 M f).2.1 + a) (by omega) (by omega),w64 (a:=tot + a) (by omega) (by omega),wsuc (by omega)]
  simp only [Option.bind_some]
  rw [e]
  simp only
  by_cases hz:y.2.2 - a = 0
  ·rw [if_pos (by simpa using hz),List.filter_cons,if_neg (by unfold nz;simp [hz])]
   unfold F82 delB?
   rw [if_pos (by omega),if_pos ⟨by omega,by omega,by simp only [List.length_append,List.length_cons];omega,by simp only [List.length_append,List.length_cons];omega,by simp only [List.length_append,List.length_cons];omega⟩]
   simp only [Option.bind_some,Int.toNat_natCast]
   rw [List.take_left,show A.length + 1 = (A ++ [(y.1,y.2.1,y.2.2 - a)]).length from by simp,show A ++ (y.1,y.2.1,y.2.2 - a) :: R.filter nz = (A ++ [(y.1,y.2.1,y.2.2 - a)]) ++ R.filter nz from by simp,List.drop_left]
  ·rw [if_neg (by simpa using hz),List.filter_cons,if_pos (by unfold nz;simpa using hz)]
theorem set4 {α:Type} (M:List α) {f t:Nat} (h:f≠t) (a b c d:α):(((M.set t a).set f b).set t c).set f d = (M.set t c).set f d:=by
 rw [List.set_comm b c h,List.set_set,List.set_set]
theorem ref_in (F q:Nat) {M:List Mb} (f t:Nat) (hft:f≠t) (f2:f < M.length) (t2:t < M.length) (y:Ln) (A R:List Ln) (tot:Int) (ht:0<=tot/\tot<=1000000000000000) (s1:Int × Int × List Mb × List Ln) (hs1:s1.2.1 = (A.length:Int)) (a:Int) (hF:200<=F)
 (b1:1<=y.2.2/\y.2.2<=100) (b2:0<=(nx z0 M t).2.1/\(nx z0 M t).2.1<=100) (b3:0<=(nx z0 M f).2.1/\(nx z0 M f).2.1<=100)
 (ha:0<=a/\a<=y.2.2/\a<=(nx z0 M t).2.1/\a + (nx z0 M f).2.1<=100/\(a = y.2.2\/a = (nx z0 M t).2.1\/a + (nx z0 M f).2.1 = 100)):
 iter (F5_l1 F (f:Int) s1 (t:Int)) F (tot,M,A ++ y :: R) = some (tot + a,(M.set t ((nx z0 M t).1,(nx z0 M t).2.1 - a,(nx z0 M t).2.2)).set f ((nx z0 M f).1,(nx z0 M f).2.1 + a,(nx z0 M f).2.2),A ++ (y.1,y.2.1,y.2.2 - a) :: R):=by
 obtain ⟨c,rfl⟩:∃ c:Nat,a = c:=⟨a.toNat,by omega⟩
 have:=iter_count (step:=F5_l1 F (f:Int) s1 (t:Int)) (F:=F) (fun k=>(tot + (k:Int),(M.set t ((nx z0 M t).1,(nx z0 M t).2.1 - (k:Int),(nx z0 M t).2.2)).set f ((nx z0 M f).1,(nx z0 M f).2.1 + (k:Int),(nx z0 M f).2.2),A ++ (y.1,y.2.1,y.2.2 - (k:Int)) :: R)) (b:=(tot + (c:Int),(M.set t ((nx z0 M t).1,(nx z0 M t).2.1 - (c:Int),(nx z0 M t).2.2)).set f ((nx z0 M f).1,(nx z0 M f).2.1 + (c:Int),(nx z0 M f).2.2),A ++ (y.1,y.2.1,y.2.2 - (c:Int)) :: R)) c ?_ ?_ (by omega)
 ·have e0:(M.set t ((nx z0 M t).1,(nx z0 M t).2.1 - ((0:Nat):Int),(nx z0 M t).2.2)).set f ((nx z0 M f).1,(nx z0 M f).2.1 + ((0:Nat):Int),(nx z0 M f).2.2) = M:=by
   rw [Int.natCast_zero,Int.sub_zero,Int.add_zero]
   show (M.set t (nx z0 M t)).set f (nx z0 M f) = M
   rw [nx_eq t2,List.set_getElem_self,nx_eq f2,List.set_getElem_self]
  rw [<- this]
  congr 1
  rw [e0,Int.natCast_zero,Int.add_zero,Int.sub_zero]
 ·intro k hk
  unfold F5_l1
  simp only
  rw [hs1,at_mid]
  have e1:at? ((M.set t ((nx z0 M t).1,(nx z0 M t).2.1 - (k:Int),(nx z0 M t).2.2)).set f ((nx z0 M f).1,(nx z0 M f).2.1 + (k:Int),(nx z0 M f).2.2)) (t:Int) = some ((nx z0 M t).1,(nx z0 M t).2.1 - (k:Int),(nx z0 M t).2.2):=by
   rw [nx_get (d:=z0) (by rw [List.length_set,List.length_set];exact t2),nxs _ _ _ _ (by rw [List.length_set];exact f2),if_neg hft,nxs _ _ _ _ t2,if_pos rfl]
  have e2:at? ((M.set t ((nx z0 M t).1,(nx z0 M t).2.1 - (k:Int),(nx z0 M t).2.2)).set f ((nx z0 M f).1,(nx z0 M f).2.1 + (k:Int),(nx z0 M f).2.2)) (f:Int) = some ((nx z0 M f).1,(nx z0 M f).2.1 + (k:Int),(nx z0 M f).2.2):=by
   rw [nx_get (d:=z0) (by rw [List.length_set,List.length_set];exact f2),nxs _ _ _ _ (by rw [List.length_set];exact f2),if_pos rfl]
  rw [e1,e2]
  simp only [Option.bind_some]
  rw [if_pos (decide_eq_true (by omega)),decide_eq_true (by omega:(nx z0 M t).2.1 - (k:Int) > 0)]
  simp only [Option.bind_some,↓reduceIte]
  rw [decide_eq_true (by omega:(nx z0 M f).2.1 + (k:Int) < 100)]
  simp only [Option.bind_some,↓reduceIte,Int.toNat_natCast]
  have e3:at? (((M.set t ((nx z0 M t).1,(nx z0 M t).2.1 - (k:Int),(nx z0 M t).2.2)).set f ((nx z0 M f).1,(nx z0 M f).2.1 + (k:Int),(nx z0 M f).2.2)).set t ((nx z0 M t).1,wrapA .i64 ((nx z0 M t).2.1 - (k:Int) - 1),(nx z0 M t).2.2)) (f:Int) = some ((nx z0 M f).1,(nx z0 M f).2.1 + (k:Int),(nx z0 M f).2.2):=by
   rw [nx_get (d:=z0) (by rw [List.length_set,List.length_set,List.length_set];exact f2),nxs _ _ _ _ (by rw [List.length_set,List.length_set];exact t2),if_neg (by omega),nxs _ _ _ _ (by rw [List.length_set];exact f2),if_pos rfl]
  rw [e3]
  simp only [Option.bind_some]
  rw [set4 M hft,set_mid,w64 (a:=tot + (k:Int) + 1) (by omega) (by omega),w64 (a:=(nx z0 M t).2.1 - (k:Int) - 1) (by omega) (by omega),w64 (a:=(nx z0 M f).2.1 + (k:Int) + 1) (by omega) (by omega),w64 (a:=y.2.2 - (k:Int) - 1) (by omega) (by omega)]
  have q1:tot + (k:Int) + 1 = tot + ((k + 1:Nat):Int):=by omega
  have q2:(nx z0 M t).2.1 - (k:Int) - 1 = (nx z0 M t).2.1 - ((k + 1:Nat):Int):=by omega
  have q3:(nx z0 M f).2.1 + (k:Int) + 1 = (nx z0 M f).2.1 + ((k + 1:Nat):Int):=by omega
  have q4:y.2.2 - (k:Int) - 1 = y.2.2 - ((k + 1:Nat):Int):=by omega
  rw [q1,q2,q3,q4]
 ·unfold F5_l1
  simp only
  rw [hs1,at_mid]
  have e1:at? ((M.set t ((nx z0 M t).1,(nx z0 M t).2.1 - (c:Int),(nx z0 M t).2.2)).set f ((nx z0 M f).1,(nx z0 M f).2.1 + (c:Int),(nx z0 M f).2.2)) (t:Int) = some ((nx z0 M t).1,(nx z0 M t).2.1 - (c:Int),(nx z0 M t).2.2):=by
   rw [nx_get (d:=z0) (by rw [List.length_set,List.length_set];exact t2),nxs _ _ _ _ (by rw [List.length_set];exact f2),if_neg hft,nxs _ _ _ _ t2,if_pos rfl]
  have e2:at? ((M.set t ((nx z0 M t).1,(nx z0 M t).2.1 - (c:Int),(nx z0 M t).2.2)).set f ((nx z0 M f).1,(nx z0 M f).2.1 + (c:Int),(nx z0 M f).2.2)) (f:Int) = some ((nx z0 M f).1,(nx z0 M f).2.1 + (c:Int),(nx z0 M f).2.2):=by
   rw [nx_get (d:=z0) (by rw [List.length_set,List.length_set];exact f2),nxs _ _ _ _ (by rw [List.length_set];exact f2),if_pos rfl]
  rw [e1,e2]
  simp only [Option.bind_some]
  by_cases h1:y.2.2 - (c:Int) > 0
  ·rw [if_pos (decide_eq_true h1)]
   simp only [Option.bind_some]
   by_cases h2:(nx z0 M t).2.1 - (c:Int) > 0
   ·have h3:¬ (nx z0 M f).2.1 + (c:Int) < 100:=by omega
    rw [if_pos (decide_eq_true h2),decide_eq_false h3]
    rfl
   ·rw [if_neg (mt of_decide_eq_true h2)]
    rfl
  ·rw [if_neg (mt of_decide_eq_true h1)]
   rfl
theorem ref_step (F q:Nat) {N:List (List UInt8)} {M:List Mb} (o:OI q N M) (d:Int × Int × List UInt8 × List UInt8) (s:List UInt8) (hd:d.2.2.1 = s) {y:Ln} (hy:Lw N 1 y) (A R:List Ln) (tot:Int) (ht:0<=tot/\tot<=1000000000000000) (hl:A.length + R.length + 1<=3518437208883) (hF:200<=F):
 F5_l2 F d (ixN N s) (tot,(A.length:Int),M,A ++ y :: R) = some (.more (tot + (one s M y).1,(A.length:Int) - 1,(one s M y).2.1,A ++ (one s M y).2.2 :: R)):=by
 have hy0:Lw N 0 y:=⟨hy.1,hy.2.1,hy.2.2.1,by have:=hy.2.2.2.1;omega,hy.2.2.2.2⟩
 have hl8:=o.hi.len
 obtain ⟨y1,y2,y3,y4,y5⟩:=hy
 unfold F5_l2
 simp only
 rw [if_pos (decide_eq_true (by omega)),at_mid]
 simp only [Option.bind_some]
 rw [w64 (a:=(A.length:Int) - 1) (by omega) (by omega),hd]
 rcases one_of o s hy0 with ⟨e1,e⟩ | ⟨f,t,a,e1,hft,f1,t1,f2,t2,ea,ha,e⟩
 ·rw [if_pos (by simpa using e1),e,Int.add_zero]
 ·rw [if_neg (by simpa using e1),at_eq F M _ y.2.1 (by omega) (by omega),t1]
  simp only [Option.bind_some]
  rw [<- o.nm,<- e1,f1,ref_in F q f t hft f2 t2 y A R tot ht _ rfl a hF ⟨y4,y5⟩ (o.hi.nx t2).1 (o.hi.nx f2).1 ha]
  simp only [Option.bind_some]
  rw [e1] at e ⊢
  rw [e]
theorem back_both (F q:Nat) {M:List Mb} {L:List Ln} (h:HI q M L) (hq:q<=2940000000000) (hF:200<=F) (hFq:q + 2 < F) (n:Int) (nm tq:List UInt8) (hs:nm.length < F) (hs2:nm.length<=9223372036854775807):Both F q M L (4,n,nm,tq):=by
 have hl:=h.len
 have hll:=h.ll
 have o:OI q (nms M) M:=⟨⟨h.len,h.tk,h.wn,h.nd,by simp,by simp⟩,rfl⟩
 have hL1:∀ y∈L,Lw (nms M) 1 y:=h.ln
 have hL0:∀ y∈L,Lw (nms M) 0 y:=fun y hy=>⟨(h.ln y hy).1,(h.ln y hy).2.1,(h.ln y hy).2.2.1,by have:=(h.ln y hy).2.2.2;omega,(h.ln y hy).2.2.2.2⟩
 have hdr:∀ j,OI q (nms M) (bk nm M (L.drop j)).2.1/\0<=(bk nm M (L.drop j)).1/\(bk nm M (L.drop j)).1<=100 * (L.length - j:Nat)/\(bk nm M (L.drop j)).2.2.length = L.length - j/\∀ y∈(bk nm M (L.drop j)).2.2,Lw (nms M) 0 y:=by
  intro j
  have:=bk_ok o nm (L.drop j) fun y hy=>hL0 y (List.mem_of_mem_drop hy)
  rwa [List.length_drop] at this
 have hreal:iter (F64_l0 F nm) F (0,(L.length:Int) - 1,M,L) = some ((bk nm M L).1,(bk nm M L).2.1,(bk nm M L).2.2.filter nz):=by
  have:=iter_count (step:=F64_l0 F nm) (F:=F) (fun k=>((bk nm M (L.drop (L.length - k))).1,(L.length:Int) - 1 - (k:Int),(bk nm M (L.drop (L.length - k))).2.1,L.take (L.length - k) ++ (bk nm M (L.drop (L.length - k))).2.2.filter nz)) (b:=((bk nm M L).1,(bk nm M L).2.1,(bk nm M L).2.2.filter nz)) L.length ?_ ?_ (by omega)
  ·simpa [bk] using this
  ·intro k hk
   obtain ⟨j,hj⟩:∃ j,L.length - k = j + 1:=⟨L.length - k - 1,by omega⟩
   have hj2:L.length - (k + 1) = j:=by omega
   have hjl:j < L.length:=by omega
   obtain ⟨d1,d2,d3,d4,d5⟩:=hdr (j + 1)
   have hA:(L.take j).length = j:=by rw [List.length_take];omega
   have:=real_step F q d1 nm (hL1 L[j] (List.getElem_mem hjl)) (L.take j) (bk nm M (L.drop (j + 1))).2.2 (bk nm M (L.drop (j + 1))).1 ⟨d2,by omega⟩ (by omega) hF
   rw [hA] at this
   rw [hj,hj2,show (L.length:Int) - 1 - (k:Int) = (j:Int) from by omega,show (L.length:Int) - 1 - ((k + 1:Nat):Int) = (j:Int) - 1 from by omega,List.take_add_one,List.getElem?_eq_getElem hjl,List.append_assoc]
   simp only [Option.toList,List.singleton_append]
   rw [this,List.drop_eq_getElem_cons hjl]
   rfl
  ·unfold F64_l0
   simp only
   rw [Nat.sub_self,if_neg (by rw [decide_eq_true_eq];omega)]
   simp
 have href:iter (F5_l2 F (4,n,nm,tq) (ixN (nms M) nm)) F (0,(L.length:Int) - 1,M,L) = some ((bk nm M L).1,(bk nm M L).2.1,(bk nm M L).2.2):=by
  have:=iter_count (step:=F5_l2 F (4,n,nm,tq) (ixN (nms M) nm)) (F:=F) (fun k=>((bk nm M (L.drop (L.length - k))).1,(L.length:Int) - 1 - (k:Int),(bk nm M (L.drop (L.length - k))).2.1,L.take (L.length - k) ++ (bk nm M (L.drop (L.length - k))).2.2)) (b:=((bk nm M L).1,(bk nm M L).2.1,(bk nm M L).2.2)) L.length ?_ ?_ (by omega)
  ·simpa [bk] using this
  ·intro k hk
   obtain ⟨j,hj⟩:∃ j,L.length - k = j + 1:=⟨L.length - k - 1,by omega⟩
   have hj2:L.length - (k + 1) = j:=by omega
   have hjl:j < L.length:=by omega
   obtain ⟨d1,d2,d3,d4,d5⟩:=hdr (j + 1)
   have hA:(L.take j).length = j:=by rw [List.length_take];omega
   have:=ref_step F q d1 (4,n,nm,tq) nm rfl (hL1 L[j] (List.getElem_mem hjl)) (L.take j) (bk nm M (L.drop (j + 1))).2.2 (bk nm M (L.drop (j + 1))).1 ⟨d2,by omega⟩ (by omega) hF
   rw [hA] at this
   rw [hj,hj2,show (L.length:Int) - 1 - (k:Int) = (j:Int) from by omega,show (L.length:Int) - 1 - ((k + 1:Nat):Int) = (j:Int) - 1 from by omega,List.take_add_one,List.getElem?_eq_getElem hjl,List.append_assoc]
   simp only [Option.toList,List.singleton_append]
   rw [this,List.drop_eq_getElem_cons hjl]
   rfl
  ·unfold F5_l2
   simp only
   rw [Nat.sub_self,if_neg (by rw [decide_eq_true_eq];omega)]
   simp
 obtain ⟨d1,d2,d3,d4,d5⟩:=hdr 0
 rw [List.drop_zero,Nat.sub_zero] at d3 d4
 rw [List.drop_zero] at d1 d2 d5
 have cM:(if M.length<=4398046511104 then some M else none) = some M:=if_pos (by omega)
 have cL:(if L.length<=3518437208883 then some L else none) = some L:=if_pos (by omega)
 unfold Both F40 F5 F13 F14
 simp only
 rw [if_neg (by decide),if_neg (by decide),if_neg (by decide),if_neg (by decide),if_neg (by decide),if_pos (by decide),Option.bind_some,if_pos (by decide),named_eq F nm hs hs2,Option.bind_some,cM,Option.bind_some,cL,Option.bind_some,if_neg (by simp:¬ (decide ((4:Int) < 1) || decide ((4:Int) > 7)) = true),lists_eq F M L (by omega) hl,Option.bind_some,if_neg (by decide:¬ ((4:Int) == 5 || (4:Int) == 7) = true),Named_eq F nm (by omega),Option.bind_some]
 by_cases hn:nmd nm = true
 ·rw [hn,if_neg (by decide),if_neg (by decide),find_eq F M L nm (by omega) (by omega),at_eq F M L nm (by omega) (by omega)]
  simp only [Option.bind_some,Int.reduceBEq,Bool.false_eq_true,↓reduceIte]
  by_cases h1:ixN (nms M) nm < 0
  ·rw [if_pos (decide_eq_true h1),if_pos (decide_eq_true h1)]
   exact ⟨_,_,_,_,rfl,rfl,h.up⟩
  ·have e1:¬ decide (ixN (nms M) nm < 0) = true:=by rw [decide_eq_true_eq];exact h1
   rw [if_neg e1,if_neg e1]
   unfold F64
   simp only
   rw [w64 (a:=(L.length:Int) - 1) (by omega) (by omega),hreal,href]
   simp only [Option.bind_some]
   rw [strike_eq F _ (by omega) (by omega)]
   simp only [Option.bind_some]
   refine ⟨_,_,_,_,rfl,rfl,d1.hi.len,d1.hi.tk,d1.hi.up.wn,d1.hi.nd,?_,fun y hy=>?_⟩
   ·have:=List.length_filter_le nz (bk nm M L).2.2
    omega
   ·rw [List.mem_filter] at hy
    have:=d5 y hy.1
    rw [d1.nm]
    refine ⟨this.1,this.2.1,this.2.2.1,?_,this.2.2.2.2⟩
    have h2:=this.2.2.2.1
    have h3:y.2.2≠0:=by
     have:=hy.2
     unfold nz at this
     simpa using this
    omega
 ·have hn:nmd nm = false:=by simpa using hn
  rw [hn,if_pos (by decide),if_pos (by decide)]
  exact ⟨_,_,_,_,rfl,rfl,h.up⟩
theorem step_both (F q:Nat) {M:List Mb} {L:List Ln} (h:HI q M L) (hq:q<=2940000000000) (hF:200<=F) (hFq:q + 2 < F) (d:Int × Int × List UInt8 × List UInt8) (hs:d.2.2.1.length < F) (hs2:d.2.2.1.length<=9223372036854775807):Both F q M L d:=by
 obtain ⟨k,n,nm,tq⟩:=d
 by_cases hk:k < 1\/k > 7
 ·exact bad_both F q h (by omega) k n nm tq hk
 ·have:k = 1\/k = 2\/k = 3\/k = 4\/k = 5\/k = 6\/k = 7:=by omega
  rcases this with rfl | rfl | rfl | rfl | rfl | rfl | rfl
  ·exact join_both F q h (by omega) hF n nm tq hs hs2
  ·exact leave_both F q h (by omega) hF (by omega) n nm tq hs hs2
  ·exact lend_both F q h (by omega) hF n nm tq hs hs2
  ·exact back_both F q h (by omega) hF hFq n nm tq hs hs2
  ·exact draw_both F q h (by omega) hF n nm tq
  ·exact tell_both F q h (by omega) hF n nm tq hs hs2
  ·exact fair_both F q h (by omega) hF n nm tq
open Go.Am
abbrev Dd:=Int × Int × List UInt8 × List UInt8
def d0:Dd:=(0,0,[],[])
noncomputable def stA (F:Nat) (D:List Dd):Nat->List Mb × List Ln
 | 0=>([],[])
 | i + 1=>match F40 F (stA F D i) (D.getD i d0) with | some r=>r.2.2 | none=>stA F D i
noncomputable def tlA (F:Nat) (D:List Dd) (i:Nat):List UInt8 × Int:=match F40 F (stA F D i) (D.getD i d0) with | some r=>r.1 | none=>([],0)
noncomputable def erA (F:Nat) (D:List Dd) (i:Nat):Int:=match F40 F (stA F D i) (D.getD i d0) with | some r=>r.2.1 | none=>0
theorem stA_ok {F:Nat} {D:List Dd} (hF:200<=F) (hl:D.length<=2932031007317) (hFl:D.length + 2 < F) (hs:∀ d∈D,d.2.2.1.length < F/\d.2.2.1.length<=9223372036854775807):
 ∀ i,i<=D.length->HI i (stA F D i).1 (stA F D i).2/\(∀ h:i < D.length,F40 F (stA F D i) D[i] = some (tlA F D i,erA F D i,stA F D (i + 1))/\F5 F (stA F D i) D[i] = some (stA F D (i + 1),tlA F D i,erA F D i)):=by
 have step:∀ i,HI i (stA F D i).1 (stA F D i).2->∀ h:i < D.length,(F40 F (stA F D i) D[i] = some (tlA F D i,erA F D i,stA F D (i + 1))/\F5 F (stA F D i) D[i] = some (stA F D (i + 1),tlA F D i,erA F D i))/\HI (i + 1) (stA F D (i + 1)).1 (stA F D (i + 1)).2:=by
  intro i hi h
  have hd:=hs D[i] (List.getElem_mem h)
  obtain ⟨told,e,M',L',g1,g2,g3⟩:=step_both F i hi (by omega) hF (by omega) D[i] hd.1 hd.2
  have eD:D.getD i d0 = D[i]:=by rw [List.getD_eq_getElem?_getD,List.getElem?_eq_getElem h];rfl
  have g1:F40 F (stA F D i) D[i] = some (told,e,(M',L')):=g1
  have e1:stA F D (i + 1) = (M',L'):=by simp only [stA,eD,g1]
  have e2:tlA F D i = told:=by simp only [tlA,eD,g1]
  have e3:erA F D i = e:=by simp only [erA,eD,g1]
  rw [e1,e2,e3]
  exact ⟨⟨g1,g2⟩,g3⟩
 intro i
 induction i with
 | zero=>intro _;exact ⟨⟨by simp [stA],by simp [stA],by simp [stA],by simp [stA,nms],by simp [stA],by simp [stA]⟩,fun h=>(step 0 ⟨by simp [stA],by simp [stA],by simp [stA],by simp [stA,nms],by simp [stA],by simp [stA]⟩ h).1⟩
 | succ i ih=>
  intro hi
  have h1:=(step i (ih (by omega)).1 (by omega)).2
  exact ⟨h1,fun h=>(step (i + 1) h1 h).1⟩
noncomputable def tlsA (F:Nat) (D:List Dd) (i:Nat):List (List UInt8 × Int):=(List.range i).map (tlA F D)
noncomputable def ersA (F:Nat) (D:List Dd) (i:Nat):List Int:=(List.range i).map (erA F D)
theorem tls_succ (F:Nat) (D:List Dd) (i:Nat):tlsA F D i ++ [tlA F D i] = tlsA F D (i + 1):=by simp [tlsA,List.range_succ]
theorem ers_succ (F:Nat) (D:List Dd) (i:Nat):ersA F D i ++ [erA F D i] = ersA F D (i + 1):=by simp [ersA,List.range_succ]
theorem do_eq {F:Nat} {D:List Dd} (hF:200<=F) (hl:D.length<=2932031007317) (hFl:D.length + 2 < F) (hs:∀ d∈D,d.2.2.1.length < F/\d.2.2.1.length<=9223372036854775807):F10 F D = some (tlsA F D D.length,ersA F D D.length):=by
 unfold F10 F39
 simp only [Option.bind_some]
 have:=iter_count (step:=F10_l1 F D) (F:=F) (fun i=>((i:Int),(stA F D i).1,(stA F D i).2,tlsA F D i,ersA F D i)) (b:=(tlsA F D D.length,ersA F D D.length)) D.length ?_ ?_ (by omega)
 ·have h0:iter (F10_l1 F D) F (0,[],[],[],[]) = some (tlsA F D D.length,ersA F D D.length):=this
  rw [h0]
  rfl
 ·intro i hi
  obtain ⟨_,h⟩:=stA_ok hF hl hFl hs i (by omega)
  obtain ⟨g1,_⟩:=h hi
  unfold F10_l1
  simp only
  rw [if_pos (decide_eq_true (by omega)),at?_in hi]
  simp only [Option.bind_some]
  have g1:F40 F ((stA F D i).1,(stA F D i).2) (D[i].1,D[i].2.1,D[i].2.2.1,D[i].2.2.2) = some (tlA F D i,erA F D i,stA F D (i + 1)):=g1
  rw [g1]
  simp only [Option.bind_some]
  rw [appB?_ok (by simp [tlsA];omega)]
  simp only [Option.bind_some]
  rw [appB?_ok (by simp [ersA];omega)]
  simp only [Option.bind_some]
  rw [wsuc (by omega)]
  have e1:tlsA F D i ++ [((tlA F D i).1,(tlA F D i).2)] = tlsA F D (i + 1):=tls_succ F D i
  rw [e1,ers_succ]
 ·unfold F10_l1
  simp only
  rw [if_neg (by simp)]
theorem ref_eq {F:Nat} {D:List Dd} (hF:200<=F) (hl:D.length<=2932031007317) (hFl:D.length + 2 < F) (hs:∀ d∈D,d.2.2.1.length < F/\d.2.2.1.length<=9223372036854775807):iter (F3_l0 F D) F ([],[],0,[],[]) = some (tlsA F D D.length,ersA F D D.length):=by
 have:=iter_count (step:=F3_l0 F D) (F:=F) (fun i=>(tlsA F D i,ersA F D i,(i:Int),(stA F D i).1,(stA F D i).2)) (b:=(tlsA F D D.length,ersA F D D.length)) D.length ?_ ?_ (by omega)
 ·exact this
 ·intro i hi
  obtain ⟨_,h⟩:=stA_ok hF hl hFl hs i (by omega)
  obtain ⟨_,g2⟩:=h hi
  unfold F3_l0
  simp only
  rw [if_pos (decide_eq_true (by omega)),at?_in hi]
  simp only [Option.bind_some]
  have g2:F5 F ((stA F D i).1,(stA F D i).2) (D[i].1,D[i].2.1,D[i].2.2.1,D[i].2.2.2) = some (stA F D (i + 1),tlA F D i,erA F D i):=g2
  rw [g2]
  simp only [Option.bind_some]
  rw [appB?_ok (by simp [tlsA];omega)]
  simp only [Option.bind_some]
  rw [appB?_ok (by simp [ersA];omega)]
  simp only [Option.bind_some]
  rw [wsuc (by omega)]
  have e1:tlsA F D i ++ [((tlA F D i).1,(tlA F D i).2)] = tlsA F D (i + 1):=tls_succ F D i
  rw [e1,ers_succ]
 ·unfold F3_l0
  simp only
  rw [if_neg (by simp)]
theorem alike_told (F:Nat) (p:List (List UInt8 × Int)) (hF:p.length < F) (hl:p.length<=9223372036854775806):F6 F p p = some true:=by
 unfold F6 F24
 rw [if_neg (by simp)]
 have:=iter_count (step:=F24_l0 F p p) (F:=F) (fun i=>(i:Int)) (b:=.inl ()) p.length ?_ ?_ (by omega)
 ·have h0:iter (F24_l0 F p p) F 0 = some (.inl ()):=this
  rw [h0];rfl
 ·intro i hi
  unfold F24_l0
  rw [if_pos (decide_eq_true (by omega)),at?_in hi]
  simp only [Option.bind_some]
  rw [if_neg (by simp),wsuc (by omega)]
 ·unfold F24_l0
  rw [if_neg (by simp)]
theorem alike_errs (F:Nat) (p:List Int) (hF:p.length < F) (hl:p.length<=9223372036854775806):F7 F p p = some true:=by
 unfold F7 F25
 rw [if_neg (by simp)]
 have:=iter_count (step:=F25_l0 F p p) (F:=F) (fun i=>(i:Int)) (b:=.inl ()) p.length ?_ ?_ (by omega)
 ·have h0:iter (F25_l0 F p p) F 0 = some (.inl ()):=this
  rw [h0];rfl
 ·intro i hi
  unfold F25_l0
  rw [if_pos (decide_eq_true (by omega)),at?_in hi]
  simp only [Option.bind_some]
  rw [if_neg (by simp),wsuc (by omega)]
 ·unfold F25_l0
  rw [if_neg (by simp)]
theorem law_good {F:Nat} {hands:Int} (hh:1<=hands/\hands<=8) {jobs:List (List Dd)} (hF:200<=F) (hj:jobs.length + 2 < F) (hj2:jobs.length<=9223372036854775806) (hl:∀ D∈jobs,D.length<=2932031007317/\D.length + 2 < F/\∀ d∈D,d.2.2.1.length < F/\d.2.2.1.length<=9223372036854775807):
 F3 F hands jobs ((List.range jobs.length).map fun k=>(tlsA F (jobs.getD k []) (jobs.getD k []).length,ersA F (jobs.getD k []) (jobs.getD k []).length)) 0 = some true:=by
 unfold F3
 rw [if_neg (by simp;omega),if_neg (by simp)]
 have:=iter_count (step:=F3_l1 F jobs ((List.range jobs.length).map fun k=>(tlsA F (jobs.getD k []) (jobs.getD k []).length,ersA F (jobs.getD k []) (jobs.getD k []).length))) (F:=F) (fun i=>(i:Int)) (b:=.inl ()) jobs.length ?_ ?_ (by omega)
 ·generalize hT:(List.range jobs.length).map (fun k=>(tlsA F (jobs.getD k []) (jobs.getD k []).length,ersA F (jobs.getD k []) (jobs.getD k []).length)) = T at this ⊢
  have h0:iter (F3_l1 F jobs T) F 0 = some (.inl ()):=this
  rw [h0];rfl
 ·intro i hi
  obtain ⟨h1,h2,h3⟩:=hl jobs[i] (List.getElem_mem hi)
  have e:jobs.getD i [] = jobs[i]:=by rw [List.getD_eq_getElem?_getD,List.getElem?_eq_getElem hi];rfl
  have hat:at? ((List.range jobs.length).map fun k=>(tlsA F (jobs.getD k []) (jobs.getD k []).length,ersA F (jobs.getD k []) (jobs.getD k []).length)) (i:Int) = some (tlsA F jobs[i] jobs[i].length,ersA F jobs[i] jobs[i].length):=by
   rw [at?_in (by simpa using hi)]
   simp only [List.getElem_map,List.getElem_range,e]
  unfold F3_l1
  rw [if_pos (decide_eq_true (by omega)),at?_in hi]
  simp only [Option.bind_some]
  rw [ref_eq hF h1 h2 h3]
  simp only [Option.bind_some]
  rw [hat]
  simp only [Option.bind_some]
  rw [alike_told F _ (by simp [tlsA];omega) (by simp [tlsA];omega)]
  simp only [Option.bind_some]
  rw [alike_errs F _ (by simp [ersA];omega) (by simp [ersA];omega),wsuc (by omega)]
  simp
 ·unfold F3_l1
  rw [if_neg (by simp)]
theorem law_bad {F:Nat} {hands:Int} (hh:¬ (1<=hands/\hands<=8)) {jobs:List (List Dd)}:F3 F hands jobs [] 1 = some true:=by
 unfold F3
 rw [if_pos (by simp;omega)]
 rfl
end Go.Proofs.YtkhokgkgloligaaDoor.hal
namespace Go.Co
open Go.Conc Go.Am Go.Proofs Go.RowKit Go.Proofs.YtkhokgkgloligaaDoor
theorem weightsAll_mem {H:Type} {P:Program} {e:TypeId} {x:Nat} {d':DataW H}:∀ {l:List (DataW H)},d'∈l->x∈d'.weights P e->x∈DataW.weightsAll P e l
 | d :: r,h,hx=>by
  simp only [DataW.weightsAll,List.mem_append]
  rcases List.mem_cons.1 h with rfl | h
  ·exact .inl hx
  ·exact .inr (weightsAll_mem h hx)
theorem inner_sized {H:Type} {enc:TypeId × Value->H} {W:World} (X:Ab W) {jobs:List (List (Int × Int × List UInt8 × List UInt8))} {vt:SV} {z:Option Addr} {zl zc:Nat} {d:DataW H} {ps:List MemPlace} {ts:List TypeId} {ds:List (DataW H)} {j:Nat}
 (hs:(DataW.weightsEach Tryd.prog ts ds).all (·<=reachBytes) = true) (htj:ts[j]? = some 22) (hdj:ds[j]? = some d) (hd:DataW.Trod enc Tryd.prog W 0 (fun _=>true) true 22 (.slice z zl zc) d ps) (hV:Vw Y27 X.n X.m vt jobs) (hv:SV.rel X.ρ vt (.slice z zl zc)):
 ∀ k,k < jobs.length->(jobs.getD k []).length * 48<=140737488351232:=by
 obtain ⟨j0,cap,e,El,hEl⟩:=jobs_read X hV hv
 cases e
 intro k hk
 obtain ⟨⟨J,o,rfl,hJ,hc⟩,x,hx,hq⟩:=hEl k hk
 obtain ⟨fuel,hf⟩:=hd
 rcases Go.Deep.open_slice Tryd.underlying22 hf with ⟨e1,_⟩ | ⟨a',len,cap',m',n,D,Plc,e1,hb,hl,hm,hmm,e2,hel⟩
 ·simp [Value.cells] at e1
 ·have e1:Value.slice (some ⟨J,o,none⟩) jobs.length zc = .slice (some a') len cap':=by simpa [Value.cells] using e1
  injection e1 with q1 q2 q3
  injection q1 with q1
  subst q1 q2 q3
  have hdd:d = .slice ((List.range jobs.length).map D) ((List.range (m' - jobs.length)).map fun j=>D (jobs.length + j)):=congrArg Prod.fst e2
  obtain ⟨cs',g1,g2⟩:=hel k (by simp only [if_true] at hmm;omega)
  have hsz:Tryd.prog.cellsOf 27 = 1:=by kernel_rfl
  rw [hsz,Nat.mul_one] at g1
  obtain ⟨_,g3,g4⟩:=World.cells?_some g1
  have g5:=g4 0 (by omega)
  have ea:((⟨J,o,none⟩:Addr).add k).add 0 = ⟨J,o + k,none⟩:=by
   unfold Addr.add
   by_cases q:k = 0 <;> simp [q]
  rw [ea,hc] at g5
  have hcs:cs' = [El k]:=by
   match cs',g3,g5 with
   | [y],_,g5=>simp at g5;rw [g5]
  rw [hcs] at g2
  have hmem:∀ y,y∈(D k).weights Tryd.prog 27->y<=reachBytes:=by
   intro y hy
   have h1:y∈d.weights Tryd.prog 22:=by
    rw [hdd]
    simp only [DataW.weights,Tryd.underlying22,List.mem_cons,List.mem_append]
    exact .inr (.inl (weightsAll_mem (List.mem_map.2 ⟨k,List.mem_range.2 hk,rfl⟩) hy))
   have:=List.all_eq_true.1 hs _ (DataW.weights_mem_each htj hdj y h1)
   simpa using this
  rcases hq with ⟨h | h,h0⟩ | ⟨i,o2,c2,cs2,rfl,h2,_⟩
  ·rw [h0];simp
  ·rw [h0];simp
  ·obtain ⟨p,cc,_,_,_,_,_,hv2⟩:=hx
   rcases Go.Deep.open_slice Tryd.underlying27 g2 with ⟨e3,_⟩ | ⟨a2,len2,cap2,m2,n2,D2,Plc2,e3,_,hl2,_,_,e4,_⟩
   ·have e3:El k = .slice none 0 0:=by simpa using e3
    rw [e3] at hv2;cases hv2
   ·have e3:El k = .slice (some a2) len2 cap2:=by simpa using e3
    rw [e3] at hv2
    injection hv2 with _ w2 _
    have hDk:D k = .slice ((List.range len2).map D2) ((List.range (m2 - len2)).map fun j=>D2 (len2 + j)):=congrArg Prod.fst e4
    have:=hmem ((len2 + (m2 - len2)) * Tryd.prog.bytesOf 35) (by
     rw [hDk]
     simp [DataW.weights,Tryd.underlying27])
    rw [show Tryd.prog.bytesOf 35 = 48 from by kernel_rfl] at this
    have e5:(jobs.getD k []).length = len2:=w2.symm
    rw [e5]
    have h6:len2 * 48<=(len2 + (m2 - len2)) * 48:=Nat.mul_le_mul_right _ (by omega)
    have:reachBytes = 140737488351232:=rfl
    omega
end Go.Co

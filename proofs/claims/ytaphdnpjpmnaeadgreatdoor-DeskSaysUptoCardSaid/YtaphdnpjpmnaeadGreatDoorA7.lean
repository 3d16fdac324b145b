/- Towards castlaw.DeskSays, part 7: joined by a program of ours. -/
import Derived.Test.YtaphdnpjpmnaeadGreatDoorA6
set_option linter.unusedVariables false
set_option linter.unusedSimpArgs false
set_option linter.unusedSectionVars false
namespace Go.Proofs.YtaphdnpjpmnaeadGreatDoor
set_option maxRecDepth 20000
set_option maxHeartbeats 4000000
open Go.Am
theorem F10.fn:E.fn 10 = some (fi 167 Tryz.f10 [3,12,17,23,29,33,43,46,1000046]):=rfl
theorem F10_ok {F:Nat} {fl:Nat} {S0:Cx fl} {r:((List ((List UInt8) × Int × Int)) × (List ((List UInt8) × (List UInt8) × Int))) × (List UInt8)} {t0:(List ((List UInt8) × Int × Int)) × (List ((List UInt8) × (List UInt8) × Int))} {t1:List UInt8} {vt0_0:SV} {vt0_1:SV} (h:F10 F t0 t1 = some r) (hot0_0:Rd Y59 S0 vt0_0 t0.1) (hot0_1:Rd Y118 S0 vt0_1 t0.2):Ret E fl 10 [.agg [vt0_0,vt0_1],.sc (.str t1)] S0.m S0.n (fun v m' n'=>∃ S':Cx fl,S'.m = m'∧S'.n = n'∧ChM S0 S'∧(∃ w383 w384:SV,v = .tup [.agg [w383,w384],.sc (.str r.2)]∧Rd Y59 S' w383 r.1.1∧Rd Y118 S' w384 r.1.2)):=by
 unfold F10 at h
 refine Ret.walk F10.fn ?_
 have hM:=ChM.refl S0
 refine go ?_
 refine WO.bxW (cs:=[vt0_0,vt0_1]) 2 rfl rfl rfl (fun b1 S2 c3 ho4=>?_)
 refine WO.alW (cs:=[.nils,.nils]) 3 rfl rfl rfl (fun b5 S6 c7 ho8=>?_)
 obtain ⟨r9,e10,h⟩:=bindS h
 refine go ?_
 refine WO.callF 4 rfl rfl (F20_21_ok e10) Lay.flat_fl (fun v11 S13 c14 ho12=>?_)
 refine go ?_
 refine ci h (fun q15 h=>?_) fun q15 h=>?_
 ·obtain ⟨r16,e17,h⟩:=bindS h
  refine go ?_
  refine WO.callE rfl rfl (F22_ok e17) (fun S18 c19=>?_)
  refine WO.stW (r:=[vt0_0,vt0_1]) rfl pa rfl rfl tr rfl rfl rfl rfl rfl (fun S20 c21 ho8=>?_)
  cases h;refine go ?_
  exact fn
 obtain ⟨x23,e24,h⟩:=bindS h
 obtain ⟨L25,e26,h⟩:=bindS h
 refine go ?_
 refine WO.slc (k':=.i64) rfl (.inl ⟨_,rfl,rfl⟩) (.inr ⟨rfl,rfl⟩) (wk (S:=S13)) e26 rfl (fun v27 ho28=>?_)
 have ho28:Wk Y9 S13 4 v27 L25:=ho28
 refine go ?_
 refine WO.cutB (d:=43) 4 ((x23 == [110,97,109,101,115]) && ((L25.length:Int) == 0)) (fun q29=>?_) (fun q29=>?_) ?_
 ·refine go ?_;exact cu
 ·refine go ?_;exact cu
 refine go ?_
 refine ci h (fun q30 h=>?_) fun q30 h=>?_
 ·obtain ⟨b59,e60,h⟩:=bindS h
  refine go ?_
  refine WC.loopD e60 (fun s31 l' m' n'=>∃ S33:Cx fl,∃ v34:SV,S33.m = m'∧S33.n = n'∧Cov l' [(2,.sc ((.ptr b1 0))),(4,.sc ((.ptr b5 0))),(9,.sc v34),(45,.sc vt0_0),(46,.sc (.int .i64 ((t0.1.length:Int)))),(47,.sc (.int .i64 s31.2))]∧ChM S0 S33∧Bw S33 2 (.ptr b1 0) [vt0_0,vt0_1]∧Rd Y59 S33 vt0_0 t0.1∧Rd Y118 S33 vt0_1 t0.2∧Bw S33 3 (.ptr b5 0) [.nils,.nils]∧Ow Y9 S33 5 v34 s31.1) (fun b e l' m' n'=>e = .exit 0∧∃ S35:Cx fl,∃ v36:SV,S35.m = m'∧S35.n = n'∧Cov l' [(2,.sc ((.ptr b1 0))),(4,.sc ((.ptr b5 0))),(9,.sc v36)]∧ChM S0 S35∧Bw S35 2 (.ptr b1 0) [vt0_0,vt0_1]∧Rd Y59 S35 vt0_0 t0.1∧Rd Y118 S35 vt0_1 t0.2∧Bw S35 3 (.ptr b5 0) [.nils,.nils]∧Ow Y9 S35 5 v36 b) fn ?_ ?_
  ·rintro s31 q _ _ _ ⟨S37,v38,rfl,rfl,hc39,hM,ho4,hot0_0,hot0_1,ho8,ho9⟩ h
   unfold F10_l0 at h
   refine go ?_
   refine ci h (fun q40 h=>?_) fun q40 h=>?_
   ·obtain ⟨x41,e42,h⟩:=bindS h
    refine go ?_
    refine WO.alS (A:=Y59) (z0:=(([],0,0):(List UInt8) × Int × Int)) 6 rfl rfl rfl (fun v43 S44 c45 ho46=>?_)
    refine WO.stBA (u':=(x41.1,x41.2.1,x41.2.2)) rfl pa rfl tr rfl rfl (fun S47 c48 ho46=>?_)
    refine go ?_
    refine WO.bsS (A:=Y9) (M:=[((x41.1,x41.2.1,x41.2.2)).1]) (cs:=[.str (((x41.1,x41.2.1,x41.2.2)).1)]) 7 rfl rfl rfl ⟨[.str (((x41.1,x41.2.1,x41.2.2)).1)],_,rfl,rfl,rfl⟩ rfl (fun v49 S50 c51 ho52=>?_)
    obtain ⟨L53,e54,h⟩:=bindS h
    refine WO.appS rfl rfl tr ro e54 rfl rfl (fun v55 S56 c57 ho58=>?_)
    cases h;refine go ?_
    exact fn
   cases h;refine go ?_
   exact fn
  rintro _ _ _ _ ⟨rfl,⟨S61,v62,rfl,rfl,hc63,hM,ho4,hot0_0,hot0_1,ho8,ho9⟩⟩
  obtain ⟨r64,e65,h⟩:=bindS h
  refine go ?_
  refine WO.callE rfl rfl (F16_ok e65 jn') (fun S66 c67=>?_)
  obtain ⟨x68,e69,h⟩:=bindS h
  refine go ?_
  refine WO.stW (r:=[vt0_0,vt0_1]) rfl pa rfl rfl tr rfl rfl rfl rfl rfl (fun S70 c71 ho8=>?_)
  cases h;refine go ?_
  exact fn
 refine go ?_
 refine WO.mkMp (mlS) 8 E.mt60 rfl (fun v73 S74 c75 ho76=>?_)
 obtain ⟨u77,e78,h⟩:=bindS h
 refine WO.inS (q:=([106,111,105,110]:List UInt8)) (u:=1) rfl tr rfl rfl E.mt60 (keyS?_ok e78) rfl (fun S79 c80 ho76=>?_)
 obtain ⟨u81,e82,h⟩:=bindS h
 refine WO.inS (q:=([108,101,97,118,101]:List UInt8)) (u:=2) rfl tr rfl rfl E.mt60 (keyS?_ok e82) rfl (fun S83 c84 ho76=>?_)
 obtain ⟨u85,e86,h⟩:=bindS h
 refine WO.inS (q:=([108,101,110,100]:List UInt8)) (u:=3) rfl tr rfl rfl E.mt60 (keyS?_ok e86) rfl (fun S87 c88 ho76=>?_)
 obtain ⟨u89,e90,h⟩:=bindS h
 refine WO.inS (q:=([98,97,99,107]:List UInt8)) (u:=4) rfl tr rfl rfl E.mt60 (keyS?_ok e90) rfl (fun S91 c92 ho76=>?_)
 obtain ⟨u93,e94,h⟩:=bindS h
 refine WO.inS (q:=([100,114,97,119]:List UInt8)) (u:=5) rfl tr rfl rfl E.mt60 (keyS?_ok e94) rfl (fun S95 c96 ho76=>?_)
 obtain ⟨u97,e98,h⟩:=bindS h
 refine WO.inS (q:=([116,101,108,108]:List UInt8)) (u:=6) rfl tr rfl rfl E.mt60 (keyS?_ok e98) rfl (fun S99 c100 ho76=>?_)
 obtain ⟨u101,e102,h⟩:=bindS h
 refine WO.inS (q:=([102,97,105,114]:List UInt8)) (u:=7) rfl tr rfl rfl E.mt60 (keyS?_ok e102) rfl (fun S103 c104 ho76=>?_)
 have ho76:Mp (mlS) S103 8 v73 MC0:=ho76
 obtain ⟨u105,e106,h⟩:=bindS h
 refine go ?_
 refine WO.lkS (q:=(x23:List UInt8)) rfl tr rfl E.mt60 (keyS?_ok e106) ?_
 refine go ?_
 refine WO.mkMp (mlN) 9 E.mt62 rfl (fun v107 S108 c109 ho110=>?_)
 obtain ⟨u111,e112,h⟩:=bindS h
 refine WO.inN (q:=(1:Int)) (u:=1) rfl tr rfl rfl E.mt62 (keyN?_ok e112) rfl (fun S113 c114 ho110=>?_)
 obtain ⟨u115,e116,h⟩:=bindS h
 refine WO.inN (q:=(2:Int)) (u:=1) rfl tr rfl rfl E.mt62 (keyN?_ok e116) rfl (fun S117 c118 ho110=>?_)
 obtain ⟨u119,e120,h⟩:=bindS h
 refine WO.inN (q:=(3:Int)) (u:=2) rfl tr rfl rfl E.mt62 (keyN?_ok e120) rfl (fun S121 c122 ho110=>?_)
 obtain ⟨u123,e124,h⟩:=bindS h
 refine WO.inN (q:=(4:Int)) (u:=1) rfl tr rfl rfl E.mt62 (keyN?_ok e124) rfl (fun S125 c126 ho110=>?_)
 obtain ⟨u127,e128,h⟩:=bindS h
 refine WO.inN (q:=(6:Int)) (u:=1) rfl tr rfl rfl E.mt62 (keyN?_ok e128) rfl (fun S129 c130 ho110=>?_)
 have ho110:Mp (mlN) S129 9 v107 MC1:=ho110
 obtain ⟨u131,e132,h⟩:=bindS h
 refine go ?_
 refine WO.lkN (q:=(((mget MC0 (x23:List UInt8)).getD 0):Int)) rfl tr rfl E.mt62 (keyN?_ok e132) ?_
 refine go ?_
 refine ci h (fun q133 h=>?_) fun q133 h=>?_
 ·obtain ⟨r134,e135,h⟩:=bindS h
  refine go ?_
  refine WO.callE rfl rfl (F22_ok e135) (fun S136 c137=>?_)
  refine WO.stW (r:=[vt0_0,vt0_1]) rfl pa rfl rfl tr rfl rfl rfl rfl rfl (fun S138 c139 ho8=>?_)
  cases h;refine go ?_
  exact fn
 obtain ⟨L141,e142,h⟩:=bindS h
 refine go ?_
 refine WO.slc (k':=.i64) rfl (.inl ⟨_,rfl,rfl⟩) (.inr ⟨rfl,rfl⟩) (trK (S:=S129)) e142 rfl (fun v143 ho144=>?_)
 have ho144:Wk Y9 S129 4 v143 L141:=ho144
 obtain ⟨b190,e191,h⟩:=bindS h
 refine go ?_
 refine WC.loopD e191 (fun s145 l' m' n'=>∃ S149:Cx fl,∃ v150 v151 v152:SV,S149.m = m'∧S149.n = n'∧Cov l' [(2,.sc ((.ptr b1 0))),(4,.sc ((.ptr b5 0))),(7,.sc (.str x23)),(8,.sc v27),(12,.sc (.int .i64 (((mget MC0 (x23:List UInt8)).getD 0)))),(13,.sc v150),(14,.sc (.int .i64 (((mget MC1 (((mget MC0 (x23:List UInt8)).getD 0):Int)).getD 0)))),(77,.sc v143),(78,.sc (.int .i64 ((L141.length:Int)))),(79,.sc (.int .i64 s145.2.1))]∧ChM S0 S149∧Bw S149 2 (.ptr b1 0) [vt0_0,vt0_1]∧Rd Y59 S149 vt0_0 t0.1∧Rd Y118 S149 vt0_1 t0.2∧Bw S149 3 (.ptr b5 0) [v151,v152]∧Wk Y9 S149 4 v27 L25∧Wk Y9 S149 4 v143 L141∧Ow Y3 S149 10 v150 s145.1∧Rd Y59 S149 v151 s145.2.2.1∧Rd Y118 S149 v152 s145.2.2.2) (fun b e l' m' n'=>(match b with | .inl b153=>e = .exit 2∧∃ S154:Cx fl,∃ v155 v156 v157:SV,S154.m = m'∧S154.n = n'∧Cov l' [(2,.sc ((.ptr b1 0))),(4,.sc ((.ptr b5 0))),(7,.sc (.str x23)),(8,.sc v27),(12,.sc (.int .i64 (((mget MC0 (x23:List UInt8)).getD 0)))),(13,.sc v155),(14,.sc (.int .i64 (((mget MC1 (((mget MC0 (x23:List UInt8)).getD 0):Int)).getD 0))))]∧ChM S0 S154∧Bw S154 2 (.ptr b1 0) [vt0_0,vt0_1]∧Rd Y59 S154 vt0_0 t0.1∧Rd Y118 S154 vt0_1 t0.2∧Bw S154 3 (.ptr b5 0) [v156,v157]∧Wk Y9 S154 4 v27 L25∧Ow Y3 S154 10 v155 b153.1∧Rd Y59 S154 v156 b153.2.1∧Rd Y118 S154 v157 b153.2.2 | .inr b153=>e = .ret∧∃ S158:Cx fl,∃ v159 v160:SV,S158.m = m'∧S158.n = n'∧Cov l' [(4,.sc ((.ptr b5 0))),(5,.sc (.str b153.1))]∧ChM S0 S158∧Bw S158 3 (.ptr b5 0) [v159,v160]∧Rd Y59 S158 v159 b153.2.1∧Rd Y118 S158 v160 b153.2.2)) fn ?_ ?_
 ·rintro s145 q _ _ _ ⟨S161,v162,v163,v164,rfl,rfl,hc165,hM,ho4,hot0_0,hot0_1,ho8,ho28,ho144,ho13,ho8c0,ho8c1⟩ h
  unfold F10_l1 at h
  refine go ?_
  refine ci h (fun q166 h=>?_) fun q166 h=>?_
  ·obtain ⟨x167,e168,h⟩:=bindS h
   obtain ⟨r169,e170,h⟩:=bindS h
   refine go ?_
   refine WO.callE rfl rfl (F23_ok e170) (fun S171 c172=>?_)
   refine go ?_
   refine ci h (fun q173 h=>?_) fun q173 h=>?_
   ·obtain ⟨r174,e175,h⟩:=bindS h
    refine go ?_
    refine WO.callE rfl rfl (F22_ok e175) (fun S176 c177=>?_)
    refine WO.stW (r:=[vt0_0,vt0_1]) rfl pa rfl rfl tr rfl rfl rfl rfl rfl (fun S178 c179 ho8=>?_)
    cases h;refine go ?_
    exact fn
   refine go ?_
   refine WO.bsS (A:=Y3) (M:=[r169.1]) (cs:=[.int .i64 r169.1]) 11 rfl rfl rfl ⟨[.int .i64 r169.1],_,rfl,rfl,rfl⟩ rfl (fun v180 S181 c182 ho183=>?_)
   obtain ⟨L184,e185,h⟩:=bindS h
   refine WO.appS rfl rfl tr ro e185 rfl rfl (fun v186 S187 c188 ho189=>?_)
   cases h;refine go ?_
   exact fn
  cases h;refine go ?_
  exact fn
 cases b190 with
 | inl b192=>
  simp only at h
  rintro _ _ _ _ ⟨rfl,⟨S193,v194,v195,v196,rfl,rfl,hc197,hM,ho4,hot0_0,hot0_1,ho8,ho28,ho13,ho8c0,ho8c1⟩⟩
  refine go ?_
  refine ci h (fun q198 h=>?_) fun q198 h=>?_
  ·obtain ⟨r199,e200,h⟩:=bindS h
   refine go ?_
   refine WO.callI tr rfl rfl (fun bq hI hB=>F24_ok e200 S193.le hI) Lay.flat_fl (fun S201 c202 ho13=>?_)
   refine go ?_
   refine ci h (fun q203 h=>?_) fun q203 h=>?_
   ·obtain ⟨r204,e205,h⟩:=bindS h
    refine go ?_
    refine WO.callE rfl rfl (F22_ok e205) (fun S206 c207=>?_)
    refine WO.stW (r:=[vt0_0,vt0_1]) rfl pa rfl rfl tr rfl rfl rfl rfl rfl (fun S208 c209 ho8=>?_)
    cases h;refine go ?_
    exact fn
   refine go ?_
   refine WO.stW (r:=[vt0_0,vt0_1]) rfl pa rfl rfl tr rfl rfl rfl rfl rfl (fun S211 c212 ho8=>?_)
   cases h;refine go ?_
   exact fn
  refine go ?_
  refine WO.mkMp (mlN) 12 E.mt62 rfl (fun v214 S215 c216 ho217=>?_)
  obtain ⟨u218,e219,h⟩:=bindS h
  refine WO.inN (q:=(1:Int)) (u:=1) rfl tr rfl rfl E.mt62 (keyN?_ok e219) rfl (fun S220 c221 ho217=>?_)
  obtain ⟨u222,e223,h⟩:=bindS h
  refine WO.inN (q:=(3:Int)) (u:=1) rfl tr rfl rfl E.mt62 (keyN?_ok e223) rfl (fun S224 c225 ho217=>?_)
  obtain ⟨u226,e227,h⟩:=bindS h
  refine WO.inN (q:=(5:Int)) (u:=1) rfl tr rfl rfl E.mt62 (keyN?_ok e227) rfl (fun S228 c229 ho217=>?_)
  have ho217:Mp (mlN) S228 12 v214 MC2:=ho217
  obtain ⟨u230,e231,h⟩:=bindS h
  refine go ?_
  refine WO.lkN (q:=(((mget MC0 (x23:List UInt8)).getD 0):Int)) rfl tr rfl E.mt62 (keyN?_ok e231) ?_
  refine go ?_
  refine ci h (fun q232 h=>?_) fun q232 h=>?_
  ·obtain ⟨r233,e234,h⟩:=bindS h
   refine go ?_
   refine WO.callE rfl rfl (F22_ok e234) (fun S235 c236=>?_)
   refine WO.stW (r:=[vt0_0,vt0_1]) rfl pa rfl rfl tr rfl rfl rfl rfl rfl (fun S237 c238 ho8=>?_)
   cases h;refine go ?_
   exact fn
  refine go ?_
  refine WO.alS (A:=Y67) (z0:=((0,0,[],[]):Int × Int × (List UInt8) × (List UInt8))) 13 rfl rfl rfl (fun v240 S241 c242 ho243=>?_)
  refine WO.stBA (u':=((((mget MC0 (x23:List UInt8)).getD 0),0,[],[]):Int × Int × (List UInt8) × (List UInt8))) rfl pa rfl tr rfl rfl (fun S244 c245 ho243=>?_)
  obtain ⟨b251,e252,h⟩:=bindS h
  refine go ?_
  refine WC.mono (Q':=(fun b e l' m' n'=>e = .normal∧∃ S253:Cx fl,S253.m = m'∧S253.n = n'∧Cov l' [(2,.sc ((.ptr b1 0))),(4,.sc ((.ptr b5 0))),(8,.sc v27),(12,.sc (.int .i64 (((mget MC0 (x23:List UInt8)).getD 0)))),(13,.sc v194),(14,.sc (.int .i64 (((mget MC1 (((mget MC0 (x23:List UInt8)).getD 0):Int)).getD 0)))),(22,.sc v240)]∧ChM S0 S253∧Bw S253 2 (.ptr b1 0) [vt0_0,vt0_1]∧Rd Y59 S253 vt0_0 t0.1∧Rd Y118 S253 vt0_1 t0.2∧Bw S253 3 (.ptr b5 0) [v195,v196]∧Rd Y59 S253 v195 b192.2.1∧Rd Y118 S253 v196 b192.2.2∧Wk Y9 S253 4 v27 L25∧Ow Y3 S253 10 v194 b192.1∧Bk Y67 S253 13 v240 b) b251) ?_ ?_
  ·have h:=e252
   dsimp only at h ⊢
   refine ci h (fun q246 h=>?_) fun q246 h=>?_
   ·obtain ⟨x247,e248,h⟩:=bindS h
    refine go ?_
    refine WO.stB (j:=0) (q:=2) (u':=((((((mget MC0 (x23:List UInt8)).getD 0),0,[],[]):Int × Int × (List UInt8) × (List UInt8))).1,(((((mget MC0 (x23:List UInt8)).getD 0),0,[],[]):Int × Int × (List UInt8) × (List UInt8))).2.1,x247,(((((mget MC0 (x23:List UInt8)).getD 0),0,[],[]):Int × Int × (List UInt8) × (List UInt8))).2.2.2)) rfl rfl rfl tr (by rfl) (by decide) (by rfl) (by rfl) (fun S249 c250 ho243=>?_)
    cases h;refine go ?_
    exact fn
   cases h;refine go ?_
   exact fn
  dsimp only
  rintro _ _ _ _ ⟨rfl,⟨S254,rfl,rfl,hc255,hM,ho4,hot0_0,hot0_1,ho8,ho8c0,ho8c1,ho28,ho13,ho243⟩⟩
  obtain ⟨b261,e262,h⟩:=bindS h
  refine go ?_
  refine WC.mono (Q':=(fun b e l' m' n'=>e = .normal∧∃ S263:Cx fl,S263.m = m'∧S263.n = n'∧Cov l' [(2,.sc ((.ptr b1 0))),(4,.sc ((.ptr b5 0))),(12,.sc (.int .i64 (((mget MC0 (x23:List UInt8)).getD 0)))),(13,.sc v194),(22,.sc v240)]∧ChM S0 S263∧Bw S263 2 (.ptr b1 0) [vt0_0,vt0_1]∧Rd Y59 S263 vt0_0 t0.1∧Rd Y118 S263 vt0_1 t0.2∧Bw S263 3 (.ptr b5 0) [v195,v196]∧Rd Y59 S263 v195 b192.2.1∧Rd Y118 S263 v196 b192.2.2∧Ow Y3 S263 10 v194 b192.1∧Bk Y67 S263 13 v240 b) b261) ?_ ?_
  ·have h:=e262
   dsimp only at h ⊢
   refine ci h (fun q256 h=>?_) fun q256 h=>?_
   ·obtain ⟨x257,e258,h⟩:=bindS h
    refine go ?_
    refine WO.stB (j:=0) (q:=3) (u':=(b251.1,b251.2.1,b251.2.2.1,x257)) rfl rfl rfl tr (by rfl) (by decide) (by rfl) (by rfl) (fun S259 c260 ho243=>?_)
    cases h;refine go ?_
    exact fn
   cases h;refine go ?_
   exact fn
  dsimp only
  rintro _ _ _ _ ⟨rfl,⟨S264,rfl,rfl,hc265,hM,ho4,hot0_0,hot0_1,ho8,ho8c0,ho8c1,ho13,ho243⟩⟩
  obtain ⟨b271,e272,h⟩:=bindS h
  refine go ?_
  refine WC.mono (Q':=(fun b e l' m' n'=>e = .normal∧∃ S273:Cx fl,S273.m = m'∧S273.n = n'∧Cov l' [(2,.sc ((.ptr b1 0))),(4,.sc ((.ptr b5 0))),(12,.sc (.int .i64 (((mget MC0 (x23:List UInt8)).getD 0)))),(22,.sc v240)]∧ChM S0 S273∧Bw S273 2 (.ptr b1 0) [vt0_0,vt0_1]∧Rd Y59 S273 vt0_0 t0.1∧Rd Y118 S273 vt0_1 t0.2∧Bw S273 3 (.ptr b5 0) [v195,v196]∧Rd Y59 S273 v195 b192.2.1∧Rd Y118 S273 v196 b192.2.2∧Bk Y67 S273 13 v240 b) b271) ?_ ?_
  ·have h:=e272
   dsimp only at h ⊢
   refine ci h (fun q266 h=>?_) fun q266 h=>?_
   ·obtain ⟨x267,e268,h⟩:=bindS h
    refine go ?_
    refine WO.stB (j:=0) (q:=1) (u':=(b261.1,x267,b261.2.2.1,b261.2.2.2)) rfl rfl rfl tr (by rfl) (by decide) (by rfl) (by rfl) (fun S269 c270 ho243=>?_)
    cases h;refine go ?_
    exact fn
   cases h;refine go ?_
   exact fn
  dsimp only
  rintro _ _ _ _ ⟨rfl,⟨S274,rfl,rfl,hc275,hM,ho4,hot0_0,hot0_1,ho8,ho8c0,ho8c1,ho243⟩⟩
  obtain ⟨r276,e277,h⟩:=bindS h
  refine go ?_
  refine WO.callG (S:=S274) [] [] rfl rfl (F25_ok (S0:=S274.mp []) e277 mq mq) (fun _ S282 S283 hb hR=>?_)
  obtain ⟨v278,v280,rfl,hR0,hR1⟩:=hR
  have c284:Ch 1 S274 S283:=hb.ch [] 1
  have ho279:=hR0.bkS hb rfl
  have ho281:=hR1.bkS hb rfl
  refine go ?_
  refine WO.alS (A:=Y69) (z0:=(([],0):(List UInt8) × Int)) 14 rfl rfl rfl (fun v285 S286 c287 ho288=>?_)
  refine WO.stW (r:=[v278,v280]) rfl pa rfl rfl tr rfl rfl rfl rfl rfl (fun S289 c290 ho4=>?_)
  refine WO.stBA (u':=(r276.2.1.1,r276.2.1.2)) rfl pa rfl tr rfl rfl (fun S291 c292 ho288=>?_)
  refine go ?_
  refine ci h (fun q293 h=>?_) fun q293 h=>?_
  ·obtain ⟨r294,e295,h⟩:=bindS h
   refine go ?_
   refine WO.callE rfl rfl (F22_ok e295) (fun S296 c297=>?_)
   refine WO.stW (r:=[v278,v280]) rfl pa rfl rfl tr rfl rfl rfl rfl rfl (fun S298 c299 ho8=>?_)
   cases h;refine go ?_
   exact fn
  refine go ?_
  refine ci h (fun q301 h=>?_) fun q301 h=>?_
  ·refine go ?_
   refine WO.stW (r:=[v278,v280]) rfl pa rfl rfl tr rfl rfl rfl rfl rfl (fun S302 c303 ho8=>?_)
   cases h;refine go ?_
   exact fn
  obtain ⟨x315,e316,h⟩:=bindS h
  obtain ⟨r317,e318,h⟩:=bindS h
  refine go ?_
  refine WO.callE rfl rfl (F14_ok e318) (fun S319 c320=>?_)
  obtain ⟨x332,e333,h⟩:=bindS h
  refine go ?_
  refine WO.stW (r:=[v278,v280]) rfl pa rfl rfl tr rfl rfl rfl rfl rfl (fun S334 c335 ho8=>?_)
  refine go ?_
  refine dy S291 S334 [(2,8)] ?_
  cases h;refine go ?_
  exact fn
 | inr b192=>
  simp only at h
  rintro _ _ _ _ ⟨rfl,⟨S378,v379,v380,rfl,rfl,hc381,hM,ho8,ho8c0,ho8c1⟩⟩
  cases h;refine go ?_
  exact fn
end Go.Proofs.YtaphdnpjpmnaeadGreatDoor

/- Towards castlaw.DeskSays, part 6: joined by a program of ours. -/
import Derived.Test.YtaphdnpjpmnaeadGreatDoorA5
set_option linter.unusedVariables false
set_option linter.unusedSimpArgs false
set_option linter.unusedSectionVars false
namespace Go.Proofs.YtaphdnpjpmnaeadGreatDoor
set_option maxHeartbeats 4000000
set_option maxRecDepth 20000
open Go.Am
theorem F25.fn:E.fn 25 = some (fi 364 Tryz.f25 [1,1000004,1000016,1000018,1000020,1000024,1000026,1000028,1000030,1000032,1000039,1000045,1000047,1000049,1000051,1000068,1000070,1000071]):=rfl
theorem F25_ok {F:Nat} {fl:Nat} {S0:Cx fl} {r:((List ((List UInt8) × Int × Int)) × (List ((List UInt8) × (List UInt8) × Int))) × ((List UInt8) × Int) × Int} {t0:(List ((List UInt8) × Int × Int)) × (List ((List UInt8) × (List UInt8) × Int))} {t1:Int × Int × (List UInt8) × (List UInt8)} {vt0_0:SV} {vt0_1:SV} (h:F25 F t0 t1 = some r) (hot0_0:Rd Y59 S0 vt0_0 t0.1) (hot0_1:Rd Y118 S0 vt0_1 t0.2):Ret E fl 25 [.agg [vt0_0,vt0_1],.agg [.int .i64 t1.1,.int .i64 t1.2.1,.str t1.2.2.1,.str t1.2.2.2]] S0.m S0.n (fun v m' n'=>∃ S':Cx fl,S'.m = m'∧S'.n = n'∧ChM S0 S'∧(∃ w1894 w1895:SV,v = .tup [.agg [w1894,w1895],.agg [.str r.2.1.1,.int .i64 r.2.1.2],.sc (.int .i64 r.2.2)]∧Rd Y59 S' w1894 r.1.1∧Rd Y118 S' w1895 r.1.2)):=by
 unfold F25 at h
 refine Ret.walk F25.fn ?_
 have hM:=ChM.refl S0
 refine go ?_
 refine WO.bxW (cs:=[vt0_0,vt0_1]) 2 rfl rfl rfl (fun b1 S2 c3 ho4=>?_)
 refine WO.bxS (A:=Y67) (u:=(t1.1,t1.2.1,t1.2.2.1,t1.2.2.2)) 3 rfl rfl rfl rfl (fun v5 S6 c7 ho8=>?_)
 refine WO.alW (cs:=[.nils,.nils]) 4 rfl rfl rfl (fun b9 S10 c11 ho12=>?_)
 refine WO.alS (A:=Y69) (z0:=(([],0):(List UInt8) × Int)) 5 rfl rfl rfl (fun v13 S14 c15 ho16=>?_)
 obtain ⟨r17,e18,h⟩:=bindS h
 refine go ?_
 refine WO.callF 6 rfl rfl (F58_ok e18 vw) Lay.flat_fl (fun v19 S21 c22 ho20=>?_)
 obtain ⟨r23,e24,h⟩:=bindS h
 refine go ?_
 refine WO.callF 7 rfl rfl (F59_ok e24 vw) Lay.flat_fl (fun v25 S27 c28 ho26=>?_)
 refine go ?_
 refine WO.stW (r:=[v19,vt0_1]) rfl rfl rfl rfl tr rfl rfl rfl rfl rfl (fun S29 c30 ho4=>?_)
 refine go ?_
 refine WO.stW (r:=[v19,v25]) rfl rfl rfl rfl tr rfl rfl rfl rfl rfl (fun S31 c32 ho4=>?_)
 refine go ?_
 refine WO.alS (A:=Y69) (z0:=(([],0):(List UInt8) × Int)) 8 rfl rfl rfl (fun v33 S34 c35 ho36=>?_)
 refine WO.stBA (u':=(([],0):(List UInt8) × Int)) rfl pa rfl tr rfl rfl (fun S37 c38 ho36=>?_)
 refine go ?_
 refine WO.cutB (d:=35) 4 ((decide (((t1.1,t1.2.1,t1.2.2.1,t1.2.2.2)).1 < 1)) || (decide (((t1.1,t1.2.1,t1.2.2.1,t1.2.2.2)).1 > 7))) (fun q39=>?_) (fun q39=>?_) ?_
 ·refine go ?_;exact cu
 ·refine go ?_;exact cu
 refine go ?_
 refine ci h (fun q40 h=>?_) fun q40 h=>?_
 ·refine go ?_
  refine WO.stW (r:=[v19,v25]) rfl pa rfl rfl tr rfl rfl rfl rfl rfl (fun S50 c51 ho12=>?_)
  refine WO.stBA (u':=((((([],0):(List UInt8) × Int)).1,((([],0):(List UInt8) × Int)).2):(List UInt8) × Int)) rfl pa rfl tr rfl rfl (fun S62 c63 ho16=>?_)
  refine go ?_
  refine dy S37 S62 [(1,2)] ?_
  cases h;refine go ?_
  exact ⟨.inr rfl,_,_,rk,rfl,sx ((S62.drop 6).drop 7)⟩
 obtain ⟨r111,e112,h⟩:=bindS h
 refine go ?_
 refine WO.callG (S:=S37) [(6,0),(7,0)] [(902,9),(904,10)] rfl rfl (F60_ok (S0:=S37.mp [(6,0),(7,0)]) e112 mq mq) (fun _ S117 S118 hb hR=>?_)
 obtain ⟨v113,v115,rfl,hR0,hR1⟩:=hR
 have c119:Ch 1 S37 S118:=hb.ch [] 1
 have ho114:=hR0.bkF (k:=9) hb rfl Lay.flat_fl
 have ho116:=hR1.bkF (k:=10) hb rfl Lay.flat_fl
 refine go ?_
 refine WO.cutB (d:=50) 4 ((((t1.1,t1.2.1,t1.2.2.1,t1.2.2.2)).1 == 5) || (((t1.1,t1.2.1,t1.2.2.1,t1.2.2.2)).1 == 7)) (fun q120=>?_) (fun q120=>?_) ?_
 ·refine go ?_;exact cu
 ·refine go ?_;exact cu
 refine go ?_
 refine ci h (fun q121 h=>?_) fun q121 h=>?_
 ·obtain ⟨b137,e138,h⟩:=bindS h
  refine go ?_
  refine WC.mono (Q':=(fun b e l' m' n'=>e = .normal∧∃ S139:Cx fl,S139.m = m'∧S139.n = n'∧Cov l' [(2,.sc ((.ptr b1 0))),(4,.sc ((.ptr b9 0))),(5,.sc v13),(7,.sc v33),(10,.sc (.int .i64 b.1)),(11,.sc (.int .i64 b.2))]∧ChM S0 S139∧Bw S139 2 (.ptr b1 0) [v19,v25]∧Ow Y59 S139 6 v19 r17∧Ow Y118 S139 7 v25 r23∧Bw S139 4 (.ptr b9 0) [.nils,.nils]∧Bk Y69 S139 5 v13 ((([],0):(List UInt8) × Int))∧Bk Y69 S139 8 v33 ((([],0):(List UInt8) × Int))) b137) ?_ ?_
  ·have h:=e138
   dsimp only at h ⊢
   refine ci h (fun q122 h=>?_) fun q122 h=>?_
   ·obtain ⟨r123,e124,h⟩:=bindS h
    refine go ?_
    refine WO.callE rfl rfl (F61_ok e124 vw) (fun S125 c126=>?_)
    cases h;refine go ?_
    exact fn
   obtain ⟨r127,e128,h⟩:=bindS h
   refine go ?_
   refine WO.callE rfl rfl (F62_63_ok e128 vw) (fun S129 c130=>?_)
   refine go ?_
   refine ci h (fun q131 h=>?_) fun q131 h=>?_
   ·cases h;refine go ?_
    exact fn
   obtain ⟨r132,e133,h⟩:=bindS h
   refine go ?_
   refine WO.callE rfl rfl (F64_ok e133 vw vw) (fun S134 c135=>?_)
   refine go ?_
   refine ci h (fun q136 h=>?_) fun q136 h=>?_
   ·cases h;refine go ?_
    exact fn
   cases h;refine go ?_
   exact fn
  dsimp only
  rintro _ _ _ _ ⟨rfl,⟨S140,rfl,rfl,hc141,hM,ho4,ho20,ho26,ho12,ho16,ho36⟩⟩
  refine go ?_
  refine ci h (fun q142 h=>?_) fun q142 h=>?_
  ·refine go ?_
   refine WO.stW (r:=[v19,v25]) rfl pa rfl rfl tr rfl rfl rfl rfl rfl (fun S149 c150 ho12=>?_)
   refine WO.stBA (u':=((((([],0):(List UInt8) × Int)).1,((([],0):(List UInt8) × Int)).2):(List UInt8) × Int)) rfl pa rfl tr rfl rfl (fun S158 c159 ho16=>?_)
   refine go ?_
   refine dy S140 S158 [(1,3)] ?_
   cases h;refine go ?_
   exact ⟨.inr rfl,_,_,rk,rfl,sx ((S158.drop 6).drop 7)⟩
  obtain ⟨x184,e185,h⟩:=bindS h
  have h:=bindE e185 h
  refine go ?_
  refine WO.stF (q:=2) (u':=(x184.1,x184.2.1,(wrapA .i64 (x184.2.2 + 1)))) rfl rfl tr gt (by rfl) (by decide) (by rfl) (by rfl) (fun S188 c189 ho20=>?_)
  obtain ⟨x196,e197,h⟩:=bindS h
  have h:=bindE e197 h
  refine go ?_
  refine WO.stW (r:=[v19,v25]) rfl pa rfl rfl tr rfl rfl rfl rfl rfl (fun S200 c201 ho12=>?_)
  refine WO.stBA (u':=(x196.1,x196.2.2)) rfl pa rfl tr rfl rfl (fun S209 c210 ho16=>?_)
  refine go ?_
  refine dy S188 S209 [(2,14),(6,14),(8,14),(12,14)] ?_
  cases h;refine go ?_
  exact ⟨.inr rfl,_,_,rk,rfl,sx ((S209.drop 6).drop 7)⟩
 obtain ⟨r235,e236,h⟩:=bindS h
 refine go ?_
 refine WO.callE rfl rfl (F65_ok e236) (fun S237 c238=>?_)
 refine go ?_
 refine ci h (fun q239 h=>?_) fun q239 h=>?_
 ·refine go ?_
  refine WO.stW (r:=[v19,v25]) rfl pa rfl rfl tr rfl rfl rfl rfl rfl (fun S251 c252 ho12=>?_)
  refine WO.stBA (u':=((((([],0):(List UInt8) × Int)).1,((([],0):(List UInt8) × Int)).2):(List UInt8) × Int)) rfl pa rfl tr rfl rfl (fun S265 c266 ho16=>?_)
  refine go ?_
  refine dy S237 S265 [(1,2)] ?_
  cases h;refine go ?_
  exact ⟨.inr rfl,_,_,rk,rfl,sx ((S265.drop 6).drop 7)⟩
 obtain ⟨r335,e336,h⟩:=bindS h
 refine go ?_
 refine WO.callE rfl rfl (F66_ok e336 vw vw) (fun S337 c338=>?_)
 refine go ?_
 refine ci h (fun q339 h=>?_) fun q339 h=>?_
 ·refine go ?_
  refine ci h (fun q340 h=>?_) fun q340 h=>?_
  ·refine go ?_
   refine WO.stW (r:=[v19,v25]) rfl pa rfl rfl tr rfl rfl rfl rfl rfl (fun S352 c353 ho12=>?_)
   refine WO.stBA (u':=((((([],0):(List UInt8) × Int)).1,((([],0):(List UInt8) × Int)).2):(List UInt8) × Int)) rfl pa rfl tr rfl rfl (fun S366 c367 ho16=>?_)
   refine go ?_
   refine dy S337 S366 [(1,2)] ?_
   cases h;refine go ?_
   exact ⟨.inr rfl,_,_,rk,rfl,sx ((S366.drop 6).drop 7)⟩
  refine go ?_
  refine WO.cutB (d:=122) 4 ((decide (((t1.1,t1.2.1,t1.2.2.1,t1.2.2.2)).2.1 < 0)) || (decide (((t1.1,t1.2.1,t1.2.2.1,t1.2.2.2)).2.1 > 100))) (fun q436=>?_) (fun q436=>?_) ?_
  ·refine go ?_;exact cu
  ·refine go ?_;exact cu
  refine go ?_
  refine ci h (fun q437 h=>?_) fun q437 h=>?_
  ·refine go ?_
   refine WO.stW (r:=[v19,v25]) rfl pa rfl rfl tr rfl rfl rfl rfl rfl (fun S449 c450 ho12=>?_)
   refine WO.stBA (u':=((((([],0):(List UInt8) × Int)).1,((([],0):(List UInt8) × Int)).2):(List UInt8) × Int)) rfl pa rfl tr rfl rfl (fun S463 c464 ho16=>?_)
   refine go ?_
   refine dy S337 S463 [(1,2)] ?_
   cases h;refine go ?_
   exact ⟨.inr rfl,_,_,rk,rfl,sx ((S463.drop 6).drop 7)⟩
  refine go ?_
  refine ci h (fun q533 h=>?_) fun q533 h=>?_
  ·refine go ?_
   refine WO.stW (r:=[v19,v25]) rfl pa rfl rfl tr rfl rfl rfl rfl rfl (fun S545 c546 ho12=>?_)
   refine WO.stBA (u':=((((([],0):(List UInt8) × Int)).1,((([],0):(List UInt8) × Int)).2):(List UInt8) × Int)) rfl pa rfl tr rfl rfl (fun S559 c560 ho16=>?_)
   refine go ?_
   refine dy S337 S559 [(1,2)] ?_
   cases h;refine go ?_
   exact ⟨.inr rfl,_,_,rk,rfl,sx ((S559.drop 6).drop 7)⟩
  refine go ?_
  refine WO.bsS (A:=Y59) (M:=[(((t1.1,t1.2.1,t1.2.2.1,t1.2.2.2)).2.2.1,((t1.1,t1.2.1,t1.2.2.1,t1.2.2.2)).2.1,0)]) (cs:=[.str (((t1.1,t1.2.1,t1.2.2.1,t1.2.2.2)).2.2.1),.int .i64 (((t1.1,t1.2.1,t1.2.2.1,t1.2.2.2)).2.1),.int .i64 0]) 11 rfl rfl rfl ⟨[.str (((t1.1,t1.2.1,t1.2.2.1,t1.2.2.2)).2.2.1),.int .i64 (((t1.1,t1.2.1,t1.2.2.1,t1.2.2.2)).2.1),.int .i64 0],_,rfl,rfl,rfl⟩ rfl (fun v629 S630 c631 ho632=>?_)
  obtain ⟨L633,e634,h⟩:=bindS h
  refine WO.appSB rfl rfl tr ro e634 rfl rfl rfl (fun v635 S636 c637 ho638=>?_)
  refine go ?_
  refine WO.stW (r:=[v635,v25]) rfl rfl rfl rfl tr rfl rfl rfl rfl rfl (fun S639 c640 ho4=>?_)
  refine go ?_
  refine WO.stW (r:=[v635,v25]) rfl pa rfl rfl tr rfl rfl rfl rfl rfl (fun S653 c654 ho12=>?_)
  refine WO.stBA (u':=((((([],0):(List UInt8) × Int)).1,((([],0):(List UInt8) × Int)).2):(List UInt8) × Int)) rfl pa rfl tr rfl rfl (fun S668 c669 ho16=>?_)
  refine go ?_
  refine dy S639 S668 [(1,2)] ?_
  cases h;refine go ?_
  exact ⟨.inr rfl,_,_,rk,rfl,sx ((S668.drop 6).drop 7)⟩
 refine go ?_
 refine ci h (fun q750 h=>?_) fun q750 h=>?_
 ·refine go ?_
  refine WO.stW (r:=[v19,v25]) rfl pa rfl rfl tr rfl rfl rfl rfl rfl (fun S762 c763 ho12=>?_)
  refine WO.stBA (u':=((((([],0):(List UInt8) × Int)).1,((([],0):(List UInt8) × Int)).2):(List UInt8) × Int)) rfl pa rfl tr rfl rfl (fun S776 c777 ho16=>?_)
  refine go ?_
  refine dy S337 S776 [(1,2)] ?_
  cases h;refine go ?_
  exact ⟨.inr rfl,_,_,rk,rfl,sx ((S776.drop 6).drop 7)⟩
 refine go ?_
 refine ci h (fun q846 h=>?_) fun q846 h=>?_
 ·obtain ⟨b955,e956,h⟩:=bindS h
  refine go ?_
  refine WC.loopD e956 (fun s847 l' m' n'=>∃ S850:Cx fl,∃ v851 v852:SV,S850.m = m'∧S850.n = n'∧Cov l' [(2,.sc ((.ptr b1 0))),(3,.sc v5),(4,.sc ((.ptr b9 0))),(5,.sc v13),(7,.sc v33),(12,.sc (.int .i64 r335)),(153,.sc v25),(154,.sc (.int .i64 ((r23.length:Int)))),(155,.sc (.int .i64 s847.1))]∧ChM S0 S850∧Bw S850 2 (.ptr b1 0) [v19,v25]∧Ow Y59 S850 6 v19 r17∧Ow Y118 S850 7 v25 r23∧Bk Y67 S850 3 v5 ((t1.1,t1.2.1,t1.2.2.1,t1.2.2.2))∧Bw S850 4 (.ptr b9 0) [v851,v852]∧Bk Y69 S850 5 v13 s847.2.2.2∧Bk Y69 S850 8 v33 ((([],0):(List UInt8) × Int))∧Rd Y59 S850 v851 s847.2.1∧Rd Y118 S850 v852 s847.2.2.1) (fun b e l' m' n'=>(match b with | .inl b853=>e = .exit 2∧∃ S854:Cx fl,∃ v855 v856:SV,S854.m = m'∧S854.n = n'∧Cov l' [(2,.sc ((.ptr b1 0))),(4,.sc ((.ptr b9 0))),(5,.sc v13),(7,.sc v33),(12,.sc (.int .i64 r335))]∧ChM S0 S854∧Bw S854 2 (.ptr b1 0) [v19,v25]∧Ow Y59 S854 6 v19 r17∧Ow Y118 S854 7 v25 r23∧Bw S854 4 (.ptr b9 0) [v855,v856]∧Bk Y69 S854 5 v13 b853.2.2∧Bk Y69 S854 8 v33 ((([],0):(List UInt8) × Int))∧Rd Y59 S854 v855 b853.1∧Rd Y118 S854 v856 b853.2.1 | .inr b853=>e = .ret∧∃ S857:Cx fl,∃ v858 v859:SV,S857.m = m'∧S857.n = n'∧Cov l' [(4,.sc ((.ptr b9 0))),(5,.sc v13),(6,.sc (.int .i64 b853.1))]∧ChM S0 S857∧Bw S857 4 (.ptr b9 0) [v858,v859]∧Bk Y69 S857 5 v13 b853.2.2.2∧Rd Y59 S857 v858 b853.2.1∧Rd Y118 S857 v859 b853.2.2.1)) fn ?_ ?_
  ·rintro s847 q _ _ _ ⟨S860,v861,v862,rfl,rfl,hc863,hM,ho4,ho20,ho26,ho8,ho12,ho16,ho36,ho12c0,ho12c1⟩ h
   unfold F25_l0 at h
   refine go ?_
   refine ci h (fun q864 h=>?_) fun q864 h=>?_
   ·obtain ⟨x865,e866,h⟩:=bindS h
    refine go ?_
    refine WO.alS (A:=Y118) (z0:=(([],[],0):(List UInt8) × (List UInt8) × Int)) 12 rfl rfl rfl (fun v867 S868 c869 ho870=>?_)
    refine WO.stBA (u':=(x865.1,x865.2.1,x865.2.2)) rfl pa rfl tr rfl rfl (fun S871 c872 ho870=>?_)
    refine go ?_
    refine WO.cutB (d:=170) 6 ((((x865.1,x865.2.1,x865.2.2)).1 == ((t1.1,t1.2.1,t1.2.2.1,t1.2.2.2)).2.2.1) || (((x865.1,x865.2.1,x865.2.2)).2.1 == ((t1.1,t1.2.1,t1.2.2.1,t1.2.2.2)).2.2.1)) (fun q873=>?_) (fun q873=>?_) ?_
    ·refine go ?_;exact cu
    ·refine go ?_;exact cu
    refine go ?_
    refine ci h (fun q874 h=>?_) fun q874 h=>?_
    ·refine go ?_
     refine WO.stW (r:=[v19,v25]) rfl pa rfl rfl tr rfl rfl rfl rfl rfl (fun S885 c886 ho12=>?_)
     refine WO.stBA (u':=((((([],0):(List UInt8) × Int)).1,((([],0):(List UInt8) × Int)).2):(List UInt8) × Int)) rfl pa rfl tr rfl rfl (fun S898 c899 ho16=>?_)
     refine go ?_
     refine dy S871 S898 [(1,2)] ?_
     cases h;refine go ?_
     exact ⟨_,rfl,rfl,sx ((S898.drop 6).drop 7)⟩
    cases h;refine go ?_
    exact fn
   cases h;refine go ?_
   exact fn
  cases b955 with
  | inl b957=>
   simp only at h
   rintro _ _ _ _ ⟨rfl,⟨S958,v959,v960,rfl,rfl,hc961,hM,ho4,ho20,ho26,ho12,ho16,ho36,ho12c0,ho12c1⟩⟩
   obtain ⟨L962,e963,h⟩:=bindS h
   refine go ?_
   refine WO.slcP rfl rfl tr e963 rfl (fun v964 ho965 hO966=>?_)
   obtain ⟨L967,e968,h⟩:=bindS h
   refine go ?_
   refine WO.slc (k':=.i64) rfl (.inl ⟨_,rfl,rfl⟩) (.inr ⟨rfl,rfl⟩) (wk (S:=S958)) e968 rfl (fun v969 ho970=>?_)
   have ho970:Wk Y59 S958 6 v969 L967:=ho970
   obtain ⟨L971,e972,h⟩:=bindS h
   refine WO.appSB rfl rfl hO966 ro e972 rfl rfl rfl (fun v973 S974 c975 ho976=>?_)
   refine go ?_
   refine WO.stW (r:=[v973,v25]) rfl rfl rfl rfl tr rfl rfl rfl rfl rfl (fun S977 c978 ho4=>?_)
   refine go ?_
   refine WO.stW (r:=[v973,v25]) rfl pa rfl rfl tr rfl rfl rfl rfl rfl (fun S987 c988 ho12=>?_)
   refine WO.stBA (u':=((((([],0):(List UInt8) × Int)).1,((([],0):(List UInt8) × Int)).2):(List UInt8) × Int)) rfl pa rfl tr rfl rfl (fun S998 c999 ho16=>?_)
   refine go ?_
   refine dy S977 S998 [(1,2)] ?_
   cases h;refine go ?_
   exact ⟨.inr rfl,_,_,rk,rfl,sx ((S998.drop 6).drop 7)⟩
  | inr b957=>
   simp only at h
   rintro _ _ _ _ ⟨rfl,⟨S1038,v1039,v1040,rfl,rfl,hc1041,hM,ho12,ho16,ho12c0,ho12c1⟩⟩
   cases h;refine go ?_
   exact fn
 refine go ?_
 refine ci h (fun q1044 h=>?_) fun q1044 h=>?_
 ·obtain ⟨r1045,e1046,h⟩:=bindS h
  refine go ?_
  refine WO.callE rfl rfl (F66_ok e1046 vw vw) (fun S1047 c1048=>?_)
  refine go ?_
  refine ci h (fun q1049 h=>?_) fun q1049 h=>?_
  ·refine go ?_
   refine WO.stW (r:=[v19,v25]) rfl pa rfl rfl tr rfl rfl rfl rfl rfl (fun S1061 c1062 ho12=>?_)
   refine WO.stBA (u':=((((([],0):(List UInt8) × Int)).1,((([],0):(List UInt8) × Int)).2):(List UInt8) × Int)) rfl pa rfl tr rfl rfl (fun S1075 c1076 ho16=>?_)
   refine go ?_
   refine dy S1047 S1075 [(1,2)] ?_
   cases h;refine go ?_
   exact ⟨.inr rfl,_,_,rk,rfl,sx ((S1075.drop 6).drop 7)⟩
  refine go ?_
  refine WO.cutB (d:=204) 4 ((r1045 == r335) || (decide (((t1.1,t1.2.1,t1.2.2.1,t1.2.2.2)).2.1 < 1))) (fun q1145=>?_) (fun q1145=>?_) ?_
  ·refine go ?_;exact cu
  ·refine go ?_;exact cu
  refine go ?_
  refine ci h (fun q1146 h=>?_) fun q1146 h=>?_
  ·refine go ?_
   refine WO.stW (r:=[v19,v25]) rfl pa rfl rfl tr rfl rfl rfl rfl rfl (fun S1158 c1159 ho12=>?_)
   refine WO.stBA (u':=((((([],0):(List UInt8) × Int)).1,((([],0):(List UInt8) × Int)).2):(List UInt8) × Int)) rfl pa rfl tr rfl rfl (fun S1172 c1173 ho16=>?_)
   refine go ?_
   refine dy S1047 S1172 [(1,2)] ?_
   cases h;refine go ?_
   exact ⟨.inr rfl,_,_,rk,rfl,sx ((S1172.drop 6).drop 7)⟩
  obtain ⟨x1242,e1243,h⟩:=bindS h
  refine go ?_
  refine ci h (fun q1244 h=>?_) fun q1244 h=>?_
  ·refine go ?_
   refine WO.stW (r:=[v19,v25]) rfl pa rfl rfl tr rfl rfl rfl rfl rfl (fun S1256 c1257 ho12=>?_)
   refine WO.stBA (u':=((((([],0):(List UInt8) × Int)).1,((([],0):(List UInt8) × Int)).2):(List UInt8) × Int)) rfl pa rfl tr rfl rfl (fun S1270 c1271 ho16=>?_)
   refine go ?_
   refine dy S1047 S1270 [(1,2)] ?_
   cases h;refine go ?_
   exact ⟨.inr rfl,_,_,rk,rfl,sx ((S1270.drop 6).drop 7)⟩
  obtain ⟨x1340,e1341,h⟩:=bindS h
  refine go ?_
  refine ci h (fun q1342 h=>?_) fun q1342 h=>?_
  ·refine go ?_
   refine WO.stW (r:=[v19,v25]) rfl pa rfl rfl tr rfl rfl rfl rfl rfl (fun S1354 c1355 ho12=>?_)
   refine WO.stBA (u':=((((([],0):(List UInt8) × Int)).1,((([],0):(List UInt8) × Int)).2):(List UInt8) × Int)) rfl pa rfl tr rfl rfl (fun S1368 c1369 ho16=>?_)
   refine go ?_
   refine dy S1047 S1368 [(1,2)] ?_
   cases h;refine go ?_
   exact ⟨.inr rfl,_,_,rk,rfl,sx ((S1368.drop 6).drop 7)⟩
  obtain ⟨x1438,e1439,h⟩:=bindS h
  have h:=bindE e1439 h
  refine go ?_
  refine WO.stF (q:=1) (u':=(x1438.1,(wrapA .i64 (x1438.2.1 - ((t1.1,t1.2.1,t1.2.2.1,t1.2.2.2)).2.1)),x1438.2.2)) rfl rfl tr gt (by rfl) (by decide) (by rfl) (by rfl) (fun S1442 c1443 ho20=>?_)
  obtain ⟨x1444,e1445,h⟩:=bindS h
  have h:=bindE e1445 h
  refine go ?_
  refine WO.stF (q:=1) (u':=(x1444.1,(wrapA .i64 (x1444.2.1 + ((t1.1,t1.2.1,t1.2.2.1,t1.2.2.2)).2.1)),x1444.2.2)) rfl rfl tr gt (by rfl) (by decide) (by rfl) (by rfl) (fun S1448 c1449 ho20=>?_)
  refine go ?_
  refine WO.bsS (A:=Y118) (M:=[(((t1.1,t1.2.1,t1.2.2.1,t1.2.2.2)).2.2.1,((t1.1,t1.2.1,t1.2.2.1,t1.2.2.2)).2.2.2,((t1.1,t1.2.1,t1.2.2.1,t1.2.2.2)).2.1)]) (cs:=[.str (((t1.1,t1.2.1,t1.2.2.1,t1.2.2.2)).2.2.1),.str (((t1.1,t1.2.1,t1.2.2.1,t1.2.2.2)).2.2.2),.int .i64 (((t1.1,t1.2.1,t1.2.2.1,t1.2.2.2)).2.1)]) 13 rfl rfl rfl ⟨[.str (((t1.1,t1.2.1,t1.2.2.1,t1.2.2.2)).2.2.1),.str (((t1.1,t1.2.1,t1.2.2.1,t1.2.2.2)).2.2.2),.int .i64 (((t1.1,t1.2.1,t1.2.2.1,t1.2.2.2)).2.1)],_,rfl,rfl,rfl⟩ rfl (fun v1450 S1451 c1452 ho1453=>?_)
  obtain ⟨L1454,e1455,h⟩:=bindS h
  refine WO.appSB rfl rfl tr ro e1455 rfl rfl rfl (fun v1456 S1457 c1458 ho1459=>?_)
  refine go ?_
  refine WO.stW (r:=[v19,v1456]) rfl rfl rfl rfl tr rfl rfl rfl rfl rfl (fun S1460 c1461 ho4=>?_)
  refine go ?_
  refine WO.stW (r:=[v19,v1456]) rfl pa rfl rfl tr rfl rfl rfl rfl rfl (fun S1474 c1475 ho12=>?_)
  refine WO.stBA (u':=((((([],0):(List UInt8) × Int)).1,((([],0):(List UInt8) × Int)).2):(List UInt8) × Int)) rfl pa rfl tr rfl rfl (fun S1489 c1490 ho16=>?_)
  refine go ?_
  refine dy S1460 S1489 [(1,2)] ?_
  cases h;refine go ?_
  exact ⟨.inr rfl,_,_,rk,rfl,sx ((S1489.drop 6).drop 7)⟩
 refine go ?_
 refine ci h (fun q1571 h=>?_) fun q1571 h=>?_
 ·obtain ⟨b1645,e1646,h⟩:=bindS h
  refine go ?_
  refine WC.loopD e1646 (fun s1572 l' m' n'=>∃ S1575:Cx fl,∃ v1576 v1577:SV,S1575.m = m'∧S1575.n = n'∧Cov l' [(2,.sc ((.ptr b1 0))),(3,.sc v5),(4,.sc ((.ptr b9 0))),(5,.sc v13),(12,.sc (.int .i64 r335)),(16,.sc (.int .i64 s1572.1)),(17,.sc (.int .i64 s1572.2.1))]∧ChM S0 S1575∧Bw S1575 2 (.ptr b1 0) [v1576,v1577]∧Bk Y67 S1575 3 v5 ((t1.1,t1.2.1,t1.2.2.1,t1.2.2.2))∧Bw S1575 4 (.ptr b9 0) [.nils,.nils]∧Bk Y69 S1575 5 v13 ((([],0):(List UInt8) × Int))∧Ow Y59 S1575 6 v1576 s1572.2.2.1∧Ow Y118 S1575 7 v1577 s1572.2.2.2) (fun b e l' m' n'=>e = .exit 5∧∃ S1578:Cx fl,∃ v1579 v1580:SV,S1578.m = m'∧S1578.n = n'∧Cov l' [(2,.sc ((.ptr b1 0))),(3,.sc v5),(4,.sc ((.ptr b9 0))),(5,.sc v13),(16,.sc (.int .i64 b.1))]∧ChM S0 S1578∧Bw S1578 2 (.ptr b1 0) [v1579,v1580]∧Bk Y67 S1578 3 v5 ((t1.1,t1.2.1,t1.2.2.1,t1.2.2.2))∧Bw S1578 4 (.ptr b9 0) [.nils,.nils]∧Bk Y69 S1578 5 v13 ((([],0):(List UInt8) × Int))∧Ow Y59 S1578 6 v1579 b.2.1∧Ow Y118 S1578 7 v1580 b.2.2) fn ?_ ?_
  ·rintro s1572 q _ _ _ ⟨S1581,v1582,v1583,rfl,rfl,hc1584,hM,ho4,ho8,ho12,ho16,ho4c0,ho4c1⟩ h
   unfold F25_l2 at h
   refine go ?_
   refine ci h (fun q1585 h=>?_) fun q1585 h=>?_
   ·obtain ⟨x1586,e1587,h⟩:=bindS h
    refine go ?_
    refine ci h (fun q1588 h=>?_) fun q1588 h=>?_
    ·cases h;refine go ?_
     exact fn
    have h:=bindE e1587 h
    obtain ⟨r1591,e1592,h⟩:=bindS h
    refine go ?_
    refine WO.callE rfl rfl (F66_ok e1592 vw vw) (fun S1593 c1594=>?_)
    obtain ⟨b1639,e1640,h⟩:=bindS h
    refine go ?_
    refine WC.loopD e1640 (fun s1595 l' m' n'=>∃ S1598:Cx fl,∃ v1599 v1600:SV,S1598.m = m'∧S1598.n = n'∧Cov l' [(2,.sc ((.ptr b1 0))),(3,.sc v5),(4,.sc ((.ptr b9 0))),(5,.sc v13),(12,.sc (.int .i64 r335)),(16,.sc (.int .i64 s1595.1)),(17,.sc (.int .i64 s1572.2.1)),(18,.sc (.int .i64 r1591))]∧ChM S0 S1598∧Bw S1598 2 (.ptr b1 0) [v1599,v1600]∧Bk Y67 S1598 3 v5 ((t1.1,t1.2.1,t1.2.2.1,t1.2.2.2))∧Bw S1598 4 (.ptr b9 0) [.nils,.nils]∧Bk Y69 S1598 5 v13 ((([],0):(List UInt8) × Int))∧Ow Y59 S1598 6 v1599 s1595.2.1∧Ow Y118 S1598 7 v1600 s1595.2.2) (fun b e l' m' n'=>e = .exit 7∧∃ S1601:Cx fl,∃ v1602 v1603:SV,S1601.m = m'∧S1601.n = n'∧Cov l' [(2,.sc ((.ptr b1 0))),(3,.sc v5),(4,.sc ((.ptr b9 0))),(5,.sc v13),(12,.sc (.int .i64 r335)),(16,.sc (.int .i64 b.1)),(17,.sc (.int .i64 s1572.2.1))]∧ChM S0 S1601∧Bw S1601 2 (.ptr b1 0) [v1602,v1603]∧Bk Y67 S1601 3 v5 ((t1.1,t1.2.1,t1.2.2.1,t1.2.2.2))∧Bw S1601 4 (.ptr b9 0) [.nils,.nils]∧Bk Y69 S1601 5 v13 ((([],0):(List UInt8) × Int))∧Ow Y59 S1601 6 v1602 b.2.1∧Ow Y118 S1601 7 v1603 b.2.2) fn ?_ ?_
    ·rintro s1595 q _ _ _ ⟨S1604,v1605,v1606,rfl,rfl,hc1607,hM,ho4,ho8,ho12,ho16,ho4c0,ho4c1⟩ h
     unfold F25_l1 at h
     obtain ⟨x1608,e1609,h⟩:=bindS h
     obtain ⟨y1613,e1614,h⟩:=bindS h
     refine go ?_
     refine WO.cutB (d:=304) 8 y1613 (fun q1612=>?_) (fun q1612=>?_) ?_
     ·have h:=e1614
      have h:=iteT q1612 h
      obtain ⟨x1610,e1611,h⟩:=bindS h
      cases h;refine go ?_
      exact cu
     ·have h:=e1614
      have h:=iteF q1612 h
      cases h;refine go ?_
      exact cu
     obtain ⟨y1618,e1619,h⟩:=bindS h
     refine go ?_
     refine WO.cutB (d:=313) 8 y1618 (fun q1617=>?_) (fun q1617=>?_) ?_
     ·have h:=e1619
      have h:=iteT q1617 h
      obtain ⟨x1615,e1616,h⟩:=bindS h
      cases h;refine go ?_
      exact cu
     ·have h:=e1619
      have h:=iteF q1617 h
      cases h;refine go ?_
      exact cu
     refine go ?_
     refine ci h (fun q1620 h=>?_) fun q1620 h=>?_
     ·have h:=bindE e1609 h
      have h:=bindE e1609 h
      refine go ?_
      refine WO.stF (q:=2) (u':=(x1608.1,x1608.2.1,(wrapA .i64 (x1608.2.2 - 1)))) rfl rfl tr gt (by rfl) (by decide) (by rfl) (by rfl) (fun S1625 c1626 ho4c1=>?_)
      obtain ⟨x1627,e1628,h⟩:=bindS h
      have h:=bindE e1628 h
      refine go ?_
      refine WO.stF (q:=1) (u':=(x1627.1,(wrapA .i64 (x1627.2.1 - 1)),x1627.2.2)) rfl rfl tr gt (by rfl) (by decide) (by rfl) (by rfl) (fun S1631 c1632 ho4c0=>?_)
      obtain ⟨x1633,e1634,h⟩:=bindS h
      have h:=bindE e1634 h
      refine go ?_
      refine WO.stF (q:=1) (u':=(x1633.1,(wrapA .i64 (x1633.2.1 + 1)),x1633.2.2)) rfl rfl tr gt (by rfl) (by decide) (by rfl) (by rfl) (fun S1637 c1638 ho4c0=>?_)
      cases h;refine go ?_
      exact fn
     cases h;refine go ?_
     exact fn
    rintro _ _ _ _ ⟨rfl,⟨S1641,v1642,v1643,rfl,rfl,hc1644,hM,ho4,ho8,ho12,ho16,ho4c0,ho4c1⟩⟩
    cases h;refine go ?_
    exact fn
   cases h;refine go ?_
   exact fn
  rintro _ _ _ _ ⟨rfl,⟨S1647,v1648,v1649,rfl,rfl,hc1650,hM,ho4,ho8,ho12,ho16,ho4c0,ho4c1⟩⟩
  obtain ⟨r1651,e1652,h⟩:=bindS h
  refine go ?_
  refine WO.callG (S:=S1647) [(7,2)] [(902,14)] rfl rfl (F67_68_ok (S0:=S1647.mp [(7,2)]) e1652 mq) (fun _ S1655 S1656 hb hR=>?_)
  obtain ⟨v1653,rfl,hR0⟩:=hR
  have c1657:Ch 7 S1647 S1656:=hb.ch [] 7
  have ho1654:=hR0.bkF (k:=14) hb rfl Lay.flat_fl
  refine go ?_
  refine WO.stW (r:=[v1648,v1653]) rfl rfl rfl rfl tr rfl rfl rfl rfl rfl (fun S1658 c1659 ho4=>?_)
  refine go ?_
  refine WO.stW (r:=[v1648,v1653]) rfl pa rfl rfl tr rfl rfl rfl rfl rfl (fun S1666 c1667 ho12=>?_)
  refine WO.stBA (u':=(((t1.1,t1.2.1,t1.2.2.1,t1.2.2.2)).2.2.1,b1645.1)) rfl pa rfl tr rfl rfl (fun S1675 c1676 ho16=>?_)
  refine go ?_
  refine dy S1658 S1675 [(2,5)] ?_
  cases h;refine go ?_
  exact ⟨.inr rfl,_,_,rk,rfl,sx ((S1675.drop 6).drop 14)⟩
 refine go ?_
 refine ci h (fun q1701 h=>?_) fun q1701 h=>?_
 ·obtain ⟨x1713,e1714,h⟩:=bindS h
  refine go ?_
  refine WO.stW (r:=[v19,v25]) rfl pa rfl rfl tr rfl rfl rfl rfl rfl (fun S1715 c1716 ho12=>?_)
  refine WO.stBA (u':=(((t1.1,t1.2.1,t1.2.2.1,t1.2.2.2)).2.2.1,x1713)) rfl pa rfl tr rfl rfl (fun S1729 c1730 ho16=>?_)
  refine go ?_
  refine dy S337 S1729 [(2,8),(6,8)] ?_
  cases h;refine go ?_
  exact ⟨.inr rfl,_,_,rk,rfl,sx ((S1729.drop 6).drop 7)⟩
 refine go ?_
 refine WO.stW (r:=[v19,v25]) rfl pa rfl rfl tr rfl rfl rfl rfl rfl (fun S1810 c1811 ho12=>?_)
 refine WO.stBA (u':=((((([],0):(List UInt8) × Int)).1,((([],0):(List UInt8) × Int)).2):(List UInt8) × Int)) rfl pa rfl tr rfl rfl (fun S1824 c1825 ho16=>?_)
 refine go ?_
 refine dy S337 S1824 [(1,2)] ?_
 cases h;refine go ?_
 exact ⟨.inr rfl,_,_,rk,rfl,sx ((S1824.drop 6).drop 7)⟩
end Go.Proofs.YtaphdnpjpmnaeadGreatDoor

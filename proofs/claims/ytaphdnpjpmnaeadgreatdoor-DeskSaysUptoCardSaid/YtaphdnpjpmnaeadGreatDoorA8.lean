/- Towards castlaw.DeskSays, part 8: joined by a program of ours. -/
import Derived.Test.YtaphdnpjpmnaeadGreatDoorA7
import Derived.Shelf.Strings.Builder1
import Derived.Shelf.Strings.Builder2
import Derived.Shelf.Strings.OnBuilder
import Derived.Shelf.Small.Utf8
import Derived.Shelf.Small.Strs
import Derived.Shelf.Strconv.Atoi
import Derived.Shelf.Strconv.Itoa0
import Derived.Shelf.Strconv.Itoa1
import Derived.Shelf.LaysM
import Derived.Shelf.Strconv.Itoa2
import Derived.Shelf.Strconv.Itoa3
import Derived.Shelf.Strings.Search1
import Derived.Shelf.Strings.Search2
import Derived.Shelf.Strings.Search3
import Derived.Shelf.Strings.Count
import Derived.Shelf.Strings.Shaped
import Derived.Shelf.Strings.Split
import Derived.Shelf.Strings.SplitShaped
import Derived.Shelf.Strings.Runes
import Derived.Shelf.Strings.AsciiSet
import Derived.Shelf.Unicode.DecodeSlow
import Derived.Shelf.Unicode.DecodeAny
import Derived.Shelf.Unicode.DecodeLast
import Derived.Shelf.Strings.FieldsFuncAny
import Derived.Shelf.Strings.FieldsFuncGrows
import Derived.Test.YtaphdnpjpmnaeadGreatDoorProg
import Derived.Lib.SmallJoins
import Derived.Lib.AppendIntMem
import Derived.KernelRfl
set_option linter.unusedVariables false
set_option linter.unusedSimpArgs false
set_option linter.unusedSectionVars false
namespace Go.Proofs.YtaphdnpjpmnaeadGreatDoor
set_option maxRecDepth 20000
set_option maxHeartbeats 4000000
open Go.Am
theorem F5.fn:E.fn 5 = some (fi 43 Tryz.f5 [1000011]):=rfl
theorem F5_ok {F:Nat} {m:Mem} {n:Nat} {r:(List (List UInt8)) × Int} {t0:List UInt8} (h:F5 F t0 = some r) :Ret E n 5 [.sc (.str t0)] m n (fun v m' n'=>∃ w,v = .tup [.sc w,.sc (.int .i64 r.2)]∧Fr Y9 n m' n' w r.1):=by
 unfold F5 at h
 refine Ret.walk F5.fn ?_
 refine WC.start fun S0 em en hz=>?_
 obtain ⟨r1,e2,h⟩:=bindS h
 refine go ?_
 refine WO.callF 2 rfl rfl (F7_ok e2) Lay.flat_fl (fun v3 S5 c6 ho4=>?_)
 refine go ?_
 refine WO.cutB (d:=20) 4 ((decide ((t0.length:Int) > 4096)) || (decide ((r1.length:Int) > 60))) (fun q7=>?_) (fun q7=>?_) ?_
 ·refine go ?_;exact cu
 ·refine go ?_;exact cu
 refine go ?_
 refine ci h (fun q8 h=>?_) fun q8 h=>?_
 ·cases h;refine go ?_
  exact fn
 refine go ?_
 refine WO.alW (cs:=[.nils,.nils]) 3 rfl rfl rfl (fun b9 S10 c11 ho12=>?_)
 refine WO.stW (r:=[.nils,.nils]) rfl pa rfl rfl tr rfl rfl rfl rfl rfl (fun S13 c14 ho12=>?_)
 obtain ⟨b138,e139,h⟩:=bindS h
 refine go ?_
 refine WC.loopD e139 (fun s15 l' m' n'=>∃ S19:Cx n,∃ v20 v21 v22:SV,S19.m = m'∧S19.n = n'∧Cov l' [(5,.sc ((.ptr b9 0))),(6,.sc v20),(22,.sc v3),(23,.sc (.int .i64 ((r1.length:Int)))),(24,.sc (.int .i64 s15.2.1))]∧Bw S19 3 (.ptr b9 0) [v21,v22]∧Ow Y9 S19 2 v3 r1∧Ow Y9 S19 4 v20 s15.1∧Rd Y59 S19 v21 s15.2.2.1∧Rd Y118 S19 v22 s15.2.2.2) (fun b e l' m' n'=>e = .exit 0∧∃ S23:Cx n,∃ v24:SV,S23.m = m'∧S23.n = n'∧Cov l' [(6,.sc v24)]∧Ow Y9 S23 4 v24 b) fn ?_ ?_
 ·rintro s15 q _ _ _ ⟨S25,v26,v27,v28,rfl,rfl,hc29,ho12,ho4,ho6,ho12c0,ho12c1⟩ h
  unfold F5_l0 at h
  refine go ?_
  refine ci h (fun q30 h=>?_) fun q30 h=>?_
  ·obtain ⟨x31,e32,h⟩:=bindS h
   refine go ?_
   refine ci h (fun q33 h=>?_) fun q33 h=>?_
   ·cases h;refine go ?_
    exact fn
   obtain ⟨r34,e35,h⟩:=bindS h
   refine go ?_
   refine WO.callG (S:=S25) [] [] rfl rfl (F10_ok (S0:=S25.mp []) e35 mq mq) (fun _ S40 S41 hb hR=>?_)
   obtain ⟨v36,v38,rfl,hR0,hR1⟩:=hR
   have c42:Ch 1 S25 S41:=hb.ch [] 1
   have ho37:=hR0.bkS hb rfl
   have ho39:=hR1.bkS hb rfl
   refine go ?_
   refine WO.alW (cs:=[.nils,.nils]) 5 rfl rfl rfl (fun b43 S44 c45 ho46=>?_)
   refine WO.stW (r:=[v36,v38]) rfl pa rfl rfl tr rfl rfl rfl rfl rfl (fun S47 c48 ho46=>?_)
   refine go ?_
   refine WO.bsD (A:=Y9) (M:=[r34.2]) (cs:=[.str r34.2]) 6 rfl rfl rfl ⟨[.str r34.2],_,rfl,rfl,rfl⟩ rfl (fun v57 S58 ge61 c59 ho60=>?_)
   obtain ⟨L72,e73,h⟩:=bindS h
   refine WO.appS rfl rfl tr ro e73 rfl rfl (fun v74 S75 c76 ho77=>?_)
   refine WO.stW (r:=[v36,v38]) rfl pa rfl rfl tr rfl rfl rfl rfl rfl (fun S88 c89 ho12=>?_)
   refine go ?_
   refine dy S47 S88 [(0,4)] ?_
   cases h;refine go ?_
   exact fn
  cases h;refine go ?_
  exact fn
 rintro _ _ _ _ ⟨rfl,⟨S140,v141,rfl,rfl,hc142,ho6⟩⟩
 cases h;refine go ?_
 exact fn
open Go.Am
theorem F11.fn:E.fn 11 = some (fi 26 Tryz.f11 []):=rfl
theorem F11_ok {F:Nat} {m:Mem} {n:Nat} {r:Bool} {t0:List (List UInt8)} {t1:List (List UInt8)} {vt0:SV} {vt1:SV} (h:F11 F t0 t1 = some r) (kt0:Vw Y9 n m vt0 t0) (kt1:Vw Y9 n m vt1 t1):Ret E n 11 [.sc vt0,.sc vt1] m n (fun v m' n'=>v = .sc (.bool r)):=by
 unfold F11 at h
 refine Ret.walk F11.fn ?_
 refine WC.start fun S0 em en hz=>?_
 have hot0:=kt0.rdS em hz
 have hot1:=kt1.rdS em hz
 refine go ?_
 refine ci h (fun q1 h=>?_) fun q1 h=>?_
 ·cases h;refine go ?_
  exact fn
 obtain ⟨b15,e16,h⟩:=bindS h
 refine go ?_
 refine WC.loopD e16 (fun s2 l' m' n'=>∃ S3:Cx n,S3.m = m'∧S3.n = n'∧Cov l' [(0,.sc vt0),(1,.sc vt1),(12,.sc (.int .i64 ((t0.length:Int)))),(13,.sc (.int .i64 s2))]∧Rd Y9 S3 vt0 t0∧Rd Y9 S3 vt1 t1) (fun b e l' m' n'=>(match b with | .inl b4=>e = .exit 0∧∃ S5:Cx n,S5.m = m'∧S5.n = n'∧Cov l' [] | .inr b4=>e = .ret∧∃ S6:Cx n,S6.m = m'∧S6.n = n'∧Cov l' [(4,.sc (.bool b4))])) fn ?_ ?_
 ·rintro s2 q _ _ _ ⟨S7,rfl,rfl,hc8,hot0,hot1⟩ h
  unfold F11_l0 at h
  refine go ?_
  refine ci h (fun q9 h=>?_) fun q9 h=>?_
  ·obtain ⟨x10,e11,h⟩:=bindS h
   obtain ⟨x12,e13,h⟩:=bindS h
   refine go ?_
   refine ci h (fun q14 h=>?_) fun q14 h=>?_
   ·cases h;refine go ?_
    exact fn
   cases h;refine go ?_
   exact fn
  cases h;refine go ?_
  exact fn
 cases b15 with
 | inl b17=>
  simp only at h
  rintro _ _ _ _ ⟨rfl,⟨S18,rfl,rfl,hc19⟩⟩
  cases h;refine go ?_
  exact fn
 | inr b17=>
  simp only at h
  rintro _ _ _ _ ⟨rfl,⟨S20,rfl,rfl,hc21⟩⟩
  cases h;refine go ?_
  exact fn
open Go.Am
theorem F6.fn:E.fn 6 = some (fi 8 Tryz.f6 []):=rfl
theorem F6_ok {F:Nat} {m:Mem} {n:Nat} {r:Bool} {t0:List (List UInt8)} {t1:List (List UInt8)} {vt0:SV} {vt1:SV} (h:F6 F t0 t1 = some r) (kt0:Vw Y9 n m vt0 t0) (kt1:Vw Y9 n m vt1 t1):Ret E n 6 [.sc vt0,.sc vt1] m n (fun v m' n'=>v = .sc (.bool r)):=by
 unfold F6 at h
 refine Ret.walk F6.fn ?_
 refine WC.start fun S0 em en hz=>?_
 have hot0:=kt0.rdS em hz
 have hot1:=kt1.rdS em hz
 obtain ⟨r1,e2,h⟩:=bindS h
 refine go ?_
 refine WO.callE rfl rfl (F11_ok e2 vw vw) (fun S3 c4=>?_)
 cases h;refine go ?_
 exact fn
open Go.Am
theorem F3.fn:E.fn 3 = some (fi 25 Tryz.f3 []):=rfl
section
variable {B fl0:Nat} {w0:World} (hE:EnvOk Tryz.prog E) (hW:E.wc w0∧B = w0.heap.size)
include hE hW
theorem F3x {F:Nat} {t:List UInt8} {a b:List (List UInt8) × Int} {m:Mem} {n:Nat} (hFu:100001≤F) (ha:X4 F t = some a) (hb:F5 F t = some b) (h2:a.2 = b.2) (h6:F6 F a.1 b.1 = some true):CX Tryz.prog pv B fl0 w0 3 [.sc (.str t)] m n fun x _ _=>x = .ok (.sc (.bool true)):=by
 refine CX.walkF hE E.fns F3.fn fun h0=>?_
 have hF:=E.fns
 refine WX.start fun S0 em en hz=>?_
 subst em
 refine WX.seq ?_
 refine WX.ofR [4] rfl hE hF hW h0 (go ?_)
 refine thenX_n ?_
 refine WX.seq ?_
 refine WX.region ?_
 refine WXO.pre hE hF hW h0 1 (by decide) (go ?_)
 refine WXO.call rfl rfl rfl (by simpa using F4x hE hW hFu ha) ?_ (by rintro c m' n' ⟨_,w,e,_⟩;cases e)
 rintro v m' n' ⟨hk,w,e,hf⟩
 cases e
 obtain ⟨S1,rfl,rfl,c1,ho1⟩:=hf.own Lay.flat_fl hk 2
 refine WXO.pre hE hF hW h0 5 (by decide) (go ?_)
 refine WXO.done (by decide) ?_
 refine gx ?_
 refine WO.callF 3 rfl rfl (F5_ok hb) Lay.flat_fl (fun v2 S2 c2 ho2=>?_)
 refine go ?_
 refine gx ?_
 refine WO.cutS (d:=24) 4 ((a.2 == b.2) && true) (fun q=>?_) (fun q=>?_) (fun S3 c3=>?_)
 ·refine go ?_
  refine WO.callE rfl rfl (F6_ok h6 vw vw) (fun S4 c4=>?_)
  refine go ?_
  exact cu
 ·refine go ?_;exact cu
 have e:((a.2 == b.2) && true) = true:=by rw [h2];simp
 rw [e]
 refine go ?_
 refine gx ?_
 exact ⟨.inr rfl,_,_,rk,rfl,rfl⟩
end
end Go.Proofs.YtaphdnpjpmnaeadGreatDoor
namespace Go.Proofs
open Go.Shelf
def Tryz.lays156_ren:Go.Shelf.Ren:=⟨fun | 156=>16 | 165=>30 | 166=>31 | 169=>32 | 240=>74 | 241=>75 | 276=>121 | 277=>122 | n=>n,fun | 31=>22 | 9=>9 | 3=>3 | 4=>4 | 0=>0 | 20=>20 | 72=>77 | 76=>81 | 70=>74 | 37=>75 | 75=>80 | 127=>131 | 164=>161 | 5=>5 | 80=>83 | n=>n,fun | n=>n⟩
theorem Tryz.lays156:Go.Proofs.Lays.n156 Tryz.prog Tryz.lays156_ren:={
 mixed:=by kernel_rfl
 f156:=Tryz.func16.trans (congrArg some (by kernel_rfl))
 f165:=Tryz.func30.trans (congrArg some (by kernel_rfl))
 f166:=Tryz.func31.trans (congrArg some (by kernel_rfl))
 f169:=Tryz.func32.trans (congrArg some (by kernel_rfl))
 f240:=Tryz.func74.trans (congrArg some (by kernel_rfl))
 f241:=Tryz.func75.trans (congrArg some (by kernel_rfl))
 f276:=Tryz.func121.trans (congrArg some (by kernel_rfl))
 f277:=Tryz.func122.trans (congrArg some (by kernel_rfl))
 t0:=Tryz.underlying0
 a0:=Tryz.isAgg0
 z0:=Tryz.sizeOf0
 v0:=Tryz.zeroValue0
 t3:=Tryz.underlying3
 a3:=Tryz.isAgg3
 z3:=Tryz.sizeOf3
 v3:=Tryz.zeroValue3
 t4:=Tryz.underlying4
 a4:=Tryz.isAgg4
 z4:=Tryz.sizeOf4
 v4:=Tryz.zeroValue4
 t9:=Tryz.underlying9
 a9:=Tryz.isAgg9
 z9:=Tryz.sizeOf9
 v9:=Tryz.zeroValue9
 t20:=Tryz.underlying20
 a20:=Tryz.isAgg20
 z20:=Tryz.sizeOf20
 v20:=Tryz.zeroValue20
 t31:=Tryz.underlying22
 a31:=Tryz.isAgg22
 z31:=Tryz.sizeOf22
 v31:=Tryz.zeroValue22
 t37:=Tryz.underlying75
 a37:=Tryz.isAgg75
 z37:=Tryz.sizeOf75
 v37:=Tryz.zeroValue75
 t70:=Tryz.underlying74
 a70:=Tryz.isAgg74
 z70:=Tryz.sizeOf74
 v70:=Tryz.zeroValue74
 t72:=Tryz.underlying77
 a72:=Tryz.isAgg77
 z72:=Tryz.sizeOf77
 v72:=Tryz.zeroValue77
 t75:=Tryz.underlying80
 a75:=Tryz.isAgg80
 z75:=Tryz.sizeOf80
 v75:=Tryz.zeroValue80
 t76:=Tryz.underlying81
 a76:=Tryz.isAgg81
 z76:=Tryz.sizeOf81
 v76:=Tryz.zeroValue81
 t127:=Tryz.underlying131
 a127:=Tryz.isAgg131
 z127:=Tryz.sizeOf131
 v127:=Tryz.zeroValue131
 t164:=Tryz.underlying161
 a164:=Tryz.isAgg161
 z164:=Tryz.sizeOf161
 v164:=Tryz.zeroValue161 }
theorem Tryz.Builder_Extra_156:Builder.Extra Tryz.prog Tryz.lays156_ren:={
 sizeBuilder:=by kernel_rfl
 liesBuilder:=by kernel_rfl
 t5:=Tryz.underlying5
 a5:=Tryz.isAgg5
 z5:=Tryz.sizeOf5
 v5:=Tryz.zeroValue5
 infoByte:=by kernel_rfl
 cellsByte:=by kernel_rfl
 sizeByte:=by kernel_rfl
 neB5:=by decide }
open Go.RowKit in
theorem Tryz.strings_Join_none (a:Option Addr) (c:Nat) (sep:ByteArray) (w:World):
 Calls Tryz.prog 16 #[.slice a 0 c,.string sep] w fun e w'=>e = .returned (.string ⟨#[]⟩)∧w' = w:=Any.strings_Join_none Tryz.lays156 Tryz.Builder_Extra_156 a c sep w
open Go.RowKit in
theorem Tryz.strings_Join (bk o c:Nat) (xs:List ByteArray) (sep:ByteArray) (w:World) (hcells:∀ (j:Nat) x,xs[j]? = some x→w.cell? ⟨bk,o + j,none⟩ = some (.string x)) (hbk:bk < w.heap.size) (hN:xs.length≤140737488355328) (hcap:xs.length≤c) (hlen:(Lib.join (xs.map (·.data.toList)) sep.data.toList).length≤140737488355328):
 Calls Tryz.prog 16 #[.slice (some ⟨bk,o,none⟩) xs.length c,.string sep] w fun e w'=>e = .returned (.string ⟨(Lib.join (xs.map (·.data.toList)) sep.data.toList).toArray⟩)∧Below w.heap.size w w':=Any.strings_Join Tryz.lays156 Tryz.Builder_Extra_156 bk o c xs sep w hcells hbk hN hcap hlen
def Tryz.lays172_ren:Go.Shelf.Ren:=⟨fun | 172=>45 | 244=>102 | 245=>103 | 247=>139 | 279=>140 | 280=>141 | 281=>142 | 282=>143 | 287=>156 | 316=>157 | 171=>14 | 205=>158 | 321=>163 | 322=>164 | 243=>29 | 246=>73 | 283=>117 | 284=>118 | 285=>119 | 286=>120 | 129=>149 | 317=>148 | 318=>150 | 319=>151 | 320=>152 | 337=>159 | 338=>160 | n=>n,fun | 9=>9 | 3=>3 | 75=>80 | 76=>81 | 4=>4 | 5=>5 | 167=>176 | 37=>75 | 0=>0 | 85=>177 | 2=>2 | 168=>179 | 53=>156 | 175=>197 | 46=>154 | 210=>200 | 127=>131 | 145=>206 | 143=>204 | 21=>21 | 171=>155 | 173=>159 | 212=>191 | 51=>187 | 20=>20 | 213=>192 | 232=>207 | 233=>208 | 80=>83 | n=>n,fun | 15=>4 | 16=>5 | 17=>3 | 18=>6 | 19=>7 | n=>n⟩
theorem Tryz.lays172:Go.Proofs.Lays.n172 Tryz.prog Tryz.lays172_ren:={
 mixed:=by kernel_rfl
 f129:=Tryz.func149.trans (congrArg some (by kernel_rfl))
 f171:=Tryz.func14.trans (congrArg some (by kernel_rfl))
 f172:=Tryz.func45.trans (congrArg some (by kernel_rfl))
 f205:=Tryz.func158.trans (congrArg some (by kernel_rfl))
 f243:=Tryz.func29.trans (congrArg some (by kernel_rfl))
 f244:=Tryz.func102.trans (congrArg some (by kernel_rfl))
 f245:=Tryz.func103.trans (congrArg some (by kernel_rfl))
 f246:=Tryz.func73.trans (congrArg some (by kernel_rfl))
 f247:=Tryz.func139.trans (congrArg some (by kernel_rfl))
 f279:=Tryz.func140.trans (congrArg some (by kernel_rfl))
 f280:=Tryz.func141.trans (congrArg some (by kernel_rfl))
 f281:=Tryz.func142.trans (congrArg some (by kernel_rfl))
 f282:=Tryz.func143.trans (congrArg some (by kernel_rfl))
 f283:=Tryz.func117.trans (congrArg some (by kernel_rfl))
 f284:=Tryz.func118.trans (congrArg some (by kernel_rfl))
 f285:=Tryz.func119.trans (congrArg some (by kernel_rfl))
 f286:=Tryz.func120.trans (congrArg some (by kernel_rfl))
 f287:=Tryz.func156.trans (congrArg some (by kernel_rfl))
 f316:=Tryz.func157.trans (congrArg some (by kernel_rfl))
 f317:=Tryz.func148.trans (congrArg some (by kernel_rfl))
 f318:=Tryz.func150.trans (congrArg some (by kernel_rfl))
 f319:=Tryz.func151.trans (congrArg some (by kernel_rfl))
 f320:=Tryz.func152.trans (congrArg some (by kernel_rfl))
 f321:=Tryz.func163.trans (congrArg some (by kernel_rfl))
 f322:=Tryz.func164.trans (congrArg some (by kernel_rfl))
 f337:=Tryz.func159.trans (congrArg some (by kernel_rfl))
 f338:=Tryz.func160.trans (congrArg some (by kernel_rfl))
 t0:=Tryz.underlying0
 a0:=Tryz.isAgg0
 z0:=Tryz.sizeOf0
 v0:=Tryz.zeroValue0
 t2:=Tryz.underlying2
 a2:=Tryz.isAgg2
 z2:=Tryz.sizeOf2
 v2:=Tryz.zeroValue2
 t3:=Tryz.underlying3
 a3:=Tryz.isAgg3
 z3:=Tryz.sizeOf3
 v3:=Tryz.zeroValue3
 t4:=Tryz.underlying4
 a4:=Tryz.isAgg4
 z4:=Tryz.sizeOf4
 v4:=Tryz.zeroValue4
 t5:=Tryz.underlying5
 a5:=Tryz.isAgg5
 z5:=Tryz.sizeOf5
 v5:=Tryz.zeroValue5
 t9:=Tryz.underlying9
 a9:=Tryz.isAgg9
 z9:=Tryz.sizeOf9
 v9:=Tryz.zeroValue9
 t20:=Tryz.underlying20
 a20:=Tryz.isAgg20
 z20:=Tryz.sizeOf20
 v20:=Tryz.zeroValue20
 t21:=Tryz.underlying21
 a21:=Tryz.isAgg21
 z21:=Tryz.sizeOf21
 v21:=Tryz.zeroValue21
 t37:=Tryz.underlying75
 a37:=Tryz.isAgg75
 z37:=Tryz.sizeOf75
 v37:=Tryz.zeroValue75
 t46:=Tryz.underlying154
 a46:=Tryz.isAgg154
 z46:=Tryz.sizeOf154
 v46:=Tryz.zeroValue154
 t51:=Tryz.underlying187
 a51:=Tryz.isAgg187
 z51:=Tryz.sizeOf187
 v51:=Tryz.zeroValue187
 t53:=Tryz.underlying156
 a53:=Tryz.isAgg156
 z53:=Tryz.sizeOf156
 v53:=Tryz.zeroValue156
 t75:=Tryz.underlying80
 a75:=Tryz.isAgg80
 z75:=Tryz.sizeOf80
 v75:=Tryz.zeroValue80
 t76:=Tryz.underlying81
 a76:=Tryz.isAgg81
 z76:=Tryz.sizeOf81
 v76:=Tryz.zeroValue81
 t85:=Tryz.underlying177
 a85:=Tryz.isAgg177
 z85:=Tryz.sizeOf177
 v85:=Tryz.zeroValue177
 t127:=Tryz.underlying131
 a127:=Tryz.isAgg131
 z127:=Tryz.sizeOf131
 v127:=Tryz.zeroValue131
 t143:=Tryz.underlying204
 a143:=Tryz.isAgg204
 z143:=Tryz.sizeOf204
 v143:=Tryz.zeroValue204
 t145:=Tryz.underlying206
 a145:=Tryz.isAgg206
 z145:=Tryz.sizeOf206
 v145:=Tryz.zeroValue206
 t167:=Tryz.underlying176
 a167:=Tryz.isAgg176
 z167:=Tryz.sizeOf176
 v167:=Tryz.zeroValue176
 t168:=Tryz.underlying179
 a168:=Tryz.isAgg179
 z168:=Tryz.sizeOf179
 v168:=Tryz.zeroValue179
 t171:=Tryz.underlying155
 a171:=Tryz.isAgg155
 z171:=Tryz.sizeOf155
 v171:=Tryz.zeroValue155
 t173:=Tryz.underlying159
 a173:=Tryz.isAgg159
 z173:=Tryz.sizeOf159
 v173:=Tryz.zeroValue159
 t175:=Tryz.underlying197
 a175:=Tryz.isAgg197
 z175:=Tryz.sizeOf197
 v175:=Tryz.zeroValue197
 t210:=Tryz.underlying200
 a210:=Tryz.isAgg200
 z210:=Tryz.sizeOf200
 v210:=Tryz.zeroValue200
 t212:=Tryz.underlying191
 a212:=Tryz.isAgg191
 z212:=Tryz.sizeOf191
 v212:=Tryz.zeroValue191
 t213:=Tryz.underlying192
 a213:=Tryz.isAgg192
 z213:=Tryz.sizeOf192
 t232:=Tryz.underlying207
 a232:=Tryz.isAgg207
 z232:=Tryz.sizeOf207
 v232:=Tryz.zeroValue207
 t233:=Tryz.underlying208
 a233:=Tryz.isAgg208
 z233:=Tryz.sizeOf208
 v233:=Tryz.zeroValue208
 g15:=by kernel_rfl
 g16:=by kernel_rfl
 g17:=by kernel_rfl
 g18:=by kernel_rfl
 g19:=by kernel_rfl }
open Go.RowKit in
theorem Tryz.strconv_Atoi (s:ByteArray) (n:Int) (hl:s.size≤18) (h:Lib.atoi s.data.toList = some n) (w:World):
 Calls Tryz.prog 45 #[.string s] w fun e w'=>e = .returned (.tuple #[.int .i64 n,.nilIface])∧∃ t,w' = Lib.bytesWorld w 5 t:=Any.strconv_Atoi Tryz.lays172 s n hl h w
def Tryz.laysM171_ren:Go.Shelf.Ren:=⟨fun | 171=>14 | 243=>29 | 246=>73 | 283=>117 | 284=>118 | 285=>119 | 286=>120 | 129=>149 | 317=>148 | 318=>150 | 319=>151 | 320=>152 | 337=>159 | 338=>160 | n=>n,fun | 3=>3 | 9=>9 | 2=>2 | 4=>4 | 171=>155 | 0=>0 | 53=>156 | 37=>75 | 5=>5 | 173=>159 | 212=>191 | 51=>187 | 20=>20 | 213=>192 | 46=>154 | 232=>207 | 233=>208 | n=>n,fun | 17=>3 | 18=>6 | 19=>7 | n=>n⟩
theorem Tryz.laysM171:Go.Proofs.LaysM.n171 Tryz.prog Tryz.laysM171_ren:={
 mixed:=by kernel_rfl
 f129:=Tryz.func149.trans (congrArg some (by kernel_rfl))
 f171:=Tryz.func14.trans (congrArg some (by kernel_rfl))
 f243:=Tryz.func29.trans (congrArg some (by kernel_rfl))
 f246:=Tryz.func73.trans (congrArg some (by kernel_rfl))
 f283:=Tryz.func117.trans (congrArg some (by kernel_rfl))
 f284:=Tryz.func118.trans (congrArg some (by kernel_rfl))
 f285:=Tryz.func119.trans (congrArg some (by kernel_rfl))
 f286:=Tryz.func120.trans (congrArg some (by kernel_rfl))
 f317:=Tryz.func148.trans (congrArg some (by kernel_rfl))
 f318:=Tryz.func150.trans (congrArg some (by kernel_rfl))
 f319:=Tryz.func151.trans (congrArg some (by kernel_rfl))
 f320:=Tryz.func152.trans (congrArg some (by kernel_rfl))
 f337:=Tryz.func159.trans (congrArg some (by kernel_rfl))
 f338:=Tryz.func160.trans (congrArg some (by kernel_rfl))
 t0:=Tryz.underlying0
 a0:=Tryz.isAgg0
 z0:=Tryz.sizeOf0
 v0:=Tryz.zeroValue0
 t2:=Tryz.underlying2
 a2:=Tryz.isAgg2
 z2:=Tryz.sizeOf2
 v2:=Tryz.zeroValue2
 t3:=Tryz.underlying3
 a3:=Tryz.isAgg3
 z3:=Tryz.sizeOf3
 v3:=Tryz.zeroValue3
 t4:=Tryz.underlying4
 a4:=Tryz.isAgg4
 z4:=Tryz.sizeOf4
 v4:=Tryz.zeroValue4
 t5:=Tryz.underlying5
 a5:=Tryz.isAgg5
 z5:=Tryz.sizeOf5
 v5:=Tryz.zeroValue5
 t9:=Tryz.underlying9
 a9:=Tryz.isAgg9
 z9:=Tryz.sizeOf9
 v9:=Tryz.zeroValue9
 t20:=Tryz.underlying20
 a20:=Tryz.isAgg20
 z20:=Tryz.sizeOf20
 v20:=Tryz.zeroValue20
 t37:=Tryz.underlying75
 a37:=Tryz.isAgg75
 z37:=Tryz.sizeOf75
 v37:=Tryz.zeroValue75
 t46:=Tryz.underlying154
 a46:=Tryz.isAgg154
 z46:=Tryz.sizeOf154
 v46:=Tryz.zeroValue154
 t51:=Tryz.underlying187
 a51:=Tryz.isAgg187
 z51:=Tryz.sizeOf187
 v51:=Tryz.zeroValue187
 t53:=Tryz.underlying156
 a53:=Tryz.isAgg156
 z53:=Tryz.sizeOf156
 v53:=Tryz.zeroValue156
 t171:=Tryz.underlying155
 a171:=Tryz.isAgg155
 z171:=Tryz.sizeOf155
 v171:=Tryz.zeroValue155
 t173:=Tryz.underlying159
 a173:=Tryz.isAgg159
 z173:=Tryz.sizeOf159
 v173:=Tryz.zeroValue159
 t212:=Tryz.underlying191
 a212:=Tryz.isAgg191
 z212:=Tryz.sizeOf191
 v212:=Tryz.zeroValue191
 t213:=Tryz.underlying192
 a213:=Tryz.isAgg192
 z213:=Tryz.sizeOf192
 t232:=Tryz.underlying207
 a232:=Tryz.isAgg207
 z232:=Tryz.sizeOf207
 v232:=Tryz.zeroValue207
 t233:=Tryz.underlying208
 a233:=Tryz.isAgg208
 z233:=Tryz.sizeOf208
 v233:=Tryz.zeroValue208
 g17:=by kernel_rfl
 g18:=by kernel_rfl
 g19:=by kernel_rfl
 i0:=by kernel_rfl
 i2:=by kernel_rfl
 i3:=by kernel_rfl
 i4:=by kernel_rfl
 i5:=by kernel_rfl
 i9:=by kernel_rfl
 i20:=by kernel_rfl
 i37:=by kernel_rfl
 i46:=by kernel_rfl
 i51:=by kernel_rfl
 i53:=by kernel_rfl
 i171:=by kernel_rfl
 i173:=by kernel_rfl
 i212:=by kernel_rfl
 i232:=by kernel_rfl
 i233:=by kernel_rfl
 m17:=by kernel_rfl
 m18:=by kernel_rfl
 m19:=by kernel_rfl }
open Go.RowKit Go.Sort Go.Lib in
theorem Tryz.strconv_Itoa (n:Int) (h0:-9223372036854775808≤n) (h1:n≤9223372036854775807) (w:World) (htab:Lib.TabIs Tryz.prog w "internal/strconv.uint64pow10" .u64 Lib.pow10Tab):
 Calls Tryz.prog 14 #[.int .i64 n] w fun e w'=>e = .returned (.string ⟨(Lib.itoa n).toArray⟩)∧∃ k os,w' = grow (w.drewN k) os:=Any.strconv_Itoa Tryz.laysM171 n h0 h1 w htab
def Tryz.lays146_ren:Go.Shelf.Ren:=⟨fun | 146=>7 | 221=>12 | 268=>26 | 138=>27 | 143=>28 | 195=>69 | 197=>70 | 218=>71 | 219=>72 | 260=>112 | 217=>113 | 225=>114 | 224=>115 | 267=>116 | 266=>146 | 314=>147 | n=>n,fun | 9=>9 | 31=>22 | 3=>3 | 4=>4 | 0=>0 | 105=>127 | 21=>21 | 5=>5 | 46=>154 | 119=>183 | 139=>186 | 138=>185 | 146=>188 | 51=>187 | n=>n,fun | 1=>0 | 3=>1 | 4=>2 | n=>n⟩
theorem Tryz.lays146:Go.Proofs.Lays.n146 Tryz.prog Tryz.lays146_ren:={
 mixed:=by kernel_rfl
 f138:=Tryz.func27.trans (congrArg some (by kernel_rfl))
 f143:=Tryz.func28.trans (congrArg some (by kernel_rfl))
 f146:=Tryz.func7.trans (congrArg some (by kernel_rfl))
 f195:=Tryz.func69.trans (congrArg some (by kernel_rfl))
 f197:=Tryz.func70.trans (congrArg some (by kernel_rfl))
 f217:=Tryz.func113.trans (congrArg some (by kernel_rfl))
 f218:=Tryz.func71.trans (congrArg some (by kernel_rfl))
 f219:=Tryz.func72.trans (congrArg some (by kernel_rfl))
 f221:=Tryz.func12.trans (congrArg some (by kernel_rfl))
 f224:=Tryz.func115.trans (congrArg some (by kernel_rfl))
 f225:=Tryz.func114.trans (congrArg some (by kernel_rfl))
 f260:=Tryz.func112.trans (congrArg some (by kernel_rfl))
 f266:=Tryz.func146.trans (congrArg some (by kernel_rfl))
 f267:=Tryz.func116.trans (congrArg some (by kernel_rfl))
 f268:=Tryz.func26.trans (congrArg some (by kernel_rfl))
 f314:=Tryz.func147.trans (congrArg some (by kernel_rfl))
 t0:=Tryz.underlying0
 a0:=Tryz.isAgg0
 z0:=Tryz.sizeOf0
 v0:=Tryz.zeroValue0
 t3:=Tryz.underlying3
 a3:=Tryz.isAgg3
 z3:=Tryz.sizeOf3
 v3:=Tryz.zeroValue3
 t4:=Tryz.underlying4
 a4:=Tryz.isAgg4
 z4:=Tryz.sizeOf4
 v4:=Tryz.zeroValue4
 t5:=Tryz.underlying5
 a5:=Tryz.isAgg5
 z5:=Tryz.sizeOf5
 v5:=Tryz.zeroValue5
 t9:=Tryz.underlying9
 a9:=Tryz.isAgg9
 z9:=Tryz.sizeOf9
 v9:=Tryz.zeroValue9
 t21:=Tryz.underlying21
 a21:=Tryz.isAgg21
 z21:=Tryz.sizeOf21
 v21:=Tryz.zeroValue21
 t31:=Tryz.underlying22
 a31:=Tryz.isAgg22
 z31:=Tryz.sizeOf22
 v31:=Tryz.zeroValue22
 t46:=Tryz.underlying154
 a46:=Tryz.isAgg154
 z46:=Tryz.sizeOf154
 v46:=Tryz.zeroValue154
 t51:=Tryz.underlying187
 a51:=Tryz.isAgg187
 z51:=Tryz.sizeOf187
 v51:=Tryz.zeroValue187
 t105:=Tryz.underlying127
 a105:=Tryz.isAgg127
 z105:=Tryz.sizeOf127
 v105:=Tryz.zeroValue127
 t119:=Tryz.underlying183
 a119:=Tryz.isAgg183
 z119:=Tryz.sizeOf183
 t138:=Tryz.underlying185
 a138:=Tryz.isAgg185
 z138:=Tryz.sizeOf185
 v138:=Tryz.zeroValue185
 t139:=Tryz.underlying186
 a139:=Tryz.isAgg186
 z139:=Tryz.sizeOf186
 v139:=Tryz.zeroValue186
 t146:=Tryz.underlying188
 a146:=Tryz.isAgg188
 z146:=Tryz.sizeOf188
 v146:=Tryz.zeroValue188
 g1:=by kernel_rfl
 g3:=by kernel_rfl
 g4:=by kernel_rfl }
open Go.RowKit Go.Lib in
theorem Tryz.strings_Split (s sep:ByteArray) (m:Int) (w:World) (hs:s.size < 4294967281) (hm:w.cell? ⟨0,0,none⟩ = some (.int .i64 m)) (h1:1≤sep.size):
 Calls Tryz.prog 7 #[.string s,.string sep] w fun e w'=>
  e = .returned (.slice (some ⟨w.heap.size,0,none⟩) (Lib.countB s sep + 1) (Lib.countB s sep + 1))∧w' = w.alloc (.cells ((Lib.splitB sep 0 (Lib.countB s sep) s).map Value.string).toArray 9):=Any.strings_Split Tryz.lays146 (by kernel_rfl) s sep m w hs hm h1
def Tryz.lays229_ren:Go.Shelf.Ren:=⟨fun | 229=>20 | n=>n,fun | 9=>9 | 40=>56 | 31=>22 | 152=>103 | 3=>3 | 0=>0 | 4=>4 | 21=>21 | 154=>105 | n=>n,fun | n=>n⟩
theorem Tryz.lays229:Go.Proofs.Lays.n229 Tryz.prog Tryz.lays229_ren:={
 mixed:=by kernel_rfl
 f229:=Tryz.func20.trans (congrArg some (by kernel_rfl))
 t0:=Tryz.underlying0
 a0:=Tryz.isAgg0
 z0:=Tryz.sizeOf0
 v0:=Tryz.zeroValue0
 t3:=Tryz.underlying3
 a3:=Tryz.isAgg3
 z3:=Tryz.sizeOf3
 v3:=Tryz.zeroValue3
 t4:=Tryz.underlying4
 a4:=Tryz.isAgg4
 z4:=Tryz.sizeOf4
 v4:=Tryz.zeroValue4
 t9:=Tryz.underlying9
 a9:=Tryz.isAgg9
 z9:=Tryz.sizeOf9
 v9:=Tryz.zeroValue9
 t21:=Tryz.underlying21
 a21:=Tryz.isAgg21
 z21:=Tryz.sizeOf21
 v21:=Tryz.zeroValue21
 t31:=Tryz.underlying22
 a31:=Tryz.isAgg22
 z31:=Tryz.sizeOf22
 v31:=Tryz.zeroValue22
 t40:=Tryz.underlying56
 a40:=Tryz.isAgg56
 z40:=Tryz.sizeOf56
 v40:=Tryz.zeroValue56
 t152:=Tryz.underlying103
 a152:=Tryz.isAgg103
 z152:=Tryz.sizeOf103
 v152:=Tryz.zeroValue103
 t154:=Tryz.underlying105
 a154:=Tryz.isAgg105
 z154:=Tryz.sizeOf105
 v154:=Tryz.zeroValue105 }
open Go.RowKit Go.Lib in
theorem Tryz.strings_FieldsFunc_grows (g:Nat) (lb:Array Value) (eg:∀ args w,(callFunc g args).run Tryz.prog w = .ok (.enter g args) w) (p:Nat→Bool) (s:ByteArray) (w:World) (hs:s.size≤4294967296) (hp:PredGrows Tryz.prog g lb p w):
 Calls Tryz.prog 20 #[.string s,.func (.func g) #[] lb] w fun e w'=>∃ A,e = .returned (.slice (some ⟨A,0,none⟩) (Lib.goFieldsP p s).length (Lib.goFieldsP p s).length)∧w.heap.size≤A ∧
  w'.ownsRow w.heap.size 9 1 (.slice (some ⟨A,0,none⟩) (Lib.goFieldsP p s).length (Lib.goFieldsP p s).length) (Lib.goFieldsP p s).length ((Lib.goFieldsP p s).map Value.string)∧Below w.heap.size w w':=Any.strings_FieldsFunc_grows Tryz.lays229 g lb eg p s w hs hp (by kernel_rfl) (by kernel_rfl)
end Go.Proofs
namespace Go.Proofs.YtaphdnpjpmnaeadGreatDoor
open Go.Am Go.RowKit
theorem cell_below {w w':World} {b i:Nat} {v:Value} (h:w.cell? ⟨b,i,none⟩ = some v) (hb:Below w.heap.size w w'):w'.cell? ⟨b,i,none⟩ = some v:=by
 have hlt:b < w.heap.size:=by
  unfold World.cell? at h
  by_cases e:b < w.heap.size
  ·exact e
  ·rw [Array.getElem?_eq_none (by show w.heap.size≤b;omega)] at h;cases h
 unfold World.cell? at h ⊢
 rw [hb.block b hlt]
 exact h
theorem tab1 {w w':World} (h:Lib.TabIs Tryz.prog w "internal/strconv.uint64pow10" .u64 Lib.pow10Tab) (hb:Below w.heap.size w w'):Lib.TabIs Tryz.prog w' "internal/strconv.uint64pow10" .u64 Lib.pow10Tab:=by
 exact Go.Joins.tab_stays (g:=3) (by kernel_rfl) h hb (Nat.le_refl _)
set_option maxRecDepth 100000 in
theorem blank (x:Nat) (hx:x≤1114111) (w:World):Calls Tryz.prog 21 #[.int .i32 (x:Int)] w fun e w'=>e = .returned (.bool (x == 32))∧Below w.heap.size w w':=by
 by_cases h:(x:Int) = 32
 all_goals (
  go_enter Tryz.func21,Tryz.ntmps21
  go_wp2
  go_ret
  refine ⟨?_,Below.refl _ _⟩)
 ·have e:x = 32:=by omega
  subst e;rfl
 ·show Ending.returned (.bool ((x:Int) == 32)) = _
  rw [show ((x:Int) == 32) = false from by simpa using h,show (x == 32) = false from by simp;omega]
theorem fields (s:ByteArray) (w:World) (hs:s.size≤4294967296):Calls Tryz.prog 20 #[.string s,.func (.func 21) #[] #[]] w fun e w'=>∃ A,e = .returned (.slice (some ⟨A,0,none⟩) (Fs s).length (Fs s).length)∧w.heap.size≤A ∧
 w'.ownsRow w.heap.size 9 1 (.slice (some ⟨A,0,none⟩) (Fs s).length (Fs s).length) (Fs s).length ((Fs s).map Value.string)∧Below w.heap.size w w':=
 Tryz.strings_FieldsFunc_grows 21 #[] (enters_of Tryz.func21 (by kernel_rfl) rfl) (fun r=>r == 32) s w hs fun W x hx _=>blank x hx W
theorem strs:StrC Tryz.prog sno Fs 9 9 tab where
 body f h:=by
  simp only [strOut,sno,Bool.or_eq_true,beq_iff_eq] at h
  rcases h with (((rfl | rfl) | rfl) | rfl) | rfl
  ·exact ⟨_,Tryz.func7,by kernel_rfl,by kernel_rfl⟩
  ·exact ⟨_,Tryz.func14,by kernel_rfl,by kernel_rfl⟩
  ·exact ⟨_,Tryz.func16,by kernel_rfl,by kernel_rfl⟩
  ·exact ⟨_,Tryz.func45,by kernel_rfl,by kernel_rfl⟩
  ·exact ⟨_,Tryz.func20,by kernel_rfl,by kernel_rfl⟩
 tab_below w0 w h hb:=⟨tab1 h.1 hb,h.2.elim fun q hq=>⟨q,cell_below hq hb⟩⟩
 tab_cell w h:=h.2
 split s sep w hk h1 h2:=hk.elim fun q hq=>Tryz.strings_Split s sep q w h1 hq h2
 itoa x w h1 h2 ht:=(Tryz.strconv_Itoa x h1 h2 w ht.1).mono fun e w' ⟨h,k,os,hw⟩=>⟨h,by rw [hw];exact Lib.below_grow _ _ (Nat.le_refl _) _ _⟩
 join bk o c xs sep w h1 h2 h3 h4 h5:=Tryz.strings_Join bk o c xs sep w h1 h2 h3 h4 h5
 join0 sep w:=Tryz.strings_Join_none none 0 sep w
 atoi s x w h1 h2:=(Tryz.strconv_Atoi s x h1 h2 w).mono fun e w' ⟨h,t,hw⟩=>⟨h,by rw [hw];exact Go.Joins.below_bytesWorld _ _ _ _ (Nat.le_refl _)⟩
 fields:=fields
open Go.Am
def rangeI (n:Nat):List Int:=(List.range n).map fun (i:Nat)=>(i:Int)
theorem mem_rangeI {n:Nat} {x:Int}:x∈rangeI n↔0≤x∧x < n:=by
 simp only [rangeI,List.mem_map,List.mem_range]
 constructor
 ·rintro ⟨i,h,rfl⟩;omega
 ·rintro ⟨h1,h2⟩;exact ⟨x.toNat,by omega,by omega⟩
def GoodP (p:List Int):Prop:=p.Nodup∧∀ x∈p,0≤x∧x < p.length
theorem nodup_len {α:Type} [BEq α] [LawfulBEq α]:∀ {p q:List α},p.Nodup→(∀ x∈p,x∈q)→p.length≤q.length
 | [],_,_,_=>Nat.zero_le _
 | x :: p,q,hn,hs=>by
  rw [List.nodup_cons] at hn
  have hx:x∈q:=hs x (by simp)
  have:=nodup_len (p:=p) (q:=q.erase x) hn.2 (fun y hy=>by
   have hyx:y≠x:=fun e=>hn.1 (e ▸ hy)
   exact (List.mem_erase_of_ne hyx).2 (hs y (by simp [hy])))
  rw [List.length_erase_of_mem hx] at this
  have:0 < q.length:=List.length_pos_of_mem hx
  simp only [List.length_cons];omega
theorem nodup_rangeI (n:Nat):(rangeI n).Nodup:=by
 unfold rangeI
 rw [List.nodup_iff_pairwise_ne,List.pairwise_map]
 exact (List.nodup_iff_pairwise_ne.1 List.nodup_range).imp fun h e=>h (by omega)
theorem perm_of_mem:∀ (n:Nat) (p:List Int),p.length = n→(∀ i:Nat,i < n→(i:Int)∈p)→p.Perm (rangeI n)
 | 0,p,hl,_=>by rw [List.eq_nil_of_length_eq_zero hl];exact List.Perm.nil
 | n + 1,p,hl,hm=>by
  have hn:(n:Int)∈p:=hm n (by omega)
  have ih:=perm_of_mem n (p.erase n) (by rw [List.length_erase_of_mem hn];omega) (fun i hi=>(List.mem_erase_of_ne (by omega)).2 (hm i (by omega)))
  refine (List.perm_cons_erase hn).trans ?_
  refine (List.Perm.cons _ ih).trans ?_
  unfold rangeI
  rw [List.range_succ,List.map_append]
  exact (List.perm_append_comm (l₁:=[(n:Int)]))
theorem good_of_mem {p:List Int} (h:∀ i:Nat,i < p.length→(i:Int)∈p):GoodP p:=by
 have hp:=perm_of_mem p.length p rfl h
 refine ⟨hp.nodup_iff.2 (nodup_rangeI _),fun x hx=>mem_rangeI.1 (hp.mem_iff.1 hx)⟩
theorem mem_of_good {p:List Int} (h:GoodP p) (i:Nat) (hi:i < p.length):(i:Int)∈p:=by
 by_cases hm:(i:Int)∈p
 ·exact hm
 ·exfalso
  have:=nodup_len (p:=(i:Int) :: p) (q:=rangeI p.length) (List.nodup_cons.2 ⟨hm,h.1⟩) (fun x hx=>by
   rcases List.mem_cons.1 hx with rfl | hx
   ·exact mem_rangeI.2 ⟨by omega,by omega⟩
   ·exact mem_rangeI.2 (h.2 x hx))
  simp [rangeI] at this
  omega
open Classical in
noncomputable def permE (p:List Int):Int:=if p.length > 10 then 2 else if GoodP p then 0 else 3
theorem index_eq (F:Nat) (p:List Int) (x:Int) (hF:p.length < F) (hl:p.length≤1000000):∃ r,F144 F p x = some r∧(x∈p∧0≤r∧r < p.length∧at? p r = some x∨¬ x∈p∧r = -1):=by
 unfold F144
 obtain ⟨b,hb,hQ⟩:=iter_inv (step:=F144_l0 F p x) (I:=fun s=>∃ i:Nat,s = i∧i≤p.length∧x ∉ p.take i) (μ:=fun s=>p.length - s.toNat)
  (Q:=fun b=>(b = .inl ()∧x ∉ p)∨∃ i:Nat,i < p.length∧b = .inr (i:Int)∧at? p (i:Int) = some x) (by
    rintro s ⟨i,rfl,hi,hn⟩
    unfold F144_l0
    by_cases hlt:i < p.length
    ·rw [if_pos (decide_eq_true (by omega)),at?_in hlt]
     simp only [Option.bind_some]
     by_cases e:x = p[i]
     ·right
      rw [if_pos (by simpa using e)]
      exact ⟨_,rfl,.inr ⟨i,hlt,rfl,by rw [at?_in hlt,e]⟩⟩
     ·left
      rw [if_neg (by simpa using e),w64 (by omega) (by omega)]
      refine ⟨_,rfl,⟨i + 1,by omega,by omega,?_⟩,by omega⟩
      intro hm
      rw [List.take_add_one,List.getElem?_eq_getElem hlt] at hm
      rcases List.mem_append.1 hm with h | h
      ·exact hn h
      ·simp at h;exact e h
    ·right
     rw [if_neg (by rw [decide_eq_true_eq];omega)]
     refine ⟨_,rfl,.inl ⟨rfl,?_⟩⟩
     rwa [List.take_of_length_le (by omega)] at hn) F 0 ⟨0,rfl,by omega,by simp⟩ (by simpa using hF)
 rw [hb]
 simp only [Option.bind_some]
 rcases hQ with ⟨rfl,h⟩ | ⟨i,hi,rfl,h⟩
 ·exact ⟨-1,rfl,.inr ⟨h,rfl⟩⟩
 ·refine ⟨i,rfl,.inl ⟨?_,by omega,by omega,h⟩⟩
  exact List.mem_of_getElem? (at?_some h).2.2
theorem contains_eq (F:Nat) (p:List Int) (x:Int) (hF:p.length < F) (hl:p.length≤1000000):F104 F p x = some (decide (x∈p)):=by
 unfold F104
 obtain ⟨r,h1,h2⟩:=index_eq F p x hF hl
 rw [h1]
 simp only [Option.bind_some]
 rcases h2 with ⟨h3,h4,_⟩ | ⟨h3,rfl⟩
 ·simp [h3,h4]
 ·simp [h3]
theorem permErr_eq (F:Nat) (p:List Int) (hF:12≤F):F46 F p = some (permE p):=by
 unfold F46 permE
 by_cases hl:p.length > 10
 ·rw [if_pos (decide_eq_true (by omega)),if_pos hl]
 rw [if_neg (by rw [decide_eq_true_eq];omega),if_neg hl]
 obtain ⟨b,hb,hQ⟩:=iter_inv (step:=F46_l0 F p) (I:=fun s=>∃ i:Nat,s = i∧i≤p.length∧∀ j < i,((j:Nat):Int)∈p) (μ:=fun s=>p.length - s.toNat)
  (Q:=fun b=>(b = .inl ()∧GoodP p)∨b = .inr 3∧¬ GoodP p) (by
    rintro s ⟨i,rfl,hi,hn⟩
    unfold F46_l0
    by_cases hlt:i < p.length
    ·rw [if_pos (decide_eq_true (by omega)),contains_eq F p i (by omega) (by omega)]
     simp only [Option.bind_some]
     by_cases e:(i:Int)∈p
     ·left
      rw [if_neg (by simp [e]),w64 (by omega) (by omega)]
      refine ⟨_,rfl,⟨i + 1,by omega,by omega,?_⟩,by omega⟩
      intro j hj
      by_cases h:j = i
      ·subst h;exact e
      ·exact hn j (by omega)
     ·right
      rw [if_pos (by simp [e])]
      exact ⟨_,rfl,.inr ⟨rfl,fun hg=>e (mem_of_good hg i hlt)⟩⟩
    ·right
     rw [if_neg (by rw [decide_eq_true_eq];omega)]
     exact ⟨_,rfl,.inl ⟨rfl,good_of_mem fun j hj=>hn j (by omega)⟩⟩) F 0 ⟨0,rfl,by omega,by omega⟩ (by simp;omega)
 rw [hb]
 simp only [Option.bind_some]
 rcases hQ with ⟨rfl,h⟩ | ⟨rfl,h⟩
 ·rw [if_pos h]
 ·rw [if_neg h]
def seen (q:List Int):List Bool:=(List.range 10).map fun (v:Nat)=>decide ((v:Int)∈q)
theorem seen_at (q:List Int) {x:Int} (h0:0≤x) (h1:x < 10):at? (seen q) x = some (decide (x∈q)):=by
 obtain ⟨v,rfl⟩:∃ v:Nat,x = v:=⟨x.toNat,by omega⟩
 rw [at?_in (by simp [seen];omega)]
 simp [seen]
theorem seen_set (q:List Int) {x:Int} (h0:0≤x) (h1:x < 10):(seen q).set x.toNat true = seen (q ++ [x]):=by
 obtain ⟨v,rfl⟩:∃ v:Nat,x = v:=⟨x.toNat,by omega⟩
 apply List.ext_getElem?
 intro j
 rw [List.getElem?_set]
 simp only [seen,List.getElem?_map,List.length_map,List.length_range,Int.toNat_natCast]
 by_cases hj:v = j
 ·subst hj
  rw [if_pos rfl,if_pos (by omega),List.getElem?_range (by omega)]
  simp
 ·rw [if_neg hj]
  by_cases hj2:j < 10
  ·rw [List.getElem?_range hj2]
   simp
   omega
  ·rw [List.getElem?_eq_none (by simpa using hj2)];rfl
theorem check_eq (F:Nat) (p:List Int) (hF:12≤F):F133 F p = some (permE p):=by
 unfold F133 permE
 by_cases hl:p.length > 10
 ·rw [if_pos (decide_eq_true (by omega)),if_pos hl]
 rw [if_neg (by rw [decide_eq_true_eq];omega),if_neg hl]
 obtain ⟨b,hb,hQ⟩:=iter_inv (step:=F133_l0 F p) (I:=fun s=>∃ i:Nat,s = ((i:Int),seen (p.take i))∧i≤p.length∧(p.take i).Nodup∧∀ x∈p.take i,0≤x∧x < p.length) (μ:=fun s=>p.length - s.1.toNat)
  (Q:=fun b=>(b = .inl ()∧GoodP p)∨b = .inr 3∧¬ GoodP p) (by
    rintro s ⟨i,rfl,hi,hn,hr⟩
    unfold F133_l0
    simp only
    by_cases hlt:i < p.length
    ·rw [if_pos (decide_eq_true (by omega)),at?_in hlt]
     simp only [Option.bind_some]
     have htake:p.take (i + 1) = p.take i ++ [p[i]]:=by rw [List.take_add_one,List.getElem?_eq_getElem hlt];rfl
     by_cases hx:p[i] < 0∨p[i] ≥ p.length
     ·right
      rw [if_pos (by simpa using hx)]
      refine ⟨_,rfl,.inr ⟨rfl,fun hg=>?_⟩⟩
      have:=hg.2 p[i] (List.getElem_mem hlt)
      omega
     ·rw [if_neg (by simpa using hx),seen_at _ (by omega) (by omega)]
      simp only [Option.bind_some]
      by_cases hs:p[i]∈p.take i
      ·right
       rw [if_pos (by simpa using hs)]
       refine ⟨_,rfl,.inr ⟨rfl,fun hg=>?_⟩⟩
       have h1:(p.take (i + 1)).Nodup:=hg.1.sublist (List.take_sublist _ _)
       rw [htake,List.nodup_append] at h1
       exact h1.2.2 p[i] hs p[i] (by simp) rfl
      ·left
       obtain ⟨v,hv⟩:∃ v:Nat,p[i] = v:=⟨p[i].toNat,by omega⟩
       rw [if_neg (by simpa using hs),show ck (seen (p.take i)) p[i] = some () from by rw [hv];exact ck_ok (by simp [seen];omega)]
       simp only [Option.bind_some]
       rw [w64 (by omega) (by omega),seen_set _ (by omega) (by omega),← htake]
       refine ⟨_,rfl,⟨i + 1,by simp,by omega,?_,?_⟩,by simp;omega⟩
       ·rw [htake,List.nodup_append]
        refine ⟨hn,by simp,?_⟩
        intro a ha b hb e
        simp at hb
        exact hs (by rw [← hb,← e];exact ha)
       ·intro x hx2
        rw [htake] at hx2
        rcases List.mem_append.1 hx2 with h | h
        ·exact hr x h
        ·simp at h;subst h;omega
    ·right
     rw [if_neg (by rw [decide_eq_true_eq];omega)]
     rw [List.take_of_length_le (by omega)] at hn hr
     exact ⟨_,rfl,.inl ⟨rfl,hn,hr⟩⟩) F (0,List.replicate 10 false) ⟨0,by simp [seen];rfl,by omega,by simp,by simp⟩ (by simp;omega)
 rw [hb]
 simp only [Option.bind_some]
 rcases hQ with ⟨rfl,h⟩ | ⟨rfl,h⟩
 ·rw [if_pos h]
 ·rw [if_neg h]
end Go.Proofs.YtaphdnpjpmnaeadGreatDoor
namespace Go.Am
theorem sub?_ok {α:Type} {L:List α} {a b:Nat} (h:a≤b) (h2:b≤L.length):sub? L (a:Int) (b:Int) = some ((L.take b).drop a):=by
 unfold sub?;rw [if_pos (by omega)];rfl
theorem sub?_from {α:Type} {L:List α} {a:Nat} (h:a≤L.length):sub? L (a:Int) (L.length:Int) = some (L.drop a):=by
 rw [sub?_ok h (Nat.le_refl _),List.take_length]
theorem sub?_to {α:Type} {L:List α} {b:Nat} (h:b≤L.length):sub? L 0 (b:Int) = some (L.take b):=by
 rw [show (0:Int) = ((0:Nat):Int) from rfl,sub?_ok (Nat.zero_le _) h,List.drop_zero]
theorem find_loop {α β:Type} {step:Int→Option (Stp Int (Unit ⊕ β))} {F:Nat} (L:List α) (p:α→Bool) (g:Nat→α→β)
 (hs:∀ (i:Nat) (h:i < L.length),step (i:Int) = some (if p L[i] then .stop (.inr (g i L[i])) else .more ((i + 1:Nat):Int)))
 (he:step (L.length:Int) = some (.stop (.inl ()))) (hF:L.length < F):
 ((∀ x∈L,p x = false)∧iter step F 0 = some (.inl ()))∨∃ (i:Nat) (h:i < L.length),p L[i] = true∧(∀ (j:Nat) (hj:j < i),p (L[j]'(by omega)) = false)∧iter step F 0 = some (.inr (g i L[i])):=by
 have hmore:∀ j,j < L.findIdx p→step (j:Int) = some (.more ((j + 1:Nat):Int)):=by
  intro j hj
  have hl:j < L.length:=Nat.lt_of_lt_of_le hj List.findIdx_le_length
  rw [hs j hl,if_neg (by simpa using List.not_of_lt_findIdx hj)]
 by_cases h:L.findIdx p < L.length
 ·right
  refine ⟨L.findIdx p,h,List.findIdx_getElem,fun j hj=>by simpa using List.not_of_lt_findIdx hj,?_⟩
  refine iter_count (step:=step) (fun i=>(i:Int)) (L.findIdx p) hmore ?_ (by omega)
  rw [hs _ h,if_pos List.findIdx_getElem]
 ·left
  have e:L.findIdx p = L.length:=Nat.le_antisymm List.findIdx_le_length (by omega)
  refine ⟨List.findIdx_eq_length.1 e,?_⟩
  rw [e] at hmore
  exact iter_count (step:=step) (fun i=>(i:Int)) L.length hmore he hF
theorem any_of_first {α:Type} {L:List α} {p:α→Bool} {i:Nat} (h:i < L.length) (hp:p L[i] = true):L.any p = true:=by
 rw [List.any_eq_true];exact ⟨_,List.getElem_mem h,hp⟩
theorem any_none {α:Type} {L:List α} {p:α→Bool} (h:∀ x∈L,p x = false):L.any p = false:=by
 rw [List.any_eq_false];intro x hx;rw [h x hx];decide
theorem any_loop {α β:Type} {step:Int→Option (Stp Int (Unit ⊕ β))} {F:Nat} (L:List α) (p:α→Bool) (c:β)
 (hs:∀ (i:Nat) (h:i < L.length),step (i:Int) = some (if p L[i] then .stop (.inr c) else .more ((i + 1:Nat):Int)))
 (he:step (L.length:Int) = some (.stop (.inl ()))) (hF:L.length < F):iter step F 0 = some (if L.any p then .inr c else .inl ()):=by
 rcases find_loop L p (fun _ _=>c) hs he hF with ⟨h1,h2⟩ | ⟨i,h,h1,_,h2⟩
 ·rw [h2,any_none h1];rfl
 ·rw [h2,any_of_first h h1];rfl
theorem seek_loop {β:Type} {step:Int→Option (Stp Int (Unit ⊕ β))} {F:Nat} (N:Nat) (p:Nat→Bool) (g:Nat→β)
 (hs:∀ (i:Nat),i < N→step (i:Int) = some (if p i then .stop (.inr (g i)) else .more ((i + 1:Nat):Int)))
 (he:step (N:Int) = some (.stop (.inl ()))) (hF:N < F):
 ((∀ i,i < N→p i = false)∧iter step F 0 = some (.inl ()))∨∃ (i:Nat),i < N∧p i = true∧(∀ (j:Nat),j < i→p j = false)∧iter step F 0 = some (.inr (g i)):=by
 rcases find_loop (step:=step) (F:=F) (List.range N) p (fun i _=>g i) (fun i h=>by simp only [List.getElem_range];exact hs i (by simpa using h)) (by simpa using he) (by simpa using hF) with ⟨h1,h2⟩ | ⟨i,h,h1,h3,h2⟩
 ·exact .inl ⟨fun i hi=>h1 i (by simpa using hi),h2⟩
 ·simp only [List.getElem_range] at h1 h3 h2
  exact .inr ⟨i,by simpa using h,h1,h3,h2⟩
theorem iter_par {σ β γ:Type} {step:σ→Option (Stp σ β)} {step':σ→Option (Stp σ γ)} (I:σ→Prop) (μ:σ→Nat) (R:β→γ→Prop)
 (h:∀ s,I s→(∃ s',step s = some (.more s')∧step' s = some (.more s')∧I s'∧μ s' < μ s)∨∃ b c,step s = some (.stop b)∧step' s = some (.stop c)∧R b c):
 ∀ (F:Nat) (s:σ),I s→μ s < F→∃ b c,iter step F s = some b∧iter step' F s = some c∧R b c
 | 0,_,_,hF=>by omega
 | F + 1,s,hs,hF=>by
  rcases h s hs with ⟨s',h1,h1',h2,h3⟩ | ⟨b,c,h1,h2,h3⟩
  ·rw [iter_more h1,iter_more h1'];exact iter_par I μ R h F s' h2 (by omega)
  ·exact ⟨b,c,iter_stop h1,iter_stop h2,h3⟩
theorem wadd {a b:Nat} (h:a + b≤9223372036854775807):wrapA .i64 ((a:Int) + (b:Int)) = ((a + b:Nat):Int):=by
 rw [w64 (by omega) (by omega)];rfl
theorem wsuc {a:Nat} (h:a < 9223372036854775807):wrapA .i64 ((a:Int) + 1) = ((a + 1:Nat):Int):=by
 rw [w64 (by omega) (by omega)];rfl
theorem wsub {a b:Nat} (h:b≤a) (h2:a≤9223372036854775807):wrapA .i64 ((a:Int) - (b:Int)) = ((a - b:Nat):Int):=by
 rw [w64 (by omega) (by omega)];omega
theorem wpred {a:Nat} (h:0 < a) (h2:a≤9223372036854775807):wrapA .i64 ((a:Int) - 1) = ((a - 1:Nat):Int):=by
 rw [w64 (by omega) (by omega)];omega
theorem wmul {a b:Nat} (h:a * b≤9223372036854775807):wrapA .i64 ((a:Int) * (b:Int)) = ((a * b:Nat):Int):=by
 rw [← Int.natCast_mul,w64 (by omega) (by omega)]
theorem wnat {a:Nat} (h:a≤9223372036854775807):wrapA .i64 (a:Int) = (a:Int):=w64 (by omega) (by omega)
def tb {α:Type} (n:Nat) (f:Nat→α):List α:=(List.range n).map f
section
variable {α:Type} {n:Nat} {f g:Nat→α}
theorem tb_len (n:Nat) (f:Nat→α):(tb n f).length = n:=by simp [tb]
theorem tb_get {i:Nat} (h:i < n):at? (tb n f) (i:Int) = some (f i):=by
 rw [at?_in (by rw [tb_len];exact h)];simp [tb]
theorem tb_get? (i:Nat):(tb n f)[i]? = if i < n then some (f i) else none:=by
 by_cases h:i < n
 ·rw [if_pos h];simp [tb,h]
 ·rw [if_neg h];simp [tb,h]
theorem tb_set {i:Nat} {x:α}:(tb n f).set i x = tb n fun j=>if j = i then x else f j:=by
 apply List.ext_getElem?
 intro j
 rw [List.getElem?_set,tb_get?,tb_get?,tb_len]
 by_cases hj:j < n
 ·by_cases e:i = j
  ·subst e;simp [hj]
  ·rw [if_neg e,if_pos hj,if_pos hj,if_neg (fun q=>e q.symm)]
 ·by_cases e:i = j
  ·subst e;simp [hj]
  ·simp [e,hj]
theorem tb_rep (n:Nat) (z:α):List.replicate n z = tb n fun _=>z:=by
 apply List.ext_getElem?
 intro j
 rw [tb_get?,List.getElem?_replicate]
theorem tb_congr (h:∀ i,i < n→f i = g i):tb n f = tb n g:=by
 unfold tb
 exact List.map_congr_left fun i hi=>h i (by simpa using hi)
theorem tb_ck {i:Nat} (h:i < n):ck (tb n f) (i:Int) = some ():=ck_ok (by rw [tb_len];exact h)
theorem tb_succ (n:Nat) (f:Nat→α):tb (n + 1) f = tb n f ++ [f n]:=by
 simp [tb,List.range_succ]
end
def nx {α:Type} (d:α) (L:List α) (i:Nat):α:=(L[i]?).getD d
theorem nx_get {α:Type} {d:α} {L:List α} {i:Nat} (h:i < L.length):at? L (i:Int) = some (nx d L i):=by
 rw [at?_in h];simp [nx,h]
theorem nx_eq {α:Type} {d:α} {L:List α} {i:Nat} (h:i < L.length):nx d L i = L[i]:=by simp [nx,h]
theorem nx_mem {α:Type} {d:α} {L:List α} {i:Nat} (h:i < L.length):nx d L i∈L:=by
 rw [nx_eq h];exact List.getElem_mem h
theorem nx_out {α:Type} {d:α} {L:List α} {i:Nat} (h:L.length≤i):nx d L i = d:=by simp [nx,h]
theorem ite_some {α:Type} {c:Prop} [Decidable c] (a b:α):(if c then some a else some b) = some (if c then a else b):=by split <;> rfl
theorem seekS {σ β:Type} {step:σ→Option (Stp σ β)} {F:Nat} (N:Nat) (P:Nat→σ) (p:Nat→Bool) (g:Nat→β) (b:β)
 (hs:∀ i,i < N→(∀ j,j < i→p j = false)→step (P i) = some (if p i then .stop (g i) else .more (P (i + 1))))
 (he:(∀ j,j < N→p j = false)→step (P N) = some (.stop b)) (hF:N < F):
 ((∀ i,i < N→p i = false)∧iter step F (P 0) = some b)∨∃ i,i < N∧p i = true∧(∀ j,j < i→p j = false)∧iter step F (P 0) = some (g i):=by
 by_cases h:∀ i,i < N→p i = false
 ·left
  refine ⟨h,iter_count P N (fun i hi=>?_) (he h) hF⟩
  rw [hs i hi (fun j hj=>h j (by omega)),if_neg (by rw [h i hi];decide)]
 ·right
  have hx:∃ i,i < N∧p i = true∧∀ j,j < i→p j = false:=by
   have hf:(List.range N).findIdx p < N:=by
    have h1:(List.range N).findIdx p≤(List.range N).length:=List.findIdx_le_length
    rw [List.length_range] at h1
    rcases Nat.lt_or_ge ((List.range N).findIdx p) N with h2 | h2
    ·exact h2
    ·exfalso
     apply h
     have e:(List.range N).findIdx p = (List.range N).length:=by rw [List.length_range];omega
     intro i hi
     exact (List.findIdx_eq_length.1 e) i (by simpa using hi)
   refine ⟨(List.range N).findIdx p,hf,?_,fun j hj=>?_⟩
   ·have:=List.findIdx_getElem (p:=p) (xs:=List.range N) (w:=by simpa using hf)
    simpa using this
   ·have:=List.not_of_lt_findIdx hj
    simpa using this
  obtain ⟨i,hi,h1,h2⟩:=hx
  refine ⟨i,hi,h1,h2,iter_count P i (fun j hj=>?_) ?_ (by omega)⟩
  ·rw [hs j (by omega) (fun q hq=>h2 q (by omega)),if_neg (by rw [h2 j hj];decide)]
  ·rw [hs i hi h2,if_pos h1]
def sm:Nat→(Nat→Int)→Int
 | 0,_=>0
 | k + 1,f=>sm k f + f k
theorem sm_succ (k:Nat) (f:Nat→Int):sm (k + 1) f = sm k f + f k:=rfl
theorem sm_congr {f g:Nat→Int}:∀ {k:Nat},(∀ i,i < k→f i = g i)→sm k f = sm k g
 | 0,_=>rfl
 | k + 1,h=>by rw [sm_succ,sm_succ,sm_congr (fun i hi=>h i (by omega)),h k (by omega)]
theorem sm_zero:∀ k,sm k (fun _=>0) = 0
 | 0=>rfl
 | k + 1=>by rw [sm_succ,sm_zero k];rfl
theorem sm_nonneg {f:Nat→Int}:∀ {k:Nat},(∀ i,i < k→0≤f i)→0≤sm k f
 | 0,_=>Int.le_refl _
 | k + 1,h=>by have:=sm_nonneg (k:=k) (fun i hi=>h i (by omega));have:=h k (by omega);rw [sm_succ];omega
theorem sm_bound {f:Nat→Int} {B:Int}:∀ {k:Nat},(∀ i,i < k→0≤f i∧f i≤B)→0≤sm k f∧sm k f≤B * k
 | 0,_=>by simp [sm]
 | k + 1,h=>by
  have h1:=sm_bound (k:=k) (fun i hi=>h i (by omega))
  have h2:=h k (by omega)
  rw [sm_succ,Int.natCast_add,Int.mul_add]
  simp only [Int.natCast_one,Int.mul_one]
  omega
theorem sm_mono {f:Nat→Int} {j:Nat}:∀ {k:Nat},(∀ i,i < k→0≤f i)→j≤k→sm j f≤sm k f
 | 0,_,h=>by rw [show j = 0 from by omega];exact Int.le_refl _
 | k + 1,h,hj=>by
  by_cases e:j = k + 1
  ·subst e;exact Int.le_refl _
  ·have:=sm_mono (k:=k) (fun i hi=>h i (by omega)) (by omega:j≤k);have:=h k (by omega);rw [sm_succ];omega
theorem sm_term {f:Nat→Int} {k c:Nat} (h:∀ i,i < k→0≤f i) (hc:c < k):f c≤sm k f:=by
 have h1:=sm_mono (j:=c + 1) h (by omega)
 have h2:=sm_nonneg (f:=f) (k:=c) fun i hi=>h i (by omega)
 rw [sm_succ] at h1;omega
end Go.Am
namespace Go.Proofs.YtaphdnpjpmnaeadGreatDoor
open Go.Am
def fac:Nat→Nat
 | 0=>1
 | n + 1=>(n + 1) * fac n
theorem fac_pos:∀ n,0 < fac n
 | 0=>by decide
 | n + 1=>Nat.mul_pos (by omega) (fac_pos n)
theorem fac_le:∀ n,n≤10→fac n≤3628800:=by
 intro n hn
 have h:(List.range 11).all (fun n=>decide (fac n≤3628800)) = true:=by decide
 simp only [List.all_eq_true,List.mem_range,decide_eq_true_eq] at h
 exact h n (by omega)
def cnt (x:Int) (L:List Int):Nat:=L.countP (fun y=>decide (y < x))
theorem cnt_le (x:Int) (L:List Int):cnt x L≤L.length:=List.countP_le_length
theorem cnt_perm {x:Int} {L M:List Int} (h:L.Perm M):cnt x L = cnt x M:=h.countP_eq _
theorem cnt_app (x:Int) (L M:List Int):cnt x (L ++ M) = cnt x L + cnt x M:=List.countP_append
theorem cnt_all {x:Int} {L:List Int} (h:∀ y∈L,y < x):cnt x L = L.length:=List.countP_eq_length.2 fun y hy=>by simpa using h y hy
theorem cnt_cons (x y:Int) (L:List Int):cnt x (y :: L) = cnt x L + if y < x then 1 else 0:=by
 unfold cnt;rw [List.countP_cons];simp
def rk:List Int→Nat
 | []=>0
 | x :: L=>cnt x L * fac L.length + rk L
theorem rk_lt:∀ L:List Int,rk L < fac L.length
 | []=>by decide
 | x :: L=>by
  have h1:=rk_lt L
  have h2:cnt x L * fac L.length≤L.length * fac L.length:=Nat.mul_le_mul_right _ (cnt_le x L)
  show cnt x L * fac L.length + rk L < (L.length + 1) * fac L.length
  rw [Nat.add_mul,Nat.one_mul];omega
theorem refFac_eq:∀ (n F:Nat),n≤10→n + 2≤F→F49 F n = some (fac n:Int):=by
 intro n
 induction n with
 | zero=>intro F _ hF;obtain ⟨G,rfl⟩:∃ q,F = q + 1:=⟨F - 1,by omega⟩;rfl
 | succ n ih=>
  intro F hn hF
  obtain ⟨G,rfl⟩:∃ q,F = q + 1:=⟨F - 1,by omega⟩
  rw [F49]
  try simp only []
  by_cases h:n = 0
  ·subst h;rfl
  ·rw [if_neg (by rw [decide_eq_true_eq];omega),wpred (by omega) (by omega),show n + 1 - 1 = n from rfl,ih G (by omega) (by omega),Option.bind_some]
   have:=fac_le (n + 1) hn
   have h2:(n + 1) * fac n≤3628800:=this
   rw [wmul (by omega)];rfl
theorem good_perm {p:List Int} (h:GoodP p):p.Perm (rangeI p.length):=perm_of_mem p.length p rfl (mem_of_good h)
theorem cnt_range (n:Nat) (x:Nat) (h:x≤n):cnt (x:Int) (rangeI n) = x:=by
 induction n with
 | zero=>rw [show x = 0 from by omega];rfl
 | succ n ih=>
  have e:rangeI (n + 1) = rangeI n ++ [(n:Int)]:=by unfold rangeI;rw [List.range_succ,List.map_append];rfl
  rw [e,cnt_app]
  by_cases hx:x≤n
  ·rw [ih hx,cnt_cons,if_neg (by omega)];rfl
  ·have:x = n + 1:=by omega
   subst this
   rw [cnt_all (fun y hy=>by have:=mem_rangeI.1 hy;omega),cnt_cons,if_pos (by omega)]
   simp [rangeI,cnt]
theorem good_head {x:Int} {L:List Int} (h:GoodP (x :: L)):(cnt x L:Int) = x:=by
 have h1:=cnt_perm (x:=x) (good_perm h)
 have hx:=h.2 x (by simp)
 rw [cnt_cons,if_neg (by omega)] at h1
 obtain ⟨k,rfl⟩:∃ k:Nat,x = k:=⟨x.toNat,by omega⟩
 rw [cnt_range _ k (by omega)] at h1
 omega
def low (x y:Int):Int:=if y > x then y - 1 else y
theorem rk_map {f:Int→Int}:∀ {L:List Int},(∀ a∈L,∀ b∈L,f a < f b↔a < b)→rk (L.map f) = rk L
 | [],_=>rfl
 | x :: L,h=>by
  show cnt (f x) (L.map f) * fac (L.map f).length + rk (L.map f) = cnt x L * fac L.length + rk L
  rw [rk_map (fun a ha b hb=>h a (by simp [ha]) b (by simp [hb])),List.length_map]
  congr 2
  unfold cnt
  rw [List.countP_map]
  apply List.countP_congr
  intro y hy
  simp only [Function.comp,decide_eq_true_eq]
  exact h y (by simp [hy]) x (by simp)
theorem good_tail {x:Int} {L:List Int} (h:GoodP (x :: L)):GoodP (L.map (low x))∧rk (L.map (low x)) = rk L:=by
 obtain ⟨hn,hb⟩:=h
 rw [List.nodup_cons] at hn
 have hne:∀ y∈L,y≠x:=fun y hy e=>hn.1 (e ▸ hy)
 have hmono:∀ a∈L,∀ b∈L,low x a < low x b↔a < b:=by
  intro a ha b hb'
  have:=hne a ha
  have:=hne b hb'
  unfold low
  split <;> split <;> omega
 refine ⟨⟨?_,?_⟩,rk_map hmono⟩
 ·rw [List.nodup_iff_pairwise_ne,List.pairwise_map]
  have:=List.nodup_iff_pairwise_ne.1 hn.2
  refine (List.Pairwise.and_mem.1 this).imp ?_
  rintro a b ⟨ha,hb',hab⟩ e
  have h1:=hmono a ha b hb'
  have h2:=hmono b hb' a ha
  rw [e] at h1 h2
  omega
 ·intro y hy
  obtain ⟨z,hz,rfl⟩:=List.mem_map.1 hy
  have h1:=hb z (by simp [hz])
  have h2:=hb x (by simp)
  have h3:=hne z hz
  simp only [List.length_cons,List.length_map] at h1 h2 ⊢
  unfold low
  split <;> omega
theorem rankOf_eq:∀ (n F:Nat) (p:List Int),p.length = n→n≤10→n + 15≤F→GoodP p→F48 F p = some (rk p:Int):=by
 intro n
 induction n with
 | zero=>
  intro F p hp _ hF hg
  rw [List.eq_nil_of_length_eq_zero hp]
  obtain ⟨G,rfl⟩:∃ q,F = q + 1:=⟨F - 1,by omega⟩
  rfl
 | succ n ih=>
  intro F p hp hn hF hg
  obtain ⟨G,rfl⟩:∃ q,F = q + 1:=⟨F - 1,by omega⟩
  cases p with
  | nil=>simp at hp
  | cons x L=>
   have hl:L.length = n:=by simpa using hp
   rw [F48]
   try simp only []
   rw [if_neg (by simp;omega),show sub? (x :: L) 1 ((x :: L).length:Int) = some L from by
    rw [show (1:Int) = ((1:Nat):Int) from rfl,sub?_from (by simp)];rfl,Option.bind_some]
   obtain ⟨t1,t2⟩:=good_tail hg
   have hx:=hg.2 x (by simp)
   have hat:at? (x :: L) 0 = some x:=rfl
   have:=iter_count (step:=F48_l0 G (x :: L) L) (F:=G) (fun i=>((L.take i).map (low x),(i:Int))) (b:=L.map (low x)) n ?_ ?_ (by omega)
   ·rw [show (([]:List Int),(0:Int)) = ((L.take 0).map (low x),((0:Nat):Int)) from rfl,this,Option.bind_some,hat,Option.bind_some]
    have hlm:(L.map (low x)).length = n:=by simp [hl]
    rw [hlm,refFac_eq n G (by omega) (by omega),Option.bind_some,ih G _ hlm (by omega) (by omega) t1,Option.bind_some,t2]
    have h1:=good_head hg
    have h2:=rk_lt (x :: L)
    have h3:=fac_le (n + 1) hn
    have h4:rk (x :: L) = cnt x L * fac n + rk L:=by show cnt x L * fac L.length + rk L = _;rw [hl]
    have h5:fac (x :: L).length = fac (n + 1):=by rw [hp]
    rw [show x * (fac n:Int) = ((cnt x L * fac n:Nat):Int) from by rw [Int.natCast_mul,h1],wnat (by omega),wadd (by omega),← h4]
   ·intro i hi
    unfold F48_l0
    simp only
    rw [if_pos (decide_eq_true (by omega)),nx_get (d:=0) (by omega),Option.bind_some,hat,Option.bind_some,wsuc (by omega)]
    have hz:=hg.2 (nx 0 L i) (by simp [nx_mem (d:=(0:Int)) (show i < L.length by omega)])
    simp only [List.length_cons] at hz
    have ht:(L.take (i + 1)).map (low x) = (L.take i).map (low x) ++ [low x (nx 0 L i)]:=by
     rw [List.take_add_one,List.getElem?_eq_getElem (by omega),nx_eq (by omega),List.map_append];rfl
    by_cases hgt:nx 0 L i > x
    ·rw [if_pos (decide_eq_true hgt),app?_ok (by simp;omega),Option.bind_some,w64 (by omega) (by omega),ht]
     unfold low;rw [if_pos hgt]
    ·rw [if_neg (mt of_decide_eq_true hgt),app?_ok (by simp;omega),Option.bind_some,ht]
     unfold low;rw [if_neg hgt]
   ·unfold F48_l0
    simp only
    rw [if_neg (by rw [decide_eq_true_eq];omega),List.take_of_length_le (by omega)]
end Go.Proofs.YtaphdnpjpmnaeadGreatDoor
namespace Go.Proofs.YtaphdnpjpmnaeadGreatDoor.rnk
open Go.Am
theorem good_permE {p:List Int} (h:permE p = 0):GoodP p∧p.length≤10:=by
 unfold permE at h
 split at h
 ·cases h
 ·split at h
  ·rename_i h1 h2;exact ⟨h2,by omega⟩
  ·cases h
def cd (p:List Int) (i:Nat):Nat:=cnt (nx 0 p i) (p.drop (i + 1))
def codeL (p:List Int):List Int:=tb p.length fun i=>(cd p i:Int)
theorem cnt_take {x:Int} {L:List Int} {j:Nat} (h:j < L.length):cnt x (L.take (j + 1)) = cnt x (L.take j) + if nx 0 L j < x then 1 else 0:=by
 rw [List.take_add_one,List.getElem?_eq_getElem h,cnt_app,nx_eq h,Option.toList_some,cnt_cons];simp [cnt]
theorem code_eq (F:Nat) (p:List Int) (hF:40≤F) (h:permE p = 0):F86 F p = some (codeL p,0):=by
 obtain ⟨hg,hl⟩:=good_permE h
 unfold F86
 rw [check_eq F p (by omega),h,Option.bind_some,if_neg (by decide),mk?_ok (by omega),Option.bind_some,tb_rep]
 have:=iter_count (step:=F86_l1 F p) (F:=F) (fun i=>((i:Int),tb p.length fun k=>if k < i then (cd p k:Int) else 0)) (b:=codeL p) p.length ?_ ?_ (by omega)
 ·rw [show ((0:Int),tb p.length fun _=>(0:Int)) = (((0:Nat):Int),tb p.length fun k=>if k < 0 then (cd p k:Int) else 0) from by simp,this,Option.bind_some]
 ·intro i hi
  unfold F86_l1
  simp only
  rw [if_pos (decide_eq_true (by omega)),nx_get (d:=0) hi,Option.bind_some,wsuc (by omega),sub?_from (by omega),Option.bind_some]
  have hin:iter (F86_l0 F ((i:Int),tb p.length fun k=>if k < i then (cd p k:Int) else 0) (nx 0 p i) (p.drop (i + 1))) F (0,tb p.length fun k=>if k < i then (cd p k:Int) else 0) = some (tb p.length fun k=>if k < i + 1 then (cd p k:Int) else 0):=by
   have h2:=iter_count (step:=F86_l0 F ((i:Int),tb p.length fun k=>if k < i then (cd p k:Int) else 0) (nx 0 p i) (p.drop (i + 1))) (F:=F) (fun j=>((j:Int),tb p.length fun k=>if k = i then (cnt (nx 0 p i) ((p.drop (i + 1)).take j):Int) else if k < i then (cd p k:Int) else 0)) (b:=tb p.length fun k=>if k < i + 1 then (cd p k:Int) else 0) (p.drop (i + 1)).length ?_ ?_ (by rw [List.length_drop];omega)
   ·rw [← h2]
    congr 2
    refine tb_congr fun k hk=>?_
    by_cases e:k = i
    ·subst e;rw [if_neg (by omega),if_pos rfl,List.take_zero];rfl
    ·rw [if_neg e]
   ·intro j hj
    have hjl:(p.drop (i + 1)).length≤10:=by rw [List.length_drop];omega
    unfold F86_l0
    simp only
    rw [if_pos (decide_eq_true (by omega)),nx_get (d:=0) hj,Option.bind_some,wsuc (by omega)]
    have hc:=cnt_le (nx 0 p i) ((p.drop (i + 1)).take j)
    rw [List.length_take] at hc
    by_cases hlt:nx 0 (p.drop (i + 1)) j < nx 0 p i
    ·rw [if_pos (decide_eq_true hlt),tb_get hi,Option.bind_some,tb_ck hi,Option.bind_some,Int.toNat_natCast,tb_set,if_pos rfl,wsuc (by omega)]
     congr 3
     refine tb_congr fun k hk=>?_
     rw [cnt_take hj,if_pos hlt]
     by_cases e:k = i
     ·rw [if_pos e,if_pos e]
     ·rw [if_neg e,if_neg e,if_neg e]
    ·rw [if_neg (mt of_decide_eq_true hlt)]
     congr 3
     refine tb_congr fun k hk=>?_
     rw [cnt_take hj,if_neg hlt];simp
   ·unfold F86_l0
    simp only
    rw [if_neg (by simp),List.take_of_length_le (Nat.le_refl _)]
    congr 2
    refine tb_congr fun k hk=>?_
    by_cases e:k = i
    ·subst e;rw [if_pos rfl,if_pos (by omega)];rfl
    ·rw [if_neg e]
     by_cases e2:k < i
     ·rw [if_pos e2,if_pos (by omega)]
     ·rw [if_neg e2,if_neg (by omega)]
  rw [hin,Option.bind_some]
 ·unfold F86_l1
  simp only
  rw [if_neg (by simp)]
  congr 2
  exact tb_congr fun k hk=>if_pos hk
def hor (p:List Int):Nat→Nat
 | 0=>0
 | i + 1=>hor p i * (p.length - i) + cd p i
theorem drop_cons {p:List Int} {i:Nat} (h:i < p.length):p.drop i = nx 0 p i :: p.drop (i + 1):=by
 rw [List.drop_eq_getElem_cons h,nx_eq h]
theorem hor_eq (p:List Int):∀ i,i≤p.length→hor p i * fac (p.length - i) + rk (p.drop i) = rk p
 | 0,_=>by simp [hor]
 | i + 1,h=>by
  have ih:=hor_eq p i (by omega)
  rw [drop_cons (by omega)] at ih
  have e:p.length - i = (p.length - (i + 1)) + 1:=by omega
  have hr:rk (nx 0 p i :: p.drop (i + 1)) = cd p i * fac (p.length - (i + 1)) + rk (p.drop (i + 1)):=by
   show cnt _ _ * fac (p.drop (i + 1)).length + _ = _
   rw [List.length_drop];rfl
  rw [hr] at ih
  rw [hor,Nat.add_mul,Nat.mul_assoc]
  have hf:(p.length - i) * fac (p.length - (i + 1)) = fac (p.length - i):=by rw [e];rfl
  rw [hf];omega
theorem of_eq (F:Nat) (p:List Int) (hF:40≤F) (h:permE p = 0):F35 F p = some ((rk p:Int),0):=by
 obtain ⟨hg,hl⟩:=good_permE h
 unfold F35
 rw [code_eq F p hF h,Option.bind_some,if_neg (by simp)]
 have hcl:(codeL p).length = p.length:=tb_len _ _
 have hb:∀ i,i≤p.length→hor p i≤3628800:=by
  intro i hi
  have h1:=hor_eq p i hi
  have h2:=rk_lt p
  have h3:=fac_le p.length hl
  have h4:hor p i * 1≤hor p i * fac (p.length - i):=Nat.mul_le_mul_left _ (fac_pos _)
  omega
 have:=iter_count (step:=F35_l0 F (codeL p,0)) (F:=F) (fun i=>((hor p i:Int),(i:Int))) (b:=(rk p:Int)) p.length ?_ ?_ (by omega)
 ·rw [show ((0:Int),(0:Int)) = ((hor p 0:Int),((0:Nat):Int)) from rfl,this,Option.bind_some]
 ·intro i hi
  unfold F35_l0
  simp only
  have h1:=hb i (by omega)
  have h2:=hb (i + 1) (by omega)
  have h3:hor p i * (p.length - i)≤3628800 * 10:=Nat.mul_le_mul h1 (by omega)
  rw [hcl,if_pos (decide_eq_true (by omega)),show at? (codeL p) (i:Int) = some (cd p i:Int) from tb_get hi,Option.bind_some,wsub (by omega) (by omega),wmul (by omega),wsuc (by omega)]
  have h4:hor p (i + 1) = hor p i * (p.length - i) + cd p i:=rfl
  rw [wadd (by omega),← h4]
 ·unfold F35_l0
  simp only
  rw [hcl,if_neg (by simp)]
  have h1:=hor_eq p p.length (Nat.le_refl _)
  rw [Nat.sub_self,List.drop_length] at h1
  have:hor p p.length = rk p:=by simpa [fac,rk] using h1
  rw [this]
theorem fact_eq (F n:Nat) (hn:n≤10) (hF:20≤F):F88 F n = some (fac n:Int):=by
 unfold F88
 have:=iter_count (step:=F88_l0 F n) (F:=F) (fun i=>((fac (i + 1):Int),((i + 2:Nat):Int))) (b:=(fac n:Int)) (n - 1) ?_ ?_ (by omega)
 ·rw [show ((1:Int),(2:Int)) = ((fac (0 + 1):Int),((0 + 2:Nat):Int)) from rfl,this,Option.bind_some]
 ·intro i hi
  unfold F88_l0
  simp only
  have h1:(i + 2) * fac (i + 1)≤3628800:=fac_le (i + 2) (by omega)
  rw [if_pos (decide_eq_true (by omega)),Int.mul_comm,wmul (by omega),wsuc (by omega)]
  rfl
 ·unfold F88_l0
  simp only
  rw [if_neg (by rw [decide_eq_true_eq];omega)]
  by_cases h:n = 0
  ·subst h;rfl
  ·rw [show n - 1 + 1 = n from by omega]
theorem count_eq (F:Nat) (n:Int) (hF:20≤F):F87 F n = some (if n < 0∨n > 10 then (0,1) else ((fac n.toNat:Int),0)):=by
 unfold F87
 by_cases h:n < 0∨n > 10
 ·rw [if_pos (by simpa using h),if_pos h]
 ·rw [if_neg (by simpa using h),if_neg h]
  obtain ⟨k,rfl⟩:∃ k:Nat,n = k:=⟨n.toNat,by omega⟩
  rw [fact_eq F k (by omega) hF,Option.bind_some];rfl
def pk:Nat→List Int→Nat→List Int
 | 0,_,_=>[]
 | m + 1,I,r=>nx 0 I (r / fac m) :: pk m (I.take (r / fac m) ++ I.drop (r / fac m + 1)) (r % fac m)
theorem at_eq (F n r:Nat) (hF:40≤F) (hn:n≤10) (hr:r < fac n):F38 F n r = some (pk n (rangeI n) r,0):=by
 unfold F38
 have hfn:=fac_le n hn
 rw [count_eq F n (by omega),Option.bind_some,if_neg (show ¬ ((n:Int) < 0∨(n:Int) > 10) from by omega),Int.toNat_natCast,if_neg (by simp only [Bool.or_eq_true,decide_eq_true_eq,bne_iff_ne];omega),mk?_ok (by omega),Option.bind_some]
 have h1:=iter_count (step:=F38_l0 F (List.replicate n (0:Int))) (F:=F) (fun i=>((i:Int),tb n fun k=>if k < i then (k:Int) else 0)) (b:=rangeI n) n ?_ ?_ (by omega)
 ·rw [show ((0:Int),List.replicate n (0:Int)) = (((0:Nat):Int),tb n fun k=>if k < 0 then (k:Int) else 0) from by rw [tb_rep];simp,h1,Option.bind_some]
  unfold mkC?
  rw [if_pos ⟨by omega,by omega,by omega⟩,Option.bind_some]
  obtain ⟨b,hb,hQ⟩:=iter_inv (step:=F38_l1 F) (I:=fun s=>∃ (m q:Nat) (I out:List Int),s = ((q:Int),I,out,(m:Int) - 1)∧I.length = m∧I.Pairwise (· < ·)∧q < fac m∧out ++ pk m I q = pk n (rangeI n) r∧m≤10∧out.length + m≤10) (μ:=fun s=>(s.2.2.2 + 1).toNat) (Q:=fun b=>b = pk n (rangeI n) r) (by
   rintro _ ⟨m,q,I,out,rfl,hI,hp,hq,ht,hm,ho⟩
   unfold F38_l1
   simp only
   cases m with
   | zero=>
    right
    rw [if_neg (by simp)]
    refine ⟨_,rfl,?_⟩
    rw [← ht];simp [pk]
   | succ m=>
    left
    have hqd:q / fac m < m + 1:=Nat.div_lt_of_lt_mul (by rw [Nat.mul_comm];exact hq)
    have hfm:=fac_le (m + 1) hm
    have hfp:=fac_pos m
    have hfm2:=fac_le m (by omega)
    have hquo:quo? .i64 (q:Int) (fac m:Int) = some ((q / fac m:Nat):Int):=by
     unfold quo?
     rw [if_neg (by omega),tdiv_nat,wnat (by omega)]
    have hrem:rem? (q:Int) (fac m:Int) = some ((q % fac m:Nat):Int):=by
     unfold rem?
     rw [if_neg (by omega),tmod_nat]
    have hdel:∀ k:Nat,k < m + 1→F89 F I (k:Int) ((k + 1:Nat):Int) = some (I.take k ++ I.drop (k + 1)):=by
     intro k hk
     unfold F89
     rw [if_pos (by omega)]
     unfold delB?
     rw [if_pos (by omega)];rfl
    rw [if_pos (decide_eq_true (by omega)),show ((m + 1:Nat):Int) - 1 = (m:Int) from by omega,fact_eq F m (by omega) (by omega),Option.bind_some,hquo,Option.bind_some,nx_get (d:=0) (by omega),Option.bind_some,app?_ok (by simp;omega),Option.bind_some,Option.bind_some,Option.bind_some,wsuc (by omega),hdel _ hqd,Option.bind_some,hrem,Option.bind_some,w64 (by omega) (by omega)]
    refine ⟨_,rfl,⟨m,q % fac m,_,_,rfl,by rw [List.length_append,List.length_take,List.length_drop];omega,?_,Nat.mod_lt _ hfp,?_,by omega,by simp;omega⟩,by simp only;omega⟩
    ·have hd:I = I.take (q / fac m) ++ nx 0 I (q / fac m) :: I.drop (q / fac m + 1):=by
      rw [← drop_cons (by omega),List.take_append_drop]
     rw [hd,List.pairwise_append,List.pairwise_cons] at hp
     obtain ⟨d1,⟨d2,d3⟩,d4⟩:=hp
     rw [List.pairwise_append]
     exact ⟨d1,d3,fun a ha b hb=>d4 a ha b (by simp [hb])⟩
    ·rw [← ht]
     show (out ++ [nx 0 I (q / fac m)]) ++ pk m _ _ = out ++ (nx 0 I (q / fac m) :: pk m _ _)
     simp) F ((r:Int),rangeI n,List.replicate (0:Int).toNat (0:Int),wrapA .i64 ((n:Int) - 1)) ⟨n,r,rangeI n,[],by rw [w64 (by omega) (by omega)];rfl,by simp [rangeI],by
      unfold rangeI
      rw [List.pairwise_map]
      exact List.pairwise_lt_range.imp fun h=>by omega,hr,rfl,hn,by simpa using hn⟩ (by simp only;rw [w64 (by omega) (by omega)];omega)
  rw [hb,Option.bind_some,hQ]
 ·intro i hi
  unfold F38_l0
  simp only
  rw [List.length_replicate,if_pos (decide_eq_true (by omega)),tb_ck hi,Option.bind_some,Int.toNat_natCast,tb_set,wsuc (by omega)]
  congr 3
  refine tb_congr fun k hk=>?_
  by_cases e:k = i
  ·subst e;rw [if_pos rfl,if_pos (by omega)]
  ·rw [if_neg e]
   by_cases e2:k < i
   ·rw [if_pos e2,if_pos (by omega)]
   ·rw [if_neg e2,if_neg (by omega)]
 ·unfold F38_l0
  simp only
  rw [List.length_replicate,if_neg (by simp)]
  congr 2
  unfold rangeI tb
  exact List.map_congr_left fun k hk=>if_pos (by simpa using hk)
end Go.Proofs.YtaphdnpjpmnaeadGreatDoor.rnk
namespace Go.Proofs.YtaphdnpjpmnaeadGreatDoor.nst
open Go.Am
def C:Nat→Nat→Nat
 | _,0=>1
 | 0,_ + 1=>0
 | n + 1,k + 1=>C n k + C n (k + 1)
theorem C_zero (n:Nat):C n 0 = 1:=by cases n <;> rfl
theorem C_succ (n k:Nat):C (n + 1) (k + 1) = C n k + C n (k + 1):=rfl
theorem C_gt:∀ (n k:Nat),n < k→C n k = 0
 | 0,k + 1,_=>rfl
 | n + 1,k + 1,h=>by rw [C_succ,C_gt n k (by omega),C_gt n (k + 1) (by omega)]
theorem C_self:∀ n,C n n = 1
 | 0=>rfl
 | n + 1=>by rw [C_succ,C_self n,C_gt n (n + 1) (by omega)]
theorem C_le:∀ (n k:Nat),C n k≤2 ^ n
 | n,0=>by rw [C_zero];exact Nat.one_le_two_pow
 | 0,k + 1=>by simp [C]
 | n + 1,k + 1=>by
  have h1:=C_le n k
  have h2:=C_le n (k + 1)
  rw [C_succ,Nat.pow_succ];omega
def tab (n:Nat) (f:Nat→Int):List Int:=(List.range n).map f
theorem tab_len (n:Nat) (f:Nat→Int):(tab n f).length = n:=by simp [tab]
theorem tab_get {n:Nat} {f:Nat→Int} {i:Nat} (h:i < n):at? (tab n f) (i:Int) = some (f i):=by
 rw [at?_in (by rw [tab_len];exact h)];simp [tab]
theorem tab_set {n:Nat} {f:Nat→Int} {i:Nat} {x:Int}:(tab n f).set i x = tab n fun j=>if j = i then x else f j:=by
 apply List.ext_getElem?
 intro j
 rw [List.getElem?_set]
 simp only [tab,List.length_map,List.length_range,List.getElem?_map]
 by_cases hj:j < n
 ·rw [List.getElem?_range hj]
  by_cases e:i = j
  ·subst e;simp [hj]
  ·rw [if_neg e];simp [show ¬ j = i from fun q=>e q.symm]
 ·rw [List.getElem?_eq_none (by simp;omega)]
  by_cases e:i = j
  ·subst e;simp [hj]
  ·rw [if_neg e];simp
theorem tab_rep (n:Nat) (z:Int):List.replicate n z = tab n fun _=>z:=by
 apply List.ext_getElem?
 intro j
 by_cases hj:j < n
 ·simp [tab,hj]
 ·simp [tab,hj]
theorem tab_congr {n:Nat} {f g:Nat→Int} (h:∀ i,i < n→f i = g i):tab n f = tab n g:=by
 unfold tab
 exact List.map_congr_left fun i hi=>h i (by simpa using hi)
theorem refChoose_inner (F G r k:Nat) (hr:r≤30) (hk:k≤30) (hG:k < G):iter (F106_l0 F) G ((k:Int),tab (k + 1) fun j=>(C r j:Int)) = some (tab (k + 1) fun j=>(C (r + 1) j:Int)):=by
 have:=iter_count (step:=F106_l0 F) (F:=G) (fun i=>(((k:Int) - (i:Int)),tab (k + 1) fun j=>if j≤k - i then (C r j:Int) else (C (r + 1) j:Int))) (b:=tab (k + 1) fun j=>(C (r + 1) j:Int)) k ?_ ?_ hG
 ·rw [← this]
  simp only [Int.natCast_zero,Int.sub_zero,Nat.sub_zero]
  congr 2
  exact tab_congr fun j hj=>by rw [if_pos (by omega)]
 ·intro i hi
  unfold F106_l0
  simp only
  have c1:=C_le r (k - i)
  have c2:=C_le r (k - i - 1)
  have p:2 ^ r≤1073741824:=Nat.pow_le_pow_right (n:=2) (by omega) hr
  rw [if_pos (decide_eq_true (by omega)),show (k:Int) - (i:Int) = ((k - i:Nat):Int) from by omega,w64 (a:=((k - i:Nat):Int) - 1) (by omega) (by omega),show ((k - i:Nat):Int) - 1 = ((k - i - 1:Nat):Int) from by omega,tab_get (by omega),tab_get (by omega),ck_ok (by rw [tab_len];omega)]
  simp only [Option.bind_some]
  rw [if_pos (by omega),if_pos (by omega),w64 (by omega) (by omega),Int.toNat_natCast,tab_set]
  congr 3
  ·omega
  ·apply tab_congr
   intro j hj
   by_cases e:j = k - i
   ·obtain ⟨q,hq⟩:∃ q,k - i = q + 1:=⟨k - i - 1,by omega⟩
    rw [if_pos e,if_neg (by omega),e,hq,C_succ,show q + 1 - 1 = q from by omega]
    omega
   ·rw [if_neg e]
    by_cases h2:j≤k - i
    ·rw [if_pos h2,if_pos (by omega)]
    ·rw [if_neg h2,if_neg (by omega)]
 ·unfold F106_l0
  simp only
  rw [if_neg (by simp)]
  congr 2
  apply tab_congr
  intro j hj
  by_cases h0:j = 0
  ·subst h0;simp [C_zero]
  ·rw [if_neg (by omega)]
theorem refChoose_eq (F n k:Nat) (hn:n≤30) (hF:40≤F):F106 F n k = some (C n k:Int):=by
 unfold F106
 by_cases h1:n < k
 ·rw [if_pos (by simp;omega),C_gt n k h1];rfl
 ·rw [if_neg (by simp;omega)]
  by_cases h2:k = 0∨k = n
  ·rw [if_pos (by simp;omega)]
   rcases h2 with rfl | rfl
   ·rw [C_zero];rfl
   ·rw [C_self];rfl
  ·rw [if_neg (by simp;omega),w64 (by omega) (by omega),show (k:Int) + 1 = ((k + 1:Nat):Int) from rfl,mk?_ok (by omega)]
   simp only [Option.bind_some]
   have hck:ck (List.replicate (k + 1) (0:Int)) 0 = some ():=by
    rw [show (0:Int) = ((0:Nat):Int) from rfl];exact ck_ok (by simp)
   rw [hck]
   simp only [Option.bind_some]
   have e0:(List.replicate (k + 1) (0:Int)).set (Int.toNat 0) 1 = tab (k + 1) fun j=>(C 0 j:Int):=by
    rw [tab_rep,show Int.toNat 0 = 0 from rfl,tab_set]
    apply tab_congr
    intro j hj
    by_cases e:j = 0
    ·subst e;rfl
    ·obtain ⟨q,rfl⟩:∃ q,j = q + 1:=⟨j - 1,by omega⟩
     rw [if_neg e];rfl
   rw [e0]
   have:=iter_count (step:=F106_l1 F n k) (F:=F) (fun r=>((r:Int),tab (k + 1) fun j=>(C r j:Int))) (b:=tab (k + 1) fun j=>(C n j:Int)) n ?_ ?_ (by omega)
   ·rw [show (0:Int) = ((0:Nat):Int) from rfl,this]
    simp only [Option.bind_some]
    rw [tab_get (by omega)];rfl
   ·intro r hr
    unfold F106_l1
    simp only
    rw [if_pos (decide_eq_true (by omega)),refChoose_inner F F r k (by omega) (by omega) (by omega)]
    simp only [Option.bind_some]
    rw [w64 (by omega) (by omega)];rfl
   ·unfold F106_l1
    simp only
    rw [if_neg (by simp)]
theorem refChoose_neg (F:Nat) (n k:Int) (h:k < 0∨k > n):F106 F n k = some 0:=by
 unfold F106
 rw [if_pos (by simpa using h)]
open Go.Am
def wgo:List Nat→List Nat
 | []=>[]
 | x :: t=>(x + t.getD 1 0) :: wgo t
def wrow:Nat→List Nat
 | 0=>[1]
 | m + 1=>(wrow m).getD 1 0 :: wgo (wrow m)
def pgo:List Nat→List Nat
 | []=>[]
 | x :: t=>(x + t.getD 0 0) :: pgo t
def prow:Nat→List Nat
 | 0=>[1]
 | n + 1=>1 :: pgo (prow n)
def reachC (p:List Nat) (s h:Nat):Nat:=if (s - h) % 2≠0∨s < h then 0 else p.getD ((s - h) / 2) 0 - (if (s - h) / 2 = 0 then 0 else p.getD ((s - h) / 2 - 1) 0)
def geC (p:List Nat) (s h:Nat):Bool:=(s - h) / 2 == 0 || decide (p.getD ((s - h) / 2 - 1) 0≤p.getD ((s - h) / 2) 0)
def chkNB (s:Nat):Bool:=(List.range (s + 2)).all fun h=>reachC (prow s) s h == (wrow s).getD h 0 && geC (prow s) s h
theorem chkNB_ok:((List.range 31).all chkNB) = true:=by kernel_rfl
open Go.Am
def W:Nat→Nat→Nat
 | 0,0=>1
 | 0,_ + 1=>0
 | m + 1,0=>W m 1
 | m + 1,h + 1=>W m (h + 2) + W m h
theorem W_zero (m:Nat):W (m + 1) 0 = W m 1:=rfl
theorem W_succ (m h:Nat):W (m + 1) (h + 1) = W m (h + 2) + W m h:=rfl
theorem W_gt:∀ (m h:Nat),m < h→W m h = 0
 | 0,h + 1,_=>rfl
 | m + 1,h + 1,k=>by rw [W_succ,W_gt m (h + 2) (by omega),W_gt m h (by omega)]
theorem W_le:∀ (m h:Nat),W m h≤2 ^ m
 | 0,0=>Nat.le_refl _
 | 0,_ + 1=>Nat.zero_le _
 | m + 1,0=>by have:=W_le m 1;rw [W_zero,Nat.pow_succ];omega
 | m + 1,h + 1=>by have:=W_le m (h + 2);have:=W_le m h;rw [W_succ,Nat.pow_succ];omega
theorem W_30 {m:Nat} (h:Nat) (hm:m≤31):W m h≤2147483648:=
 Nat.le_trans (W_le m h) (Nat.pow_le_pow_right (n:=2) (by omega) hm)
theorem W_next (m h:Nat):W (m + 1) h = W m (h + 1) + if h = 0 then 0 else W m (h - 1):=by
 cases h with
 | zero=>rw [W_zero];simp
 | succ h=>rw [W_succ];simp
theorem wgo_get:∀ (l:List Nat) (h:Nat),(wgo l).getD h 0 = l.getD h 0 + l.getD (h + 2) 0
 | [],h=>by simp [wgo]
 | x :: t,0=>by simp [wgo]
 | x :: t,h + 1=>by
  have:=wgo_get t h
  simp only [wgo,List.getD_cons_succ] at this ⊢
  exact this
theorem wrow_get:∀ (m h:Nat),(wrow m).getD h 0 = W m h
 | 0,0=>rfl
 | 0,_ + 1=>rfl
 | m + 1,0=>by rw [W_zero,← wrow_get m 1];rfl
 | m + 1,h + 1=>by
  rw [W_succ,← wrow_get m h,← wrow_get m (h + 2)]
  simp only [wrow,List.getD_cons_succ]
  rw [wgo_get];omega
theorem pgo_get:∀ (l:List Nat) (k:Nat),(pgo l).getD k 0 = l.getD k 0 + l.getD (k + 1) 0
 | [],k=>by simp [pgo]
 | x :: t,0=>by simp [pgo]
 | x :: t,k + 1=>by
  have:=pgo_get t k
  simp only [pgo,List.getD_cons_succ] at this ⊢
  exact this
theorem prow_get:∀ (n k:Nat),(prow n).getD k 0 = C n k
 | 0,0=>rfl
 | 0,_ + 1=>rfl
 | n + 1,0=>by rw [C_zero];rfl
 | n + 1,k + 1=>by
  rw [C_succ,← prow_get n k,← prow_get n (k + 1)]
  simp only [prow,List.getD_cons_succ]
  rw [pgo_get]
def Aw (r h j:Nat):Int:=(if j + 1 < h then (W r (j + 1):Int) else 0) + (if 1≤j∧j - 1 < h then (W r (j - 1):Int) else 0)
theorem Aw_le {r:Nat} (h j:Nat) (hr:r≤31):0≤Aw r h j∧Aw r h j≤4294967296:=by
 have h1:=W_30 (j + 1) hr
 have h2:=W_30 (j - 1) hr
 unfold Aw
 split <;> split <;> omega
theorem waysIn_eq (F G s r i:Nat) (hs:s≤30) (hr:r < s) (hG:s + 2 < G):iter (F92_l0 F (tab (s + 2) (fun h=>(W r h:Int)),(i:Int))) G (0,tab (s + 2) fun _=>0) = some (tab (s + 2) fun h=>(W (r + 1) h:Int)):=by
 have:=iter_count (step:=F92_l0 F (tab (s + 2) (fun h=>(W r h:Int)),(i:Int))) (F:=G) (fun h=>((h:Int),tab (s + 2) (Aw r h))) (b:=tab (s + 2) fun h=>(W (r + 1) h:Int)) (s + 2) ?_ ?_ hG
 ·rw [← this]
  congr 2
  apply tab_congr;intro j hj
  unfold Aw;rw [if_neg (by omega),if_neg (by omega)];rfl
 ·intro h hh
  have b1:=W_30 h (show r≤31 by omega)
  unfold F92_l0
  simp only
  rw [if_pos (decide_eq_true (by rw [tab_len];omega)),tab_get hh,Option.bind_some]
  have e1:(if decide ((h:Int) > 0) = true then ((at? (tab (s + 2) (Aw r h)) (wrapA .i64 ((h:Int) - 1))).bind fun x36=>(ck (tab (s + 2) (Aw r h)) (wrapA .i64 ((h:Int) - 1))).bind fun u38=>some ((tab (s + 2) (Aw r h)).set ((Int.toNat (wrapA .i64 ((h:Int) - 1)))) ((wrapA .i64 (x36 + (W r h:Int)))))) else some (tab (s + 2) (Aw r h))) = some (tab (s + 2) fun j=>(if j + 1 < h + 1 then (W r (j + 1):Int) else 0) + (if 1≤j∧j - 1 < h then (W r (j - 1):Int) else 0)):=by
   by_cases h0:0 < h
   ·have b2:=Aw_le h (h - 1) (show r≤31 by omega)
    rw [if_pos (decide_eq_true (by omega)),w64 (by omega) (by omega),show (h:Int) - 1 = ((h - 1:Nat):Int) from by omega,tab_get (by omega),Option.bind_some,ck_ok (by rw [tab_len];omega),Option.bind_some,w64 (by omega) (by omega),Int.toNat_natCast,tab_set]
    congr 1
    apply tab_congr
    intro j hj
    by_cases e:j = h - 1
    ·subst e
     rw [if_pos rfl,if_pos (by omega)]
     unfold Aw
     rw [if_neg (by omega),show h - 1 + 1 = h from by omega];omega
    ·rw [if_neg e]
     unfold Aw
     congr 1
     by_cases h2:j + 1 < h
     ·rw [if_pos h2,if_pos (by omega)]
     ·rw [if_neg h2,if_neg (by omega)]
   ·rw [if_neg (by simp <;> omega)]
    congr 1
    apply tab_congr
    intro j hj
    unfold Aw
    rw [if_neg (by omega),if_neg (by omega),if_neg (by omega)]
  rw [e1,Option.bind_some,w64 (a:=(h:Int) + 1) (by omega) (by omega),show (h:Int) + 1 = ((h + 1:Nat):Int) from rfl,tab_len]
  by_cases h2:h + 1 < s + 2
  ·rw [if_pos (decide_eq_true (by omega)),tab_get h2,Option.bind_some,ck_ok (by rw [tab_len];omega),Option.bind_some,if_neg (by omega),if_neg (by omega),Int.toNat_natCast,tab_set,w64 (by omega) (by omega)]
   congr 3
   apply tab_congr
   intro j hj
   unfold Aw
   by_cases e:j = h + 1
   ·subst e
    rw [if_pos rfl,if_neg (by omega),if_pos (by omega)];simp
   ·rw [if_neg e]
    congr 1
    by_cases h3:1≤j∧j - 1 < h
    ·rw [if_pos h3,if_pos (by omega)]
    ·rw [if_neg h3,if_neg (by omega)]
  ·rw [if_neg (by rw [decide_eq_true_eq];omega)]
   congr 3
   apply tab_congr
   intro j hj
   unfold Aw
   congr 1
   by_cases h3:1≤j∧j - 1 < h
   ·rw [if_pos h3,if_pos (by omega)]
   ·rw [if_neg h3,if_neg (by omega)]
 ·unfold F92_l0
  simp only
  rw [if_neg (by rw [decide_eq_true_eq,tab_len];omega)]
  congr 2
  apply tab_congr
  intro j hj
  unfold Aw
  rw [W_next]
  by_cases h1:j + 1 < s + 2
  ·rw [if_pos h1]
   by_cases h2:j = 0
   ·subst h2;rw [if_neg (by omega),if_pos rfl];simp
   ·rw [if_pos (by omega),if_neg h2];simp
  ·rw [if_neg h1,W_gt r (j + 1) (by omega),if_pos (by omega),if_neg (by omega)];simp
theorem ways_eq (F s h:Nat) (hs:s≤30) (hF:40≤F):F92 F h s = some (W s h:Int):=by
 unfold F92
 rw [w64 (by omega) (by omega),show (s:Int) + 2 = ((s + 2:Nat):Int) from rfl,mk?_ok (by omega),Option.bind_some]
 have hck:ck (List.replicate (s + 2) (0:Int)) 0 = some ():=by
  rw [show (0:Int) = ((0:Nat):Int) from rfl];exact ck_ok (by simp)
 rw [hck,Option.bind_some]
 have e0:(List.replicate (s + 2) (0:Int)).set (Int.toNat 0) 1 = tab (s + 2) fun h=>(W 0 h:Int):=by
  rw [tab_rep,show Int.toNat 0 = 0 from rfl,tab_set]
  apply tab_congr;intro j hj
  cases j with
  | zero=>rfl
  | succ j=>rfl
 rw [e0]
 have:=iter_count (step:=F92_l1 F s) (F:=F) (fun r=>(tab (s + 2) (fun h=>(W r h:Int)),(r:Int))) (b:=tab (s + 2) fun h=>(W s h:Int)) s ?_ ?_ (by omega)
 ·rw [show (0:Int) = ((0:Nat):Int) from rfl,this,Option.bind_some,tab_len]
  by_cases h1:h < s + 2
  ·rw [if_neg (by rw [decide_eq_true_eq];omega),tab_get h1];rfl
  ·rw [if_pos (decide_eq_true (by omega)),W_gt s h (by omega)]
   try rfl
 ·intro r hr
  unfold F92_l1
  simp only
  rw [if_pos (decide_eq_true (by omega)),w64 (by omega) (by omega),show (s:Int) + 2 = ((s + 2:Nat):Int) from rfl,mk?_ok (by omega),Option.bind_some,tab_rep,waysIn_eq F F s r r hs hr (by omega),Option.bind_some,w64 (by omega) (by omega)]
  rfl
 ·unfold F92_l1
  simp only
  rw [if_neg (by simp)]
theorem reach_eq (F s h:Nat) (hs:s≤30) (hF:40≤F):F55 F h s = some (W s h:Int):=by
 unfold F55
 by_cases hgt:s < h
 ·rw [if_pos (by simp <;> omega),W_gt s h hgt];rfl
 ·have hck:=List.all_eq_true.1 ((List.all_eq_true.1 chkNB_ok) s (by simp <;> omega)) h (by simp <;> omega)
  simp only [Bool.and_eq_true,beq_iff_eq] at hck
  rw [wrow_get] at hck
  obtain ⟨e1,e2⟩:=hck
  have hw:wrapA .i64 ((s:Int) - (h:Int)) = ((s - h:Nat):Int):=by rw [w64 (by omega) (by omega)];omega
  have ht:Int.tmod ((s - h:Nat):Int) 2 = (((s - h) % 2:Nat):Int):=tmod_nat _ 2
  have hd:Int.tdiv ((s - h:Nat):Int) 2 = (((s - h) / 2:Nat):Int):=tdiv_nat _ 2
  rw [hw,ht,hd]
  by_cases hodd:(s - h) % 2 = 0
  ·rw [if_neg (by simp <;> omega),w64 (a:=(((s - h) / 2:Nat):Int)) (by omega) (by omega),refChoose_eq F s _ hs hF,Option.bind_some]
   unfold reachC at e1
   rw [if_neg (by omega),prow_get] at e1
   unfold geC at e2
   rw [prow_get,prow_get] at e2
   have b1:=C_le s ((s - h) / 2)
   have p:2 ^ s≤1073741824:=Nat.pow_le_pow_right (n:=2) (by omega) hs
   rw [w64 (a:=(((s - h) / 2:Nat):Int) - 1) (by omega) (by omega)]
   by_cases h0:(s - h) / 2 = 0
   ·rw [refChoose_neg F _ _ (.inl (by omega)),Option.bind_some]
    rw [if_pos h0] at e1
    rw [w64 (by omega) (by omega),← e1];simp
   ·rw [if_neg h0,prow_get] at e1
    simp only [Bool.or_eq_true,beq_iff_eq,decide_eq_true_eq] at e2
    rw [show (((s - h) / 2:Nat):Int) - 1 = (((s - h) / 2 - 1:Nat):Int) from by omega,refChoose_eq F s _ hs hF,Option.bind_some]
    have hge:=e2.resolve_left h0
    rw [w64 (by omega) (by omega),← e1];congr 1;omega
  ·rw [if_pos (by simp <;> omega)]
   unfold reachC at e1
   rw [if_pos (by omega)] at e1
   rw [← e1];rfl
def gen:Nat→Nat→Nat→List UInt8
 | 0,_,_=>[]
 | m + 1,h,k=>if k < W m (h + 1) then 40 :: gen m (h + 1) k else 41 :: gen m (h - 1) (k - W m (h + 1))
theorem atLoopN (F n:Nat) (hF:40≤F) (hn:n≤15):∀ (m h k:Nat) (s:List UInt8) (G:Nat),s.length + m = 2 * n→h≤s.length→k < W m h→m < G →
 iter (F41_l0 F n) G ((k:Int),s,(h:Int)) = some (s ++ gen m h k)
 | 0,h,k,s,G,hl,hh,hk,hG=>by
  obtain ⟨G,rfl⟩:∃ g,G = g + 1:=⟨G - 1,by omega⟩
  refine iter_stop ?_
  unfold F41_l0
  simp only
  rw [w64 (by omega) (by omega),if_neg (by rw [decide_eq_true_eq];omega)]
  simp [gen]
 | m + 1,h,k,s,G,hl,hh,hk,hG=>by
  obtain ⟨G,rfl⟩:∃ g,G = g + 1:=⟨G - 1,by omega⟩
  have hw1:=W_30 (h + 1) (show m≤31 by omega)
  have hw2:=W_30 h (show m + 1≤31 by omega)
  have hst:F41_l0 F n ((k:Int),s,(h:Int)) = if k < W m (h + 1) then some (.more ((k:Int),s ++ [40],((h + 1:Nat):Int))) else some (.more (((k - W m (h + 1):Nat):Int),s ++ [41],(h:Int) - 1)):=by
   unfold F41_l0
   simp only
   rw [w64 (a:=(2:Int) * (n:Int)) (by omega) (by omega),if_pos (decide_eq_true (by omega)),w64 (a:=(h:Int) + 1) (by omega) (by omega),w64 (a:=(2:Int) * (n:Int) - (s.length:Int)) (by omega) (by omega),w64 (a:=(2:Int) * (n:Int) - (s.length:Int) - 1) (by omega) (by omega),show (2:Int) * (n:Int) - (s.length:Int) - 1 = (m:Int) from by omega,show (h:Int) + 1 = ((h + 1:Nat):Int) from rfl,ways_eq F m (h + 1) (by omega) hF,Option.bind_some]
   have hcat:∀ x:UInt8,cat? s [x] = some (s ++ [x]):=fun x=>if_neg (by simp <;> omega)
   rw [hcat,hcat,Option.bind_some,Option.bind_some]
   by_cases h1:k < W m (h + 1)
   ·rw [if_pos (decide_eq_true (by omega)),if_pos h1]
   ·rw [if_neg (by rw [decide_eq_true_eq];omega),if_neg h1,wsub (by omega) (by omega),w64 (by omega) (by omega)]
  rw [W_next] at hk
  simp only [gen]
  by_cases h1:k < W m (h + 1)
  ·rw [if_pos h1] at hst ⊢
   rw [iter_more hst,atLoopN F n hF hn m (h + 1) k (s ++ [40]) G (by simp <;> omega) (by simp <;> omega) h1 (by omega),List.append_assoc]
   rfl
  ·rw [if_neg h1] at hst ⊢
   by_cases h0:h = 0
   ·rw [if_pos h0] at hk;omega
   ·rw [if_neg h0] at hk
    rw [show (h:Int) - 1 = ((h - 1:Nat):Int) from by omega] at hst
    rw [iter_more hst,atLoopN F n hF hn m (h - 1) (k - W m (h + 1)) (s ++ [41]) G (by simp <;> omega) (by simp <;> omega) (by omega) (by omega),List.append_assoc]
    rfl
theorem count_eqN (F n:Nat) (hF:40≤F) (hn:n≤15):F91 F n = some ((W (2 * n) 0:Int),0):=by
 unfold F91
 rw [if_neg (by simp <;> omega),w64 (by omega) (by omega),show (2:Int) * (n:Int) = ((2 * n:Nat):Int) from by omega]
 have:=ways_eq F (2 * n) 0 (by omega) hF
 rw [show (0:Int) = ((0:Nat):Int) from rfl,this]
 rfl
end Go.Proofs.YtaphdnpjpmnaeadGreatDoor.nst

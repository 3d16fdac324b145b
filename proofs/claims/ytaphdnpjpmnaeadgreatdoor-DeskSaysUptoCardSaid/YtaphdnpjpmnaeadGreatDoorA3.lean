/- Towards castlaw.DeskSays, part 3: joined by a program of ours. -/
import Derived.Test.YtaphdnpjpmnaeadGreatDoorA2
import Derived.Lib.SplitLaws
import Derived.Lib.ItoaNum
import Derived.Lib.Atoi
import Derived.Lib.Join
import Derived.Laws.AppendOwn
import Derived.Test.YtaphdnpjpmnaeadGreatDoorChecked
import Derived.WalkLawsBesides
import Derived.Lib.FieldsP
import Derived.Lib.LaidTab
import Derived.Tactics2
import Derived.Recover
import Derived.Laws.Pointers
set_option linter.unusedVariables false
set_option linter.unusedSimpArgs false
set_option linter.unusedSectionVars false
namespace Go.Am
open Go.RowKit
abbrev bs (l:List UInt8):ByteArray:=⟨l.toArray⟩
section
variable {P:Program} {B fl0:Nat} {w0:World} {f:Nat} {ρ:Rho} {m:Mem} {n:Nat} {w:World} {vals:Array Value}
theorem vals1 {a:AV} (h:All2 (AV.rel ρ) [a] vals.toList):∃ v,vals = #[v]∧a.rel ρ v:=by
 match vals,h with
 | ⟨[v]⟩,h=>exact ⟨v,rfl,h.1⟩
 | ⟨[]⟩,h=>exact h.elim
 | ⟨_ :: _ :: _⟩,h=>exact h.2.elim
theorem vals2 {a b:AV} (h:All2 (AV.rel ρ) [a,b] vals.toList):∃ u v,vals = #[u,v]∧a.rel ρ u∧b.rel ρ v:=by
 match vals,h with
 | ⟨[u,v]⟩,h=>exact ⟨u,v,rfl,h.1,h.2.1⟩
 | ⟨[]⟩,h=>exact h.elim
 | ⟨[_]⟩,h=>exact h.2.elim
 | ⟨_ :: _ :: _ :: _⟩,h=>exact h.2.2.elim
def Yields (P:Program) (B fl0:Nat) (w0:World) (f:Nat) (ρ:Rho) (n:Nat) (w:World) (vals:Array Value) (v:AV) (m':Mem) (n':Nat):Prop:=
 Calls P f vals w fun e w'=>∃ val ρ',e = .returned val∧Ext ρ ρ'∧(∀ i,ρ' i≠none→ρ i≠none∨(n≤i∧i < n'))∧MemRel B fl0 w0 ρ' m' w'∧v.rel ρ' val
theorem MemRel.grown (h:MemRel B fl0 w0 ρ m w) {w':World} (hb:Below w.heap.size w w'):MemRel B fl0 w0 ρ m w' where
 below:=h.below.trans ⟨hb.os,hb.tape,hb.output,hb.size,fun k hk=>hb.block k (Nat.lt_of_lt_of_le hk (Nat.le_trans h.big h.below.size))⟩
 big:=h.big
 mem i l hi:=let ⟨p,hp,ha,hB⟩:=h.mem i l hi;⟨p,hp,ha.world (hb.block _ ha.lt),hB⟩
 sep:=h.sep
theorem Yields.same (hm:MemRel B fl0 w0 ρ m w) {v:AV} (h:Calls P f vals w fun e w'=>(∃ val,e = .returned val∧v.rel ρ val)∧Below w.heap.size w w'):Yields P B fl0 w0 f ρ n w vals v m n:=
 h.mono fun _ _ ⟨⟨val,h1,h2⟩,hb⟩=>⟨val,ρ,h1,Ext.refl _,fun _ h=>.inl h,hm.grown hb,h2⟩
def splitL (s sep:List UInt8):List (List UInt8):=(Lib.splitB (bs sep) 0 (Lib.countB (bs s) (bs sep)) (bs s)).map (·.data.toList)
theorem yields_split {T:TypeId} (hc:∀ (s sep:ByteArray) (w:World),(∃ k,w.cell? ⟨0,0,none⟩ = some (.int .i64 k))→s.size < 4294967281→1≤sep.size→Calls P f #[.string s,.string sep] w fun e w'=>
 e = .returned (.slice (some ⟨w.heap.size,0,none⟩) (Lib.countB s sep + 1) (Lib.countB s sep + 1))∧w' = w.alloc (.cells ((Lib.splitB sep 0 (Lib.countB s sep) s).map Value.string).toArray T))
 {s sep:List UInt8} (hm:MemRel B fl0 w0 ρ m w) (ha:All2 (AV.rel ρ) [.sc (.str s),.sc (.str sep)] vals.toList) (hn:ρ n = none) (hfl:fl0≤n) (hk:∃ k,w.cell? ⟨0,0,none⟩ = some (.int .i64 k)) (h1:s.length < 4294967281) (h2:1≤sep.length):
 Yields P B fl0 w0 f ρ n w vals (.sc (.sl n 0 (splitL s sep).length (splitL s sep).length 1)) (m.set n ((splitL s sep).map SV.str)) (n + 1):=by
 obtain ⟨u,v,rfl,hu,hv⟩:=vals2 ha
 obtain rfl:u = .string (bs s):=hu
 obtain rfl:v = .string (bs sep):=hv
 have hlen:(splitL s sep).length = Lib.countB (bs s) (bs sep) + 1:=by
  unfold splitL
  rw [List.length_map]
  exact Lib.splitB_all (bs sep) (by simpa [bs,ByteArray.size] using h2) 0 _ _ rfl
 refine (hc (bs s) (bs sep) w hk (by simpa [bs,ByteArray.size] using h1) (by simpa [bs,ByteArray.size] using h2)).mono ?_
 rintro e w' ⟨rfl,rfl⟩
 have hl2:(Lib.splitB (bs sep) 0 (Lib.countB (bs s) (bs sep)) (bs s)).length = Lib.countB (bs s) (bs sep) + 1:=by
  rw [← hlen];unfold splitL;rw [List.length_map]
 refine ⟨_,upR ρ n ⟨w.heap.size,0,((Lib.splitB (bs sep) 0 (Lib.countB (bs s) (bs sep)) (bs s)).map Value.string).toArray.size⟩,rfl,upR_ext hn,fun i hi=>?_,hm.new hn hfl _ _ T ?_ ?_,?_⟩
 ·unfold upR at hi
  by_cases e:i = n
  ·exact .inr ⟨by omega,by omega⟩
  ·rw [if_neg e] at hi;exact .inl hi
 ·simp [splitL]
 ·rw [List.length_map]
  unfold splitL
  rw [List.length_map,List.toList_toArray,List.map_map]
  have:∀ L:List ByteArray,All2 (SV.rel ρ) (L.map (SV.str ∘ fun x=>x.data.toList)) ((L.map Value.string).take L.length):=by
   intro L
   rw [List.take_of_length_le (by simp)]
   induction L with
   | nil=>trivial
   | cons x L ih=>exact ⟨rfl,ih⟩
  exact this _
 ·refine ⟨_,Lib.countB (bs s) (bs sep) + 1,by unfold upR;rw [if_pos rfl],by omega,by omega,?_,by simp [hl2],by simp [hlen]⟩
  have:=Lib.countB_le (bs sep) (by simpa [bs,ByteArray.size] using h2) (bs s).size (bs s) (Nat.le_refl _)
  have hs:(bs s).size = s.length:=by simp [bs,ByteArray.size]
  show Lib.countB (bs s) (bs sep) + 1≤9223372036854775807
  omega
theorem yields_itoa {tab:World→Prop} (hc:∀ (x:Int) (w:World),-9223372036854775808≤x→x≤9223372036854775807→tab w→Calls P f #[.int .i64 x] w fun e w'=>e = .returned (.string ⟨(Lib.itoa x).toArray⟩)∧Below w.heap.size w w')
 {x:Int} (hm:MemRel B fl0 w0 ρ m w) (ha:All2 (AV.rel ρ) [.sc (.int .i64 x)] vals.toList) (ht:tab w) (h1:-9223372036854775808≤x∧x≤9223372036854775807):Yields P B fl0 w0 f ρ n w vals (.sc (.str (Lib.itoa x))) m n:=by
 obtain ⟨u,rfl,hu⟩:=vals1 ha
 obtain rfl:u = .int .i64 x:=hu
 exact Yields.same hm ((hc x w h1.1 h1.2 ht).mono fun e w' ⟨h,hb⟩=>⟨⟨_,h,rfl⟩,hb⟩)
theorem yields_atoi (hc:∀ (s:ByteArray) (x:Int) (w:World),s.size≤18→Lib.atoi s.data.toList = some x→Calls P f #[.string s] w fun e w'=>e = .returned (.tuple #[.int .i64 x,.nilIface])∧Below w.heap.size w w')
 {s:List UInt8} {x:Int} (hm:MemRel B fl0 w0 ρ m w) (ha:All2 (AV.rel ρ) [.sc (.str s)] vals.toList) (h1:s.length≤18) (h2:Lib.atoi s = some x):Yields P B fl0 w0 f ρ n w vals (.tup [.sc (.int .i64 x),.un]) m n:=by
 obtain ⟨u,rfl,hu⟩:=vals1 ha
 obtain rfl:u = .string (bs s):=hu
 exact Yields.same hm ((hc (bs s) x w (by simpa [bs,ByteArray.size] using h1) (by simpa [bs] using h2)).mono fun e w' ⟨h,hb⟩=>⟨⟨_,h,_,rfl,rfl,trivial,trivial⟩,hb⟩)
theorem cell_atW {w:World} {b i:Nat} {arr:Array Value} {T:TypeId} {fz:Nat × Nat} {v:Value} (h:w.heap[b]? = some (.cells arr T fz)) (hv:arr[i]? = some v):w.cell? ⟨b,i,none⟩ = some v:=by
 simp [World.cell?,h,hv]
theorem bs_map (xs:List (List UInt8)):(xs.map bs).map (·.data.toList) = xs:=by
 rw [List.map_map]
 have:((fun x:ByteArray=>x.data.toList) ∘ bs) = id:=by funext l;rfl
 rw [this,List.map_id]
def strsOf:List SV→Option (List (List UInt8))
 | []=>some []
 | .str s :: r=>(strsOf r).map (s :: ·)
 | _=>none
theorem strsOf_map {cs:List SV} {xs:List (List UInt8)} (h:strsOf cs = some xs):cs = xs.map SV.str:=by
 induction cs generalizing xs with
 | nil=>cases h;rfl
 | cons c cs ih=>
  cases c with
  | str s=>
   simp only [strsOf] at h
   obtain ⟨ys,h1,rfl⟩:=Option.map_eq_some_iff.1 h
   rw [ih h1];rfl
  | _=>cases h
theorem yields_join (hc:∀ (bk o c:Nat) (xs:List ByteArray) (sep:ByteArray) (w:World),(∀ (j:Nat) x,xs[j]? = some x→w.cell? ⟨bk,o + j,none⟩ = some (.string x))→bk < w.heap.size→xs.length≤140737488355328→xs.length≤c →
 (Lib.join (xs.map (·.data.toList)) sep.data.toList).length≤140737488355328→Calls P f #[.slice (some ⟨bk,o,none⟩) xs.length c,.string sep] w fun e w'=>e = .returned (.string ⟨(Lib.join (xs.map (·.data.toList)) sep.data.toList).toArray⟩)∧Below w.heap.size w w')
 {i o k c:Nat} {cs:List SV} {xs:List (List UInt8)} {sep:List UInt8} (hm:MemRel B fl0 w0 ρ m w) (ha:All2 (AV.rel ρ) [.sc (.sl i o k c 1),.sc (.str sep)] vals.toList) (hi:m.get i = some cs) (ho:o + k≤cs.length) (hx:strsOf ((cs.drop o).take k) = some xs)
 (h1:k≤140737488355328) (h2:(Lib.join xs sep).length≤140737488355328):Yields P B fl0 w0 f ρ n w vals (.sc (.str (Lib.join xs sep))) m n:=by
 obtain ⟨u,v,rfl,hu,hv⟩:=vals2 ha
 obtain rfl:v = .string (bs sep):=hv
 obtain ⟨p,cc,hp,hkc,hcc,hmx,hroom,rfl⟩:=hu
 obtain ⟨p',hp',hat,_⟩:=hm.mem i cs hi
 rw [hp] at hp';cases hp'
 obtain ⟨arr,T,fz,b1,b2,b3,b4,_⟩:=(hat.cells (by omega)).at_
 have hcs:=strsOf_map hx
 have hxl:xs.length = k:=by
  have:=congrArg List.length hcs
  simp only [List.length_take,List.length_drop,List.length_map] at this
  omega
 have hcall:=hc p.b (p.base + o) cc (xs.map bs) (bs sep) w (fun j x hj=>by
  rw [List.getElem?_map] at hj
  obtain ⟨s,hs,rfl⟩:=Option.map_eq_some_iff.1 hj
  have hjk:j < xs.length:=(List.getElem?_eq_some_iff.1 hs).1
  have hc1:cs[o + j]? = some (.str s):=by
   have:((cs.drop o).take k)[j]? = some (.str s):=by rw [hcs,List.getElem?_map,hs];rfl
   rw [List.getElem?_take_of_lt (by omega),List.getElem?_drop] at this
   exact this
  obtain ⟨y,hy,hr⟩:=b4.get (o + j) _ hc1
  obtain rfl:y = .string (bs s):=hr
  have hlt:o + j < cs.length:=by omega
  rw [List.getElem?_take_of_lt hlt,List.getElem?_drop] at hy
  have hy2:arr[p.base + (o + j)]? = some (.string (bs s)):=by simpa using hy
  show w.cell? ⟨p.b,p.base + o + j,none⟩ = _
  rw [Nat.add_assoc]
  exact cell_atW b1 hy2) hat.lt (by simp;omega) (by simp;omega) (by
   rw [bs_map];exact h2)
 rw [bs_map,List.length_map,hxl] at hcall
 exact Yields.same hm (hcall.mono fun e w' ⟨h,hb⟩=>⟨⟨_,h,rfl⟩,hb⟩)
theorem MemRel.made (h:MemRel B fl0 w0 ρ m w) {w':World} (hb:Below w.heap.size w w') (hn:ρ n = none) (hfl:fl0≤n) (l:List SV) (p:Pl) (hp:w.heap.size≤p.b) (hat:AtP (upR ρ n p) true l p w'):
 MemRel B fl0 w0 (upR ρ n p) (m.set n l) w':=by
 have hext:Ext ρ (upR ρ n p):=upR_ext hn
 have hB:B≤w.heap.size:=Nat.le_trans h.big h.below.size
 have hlt:∀ i l' p,m.get i = some l'→ρ i = some p→p.b < w.heap.size:=by
  intro i l' p hi hp
  obtain ⟨p',hp',hb,_⟩:=h.mem i l' hi
  rw [hp] at hp';cases hp'
  exact hb.lt
 constructor
 ·exact (h.grown hb).below
 ·exact h.big
 ·intro i l' hi
  rw [Tr.get_set] at hi
  by_cases e:i = n
  ·subst e
   rw [if_pos rfl] at hi;cases hi
   exact ⟨p,by unfold upR;rw [if_pos rfl],by rw [decide_eq_true hfl];exact hat,fun _=>by omega⟩
  ·rw [if_neg e] at hi
   obtain ⟨q,hq1,hq2,hq3⟩:=h.mem i l' hi
   exact ⟨q,hext _ _ hq1,(hq2.ext hext).world (hb.block _ (hlt i l' q hi hq1)),hq3⟩
 ·intro i j li lj p' q hi hij gi gj hp1 hq
  rw [Tr.get_set] at gi gj
  unfold upR at hp1 hq
  by_cases ei:i = n
  ·subst ei
   rw [if_pos rfl] at hp1;cases hp1
   rw [if_neg (Ne.symm hij)] at gj hq
   have:=hlt j lj q gj hq
   omega
  ·rw [if_neg ei] at gi hp1
   by_cases ej:j = n
   ·subst ej
    rw [if_pos rfl] at hq;cases hq
    have:=hlt i li p' gi hp1
    omega
   ·rw [if_neg ej] at gj hq
    exact h.sep i j li lj p' q hi hij gi gj hp1 hq
theorem yields_fields {T:TypeId} {g:Nat} {Fs:ByteArray→List ByteArray} (hc:∀ (s:ByteArray) (w:World),s.size≤4294967296→Calls P f #[.string s,.func (.func g) #[] #[]] w fun e w'=>∃ A,e = .returned (.slice (some ⟨A,0,none⟩) (Fs s).length (Fs s).length)∧w.heap.size≤A ∧
 w'.ownsRow w.heap.size T 1 (.slice (some ⟨A,0,none⟩) (Fs s).length (Fs s).length) (Fs s).length ((Fs s).map Value.string)∧Below w.heap.size w w')
 {s:List UInt8} (hm:MemRel B fl0 w0 ρ m w) (ha:All2 (AV.rel ρ) [.sc (.str s),.sc (.fn g [])] vals.toList) (hn:ρ n = none) (hfl:fl0≤n) (h1:s.length≤4294967296):
 Yields P B fl0 w0 f ρ n w vals (.sc (.sl n 0 (Fs (bs s)).length (Fs (bs s)).length 1)) (m.set n ((Fs (bs s)).map fun x=>SV.str x.data.toList)) (n + 1):=by
 obtain ⟨u,v,rfl,hu,hv⟩:=vals2 ha
 obtain rfl:u = .string (bs s):=hu
 obtain ⟨cs,rfl,hcs⟩:=hv
 obtain rfl:cs = #[]:=by
  match cs,hcs with
  | ⟨[]⟩,_=>rfl
  | ⟨_ :: _⟩,h=>exact h.elim
 refine (hc (bs s) w (by simpa [bs,ByteArray.size] using h1)).mono ?_
 rintro e w' ⟨A,rfl,hA,hown,hb⟩
 obtain ⟨_,hrow⟩:=hown
 rcases hrow with ⟨hx,_⟩ | ⟨g',cap,cur,q1,q2,q3,q4,q5,q6,q7⟩
 ·cases hx
 ·cases q1
  refine ⟨_,upR ρ n ⟨A,0,cur.size⟩,rfl,upR_ext hn,fun i hi=>?_,hm.made hb hn hfl _ ⟨A,0,cur.size⟩ hA (.inl ⟨cur,T,(0,0),q3,rfl,?_,?_,?_⟩),?_⟩
  ·unfold upR at hi
   by_cases e:i = n
   ·exact .inr ⟨by omega,by omega⟩
   ·rw [if_neg e] at hi;exact .inl hi
  ·simp only [List.length_map];omega
  ·simp only [List.length_map,List.drop_zero]
   rw [Nat.mul_one] at q7
   rw [q7]
   have:∀ L:List ByteArray,All2 (SV.rel (upR ρ n ⟨A,0,cur.size⟩)) (L.map fun x=>SV.str x.data.toList) (L.map Value.string):=by
    intro L
    induction L with
    | nil=>trivial
    | cons x L ih=>exact ⟨rfl,ih⟩
   exact this _
  ·intro _ o _ ho
   simp only at ho
   omega
  ·exact ⟨_,(Fs (bs s)).length,by unfold upR;rw [if_pos rfl],Nat.le_refl _,Nat.le_refl _,q5,by simp only;omega,by simp⟩
end
structure SNo where
 split:Nat
 itoa:Nat
 join:Nat
 atoi:Nat
 fields:Nat
 pred:Nat
def strR (k:SNo) (Fs:ByteArray→List ByteArray) (f:Nat) (args:List AV) (m:Mem):Option (AV ⊕ List SV):=
 if f = k.split then match args with
  | [.sc (.str s),.sc (.str sep)]=>if s.length < 4294967281∧1≤sep.length then some (.inr ((splitL s sep).map SV.str)) else none
  | _=>none
 else if f = k.itoa then match args with
  | [.sc (.int .i64 x)]=>if -9223372036854775808≤x∧x≤9223372036854775807 then some (.inl (.sc (.str (Lib.itoa x)))) else none
  | _=>none
 else if f = k.join then match args with
  | [.sc (.sl i o q _ 1),.sc (.str sep)]=>match m.get i with
   | some cs=>match strsOf ((cs.drop o).take q) with
    | some xs=>if o + q≤cs.length∧q≤140737488355328∧(Lib.join xs sep).length≤140737488355328 then some (.inl (.sc (.str (Lib.join xs sep)))) else none
    | none=>none
   | none=>none
  | [.sc .nils,.sc (.str _)]=>some (.inl (.sc (.str [])))
  | _=>none
 else if f = k.atoi then match args with
  | [.sc (.str s)]=>if s.length≤18 then (Lib.atoi s).map fun x=>.inl (.tup [.sc (.int .i64 x),.un]) else none
  | _=>none
 else if f = k.fields then match args with
  | [.sc (.str s),.sc (.fn g [])]=>if g = k.pred∧s.length≤4294967296 then some (.inr ((Fs (bs s)).map fun x=>SV.str x.data.toList)) else none
  | _=>none
 else none
theorem strR_fra {k:SNo} {Fs:ByteArray→List ByteArray} {f:Nat} {args:List AV} {m:Mem} {r:AV ⊕ List SV} {q:Nat} {x:List SV} (h:strR k Fs f args m = some r) (hq:m.get q = none):strR k Fs f args (m.set q x) = some r:=by
 unfold strR at h ⊢
 split at h
 ·rename_i e;rw [if_pos e];exact h
 ·rename_i e;rw [if_neg e]
  split at h
  ·rename_i e;rw [if_pos e];exact h
  ·rename_i e;rw [if_neg e]
   split at h
   ·rename_i e;rw [if_pos e]
    split at h
    ·rename_i i o q' _ sep
     split at h
     ·rename_i cs hcs
      rw [Tr.get_set_ne _ _ (ne_of_get hq hcs),hcs]
      exact h
     ·cases h
    ·exact h
    ·cases h
   ·rename_i e;rw [if_neg e];exact h
def strF (k:SNo) (Fs:ByteArray→List ByteArray):CallF:=fun _ f args m n=>match strR k Fs f args m with
 | none=>none
 | some (.inl v)=>some (v,m,n)
 | some (.inr l)=>some (.sc (.sl n 0 l.length l.length 1),m.set n l,n + 1)
def strOut (k:SNo) (Fs:ByteArray→List ByteArray):Outer where
 is f:=f == k.split || f == k.itoa || f == k.join || f == k.atoi || f == k.fields
 f:=strF k Fs
 keeps fl g args m n v m' n' h:=by
  unfold strF at h
  split at h
  ·cases h
  ·cases h;exact ⟨Nat.le_refl _,fun _ _ _=>rfl⟩
  ·cases h;exact ⟨Nat.le_succ _,fun i _ hi=>Tr.get_set_ne _ _ (by omega)⟩
 fra fl g args m n v m' n' h q x hq hn:=by
  unfold strF at h ⊢
  split at h
  ·cases h
  ·rename_i v' hr
   cases h
   rw [strR_fra hr hq]
   exact ⟨hq,rfl⟩
  ·rename_i l hr
   cases h
   have hne:q≠n:=by omega
   rw [strR_fra hr hq]
   refine ⟨by rw [Tr.get_set_ne _ _ hne];exact hq,?_⟩
   simp only
   exact congrArg (fun t=>some (_,t,_)) (Tr.upd_comm _ _ _ hne)
 low fl fl' g args m n r _ h:=h
structure StrC (P:Program) (k:SNo) (Fs:ByteArray→List ByteArray) (T T2:TypeId) (tab:World→Prop):Prop where
 body:∀ f,(strOut k Fs).is f = true→∃ fn,P.funcs[f]? = some fn∧(fn.name == "runtime.NumGoroutine") = false∧fn.body.isNone = false
 tab_below:∀ w0 w,tab w0→Below w0.heap.size w0 w→tab w
 tab_cell:∀ w,tab w→∃ q,w.cell? ⟨0,0,none⟩ = some (.int .i64 q)
 split:∀ (s sep:ByteArray) (w:World),(∃ q,w.cell? ⟨0,0,none⟩ = some (.int .i64 q))→s.size < 4294967281→1≤sep.size→Calls P k.split #[.string s,.string sep] w fun e w'=>
  e = .returned (.slice (some ⟨w.heap.size,0,none⟩) (Lib.countB s sep + 1) (Lib.countB s sep + 1))∧w' = w.alloc (.cells ((Lib.splitB sep 0 (Lib.countB s sep) s).map Value.string).toArray T)
 itoa:∀ (x:Int) (w:World),-9223372036854775808≤x→x≤9223372036854775807→tab w→Calls P k.itoa #[.int .i64 x] w fun e w'=>e = .returned (.string ⟨(Lib.itoa x).toArray⟩)∧Below w.heap.size w w'
 join:∀ (bk o c:Nat) (xs:List ByteArray) (sep:ByteArray) (w:World),(∀ (j:Nat) x,xs[j]? = some x→w.cell? ⟨bk,o + j,none⟩ = some (.string x))→bk < w.heap.size→xs.length≤140737488355328→xs.length≤c →
  (Lib.join (xs.map (·.data.toList)) sep.data.toList).length≤140737488355328→Calls P k.join #[.slice (some ⟨bk,o,none⟩) xs.length c,.string sep] w fun e w'=>e = .returned (.string ⟨(Lib.join (xs.map (·.data.toList)) sep.data.toList).toArray⟩)∧Below w.heap.size w w'
 join0:∀ (sep:ByteArray) (w:World),Calls P k.join #[.slice none 0 0,.string sep] w fun e w'=>e = .returned (.string ⟨#[]⟩)∧w' = w
 atoi:∀ (s:ByteArray) (x:Int) (w:World),s.size≤18→Lib.atoi s.data.toList = some x→Calls P k.atoi #[.string s] w fun e w'=>e = .returned (.tuple #[.int .i64 x,.nilIface])∧Below w.heap.size w w'
 fields:∀ (s:ByteArray) (w:World),s.size≤4294967296→Calls P k.fields #[.string s,.func (.func k.pred) #[] #[]] w fun e w'=>∃ A,e = .returned (.slice (some ⟨A,0,none⟩) (Fs s).length (Fs s).length)∧w.heap.size≤A ∧
  w'.ownsRow w.heap.size T2 1 (.slice (some ⟨A,0,none⟩) (Fs s).length (Fs s).length) (Fs s).length ((Fs s).map Value.string)∧Below w.heap.size w w'
theorem strOk {P:Program} {k:SNo} {Fs:ByteArray→List ByteArray} {T T2:TypeId} {tab:World→Prop} (C:StrC P k Fs T T2 tab) {fl0:Nat} {w0:World} (hw:tab w0):CallOk P w0.heap.size fl0 w0 (strOut k Fs).f:=by
 intro fl f args m n v m' n' hfl hn h ρ w vals hm ha hf
 have ht:tab w:=C.tab_below w0 w hw hm.below
 have key:(strOut k Fs).is f = true∧Yields P w0.heap.size fl0 w0 f ρ n w vals v m' n':=by
  change strF k Fs fl f args m n = some (v,m',n') at h
  unfold strF at h
  have hfn:n < n'→ρ n = none:=fun q=>hf n (Nat.le_refl _) q
  split at h
  ·cases h
  ·rename_i v' hr
   cases h
   unfold strR at hr
   split at hr
   ·split at hr
    ·split at hr <;> cases hr
    ·cases hr
   ·split at hr
    ·rename_i e;subst e
     split at hr
     ·split at hr
      ·rename_i hx
       cases hr
       exact ⟨by simp [strOut],yields_itoa C.itoa hm ha ht hx⟩
      ·cases hr
     ·cases hr
    ·split at hr
     ·rename_i e;subst e
      split at hr
      ·split at hr
       ·rename_i cs hcs
        split at hr
        ·rename_i xs hxs
         split at hr
         ·rename_i hq
          cases hr
          exact ⟨by simp [strOut],yields_join C.join hm ha hcs hq.1 hxs hq.2.1 hq.2.2⟩
         ·cases hr
        ·cases hr
       ·cases hr
      ·cases hr
       obtain ⟨u,v,rfl,hu,hv⟩:=vals2 ha
       obtain rfl:u = .slice none 0 0:=hu
       obtain ⟨sep,rfl⟩:∃ sep,v = .string sep:=⟨_,hv⟩
       exact ⟨by simp [strOut],Yields.same hm ((C.join0 sep w).mono fun e w' ⟨h,hb⟩=>⟨⟨_,h,rfl⟩,by rw [hb];exact Below.refl _ _⟩)⟩
      ·cases hr
     ·split at hr
      ·rename_i e;subst e
       split at hr
       ·split at hr
        ·rename_i hs
         obtain ⟨x,hx,hh⟩:=Option.map_eq_some_iff.1 hr
         cases hh
         exact ⟨by simp [strOut],yields_atoi C.atoi hm ha hs hx⟩
        ·cases hr
       ·cases hr
      ·split at hr
       ·split at hr
        ·split at hr <;> cases hr
        ·cases hr
       ·cases hr
  ·rename_i l hr
   cases h
   have hfn:=hfn (by omega)
   unfold strR at hr
   split at hr
   ·rename_i e;subst e
    split at hr
    ·split at hr
     ·rename_i hs
      cases hr
      have:=yields_split C.split hm ha hfn hn (C.tab_cell w ht) hs.1 hs.2
      rw [List.length_map]
      exact ⟨by simp [strOut],this⟩
     ·cases hr
    ·cases hr
   ·split at hr
    ·split at hr
     ·split at hr <;> cases hr
     ·cases hr
    ·split at hr
     ·split at hr
      ·split at hr
       ·split at hr
        ·split at hr <;> cases hr
        ·cases hr
       ·cases hr
      ·cases hr
      ·cases hr
     ·split at hr
      ·split at hr
       ·split at hr
        ·obtain ⟨x,hx,hh⟩:=Option.map_eq_some_iff.1 hr
         cases hh
        ·cases hr
       ·cases hr
      ·split at hr
       ·rename_i e;subst e
        split at hr
        ·split at hr
         ·rename_i hs
          obtain ⟨rfl,hs⟩:=hs
          cases hr
          rw [List.length_map]
          exact ⟨by simp [strOut],yields_fields C.fields hm ha hfn hn hs⟩
         ·cases hr
        ·cases hr
       ·cases hr
 exact ⟨C.body f key.1,key.2⟩
end Go.Am
namespace Go.Proofs.YtaphdnpjpmnaeadGreatDoor
open Go.RowKit Go.Am
theorem must_ok (w:World):Calls Tryz.prog 15 #[.int .i64 0] w fun e w'=>e = .returned (.tuple #[])∧w' = w:=by
 go_enter Tryz.func15,Tryz.ntmps15
 go_wp2
 exact ⟨rfl,.tuple #[],by simp [results,Tryz.results15],rfl,rfl⟩
theorem must_pan (c:Int) (hc:c≠0) (w:World):Calls Tryz.prog 15 #[.int .i64 c] w fun e w'=>e = .panicked [{ v:=.iface 48 (.agg #[.int .i64 c]),recovered:=false }]∧w' = w:=by
 go_enter Tryz.func15,Tryz.ntmps15
 go_wp2
 exact ⟨rfl,rfl,rfl⟩
def pv (c:Int):Value:=.iface 48 (.agg #[.int .i64 c])
theorem must_cx (c:Int) {B fl0:Nat} {w0:World} {m:Mem} {n:Nat}:CX Tryz.prog pv B fl0 w0 15 [.sc (.int .i64 c)] m n fun x m' n'=>m' = m∧n' = n∧x = if c = 0 then .ok (.tup []) else .pan c:=by
 intro ρ w vals h0 hm ha hf
 refine ⟨⟨_,Tryz.func15,by kernel_rfl,by kernel_rfl⟩,?_⟩
 obtain ⟨u,rfl,hu⟩:=vals1 ha
 obtain rfl:u = .int .i64 c:=hu
 by_cases hc:c = 0
 ·subst hc
  refine (must_ok w).mono ?_
  rintro e w' ⟨rfl,rfl⟩
  exact ⟨.ok (.tup []),m,n,ρ,⟨rfl,rfl,rfl⟩,⟨_,rfl,#[],rfl,trivial⟩,Nat.le_refl _,Ext.refl _,fun _ h=>.inl h,hm⟩
 ·refine (must_pan c hc w).mono ?_
  rintro e w' ⟨rfl,rfl⟩
  exact ⟨.pan c,m,n,ρ,⟨rfl,rfl,by rw [if_neg hc]⟩,rfl,Nat.le_refl _,Ext.refl _,fun _ h=>.inl h,hm⟩
end Go.Proofs.YtaphdnpjpmnaeadGreatDoor
namespace Go.Am
def mkC? {α:Type} (n c:Int) (z:α):Option (List α):=if 0≤n∧n≤c∧c≤1099511627776 then some (List.replicate n.toNat z) else none
def Wk {α:Type} {fl:Nat} (A:Lay α) (S:Cx fl) (k:Nat) (v:SV) (L:List α):Prop:=RO A (fun i=>i < S.n∧S.ow i = k) S.fz S.m v L
section wk
variable {α:Type} {A:Lay α} {fl k j:Nat} {S S':Cx fl} {v:SV} {L:List α}
theorem Ow.wk (h:Ow A S k v L):Wk A S k v L:=RO.to h.oz (fun _ h=>⟨h.2,rfl⟩) (fun _ h=>⟨h,rfl⟩)
theorem Wk.slv (h:Wk A S k v L):SlV v A.sz L.length:=RO.slv h
theorem Wk.ro (h:Wk A S k v L):RO A (fun i=>i < S.n) S.fz S.m v L:=RO.to h (fun _ h=>⟨h.1,rfl⟩) (fun _ h=>⟨h,rfl⟩)
theorem Wk.oz (h:Wk A S k v L):RO A (fun i=>i < S.n∧i < S.n∧S.ow i = k) S.fz S.m v L:=RO.to h (fun _ h=>⟨⟨h.1,h⟩,rfl⟩) (fun _ h=>⟨h,rfl⟩)
theorem Wk.vw (h:Wk A S k v L):Vw A S.n S.m v L:=RO.to h.ro (fun _ h=>⟨h,rfl⟩) (fun _ h=>⟨h.1,rfl⟩)
theorem Wk.to (h:Wk A S j v L) (c:Ch k S S') (hk:Nat.beq k 0 = false:=by rfl) (hj:Nat.beq j k = false:=by rfl):Wk A S' j v L:=by
 have hk:k≠0:=fun e=>by subst e;cases hk
 have hj:j≠k:=fun e=>by subst e;rw [show Nat.beq j j = true by simp] at hj;cases hj
 refine RO.to h (fun i hi=>?_) (fz_ch c hk)
 obtain ⟨h1,h2⟩:=c.ow i hi.1 (by omega)
 exact ⟨⟨Nat.lt_of_lt_of_le hi.1 c.n,by rw [h1];exact hi.2⟩,h2⟩
theorem fz_drop (k:Nat):∀ i,S.fz i→(S.drop k).fz i∧(S.drop k).m.get i = S.m.get i:=fun i ⟨h1,h2⟩=>⟨⟨h1,by simp only [Cx.drop];split;rfl;exact h2⟩,rfl⟩
theorem Wk.drop (h:Wk A S j v L) (k:Nat) (hj:Nat.beq j k = false:=by rfl):Wk A (S.drop k) j v L:=by
 have hj:j≠k:=fun e=>by subst e;rw [show Nat.beq j j = true by simp] at hj;cases hj
 exact RO.to h (fun i hi=>⟨⟨hi.1,by simp only [Cx.drop];rw [if_neg (by omega)];exact hi.2⟩,rfl⟩) (fz_drop k)
theorem Wk.renO {i:Nat} (h:Wk A S i v L) (k j:Nat) (hk:Nat.beq k 0 = false:=by rfl) (hj:Nat.beq j 0 = false:=by rfl) (hik:Nat.beq i k = false:=by rfl) (hij:Nat.beq i j = false:=by rfl):Wk A (S.ren k j) i v L:=by
 have hk:k≠0:=fun e=>by subst e;cases hk
 have hj:j≠0:=fun e=>by subst e;cases hj
 have hik:i≠k:=fun e=>by subst e;rw [show Nat.beq i i = true by simp] at hik;cases hik
 have hij:i≠j:=fun e=>by subst e;rw [show Nat.beq i i = true by simp] at hij;cases hij
 exact RO.to h (fun q hq=>⟨⟨hq.1,by simp only [Cx.ren];rw [if_neg (by omega),if_neg (by omega)];exact hq.2⟩,rfl⟩) (fz_ren k j hk hj)
theorem Wk.freeze (h:Wk A S k v L):Rd A (S.drop k) v L:=RO.to h (fun i hi=>⟨⟨hi.1,by simp only [Cx.drop];rw [if_pos hi.2]⟩,rfl⟩) (fz_drop k)
end wk
section rules
variable {E:Env} {lo:List Nat} {fl:Nat} {loose:Nat→Bool} {lim:Option Nat} {ops:Array Oper} {os:List Oper}
variable {l:LE} {m:Mem} {n:Nat} {K:LE→Mem→Nat→Prop}
variable {d:Nat} {ty t t1:TypeId} {pos:String} {af:Array Edge} {x y i:Operand} {v w:SV} {k k':IntKind} {a b:Int}
variable {α:Type} {A:Lay α} {S:Cx fl} {L L' M:List α} {j q:Nat} {u:α} {s:SV} {id:Nat}
theorem WO.mkC {z0:α} {i2:Operand} (id:Nat) (hi:evK l i = some (.sc (.int k a))) (hi2:evK l i2 = some (.sc (.int k' b))) (hM:mkC? a b z0 = some M) (hz:A.R S.fz S.m z0 (slZ E t)) (hT:slTs E t A.sz = true) (hid:Nat.beq id 0 = false)
 (h:∀ v' S',Ch id S S'→Ow A S' id v' M→WO E loose fl lim ops os ((d,.sc v') :: l) S'.m S'.n K):WO E loose fl lim ops (⟨some d,.makeSlice t i i2,ty,pos,af,none⟩ :: os) l S.m S.n K:=⟨fun tt ht=>by
 have hid:id≠0:=fun e=>by subst e;cases hid
 obtain ⟨y,e,h1,h2,h3,h4,h5,h5',h6⟩:=slTs_ok hT
 unfold mkC? at hM
 split at hM
 ·rename_i ha
  cases hM
  have hz:A.R S.fz S.m z0 e.zero:=by simpa [slZ,h1,h3] using hz
  have hR:=RL.replicate hz b.toNat
  have hl:=hR.length
  rw [List.length_replicate] at hl
  have hR2:=RL.take a.toNat hR
  rw [List.take_replicate,Nat.min_eq_left (by omega)] at hR2
  obtain ⟨S',e1,e2,h7,h8⟩:=Ow.fresh (S:=S) (L:=List.replicate a.toNat z0) (cs:=(List.replicate b.toNat e.zero).flatten) (c:=b.toNat) (by rw [List.length_replicate];exact hR2) hid (by simp;omega) hl
  refine W_op2 (m':=S'.m) (n':=S'.n) ?_ ((h _ S' h7 h8).put ht)
  have:b * (e.bytes:Int)≤281474976710656:=by
   have h5:b * (e.bytes:Int)≤b * 256:=Int.mul_le_mul_of_nonneg_left (by omega) (by omega)
   omega
  simp only [opA,evK_ev ht hi,evK_ev ht hi2,makeSliceA,h1,h2,h3]
  rw [e1,e2]
  simp [ha,this,h4,h5]
  omega
 ·cases hM⟩
end rules
def Pv {α:Type} (A:Lay α) (n:Nat) (m:Mem) (b:Nat) (u:α):Prop:=b < n∧∃ cs,m.get b = some cs∧A.R (fun i=>i < n) m u cs
def Rp {α:Type} {fl:Nat} (A:Lay α) (S:Cx fl) (v:SV) (u:α):Prop:=∃ b cs,v = .ptr b 0∧S.fz b∧S.m.get b = some cs∧A.R S.fz S.m u cs
section rp
variable {α:Type} {A:Lay α} {fl k j b:Nat} {S S':Cx fl} {v:SV} {u:α} {m:Mem}
theorem Pv.rpS {n:Nat} {S:Cx n} (h:Pv A n m b u) (em:S.m = m) (hz:∀ i,i < n→S.fz i):Rp A S (.ptr b 0) u:=by
 subst em
 obtain ⟨h1,cs,h2,h3⟩:=h
 exact ⟨b,cs,rfl,hz b h1,h2,A.frame h3 fun i hi=>⟨hz i hi,rfl⟩⟩
theorem Rp.pv (h:Rp A S (.ptr b 0) u):Pv A S.n S.m b u:=by
 obtain ⟨b',cs,e,h1,h2,h3⟩:=h
 cases e
 exact ⟨h1.1,cs,h2,A.frame h3 fun i hi=>⟨hi.1,rfl⟩⟩
theorem Bk.pv {id:Nat} (h:Bk A S id (.ptr b 0) u):Pv A S.n S.m b u:=by
 obtain ⟨b',cs,e,_,h1,_,h2,h3⟩:=h
 cases e
 exact ⟨h1,cs,h2,A.frame h3 fun i hi=>⟨hi.1,rfl⟩⟩
theorem Rp.to (h:Rp A S v u) (c:Ch k S S') (hk:Nat.beq k 0 = false:=by rfl):Rp A S' v u:=by
 have hk:k≠0:=fun e=>by subst e;cases hk
 obtain ⟨b,cs,e,h1,h2,h3⟩:=h
 obtain ⟨q1,q2⟩:=fz_ch c hk b h1
 exact ⟨b,cs,e,q1,by rw [q2];exact h2,A.frame h3 (fz_ch c hk)⟩
theorem Rp.drop (h:Rp A S v u) (k:Nat):Rp A (S.drop k) v u:=by
 obtain ⟨b,cs,e,h1,h2,h3⟩:=h
 exact ⟨b,cs,e,(fz_drop k b h1).1,h2,A.frame h3 (fz_drop k)⟩
theorem Rp.ren (h:Rp A S v u) (k j:Nat) (hk:Nat.beq k 0 = false:=by rfl) (hj:Nat.beq j 0 = false:=by rfl):Rp A (S.ren k j) v u:=by
 have hk:k≠0:=fun e=>by subst e;cases hk
 have hj:j≠0:=fun e=>by subst e;cases hj
 obtain ⟨b,cs,e,h1,h2,h3⟩:=h
 exact ⟨b,cs,e,(fz_ren k j hk hj b h1).1,h2,A.frame h3 (fz_ren k j hk hj)⟩
end rp
section rules
variable {E:Env} {lo:List Nat} {fl:Nat} {loose:Nat→Bool} {lim:Option Nat} {ops:Array Oper} {os:List Oper}
variable {l:LE} {m:Mem} {n:Nat} {K:LE→Mem→Nat→Prop}
variable {d:Nat} {ty t:TypeId} {pos:String} {af:Array Edge} {x:Operand} {v:SV}
variable {α:Type} {A:Lay α} {S:Cx fl} {L:List α} {u:α} {s:SV} {id:Nat}
theorem WO.ldP {sz:Nat} {f:α→List SV} {hf:∀ a,(f a).length = sz} (hx:evK l x = some (.sc v)) (hs:Rp (Lay.flat sz f hf) S v u) (hc:(f u)[0]? = some s) (hT:oneT E t = true) (hl:limLe lim S.n = true)
 (h:WO E loose fl lim ops os ((d,.sc s) :: l) S.m S.n K):WO E loose fl lim ops (⟨some d,.load t x,ty,pos,af,none⟩ :: os) l S.m S.n K:=⟨fun tt ht=>by
 obtain ⟨y,h1,h2,h3,_⟩:=oneT_ok hT
 refine W_op2 ?_ (h.put ht)
 obtain ⟨b,cs,rfl,h4,h5,h6⟩:=hs
 have h6:cs = f u:=h6
 subst h6
 simp only [opA,evK_ev ht hx,loadA,limOk_of hl h4.1,if_true,h5,part,h1,h2,h3,or_self,if_false,hc,Option.map_some]⟩
end rules
structure Sp (cs cs':List SV) (o w:Nat):Prop where
 len:cs'.length = cs.length
 le:o + w≤cs.length
 lo:cs'.take o = cs.take o
 hi:cs'.drop (o + w) = cs.drop (o + w)
theorem Sp.refl {cs:List SV} {o w:Nat} (h:o + w≤cs.length):Sp cs cs o w:=⟨rfl,h,rfl,rfl⟩
theorem Sp.trans {a b c:List SV} {o w:Nat} (h:Sp a b o w) (k:Sp b c o w):Sp a c o w:=⟨k.len.trans h.len,h.le,k.lo.trans h.lo,k.hi.trans h.hi⟩
theorem Sp.wide {a b:List SV} {o w p q:Nat} (h:Sp a b (o + p) q) (h1:p + q≤w) (h2:o + w≤a.length):Sp a b o w where
 len:=h.len
 le:=h2
 lo:=by
  have:=congrArg (List.take o) h.lo
  rwa [List.take_take,List.take_take,Nat.min_eq_left (by omega)] at this
 hi:=by
  have:=congrArg (List.drop (o + w - (o + p + q))) h.hi
  rwa [List.drop_drop,List.drop_drop,show o + p + q + (o + w - (o + p + q)) = o + w from by omega] at this
theorem Sp.splice {cs c:List SV} {o:Nat} (h:o + c.length≤cs.length):Sp cs (splice cs o c) o c.length where
 len:=by simp only [Am.splice,List.length_append,List.length_take,List.length_drop];omega
 le:=h
 lo:=by
  unfold Am.splice
  rw [List.append_assoc,List.take_append_of_le_length (by rw [List.length_take];omega),List.take_take,Nat.min_self]
 hi:=by
  unfold Am.splice
  rw [List.drop_append,List.drop_of_length_le (by simp;omega),List.nil_append,List.length_append,List.length_take,Nat.min_eq_left (by omega),Nat.sub_self,List.drop_zero]
def Iv {α:Type} (A:Lay α) (fl n b:Nat) (m:Mem) (v:SV) (L:List α):Prop:=
 ((v = .nils∨v = .emp)∧L = []∧b = n)∨∃ o c cs,v = .sl b o L.length c A.sz∧L.length≤c∧fl≤b∧b < n∧m.get b = some cs∧o + L.length * A.sz≤cs.length∧RL A (fun i=>i < n∧i≠b) m L ((cs.drop o).take (L.length * A.sz))
def Ip {α:Type} (A:Lay α) (n b:Nat) (m m':Mem) (v:SV) (L:List α):Prop:=
 (∀ i,i < n→i≠b→m'.get i = m.get i)∧(((v = .nils∨v = .emp)∧L = []∧b = n)∨∃ o c cs cs',v = .sl b o L.length c A.sz∧m.get b = some cs∧m'.get b = some cs'∧Sp cs cs' o (L.length * A.sz)∧RL A (fun i=>i < n∧i≠b) m' L ((cs'.drop o).take (L.length * A.sz)))
def Iw {α:Type} {fl:Nat} (A:Lay α) (S:Cx fl) (k n b:Nat) (m:Mem) (v:SV) (L:List α):Prop:=
 (∀ i,i < n→i≠b→S.fz i∧S.m.get i = m.get i)∧n≤S.n∧(((v = .nils∨v = .emp)∧L = []∧b = n)∨∃ o c cs cs',v = .sl b o L.length c A.sz∧L.length≤c∧fl≤b∧b < n∧S.ow b = k∧m.get b = some cs∧S.m.get b = some cs'∧Sp cs cs' o (L.length * A.sz)∧RL A S.fz S.m L ((cs'.drop o).take (L.length * A.sz)))
def Vb {α:Type} (A:Lay α) (n b:Nat) (m:Mem) (v:SV) (L:List α):Prop:=RO A (fun i=>i < n∧i≠b) (fun i=>i < n∧i≠b) m v L
section iw
variable {α:Type} {A:Lay α} {fl k j n b:Nat} {S S':Cx fl} {v:SV} {L:List α} {m:Mem}
theorem Vb.rdS (h:Vb A n b m v L) (em:S.m = m) (hz:∀ i,i < n→i≠b→S.fz i):Rd A S v L:=by
 subst em
 exact RO.to h (fun i hi=>⟨hz i hi.1 hi.2,rfl⟩) (fun i hi=>⟨hz i hi.1 hi.2,rfl⟩)
theorem Iv.iw (h:Iv A fl n b m v L) (em:S.m = m) (en:S.n = n) (hz:∀ i,i < n→i≠b→S.fz i) (hb:S.ow b = k):Iw A S k n b m v L:=by
 subst em;subst en
 refine ⟨fun i h1 h2=>⟨hz i h1 h2,rfl⟩,Nat.le_refl _,?_⟩
 rcases h with h | ⟨o,c,cs,h1,h2,h3,h4,h5,h6,h7⟩
 ·exact .inl h
 ·exact .inr ⟨o,c,cs,cs,h1,h2,h3,h4,hb,h5,h5,Sp.refl h6,h7.frame fun i hi=>⟨hz i hi.1 hi.2,rfl⟩⟩
theorem Iw.ip (h:Iw A S k n b m v L) (hA:A.Fl):Ip A n b m S.m v L:=by
 obtain ⟨h0,hn,h⟩:=h
 refine ⟨fun i h1 h2=>(h0 i h1 h2).2,?_⟩
 rcases h with h | ⟨o,c,cs,cs',h1,h2,h3,h4,h5,h6,h7,h8,h9⟩
 ·exact .inl h
 ·exact .inr ⟨o,c,cs,cs',h1,h6,h7,h8,h9.fl hA⟩
theorem Iw.slv (h:Iw A S k n b m v L):SlV v A.sz L.length:=by
 rcases h.2.2 with ⟨h1,rfl,_⟩ | ⟨o,c,cs,cs',h1,h2,_⟩
 ·exact .inl ⟨h1,rfl⟩
 ·exact .inr ⟨b,o,c,h1,h2⟩
theorem Iw.wk (h:Iw A S k n b m v L):Wk A S k v L:=by
 obtain ⟨h0,hn,h⟩:=h
 rcases h with ⟨h1,h2,_⟩ | ⟨o,c,cs,cs',h1,h2,h3,h4,h5,h6,h7,h8,h9⟩
 ·exact .inl ⟨h1,h2⟩
 ·exact .inr ⟨b,o,c,cs',h1,h2,⟨by omega,h5⟩,h7,by rw [h8.len];exact h8.le,h9⟩
theorem Iw.ro (h:Iw A S k n b m v L):RO A (fun i=>i < S.n) S.fz S.m v L:=h.wk.ro
theorem Iw.oz (h:Iw A S k n b m v L):RO A (fun i=>i < S.n∧i < S.n∧S.ow i = k) S.fz S.m v L:=h.wk.oz
theorem Iw.vw (h:Iw A S k n b m v L):Vw A S.n S.m v L:=h.wk.vw
theorem Iw.to (h:Iw A S j n b m v L) (c:Ch k S S') (hk:Nat.beq k 0 = false:=by rfl) (hj:Nat.beq j k = false:=by rfl):Iw A S' j n b m v L:=by
 have hk:k≠0:=fun e=>by subst e;cases hk
 have hj:j≠k:=fun e=>by subst e;rw [show Nat.beq j j = true by simp] at hj;cases hj
 obtain ⟨h0,hn,h⟩:=h
 refine ⟨fun i h1 h2=>?_,Nat.le_trans hn c.n,?_⟩
 ·obtain ⟨h3,h4⟩:=h0 i h1 h2
  obtain ⟨h5,h6⟩:=fz_ch c hk i h3
  exact ⟨h5,h6.trans h4⟩
 ·rcases h with h | ⟨o,c',cs,cs',h1,h2,h3,h4,h5,h6,h7,h8,h9⟩
  ·exact .inl h
  ·obtain ⟨q1,q2⟩:=c.ow b (by omega) (by omega)
   exact .inr ⟨o,c',cs,cs',h1,h2,h3,h4,q1.trans h5,h6,q2.trans h7,h8,h9.frame (fz_ch c hk)⟩
theorem Iw.drop (h:Iw A S j n b m v L) (k:Nat) (hj:Nat.beq j k = false:=by rfl):Iw A (S.drop k) j n b m v L:=by
 have hj:j≠k:=fun e=>by subst e;rw [show Nat.beq j j = true by simp] at hj;cases hj
 obtain ⟨h0,hn,h⟩:=h
 refine ⟨fun i h1 h2=>⟨(fz_drop k i (h0 i h1 h2).1).1,(h0 i h1 h2).2⟩,hn,?_⟩
 rcases h with h | ⟨o,c',cs,cs',h1,h2,h3,h4,h5,h6,h7,h8,h9⟩
 ·exact .inl h
 ·exact .inr ⟨o,c',cs,cs',h1,h2,h3,h4,by simp only [Cx.drop];rw [if_neg (by omega)];exact h5,h6,h7,h8,h9.frame (fz_drop k)⟩
theorem Iw.renO {i:Nat} (h:Iw A S i n b m v L) (k j:Nat) (hk:Nat.beq k 0 = false:=by rfl) (hj:Nat.beq j 0 = false:=by rfl) (hik:Nat.beq i k = false:=by rfl) (hij:Nat.beq i j = false:=by rfl):Iw A (S.ren k j) i n b m v L:=by
 have hk:k≠0:=fun e=>by subst e;cases hk
 have hj:j≠0:=fun e=>by subst e;cases hj
 have hik:i≠k:=fun e=>by subst e;rw [show Nat.beq i i = true by simp] at hik;cases hik
 have hij:i≠j:=fun e=>by subst e;rw [show Nat.beq i i = true by simp] at hij;cases hij
 obtain ⟨h0,hn,h⟩:=h
 refine ⟨fun q h1 h2=>⟨(fz_ren k j hk hj q (h0 q h1 h2).1).1,(h0 q h1 h2).2⟩,hn,?_⟩
 rcases h with h | ⟨o,c',cs,cs',h1,h2,h3,h4,h5,h6,h7,h8,h9⟩
 ·exact .inl h
 ·exact .inr ⟨o,c',cs,cs',h1,h2,h3,h4,by simp only [Cx.ren];rw [if_neg (by omega),if_neg (by omega)];exact h5,h6,h7,h8,h9.frame (fz_ren k j hk hj)⟩
theorem drop_splice {cs c:List SV} {o p:Nat} (h:o + p≤cs.length):(splice cs (o + p) c).drop o = splice (cs.drop o) p c:=by
 unfold splice
 rw [List.append_assoc,List.append_assoc,List.drop_append_of_le_length (by rw [List.length_take];omega),List.drop_take,Nat.add_sub_cancel_left,List.drop_drop]
 congr 3;omega
theorem take_splice {cs c:List SV} {p w:Nat} (h:p + c.length≤cs.length) (hw:p + c.length≤w):(splice cs p c).take w = splice (cs.take w) p c:=by
 unfold splice
 rw [List.append_assoc,List.append_assoc,List.take_append,List.take_append,List.take_take,List.take_take,List.length_take,Nat.min_eq_left (by omega:p≤cs.length),List.drop_take,Nat.min_eq_right (by omega),Nat.min_eq_left (by omega),List.take_of_length_le (l:=c) (by omega)]
 congr 3;omega
theorem RL.win {cs c:List SV} {o i:Nat} {u:α} {z:Nat→Prop} (h:RL A z m L ((cs.drop o).take (L.length * A.sz))) (hi:i < L.length) (hle:o + L.length * A.sz≤cs.length) (hc:A.R z m u c):
 RL A z m (L.set i u) (((splice cs (o + i * A.sz) c).drop o).take (L.length * A.sz)):=by
 have hcl:=A.len hc
 have h1:i * A.sz + A.sz≤L.length * A.sz:=by
  have:(i + 1) * A.sz≤L.length * A.sz:=Nat.mul_le_mul_right _ hi
  rwa [Nat.add_mul,Nat.one_mul] at this
 have e:((splice cs (o + i * A.sz) c).drop o).take (L.length * A.sz) = splice ((cs.drop o).take (L.length * A.sz)) (i * A.sz) c:=by
  rw [drop_splice (by omega),take_splice (by rw [List.length_drop];omega) (by omega)]
 rw [e]
 exact h.set hi hc
theorem Iw.put {u:α} {i:Nat} {c:List SV} (h:Iw A S k n b m v L) (hi:i < L.length) (hc:A.R S.fz S.m u c) (hk:k≠0):
 ∃ o cap cs,v = .sl b o L.length cap A.sz∧fl≤b∧S.m.get b = some cs∧o + i * A.sz + c.length≤cs.length∧∃ S':Cx fl,S'.m = S.m.set b (splice cs (o + i * A.sz) c)∧S'.n = S.n∧Ch k S S'∧Iw A S' k n b m v (L.set i u):=by
 obtain ⟨h0,hn,h⟩:=h
 rcases h with ⟨_,rfl,_⟩ | ⟨o,cap,cs,cs',h1,h2,h3,h4,h5,h6,h7,h8,h9⟩
 ·simp at hi
 ·have hcl:=A.len hc
  have hle:i * A.sz + A.sz≤L.length * A.sz:=by
   have:(i + 1) * A.sz≤L.length * A.sz:=Nat.mul_le_mul_right _ hi
   rwa [Nat.add_mul,Nat.one_mul] at this
  have hlen:=h8.len
  have hle2:=h8.le
  have hin:o + i * A.sz + c.length≤cs'.length:=by omega
  have hch:Ch k S (⟨S.m.set b (splice cs' (o + i * A.sz) c),S.n,S.ow,S.le⟩:Cx fl):=⟨Nat.le_refl _,fun q hq hk=>⟨rfl,Tr.get_set_ne _ _ (fun e=>hk (by rw [e];exact h5))⟩⟩
  refine ⟨o,cap,cs',h1,h3,h7,hin,⟨S.m.set b (splice cs' (o + i * A.sz) c),S.n,S.ow,S.le⟩,rfl,rfl,hch,fun q h1 h2=>?_,hn,.inr ⟨o,cap,cs,_,by rw [List.length_set];exact h1,by rw [List.length_set];exact h2,h3,h4,h5,h6,Tr.get_set_same _ _ _,?_,?_⟩⟩
  ·exact ⟨(h0 q h1 h2).1,by rw [← (h0 q h1 h2).2];exact Tr.get_set_ne _ _ h2⟩
  ·rw [List.length_set]
   refine h8.trans ((Sp.splice hin).wide ?_ (by rw [hlen];exact hle2))
   omega
  ·rw [List.length_set]
   exact (RL.win h9 hi (by rw [hlen];exact hle2) hc).frame (fz_ch hch hk)
end iw
theorem WC.startI {E:Env} {lo:List Nat} {fl n b:Nat} {c:Code} {l:LE} {m:Mem} {Q:AE→LE→Mem→Nat→Prop} (hfl:fl≤n) (h:∀ S:Cx fl,S.m = m→S.n = n→(∀ i,i < n→i≠b→S.fz i)→S.ow b = 2→WC E lo fl c l S.m S.n Q):WC E lo fl c l m n Q:=
 h ⟨m,n,fun i=>if i = b then 2 else 0,hfl⟩ rfl rfl (fun i hi hb=>⟨hi,if_neg hb⟩) (if_pos rfl)
section rules
variable {E:Env} {lo:List Nat} {fl:Nat} {loose:Nat→Bool} {lim:Option Nat} {ops:Array Oper} {os:List Oper}
variable {l:LE} {m m0:Mem} {n n0:Nat} {K:LE→Mem→Nat→Prop}
variable {d:Nat} {ty t:TypeId} {pos:String} {af:Array Edge} {x y:Operand} {v w:SV} {k k':IntKind}
variable {α:Type} {A:Lay α} {S:Cx fl} {L L' M:List α} {j b:Nat} {id:Nat}
theorem WO.stI {g:α→SV} {u':α} (hx:evK l x = some (.sc (ptrAt v j 0))) (hy:evK l y = some (.sc (g u'))) (hs:Iw (Lay.one g) S id n0 b m0 v L) (hj:j < L.length) (hT:oneT E t = true) (hid:Nat.beq id 0 = false)
 (h:∀ S',Ch id S S'→Iw (Lay.one g) S' id n0 b m0 v (L.set j u')→WO E loose fl lim ops os l S'.m S'.n K):WO E loose fl lim ops (⟨none,.store t x y,ty,pos,af,none⟩ :: os) l S.m S.n K:=⟨fun tt ht=>by
 have hid:id≠0:=fun e=>by subst e;cases hid
 obtain ⟨z,h1,h2,h3,h4⟩:=oneT_ok hT
 obtain ⟨o,cap,cs,rfl,h5,h6,h7,S',e1,e2,h8,h9⟩:=hs.put (u:=u') (c:=[g u']) hj rfl hid
 refine W_op2 (v:=.tup []) (m':=S'.m) (n':=S'.n) ?_ ((h S' h8 h9).ok tt ht)
 have h7:o + j * 1 + 1≤cs.length:=h7
 have hsz:(Lay.one g).sz = 1:=rfl
 simp only [opA,orA,evK_ev ht hx,evK_ev ht hy,ptrAt,storeA,AV.cells?,h1,List.length_cons,List.length_nil,h4,h5,h6,true_and,Nat.zero_add,Nat.add_zero,if_true,hsz]
 rw [if_pos h7,← hsz,← e1,e2];rfl⟩
theorem WO.callI {f:Operand} {xs:Array Operand} {ats:Array TypeId} {g:Nat} {caps:List (Nat × Nat)} {args:List AV} {r:AV} (hs:Ow A S id v L) (hf:evK l f = some (.sc (.fn g caps))) (ha:xs.toList.mapM (evK l) = some args)
 (hr:∀ b,Iv A fl S.n b S.m v L→(∀ i,i < S.n→S.ow i≠id→i≠b)→Ret E fl g (args ++ caps.map fun p=>.sc (.ptr p.1 p.2)) S.m S.n (fun v' m' n'=>v' = r∧Ip A S.n b S.m m' v L')) (hA:A.Fl)
 (h:∀ S',Ch id S S'→Ow A S' id v L'→WO E loose fl lim ops os ((d,r) :: l) S'.m S'.n K) (hl:loose g = false:=by rfl):
 WO E loose fl lim ops (⟨some d,.call ⟨.value f,xs,ats⟩,ty,pos,af,none⟩ :: os) l S.m S.n K:=by
 have hS:=S.le
 refine WO.call hf ha ?_
 rw [hl];simp only [Bool.false_eq_true,if_false]
 rcases hs with ⟨rfl,rfl⟩ | ⟨b,c,cs,rfl,h2,h3,h4,h5,h6,h7,h8⟩
 ·refine (Ret.keeps (hr S.n (.inl ⟨.inl rfl,rfl,rfl⟩) (fun i hi _=>by omega))).mono ?_
  rintro v' m' n' ⟨⟨rfl,hp1,hp2⟩,hk⟩
  have hn:=hk.1
  rcases hp2 with ⟨_,rfl,_⟩ | ⟨o,c,cs,cs',e,_⟩
  ·exact h ⟨m',n',fun i=>if i < S.n then S.ow i else 0,by omega⟩ ⟨hn,fun i hi _=>⟨if_pos hi,hp1 i hi (by omega)⟩⟩ (.inl ⟨rfl,rfl⟩)
  ·cases e
 ·have hle:L.length * A.sz≤cs.length:=by rw [h7];exact Nat.mul_le_mul_right _ h5
  refine (Ret.keeps (hr b (.inr ⟨0,c,cs,rfl,h5,h2,h3,h6,by omega,by rw [List.drop_zero];exact h8.fl hA⟩) (fun i _ hi e=>hi (by rw [e];exact h4)))).mono ?_
  rintro v' m' n' ⟨⟨rfl,hp1,hp2⟩,hk⟩
  have hn:=hk.1
  rcases hp2 with ⟨e | e,_⟩ | ⟨o,c',cs1,cs',e,e1,e2,e3,e4⟩
  ·cases e
  ·cases e
  ·have hl:L'.length = L.length:=by injection e with _ _ a _ _;exact a.symm
   have ho:o = 0:=by injection e with _ a _ _ _;exact a.symm
   subst ho
   rw [h6] at e1;cases e1
   have hlen:=e3.len
   refine h ⟨m',n',fun i=>if i < S.n then S.ow i else 0,by omega⟩ ⟨hn,fun i hi hk=>⟨if_pos hi,hp1 i hi (fun e=>hk (by rw [e];exact h4))⟩⟩ (.inr ⟨b,c,cs',by rw [hl],h2,by simp only;omega,by simp only;rw [if_pos h3];exact h4,by rw [hl];exact h5,e2,by rw [hlen];exact h7,?_⟩)
   rw [List.drop_zero] at e4
   exact e4.fl hA
def Sb (v w:SV) (sz lo k:Nat):Prop:=((w = .nils∨w = .emp)∧k = 0)∨∃ b o n c c',v = .sl b o n c sz∧w = .sl b (o + lo * sz) k c' sz∧lo + k≤n∧k≤c'
theorem WO.slcB {zo zi:Nat→Prop} {lo' hi':Int} {lo1 hi1:Option Operand} (hx:evK l x = some (.sc v)) (hlo:(∃ y,lo1 = some y∧evK l y = some (.sc (.int k lo')))∨lo1 = none∧lo' = 0) (hhi:(∃ y,hi1 = some y∧evK l y = some (.sc (.int k' hi')))∨hi1 = none∧hi' = L.length)
 (hs:RO A zo zi m v L) (hM:sub? L lo' hi' = some M) (hT:slTs E t A.sz = true)
 (h:∀ w,RO A zo zi m w M→Sb v w A.sz lo'.toNat M.length→WO E loose fl lim ops os ((d,.sc w) :: l) m n K):WO E loose fl lim ops (⟨some d,.slice t x lo1 hi1 none,ty,pos,af,none⟩ :: os) l m n K:=⟨fun tt ht=>by
 obtain ⟨yt,e,h1,h2,h3,h4,_⟩:=slTs_ok hT
 have hlo':lo1.map (St.ev ⟨tt,m,n⟩) = some (.sc (.int k lo'))∨lo1.map (St.ev ⟨tt,m,n⟩) = none∧lo' = 0:=by
  rcases hlo with ⟨y,rfl,hy⟩ | ⟨rfl,h0⟩
  ·exact .inl (by rw [Option.map_some,evK_ev ht hy])
  ·exact .inr ⟨rfl,h0⟩
 have hhi':hi1.map (St.ev ⟨tt,m,n⟩) = some (.sc (.int k' hi'))∨hi1.map (St.ev ⟨tt,m,n⟩) = none∧hi' = L.length:=by
  rcases hhi with ⟨y,rfl,hy⟩ | ⟨rfl,h0⟩
  ·exact .inl (by rw [Option.map_some,evK_ev ht hy])
  ·exact .inr ⟨rfl,h0⟩
 obtain ⟨w,q1,q2⟩:=RO.sub (t:=t) hs hM h1 h2 h3 h4 _ _ hlo' hhi'
 have hsb:Sb v w A.sz lo'.toNat M.length:=by
  obtain ⟨⟨b1,b2,b3⟩,hMe⟩:=sub?_some hM
  have hml:M.length = hi'.toNat - lo'.toNat:=by rw [hMe,List.length_drop,List.length_take];omega
  rcases q2 with ⟨q3,q4⟩ | ⟨i,o,c,cs,rfl,q3,q4,_⟩
  ·exact .inl ⟨q3,by rw [q4];rfl⟩
  ·rcases hs with ⟨hv,rfl⟩ | ⟨i2,o2,c2,cs2,rfl,p2,p3,p4,p5,p6⟩
   ·exfalso
    simp at b3
    have e1:lo' = 0:=by omega
    have e2:hi' = 0:=by omega
    subst e1;subst e2
    have hb:∀ (o:Option AV) (k:IntKind),(o = some (.sc (.int k 0))∨o = none)→boundA o 0 0 = some 0:=by
     rintro o k (rfl | rfl) <;> simp [boundA]
    rcases hv with hv | hv
    ·subst hv
     simp only [sliceA,h1,h2,h3] at q1
     rw [hb _ k' (hhi'.imp id (·.1)),hb _ k (hlo'.imp id (·.1))] at q1
     simp at q1
    ·subst hv
     simp only [sliceA,h1,h2,h3] at q1
     rw [hb _ k' (hhi'.imp id (·.1)),hb _ k (hlo'.imp id (·.1))] at q1
     simp at q1
   ·right
    have hb1:boundA (hi1.map (St.ev ⟨tt,m,n⟩)) L.length c2 = some hi'.toNat:=by
     rcases hhi' with e | ⟨e,rfl⟩
     ·rw [e];simp only [boundA];rw [if_pos (by omega)]
     ·rw [e];simp [boundA]
    have hb2:boundA (lo1.map (St.ev ⟨tt,m,n⟩)) 0 hi'.toNat = some lo'.toNat:=by
     rcases hlo' with e | ⟨e,rfl⟩
     ·rw [e];simp only [boundA];rw [if_pos (by omega)]
     ·rw [e];simp [boundA]
    simp only [sliceA,h1,h2,h3,h4,Option.map_some] at q1
    have hb0:boundA none c2 c2 = some c2:=rfl
    simp only [hb0,hb1,hb2] at q1
    split at q1
    ·cases q1
    ·split at q1
     ·simp only [Option.some.injEq,AV.sc.injEq,SV.sl.injEq] at q1
      obtain ⟨r1,r2,r3,r4,r5⟩:=q1
      exact ⟨i,o2,L.length,c2,c,by rw [← r1],by rw [← r2],by omega,q3⟩
     ·simp at q1
 refine W_op2 ?_ ((h w q2 hsb).put ht)
 simp only [opA,orA,evK_ev ht hx,Option.map_none,q1,Option.map_some]⟩
variable {y1 y2 y3:Operand} {k'':IntKind} {o ln c sz q:Nat} {i jj hh:Int} {cs new:List SV}
theorem WO.slH3 (hx:evK l x = some (.sc (.sl b o ln c sz))) (hlo:evK l y1 = some (.sc (.int k i))) (hhi:evK l y2 = some (.sc (.int k' jj))) (hmx:evK l y3 = some (.sc (.int k'' hh))) (h1:0≤i∧i≤jj∧jj≤hh∧hh≤c) (hT:slTs E t sz = true)
 (h:∀ w,WO E loose fl lim ops os ((d,.sc w) :: l) m n K):WO E loose fl lim ops (⟨some d,.slice t x (some y1) (some y2) (some y3),ty,pos,af,none⟩ :: os) l m n K:=⟨fun tt ht=>by
 obtain ⟨yt,e,e1,e2,e3,e4,_⟩:=slTs_ok hT
 have key:∃ w,sliceA E t (.sc (.sl b o ln c sz)) (some (.sc (.int k i))) (some (.sc (.int k' jj))) (some (.sc (.int k'' hh))) = some (.sc w):=by
  simp only [sliceA,e1,e2,e3,e4,Option.map_some,boundA]
  rw [if_pos (show 0≤hh∧hh≤(c:Int) from by omega)]
  simp only
  rw [if_pos (show 0≤jj∧jj≤((hh.toNat:Nat):Int) from by omega)]
  simp only
  rw [if_pos (show 0≤i∧i≤((jj.toNat:Nat):Int) from by omega)]
  simp only
  by_cases hq:i.toNat < hh.toNat∨i.toNat = 0
  ·rw [if_pos hq];exact ⟨_,by simp;rfl⟩
  ·rw [if_neg hq];exact ⟨_,by simp;rfl⟩
 obtain ⟨w,hw⟩:=key
 refine W_op2 ?_ ((h w).put ht)
 simp only [opA,orA,evK_ev ht hx,evK_ev ht hlo,evK_ev ht hhi,evK_ev ht hmx,Option.map_some,hw]⟩
theorem WO.slHto (hx:evK l x = some (.sc (.sl b o ln c sz))) (hhi:evK l y2 = some (.sc (.int k' jj))) (h1:0≤jj∧jj≤c) (hT:slTs E t sz = true)
 (h:WO E loose fl lim ops os ((d,.sc (.sl b o jj.toNat c sz)) :: l) m n K):WO E loose fl lim ops (⟨some d,.slice t x none (some y2) none,ty,pos,af,none⟩ :: os) l m n K:=⟨fun tt ht=>by
 obtain ⟨yt,e,e1,e2,e3,e4,_⟩:=slTs_ok hT
 refine W_op2 ?_ (h.put ht)
 have key:sliceA E t (.sc (.sl b o ln c sz)) none (some (.sc (.int k' jj))) none = some (.sc (.sl b o jj.toNat c sz)):=by
  simp only [sliceA,e1,e2,e3,e4,Option.map_some,boundA]
  rw [if_pos (show 0≤jj∧jj≤(c:Int) from by omega)]
  simp
 simp only [opA,orA,evK_ev ht hx,evK_ev ht hhi,Option.map_some,Option.map_none,key]⟩
theorem WO.slHmid (hx:evK l x = some (.sc (.sl b o ln c sz))) (hlo:evK l y1 = some (.sc (.int k i))) (hhi:evK l y2 = some (.sc (.int k' jj))) (h1:0≤i∧i≤jj∧jj≤c∧i < c) (hT:slTs E t sz = true)
 (h:WO E loose fl lim ops os ((d,.sc (.sl b (o + i.toNat * sz) (jj.toNat - i.toNat) (c - i.toNat) sz)) :: l) m n K):WO E loose fl lim ops (⟨some d,.slice t x (some y1) (some y2) none,ty,pos,af,none⟩ :: os) l m n K:=⟨fun tt ht=>by
 obtain ⟨yt,e,e1,e2,e3,e4,_⟩:=slTs_ok hT
 refine W_op2 ?_ (h.put ht)
 have key:sliceA E t (.sc (.sl b o ln c sz)) (some (.sc (.int k i))) (some (.sc (.int k' jj))) none = some (.sc (.sl b (o + i.toNat * sz) (jj.toNat - i.toNat) (c - i.toNat) sz)):=by
  simp only [sliceA,e1,e2,e3,e4,Option.map_some,boundA]
  rw [if_pos (show 0≤jj∧jj≤(c:Int) from by omega)]
  simp only
  rw [if_pos (show 0≤i∧i≤((jj.toNat:Nat):Int) from by omega)]
  simp only
  rw [if_pos (show i.toNat < c∨i.toNat = 0 from by omega)]
  simp
 simp only [opA,orA,evK_ev ht hx,evK_ev ht hlo,evK_ev ht hhi,Option.map_some,Option.map_none,key]⟩
theorem WO.slHfrom (hx:evK l x = some (.sc (.sl b o ln c sz))) (hlo:evK l y1 = some (.sc (.int k i))) (h1:0≤i∧i≤ln∧ln≤c) (hm:m.get b = some cs) (hle:o + ln * sz≤cs.length) (hT:slTs E t sz = true)
 (h:∀ w,elemsA m (.sc w) sz = some ((cs.drop (o + i.toNat * sz)).take ((ln - i.toNat) * sz),ln - i.toNat)→WO E loose fl lim ops os ((d,.sc w) :: l) m n K):WO E loose fl lim ops (⟨some d,.slice t x (some y1) none none,ty,pos,af,none⟩ :: os) l m n K:=⟨fun tt ht=>by
 obtain ⟨yt,e,e1,e2,e3,e4,_⟩:=slTs_ok hT
 have h2:i.toNat * sz + (ln - i.toNat) * sz = ln * sz:=by rw [← Nat.add_mul];congr 1;omega
 have key:∃ w,sliceA E t (.sc (.sl b o ln c sz)) (some (.sc (.int k i))) none none = some (.sc w)∧elemsA m (.sc w) sz = some ((cs.drop (o + i.toNat * sz)).take ((ln - i.toNat) * sz),ln - i.toNat):=by
  simp only [sliceA,e1,e2,e3,e4,Option.map_some,boundA]
  rw [if_pos (show 0≤i∧i≤(ln:Int) from by omega)]
  simp only
  by_cases hq:i.toNat < c∨i.toNat = 0
  ·rw [if_pos hq]
   refine ⟨.sl b (o + i.toNat * sz) (ln - i.toNat) (c - i.toNat) sz,by simp,?_⟩
   simp only [elemsA,hm]
   rw [if_neg (by simp),if_pos (by omega)]
  ·rw [if_neg hq]
   refine ⟨.emp,by simp,?_⟩
   have:ln - i.toNat = 0:=by omega
   rw [this,Nat.zero_mul,List.take_zero]
   rfl
 obtain ⟨w,hw,hw2⟩:=key
 refine W_op2 ?_ ((h w hw2).put ht)
 simp only [opA,orA,evK_ev ht hx,evK_ev ht hlo,Option.map_some,Option.map_none,hw]⟩
theorem WO.clrH (hx:evK l x = some (.sc (.sl b o ln c sz))) (hm:m.get b = some cs) (hle:o + ln * sz≤cs.length) (hfl:fl≤b) (hT:slTs E t sz = true)
 (h:∀ z:List SV,z.length = ln * sz→WO E loose fl lim ops os l (m.set b (splice cs o z)) n K):WO E loose fl lim ops (⟨none,.call ⟨.builtin .clear,#[x],#[t]⟩,ty,pos,af,none⟩ :: os) l m n K:=⟨fun tt ht=>by
 obtain ⟨yt,e,e1,e2,e3,e4,e5,e6,e7⟩:=slTs_ok hT
 refine W_op2 (v:=.tup []) (m':=m.set b (splice cs o (List.replicate ln e.zero).flatten)) (n':=n) ?_ ((h _ (by simp [e5])).ok tt ht)
 have key:clearA E fl t (.sc (.sl b o ln c sz)) m n = some (.tup [],m.set b (splice cs o (List.replicate ln e.zero).flatten),n):=by
  simp only [clearA,e1,e2,e3,e4]
  rw [if_neg (by simp),if_neg (by rw [e5];simp)]
  rw [if_neg (by simp;omega),hm]
  try simp only
  rw [if_pos hle]
 simp only [opA,orA,callA,builtinA,List.map_cons,List.map_nil,evK_ev ht hx]
 simp [key]⟩
def Ov {α:Type} (A:Lay α) (fl n b:Nat) (m:Mem) (v:SV) (L:List α):Prop:=
 ∃ c cs,v = .sl b 0 L.length c A.sz∧L.length≤c∧fl≤b∧b < n∧m.get b = some cs∧cs.length = c * A.sz∧RL A (fun i=>i < n∧i≠b) m L (cs.take (L.length * A.sz))
def Oq {α:Type} (A:Lay α) (n b:Nat) (m m':Mem) (w:SV) (M:List α):Prop:=
 (∀ i,i < n→i≠b→m'.get i = m.get i)∧∃ c cs,w = .sl b 0 M.length c A.sz∧M.length≤c∧m'.get b = some cs∧cs.length = c * A.sz∧RL A (fun i=>i < n∧i≠b) m' M (cs.take (M.length * A.sz))
theorem WO.callO {f:Operand} {xs:Array Operand} {ats:Array TypeId} {g:Nat} {caps:List (Nat × Nat)} {args:List AV} (hs:Ow A S id v L) (hne:0 < L.length) (hf:evK l f = some (.sc (.fn g caps))) (ha:xs.toList.mapM (evK l) = some args)
 (hr:∀ b,Ov A fl S.n b S.m v L→Ret E fl g (args ++ caps.map fun p=>.sc (.ptr p.1 p.2)) S.m S.n (fun v' m' n'=>∃ w,v' = .sc w∧Oq A S.n b S.m m' w M)) (hA:A.Fl)
 (h:∀ w S',Ch id S S'→Ow A S' id w M→WO E loose fl lim ops os ((d,.sc w) :: l) S'.m S'.n K) (hl:loose g = false:=by rfl):
 WO E loose fl lim ops (⟨some d,.call ⟨.value f,xs,ats⟩,ty,pos,af,none⟩ :: os) l S.m S.n K:=by
 have hS:=S.le
 refine WO.call hf ha ?_
 rw [hl];simp only [Bool.false_eq_true,if_false]
 rcases hs with ⟨rfl,rfl⟩ | ⟨b,c,cs,rfl,h2,h3,h4,h5,h6,h7,h8⟩
 ·simp at hne
 ·refine (Ret.keeps (hr b ⟨c,cs,rfl,h5,h2,h3,h6,h7,h8.fl hA⟩)).mono ?_
  rintro v' m' n' ⟨⟨w,rfl,hp1,c',cs',rfl,e1,e2,e3,e4⟩,hk⟩
  have hn:=hk.1
  exact h _ ⟨m',n',fun i=>if i < S.n then S.ow i else 0,by omega⟩ ⟨hn,fun i hi hk=>⟨if_pos hi,hp1 i hi (fun e=>hk (by rw [e];exact h4))⟩⟩ (.inr ⟨b,c',cs',rfl,h2,by simp only;omega,by simp only;rw [if_pos h3];exact h4,e1,e2,e3,e4.fl hA⟩)
end rules
def SV.blk:SV→Option Nat
 | .sl b _ _ _ _=>some b
 | .ptr b _=>some b
 | _=>none
abbrev LH:Lay SV:=Lay.one id
structure Fam {α:Type} {fl:Nat} (A:Lay α) (S:Cx fl) (r:Nat) (H:List SV) (L:List (List α)) (hole:Option Nat):Prop where
 len:H.length = L.length
 row:∀ (i:Nat) (w:SV) (R:List α),hole≠some i→H[i]? = some w→L[i]? = some R→Ow A S r w R
 sep:∀ (i j:Nat) (w w':SV) (b:Nat),i≠j→hole≠some i→hole≠some j→H[i]? = some w→H[j]? = some w'→w.blk = some b→w'.blk≠some b
def Cx.mg {fl:Nat} (S:Cx fl) (j r:Nat):Cx fl:=⟨S.m,S.n,fun i=>if S.ow i = j then r else S.ow i,S.le⟩
section fam
variable {α:Type} {A:Lay α} {fl k r j i:Nat} {S S':Cx fl} {v w:SV} {H:List SV} {L:List (List α)} {R:List α} {hole:Option Nat}
theorem nb {a b:Nat} (h:Nat.beq a b = false):a≠b:=fun e=>by subst e;rw [show Nat.beq a a = true by simp] at h;cases h
theorem Ow.blk_ow (h:Ow A S k v R) {b:Nat} (hb:v.blk = some b):S.ow b = k∧b < S.n:=by
 rcases h with ⟨rfl,_⟩ | ⟨b',c,cs,rfl,_,h3,h4,_⟩
 ·cases hb
 ·cases hb;exact ⟨h4,h3⟩
theorem Ow.re {S':Cx fl} (h:Ow A S k v R) (em:S'.m = S.m) (en:S'.n = S.n) (hb:∀ b,v.blk = some b→S'.ow b = j) (hz:∀ i,S.fz i→S'.fz i):Ow A S' j v R:=by
 rcases h with h | ⟨b,c,cs,rfl,h2,h3,h4,h5,h6,h7,h8⟩
 ·exact .inl h
 ·exact .inr ⟨b,c,cs,rfl,h2,by rw [en];exact h3,hb b rfl,h5,by rw [em];exact h6,h7,h8.frame fun i hi=>⟨hz i hi,by rw [em]⟩⟩
theorem Fam.nil:Fam A S r [] ([]:List (List α)) none:=⟨rfl,fun i w R _ h=>by simp at h,fun i j w w' b _ _ _ h=>by simp at h⟩
theorem Fam.to (h:Fam A S r H L hole) (c:Ch k S S') (hk:Nat.beq k 0 = false:=by rfl) (hr:Nat.beq r k = false:=by rfl):Fam A S' r H L hole:=
 ⟨h.len,fun i w R h1 h2 h3=>(h.row i w R h1 h2 h3).to c hk hr,h.sep⟩
theorem Fam.drop (h:Fam A S r H L hole) (k:Nat) (hr:Nat.beq r k = false:=by rfl):Fam A (S.drop k) r H L hole:=
 ⟨h.len,fun i w R h1 h2 h3=>(h.row i w R h1 h2 h3).drop k hr,h.sep⟩
theorem Fam.renO (h:Fam A S r H L hole) (k j:Nat) (hk:Nat.beq k 0 = false:=by rfl) (hj:Nat.beq j 0 = false:=by rfl) (hik:Nat.beq r k = false:=by rfl) (hij:Nat.beq r j = false:=by rfl):Fam A (S.ren k j) r H L hole:=
 ⟨h.len,fun i w R h1 h2 h3=>(h.row i w R h1 h2 h3).renO k j hk hj hik hij,h.sep⟩
theorem Fam.ren (h:Fam A S r H L hole) (j:Nat) (hk:Nat.beq r 0 = false:=by rfl) (hj:Nat.beq j 0 = false:=by rfl):Fam A (S.ren r j) j H L hole:=
 ⟨h.len,fun i w R h1 h2 h3=>(h.row i w R h1 h2 h3).ren j hk hj,h.sep⟩
theorem Cx.mg_ch (S:Cx fl) (j r:Nat):Ch j S (S.mg j r):=⟨Nat.le_refl _,fun i _ hk=>⟨by simp only [Cx.mg];rw [if_neg hk],rfl⟩⟩
theorem Fam.open (h:Fam A S r H L none) (hw:H[i]? = some w) (hR:L[i]? = some R) (hr:r≠0) (hj:j≠0):
 ∃ S1:Cx fl,S1.m = S.m∧S1.n = S.n∧Ch r S S1∧Ow A S1 j w R∧Fam A S1 r H L (some i):=by
 have hi:=h.row i w R (by simp) hw hR
 have hz:∀ q,S.fz q→(⟨S.m,S.n,fun q=>if w.blk = some q then j else S.ow q,S.le⟩:Cx fl).fz q:=fun q ⟨h1,h2⟩=>⟨h1,by
  simp only
  rw [if_neg (fun e=>hr (by rw [← (hi.blk_ow e).1,h2]))];exact h2⟩
 refine ⟨⟨S.m,S.n,fun q=>if w.blk = some q then j else S.ow q,S.le⟩,rfl,rfl,⟨Nat.le_refl _,fun q _ hk=>⟨by simp only;rw [if_neg (fun e=>hk (hi.blk_ow e).1)],rfl⟩⟩,hi.re rfl rfl (fun b hb=>by simp only;rw [if_pos hb]) hz,h.len,?_,fun a c w w' b hac _ _=>h.sep a c w w' b hac (by simp) (by simp)⟩
 intro a w' R' ha hw' hR'
 have:=h.row a w' R' (by simp) hw' hR'
 exact this.re rfl rfl (fun b hb=>by simp only;rw [if_neg (fun e=>h.sep i a w w' b (fun e=>ha (by rw [e])) (by simp) (by simp) hw hw' e hb)];exact (this.blk_ow hb).1) hz
theorem Fam.any (h:Fam A S r H L none) (i:Nat):Fam A S r H L (some i):=⟨h.len,fun a w R _=>h.row a w R (by simp),fun a c w w' b hac _ _=>h.sep a c w w' b hac (by simp) (by simp)⟩
theorem Fam.nils (n:Nat):Fam A S r (List.replicate n .nils) (List.replicate n ([]:List α)) none:=by
 refine ⟨by simp,?_,?_⟩
 ·intro i w R _ h1 h2
  rw [List.getElem?_replicate] at h1 h2
  split at h1
  ·rename_i h;rw [if_pos h] at h2;cases h1;cases h2;exact Ow.nil
  ·cases h1
 ·intro i j w w' b _ _ _ h1 _ hb
  rw [List.getElem?_replicate] at h1
  split at h1
  ·cases h1;cases hb
  ·cases h1
end fam
def Tw {α:Type} {fl:Nat} (A:Lay α) (S:Cx fl) (k r:Nat) (v:SV) (L:List (List α)):Prop:=∃ H,Ow LH S k v H∧Fam A S r H L none
def Th {α:Type} {fl:Nat} (A:Lay α) (S:Cx fl) (k r:Nat) (v:SV) (L:List (List α)) (i:Nat) (w:SV):Prop:=∃ H,Ow LH S k v H∧Fam A S r H L (some i)∧H[i]? = some w
section tw
variable {α:Type} {A:Lay α} {fl k r j i n0:Nat} {S S':Cx fl} {v w:SV} {H:List SV} {L M:List (List α)} {R:List α}
theorem Tw.nil:Tw A S k r .nils ([]:List (List α)):=⟨[],.inl ⟨rfl,rfl⟩,Fam.nil⟩
theorem Tw.to (h:Tw A S k r v L) (c:Ch j S S') (hj:Nat.beq j 0 = false:=by rfl) (hk:Nat.beq k j = false:=by rfl) (hr:Nat.beq r j = false:=by rfl):Tw A S' k r v L:=by
 obtain ⟨H,h1,h2⟩:=h;exact ⟨H,h1.to c hj hk,h2.to c hj hr⟩
theorem Th.to (h:Th A S k r v L i w) (c:Ch j S S') (hj:Nat.beq j 0 = false:=by rfl) (hk:Nat.beq k j = false:=by rfl) (hr:Nat.beq r j = false:=by rfl):Th A S' k r v L i w:=by
 obtain ⟨H,h1,h2,h3⟩:=h;exact ⟨H,h1.to c hj hk,h2.to c hj hr,h3⟩
theorem Tw.drop (h:Tw A S k r v L) (j:Nat) (hk:Nat.beq k j = false:=by rfl) (hr:Nat.beq r j = false:=by rfl):Tw A (S.drop j) k r v L:=by
 obtain ⟨H,h1,h2⟩:=h;exact ⟨H,h1.drop j hk,h2.drop j hr⟩
theorem Th.drop (h:Th A S k r v L i w) (j:Nat) (hk:Nat.beq k j = false:=by rfl) (hr:Nat.beq r j = false:=by rfl):Th A (S.drop j) k r v L i w:=by
 obtain ⟨H,h1,h2,h3⟩:=h;exact ⟨H,h1.drop j hk,h2.drop j hr,h3⟩
theorem Tw.renO (h:Tw A S k r v L) (p q:Nat) (hp:Nat.beq p 0 = false:=by rfl) (hq:Nat.beq q 0 = false:=by rfl) (h1:Nat.beq k p = false:=by rfl) (h2:Nat.beq k q = false:=by rfl) (h3:Nat.beq r p = false:=by rfl) (h4:Nat.beq r q = false:=by rfl):Tw A (S.ren p q) k r v L:=by
 obtain ⟨H,g1,g2⟩:=h;exact ⟨H,g1.renO p q hp hq h1 h2,g2.renO p q hp hq h3 h4⟩
theorem Th.renO (h:Th A S k r v L i w) (p q:Nat) (hp:Nat.beq p 0 = false:=by rfl) (hq:Nat.beq q 0 = false:=by rfl) (h1:Nat.beq k p = false:=by rfl) (h2:Nat.beq k q = false:=by rfl) (h3:Nat.beq r p = false:=by rfl) (h4:Nat.beq r q = false:=by rfl):Th A (S.ren p q) k r v L i w:=by
 obtain ⟨H,g1,g2,g3⟩:=h;exact ⟨H,g1.renO p q hp hq h1 h2,g2.renO p q hp hq h3 h4,g3⟩
theorem Tw.ren (h:Tw A S k r v L) (k' r':Nat) (e1:Nat.beq k 0 = false:=by rfl) (e2:Nat.beq r 0 = false:=by rfl) (e3:Nat.beq k' 0 = false:=by rfl) (e4:Nat.beq r' 0 = false:=by rfl)
 (e5:Nat.beq r k = false:=by rfl) (e6:Nat.beq r k' = false:=by rfl) (e7:Nat.beq k' r = false:=by rfl) (e8:Nat.beq k' r' = false:=by rfl):Tw A ((S.ren k k').ren r r') k' r' v L:=by
 obtain ⟨H,g1,g2⟩:=h;exact ⟨H,(g1.ren k' e1 e3).renO r r' e2 e4 e7 e8,(g2.renO k k' e1 e3 e5 e6).ren r' e2 e4⟩
theorem Tw.slv (h:Tw A S k r v L):SlV v 1 L.length:=by
 obtain ⟨H,h1,h2⟩:=h
 have:=h1.slv;rwa [h2.len] at this
theorem Th.slv (h:Th A S k r v L i w):SlV v 1 L.length:=by
 obtain ⟨H,h1,h2,_⟩:=h
 have:=h1.slv;rwa [h2.len] at this
def Lt (v:SV) (n:Nat):Prop:=∀ b,v.blk = some b→b < n
theorem Tw.lt (h:Tw A S k r v L):Lt v S.n:=by
 obtain ⟨H,h1,h2⟩:=h;exact fun b hb=>(h1.blk_ow hb).2
theorem Th.lt (h:Th A S k r v L i w):Lt v S.n:=by
 obtain ⟨H,h1,h2,_⟩:=h;exact fun b hb=>(h1.blk_ow hb).2
theorem Ow.lt {β:Type} {B:Lay β} {Q:List β} (h:Ow B S k v Q):Lt v S.n:=fun b hb=>(h.blk_ow hb).2
theorem Tw.take (h:Tw A S k r v L) (hR:L[i]? = some R) (j:Nat) (hr:Nat.beq r 0 = false:=by rfl) (hj:Nat.beq j 0 = false:=by rfl) (hkr:Nat.beq k r = false:=by rfl):
 ∃ w,∃ S1:Cx fl,S1.m = S.m∧S1.n = S.n∧Ch r S S1∧Ow A S1 j w R∧Th A S1 k r v L i w:=by
 obtain ⟨H,h1,h2⟩:=h
 have hi:=(List.getElem?_eq_some_iff.1 hR).1
 have hw:H[i]? = some (H[i]'(by rw [h2.len];exact hi)):=List.getElem?_eq_getElem _
 obtain ⟨S1,e1,e2,hc,ho,hf⟩:=h2.open hw hR (nb hr) (nb hj)
 exact ⟨_,S1,e1,e2,hc,ho,H,h1.to hc hr hkr,hf,hw⟩
theorem Tw.rl (h:Fam A S r H L none):∀ {z:Nat→Prop},(∀ i,i < S.n∧(S.ow i = r∨S.ow i = 0)→z i)→RL (Lay.sl A) z S.m L (H.map id):=by
 intro z hz
 obtain ⟨hlen,hrow,hsep⟩:=h
 clear hsep
 induction H generalizing L with
 | nil=>cases L with
  | nil=>rfl
  | cons=>simp at hlen
 | cons w H ih=>cases L with
  | nil=>simp at hlen
  | cons R L=>
   refine ⟨[w],H.map id,rfl,⟨w,rfl,?_⟩,ih (by simpa using hlen) fun i w R h0 h1 h2=>hrow (i + 1) w R (by simp) (by simpa using h1) (by simpa using h2)⟩
   have h0:=hrow 0 w R (by simp) rfl rfl
   rcases h0 with ⟨h1,h2⟩ | ⟨b,c,cs,h1,h2,h3,h4,h5,h6,h7,h8⟩
   ·exact .inl ⟨.inl h1,h2⟩
   ·refine .inr ⟨b,0,c,cs,h1,h5,hz b ⟨h3,.inl h4⟩,h6,by rw [h7];simpa using Nat.mul_le_mul_right _ h5,?_⟩
    have:RL A S.fz S.m R ((cs.drop 0).take (R.length * A.sz)):=by simpa using h8
    exact this.frame fun i hi=>⟨hz i ⟨hi.1,.inr hi.2⟩,rfl⟩
theorem Tw.ro (h:Tw A S k r v L) {zo zi:Nat→Prop} (ho:∀ b,b < S.n∧S.ow b = k→zo b) (hi:∀ i,i < S.n∧(S.ow i = r∨S.ow i = 0)→zi i):RO (Lay.sl A) zo zi S.m v L:=by
 obtain ⟨H,h1,h2⟩:=h
 have hR:=Tw.rl h2 hi
 have hlen:=h2.len
 rcases h1 with ⟨h3,rfl⟩ | ⟨b,c,cs,h3,h4,h5,h6,h7,h8,h9,h10⟩
 ·refine .inl ⟨.inl h3,?_⟩
  apply List.eq_nil_of_length_eq_zero;rw [← hlen];rfl
 ·have e:=h10.flat1
  refine .inr ⟨b,0,c,cs,by rw [h3,hlen];rfl,by rw [← hlen];exact h7,ho b ⟨h5,h6⟩,h8,?_,?_⟩
  ·show 0 + L.length * 1≤cs.length
   have h9:cs.length = c * 1:=h9
   omega
  ·have e2:List.take (L.length * (Lay.sl A).sz) (List.drop 0 cs) = H.map id:=by
    rw [List.drop_zero,← hlen];exact e
   rw [e2];exact hR
theorem Tw.vw (h:Tw A S k r v L):Vw (Lay.sl A) S.n S.m v L:=h.ro (fun _ h=>h.1) (fun _ h=>h.1)
theorem Tw.freeze (h:Tw A S k r v L):Rd (Lay.sl A) ((S.drop k).drop r) v L:=by
 have:=h.ro (zo:=((S.drop k).drop r).fz) (zi:=((S.drop k).drop r).fz) (fun b hb=>⟨hb.1,by show (if (if S.ow b = k then 0 else S.ow b) = r then 0 else (if S.ow b = k then 0 else S.ow b)) = 0;simp [hb.2]⟩) (fun i hi=>⟨hi.1,by
  show (if (if S.ow i = k then 0 else S.ow i) = r then 0 else (if S.ow i = k then 0 else S.ow i)) = 0
  rcases hi.2 with h | h
  ·rw [h];by_cases e:r = k <;> simp [e]
  ·rw [h];simp⟩)
 exact this
theorem Tw.row (h:Tw A S k r v L) (hR:L[i]? = some R):∃ H:List SV,∃ w,Ow LH S k v H∧H[i]? = some w∧Wk A S r w R:=by
 obtain ⟨H,h1,h2⟩:=h
 have hi:=(List.getElem?_eq_some_iff.1 hR).1
 have hw:H[i]? = some (H[i]'(by rw [h2.len];exact hi)):=List.getElem?_eq_getElem _
 exact ⟨H,_,h1,hw,(h2.row i _ R (by simp) hw hR).wk⟩
theorem Lt.lim {lim:Option Nat} (h:Lt v n0) (hl:limLe lim n0 = true) {b:Nat} (hb:v.blk = some b):limOk lim b = true:=limOk_of hl (h b hb)
end tw
def Bw {fl:Nat} (S:Cx fl) (k:Nat) (v:SV) (cs:List SV):Prop:=∃ b,v = .ptr b 0∧fl≤b∧b < S.n∧S.ow b = k∧S.m.get b = some cs
def Rw {fl:Nat} (S:Cx fl) (v:SV) (cs:List SV):Prop:=∃ b,v = .ptr b 0∧S.fz b∧S.m.get b = some cs
def Pw (n:Nat) (m:Mem) (v:SV) (cs:List SV):Prop:=∃ b,v = .ptr b 0∧b < n∧m.get b = some cs
section bw
variable {fl k j:Nat} {S S':Cx fl} {v:SV} {cs:List SV}
theorem Bw.to (h:Bw S j v cs) (c:Ch k S S') (hk:Nat.beq k 0 = false:=by rfl) (hj:Nat.beq j k = false:=by rfl):Bw S' j v cs:=by
 obtain ⟨b,h1,h2,h3,h4,h5⟩:=h
 obtain ⟨q1,q2⟩:=c.ow b h3 (by rw [h4];exact nb hj)
 exact ⟨b,h1,h2,Nat.lt_of_lt_of_le h3 c.n,by rw [q1];exact h4,by rw [q2];exact h5⟩
theorem Bw.drop (h:Bw S j v cs) (k:Nat) (hj:Nat.beq j k = false:=by rfl):Bw (S.drop k) j v cs:=by
 obtain ⟨b,h1,h2,h3,h4,h5⟩:=h
 exact ⟨b,h1,h2,h3,by simp only [Cx.drop];rw [if_neg (by rw [h4];exact nb hj)];exact h4,h5⟩
theorem Bw.renO {i:Nat} (h:Bw S i v cs) (k j:Nat) (hk:Nat.beq k 0 = false:=by rfl) (hj:Nat.beq j 0 = false:=by rfl) (hik:Nat.beq i k = false:=by rfl) (hij:Nat.beq i j = false:=by rfl):Bw (S.ren k j) i v cs:=by
 obtain ⟨b,h1,h2,h3,h4,h5⟩:=h
 exact ⟨b,h1,h2,h3,by simp only [Cx.ren];rw [if_neg (by rw [h4];exact nb hik),if_neg (by rw [h4];exact nb hij)];exact h4,h5⟩
theorem Bw.ren (h:Bw S k v cs) (j:Nat) (hk:Nat.beq k 0 = false:=by rfl) (hj:Nat.beq j 0 = false:=by rfl):Bw (S.ren k j) j v cs:=by
 obtain ⟨b,h1,h2,h3,h4,h5⟩:=h
 exact ⟨b,h1,h2,h3,by simp only [Cx.ren];rw [if_pos h4],h5⟩
theorem Bw.freeze (h:Bw S k v cs):Rw (S.drop k) v cs:=by
 obtain ⟨b,h1,h2,h3,h4,h5⟩:=h
 exact ⟨b,h1,⟨h3,by simp only [Cx.drop];rw [if_pos h4]⟩,h5⟩
theorem Rw.to (h:Rw S v cs) (c:Ch k S S') (hk:Nat.beq k 0 = false:=by rfl):Rw S' v cs:=by
 obtain ⟨b,h1,h2,h5⟩:=h
 obtain ⟨q1,q2⟩:=fz_ch c (nb hk) b h2
 exact ⟨b,h1,q1,by rw [q2];exact h5⟩
theorem Rw.drop (h:Rw S v cs) (k:Nat):Rw (S.drop k) v cs:=by
 obtain ⟨b,h1,h2,h5⟩:=h
 exact ⟨b,h1,(fz_drop k b h2).1,h5⟩
theorem Rw.ren (h:Rw S v cs) (k j:Nat) (hk:Nat.beq k 0 = false:=by rfl) (hj:Nat.beq j 0 = false:=by rfl):Rw (S.ren k j) v cs:=by
 obtain ⟨b,h1,h2,h5⟩:=h
 exact ⟨b,h1,(fz_ren k j (nb hk) (nb hj) b h2).1,h5⟩
theorem Bw.isp (h:Bw S k v cs):∃ b,v = .ptr b 0:=by obtain ⟨b,h,_⟩:=h;exact ⟨b,h⟩
theorem Rw.isp (h:Rw S v cs):∃ b,v = .ptr b 0:=by obtain ⟨b,h,_⟩:=h;exact ⟨b,h⟩
theorem Bw.at0 (h:Bw S k v cs):v = ptrAt v 0 0:=by obtain ⟨b,rfl,_⟩:=h;rfl
theorem Rw.at0 (h:Rw S v cs):v = ptrAt v 0 0:=by obtain ⟨b,rfl,_⟩:=h;rfl
theorem Bw.ptr {j:Nat} (h:Bw S k v cs):∃ b o,ptrAt v j 0 = .ptr b o:=by obtain ⟨b,rfl,_⟩:=h;exact ⟨_,_,rfl⟩
theorem Rw.ptr {j:Nat} (h:Rw S v cs):∃ b o,ptrAt v j 0 = .ptr b o:=by obtain ⟨b,rfl,_⟩:=h;exact ⟨_,_,rfl⟩
theorem Bw.lt (h:Bw S k v cs):Lt v S.n:=by obtain ⟨b,rfl,_,h,_⟩:=h;intro c hc;cases hc;exact h
theorem Rw.lt (h:Rw S v cs):Lt v S.n:=by obtain ⟨b,rfl,h,_⟩:=h;intro c hc;cases hc;exact h.1
theorem Rd.lt {α:Type} {A:Lay α} {L:List α} (h:Rd A S v L):Lt v S.n:=by
 rcases h with ⟨h | h,_⟩ | ⟨i,o,c,cs,rfl,_,h,_⟩
 ·subst h;intro c hc;cases hc
 ·subst h;intro c hc;cases hc
 ·intro c hc;cases hc;exact h.1
theorem Bw.pw (h:Bw S k v cs):Pw S.n S.m v cs:=by obtain ⟨b,h1,_,h3,_,h5⟩:=h;exact ⟨b,h1,h3,h5⟩
theorem Rw.pw (h:Rw S v cs):Pw S.n S.m v cs:=by obtain ⟨b,h1,h3,h5⟩:=h;exact ⟨b,h1,h3.1,h5⟩
theorem Pw.rwS {n:Nat} {m:Mem} {S:Cx n} (h:Pw n m v cs) (em:S.m = m) (hz:∀ i,i < n→S.fz i):Rw S v cs:=by
 subst em
 obtain ⟨b,h1,h3,h5⟩:=h
 exact ⟨b,h1,hz b h3,h5⟩
end bw
section rules
variable {E:Env} {lo:List Nat} {fl:Nat} {loose:Nat→Bool} {lim:Option Nat} {ops:Array Oper} {os:List Oper}
variable {l:LE} {m:Mem} {n n0:Nat} {K:LE→Mem→Nat→Prop}
variable {d:Nat} {ty t:TypeId} {pos:String} {af:Array Edge} {x y:Operand} {v w:SV} {k k':IntKind}
variable {S:Cx fl} {q:Nat} {s:SV} {cs:List SV} {id:Nat} {p:SV}
theorem WO.ld0 {b:Nat} (hx:evK l x = some (.sc (.ptr b q))) (hb:m.get b = some cs) (hc:cs[q]? = some s) (hT:oneT E t = true) (hl:limOk lim b = true)
 (h:WO E loose fl lim ops os ((d,.sc s) :: l) m n K):WO E loose fl lim ops (⟨some d,.load t x,ty,pos,af,none⟩ :: os) l m n K:=⟨fun tt ht=>by
 obtain ⟨y,h1,h2,h3,_⟩:=oneT_ok hT
 refine W_op2 ?_ (h.put ht)
 simp only [opA,evK_ev ht hx,loadA,hl,if_true,hb,part,h1,h2,h3,or_self,if_false,hc,Option.map_some]⟩
theorem WO.ld0A {b sz:Nat} (hx:evK l x = some (.sc (.ptr b q))) (hb:m.get b = some cs) (hc:q + sz≤cs.length) (hT:aggT E t sz = true) (hl:limOk lim b = true)
 (h:WO E loose fl lim ops os ((d,.agg ((cs.drop q).take sz)) :: l) m n K):WO E loose fl lim ops (⟨some d,.load t x,ty,pos,af,none⟩ :: os) l m n K:=⟨fun tt ht=>by
 obtain ⟨y,h1,h2,h3,_⟩:=aggT_ok hT
 refine W_op2 ?_ (h.put ht)
 simp only [opA,evK_ev ht hx,loadA,hl,if_true,hb,part,h1,h2,h3,hc,Option.map_some]⟩
theorem WO.ldW (hx:evK l x = some (.sc p)) (hp:p = ptrAt v 0 q) (hs:Bw S id v cs) (hc:cs[q]? = some s) (hT:oneT E t = true) (hv:Lt v n0) (hl:limLe lim n0 = true)
 (h:WO E loose fl lim ops os ((d,.sc s) :: l) S.m S.n K):WO E loose fl lim ops (⟨some d,.load t x,ty,pos,af,none⟩ :: os) l S.m S.n K:=by
 subst hp
 obtain ⟨b,rfl,_,h4,_,h5⟩:=hs
 exact WO.ld0 (by simpa [ptrAt] using hx) h5 hc hT (hv.lim hl rfl) h
theorem WO.ldRw (hx:evK l x = some (.sc p)) (hp:p = ptrAt v 0 q) (hs:Rw S v cs) (hc:cs[q]? = some s) (hT:oneT E t = true) (hv:Lt v n0) (hl:limLe lim n0 = true)
 (h:WO E loose fl lim ops os ((d,.sc s) :: l) S.m S.n K):WO E loose fl lim ops (⟨some d,.load t x,ty,pos,af,none⟩ :: os) l S.m S.n K:=by
 subst hp
 obtain ⟨b,rfl,h4,h5⟩:=hs
 exact WO.ld0 (by simpa [ptrAt] using hx) h5 hc hT (hv.lim hl rfl) h
theorem WO.ldWA {sz:Nat} {r:List SV} (hx:evK l x = some (.sc p)) (hp:p = ptrAt v 0 q) (hs:Bw S id v cs) (hr:(cs.drop q).take sz = r) (hc:Nat.ble (q + sz) cs.length = true) (hT:aggT E t sz = true) (hv:Lt v n0) (hl:limLe lim n0 = true)
 (h:WO E loose fl lim ops os ((d,.agg r) :: l) S.m S.n K):WO E loose fl lim ops (⟨some d,.load t x,ty,pos,af,none⟩ :: os) l S.m S.n K:=by
 subst hp;subst hr
 obtain ⟨b,rfl,_,h4,_,h5⟩:=hs
 exact WO.ld0A (by simpa [ptrAt] using hx) h5 (Nat.le_of_ble_eq_true hc) hT (hv.lim hl rfl) h
theorem WO.ldRwA {sz:Nat} {r:List SV} (hx:evK l x = some (.sc p)) (hp:p = ptrAt v 0 q) (hs:Rw S v cs) (hr:(cs.drop q).take sz = r) (hc:Nat.ble (q + sz) cs.length = true) (hT:aggT E t sz = true) (hv:Lt v n0) (hl:limLe lim n0 = true)
 (h:WO E loose fl lim ops os ((d,.agg r) :: l) S.m S.n K):WO E loose fl lim ops (⟨some d,.load t x,ty,pos,af,none⟩ :: os) l S.m S.n K:=by
 subst hp;subst hr
 obtain ⟨b,rfl,h4,h5⟩:=hs
 exact WO.ld0A (by simpa [ptrAt] using hx) h5 (Nat.le_of_ble_eq_true hc) hT (hv.lim hl rfl) h
theorem WO.stW {av:AV} {vc r:List SV} {yt:Ty} (hx:evK l x = some (.sc p)) (hp:p = ptrAt v 0 q) (hy:evK l y = some av) (hc:av.cells? = some vc) (hs:Bw S id v cs) (hT:E.ty t = some yt) (hz:Nat.beq vc.length yt.size = true) (hle:Nat.ble (q + vc.length) cs.length = true) (hr:splice cs q vc = r) (hid:Nat.beq id 0 = false)
 (h:∀ S',Ch id S S'→Bw S' id v r→WO E loose fl lim ops os l S'.m S'.n K):WO E loose fl lim ops (⟨none,.store t x y,ty,pos,af,none⟩ :: os) l S.m S.n K:=⟨fun tt ht=>by
 subst hp;subst hr
 obtain ⟨b,rfl,h1,h2,h3,h4⟩:=hs
 have hch:Ch id S (⟨S.m.set b (splice cs q vc),S.n,S.ow,S.le⟩:Cx fl):=⟨Nat.le_refl _,fun i hi hk=>⟨rfl,Tr.get_set_ne _ _ (fun e=>hk (by rw [e];exact h3))⟩⟩
 refine W_op2 (v:=.tup []) (m':=S.m.set b (splice cs q vc)) (n':=S.n) ?_ ((h ⟨S.m.set b (splice cs q vc),S.n,S.ow,S.le⟩ hch ⟨b,rfl,h1,h2,h3,Tr.get_set_same _ _ _⟩).ok tt ht)
 have e:evK l x = some (.sc (.ptr b q)):=by simpa [ptrAt] using hx
 simp only [opA,evK_ev ht e,evK_ev ht hy,storeA,hc,hT]
 rw [if_pos ⟨h1,Nat.eq_of_beq_eq_true hz⟩,h4]
 simp only
 rw [if_pos (Nat.le_of_ble_eq_true hle)];rfl⟩
theorem Bw.fresh (hid:id≠0):∃ S':Cx fl,S'.m = S.m.set S.n cs∧S'.n = S.n + 1∧Ch id S S'∧Bw S' id (.ptr S.n 0) cs:=by
 have hS:=S.le
 exact ⟨⟨S.m.set S.n cs,S.n + 1,fun i=>if i = S.n then id else S.ow i,by omega⟩,rfl,rfl,⟨by simp,fun i hi hk=>⟨by simp only;rw [if_neg (by omega)],Tr.get_set_ne _ _ (by omega)⟩⟩,S.n,rfl,hS,by simp,by simp,Tr.get_set_same _ _ _⟩
theorem WO.alW {yt:Ty} (id:Nat) (hT:E.ty t = some yt) (hz:yt.zero = cs) (hid:Nat.beq id 0 = false)
 (h:∀ b S',Ch id S S'→Bw S' id (.ptr b 0) cs→WO E loose fl lim ops os ((d,.sc (.ptr b 0)) :: l) S'.m S'.n K):WO E loose fl lim ops (⟨some d,.alloc t,ty,pos,af,none⟩ :: os) l S.m S.n K:=⟨fun tt ht=>by
 subst hz
 obtain ⟨S',e1,e2,h7,h8⟩:=Bw.fresh (S:=S) (cs:=yt.zero) (nb hid)
 exact W_op2 (m':=S'.m) (n':=S'.n) (by simp only [opA,hT,e1,e2]) ((h _ S' h7 h8).put ht)⟩
theorem WO.bxW {av:AV} (id:Nat) (hx:evK l x = some av) (hc:av.cells? = some cs) (hid:Nat.beq id 0 = false)
 (h:∀ b S',Ch id S S'→Bw S' id (.ptr b 0) cs→WO E loose fl lim ops os ((d,.sc (.ptr b 0)) :: l) S'.m S'.n K):WO E loose fl lim ops (⟨some d,.box t x,ty,pos,af,none⟩ :: os) l S.m S.n K:=⟨fun tt ht=>by
 obtain ⟨S',e1,e2,h7,h8⟩:=Bw.fresh (S:=S) (cs:=cs) (nb hid)
 exact W_op2 (m':=S'.m) (n':=S'.n) (by simp only [opA,evK_ev ht hx,hc,e1,e2]) ((h _ S' h7 h8).put ht)⟩
end rules
structure ChM {fl:Nat} (S S':Cx fl):Prop where
 n:S.n≤S'.n
 ow:∀ i,i < S.n→(S.ow i = 0∨1000≤S.ow i)→S'.ow i = S.ow i∧S'.m.get i = S.m.get i
def lkp:List (Nat × Nat)→Nat→Option Nat
 | [],_=>none
 | (a,b) :: r,o=>if Nat.beq a o then some b else lkp r o
def sg (l:List (Nat × Nat)) (o:Nat):Nat:=if Nat.beq o 0 then 0 else (lkp l o).getD (o + 1000)
def tk (l:List (Nat × Nat)) (o:Nat):Nat:=if Nat.beq o 0 then 0 else (lkp l o).getD 1
def Cx.mp {fl:Nat} (S:Cx fl) (l:List (Nat × Nat)):Cx fl:=⟨S.m,S.n,fun i=>sg l (S.ow i),S.le⟩
def Strict (l:List (Nat × Nat)):Bool:=l.all fun p=>p.2 != 0
section chm
variable {fl k j:Nat} {S S0 S1 S':Cx fl} {v:SV} {l q:List (Nat × Nat)}
theorem ChM.refl (S:Cx fl):ChM S S:=⟨Nat.le_refl _,fun _ _ _=>⟨rfl,rfl⟩⟩
theorem ChM.to (h:ChM S0 S) (c:Ch k S S') (hk:Nat.beq k 0 = false:=by rfl) (hk2:Nat.blt k 1000 = true:=by rfl):ChM S0 S':=
 ⟨Nat.le_trans h.n c.n,fun i hi ho=>by
  obtain ⟨h1,h2⟩:=h.ow i hi ho
  have hlt:k < 1000:=Nat.le_of_ble_eq_true hk2
  obtain ⟨h3,h4⟩:=c.ow i (Nat.lt_of_lt_of_le hi h.n) (by rw [h1];have:=nb hk;omega)
  exact ⟨h3.trans h1,h4.trans h2⟩⟩
theorem ChM.drop (h:ChM S0 S) (k:Nat) (hk:Nat.beq k 0 = false:=by rfl) (hk2:Nat.blt k 1000 = true:=by rfl):ChM S0 (S.drop k):=
 ⟨h.n,fun i hi ho=>by
  obtain ⟨h1,h2⟩:=h.ow i hi ho
  have hlt:k < 1000:=Nat.le_of_ble_eq_true hk2
  refine ⟨?_,h2⟩
  show (if S.ow i = k then 0 else S.ow i) = _
  rw [if_neg (by rw [h1];have:=nb hk;omega)];exact h1⟩
theorem ChM.renO (h:ChM S0 S) (k j:Nat) (hk:Nat.beq k 0 = false:=by rfl) (hj:Nat.beq j 0 = false:=by rfl) (hk2:Nat.blt k 1000 = true:=by rfl) (hj2:Nat.blt j 1000 = true:=by rfl):ChM S0 (S.ren k j):=
 ⟨h.n,fun i hi ho=>by
  obtain ⟨h1,h2⟩:=h.ow i hi ho
  have hlt:k < 1000:=Nat.le_of_ble_eq_true hk2
  have hlt2:j < 1000:=Nat.le_of_ble_eq_true hj2
  refine ⟨?_,h2⟩
  show (if S.ow i = k then j else if S.ow i = j then 1 else S.ow i) = _
  rw [if_neg (by rw [h1];have:=nb hk;omega),if_neg (by rw [h1];have:=nb hj;omega)];exact h1⟩
theorem fz_mp:∀ i,S.fz i→(S.mp l).fz i∧(S.mp l).m.get i = S.m.get i:=fun i ⟨h1,h2⟩=>⟨⟨h1,by show sg l (S.ow i) = 0;rw [h2];rfl⟩,rfl⟩
variable {α:Type} {A:Lay α} {L:List α} {LL:List (List α)} {cs:List SV}
theorem Rd.mp (h:Rd A S v L):Rd A (S.mp l) v L:=RO.to h fz_mp fz_mp
theorem Ow.mp (h:Ow A S k v L) (e:sg l k = j):Ow A (S.mp l) j v L:=by
 rcases h with h | ⟨b,c',cs,h1,h2,h3,h4,h5,h6,h7,h8⟩
 ·exact .inl h
 ·exact .inr ⟨b,c',cs,h1,h2,h3,by show sg l (S.ow b) = j;rw [h4];exact e,h5,h6,h7,h8.frame fz_mp⟩
theorem Wk.mp0 (h:Wk A S k v L) (e:sg l k = 0):Rd A (S.mp l) v L:=RO.to h (fun i hi=>⟨⟨hi.1,by show sg l (S.ow i) = 0;rw [hi.2];exact e⟩,rfl⟩) fz_mp
theorem Ow.mp0 (h:Ow A S k v L) (e:sg l k = 0):Rd A (S.mp l) v L:=h.wk.mp0 e
theorem Iw.mp0 {n b:Nat} {m:Mem} (h:Iw A S k n b m v L) (e:sg l k = 0):Rd A (S.mp l) v L:=h.wk.mp0 e
theorem Tw.mp {r r':Nat} (h:Tw A S k r v LL) (e:sg l k = j) (e':sg l r = r'):Tw A (S.mp l) j r' v LL:=by
 obtain ⟨H,h1,h2⟩:=h
 exact ⟨H,h1.mp e,h2.len,fun i w R a b c=>(h2.row i w R a b c).mp e',h2.sep⟩
theorem Tw.mp0 {r:Nat} (h:Tw A S k r v LL) (e:sg l k = 0) (e':sg l r = 0):Rd (Lay.sl A) (S.mp l) v LL:=
 h.ro (zo:=(S.mp l).fz) (zi:=(S.mp l).fz) (fun b hb=>⟨hb.1,by show sg l (S.ow b) = 0;rw [hb.2];exact e⟩) (fun i hi=>⟨hi.1,by
  show sg l (S.ow i) = 0
  rcases hi.2 with h | h
  ·rw [h];exact e'
  ·rw [h];rfl⟩)
theorem Bw.mp (h:Bw S k v cs) (e:sg l k = j):Bw (S.mp l) j v cs:=by
 obtain ⟨b,h1,h2,h3,h4,h5⟩:=h
 exact ⟨b,h1,h2,h3,by show sg l (S.ow b) = j;rw [h4];exact e,h5⟩
theorem Bw.mp0 (h:Bw S k v cs) (e:sg l k = 0):Rw (S.mp l) v cs:=by
 obtain ⟨b,h1,h2,h3,h4,h5⟩:=h
 exact ⟨b,h1,⟨h3,by show sg l (S.ow b) = 0;rw [h4];exact e⟩,h5⟩
theorem Rw.mp (h:Rw S v cs):Rw (S.mp l) v cs:=by
 obtain ⟨b,h1,h2,h5⟩:=h
 exact ⟨b,h1,(fz_mp b h2).1,h5⟩
theorem Bk.mp {u:α} (h:Bk A S k v u) (e:sg l k = j):Bk A (S.mp l) j v u:=by
 obtain ⟨b,cs,h1,h2,h3,h4,h6,h8⟩:=h
 exact ⟨b,cs,h1,h2,h3,by show sg l (S.ow b) = j;rw [h4];exact e,h6,A.frame h8 fz_mp⟩
theorem Bk.mp0 {u:α} (h:Bk A S k v u) (e:sg l k = 0):Rp A (S.mp l) v u:=by
 obtain ⟨b,cs,h1,h2,h3,h4,h6,h8⟩:=h
 exact ⟨b,cs,h1,⟨h3,by show sg l (S.ow b) = 0;rw [h4];exact e⟩,h6,A.frame h8 fz_mp⟩
theorem Rp.mp {u:α} (h:Rp A S v u):Rp A (S.mp l) v u:=by
 obtain ⟨b,cs,e,h1,h2,h3⟩:=h
 exact ⟨b,cs,e,(fz_mp b h1).1,h2,A.frame h3 fz_mp⟩
structure Bak (l q:List (Nat × Nat)) (S S' S1:Cx fl):Prop where
 m:S1.m = S'.m
 n:S1.n = S'.n
 le:S.n≤S'.n
 old:∀ i,i < S.n→(sg l (S.ow i) = 0∨1000≤sg l (S.ow i))→S1.ow i = S.ow i∧S'.ow i = sg l (S.ow i)∧S'.m.get i = S.m.get i
 new:∀ i,¬ (i < S.n∧(sg l (S.ow i) = 0∨1000≤sg l (S.ow i)))→S1.ow i = tk q (S'.ow i)
theorem Bak.mk' (l q:List (Nat × Nat)) (h:ChM (S.mp l) S'):∃ S1:Cx fl,Bak l q S S' S1:=by
 refine ⟨⟨S'.m,S'.n,fun i=>if i < S.n∧(sg l (S.ow i) = 0∨1000≤sg l (S.ow i)) then S.ow i else tk q (S'.ow i),S'.le⟩,rfl,rfl,h.n,fun i h1 h2=>⟨if_pos ⟨h1,h2⟩,h.ow i h1 h2⟩,fun i hi=>if_neg hi⟩
theorem Bak.own (hb:Bak l q S S' S1) {b:Nat} (h1:S'.ow b = j) (hj:Nat.beq j 0 = false) (hj2:Nat.blt j 1000 = true):S1.ow b = tk q j:=by
 have hlt:j < 1000:=Nat.le_of_ble_eq_true hj2
 rw [← h1]
 refine hb.new b fun ⟨h2,h3⟩=>?_
 have:=(hb.old b h2 h3).2.1
 have:=nb hj
 omega
theorem Bak.fz (hb:Bak l q S S' S1) (hs:Strict l = true):∀ i,S'.fz i→S1.fz i∧S1.m.get i = S'.m.get i:=fun i ⟨h1,h2⟩=>by
 refine ⟨⟨by rw [hb.n];exact h1,?_⟩,by rw [hb.m]⟩
 by_cases hc:i < S.n∧(sg l (S.ow i) = 0∨1000≤sg l (S.ow i))
 ·obtain ⟨e1,e2,_⟩:=hb.old i hc.1 hc.2
  rw [e1]
  rw [h2] at e2
  have key:∀ (l:List (Nat × Nat)) (o:Nat),Strict l = true→0 = sg l o→o = 0:=by
   intro l o hs h
   unfold sg at h
   by_cases h0:Nat.beq o 0 = true
   ·exact Nat.eq_of_beq_eq_true h0
   ·rw [if_neg h0] at h
    exfalso
    induction l with
    | nil=>simp [lkp] at h
    | cons p r ih=>
     obtain ⟨a,b⟩:=p
     simp only [Strict,List.all_cons,Bool.and_eq_true,bne_iff_ne,ne_eq] at hs
     simp only [lkp] at h
     split at h
     ·simp only [Option.getD_some] at h;exact hs.1 h.symm
     ·exact ih (by simpa [Strict] using hs.2) h
  exact key l _ hs e2
 ·rw [hb.new i hc,h2];rfl
theorem Ow.bkF (h:Ow A S' j v L) (hb:Bak l q S S' S1) (e:tk q j = k) (hA:A.Fl) (hj:Nat.beq j 0 = false:=by rfl) (hj2:Nat.blt j 1000 = true:=by rfl):Ow A S1 k v L:=by
 rcases h with h | ⟨b,c',cs,h1,h2,h3,h4,h5,h6,h7,h8⟩
 ·exact .inl h
 ·exact .inr ⟨b,c',cs,h1,h2,by rw [hb.n];exact h3,by rw [hb.own h4 hj hj2];exact e,h5,by rw [hb.m];exact h6,h7,h8.fl hA⟩
theorem Ow.bkS (h:Ow A S' j v L) (hb:Bak l q S S' S1) (e:tk q j = k) (hs:Strict l = true) (hj:Nat.beq j 0 = false:=by rfl) (hj2:Nat.blt j 1000 = true:=by rfl):Ow A S1 k v L:=by
 rcases h with h | ⟨b,c',cs,h1,h2,h3,h4,h5,h6,h7,h8⟩
 ·exact .inl h
 ·exact .inr ⟨b,c',cs,h1,h2,by rw [hb.n];exact h3,by rw [hb.own h4 hj hj2];exact e,h5,by rw [hb.m];exact h6,h7,h8.frame (hb.fz hs)⟩
theorem Rd.bkS (h:Rd A S' v L) (hb:Bak l q S S' S1) (hs:Strict l = true):Rd A S1 v L:=RO.to h (hb.fz hs) (hb.fz hs)
theorem Tw.bkF {r r':Nat} (h:Tw A S' j r' v LL) (hb:Bak l q S S' S1) (e:tk q j = k) (e':tk q r' = r) (hA:A.Fl) (hj:Nat.beq j 0 = false:=by rfl) (hj2:Nat.blt j 1000 = true:=by rfl) (hr:Nat.beq r' 0 = false:=by rfl) (hr2:Nat.blt r' 1000 = true:=by rfl):Tw A S1 k r v LL:=by
 obtain ⟨H,h1,h2⟩:=h
 exact ⟨H,h1.bkF hb e Lay.flat_fl hj hj2,h2.len,fun i w R a b c=>(h2.row i w R a b c).bkF hb e' hA hr hr2,h2.sep⟩
theorem Bw.bk (h:Bw S' j v cs) (hb:Bak l q S S' S1) (e:tk q j = k) (hj:Nat.beq j 0 = false:=by rfl) (hj2:Nat.blt j 1000 = true:=by rfl):Bw S1 k v cs:=by
 obtain ⟨b,h1,h2,h3,h4,h5⟩:=h
 exact ⟨b,h1,h2,by rw [hb.n];exact h3,by rw [hb.own h4 hj hj2];exact e,by rw [hb.m];exact h5⟩
theorem Bk.bkF {u:α} (h:Bk A S' j v u) (hb:Bak l q S S' S1) (e:tk q j = k) (hA:A.Fl) (hj:Nat.beq j 0 = false:=by rfl) (hj2:Nat.blt j 1000 = true:=by rfl):Bk A S1 k v u:=by
 obtain ⟨b,cs,h1,h2,h3,h4,h6,h8⟩:=h
 exact ⟨b,cs,h1,h2,by rw [hb.n];exact h3,by rw [hb.own h4 hj hj2];exact e,by rw [hb.m];exact h6,hA _ _ _ _ _ _ h8⟩
theorem Bk.bkS {u:α} (h:Bk A S' j v u) (hb:Bak l q S S' S1) (e:tk q j = k) (hs:Strict l = true) (hj:Nat.beq j 0 = false:=by rfl) (hj2:Nat.blt j 1000 = true:=by rfl):Bk A S1 k v u:=by
 obtain ⟨b,cs,h1,h2,h3,h4,h6,h8⟩:=h
 exact ⟨b,cs,h1,h2,by rw [hb.n];exact h3,by rw [hb.own h4 hj hj2];exact e,by rw [hb.m];exact h6,A.frame h8 (hb.fz hs)⟩
def Cx.mgs:List Nat→Nat→Cx fl→Cx fl
 | [],_,S=>S
 | j :: r,k0,S=>Cx.mgs r k0 (S.mg j k0)
theorem Cx.mgs_mn (k0:Nat):∀ (ks:List Nat) (S:Cx fl),(Cx.mgs ks k0 S).m = S.m∧(Cx.mgs ks k0 S).n = S.n
 | [],S=>⟨rfl,rfl⟩
 | j :: r,S=>Cx.mgs_mn k0 r (S.mg j k0)
theorem Cx.mgs_ow (k0:Nat):∀ (ks:List Nat) (S:Cx fl) (i:Nat),(Cx.mgs ks k0 S).ow i≠k0→(Cx.mgs ks k0 S).ow i = S.ow i∧S.ow i≠k0∧S.ow i ∉ ks
 | [],S,i,h=>⟨rfl,h,by simp⟩
 | j :: r,S,i,h=>by
  obtain ⟨h1,h2,h3⟩:=Cx.mgs_ow k0 r (S.mg j k0) i h
  have e:(S.mg j k0).ow i = if S.ow i = j then k0 else S.ow i:=rfl
  by_cases hj:S.ow i = j
  ·rw [e,if_pos hj] at h2;exact (h2 rfl).elim
  ·rw [e,if_neg hj] at h1 h2 h3
   exact ⟨h1,h2,by simp [hj,h3]⟩
def mgOk (l:List (Nat × Nat)) (ks:List Nat) (k0:Nat):Bool:=l.all fun p=>p.2 == 0 || p.1 == k0 || ks.contains p.1
theorem Bak.ch (hb:Bak l q S S' S1) (ks:List Nat) (k0:Nat) (h:mgOk l ks k0 = true:=by rfl):Ch k0 (Cx.mgs ks k0 S) S1:=by
 obtain ⟨e1,e2⟩:=Cx.mgs_mn k0 ks S
 refine ⟨by rw [e2,hb.n];exact hb.le,fun i hi hk=>?_⟩
 rw [e2] at hi
 obtain ⟨h1,h2,h3⟩:=Cx.mgs_ow k0 ks S i hk
 have key:∀ (l:List (Nat × Nat)) (o:Nat),mgOk l ks k0 = true→o≠k0→o ∉ ks→sg l o = 0∨1000≤sg l o:=by
  intro l o hm h2 h3
  unfold sg
  by_cases h0:Nat.beq o 0 = true
  ·rw [if_pos h0];exact .inl rfl
  ·rw [if_neg h0]
   induction l with
   | nil=>right;simp [lkp]
   | cons p r ih=>
    obtain ⟨a,b⟩:=p
    simp only [mgOk,List.all_cons,Bool.and_eq_true,Bool.or_eq_true,beq_iff_eq] at hm
    simp only [lkp]
    split
    ·rename_i e
     have e:a = o:=Nat.eq_of_beq_eq_true e
     subst e
     rcases hm.1 with (h | h) | h
     ·left;simpa using h
     ·exact (h2 h).elim
     ·exact (h3 (by simpa using h)).elim
    ·exact ih (by simpa [mgOk] using hm.2)
 obtain ⟨g1,_,g3⟩:=hb.old i hi (key l _ h h2 h3)
 exact ⟨by rw [g1,h1],by rw [hb.m,e1];exact g3⟩
end chm
section rules
variable {E:Env} {lo:List Nat} {fl:Nat} {loose:Nat→Bool} {lim:Option Nat} {ops:Array Oper} {os:List Oper}
variable {l:LE} {m:Mem} {n n0:Nat} {K:LE→Mem→Nat→Prop}
variable {d:Nat} {ty t:TypeId} {pos:String} {af:Array Edge} {S:Cx fl}
theorem WO.callG {f:Operand} {xs:Array Operand} {ats:Array TypeId} {g:Nat} {caps:List (Nat × Nat)} {args:List AV} {R:AV→Cx fl→Prop} (p q:List (Nat × Nat)) (hf:evK l f = some (.sc (.fn g caps))) (ha:xs.toList.mapM (evK l) = some args)
 (hr:Ret E fl g (args ++ caps.map fun p=>.sc (.ptr p.1 p.2)) S.m S.n (fun v m' n'=>∃ S':Cx fl,S'.m = m'∧S'.n = n'∧ChM (S.mp p) S'∧R v S'))
 (h:∀ v S' S1,Bak p q S S' S1→R v S'→WO E loose fl lim ops os ((d,v) :: l) S1.m S1.n K) (hl:loose g = false:=by rfl):
 WO E loose fl lim ops (⟨some d,.call ⟨.value f,xs,ats⟩,ty,pos,af,none⟩ :: os) l S.m S.n K:=by
 refine WO.call hf ha ?_
 rw [hl];simp only [Bool.false_eq_true,if_false]
 refine hr.mono ?_
 rintro v m' n' ⟨S',rfl,rfl,hM,hR⟩
 obtain ⟨S1,hb⟩:=Bak.mk' p q hM
 have:=h v S' S1 hb hR
 rw [hb.m,hb.n] at this
 exact this
end rules
theorem SV.mem_blks {v:SV} {i:Nat}:i∈v.blks↔v.blk = some i:=by
 cases v <;> simp [SV.blks,SV.blk,eq_comm]
def BK {fl:Nat} (S:Cx fl) (k:Nat) (v:SV):Prop:=∀ b,v.blk = some b→b < S.n∧S.ow b = k
def NB (v w:SV):Prop:=∀ b,v.blk = some b→w.blk≠some b
def GE (n:Nat) (v:SV):Prop:=∀ b,v.blk = some b→n≤b
section bk
variable {α:Type} {A:Lay α} {fl k j:Nat} {S S':Cx fl} {v w:SV} {L:List α}
theorem Ow.bko (h:Ow A S k v L):BK S k v:=fun b hb=>⟨(h.blk_ow hb).2,(h.blk_ow hb).1⟩
theorem RO.bkz {zi:Nat→Prop} {m:Mem} (h:RO A (fun i=>i < S.n∧S.ow i = k) zi m v L):BK S k v:=by
 intro b hb
 rcases h with ⟨h1,_⟩ | ⟨i,o,c,cs,h1,_,h3,_⟩
 ·rcases h1 with rfl | rfl
  ·cases hb
  ·cases hb
 ·subst h1;cases hb;exact h3
theorem Rd.bko (h:Rd A S v L):BK S 0 v:=RO.bkz h
theorem Wk.bko (h:Wk A S k v L):BK S k v:=RO.bkz h
theorem Bk.bko {a:α} (h:Bk A S k v a):BK S k v:=by
 obtain ⟨b,cs,rfl,_,h2,h3,_⟩:=h
 intro b' hb;cases hb;exact ⟨h2,h3⟩
theorem Rp.bko {a:α} (h:Rp A S v a):BK S 0 v:=by
 obtain ⟨b,cs,rfl,h2,_⟩:=h
 intro b' hb;cases hb;exact h2
theorem Bw.bko {cs:List SV} (h:Bw S k v cs):BK S k v:=by
 obtain ⟨b,rfl,_,h2,h3,_⟩:=h
 intro b' hb;cases hb;exact ⟨h2,h3⟩
theorem Rw.bko {cs:List SV} (h:Rw S v cs):BK S 0 v:=by
 obtain ⟨b,rfl,h2,_⟩:=h
 intro b' hb;cases hb;exact h2
theorem Tw.bko {r:Nat} {Q:List (List α)} (h:Tw A S k r v Q):BK S k v:=by
 obtain ⟨H,h1,_⟩:=h;exact h1.bko
theorem Th.bko {r i:Nat} {Q:List (List α)} (h:Th A S k r v Q i w):BK S k v:=by
 obtain ⟨H,h1,_⟩:=h;exact h1.bko
theorem BK.nb (h:BK S k v) (g:BK S j w) (hkj:Nat.beq k j = false:=by rfl):NB v w:=fun b hb hw=>Go.Am.nb hkj ((h b hb).2.symm.trans (g b hw).2)
theorem BK.ge {n:Nat} (h:BK S k v) (g:GE n w) (hn:S.n≤n):NB v w:=fun b hb hw=>by
 have:=(h b hb).1;have:=g b hw;omega
theorem NB.symm (h:NB v w):NB w v:=fun b hb hw=>h b hw hb
theorem ptrAt_blk {i q b:Nat} (h:(ptrAt v i q).blk = some b):v.blk = some b:=by
 cases v <;> simp [ptrAt,SV.blk] at h ⊢ <;> exact h
theorem NB.none (h:v.blk = .none):NB v w:=fun b hb=>by rw [h] at hb;cases hb
theorem NB.noneR (h:w.blk = .none):NB v w:=fun b _ hb=>by rw [h] at hb;cases hb
end bk
def valsL (l:LE):List Operand→Option (List SV)
 | []=>some []
 | x :: r=>match evK l x with
  | none=>none
  | some (.sc v)=>match valsL l r with
   | some vs=>some (v :: vs)
   | none=>none
  | some _=>valsL l r
def rdOps:Op→List Operand
 | .load _ a=>[a]
 | .store _ a _=>[a]
 | .call { callee:=.builtin .append,args:=xs,.. }=>xs.toList
 | _=>[]
def wrOps:Op→List Operand
 | .store _ a _=>[a]
 | .call { callee:=.builtin .append,args:=xs,.. }=>match xs.toList with
  | x :: _=>[x]
  | []=>[]
 | _=>[]
def dsOps:Option Nat→List Operand
 | some d=>[.tmp d]
 | none=>[]
theorem valsL_blks {t:Tr AV} {l:LE} (hs:Sees t l):∀ {xs:List Operand} {vs:List SV},valsL l xs = some vs→∀ x∈xs,∀ i∈(evT t x).blks,∃ v∈vs,v.blk = some i
 | [],_,_,x,hx,_,_=>by simp at hx
 | y :: r,vs,h,x,hx,i,hi=>by
  simp only [valsL] at h
  have he:∀ {v:AV},evK l y = some v→evT t y = v:=fun h=>evK_ev (m:=.nil) (n:=0) hs h
  split at h
  ·cases h
  ·rename_i v hv
   split at h
   ·rename_i ws hw
    cases h
    rcases List.mem_cons.1 hx with rfl | hx
    ·rw [he hv] at hi
     exact ⟨v,by simp,SV.mem_blks.1 hi⟩
    ·obtain ⟨u,h1,h2⟩:=valsL_blks hs hw x hx i hi
     exact ⟨u,by simp [h1],h2⟩
   ·cases h
  ·rename_i v hno hv
   rcases List.mem_cons.1 hx with rfl | hx
   ·rw [he hv] at hi
    cases v with
    | sc u=>exact (hno u rfl).elim
    | _=>simp [AV.blks] at hi
   ·exact valsL_blks hs h x hx i hi
def NB1 (v:SV):List SV→Prop
 | []=>True
 | w :: ws=>NB v w∧NB1 v ws
def NBs:List SV→List SV→Prop
 | [],_=>True
 | v :: vs,ws=>NB1 v ws∧NBs vs ws
theorem NB1.mem {v:SV}:∀ {ws:List SV},NB1 v ws→∀ w∈ws,NB v w
 | w :: ws,h,u,hu=>by
  rcases List.mem_cons.1 hu with rfl | hu
  ·exact h.1
  ·exact NB1.mem h.2 u hu
theorem NBs.mem:∀ {vs ws:List SV},NBs vs ws→∀ v∈vs,∀ w∈ws,NB v w
 | v :: vs,ws,h,u,hu=>by
  rcases List.mem_cons.1 hu with rfl | hu
  ·exact NB1.mem h.1
  ·exact NBs.mem h.2 u hu
theorem readsV_ops (ev:Operand→AV) (op:Op):readsV ev op = (rdOps op).flatMap fun x=>(ev x).blks:=by
 unfold readsV rdOps
 split <;> simp
theorem writesV_ops (ev:Operand→AV) (op:Op):writesV ev op = (wrOps op).flatMap fun x=>(ev x).blks:=by
 unfold writesV wrOps
 split
 ·simp
 ·split <;> simp_all
 ·simp
theorem dstB_ops (t:Tr AV) (o:Oper):dstB t o = (dsOps o.dst).flatMap fun x=>(evT t x).blks:=by
 unfold dstB
 cases o.dst with
 | none=>rfl
 | some d=>simp [dsOps,evT,St.ev]
theorem djT_of {t:Tr AV} {l:LE} (hs:Sees t l) {a b:Oper} {ra wa da rb wb:List SV} (h1:valsL l (rdOps a.op) = some ra) (h2:valsL l (wrOps a.op) = some wa) (h3:valsL l (dsOps a.dst) = some da) (h4:valsL l (rdOps b.op) = some rb) (h5:valsL l (wrOps b.op) = some wb)
 (n1:NBs wa rb) (n2:NBs da rb) (n3:NBs wb ra):djT t a b = true:=by
 unfold djT
 rw [readsV_ops,writesV_ops,readsV_ops,writesV_ops,dstB_ops]
 simp only [Bool.and_eq_true,List.all_eq_true,Bool.not_eq_true',List.contains_eq_mem,decide_eq_false_iff_not,List.mem_flatMap]
 have key:∀ {xs ys:List Operand} {vs ws:List SV},valsL l xs = some vs→valsL l ys = some ws→NBs vs ws→∀ i,(∃ y∈ys,i∈(evT t y).blks)→¬ ∃ x∈xs,i∈(evT t x).blks:=by
  rintro xs ys vs ws g1 g2 g3 i ⟨y,hy,hi⟩ ⟨x,hx,hj⟩
  obtain ⟨v,hv,ev⟩:=valsL_blks hs g1 x hx i hj
  obtain ⟨w,hw,ew⟩:=valsL_blks hs g2 y hy i hi
  exact g3.mem v hv w hw i ev ew
 exact ⟨fun i hi=>⟨key h2 h4 n1 i hi,key h3 h4 n2 i hi⟩,fun i hi=>fun hj=>key h5 h1 n3 i hj hi⟩
def coverD (lo:List Nat) (ops:Array Oper) (loose:Bool) (ps:List (Nat × Nat)):Bool:=
 ops.toList.zipIdx.all fun (o,j)=>ops.toList.zipIdx.all fun (p,i)=>!decide (i < j) || ((Region.before ops).getD j 0).testBit i || pairOkL lo ops loose p o || ps.contains (i,j)
def DJ (t:Tr AV):Option Oper→Option Oper→Prop
 | some a,some b=>djT t a b = true
 | _,_=>True
def PD (t:Tr AV) (ops:Array Oper):List (Nat × Nat)→Prop
 | []=>True
 | q :: r=>DJ t ops[q.1]? ops[q.2]?∧PD t ops r
theorem PD.mem {t:Tr AV} {ops:Array Oper} {i j:Nat} {a b:Oper} (h1:ops[i]? = some a) (h2:ops[j]? = some b):∀ (ps:List (Nat × Nat)),PD t ops ps→(i,j)∈ps→djT t a b = true:=by
 intro ps
 induction ps with
 | nil=>intro _ hm;cases hm
 | cons q r ih=>
  intro h hm
  rcases List.mem_cons.1 hm with e | hm
  ·subst e
   have h0:DJ t ops[i]? ops[j]?:=h.1
   rw [h1,h2] at h0
   exact h0
  ·exact ih h.2 hm
theorem dynOk_of {t:Tr AV} {lo:List Nat} {ops:Array Oper} {loose:Bool} (ps:List (Nat × Nat)) (hp:coverD lo ops loose ps = true) (h:PD t ops ps):dynOk lo ops loose t = true:=by
 unfold coverD at hp
 unfold dynOk
 rw [List.all_eq_true] at hp ⊢
 intro q1 h1
 have hp1:=hp q1 h1
 rw [List.all_eq_true] at hp1 ⊢
 intro q2 h2
 have hp2:=hp1 q2 h2
 obtain ⟨o,j⟩:=q1
 obtain ⟨p,i⟩:=q2
 simp only [Bool.or_eq_true] at hp2 ⊢
 rcases hp2 with g | g
 ·exact .inl g
 ·right
  rw [List.mem_zipIdx_iff_getElem?] at h1 h2
  simp only [Array.getElem?_toList] at h1 h2
  exact PD.mem h2 h1 ps h (List.contains_iff_mem.1 g)
section rules
variable {E:Env} {lo:List Nat} {fl:Nat} {loose:Nat→Bool} {lim:Option Nat} {ops:Array Oper} {os:List Oper}
variable {l:LE} {m:Mem} {n n0:Nat} {K:LE→Mem→Nat→Prop} {Q:AE→LE→Mem→Nat→Prop}
variable {α:Type} {A:Lay α} {L M:List α} {d:Nat} {ty t:TypeId} {pos:String} {af:Array Edge} {S:Cx fl}
theorem WC.drawDN {id:Nat} (hp:plainOps ops = false) (h:WO E (tgt lo id) fl (some n) ops ops.toList l m n (fun l' m' n'=>(∀ t,Sees t l'→dynOk lo ops (lo.contains id) t = true)∧Q .normal l' m' n')) (hg:gId lo id = false:=by rfl):WC E lo fl (.region id ops true) l m n Q:=WC.drawD h hg
theorem WO.bsD {len:Nat} {ps:Array (Nat × Operand)} {cs:List SV} (id:Nat) (hin:allK l (.buildSlice t len ps) = true) (hop:opA E (fun _ _ _ _ _=>none) fl lim (evL l) S.m S.n (.buildSlice t len ps) = some (.sc (.sl S.n 0 len len A.sz),S.m.set S.n cs,S.n + 1)) (hL:M.length = len)
 (hR:RL A S.fz S.m M cs) (hid:Nat.beq id 0 = false)
 (h:∀ v' S',GE S.n v'→Ch id S S'→Ow A S' id v' M→WO E loose fl lim ops os ((d,.sc v') :: l) S'.m S'.n K):WO E loose fl lim ops (⟨some d,.buildSlice t len ps,ty,pos,af,none⟩ :: os) l S.m S.n K:=by
 have hid:id≠0:=fun e=>by subst e;cases hid
 subst hL
 have hl:=hR.length
 obtain ⟨S',e1,e2,h7,h8⟩:=Ow.fresh (S:=S) (cs:=cs) (c:=M.length) (by rw [← hl,List.take_length];exact hR) hid (by simp) hl
 refine WO.do hin hop ?_
 rw [← e1,← e2]
 exact h _ S' (fun b hb=>by cases hb;exact Nat.le_refl _) h7 h8
end rules
section resc
variable {E:Env} {l l0:LE} {m:Mem} {rs:List ResultVar} {vs:List AV} {fl id:Nat} {S:Cx fl} {v:SV} {cs:List SV}
theorem resK_t {t:Nat} {w:AV} (hc:Cov l l0) (h:lk l0 t = some w) (r:resK E l m rs = some vs):resK E l m (.tmp t :: rs) = some (w :: vs):=by
 simp only [resK,hc _ _ h,r]
theorem resK_w {a t sz:Nat} (hs:Bw S id v cs) (hc:Cov l l0) (h1:lk l0 a = some (.sc v)) (hT:aggT E t sz = true) (hl:Nat.beq sz cs.length = true) (r:resK E l S.m rs = some vs):resK E l S.m (.cell a t :: rs) = some (.agg cs :: vs):=by
 obtain ⟨y,q1,q2,q3,_⟩:=aggT_ok hT
 obtain ⟨b,rfl,_,_,_,h5⟩:=hs
 have hl:=Nat.eq_of_beq_eq_true hl
 simp only [resK,hc _ _ h1,r,loadA,limOk,if_true,h5,part,q1,q2,q3,Nat.zero_add,hl,Nat.le_refl,List.drop_zero,Option.map_some]
 rw [List.take_of_length_le (by omega)]
theorem resK_w1 {a t:Nat} {s:SV} (hs:Bw S id v [s]) (hc:Cov l l0) (h1:lk l0 a = some (.sc v)) (hT:oneT E t = true) (r:resK E l S.m rs = some vs):resK E l S.m (.cell a t :: rs) = some (.sc s :: vs):=by
 obtain ⟨y,q1,q2,q3,_⟩:=oneT_ok hT
 obtain ⟨b,rfl,_,_,_,h5⟩:=hs
 have q:¬ (y.kind = 5∨y.kind = 6):=fun h=>h.elim q2 q3
 simp only [resK,hc _ _ h1,r,loadA,limOk,if_true,h5,part,q1]
 rw [if_neg q];rfl
end resc
section rules
variable {E:Env} {lo:List Nat} {fl:Nat} {loose:Nat→Bool} {lim:Option Nat} {ops:Array Oper} {os:List Oper}
variable {l:LE} {m m0:Mem} {n n0:Nat} {K:LE→Mem→Nat→Prop}
variable {d:Nat} {ty t:TypeId} {pos:String} {af:Array Edge} {x y:Operand} {v w:SV} {k k':IntKind} {s:SV}
variable {α:Type} {A:Lay α} {S:Cx fl} {L L' M:List α} {u:α} {j b q:Nat} {id:Nat}
theorem WO.slcO {hi':Int} {y2:Operand} (hx:evK l x = some (.sc v)) (hhi:evK l y2 = some (.sc (.int k hi'))) (hs:Ow A S id v L) (hM:sub? L 0 hi' = some M) (hT:slTs E t A.sz = true)
 (h:∀ w,Ow A S id w M→WO E loose fl lim ops os ((d,.sc w) :: l) S.m S.n K):WO E loose fl lim ops (⟨some d,.slice t x none (some y2) none,ty,pos,af,none⟩ :: os) l S.m S.n K:=by
 obtain ⟨⟨_,q1,q2⟩,rfl⟩:=sub?_some hM
 rcases hs with ⟨rfl,rfl⟩ | ⟨b,c,cs,rfl,h2,h3,h4,h5,h6,h7,h8⟩
 ·simp only [List.length_nil] at q2
  have e0:hi' = 0:=by omega
  subst e0
  obtain ⟨yt,e,e1,e2,e3,e4,_⟩:=slTs_ok hT
  refine ⟨fun tt ht=>W_op2 ?_ ((h .nils (.inl ⟨rfl,by simp⟩)).put ht)⟩
  simp only [opA,orA,evK_ev ht hx,evK_ev ht hhi,Option.map_some,Option.map_none,sliceA,e1,e2,e3,e4,boundA]
  simp
 ·refine WO.slHto hx hhi ⟨q1,by omega⟩ hT (h _ (.inr ⟨b,c,cs,?_,h2,h3,h4,?_,h6,h7,?_⟩))
  ·simp only [Int.toNat_zero,List.drop_zero,List.length_take]
   rw [Nat.min_eq_left (by omega)]
  ·simp only [Int.toNat_zero,List.drop_zero,List.length_take];omega
  ·have:=RL.take hi'.toNat h8
   rw [List.take_take,Nat.min_eq_left (Nat.mul_le_mul_right _ (by omega))] at this
   simp only [Int.toNat_zero,List.drop_zero,List.length_take]
   rw [Nat.min_eq_left (by omega)]
   exact this
theorem Bk.lt (h:Bk A S id v u):Lt v S.n:=by obtain ⟨b,cs,rfl,_,h4,_⟩:=h;intro c hc;cases hc;exact h4
theorem Rp.lt (h:Rp A S v u):Lt v S.n:=by obtain ⟨b,cs,rfl,h4,_⟩:=h;intro c hc;cases hc;exact h4.1
theorem WO.ldBz {sz:Nat} {f:α→List SV} {hf:∀ a,(f a).length = sz} {p:SV} (hx:evK l x = some (.sc p)) (hp:p = ptrAt v j q) (hs:Bk (Lay.flat sz f hf) S id v u) (hc:(f u)[q]? = some s) (hT:oneT E t = true) (hv:Lt v n0) (hl:limLe lim n0 = true)
 (h:WO E loose fl lim ops os ((d,.sc s) :: l) S.m S.n K):WO E loose fl lim ops (⟨some d,.load t x,ty,pos,af,none⟩ :: os) l S.m S.n K:=⟨fun tt ht=>by
 subst hp
 obtain ⟨y,h1,h2,h3,_⟩:=oneT_ok hT
 refine W_op2 ?_ (h.put ht)
 obtain ⟨b,cs,rfl,_,h4,_,h5,h6⟩:=hs
 have h6:cs = f u:=h6
 subst h6
 simp only [opA,orA,evK_ev ht hx,ptrAt,loadA,hv.lim hl rfl,if_true,h5,part,h1,h2,h3,or_self,if_false,Nat.zero_add,hc,Option.map_some]⟩
theorem WO.ldBAz {sz:Nat} {f:α→List SV} {hf:∀ a,(f a).length = sz} {p:SV} (hx:evK l x = some (.sc p)) (hp:p = ptrAt v j 0) (hs:Bk (Lay.flat sz f hf) S id v u) (hT:aggT E t sz = true) (hv:Lt v n0) (hl:limLe lim n0 = true)
 (h:WO E loose fl lim ops os ((d,.agg (f u)) :: l) S.m S.n K):WO E loose fl lim ops (⟨some d,.load t x,ty,pos,af,none⟩ :: os) l S.m S.n K:=⟨fun tt ht=>by
 subst hp
 obtain ⟨y,h1,h2,h3,_⟩:=aggT_ok hT
 refine W_op2 ?_ (h.put ht)
 obtain ⟨b,cs,rfl,_,h4,_,h5,h6⟩:=hs
 have h6:cs = f u:=h6
 subst h6
 have:=hf u
 simp only [opA,orA,evK_ev ht hx,ptrAt,loadA,hv.lim hl rfl,if_true,h5,part,h1,h2,h3,Nat.zero_add,this,Nat.le_refl,List.drop_zero,Option.map_some]
 rw [List.take_of_length_le (by omega)]⟩
def Cx.up {fl:Nat} (S:Cx fl) (l:List (Nat × Nat)):Cx S.n:=⟨S.m,S.n,fun i=>sg l (S.ow i),Nat.le_refl _⟩
def Cx.low {f f':Nat} (S:Cx f) (h:f'≤f):Cx f':=⟨S.m,S.n,S.ow,Nat.le_trans h S.le⟩
section up
variable {lq:List (Nat × Nat)}
theorem fz_up:∀ i,S.fz i→(S.up lq).fz i∧(S.up lq).m.get i = S.m.get i:=fun i ⟨h1,h2⟩=>⟨⟨h1,by show sg lq (S.ow i) = 0;rw [h2];rfl⟩,rfl⟩
theorem Rd.up (h:Rd A S v L):Rd A (S.up lq) v L:=RO.to h fz_up fz_up
theorem Ow.low {f f':Nat} {S':Cx f} {hf:f'≤f} (h:Ow A S' id v L):Ow A (S'.low hf) id v L:=by
 rcases h with h | ⟨b,c',cs,h1,h2,h3,h4,h5,h6,h7,h8⟩
 ·exact .inl h
 ·exact .inr ⟨b,c',cs,h1,Nat.le_trans hf h2,h3,h4,h5,h6,h7,h8⟩
theorem Rd.low {f f':Nat} {S':Cx f} {hf:f'≤f} (h:Rd A S' v L):Rd A (S'.low hf) v L:=h
theorem Tw.low {f f' r:Nat} {S':Cx f} {hf:f'≤f} {LL:List (List α)} (h:Tw A S' id r v LL):Tw A (S'.low hf) id r v LL:=by
 obtain ⟨H,h1,h2⟩:=h
 exact ⟨H,h1.low,h2.len,fun i w R a b e=>(h2.row i w R a b e).low,h2.sep⟩
end up
theorem Bk.ren (h:Bk A S id v u) (j:Nat) (hk:Nat.beq id 0 = false:=by rfl) (hj:Nat.beq j 0 = false:=by rfl):Bk A (S.ren id j) j v u:=by
 have hk:id≠0:=fun e=>by subst e;cases hk
 have hj:j≠0:=fun e=>by subst e;cases hj
 obtain ⟨b,cs,h1,h2,h3,h4,h6,h8⟩:=h
 exact ⟨b,cs,h1,h2,h3,by simp only [Cx.ren];rw [if_pos h4],h6,A.frame h8 (fz_ren id j hk hj)⟩
end rules
theorem wrapA_in {a:Int} (h1:-9223372036854775808≤a) (h2:a≤9223372036854775807):wrapA .i64 a = a:=if_pos ⟨h1,h2⟩
theorem wrapA_id {a:Int} (h1:0≤a) (h2:a≤549755813888):wrapA .i64 a = a:=wrapA_in (by omega) (by omega)
def ddF {α:Type} (eq:α→α→Option Bool):α→List α→Option (List α)
 | _,[]=>some []
 | p,x :: r=>(eq x p).bind fun q=>(ddF eq x r).bind fun M=>some (if q then M else x :: M)
def compF? {α:Type} (eq:α→α→Option Bool):List α→Option (List α)
 | []=>some []
 | a :: r=>if (a :: r).length≤1152921504606846976 then (ddF eq a r).bind fun M=>some (a :: M) else none
section dd
variable {α:Type} {eq:α→α→Option Bool} {T r L:List α} {k i:Nat}
theorem ddF_mono {eq':α→α→Option Bool} (h:∀ x y q,eq x y = some q→eq' x y = some q):∀ {p:α} {L M:List α},ddF eq p L = some M→ddF eq' p L = some M
 | _,[],_,hm=>hm
 | p,x :: r,M,hm=>by
  unfold ddF at hm ⊢
  obtain ⟨q,e1,hm⟩:=bindS hm
  obtain ⟨M',e2,hm⟩:=bindS hm
  rw [h _ _ _ e1,Option.bind_some,ddF_mono h e2];exact hm
theorem compF?_mono {eq':α→α→Option Bool} (h:∀ x y q,eq x y = some q→eq' x y = some q) {M:List α} (hm:compF? eq T = some M):compF? eq' T = some M:=by
 match T,hm with
 | [],hm=>exact hm
 | a :: r,hm=>
  simp only [compF?] at hm ⊢
  split at hm
  ·rename_i hb
   obtain ⟨M',e2,hm⟩:=bindS hm
   rw [if_pos hb,ddF_mono h e2];exact hm
  ·cases hm
end dd
section rules
variable {E:Env} {lo:List Nat} {fl:Nat} {loose:Nat→Bool} {lim:Option Nat} {ops:Array Oper} {os:List Oper}
variable {l:LE} {m:Mem} {n:Nat} {K:LE→Mem→Nat→Prop}
variable {d:Nat} {ty t t1:TypeId} {pos:String} {af:Array Edge} {x y i:Operand} {v w:SV} {k k':IntKind} {a b:Int}
variable {α:Type} {A:Lay α} {S:Cx fl} {L L' M:List α} {j q:Nat} {u:α} {s:SV} {id:Nat}
def slTb (E:Env) (t sz bnd:Nat):Bool:=slTs E t sz && (match E.ty t with
 | some y=>(match E.ty y.elem with
  | some e=>decide (bnd * e.bytes≤140737488355328)
  | none=>false)
 | none=>false)
theorem WO.appN {y2:Operand} {zo:Nat→Prop} {bnd:Nat} (hx:evK l x = some (.sc v)) (hy:evK l y2 = some (.sc w)) (hs:Ow A S id v []) (hs2:RO A zo S.fz S.m w L') (hM:L'.length≤bnd) (hb:bnd≤9223372036854775807) (hT:slTb E t A.sz bnd = true) (hid:Nat.beq id 0 = false)
 (h:∀ v' S',Ch id S S'→Ow A S' id v' L'→WO E loose fl lim ops os ((d,.sc v') :: l) S'.m S'.n K):
 WO E loose fl lim ops (⟨some d,.call ⟨.builtin .append,#[x,y2],#[t,t]⟩,ty,pos,af,none⟩ :: os) l S.m S.n K:=⟨fun tt ht=>by
 have hid:id≠0:=fun e=>by subst e;cases hid
 unfold slTb at hT
 simp only [Bool.and_eq_true] at hT
 obtain ⟨hT,hT2⟩:=hT
 obtain ⟨z,e,h1,h2,h3,h4,h5,h5',h6⟩:=slTs_ok hT
 simp only [h1,h3,decide_eq_true_eq] at hT2
 obtain ⟨new,q1,q2⟩:=hs2.elems
 obtain ⟨old,q3,q4⟩:=hs.ro.elems
 have holdc:∀ b c,v = .sl b 0 ([]:List α).length c A.sz→∀ cs,S.m.get b = some cs→old = cs.take (([]:List α).length * A.sz):=by
  intro b c e cs hcs
  subst e
  simp only [elemsA,hcs] at q3
  rw [if_neg (by simp)] at q3
  split at q3
  ·cases q3;rfl
  ·cases q3
 have hby:(([]:List α).length + L'.length) * e.bytes≤140737488355328:=by
  rw [List.length_nil,Nat.zero_add];exact Nat.le_trans (Nat.mul_le_mul_right _ hM) hT2
 obtain ⟨v',S',q5,q6,q7⟩:=hs.app0 hid q2 h4 hby (by simp;omega) q4 holdc
 refine W_op2 (m':=S'.m) (n':=S'.n) ?_ ((h v' S' q6 q7).put ht)
 simp only [opA,orA,callA,builtinA,List.map_cons,List.map_nil,evK_ev ht hx,evK_ev ht hy]
 simp only [List.getElem?_toArray,List.getElem?_cons_zero,List.getElem?_cons_succ,if_true,appendA,h1,h2,h3,h4,h5]
 rw [q3,q1]
 simpa [h5'] using q5⟩
end rules
section g
variable {E:Env} {lo:List Nat} {fl:Nat} {loose:Nat→Bool} {lim:Option Nat} {ops:Array Oper} {os o1 o2:List Oper} {R:List Nat}
theorem opA_nocall {c c':CallF} {lim:Option Nat} {ev:Operand→AV} {m:Mem} {n:Nat} {op:Op} (h:cls op≠3):opA E c fl lim ev m n op = opA E c' fl lim ev m n op:=by
 cases op with
 | call q=>
  obtain ⟨callee,xs,ats⟩:=q
  cases callee with
  | value f=>exact (h rfl).elim
  | _=>rfl
 | _=>rfl
theorem opsA_nocall {c c':CallF}:∀ (os:List Oper) (s:St),(os.all fun o=>cls o.op != 3) = true→opsA E c fl lim ops os s = opsA E c' fl lim ops os s
 | [],_,_=>rfl
 | o :: os,s,h=>by
  simp only [List.all_cons,Bool.and_eq_true,bne_iff_ne] at h
  have h1:stepA E c fl lim ops o s = stepA E c' fl lim ops o s:=by
   unfold stepA
   rw [opA_nocall h.1]
  simp only [opsA,h1]
  split
  ·exact opsA_nocall os _ h.2
  ·rfl
theorem opsA_app {c:CallF}:∀ (o1:List Oper) {o2:List Oper} {s s1 s2:St},opsA E c fl lim ops o1 s = some s1→opsA E c fl lim ops o2 s1 = some s2→opsA E c fl lim ops (o1 ++ o2) s = some s2
 | [],_,_,_,_,h1,h2=>by simp only [opsA] at h1;cases h1;exact h2
 | o :: r,o2,s,s1,s2,h1,h2=>by
  simp only [opsA,List.cons_append] at h1 ⊢
  split at h1
  ·exact opsA_app r h1 h2
  ·cases h1
theorem callG_le {c c':CallF} (h:CallLe c c') (R:List Nat):CallLe (callG R c) (callG R c'):=by
 intro fl f args m n r hc
 obtain ⟨h1,h2⟩:=callG_some hc
 exact callG_mk (h _ _ _ _ _ _ h1) h2
theorem callG_sub {c:CallF} {R R':List Nat} (h:∀ q∈R',q∈R):CallLe (callG R c) (callG R' c):=by
 intro fl f args m n r hc
 obtain ⟨h1,h2⟩:=callG_some hc
 exact callG_mk h1 fun q hq=>h2 q (h q hq)
def OpsG (E:Env) (R:List Nat) (loose:Nat→Bool) (fl:Nat) (lim:Option Nat) (ops:Array Oper) (os:List Oper) (s:St) (Q:St→Prop):Prop:=∃ k s',opsA E (callG R (callD (callF E k) loose)) fl lim ops os s = some s'∧Q s'
theorem OpsG.pre {s:St} {Q:St→Prop} (hc:(o1.all fun o=>cls o.op != 3) = true) (h:Ops E loose fl lim ops o1 s fun s'=>OpsG E R loose fl lim ops o2 s' Q):OpsG E R loose fl lim ops (o1 ++ o2) s Q:=by
 obtain ⟨k1,s1,h1,k2,s2,h2,h3⟩:=h
 exact ⟨k2,s2,opsA_app o1 ((opsA_nocall o1 s hc).trans h1) h2,h3⟩
theorem OpsG.nil {s:St} {Q:St→Prop} (h:Q s):OpsG E R loose fl lim ops [] s Q:=⟨0,s,rfl,h⟩
theorem OpsG.call {o:Oper} {s:St} {Q:St→Prop} {f:Operand} {xs:Array Operand} {ats:Array TypeId} {g:Nat} {caps:List (Nat × Nat)} (hop:o.op = .call ⟨.value f,xs,ats⟩) (hw:wantedA ops s o = some true)
 (hf:s.ev f = .sc (.fn g caps)) (h:Ret E (if loose g then max fl s.n else fl) g (xs.toList.map s.ev ++ caps.map fun p=>.sc (.ptr p.1 p.2)) s.m s.n (fun v m' n'=>(∀ q∈R,m'.get q = s.m.get q)∧OpsG E R loose fl lim ops os (s.put o.dst v m' n') Q)):
 OpsG E R loose fl lim ops (o :: os) s Q:=by
 obtain ⟨k1,v,m',n',h1,hR,k2,s',h2,h3⟩:=h
 refine ⟨k1 + k2,s',?_,h3⟩
 have hstep:stepA E (callG R (callD (callF E (k1 + k2)) loose)) fl lim ops o s = some (s.put o.dst v m' n'):=by
  unfold stepA
  rw [hw]
  have:=callG_mk (R:=R) (call:=callD (callF E (k1 + k2)) loose) (fl:=fl) (f:=g) (args:=xs.toList.map s.ev ++ caps.map fun p=>.sc (.ptr p.1 p.2)) (m:=s.m) (n:=s.n) (r:=(v,m',n')) (callLe_more k1 k2 _ _ _ _ _ _ h1) hR
  simp only [hop,opA,callA,hf,this]
 simp only [opsA,hstep]
 rw [Nat.add_comm]
 exact opsA_le (callG_le (callD_le (callLe_more k2 k1) _) _) _ _ _ h2
theorem Runs.drawG {id:Nat} {s:St} {Q:AE→St→Prop} (hg:gId lo id = true) (hd:dynId lo id = false) (hR:∀ q∈rdB s.t ops,q∈R) (h:OpsG E R (tgt lo id) fl (some s.n) ops ops.toList s (Q .normal)):Runs E lo fl (.region id ops true) s Q:=by
 obtain ⟨k,s',h1,h2⟩:=h
 refine ⟨k + 1,.normal,s',?_,h2⟩
 rw [run_region]
 simp only [if_true]
 have:callR lo id ops s.t (callF E k) = callG (rdB s.t ops) (callD (callF E k) (tgt lo id)):=by unfold callR;rw [hg];rfl
 rw [this,opsA_le (callG_sub hR) _ _ _ h1,Option.bind_some,chkD,hd];rfl
structure WOG (E:Env) (R:List Nat) (loose:Nat→Bool) (fl:Nat) (lim:Option Nat) (ops:Array Oper) (os:List Oper) (l:LE) (m:Mem) (n:Nat) (K:LE→Mem→Nat→Prop):Prop where
 ok:∀ t,Sees t l→OpsG E R loose fl lim ops os ⟨t,m,n⟩ fun s=>∃ l',Sees s.t l'∧K l' s.m s.n
variable {l:LE} {m:Mem} {n:Nat} {K:LE→Mem→Nat→Prop} {Q:AE→LE→Mem→Nat→Prop} {d:Nat} {ty:TypeId} {pos:String} {af:Array Edge}
theorem WOG.nil (h:K l m n):WOG E R loose fl lim ops [] l m n K:=⟨fun _ ht=>OpsG.nil ⟨l,ht,h⟩⟩
theorem WOG.pre (hc:(o1.all fun o=>cls o.op != 3) = true) (h:WO E loose fl lim ops o1 l m n fun l' m' n'=>WOG E R loose fl lim ops o2 l' m' n' K):WOG E R loose fl lim ops (o1 ++ o2) l m n K:=by
 constructor
 intro t ht
 refine OpsG.pre hc ?_
 obtain ⟨k,s',h1,l',h2,h3⟩:=h.ok t ht
 exact ⟨k,s',h1,h3.ok _ h2⟩
theorem WOG.call {f:Operand} {xs:Array Operand} {ats:Array TypeId} {g:Nat} {caps:List (Nat × Nat)} {args:List AV} (hf:evK l f = some (.sc (.fn g caps))) (ha:xs.toList.mapM (evK l) = some args)
 (h:Ret E (if loose g then max fl n else fl) g (args ++ caps.map fun p=>.sc (.ptr p.1 p.2)) m n (fun v m' n'=>(∀ q∈R,m'.get q = m.get q)∧WOG E R loose fl lim ops os ((d,v) :: l) m' n' K)):
 WOG E R loose fl lim ops (⟨some d,.call ⟨.value f,xs,ats⟩,ty,pos,af,none⟩ :: os) l m n K:=by
 constructor
 intro t ht
 have hm:∀ (ys:List Operand) (args:List AV),ys.mapM (evK l) = some args→ys.map (St.ev ⟨t,m,n⟩) = args:=by
  intro ys
  induction ys with
  | nil=>intro args h;cases h;rfl
  | cons y ys ih=>
   intro args h
   rw [List.mapM_cons] at h
   obtain ⟨v,h1,h2⟩:=Option.bind_eq_some_iff.1 h
   obtain ⟨vs,h3,h4⟩:=Option.bind_eq_some_iff.1 h2
   cases h4
   rw [List.map_cons,ih vs h3,evK_ev ht h1]
 refine OpsG.call rfl rfl (evK_ev ht hf) ?_
 rw [hm _ _ ha]
 exact h.mono fun v m' n' h'=>⟨h'.1,h'.2.ok _ (ht.set d v)⟩
theorem WOG.split (k:Nat) (hc:((os.take k).all fun o=>cls o.op != 3) = true) (h:WO E loose fl lim ops (os.take k) l m n fun l' m' n'=>WOG E R loose fl lim ops (os.drop k) l' m' n' K):WOG E R loose fl lim ops os l m n K:=by
 rw [← List.take_append_drop k os]
 exact WOG.pre hc h
theorem WC.drawG {id:Nat} (R:List Nat) (hg:gId lo id = true) (hd:dynId lo id = false) (hp:plainOps ops = false) (hR:∀ t,Sees t l→∀ q∈rdB t ops,q∈R) (h:WOG E R (tgt lo id) fl (some n) ops ops.toList l m n (Q .normal)):WC E lo fl (.region id ops true) l m n Q:=
 ⟨fun t ht=>Runs.drawG (R:=R) hg hd (hR t ht) (h.ok t ht)⟩
end g
section vec
variable {E:Env} {lo:List Nat} {fl:Nat} {loose:Nat→Bool} {lim:Option Nat} {ops:Array Oper} {os:List Oper} {l:LE} {m:Mem} {n id:Nat} {K:LE→Mem→Nat→Prop} {d:Nat} {ty t:TypeId} {pos:String} {af:Array Edge} {x i:Operand} {v:SV} {S:Cx fl} {k:IntKind} {a:Int}
theorem WO.ldV {α:Type} {N j:Nat} {g:α→SV} {L:List α} {p:SV} (hx:evK l x = some (.sc p)) (hp:p = ptrAt v j 0) (hs:Bk (Lay.arr N g) S id v L) (hT:aggT E t N = true) (hl:limLe lim S.n = true)
 (h:L.length = N→WO E loose fl lim ops os ((d,.agg (L.map g)) :: l) S.m S.n K):WO E loose fl lim ops (⟨some d,.load t x,ty,pos,af,none⟩ :: os) l S.m S.n K:=⟨fun tt ht=>by
 subst hp
 obtain ⟨y,h1,h2,h3,_⟩:=aggT_ok hT
 obtain ⟨b,cs,rfl,_,h4,_,h5,h6,rfl⟩:=hs
 refine W_op2 ?_ ((h h6).put ht)
 simp only [opA,evK_ev ht hx,ptrAt,loadA,limOk_of hl h4,if_true,h5,part,h1,h2,h3,Nat.zero_add,List.length_map,h6,Nat.le_refl,List.drop_zero,Option.map_some]
 rw [List.take_of_length_le (by rw [List.length_map];omega)]⟩
end vec
section mp
variable {E:Env} {fl:Nat} {loose:Nat→Bool} {lim:Option Nat} {ops:Array Oper} {os:List Oper} {l:LE} {m:Mem} {n:Nat} {K:LE→Mem→Nat→Prop} {d:Nat} {ty t:TypeId} {pos:String} {af:Array Edge} {x i z:Operand} {y:Mt} {b:Nat}
theorem WO.lkM {ok:Bool} {kv:AV} {kc r:List SV} {v:AV} (hx:evK l x = some (.sc (.mp b))) (hi:evK l i = some kv) (hT:E.mp t = some y) (hk:keyA y kv = some kc) (hb:m.get b = some (mhd y :: r)) (hv:lookR y ok kc r = v)
 (h:WO E loose fl lim ops os ((d,v) :: l) m n K):WO E loose fl lim ops (⟨some d,.lookup t x i ok,ty,pos,af,none⟩ :: os) l m n K:=⟨fun tt ht=>by
 refine W_op2 ?_ (h.put ht)
 simp only [opA,evK_ev ht hx,evK_ev ht hi,lookupA,hT,hk,hb,if_true,hv,Option.map_some]⟩
theorem WO.inM {kv:AV} {kc r:List SV} {s:SV} (hx:evK l x = some (.sc (.mp b))) (hi:evK l i = some kv) (hz:evK l z = some (.sc s)) (hT:E.mp t = some y) (hk:keyA y kv = some kc) (hb:m.get b = some (mhd y :: r)) (hfl:fl≤b)
 (h:WO E loose fl lim ops os l (m.set b (mhd y :: putR y kc r s)) n K):WO E loose fl lim ops (⟨none,.insert t x i z,ty,pos,af,none⟩ :: os) l m n K:=⟨fun tt ht=>by
 refine W_op2 (v:=.tup []) (n':=n) ?_ (h.ok tt ht)
 simp only [opA,evK_ev ht hx,evK_ev ht hi,evK_ev ht hz,updateA,hT,hk,hb,hfl,true_and,if_true,Option.map_some]⟩
end mp
structure ML (κ ν:Type) where
 y:Mt
 ek:κ→List SV
 ev:ν→SV
 dz:ν
 hz:y.zero = ev dz
 inj:∀ a b,ek a = ek b→a = b
def ML.enc {κ ν:Type} (A:ML κ ν) (e:κ × ν):Ent:=(A.ek e.1,A.ev e.2)
def mget {κ ν:Type} [DecidableEq κ]:List (κ × ν)→κ→Option ν
 | [],_=>none
 | e :: r,k=>if e.1 = k then some e.2 else mget r k
def mput {κ ν:Type} [DecidableEq κ]:List (κ × ν)→κ→ν→List (κ × ν)
 | [],k,v=>[(k,v)]
 | e :: r,k,v=>if e.1 = k then (e.1,v) :: r else e :: mput r k v
def keyS? (s:List UInt8):Option Unit:=if s.length≤9223372036854775807 then some () else none
theorem keyS?_ok {s:List UInt8} {u:Unit} {z:SV} (h:keyS? s = some u):keyA ⟨3,.i64,1,z⟩ (.sc (.str s)) = some [.str s]:=by
 unfold keyS? at h
 split at h
 ·rename_i hq
  have h2:keyCellOk ⟨3,.i64,1,z⟩ (.str s) = true:=by
   show (3 == 3 && decide (s.length≤9223372036854775807)) = true
   rw [decide_eq_true hq];rfl
  simp only [keyA,h2];rfl
 ·cases h
theorem strKey_inj (a b:List UInt8) (h:[SV.str a] = [SV.str b]):a = b:=by injection h with h _;injection h
def mlS:ML (List UInt8) Int:=⟨⟨3,.i64,1,.int .i64 0⟩,fun s=>[.str s],SV.int .i64,0,rfl,strKey_inj⟩
section find
variable {κ ν:Type} [DecidableEq κ] {A:ML κ ν}
theorem lookM:∀ {L:List (κ × ν)} {k:κ} (f:Nat),(∀ e∈L,(A.ek e.1).length = A.y.ks)→L.length≤f →
 (findE A.y.ks (A.ek k) f (flatE (L.map A.enc)) = none∧mget L k = none∧∀ v,mput L k v = L ++ [(k,v)]) ∨
 ∃ (j:Nat) (e:κ × ν),findE A.y.ks (A.ek k) f (flatE (L.map A.enc)) = some j∧L[j]? = some e∧mget L k = some e.2∧∀ v,mput L k v = L.set j (e.1,v)
 | [],k,f,_,_=>by
  left
  refine ⟨?_,rfl,fun _=>rfl⟩
  cases f <;> simp [findE,flatE]
 | e :: r,k,f,h,hf=>by
  obtain ⟨f,rfl⟩:∃ q,f = q + 1:=⟨f - 1,by simp at hf;omega⟩
  have he:(A.enc e).1.length = A.y.ks:=h e (by simp)
  have hl:¬ (flatE ((A.enc e) :: r.map A.enc)).length < A.y.ks + 1:=by
   rw [flatE_cons,List.length_append,List.length_cons,he];omega
  simp only [findE,List.map_cons]
  rw [if_neg hl,flatE_take he,flatE_drop he]
  by_cases q:e.1 = k
  ·right
   refine ⟨0,e,by rw [if_pos (show (A.enc e).1 = A.ek k from by rw [← q];rfl)],rfl,by simp [mget,q],fun v=>by simp [mput,q]⟩
  ·rw [if_neg (show ¬ (A.enc e).1 = A.ek k from fun e2=>q (A.inj _ _ e2))]
   rcases lookM (L:=r) (k:=k) f (fun x hx=>h x (by simp [hx])) (by simpa using hf) with ⟨h1,h2,h3⟩ | ⟨j,x,h1,h2,h3,h4⟩
   ·left
    exact ⟨by rw [h1];rfl,by simp [mget,q,h2],fun v=>by simp [mput,q,h3]⟩
   ·right
    exact ⟨j + 1,x,by rw [h1];rfl,by simpa using h2,by simp [mget,q,h3],fun v=>by simp [mput,q,h4]⟩
theorem entsLen {L:List (κ × ν)} (h:∀ e∈L,(A.ek e.1).length = A.y.ks):∀ e∈L.map A.enc,e.1.length = A.y.ks:=by
 intro e he
 obtain ⟨x,hx,rfl⟩:=List.mem_map.1 he
 exact h x hx
theorem lookR_m {L:List (κ × ν)} {k:κ} (h:∀ e∈L,(A.ek e.1).length = A.y.ks) (ok:Bool):
 lookR A.y ok (A.ek k) (flatE (L.map A.enc)) = if ok then .tup [.sc (A.ev ((mget L k).getD A.dz)),.sc (.bool (mget L k).isSome)] else .sc (A.ev ((mget L k).getD A.dz)):=by
 have hen:=entsLen h
 rcases lookM (k:=k) (flatE (L.map A.enc)).length h (by rw [flatE_len hen,List.length_map];exact Nat.le_mul_of_pos_right _ (by omega)) with ⟨h1,h2,_⟩ | ⟨j,e,h1,h2,h3,_⟩
 ·unfold lookR;rw [h1,h2];simp only [A.hz,Option.getD_none,Option.isSome_none]
 ·unfold lookR
  rw [h1,h3]
  simp only
  rw [flatE_get j (e:=A.enc e) hen (by rw [List.getElem?_map,h2];rfl)]
  rfl
theorem putR_m {L:List (κ × ν)} {k:κ} {v:ν} (h:∀ e∈L,(A.ek e.1).length = A.y.ks):putR A.y (A.ek k) (flatE (L.map A.enc)) (A.ev v) = flatE ((mput L k v).map A.enc):=by
 have hen:=entsLen h
 rcases lookM (k:=k) (flatE (L.map A.enc)).length h (by rw [flatE_len hen,List.length_map];exact Nat.le_mul_of_pos_right _ (by omega)) with ⟨h1,_,h2⟩ | ⟨j,e,h1,h2,_,h3⟩
 ·unfold putR;rw [h1,h2];simp only [List.map_append,List.map_cons,List.map_nil];rw [flatE_app];rfl
 ·unfold putR
  rw [h1,h3]
  simp only
  rw [flatE_set j (e:=A.enc e) (A.ev v) hen (by rw [List.getElem?_map,h2];rfl),List.map_set];rfl
theorem mput_mem {L:List (κ × ν)} {k:κ} {v:ν}:∀ e∈mput L k v,e.1 = k∨∃ x∈L,x.1 = e.1:=by
 induction L with
 | nil=>intro e he;simp [mput] at he;exact .inl (by rw [he])
 | cons x r ih=>
  intro e he
  unfold mput at he
  split at he
  ·rcases List.mem_cons.1 he with rfl | h
   ·exact .inr ⟨x,by simp,rfl⟩
   ·exact .inr ⟨e,by simp [h],rfl⟩
  ·rcases List.mem_cons.1 he with rfl | h
   ·exact .inr ⟨e,by simp,rfl⟩
   ·rcases ih e h with h | ⟨y,h1,h2⟩
    ·exact .inl h
    ·exact .inr ⟨y,by simp [h1],h2⟩
end find
def Mp {κ ν:Type} {fl:Nat} (A:ML κ ν) (S:Cx fl) (k:Nat) (v:SV) (L:List (κ × ν)):Prop:=
 ∃ b,v = .mp b∧Bw S k (.ptr b 0) (mhd A.y :: flatE (L.map A.enc))∧∀ e∈L,(A.ek e.1).length = A.y.ks
section mp
variable {κ ν:Type} {A:ML κ ν} {fl k j:Nat} {S S':Cx fl} {v:SV} {L:List (κ × ν)}
theorem Mp.to (h:Mp A S j v L) (c:Ch k S S') (hk:Nat.beq k 0 = false:=by rfl) (hj:Nat.beq j k = false:=by rfl):Mp A S' j v L:=by
 obtain ⟨b,h1,h2,h3⟩:=h;exact ⟨b,h1,h2.to c hk hj,h3⟩
theorem Mp.drop (h:Mp A S j v L) (k:Nat) (hj:Nat.beq j k = false:=by rfl):Mp A (S.drop k) j v L:=by
 obtain ⟨b,h1,h2,h3⟩:=h;exact ⟨b,h1,h2.drop k hj,h3⟩
theorem Mp.renO {i:Nat} (h:Mp A S i v L) (k j:Nat) (hk:Nat.beq k 0 = false:=by rfl) (hj:Nat.beq j 0 = false:=by rfl) (hik:Nat.beq i k = false:=by rfl) (hij:Nat.beq i j = false:=by rfl):Mp A (S.ren k j) i v L:=by
 obtain ⟨b,h1,h2,h3⟩:=h;exact ⟨b,h1,h2.renO k j hk hj hik hij,h3⟩
theorem Mp.ren (h:Mp A S k v L) (j:Nat) (hk:Nat.beq k 0 = false:=by rfl) (hj:Nat.beq j 0 = false:=by rfl):Mp A (S.ren k j) j v L:=by
 obtain ⟨b,h1,h2,h3⟩:=h;exact ⟨b,h1,h2.ren j hk hj,h3⟩
theorem Mp.lt (h:Mp A S k v L):Lt v S.n:=by
 obtain ⟨b,rfl,h2,_⟩:=h
 obtain ⟨b',e,_,h3,_⟩:=h2
 cases e;intro c hc;cases hc <;> exact h3
variable {E:Env} {loose:Nat→Bool} {lim:Option Nat} {ops:Array Oper} {os:List Oper} {l:LE} {id:Nat} {K:LE→Mem→Nat→Prop} {d:Nat} {ty t:TypeId} {pos:String} {af:Array Edge} {x i z:Operand} [DecidableEq κ]
theorem WO.mkMp (A:ML κ ν) (id:Nat) (hT:E.mp t = some A.y) (hid:Nat.beq id 0 = false)
 (h:∀ v' S',Ch id S S'→Mp A S' id v' []→WO E loose fl lim ops os ((d,.sc v') :: l) S'.m S'.n K):WO E loose fl lim ops (⟨some d,.makeMap t none,ty,pos,af,none⟩ :: os) l S.m S.n K:=⟨fun tt ht=>by
 have hid:id≠0:=fun e=>by subst e;cases hid
 obtain ⟨S',e1,e2,h7,h8⟩:=Bw.fresh (S:=S) (cs:=[mhd A.y]) hid
 exact W_op2 (m':=S'.m) (n':=S'.n) (by simp only [opA,makeMapA,hT,Option.map_none,e1,e2]) ((h _ S' h7 ⟨_,rfl,h8,fun e he=>by cases he⟩).put ht)⟩
theorem WO.lkMp {q:κ} {kv:AV} (hx:evK l x = some (.sc v)) (hs:Mp A S id v L) (hi:evK l i = some kv) (hT:E.mp t = some A.y) (hk:keyA A.y kv = some (A.ek q))
 (h:WO E loose fl lim ops os ((d,.sc (A.ev ((mget L q).getD A.dz))) :: l) S.m S.n K):WO E loose fl lim ops (⟨some d,.lookup t x i false,ty,pos,af,none⟩ :: os) l S.m S.n K:=by
 obtain ⟨b,rfl,⟨b',e,_,_,_,hm⟩,h2⟩:=hs
 cases e
 exact WO.lkM hx hi hT hk hm ((lookR_m h2 false).trans (if_neg (by decide))) h
theorem Mp.put {q:κ} {u:ν} (hs:Mp A S id v L) (hid:id≠0) (hk:(A.ek q).length = A.y.ks):
 ∃ b,v = .mp b∧fl≤b∧S.m.get b = some (mhd A.y :: flatE (L.map A.enc))∧∃ S':Cx fl,S'.m = S.m.set b (mhd A.y :: putR A.y (A.ek q) (flatE (L.map A.enc)) (A.ev u))∧S'.n = S.n∧Ch id S S'∧Mp A S' id v (mput L q u):=by
 obtain ⟨b,rfl,⟨b',e,h1,h3,h4,hm⟩,h2⟩:=hs
 cases e
 have hch:Ch id S (⟨S.m.set b (mhd A.y :: putR A.y (A.ek q) (flatE (L.map A.enc)) (A.ev u)),S.n,S.ow,S.le⟩:Cx fl):=⟨Nat.le_refl _,fun i hi hk=>⟨rfl,Tr.get_set_ne _ _ (fun e=>hk (by rw [e];exact h4))⟩⟩
 refine ⟨b,rfl,h1,hm,⟨S.m.set b (mhd A.y :: putR A.y (A.ek q) (flatE (L.map A.enc)) (A.ev u)),S.n,S.ow,S.le⟩,rfl,rfl,hch,b,rfl,⟨b,rfl,h1,h3,h4,?_⟩,fun e he=>?_⟩
 ·rw [← putR_m h2];exact Tr.get_set_same _ _ _
 ·rcases mput_mem e he with h | ⟨x,hx,h⟩
  ·rw [h];exact hk
  ·rw [← h];exact h2 x hx
theorem keyA_len {y:Mt} {kv:AV} {kc:List SV} (h:keyA y kv = some kc):kc.length = y.ks:=by
 unfold keyA at h
 split at h
 ·split at h
  ·rename_i hq
   cases h
   simp only [Bool.and_eq_true,beq_iff_eq] at hq
   exact hq.1.2.symm
  ·cases h
 ·split at h
  ·rename_i hq
   cases h
   simp only [Bool.and_eq_true,beq_iff_eq] at hq
   exact hq.1.2
  ·cases h
 ·cases h
theorem WO.inMp {q:κ} {u:ν} {kv:AV} (hx:evK l x = some (.sc v)) (hs:Mp A S id v L) (hi:evK l i = some kv) (hz:evK l z = some (.sc (A.ev u))) (hT:E.mp t = some A.y) (hk:keyA A.y kv = some (A.ek q)) (hid:Nat.beq id 0 = false)
 (h:∀ S',Ch id S S'→Mp A S' id v (mput L q u)→WO E loose fl lim ops os l S'.m S'.n K):WO E loose fl lim ops (⟨none,.insert t x i z,ty,pos,af,none⟩ :: os) l S.m S.n K:=by
 obtain ⟨b,rfl,h1,hm,S',e1,e2,hch,h3⟩:=hs.put (q:=q) (u:=u) (nb hid) (keyA_len hk)
 have:=h S' hch h3
 rw [e1,e2] at this
 exact WO.inM hx hi hz hT hk hm h1 this
end mp
section mpn
variable {fl:Nat} {S S':Cx fl} {v:SV} {E:Env} {loose:Nat→Bool} {lim:Option Nat} {ops:Array Oper} {os:List Oper} {l:LE} {id N:Nat} {K:LE→Mem→Nat→Prop} {d:Nat} {ty t:TypeId} {pos:String} {af:Array Edge} {x i z:Operand} {kv:AV} {u:Int}
theorem WO.lkS {L:List (List UInt8 × Int)} {q:List UInt8} (hx:evK l x = some (.sc v)) (hs:Mp (mlS) S id v L) (hi:evK l i = some kv) (hT:E.mp t = some (mlS).y) (hk:keyA (mlS).y kv = some ((mlS).ek q))
 (h:WO E loose fl lim ops os ((d,.sc (.int .i64 ((mget L q).getD 0))) :: l) S.m S.n K):WO E loose fl lim ops (⟨some d,.lookup t x i false,ty,pos,af,none⟩ :: os) l S.m S.n K:=WO.lkMp hx hs hi hT hk h
theorem WO.inS {L:List (List UInt8 × Int)} {q:List UInt8} (hx:evK l x = some (.sc v)) (hs:Mp (mlS) S id v L) (hi:evK l i = some kv) (hz:evK l z = some (.sc (.int .i64 u))) (hT:E.mp t = some (mlS).y) (hk:keyA (mlS).y kv = some ((mlS).ek q)) (hid:Nat.beq id 0 = false)
 (h:∀ S',Ch id S S'→Mp (mlS) S' id v (mput L q u)→WO E loose fl lim ops os l S'.m S'.n K):WO E loose fl lim ops (⟨none,.insert t x i z,ty,pos,af,none⟩ :: os) l S.m S.n K:=WO.inMp hx hs hi hz hT hk hid h
end mpn
section arr
variable {α:Type} {N:Nat} {g:α→SV} {L M:List α} {fl:Nat} {S S':Cx fl} {v w:SV} {E:Env} {loose:Nat→Bool} {lim:Option Nat} {ops:Array Oper} {os:List Oper} {l l0:LE} {id:Nat} {K:LE→Mem→Nat→Prop} {d:Nat} {ty t:TypeId} {pos:String} {af:Array Edge} {x y:Operand}
theorem WO.stV {p:SV} (hx:evK l x = some (.sc p)) (hp:p = ptrAt v 0 0) (hy:evK l y = some (.agg (M.map g))) (hs:Bk (Lay.arr N g) S id v L) (hM:M.length = N) (hT:aggT E t N = true) (hid:Nat.beq id 0 = false)
 (h:∀ S',Ch id S S'→Bk (Lay.arr N g) S' id v M→WO E loose fl lim ops os l S'.m S'.n K):WO E loose fl lim ops (⟨none,.store t x y,ty,pos,af,none⟩ :: os) l S.m S.n K:=⟨fun tt ht=>by
 have hid:id≠0:=fun e=>by subst e;cases hid
 subst hp
 obtain ⟨z,h1,h2,h3,h4⟩:=aggT_ok hT
 obtain ⟨b,cs,rfl,h5,h6,⟨h7,rfl⟩,S',e1,e2,h8,h9⟩:=hs.put (u':=M) (c:=M.map g) ⟨hM,rfl⟩ hid
 refine W_op2 (v:=.tup []) (m':=S'.m) (n':=S'.n) ?_ ((h S' h8 h9).ok tt ht)
 simp only [opA,evK_ev ht hx,evK_ev ht hy,ptrAt,storeA,AV.cells?,h1,h3,List.length_map,hM,h5,h6,h7,true_and,Nat.zero_add,Nat.le_refl,if_true]
 rw [e2,e1]
 simp only [splice,List.take_zero,List.nil_append,Nat.zero_add,List.length_map,hM]
 rw [List.drop_of_length_le (by rw [List.length_map,h7];exact Nat.le_refl _),List.append_nil];rfl⟩
theorem resK_ar {a t:Nat} {rs:List ResultVar} {vs:List AV} (hs:Bk (Lay.arr N g) S id v L) (hc:Cov l l0) (h1:lk l0 a = some (.sc v)) (hT:aggT E t N = true) (r:resK E l S.m rs = some vs):resK E l S.m (.cell a t :: rs) = some (.agg (L.map g) :: vs):=by
 obtain ⟨y,q1,q2,q3,_⟩:=aggT_ok hT
 obtain ⟨b,cs,rfl,_,_,_,h5,h6,rfl⟩:=hs
 simp only [resK,hc _ _ h1,r,loadA,limOk,if_true,h5,part,q1,q2,q3,Nat.zero_add,List.length_map,h6,Nat.le_refl,List.drop_zero,Option.map_some]
 rw [List.take_of_length_le (by rw [List.length_map];omega)]
end arr
def ckN? {α:Type} (N:Nat) (L:List α):Option Unit:=if L.length = N then some () else none
theorem ckN?_ok {α:Type} {N:Nat} {L:List α} {u:Unit} (h:ckN? N L = some u):L.length = N:=by
 unfold ckN? at h
 split at h
 ·assumption
 ·cases h
def appB? {α:Type} (bnd:Nat) (L L':List α):Option (List α):=if L.length + L'.length≤bnd then some (L ++ L') else none
theorem appB?_some {α:Type} {bnd:Nat} {L L' M:List α} (h:appB? bnd L L' = some M):L.length + L'.length≤bnd∧M = L ++ L':=by
 unfold appB? at h
 split at h
 ·cases h;exact ⟨by assumption,rfl⟩
 ·cases h
theorem appB?_ok {α:Type} {bnd:Nat} {L L':List α} (h:L.length + L'.length≤bnd):appB? bnd L L' = some (L ++ L'):=if_pos h
def delB? {α:Type} (bnd:Nat) (L:List α) (i j:Int):Option (List α):=if 0≤i∧i≤j∧j≤L.length∧0 < L.length∧L.length≤bnd then some (L.take i.toNat ++ L.drop j.toNat) else none
theorem delB?_some {α:Type} {bnd:Nat} {L M:List α} {i j:Int} (h:delB? bnd L i j = some M):(0≤i∧i≤j∧j≤L.length∧0 < L.length∧L.length≤bnd)∧M = L.take i.toNat ++ L.drop j.toNat:=by
 unfold delB? at h
 split at h
 ·cases h;exact ⟨by assumption,rfl⟩
 ·cases h
theorem delB?_ne {P:Prop} [Decidable P] {α:Type} {bnd:Nat} {L M:List α} {i j:Int} (h:(if P then delB? bnd L i j else none) = some M):0 < L.length:=by
 split at h
 ·exact (delB?_some h).1.2.2.2.1
 ·cases h
section resk
variable {E:Env} {fl:Nat} {S:Cx fl} {v:SV} {id:Nat} {l l0:LE} {rs:List ResultVar} {vs:List AV} {α:Type}
theorem resK_b {sz:Nat} {f:α→List SV} {hf:∀ a,(f a).length = sz} {u:α} {a t:Nat} (hs:Bk (Lay.flat sz f hf) S id v u) (hc:Cov l l0) (h1:lk l0 a = some (.sc v)) (hT:aggT E t sz = true) (r:resK E l S.m rs = some vs):
 resK E l S.m (.cell a t :: rs) = some (.agg (f u) :: vs):=by
 obtain ⟨y,q1,q2,q3,_⟩:=aggT_ok hT
 obtain ⟨b,cs,rfl,_,h4,_,h5,h6⟩:=hs
 have h6:cs = f u:=h6
 subst h6
 have:=hf u
 simp only [resK,hc _ _ h1,r,loadA,limOk,if_true,h5,part,q1,q2,q3,Nat.zero_add,this,Nat.le_refl,List.drop_zero,Option.map_some]
 rw [List.take_of_length_le (by omega)]
theorem resK_b1 {g:α→SV} {u:α} {a t:Nat} (hs:Bk (Lay.one g) S id v u) (hc:Cov l l0) (h1:lk l0 a = some (.sc v)) (hT:oneT E t = true) (r:resK E l S.m rs = some vs):
 resK E l S.m (.cell a t :: rs) = some (.sc (g u) :: vs):=by
 obtain ⟨y,q1,q2,q3,_⟩:=oneT_ok hT
 obtain ⟨b,cs,rfl,_,h4,_,h5,h6⟩:=hs
 have h6:cs = [g u]:=h6
 subst h6
 simp only [resK,hc _ _ h1,r,loadA,limOk,if_true,h5,part,q1,q2,q3,or_self,if_false,List.getElem?_cons_zero,Option.map_some]
end resk
theorem Rp.isp {α:Type} {A:Lay α} {fl:Nat} {S:Cx fl} {v:SV} {u:α} (h:Rp A S v u):∃ b,v = .ptr b 0:=by obtain ⟨b,cs,h,_⟩:=h;exact ⟨b,h⟩
section rules
variable {E:Env} {fl:Nat} {loose:Nat→Bool} {lim:Option Nat} {ops:Array Oper} {os:List Oper} {l:LE} {m:Mem} {n:Nat} {K:LE→Mem→Nat→Prop} {d:Nat} {ty t:TypeId} {pos:String} {af:Array Edge} {x y z i:Operand} {v w:SV} {k k' k'':IntKind} {a b c:Int} {S:Cx fl} {id q:Nat} {α:Type} {A:Lay α} {L L' M:List α} {u:α}
theorem WO.min3 {ats:Array TypeId} (hx:evK l x = some (.sc (.int k a))) (hy:evK l y = some (.sc (.int k' b))) (hz:evK l z = some (.sc (.int k'' c))) (e1:k' = k) (e2:k'' = k) (h:WO E loose fl lim ops os ((d,.sc (.int k (minI (minI a b) c))) :: l) m n K):
 WO E loose fl lim ops (⟨some d,.call ⟨.builtin .min,#[x,y,z],ats⟩,ty,pos,af,none⟩ :: os) l m n K:=⟨fun tt ht=>by
 subst e1 e2
 exact W_op2 (by simp only [opA,callA,builtinA,List.map_cons,List.map_nil,evK_ev ht hx,evK_ev ht hy,evK_ev ht hz,foldMax,max2,Bool.false_eq_true,if_false,Option.map_some,minI];rfl) (h.put ht)⟩
theorem WO.ixRp {N:Nat} {g:α→SV} (hx:evK l x = some (.sc v)) (hs:Rp (Lay.arr N g) S v L) (hi:evK l i = some (.sc (.int k a))) (ha:0≤a∧a < L.length) (hT:arTs E t N 1 = true) (h:WO E loose fl lim ops os ((d,.sc (ptrAt v 0 a.toNat)) :: l) m n K):
 WO E loose fl lim ops (⟨some d,.indexAddr t x i,ty,pos,af,none⟩ :: os) l m n K:=by
 obtain ⟨b,cs,rfl,_,_,hl,_⟩:=hs
 have hl:L.length = N:=hl
 refine WO.ixB hx ⟨b,rfl⟩ hi (by omega) hT ?_
 rw [Nat.mul_one];exact h
theorem WO.ldRp {N:Nat} {g:α→SV} {p:SV} (hx:evK l x = some (.sc p)) (hp:p = ptrAt v 0 q) (hs:Rp (Lay.arr N g) S v L) (hu:L[q]? = some u) (hT:oneT E t = true) (hl:limLe lim S.n = true)
 (h:WO E loose fl lim ops os ((d,.sc (g u)) :: l) S.m S.n K):WO E loose fl lim ops (⟨some d,.load t x,ty,pos,af,none⟩ :: os) l S.m S.n K:=⟨fun tt ht=>by
 subst hp
 obtain ⟨y,h1,h2,h3,_⟩:=oneT_ok hT
 refine W_op2 ?_ (h.put ht)
 obtain ⟨b,cs,rfl,h4,h5,_,rfl⟩:=hs
 have hcell:(L.map g)[q]? = some (g u):=by rw [List.getElem?_map,hu];rfl
 simp only [opA,evK_ev ht hx,ptrAt,loadA,limOk_of hl h4.1,if_true,h5,part,h1,h2,h3,or_self,if_false,Nat.zero_add,hcell,Option.map_some]⟩
theorem WO.slcP {hi':Int} {y2:Operand} (hx:evK l x = some (.sc v)) (hhi:evK l y2 = some (.sc (.int k hi'))) (hs:Ow A S id v L) (hM:sub? L 0 hi' = some M) (hT:slTs E t A.sz = true)
 (h:∀ w,Wk A S id w M→Ow A S id w M→WO E loose fl lim ops os ((d,.sc w) :: l) S.m S.n K):WO E loose fl lim ops (⟨some d,.slice t x none (some y2) none,ty,pos,af,none⟩ :: os) l S.m S.n K:=
 WO.slcO hx hhi hs hM hT fun w hw=>h w hw.wk hw
theorem WO.appSB {y2:Operand} {zo:Nat→Prop} {bnd:Nat} (hx:evK l x = some (.sc v)) (hy:evK l y2 = some (.sc w)) (hs:Ow A S id v L) (hs2:RO A zo S.fz S.m w L') (hM:appB? bnd L L' = some M) (hb:Nat.ble bnd 9223372036854775807 = true) (hT:slTb E t A.sz bnd = true) (hid:Nat.beq id 0 = false)
 (h:∀ v' S',Ch id S S'→Ow A S' id v' M→WO E loose fl lim ops os ((d,.sc v') :: l) S'.m S'.n K):
 WO E loose fl lim ops (⟨some d,.call ⟨.builtin .append,#[x,y2],#[t,t]⟩,ty,pos,af,none⟩ :: os) l S.m S.n K:=⟨fun tt ht=>by
 have hid:id≠0:=fun e=>by subst e;cases hid
 have hb:bnd≤9223372036854775807:=Nat.le_of_ble_eq_true hb
 obtain ⟨hMl,rfl⟩:=appB?_some hM
 unfold slTb at hT
 simp only [Bool.and_eq_true] at hT
 obtain ⟨hT,hT2⟩:=hT
 obtain ⟨z,e,h1,h2,h3,h4,h5,h5',h6⟩:=slTs_ok hT
 simp only [h1,h3,decide_eq_true_eq] at hT2
 obtain ⟨new,q1,q2⟩:=hs2.elems
 obtain ⟨old,q3,q4⟩:=hs.ro.elems
 have holdc:∀ b c,v = .sl b 0 L.length c A.sz→∀ cs,S.m.get b = some cs→old = cs.take (L.length * A.sz):=by
  intro b c e cs hcs
  subst e
  simp only [elemsA,hcs] at q3
  rw [if_neg (by simp)] at q3
  split at q3
  ·simp only [List.drop_zero,Option.some.injEq,Prod.mk.injEq] at q3;exact q3.1.symm
  ·cases q3
 have hby:(L.length + L'.length) * e.bytes≤140737488355328:=Nat.le_trans (Nat.mul_le_mul_right _ hMl) hT2
 obtain ⟨v',S',q5,q6,q7⟩:=hs.app0 hid q2 h4 hby (by omega) q4 holdc
 refine W_op2 (m':=S'.m) (n':=S'.n) ?_ ((h v' S' q6 q7).put ht)
 simp only [opA,callA,builtinA,List.map_cons,List.map_nil,evK_ev ht hx,evK_ev ht hy]
 simp only [List.getElem?_toArray,List.getElem?_cons_zero,List.getElem?_cons_succ,if_true,appendA,h1,h2,h3,h4,h5]
 rw [q3,q1]
 simp [h5',q5]⟩
theorem WO.appHB {o ln c sz q b bnd:Nat} {cs new:List SV} (hx:evK l x = some (.sc (.sl b o ln c sz))) (hy:evK l y = some (.sc w)) (hw:elemsA m (.sc w) sz = some (new,q)) (hm:m.get b = some cs) (hle:o + c * sz≤cs.length) (hq:ln + q≤c) (hq2:ln + q≤bnd) (hb:Nat.ble bnd 9223372036854775807 = true) (hfl:fl≤b) (hT:slTb E t sz bnd = true)
 (h:WO E loose fl lim ops os ((d,.sc (.sl b o (ln + q) c sz)) :: l) (m.set b (splice cs (o + ln * sz) new)) n K):WO E loose fl lim ops (⟨some d,.call ⟨.builtin .append,#[x,y],#[t,t]⟩,ty,pos,af,none⟩ :: os) l m n K:=⟨fun tt ht=>by
 have hb:bnd≤9223372036854775807:=Nat.le_of_ble_eq_true hb
 unfold slTb at hT
 simp only [Bool.and_eq_true] at hT
 obtain ⟨hT,hT2⟩:=hT
 obtain ⟨yt,e,e1,e2,e3,e4,e5,e6,e7⟩:=slTs_ok hT
 simp only [e1,e3,decide_eq_true_eq] at hT2
 refine W_op2 ?_ (h.put ht)
 have h2:ln * sz≤c * sz:=Nat.mul_le_mul_right _ (by omega)
 have h3:(ln + q) * e.bytes≤140737488355328:=Nat.le_trans (Nat.mul_le_mul_right _ hq2) hT2
 have hel:elemsA m (.sc (.sl b o ln c sz)) sz = some ((cs.drop o).take (ln * sz),ln):=by
  simp only [elemsA,hm]
  rw [if_neg (by simp),if_pos (by omega)]
 have key:appendA E fl t (.sc (.sl b o ln c sz)) (.sc w) m n = some (.sc (.sl b o (ln + q) c sz),m.set b (splice cs (o + ln * sz) new),n):=by
  simp only [appendA,e1,e2,e3,e4]
  rw [if_neg (by simp),if_neg (by rw [e5];simp;omega),hel,hw]
  simp only [appendTo]
  rw [if_neg (by omega),if_neg (by omega),if_pos hq,hm]
  simp only
  rw [if_pos hle]
 simp only [opA,callA,builtinA,List.map_cons,List.map_nil,evK_ev ht hx,evK_ev ht hy]
 simp [key]⟩
theorem del_RL {cs zz:List SV} {p r lo:Nat} {zf:Nat→Prop} (h:RL A zf m L (cs.take (L.length * A.sz))) (h1:p≤r) (h2:r≤L.length) (hl:L.length * A.sz≤cs.length) (hlo:lo = p + (L.length - r)):
 RL A zf m (L.take p ++ L.drop r) ((splice (splice cs (0 + p * A.sz) ((cs.drop (0 + r * A.sz)).take ((L.length - r) * A.sz))) (0 + lo * A.sz) zz).take ((L.take p ++ L.drop r).length * A.sz)):=by
 subst hlo
 simp only [Nat.zero_add]
 have hlen:(L.take p ++ L.drop r).length = p + (L.length - r):=by simp;omega
 have e0:p * A.sz≤r * A.sz:=Nat.mul_le_mul_right _ h1
 have e1:r * A.sz≤L.length * A.sz:=Nat.mul_le_mul_right _ h2
 have e2:(L.length - r) * A.sz = L.length * A.sz - r * A.sz:=Nat.sub_mul _ _ _
 have e3:(p + (L.length - r)) * A.sz = p * A.sz + (L.length - r) * A.sz:=Nat.add_mul _ _ _
 have r1:=RL.append (RL.take p h) (RL.drop r h)
 have ee:(splice (splice cs (p * A.sz) ((cs.drop (r * A.sz)).take ((L.length - r) * A.sz))) ((p + (L.length - r)) * A.sz) zz).take ((p + (L.length - r)) * A.sz) = (cs.take (L.length * A.sz)).take (p * A.sz) ++ (cs.take (L.length * A.sz)).drop (r * A.sz):=by
  have hX:(splice cs (p * A.sz) ((cs.drop (r * A.sz)).take ((L.length - r) * A.sz))).take ((p + (L.length - r)) * A.sz) = cs.take (p * A.sz) ++ (cs.drop (r * A.sz)).take ((L.length - r) * A.sz):=by
   unfold splice
   rw [List.take_append_of_le_length (by simp only [List.length_append,List.length_take,List.length_drop];omega),List.take_of_length_le (by simp only [List.length_append,List.length_take,List.length_drop];omega)]
  have hY:∀ X:List SV,(p + (L.length - r)) * A.sz≤X.length→(splice X ((p + (L.length - r)) * A.sz) zz).take ((p + (L.length - r)) * A.sz) = X.take ((p + (L.length - r)) * A.sz):=by
   intro X hX
   unfold splice
   rw [List.append_assoc,List.take_append_of_le_length (by rw [List.length_take];omega),List.take_take,Nat.min_self]
  rw [hY _ (by simp only [splice,List.length_append,List.length_take,List.length_drop];omega),hX,List.take_take,Nat.min_eq_left (by omega),List.drop_take,e2]
 rw [hlen,ee]
 exact r1
theorem WO.clrB {z0:α} {lo':Int} (hs:Ow A S id v L) (hM:sub? L lo' L.length = some M) (hb:Sb v w A.sz lo'.toNat M.length) (hx:evK l x = some (.sc w)) (hz:A.R S.fz S.m z0 (slZ E t)) (hT:slTs E t A.sz = true) (hid:Nat.beq id 0 = false)
 (h:∀ S',Ch id S S'→Ow A S' id v (L.take lo'.toNat ++ List.replicate M.length z0)→WO E loose fl lim ops os l S'.m S'.n K):WO E loose fl lim ops (⟨none,.call ⟨.builtin .clear,#[x],#[t]⟩,ty,pos,af,none⟩ :: os) l S.m S.n K:=⟨fun tt ht=>by
 have hid:id≠0:=fun e=>by subst e;cases hid
 obtain ⟨⟨b1,b2,b3⟩,hMe⟩:=sub?_some hM
 have hml:M.length = L.length - lo'.toNat:=by rw [hMe,List.length_drop,List.length_take];omega
 obtain ⟨yt,e,e1,e2,e3,e4,e5,e6,e7⟩:=slTs_ok hT
 have hzz:slZ E t = e.zero:=by unfold slZ;rw [e1];simp only [e3]
 rcases hb with ⟨hw,hk0⟩ | ⟨b,o,ln,c,c',rfl,rfl,hle,hc'⟩
 ·have e0:L.take lo'.toNat ++ List.replicate M.length z0 = L:=by
   rw [hk0,List.replicate_zero,List.append_nil,List.take_of_length_le (by omega)]
  have hh:=h S (Ch.refl _ _) (by rw [e0];exact hs)
  refine W_op2 (v:=.tup []) (m':=S.m) (n':=S.n) ?_ (hh.ok tt ht)
  have key:∀ w0,w0 = SV.nils∨w0 = SV.emp→clearA E fl t (.sc w0) S.m S.n = some (.tup [],S.m,S.n):=by
   intro w0 hw0
   simp only [clearA,e1,e3]
   rw [if_neg (by simp [e2]),if_neg (by rw [e4,e5];simp)]
   rcases hw0 with rfl | rfl <;> rfl
  simp only [opA,callA,builtinA,List.map_cons,List.map_nil,evK_ev ht hx]
  exact key w hw
 ·rcases hs with ⟨hv,_⟩ | ⟨b',c2,cs,hv,h2,h3,h4,h5,h6,h7,h8⟩
  ·cases hv
  ·cases hv
   have g1:lo'.toNat * A.sz≤L.length * A.sz:=Nat.mul_le_mul_right _ (by omega)
   have g2:L.length * A.sz≤c * A.sz:=Nat.mul_le_mul_right _ h5
   have g3:M.length * A.sz = L.length * A.sz - lo'.toNat * A.sz:=by rw [hml,Nat.sub_mul]
   have hzl:(List.replicate M.length e.zero).flatten.length = M.length * A.sz:=by simp [e5]
   have hch:Ch id S (⟨S.m.set b (splice cs (0 + lo'.toNat * A.sz) (List.replicate M.length e.zero).flatten),S.n,S.ow,S.le⟩:Cx fl):=⟨Nat.le_refl _,fun i hi hk=>⟨rfl,Tr.get_set_ne _ _ (fun e=>hk (by rw [e];exact h4))⟩⟩
   have hlen:(L.take lo'.toNat ++ List.replicate M.length z0).length = L.length:=by simp;omega
   refine W_op2 (v:=.tup []) (m':=S.m.set b (splice cs (0 + lo'.toNat * A.sz) (List.replicate M.length e.zero).flatten)) (n':=S.n) ?_ ((h _ hch (.inr ⟨b,c,_,by rw [hlen],h2,h3,h4,by rw [hlen];exact h5,Tr.get_set_same _ _ _,?_,?_⟩)).ok tt ht)
   ·have key:clearA E fl t (.sc (.sl b (0 + lo'.toNat * A.sz) M.length c' A.sz)) S.m S.n = some (.tup [],S.m.set b (splice cs (0 + lo'.toNat * A.sz) (List.replicate M.length e.zero).flatten),S.n):=by
     simp only [clearA,e1,e2,e3,e4]
     rw [if_neg (by simp),if_neg (by rw [e5];simp),if_neg (by simp;omega),h6]
     try simp only
     rw [if_pos (by omega)]
    simp only [opA,callA,builtinA,List.map_cons,List.map_nil,evK_ev ht hx]
    exact key
   ·simp only [splice,List.length_append,List.length_take,List.length_drop,hzl];omega
   ·rw [hlen]
    have r1:=RL.append (RL.take lo'.toNat h8) (RL.replicate hz M.length)
    rw [hzz] at r1
    have ee:(splice cs (0 + lo'.toNat * A.sz) (List.replicate M.length e.zero).flatten).take (L.length * A.sz) = (cs.take (L.length * A.sz)).take (lo'.toNat * A.sz) ++ (List.replicate M.length e.zero).flatten:=by
     unfold splice
     rw [Nat.zero_add,List.take_append_of_le_length (by simp only [List.length_append,List.length_take,hzl];omega),List.take_of_length_le (by simp only [List.length_append,List.length_take,hzl];omega),List.take_take,Nat.min_eq_left g1]
    rw [ee]
    exact r1.frame (fz_ch hch hid)⟩
end rules
section wog
variable {E:Env} {fl:Nat} {loose:Nat→Bool} {lim:Option Nat} {ops:Array Oper} {os:List Oper} {l:LE} {K:LE→Mem→Nat→Prop} {d:Nat} {ty:TypeId} {pos:String} {af:Array Edge} {S:Cx fl} {R:List Nat}
def Apt {fl:Nat} (S:Cx fl) (p:List (Nat × Nat)):List Nat→Prop
 | []=>True
 | b :: r=>(b < S.n∧(sg p (S.ow b) = 0∨1000≤sg p (S.ow b)))∧Apt S p r
theorem Apt.mem {p:List (Nat × Nat)}:∀ {R:List Nat},Apt S p R→∀ b∈R,b < S.n∧(sg p (S.ow b) = 0∨1000≤sg p (S.ow b))
 | _ :: _,h,b,hb=>by
  rcases List.mem_cons.1 hb with rfl | hb
  ·exact h.1
  ·exact Apt.mem h.2 b hb
theorem Bk.apt {α:Type} {A:Lay α} {id b:Nat} {u:α} {p:List (Nat × Nat)} (h:Bk A S id (.ptr b 0) u) (e:Nat.ble 1000 (sg p id) = true):b < S.n∧(sg p (S.ow b) = 0∨1000≤sg p (S.ow b)):=by
 obtain ⟨b',cs,e1,_,h3,h4,_⟩:=h
 cases e1
 exact ⟨h3,.inr (by rw [h4];exact Nat.le_of_ble_eq_true e)⟩
theorem Bw.apt {id b:Nat} {cs:List SV} {p:List (Nat × Nat)} (h:Bw S id (.ptr b 0) cs) (e:Nat.ble 1000 (sg p id) = true):b < S.n∧(sg p (S.ow b) = 0∨1000≤sg p (S.ow b)):=by
 obtain ⟨b',e1,_,h3,h4,_⟩:=h
 cases e1
 exact ⟨h3,.inr (by rw [h4];exact Nat.le_of_ble_eq_true e)⟩
theorem WOG.callG {f:Operand} {xs:Array Operand} {ats:Array TypeId} {g:Nat} {caps:List (Nat × Nat)} {args:List AV} {Q:AV→Cx fl→Prop} (p q:List (Nat × Nat)) (hA:Apt S p R) (hf:evK l f = some (.sc (.fn g caps))) (ha:xs.toList.mapM (evK l) = some args)
 (hr:Ret E fl g (args ++ caps.map fun p=>.sc (.ptr p.1 p.2)) S.m S.n (fun v m' n'=>∃ S':Cx fl,S'.m = m'∧S'.n = n'∧ChM (S.mp p) S'∧Q v S'))
 (h:∀ v S' S1,Bak p q S S' S1→Q v S'→WOG E R loose fl lim ops os ((d,v) :: l) S1.m S1.n K) (hl:loose g = false:=by rfl):
 WOG E R loose fl lim ops (⟨some d,.call ⟨.value f,xs,ats⟩,ty,pos,af,none⟩ :: os) l S.m S.n K:=by
 refine WOG.call hf ha ?_
 rw [hl];simp only [Bool.false_eq_true,if_false]
 refine hr.mono ?_
 rintro v m' n' ⟨S',rfl,rfl,hM,hR⟩
 obtain ⟨S1,hb⟩:=Bak.mk' p q hM
 refine ⟨fun i hi=>?_,?_⟩
 ·obtain ⟨h1,h2⟩:=hA.mem i hi
  exact (hb.old i h1 h2).2.2
 ·have:=h v S' S1 hb hR
  rw [hb.m,hb.n] at this
  exact this
def ldOs:Op→List Operand
 | .load _ a=>[a]
 | _=>[]
def rdOs:List Oper→List Operand
 | []=>[]
 | o :: r=>ldOs o.op ++ rdOs r
theorem ldB_os (t:Tr AV) (o:Oper):ldB t o = (ldOs o.op).flatMap fun x=>(evT t x).blks:=by
 obtain ⟨dst,op,_,_,_,_⟩:=o
 cases op <;> first | rfl | simp [ldB,ldOs]
theorem rdB_os {t:Tr AV} {ops:Array Oper}:rdB t ops = (rdOs ops.toList).flatMap fun x=>(evT t x).blks:=by
 unfold rdB
 generalize ops.toList = L
 induction L with
 | nil=>rfl
 | cons o r ih=>rw [List.flatMap_cons,ih,ldB_os,rdOs,List.flatMap_append]
theorem rdB_in {t:Tr AV} {l:LE} {ops:Array Oper} {vs:List SV} (hs:Sees t l) (hv:valsL l (rdOs ops.toList) = some vs) (hR:vs.all (fun v=>match v.blk with | some b=>R.contains b | none=>true) = true):∀ q∈rdB t ops,q∈R:=by
 intro q hq
 rw [rdB_os] at hq
 obtain ⟨x,hx,hq⟩:=List.mem_flatMap.1 hq
 obtain ⟨v,h1,h2⟩:=valsL_blks hs hv x hx q hq
 have:=List.all_eq_true.1 hR v h1
 rw [h2] at this
 simpa using this
end wog
def itoa? (x:Int):Option (List UInt8):=if -9223372036854775808≤x∧x≤9223372036854775807 then some (Lib.itoa x) else none
def split? (s sep:List UInt8):Option (List (List UInt8)):=if s.length < 4294967281∧1≤sep.length then some (splitL s sep) else none
def join? (xs:List (List UInt8)) (sep:List UInt8):Option (List UInt8):=if xs.length≤140737488355328∧(Lib.join xs sep).length≤140737488355328 then some (Lib.join xs sep) else none
def atoi? (s:List UInt8):Option Int:=if s.length≤18 then Lib.atoi s else none
def fields? (Fs:ByteArray→List ByteArray) (s:List UInt8):Option (List (List UInt8)):=if s.length≤4294967296 then some ((Fs (bs s)).map (·.data.toList)) else none
section
variable {E:Env} {k:SNo} {Fs:ByteArray→List ByteArray} {f fl n:Nat} {m:Mem} {args:List AV}
theorem Ret.ext {R:AV→Mem→Nat→Prop} {v:AV} {m':Mem} {n':Nat} (hi:E.ext.is f = true) (h:E.ext.f fl f args m n = some (v,m',n')) (hR:R v m' n'):Ret E fl f args m n R:=
 ⟨0,v,m',n',by unfold callF;rw [if_pos hi];exact h,hR⟩
theorem ext_v {v:AV} (hE:E.ext = strOut k Fs) (hi:(strOut k Fs).is f = true) (h:strR k Fs f args m = some (.inl v)):Ret E fl f args m n fun v' _ _=>v' = v:=
 Ret.ext (m':=m) (n':=n) (by rw [hE];exact hi) (by rw [hE];simp only [strOut,strF,h]) rfl
theorem ext_l {L:List (List UInt8)} (hE:E.ext = strOut k Fs) (hi:(strOut k Fs).is f = true) (h:strR k Fs f args m = some (.inr (L.map SV.str))):Ret E n f args m n fun v m' n'=>∃ w,v = .sc w∧Fr (Lay.one SV.str) n m' n' w L:=by
 refine Ret.ext (by rw [hE];exact hi) (by rw [hE];simp only [strOut,strF,h];rfl) ⟨_,rfl,.inr ⟨n,L.length,L.map SV.str,by simp [Lay.one,Lay.flat],Nat.le_refl _,Nat.lt_succ_self _,Nat.le_refl _,Tr.get_set_same _ _ _,by simp [Lay.one,Lay.flat],?_⟩⟩
 rw [List.take_of_length_le (by simp [Lay.one,Lay.flat])]
 exact RL.ofMap L
theorem ext_itoa {x:Int} {r:List UInt8} (h:itoa? x = some r) (hE:E.ext = strOut k Fs) (hf:f = k.itoa) (h1:f≠k.split):Ret E fl f [.sc (.int .i64 x)] m n fun v _ _=>v = .sc (.str r):=by
 unfold itoa? at h
 split at h
 ·rename_i hx;cases h
  refine ext_v hE (by simp [strOut,hf]) ?_
  unfold strR
  rw [if_neg h1,if_pos hf]
  simp only
  rw [if_pos hx]
 ·cases h
theorem ext_split {s sep:List UInt8} {r:List (List UInt8)} (h:split? s sep = some r) (hE:E.ext = strOut k Fs) (hf:f = k.split):Ret E n f [.sc (.str s),.sc (.str sep)] m n fun v m' n'=>∃ w,v = .sc w∧Fr (Lay.one SV.str) n m' n' w r:=by
 unfold split? at h
 split at h
 ·rename_i hx;cases h
  refine ext_l hE (by simp [strOut,hf]) ?_
  unfold strR
  rw [if_pos hf]
  simp only
  rw [if_pos hx]
 ·cases h
theorem ext_atoi {s:List UInt8} {r:Int} (h:atoi? s = some r) (hE:E.ext = strOut k Fs) (hf:f = k.atoi) (h1:f≠k.split) (h2:f≠k.itoa) (h3:f≠k.join):Ret E fl f [.sc (.str s)] m n fun v _ _=>v = .tup [.sc (.int .i64 r),.un]:=by
 unfold atoi? at h
 split at h
 ·rename_i hx
  refine ext_v hE (by simp [strOut,hf]) ?_
  unfold strR
  rw [if_neg h1,if_neg h2,if_neg h3,if_pos hf]
  simp only
  rw [if_pos hx,h];rfl
 ·cases h
theorem ext_fields {s:List UInt8} {g:Nat} {r:List (List UInt8)} (h:fields? Fs s = some r) (hE:E.ext = strOut k Fs) (hf:f = k.fields) (hg:g = k.pred) (h1:f≠k.split) (h2:f≠k.itoa) (h3:f≠k.join) (h4:f≠k.atoi):Ret E n f [.sc (.str s),.sc (.fn g [])] m n fun v m' n'=>∃ w,v = .sc w∧Fr (Lay.one SV.str) n m' n' w r:=by
 unfold fields? at h
 split at h
 ·rename_i hx;cases h
  refine ext_l hE (by simp [strOut,hf]) ?_
  unfold strR
  rw [if_neg h1,if_neg h2,if_neg h3,if_neg h4,if_pos hf]
  simp only
  rw [if_pos ⟨hg,hx⟩,List.map_map];rfl
 ·cases h
def Jn (n:Nat) (m:Mem) (v:SV) (L:List (List UInt8)):Prop:=(v = .nils∧L = [])∨∃ b c cs,v = .sl b 0 L.length c 1∧m.get b = some cs∧L.length≤cs.length∧cs.take L.length = L.map SV.str
theorem Ow.jn {S:Cx fl} {i:Nat} {v:SV} {L:List (List UInt8)} (h:Ow (Lay.one SV.str) S i v L):Jn S.n S.m v L:=by
 rcases h with ⟨h1,h2⟩ | ⟨b,c,cs,h1,_,_,_,h5,h6,h7,h8⟩
 ·exact .inl ⟨h1,h2⟩
 ·have h8:RL (Lay.one SV.str) _ _ L (cs.take (L.length * 1)):=h8
  have h7:cs.length = c * 1:=h7
  rw [Nat.mul_one] at h8 h7
  exact .inr ⟨b,c,cs,h1,h6,by omega,RL.flat1 h8⟩
theorem strsOf_of:∀ L:List (List UInt8),strsOf (L.map SV.str) = some L
 | []=>rfl
 | a :: L=>by simp only [List.map_cons,strsOf,strsOf_of L];rfl
theorem ext_join {v:SV} {L:List (List UInt8)} {sep r:List UInt8} (h:join? L sep = some r) (hj:Jn n m v L) (hE:E.ext = strOut k Fs) (hf:f = k.join) (h1:f≠k.split) (h2:f≠k.itoa):Ret E fl f [.sc v,.sc (.str sep)] m n fun v _ _=>v = .sc (.str r):=by
 unfold join? at h
 split at h
 ·rename_i hx;cases h
  refine ext_v hE (by simp [strOut,hf]) ?_
  unfold strR
  rw [if_neg h1,if_neg h2,if_pos hf]
  rcases hj with ⟨rfl,rfl⟩ | ⟨b,c,cs,rfl,h3,h4,h5⟩
  ·rfl
  ·simp only [h3,List.drop_zero,h5,strsOf_of]
   rw [if_pos ⟨by omega,hx.1,hx.2⟩]
 ·cases h
end
def keyN? (a:Int):Option Unit:=if -9223372036854775808≤a∧a≤9223372036854775807 then some () else none
theorem keyN?_ok {a:Int} {u:Unit} {z:SV} (h:keyN? a = some u):keyA ⟨1,.i64,1,z⟩ (.sc (.int .i64 a)) = some [.int .i64 a]:=by
 unfold keyN? at h
 split at h
 ·rename_i hq
  have h2:keyCellOk ⟨1,.i64,1,z⟩ (.int .i64 a) = true:=by
   show ((1 == 1 || 1 == 5) && IntKind.i64 == IntKind.i64 && decide (IntKind.min .i64≤a∧a≤IntKind.max .i64)) = true
   have e:IntKind.min .i64≤a∧a≤IntKind.max .i64:=by
    rw [show IntKind.min .i64 = -9223372036854775808 from rfl,show IntKind.max .i64 = 9223372036854775807 from rfl];exact hq
   rw [decide_eq_true e];rfl
  simp only [keyA,h2];rfl
 ·cases h
theorem numKey_inj (a b:Int) (h:[SV.int .i64 a] = [SV.int .i64 b]):a = b:=by injection h with h _;injection h
def mlN:ML Int Int:=⟨⟨1,.i64,1,.int .i64 0⟩,fun s=>[.int .i64 s],SV.int .i64,0,rfl,numKey_inj⟩
section mpn
variable {fl:Nat} {S S':Cx fl} {v:SV} {E:Env} {loose:Nat→Bool} {lim:Option Nat} {ops:Array Oper} {os:List Oper} {l:LE} {id N:Nat} {K:LE→Mem→Nat→Prop} {d:Nat} {ty t:TypeId} {pos:String} {af:Array Edge} {x i z:Operand} {kv:AV} {u:Int}
theorem WO.lkN {L:List (Int × Int)} {q:Int} (hx:evK l x = some (.sc v)) (hs:Mp (mlN) S id v L) (hi:evK l i = some kv) (hT:E.mp t = some (mlN).y) (hk:keyA (mlN).y kv = some ((mlN).ek q))
 (h:WO E loose fl lim ops os ((d,.sc (.int .i64 ((mget L q).getD 0))) :: l) S.m S.n K):WO E loose fl lim ops (⟨some d,.lookup t x i false,ty,pos,af,none⟩ :: os) l S.m S.n K:=WO.lkMp hx hs hi hT hk h
theorem WO.inN {L:List (Int × Int)} {q:Int} (hx:evK l x = some (.sc v)) (hs:Mp (mlN) S id v L) (hi:evK l i = some kv) (hz:evK l z = some (.sc (.int .i64 u))) (hT:E.mp t = some (mlN).y) (hk:keyA (mlN).y kv = some ((mlN).ek q)) (hid:Nat.beq id 0 = false)
 (h:∀ S',Ch id S S'→Mp (mlN) S' id v (mput L q u)→WO E loose fl lim ops os l S'.m S'.n K):WO E loose fl lim ops (⟨none,.insert t x i z,ty,pos,af,none⟩ :: os) l S.m S.n K:=WO.inMp hx hs hi hz hT hk hid h
end mpn
end Go.Am
namespace Go.Proofs.YtaphdnpjpmnaeadGreatDoor
open Go.Am
def sno:SNo:=⟨7,14,16,45,20,21⟩
def Fs (s:ByteArray):List ByteArray:=Lib.goFieldsP (fun r=>r == 32) s
def tab (w:World):Prop:=Lib.TabIs Tryz.prog w "internal/strconv.uint64pow10" .u64 Lib.pow10Tab∧∃ q,w.cell? ⟨0,0,none⟩ = some (.int .i64 q)
end Go.Proofs.YtaphdnpjpmnaeadGreatDoor
namespace Go.Proofs.YtaphdnpjpmnaeadGreatDoor
set_option maxRecDepth 20000
set_option maxHeartbeats 4000000
open Go.RowKit Go.Am
theorem catch_idle (p:Addr) (w:World):
 CallsD Tryz.prog 13 #[.pointer (some p)] .returning w fun e u' w'=>e = .returned (.tuple #[])∧u' = .returning∧w' = w:=by
 refine callsD_of_wpS Tryz.func13 rfl fun c₀ cs hu=>?_
 apply wpS_seq
 apply wpS_region
 simp [wpOpsS,go_sem,recoverD,hu,Tryz.ntmps13,Exit.thenS]
 apply wpS_seq
 apply wpS_region
 simp [wpOpsS,go_sem,Exit.thenS]
 refine wpS_cond (t:=false) (by simp [Act.eval,Array.replicate]) ?_
 simp only [Bool.false_eq_true,if_false]
 refine wpS_of_wp (wp_skip ?_)
 cases c₀
 simp_all [bodyPostS,results,Tryz.results13]
theorem catch_pan (p:Addr) (c:Int) (older:List PanicEntry) (w:World) {s:ByteArray} {R:World→Prop} (hI:Calls Tryz.prog 14 #[.int .i64 c] w fun e w'=>e = .returned (.string s)∧R w')
 (hR:∀ w',R w'→(∃ v0,w'.cell? p = some v0)∧w'.frozen? p = false) (hs:6 + s.size≤9223372036854775807):
 CallsD Tryz.prog 13 #[.pointer (some p)] (.panicking ({ v:=pv c,recovered:=false } :: older)) w fun e u' w'=>e = .returned (.tuple #[])∧u' = .panicking ({ v:=pv c,recovered:=true } :: older) ∧
  ∃ w1,R w1∧w' = w1.setCell p (.string (⟨#[101,114,114,111,114,32]⟩ ++ s)):=by
 refine callsD_of_wpS Tryz.func13 rfl fun c₀ cs hu=>?_
 apply wpS_seq
 apply wpS_region
 simp [wpOpsS,go_sem,recoverD,hu,Tryz.ntmps13,Exit.thenS]
 apply wpS_seq
 apply wpS_region
 simp [wpOpsS,go_sem,Exit.thenS,pv]
 refine wpS_cond (t:=true) (by simp [Act.eval,Array.replicate]) ?_
 simp only [if_true]
 refine wpS_of_wp ?_
 have hta:∀ w:World,Sem.run Tryz.prog (Instr.typeAssert (.iface 48 (.agg #[.int .i64 c])) 20 48 false) w = .ok (.agg #[.int .i64 c]) w:=fun _=>rfl
 have hfl:∀ w:World,Sem.run Tryz.prog (Instr.field 48 (.agg #[.int .i64 c]) 0) w = .ok (.int .i64 c) w:=fun _=>rfl
 have e1:({ v:=Value.iface 48 (.agg #[.int .i64 c]),recovered:=true }:PanicEntry) = { v:=pv c,recovered:=true }:=rfl
 go_wp2_with fail
 refine hI.mono ?_
 rintro e w' ⟨rfl,hb⟩
 obtain ⟨⟨v0,hc2⟩,hz2⟩:=hR w' hb
 go_wp2_with fail
 all_goals first | (exfalso;omega) | (cases c₀;simp [bodyPostS,results,Tryz.results13,go_sem];exact ⟨w',hb,rfl⟩)
end Go.Proofs.YtaphdnpjpmnaeadGreatDoor
namespace Go.Am
section ex
variable {α β:Type} {A:Lay α} {B:Lay β} {fl:Nat} {S T:Cx fl} {v w:SV} {k j r r' i i':Nat} {L:List α} {M:List β} {a:α} {b:β} {cs cs':List SV}
theorem Ow.ex (_:Ow B T j v M) (h:Ow A S k v L):Ow A S k v L:=h
theorem Wk.ex (_:Wk B T j v M) (h:Wk A S k v L):Wk A S k v L:=h
theorem Bk.ex (_:Bk B T j v b) (h:Bk A S k v a):Bk A S k v a:=h
theorem Bw.ex (_:Bw T j v cs') (h:Bw S k v cs):Bw S k v cs:=h
theorem Rw.ex (_:Rw T v cs') (h:Rw S v cs):Rw S v cs:=h
theorem Rp.ex (_:Rp B T v b) (h:Rp A S v a):Rp A S v a:=h
theorem Rd.ex' (_:Rd A T v L) (h:Rd A S v L):Rd A S v L:=h
theorem Ow.ex' (_:Ow A T k v L) (h:Ow A S k v L):Ow A S k v L:=h
theorem Wk.ex' (_:Wk A T k v L) (h:Wk A S k v L):Wk A S k v L:=h
theorem Bk.ex' (_:Bk A T k v a) (h:Bk A S k v a):Bk A S k v a:=h
theorem Bw.ex' (_:Bw T k v cs) (h:Bw S k v cs):Bw S k v cs:=h
theorem Rw.ex' (_:Rw T v cs) (h:Rw S v cs):Rw S v cs:=h
theorem Rp.ex' (_:Rp A T v a) (h:Rp A S v a):Rp A S v a:=h
theorem Iw.ex' {n b:Nat} {m:Mem} (_:Iw A T k n b m v L) (h:Iw A S k n b m v L):Iw A S k n b m v L:=h
theorem Mp.ex' {κ ν:Type} {A:ML κ ν} {L:List (κ × ν)} (_:Mp A T k v L) (h:Mp A S k v L):Mp A S k v L:=h
theorem Ow.fz' (_:Ow B T k v M) (h:Ow A S k v L):Rd A (S.drop k) v L:=h.freeze
theorem Wk.fz' (_:Wk B T k v M) (h:Wk A S k v L):Rd A (S.drop k) v L:=h.freeze
theorem Bw.fz' (_:Bw T k v cs') (h:Bw S k v cs):Rw (S.drop k) v cs:=h.freeze
theorem Ow.rn' (_:Ow B T k v M) (h:Ow A S k v L) (hk:Nat.beq k 0 = false) (hj:Nat.beq j 0 = false):Ow A (S.ren k j) j v L:=h.ren j hk hj
theorem Bk.rn' (_:Bk B T k v b) (h:Bk A S k v a) (hk:Nat.beq k 0 = false) (hj:Nat.beq j 0 = false):Bk A (S.ren k j) j v a:=h.ren j hk hj
theorem Bw.rn' (_:Bw T k v cs') (h:Bw S k v cs) (hk:Nat.beq k 0 = false) (hj:Nat.beq j 0 = false):Bw (S.ren k j) j v cs:=h.ren j hk hj
theorem BK.pt {i q:Nat} (h:BK S k v):BK S k (ptrAt v i q):=fun b hb=>h b (ptrAt_blk hb)
end ex
theorem bindE {α β:Type} {o:Option α} {f:α→Option β} {x:α} {r:Option β} (e:o = some x) (h:o.bind f = r):f x = r:=by subst e;exact h
theorem trB {α:Type} {A:Lay α} {fl:Nat} {S:Cx fl} {k:Nat} {v:SV} {a:α} (h:Bk A S k v a:=by
 first | with_reducible assumption | (
  refine Bk.ex' (by with_reducible assumption) ?_
  repeat (first | with_reducible assumption | refine Bk.to ?_ (by first | with_reducible assumption | assumption) (hj:=?_) | refine Bk.drop ?_ _ ?_ | refine Bk.rn' (by with_reducible assumption) ?_ rfl rfl | refine Bk.renO ?_ _ _ rfl rfl ?_ ?_ | rfl)
  fail_if_success refine ?_) | (
  refine Bk.ex (by with_reducible assumption) ?_
  repeat (first | with_reducible assumption | refine Bk.to ?_ (by first | with_reducible assumption | assumption) (hj:=?_) | refine Bk.drop ?_ _ ?_ | refine Bk.rn' (by with_reducible assumption) ?_ rfl rfl | refine Bk.renO ?_ _ _ rfl rfl ?_ ?_ | rfl)
  fail_if_success refine ?_) | assumption):Bk A S k v a:=h
theorem trR {α:Type} {A:Lay α} {fl:Nat} {S:Cx fl} {v:SV} {L:List α} (h:Rd A S v L:=by
 first | with_reducible assumption | (
  refine Rd.ex' (by with_reducible assumption) ?_
  repeat (first | with_reducible assumption | refine Rd.to ?_ (by first | with_reducible assumption | assumption) | refine Rd.drop ?_ _ | refine Rd.ren ?_ _ _ rfl rfl | rfl)
  fail_if_success refine ?_) | with_reducible exact Rd.nil):Rd A S v L:=h
theorem trF {α:Type} {A:Lay α} {fl:Nat} {S:Cx fl} {v:SV} {L:List α} (h:Rd A S v L:=by
 first | exact trR | (
  repeat (first | with_reducible assumption | refine Rd.to ?_ (by first | with_reducible assumption | assumption) | refine Ow.fz' (by with_reducible assumption) ?_ | refine Wk.fz' (by with_reducible assumption) ?_ | refine Rd.drop ?_ _ | refine Rd.ren ?_ _ _ rfl rfl | refine Ow.to ?_ (by first | with_reducible assumption | assumption) (hj:=?_) | refine Ow.drop ?_ _ ?_ | refine Ow.renO ?_ _ _ rfl rfl ?_ ?_ | rfl)
  fail_if_success refine ?_) | assumption):Rd A S v L:=h
theorem trO {α:Type} {A:Lay α} {fl:Nat} {S:Cx fl} {k:Nat} {v:SV} {L:List α} (h:Ow A S k v L:=by
 first | with_reducible assumption | exact Ow.nil | (
  refine Ow.ex' (by with_reducible assumption) ?_
  repeat (first | with_reducible assumption | refine Ow.to ?_ (by first | with_reducible assumption | assumption) (hj:=?_) | refine Ow.drop ?_ _ ?_ | refine Ow.rn' (by with_reducible assumption) ?_ rfl rfl | refine Ow.renO ?_ _ _ rfl rfl ?_ ?_ | rfl)
  fail_if_success refine ?_) | (
  refine Ow.ex (by with_reducible assumption) ?_
  repeat (first | with_reducible assumption | refine Ow.to ?_ (by first | with_reducible assumption | assumption) (hj:=?_) | refine Ow.drop ?_ _ ?_ | refine Ow.rn' (by with_reducible assumption) ?_ rfl rfl | refine Ow.renO ?_ _ _ rfl rfl ?_ ?_ | rfl)
  fail_if_success refine ?_) | assumption):Ow A S k v L:=h
theorem trW {fl:Nat} {S:Cx fl} {k:Nat} {v:SV} {cs:List SV} (h:Bw S k v cs:=by
 first | with_reducible assumption | (
  refine Bw.ex' (by with_reducible assumption) ?_
  repeat (first | with_reducible assumption | refine Bw.to ?_ (by first | with_reducible assumption | assumption) (hj:=?_) | refine Bw.drop ?_ _ ?_ | refine Bw.rn' (by with_reducible assumption) ?_ rfl rfl | refine Bw.renO ?_ _ _ rfl rfl ?_ ?_ | rfl)
  fail_if_success refine ?_) | (
  refine Bw.ex (by with_reducible assumption) ?_
  repeat (first | with_reducible assumption | refine Bw.to ?_ (by first | with_reducible assumption | assumption) (hj:=?_) | refine Bw.drop ?_ _ ?_ | refine Bw.rn' (by with_reducible assumption) ?_ rfl rfl | refine Bw.renO ?_ _ _ rfl rfl ?_ ?_ | rfl)
  fail_if_success refine ?_) | assumption):Bw S k v cs:=h
theorem trV {fl:Nat} {S:Cx fl} {v:SV} {cs:List SV} (h:Rw S v cs:=by
 first | with_reducible assumption | (
  refine Rw.ex' (by with_reducible assumption) ?_
  repeat (first | with_reducible assumption | refine Rw.to ?_ (by first | with_reducible assumption | assumption) | refine Rw.drop ?_ _ | refine Rw.ren ?_ _ _ rfl rfl | rfl)
  fail_if_success refine ?_) | (
  refine Rw.ex (by with_reducible assumption) ?_
  repeat (first | with_reducible assumption | refine Rw.to ?_ (by first | with_reducible assumption | assumption) | refine Rw.drop ?_ _ | refine Rw.ren ?_ _ _ rfl rfl | rfl)
  fail_if_success refine ?_) | assumption):Rw S v cs:=h
theorem trP {α:Type} {A:Lay α} {fl:Nat} {S:Cx fl} {v:SV} {a:α} (h:Rp A S v a:=by
 first | with_reducible assumption | (
  refine Rp.ex' (by with_reducible assumption) ?_
  repeat (first | with_reducible assumption | refine Rp.to ?_ (by first | with_reducible assumption | assumption) | refine Rp.drop ?_ _ | refine Rp.ren ?_ _ _ rfl rfl | rfl)
  fail_if_success refine ?_) | (
  refine Rp.ex (by with_reducible assumption) ?_
  repeat (first | with_reducible assumption | refine Rp.to ?_ (by first | with_reducible assumption | assumption) | refine Rp.drop ?_ _ | refine Rp.ren ?_ _ _ rfl rfl | rfl)
  fail_if_success refine ?_) | assumption):Rp A S v a:=h
theorem trK {α:Type} {A:Lay α} {fl:Nat} {S:Cx fl} {k:Nat} {v:SV} {L:List α} (h:Wk A S k v L:=by
 first | with_reducible assumption | (
  refine Wk.ex' (by with_reducible assumption) ?_
  repeat (first | with_reducible assumption | refine Wk.to ?_ (by first | with_reducible assumption | assumption) (hj:=?_) | refine Wk.drop ?_ _ ?_ | rfl)
  fail_if_success refine ?_) | (
  refine Wk.ex (by with_reducible assumption) ?_
  repeat (first | with_reducible assumption | refine Wk.to ?_ (by first | with_reducible assumption | assumption) (hj:=?_) | refine Wk.drop ?_ _ ?_ | rfl)
  fail_if_success refine ?_) | assumption):Wk A S k v L:=h
theorem trI {α:Type} {A:Lay α} {fl:Nat} {S:Cx fl} {k n b:Nat} {m:Mem} {v:SV} {L:List α} (h:Iw A S k n b m v L:=by
 first | with_reducible assumption | (
  refine Iw.ex' (by with_reducible assumption) ?_
  repeat (first | with_reducible assumption | refine Iw.to ?_ (by first | with_reducible assumption | assumption) (hj:=?_) | refine Iw.drop ?_ _ ?_ | rfl)
  fail_if_success refine ?_) | assumption):Iw A S k n b m v L:=h
theorem trQ {κ ν:Type} {A:ML κ ν} {fl:Nat} {S:Cx fl} {k:Nat} {v:SV} {L:List (κ × ν)} (h:Mp A S k v L:=by
 first | with_reducible assumption | (
  refine Mp.ex' (by with_reducible assumption) ?_
  repeat (first | with_reducible assumption | refine Mp.to ?_ (by first | with_reducible assumption | assumption) (hj:=?_) | refine Mp.drop ?_ _ ?_ | rfl)
  fail_if_success refine ?_)):Mp A S k v L:=h
theorem trM {fl:Nat} {S S':Cx fl} (h:ChM S S':=by
 repeat (first | with_reducible assumption | exact ChM.refl _ | refine ChM.to ?_ (by first | with_reducible assumption | assumption) | refine ChM.drop ?_ _ | refine ChM.renO ?_ _ _ | rfl)
 fail_if_success refine ?_):ChM S S':=h
section iq
variable {α:Type} {A:Lay α} {fl:Nat} {S S':Cx fl} {v:SV} {k n b n':Nat} {L:List α} {a:α} {cs:List SV} {m:Mem} {E:Env} {l l':LE} {rs:List ResultVar} {vs:Option (List AV)}
theorem iBk (h:Bk A S k v a):Bk A S k v a:=h
theorem iOw (h:Ow A S k v L):Ow A S k v L:=h
theorem iRd (h:Rd A S v L):Rd A S v L:=h
theorem iBw (h:Bw S k v cs):Bw S k v cs:=h
theorem iRw (h:Rw S v cs):Rw S v cs:=h
theorem iRp (h:Rp A S v a):Rp A S v a:=h
theorem iWk (h:Wk A S k v L):Wk A S k v L:=h
theorem iIw (h:Iw A S k n b m v L):Iw A S k n b m v L:=h
theorem iMp {κ ν:Type} {A:ML κ ν} {L:List (κ × ν)} (h:Mp A S k v L):Mp A S k v L:=h
theorem iCm (h:ChM S S'):ChM S S':=h
theorem iCv (h:Cov l l'):Cov l l':=h
theorem iRk (h:resK E l m rs = vs):resK E l m rs = vs:=h
theorem iFr {w:SV} (h:Fr A n m n' w L):Fr A n m n' w L:=h
theorem iIp {m':Mem} (h:Ip A n b m m' v L):Ip A n b m m' v L:=h
end iq
theorem tr {p:Prop} (h:p:=by
 first | ((with_reducible apply iBk);exact trB) | ((with_reducible apply iOw);exact trO) | ((with_reducible apply iRd);exact trF) | ((with_reducible apply iBw);exact trW) | ((with_reducible apply iRw);exact trV) | ((with_reducible apply iRp);exact trP) | ((with_reducible apply iWk);exact trK) | ((with_reducible apply iIw);exact trI) | ((with_reducible apply iCm);exact trM) | ((with_reducible apply iMp);exact trQ) | assumption):p:=h
theorem sv {v:SV} {sz n:Nat} (h:SlV v sz n:=by
 first | exact Rd.slv (by assumption) | exact Ow.slv (by assumption) | exact Wk.slv (by assumption) | exact Tw.slv (by assumption) | exact Iw.slv (by assumption) | exact Th.slv (by assumption) | exact .inl ⟨.inl rfl,rfl⟩):SlV v sz n:=h
theorem gt {α:Type} {L:List α} {i:Nat} {x:α} (h:L[i]? = some x:=by
 first | exact at?_get (by assumption) | assumption):L[i]? = some x:=h
theorem ix {a:Int} {n:Nat} (h:0≤a∧a < n:=by
 first | exact at?_lt (by assumption) | exact ck_some (by assumption) | exact set?_lt (by assumption)):0≤a∧a < n:=h
theorem ntl {a n:Nat} (h:a < n:=by
 first | exact at?_nat (by assumption) | exact ck_nat (by assumption) | exact set?_nat (by assumption)):a < n:=h
theorem pa {p v:SV} {j q:Nat} (h:p = ptrAt v j q:=by
 first | rfl | exact Bk.at0 (by assumption) | exact Bw.at0 (by assumption) | exact Rw.at0 (by assumption)):p = ptrAt v j q:=h
theorem pp {v:SV} {j:Nat} (h:∃ b o,ptrAt v j 0 = .ptr b o:=by
 first | exact SlV.ptr sv ntl | exact Bk.ptr (by assumption) | exact Bw.ptr (by assumption) | exact Rw.ptr (by assumption)):∃ b o,ptrAt v j 0 = .ptr b o:=h
theorem isp {v:SV} (h:∃ b,v = .ptr b 0:=by
 first | exact Bk.isp (by assumption) | exact Rp.isp (by assumption) | exact Bw.isp (by assumption) | exact Rw.isp (by assumption) | exact ⟨_,rfl⟩):∃ b,v = .ptr b 0:=h
theorem lq {l:Option Nat} {n:Nat} (h:limLe l n = true:=by first | rfl | exact limLe_self _):limLe l n = true:=h
theorem lt' {v:SV} {n:Nat} (h:Lt v n:=by
 first | exact Bk.lt trB | exact Bw.lt trW | exact Rw.lt trV | exact Rp.lt trP | exact Ow.lt trO | exact Rd.lt trR | exact Mp.lt trQ | exact Tw.lt tr):Lt v n:=h
theorem ro {α:Type} {A:Lay α} {zo zi:Nat→Prop} {m:Mem} {v:SV} {L:List α} (h:RO A zo zi m v L:=by
 first | exact Rd.ro trR | exact Ow.ro trO | exact Wk.ro trK | exact Iw.ro trI):RO A zo zi m v L:=h
theorem wk {α:Type} {A:Lay α} {fl:Nat} {S:Cx fl} {k:Nat} {v:SV} {L:List α} (h:Wk A S k v L:=by
 first | exact trK | exact Ow.wk trO):Wk A S k v L:=h
theorem vw {α:Type} {A:Lay α} {n:Nat} {m:Mem} {v:SV} {L:List α} (h:Vw A n m v L:=by
 first | exact Rd.vw trR | exact Ow.vw trO | exact Wk.vw trK | exact Iw.vw trI | exact Tw.vw tr | exact Vw.nil):Vw A n m v L:=h
theorem pv' {α:Type} {A:Lay α} {n:Nat} {m:Mem} {b:Nat} {u:α} (h:Pv A n m b u:=by
 first | exact Rp.pv trP | exact Bk.pv trB):Pv A n m b u:=h
theorem jn' {n:Nat} {m:Mem} {v:SV} {L:List (List UInt8)} (h:Jn n m v L:=by
 first | exact Ow.jn trO | exact .inl ⟨rfl,rfl⟩):Jn n m v L:=h
theorem pw {n:Nat} {m:Mem} {v:SV} {cs:List SV} (h:Pw n m v cs:=by
 first | exact Bw.pw trW | exact Rw.pw trV):Pw n m v cs:=h
theorem fr' {α:Type} {A:Lay α} {n:Nat} {m:Mem} {n':Nat} {v:SV} {L:List α} (h:Fr A n m n' v L:=by
 first | exact Fr.nil | exact Ow.fr trO Lay.flat_fl):Fr A n m n' v L:=h
theorem zxR {α:Type} {A:Lay α} {fl n0:Nat} {S T:Cx fl} {v:SV} {L:List α} (_:Rd A T v L) (h:RO A (fun i=>i < n0∧S.fz i) S.fz S.m v L):RO A (fun i=>i < n0∧S.fz i) S.fz S.m v L:=h
theorem zr {α:Type} {A:Lay α} {fl n0:Nat} {S:Cx fl} {v:SV} {L:List α} (h:RO A (fun i=>i < n0∧S.fz i) S.fz S.m v L:=by
 refine zxR (by with_reducible assumption) ?_
 repeat (first | exact Rd.oz trR | refine RO.toz ?_ (by first | with_reducible assumption | assumption))
 fail_if_success refine ?_):RO A (fun i=>i < n0∧S.fz i) S.fz S.m v L:=h
section zw
variable {α:Type} {A:Lay α} {fl n0 j n b:Nat} {m:Mem} {S T:Cx fl} {v:SV} {L:List α}
theorem zxO (_:Ow A T j v L) (h:RO A (fun i=>i < n0∧i < S.n∧S.ow i = j) S.fz S.m v L):RO A (fun i=>i < n0∧i < S.n∧S.ow i = j) S.fz S.m v L:=h
theorem zxW (_:Wk A T j v L) (h:RO A (fun i=>i < n0∧i < S.n∧S.ow i = j) S.fz S.m v L):RO A (fun i=>i < n0∧i < S.n∧S.ow i = j) S.fz S.m v L:=h
theorem zxI (_:Iw A T j n b m v L) (h:RO A (fun i=>i < n0∧i < S.n∧S.ow i = j) S.fz S.m v L):RO A (fun i=>i < n0∧i < S.n∧S.ow i = j) S.fz S.m v L:=h
theorem zw (h:RO A (fun i=>i < n0∧i < S.n∧S.ow i = j) S.fz S.m v L:=by
 first | refine zxO (by with_reducible assumption) ?_ | refine zxI (by with_reducible assumption) ?_ | refine zxW (by with_reducible assumption) ?_
 repeat (first | exact Ow.oz trO | exact Iw.oz trI | exact Wk.oz trK | refine RO.tow ?_ (by first | with_reducible assumption | assumption) (hj:=?_) | rfl)
 fail_if_success refine ?_):RO A (fun i=>i < n0∧i < S.n∧S.ow i = j) S.fz S.m v L:=h
end zw
theorem mq {p:Prop} (h:p:=by
 first | exact Rd.mp trR | exact Ow.mp trO rfl | exact Ow.mp0 trO rfl | exact Wk.mp0 trK rfl | exact Bw.mp trW rfl | exact Bw.mp0 trW rfl | exact Rw.mp trV | exact Bk.mp trB rfl | exact Bk.mp0 trB rfl | exact Rp.mp trP | exact Tw.mp tr rfl rfl):p:=h
theorem ap {fl:Nat} {S:Cx fl} {p:List (Nat × Nat)} {l:List Nat} (h:Apt S p l:=by
 repeat (first | exact trivial | refine ⟨Bk.apt trB rfl,?_⟩ | refine ⟨Bw.apt trW rfl,?_⟩)
 fail_if_success refine ?_):Apt S p l:=h
theorem cq {l l':LE} (h:Cov l l':=by first | assumption | exact Cov.refl _):Cov l l':=h
theorem cv {l l':LE} (h:Cov l l':=by
 first | assumption | skip
 repeat (first | exact Cov.nil _ | exact Cov.refl _ | refine Cov.cons rfl ?_ | refine Cov.skip rfl ?_)
 fail_if_success refine ?_):Cov l l':=h
section rk
variable {E:Env} {α:Type} {fl id:Nat} {S:Cx fl} {v:SV} {l l0:LE} {rs:List ResultVar} {vs:List AV} {a t:Nat}
theorem rkw {cs:List SV} (hc:Cov l l0) (h1:lk l0 a = some (.sc v)) (hs:Bw S id v cs) (hT:aggT E t cs.length = true) (r:resK E l S.m rs = some vs):resK E l S.m (.cell a t :: rs) = some (.agg cs :: vs):=resK_w hs hc h1 hT (by simp) r
theorem rkw1 {s:SV} (hc:Cov l l0) (h1:lk l0 a = some (.sc v)) (hs:Bw S id v [s]) (hT:oneT E t = true) (r:resK E l S.m rs = some vs):resK E l S.m (.cell a t :: rs) = some (.sc s :: vs):=resK_w1 hs hc h1 hT r
theorem rkb {sz:Nat} {f:α→List SV} {hf:∀ a,(f a).length = sz} {u:α} (hc:Cov l l0) (h1:lk l0 a = some (.sc v)) (hs:Bk (Lay.flat sz f hf) S id v u) (hT:aggT E t sz = true) (r:resK E l S.m rs = some vs):resK E l S.m (.cell a t :: rs) = some (.agg (f u) :: vs):=resK_b hs hc h1 hT r
theorem rkb1 {g:α→SV} {u:α} (hc:Cov l l0) (h1:lk l0 a = some (.sc v)) (hs:Bk (Lay.one g) S id v u) (hT:oneT E t = true) (r:resK E l S.m rs = some vs):resK E l S.m (.cell a t :: rs) = some (.sc (g u) :: vs):=resK_b1 hs hc h1 hT r
theorem rka {N:Nat} {g:α→SV} {L:List α} (hc:Cov l l0) (h1:lk l0 a = some (.sc v)) (hs:Bk (Lay.arr N g) S id v L) (hT:aggT E t N = true) (r:resK E l S.m rs = some vs):resK E l S.m (.cell a t :: rs) = some (.agg (L.map g) :: vs):=resK_ar hs hc h1 hT r
theorem rk {m:Mem} (h:resK E l m rs = some vs:=by
 repeat (first | rfl | exact resK_cov (by assumption) rfl | (apply rkw;exact cq;rfl;exact trW;rfl) | (apply rkb;exact cq;rfl;exact trB;rfl) | (apply rkb1;exact cq;rfl;exact trB;rfl) | (apply rkw1;exact cq;rfl;exact trW;rfl) | (apply rka;exact cq;rfl;exact trB;rfl) | (apply resK_t;exact cq;rfl))
 fail_if_success refine ?_):resK E l m rs = some vs:=h
end rk
theorem fn {p:Prop} (h:p:=by
 repeat (first | rfl | exact .inr rfl | exact .inl rfl | with_reducible apply And.intro | with_reducible apply Exists.intro | ((with_reducible apply iCv);exact cv) | ((with_reducible apply iRk);exact rk) | ((with_reducible apply iFr);exact fr') | ((with_reducible apply iIp);exact Iw.ip trI Lay.flat_fl) | exact tr | apply And.intro | apply Exists.intro)
 fail_if_success refine ?_):p:=h
theorem sx {fl:Nat} (S:Cx fl) {P:Cx fl→Prop} (h:P S:=by exact fn):∃ S,P S:=⟨S,h⟩
theorem oT {l l':LE} {d:Nat} {q b:Bool} (h:q = true) (k:lk l d = some (.sc (.bool true))) (c:Cov l l'):Cov l ((d,.sc (.bool (q || b))) :: l'):=Cov.any k (orT h) c
theorem oF {l l':LE} {d:Nat} {q b:Bool} (h:q = false) (k:lk l d = some (.sc (.bool b))) (c:Cov l l'):Cov l ((d,.sc (.bool (q || b))) :: l'):=Cov.any k (orF h) c
theorem aT {l l':LE} {d:Nat} {q b:Bool} (h:q = true) (k:lk l d = some (.sc (.bool b))) (c:Cov l l'):Cov l ((d,.sc (.bool (q && b))) :: l'):=Cov.any k (andT h) c
theorem aF {l l':LE} {d:Nat} {q b:Bool} (h:q = false) (k:lk l d = some (.sc (.bool false))) (c:Cov l l'):Cov l ((d,.sc (.bool (q && b))) :: l'):=Cov.any k (andF h) c
theorem chs {fl k:Nat} {S S':Cx fl} (h:Ch k S S':=by
 repeat (first | assumption | exact Ch.refl _ _ | refine Ch.trans ?_ (by assumption))
 fail_if_success refine ?_):Ch k S S':=h
theorem cu {p:Prop} (h:p:=by
 first | refine ⟨rfl,rfl,?_⟩ | refine ⟨_,rfl,rfl,chs,?_⟩
 first | refine Cov.cons rfl ?_ | refine oT (by assumption) rfl ?_ | refine oF (by assumption) rfl ?_ | refine aT (by assumption) rfl ?_ | refine aF (by assumption) rfl ?_
 first
 | (repeat (first | exact Cov.refl _ | refine Cov.skip rfl ?_)
    fail_if_success refine ?_)
 | exact cv):p:=h
section nq
variable {fl:Nat} {S1 S2:Cx fl} {v w:SV} {vs ws:List SV} {k j n':Nat}
theorem bkq {S:Cx fl} (h:BK S k v:=by
 first | exact Bk.bko trB | exact Bw.bko trW | exact Ow.bko trO | exact Rd.bko trR | exact Rw.bko trV | exact Rp.bko trP | exact Wk.bko trK | exact Tw.bko tr | exact BK.pt (Bk.bko trB) | exact BK.pt (Ow.bko trO) | exact BK.pt (Bw.bko trW) | exact BK.pt (Rd.bko trR)):BK S k v:=h
def NQ1 (_ _:Cx fl) (v:SV) (ws:List SV):Prop:=NB1 v ws
def NQ (_ _:Cx fl) (vs ws:List SV):Prop:=NBs vs ws
theorem NQ.n:NQ S1 S2 [] ws:=trivial
theorem NQ.c (h:NQ1 S1 S2 v ws) (k:NQ S1 S2 vs ws):NQ S1 S2 (v :: vs) ws:=⟨h,k⟩
theorem NQ1.n:NQ1 S1 S2 v []:=trivial
theorem NQ1.l (h:v.blk = none) (k:NQ1 S1 S2 v ws):NQ1 S1 S2 v (w :: ws):=⟨NB.none h,k⟩
theorem NQ1.r (h:w.blk = none) (k:NQ1 S1 S2 v ws):NQ1 S1 S2 v (w :: ws):=⟨NB.noneR h,k⟩
theorem NQ1.a (h:BK S1 k v) (g:BK S1 j w) (e:Nat.beq k j = false) (q:NQ1 S1 S2 v ws):NQ1 S1 S2 v (w :: ws):=⟨h.nb g e,q⟩
theorem NQ1.b (h:BK S2 k v) (g:BK S2 j w) (e:Nat.beq k j = false) (q:NQ1 S1 S2 v ws):NQ1 S1 S2 v (w :: ws):=⟨h.nb g e,q⟩
theorem NQ1.g (h:BK S1 k v) (g:GE n' w) (e:S1.n≤n') (q:NQ1 S1 S2 v ws):NQ1 S1 S2 v (w :: ws):=⟨h.ge g e,q⟩
theorem NQ1.h (h:BK S1 k w) (g:GE n' v) (e:S1.n≤n') (q:NQ1 S1 S2 v ws):NQ1 S1 S2 v (w :: ws):=⟨(h.ge g e).symm,q⟩
theorem chn {S S':Cx fl} (h:S.n≤S'.n:=by
 repeat (first | exact Nat.le_refl _ | refine Nat.le_trans ?_ (Ch.n (by assumption)))
 fail_if_success refine ?_):S.n≤S'.n:=h
def PQ (_ _:Cx fl) (t:Tr AV) (ops:Array Oper) (ps:List (Nat × Nat)):Prop:=PD t ops ps
theorem PQ.n {t:Tr AV} {ops:Array Oper}:PQ S1 S2 t ops []:=trivial
theorem PQ.c {t:Tr AV} {ops:Array Oper} {q:Nat × Nat} {ps:List (Nat × Nat)} {a b:Oper} {l:LE} {ra wa da rb wb:List SV} (hs:Sees t l) (ha:ops[q.1]? = some a) (hb:ops[q.2]? = some b) (h1:valsL l (rdOps a.op) = some ra) (h2:valsL l (wrOps a.op) = some wa) (h3:valsL l (dsOps a.dst) = some da) (h4:valsL l (rdOps b.op) = some rb) (h5:valsL l (wrOps b.op) = some wb)
 (n1:NQ S1 S2 wa rb) (n2:NQ S1 S2 da rb) (n3:NQ S1 S2 wb ra) (k:PQ S1 S2 t ops ps):PQ S1 S2 t ops (q :: ps):=⟨by
 rw [ha,hb];exact djT_of hs h1 h2 h3 h4 h5 n1 n2 n3,k⟩
end nq
theorem dy {fl:Nat} (T1:Cx fl) (T2:Cx fl) (ps:List (Nat × Nat)) {lo:List Nat} {loose:Bool} {ops:Array Oper} {l:LE} {p:Prop} (h:p) (hp:coverD lo ops loose ps = true:=by kernel_rfl) (hd:∀ t,Sees t l→PQ T1 T2 t ops ps:=by
 intro t hs
 repeat (first | exact PQ.n | refine PQ.c hs rfl rfl rfl rfl rfl rfl rfl ?_ ?_ ?_ ?_ | exact NQ.n | refine NQ.c ?_ ?_ | exact NQ1.n | refine NQ1.l rfl ?_ | refine NQ1.r rfl ?_ | refine NQ1.a bkq bkq (by rfl) ?_ | refine NQ1.b bkq bkq (by rfl) ?_ | refine NQ1.g bkq (by assumption) chn ?_ | refine NQ1.h bkq (by assumption) chn ?_)
 fail_if_success refine ?_):(∀ t,Sees t l→dynOk lo ops loose t = true)∧p:=⟨fun t ht=>dynOk_of ps hp (hd t ht),h⟩
section st
variable {E:Env} {loose:Nat→Bool} {fl:Nat} {lim:Option Nat} {ops:Array Oper} {os:List Oper} {l:LE} {m:Mem} {n:Nat} {K:LE→Mem→Nat→Prop} {d:Nat} {op:Op} {ty t:TypeId} {pos:String} {af:Array Edge} {v:AV} {x:Operand}
def pu:Op→Bool
 | .extract .. | .field .. | .build .. | .makeFunc .. | .binOp .. | .unOp .. | .index ..=>true
 | _=>false
theorem WO.dp {m':Mem} {n':Nat} (hp:pu op = true) (hin:allK l op = true) (h1:opA E (fun _ _ _ _ _=>none) fl lim (evL l) m n op = some (v,m',n')) (h2:WO E loose fl lim ops os ((d,v) :: l) m' n' K):
 WO E loose fl lim ops (⟨some d,op,ty,pos,af,none⟩ :: os) l m n K:=WO.do hin h1 h2
variable {α:Type} {S:Cx fl} {sz n0 j q i:Nat} {f:α→List SV} {hf:∀ a,(f a).length = sz} {w s:SV} {L:List α} {u:α}
theorem WO.ldFr (hx:evK l x = some (.sc (ptrAt w j q))) (hs:RO (Lay.flat sz f hf) (fun i=>i < n0∧S.fz i) S.fz S.m w L) (hu:L[j]? = some u) (hc:(f u)[q]? = some s) (hT:oneT E t = true)
 (h:WO E loose fl (some n0) ops os ((d,.sc s) :: l) S.m S.n K):WO E loose fl (some n0) ops (⟨some d,.load t x,ty,pos,af,none⟩ :: os) l S.m S.n K:=WO.ldF hx hs (fun _ h=>h.1) hu hc hT (limLe_self _) h
theorem WO.ldFo (hx:evK l x = some (.sc (ptrAt w j q))) (hs:RO (Lay.flat sz f hf) (fun k=>k < n0∧k < S.n∧S.ow k = i) S.fz S.m w L) (hu:L[j]? = some u) (hc:(f u)[q]? = some s) (hT:oneT E t = true)
 (h:WO E loose fl (some n0) ops os ((d,.sc s) :: l) S.m S.n K):WO E loose fl (some n0) ops (⟨some d,.load t x,ty,pos,af,none⟩ :: os) l S.m S.n K:=WO.ldF hx hs (fun _ h=>h.1) hu hc hT (limLe_self _) h
theorem WO.ldWX {id:Nat} {p:SV} {cs r:List SV} {yt:Ty} (hx:evK l x = some (.sc p)) (hp:p = ptrAt w 0 q) (hs:Bw S id w cs) (hy:E.ty t = some yt) (hr:(cs.drop q).take yt.size = r) (hc:Nat.ble (q + yt.size) cs.length = true) (hT:aggT E t yt.size = true) (hv:Lt w n0) (hl:limLe lim n0 = true)
 (h:WO E loose fl lim ops os ((d,.agg r) :: l) S.m S.n K):WO E loose fl lim ops (⟨some d,.load t x,ty,pos,af,none⟩ :: os) l S.m S.n K:=WO.ldWA hx hp hs hr hc hT hv hl h
theorem WO.ldVX {p:SV} {cs r:List SV} {yt:Ty} (hx:evK l x = some (.sc p)) (hp:p = ptrAt w 0 q) (hs:Rw S w cs) (hy:E.ty t = some yt) (hr:(cs.drop q).take yt.size = r) (hc:Nat.ble (q + yt.size) cs.length = true) (hT:aggT E t yt.size = true) (hv:Lt w n0) (hl:limLe lim n0 = true)
 (h:WO E loose fl lim ops os ((d,.agg r) :: l) S.m S.n K):WO E loose fl lim ops (⟨some d,.load t x,ty,pos,af,none⟩ :: os) l S.m S.n K:=WO.ldRwA hx hp hs hr hc hT hv hl h
end st
section ii
variable {E:Env} {loose:Nat→Bool} {fl:Nat} {lim:Option Nat} {ops:Array Oper} {os:List Oper} {l:LE} {m:Mem} {n:Nat} {K:LE→Mem→Nat→Prop} {d:Nat} {op:Op} {ty t:TypeId} {pos:String} {af:Array Edge} {x y z:Operand}
theorem iG {dst:Option Nat} {g:Nat × Bool} (h:WO E loose fl lim ops (⟨dst,op,ty,pos,af,some g⟩ :: os) l m n K):WO E loose fl lim ops (⟨dst,op,ty,pos,af,some g⟩ :: os) l m n K:=h
theorem iL (h:WO E loose fl lim ops (⟨some d,.load t x,ty,pos,af,none⟩ :: os) l m n K):WO E loose fl lim ops (⟨some d,.load t x,ty,pos,af,none⟩ :: os) l m n K:=h
theorem iB {bo:BinOp} {t2:TypeId} (h:WO E loose fl lim ops (⟨some d,.binOp bo t x y t2,ty,pos,af,none⟩ :: os) l m n K):WO E loose fl lim ops (⟨some d,.binOp bo t x y t2,ty,pos,af,none⟩ :: os) l m n K:=h
theorem iC {c:Call} (h:WO E loose fl lim ops (⟨some d,.call c,ty,pos,af,none⟩ :: os) l m n K):WO E loose fl lim ops (⟨some d,.call c,ty,pos,af,none⟩ :: os) l m n K:=h
theorem iI (h:WO E loose fl lim ops (⟨some d,.indexAddr t x y,ty,pos,af,none⟩ :: os) l m n K):WO E loose fl lim ops (⟨some d,.indexAddr t x y,ty,pos,af,none⟩ :: os) l m n K:=h
theorem iS {lo hi mx:Option Operand} (h:WO E loose fl lim ops (⟨some d,.slice t x lo hi mx,ty,pos,af,none⟩ :: os) l m n K):WO E loose fl lim ops (⟨some d,.slice t x lo hi mx,ty,pos,af,none⟩ :: os) l m n K:=h
theorem iW {o:Oper} (h:WO E loose fl lim ops (o :: os) l m n K):WO E loose fl lim ops (o :: os) l m n K:=h
end ii
theorem iC' {E:Env} {lo:List Nat} {fl:Nat} {l:LE} {m:Mem} {n:Nat} {Q:AE→LE→Mem→Nat→Prop} {c:Code} (h:WC E lo fl c l m n Q):WC E lo fl c l m n Q:=h
structure Bx (q:Prop):Prop where
 h:q
theorem go {p q:Prop} (h:q) (k:Bx q→p:=by
 intro hq
 repeat (first
  | refine WO.nil ?_
  | (refine iW ?_
     first
     | refine WO.mv rfl ?_
     | refine WO.asg rfl ?_
     | (refine iG ?_
        first | refine WO.gyes rfl rfl ?_ | refine WO.gno rfl rfl ?_ | refine WO.gskip rfl rfl ?_)
     | (refine iL ?_
        first
        | refine WO.ldB rfl pa trB (by rfl) (by rfl) lq ?_
        | refine WO.ldBA rfl pa trB (by rfl) lq ?_
        | refine WO.ldF rfl ro (by exact fun _ h=>h) gt (by rfl) (by rfl) lq ?_
        | refine WO.ldA rfl ro (by exact fun _ h=>h) gt (by rfl) lq ?_
        | refine WO.ldW rfl pa trW (by rfl) (by rfl) (Bw.lt trW) rfl ?_
        | refine WO.ldW rfl pa trW (by rfl) (by rfl) lt' (limLe_self _) ?_
        | refine WO.ldWX rfl pa trW rfl (by rfl) (by rfl) rfl (Bw.lt trW) rfl ?_
        | refine WO.ldWX rfl pa trW rfl (by rfl) (by rfl) rfl lt' (limLe_self _) ?_
        | refine WO.ldRw rfl pa trV (by rfl) (by rfl) (Rw.lt trV) rfl ?_
        | refine WO.ldRw rfl pa trV (by rfl) (by rfl) lt' (limLe_self _) ?_
        | refine WO.ldVX rfl pa trV rfl (by rfl) (by rfl) rfl (Rw.lt trV) rfl ?_
        | refine WO.ldVX rfl pa trV rfl (by rfl) (by rfl) rfl lt' (limLe_self _) ?_
        | refine WO.ldBz rfl pa trB (by rfl) (by rfl) lt' (limLe_self _) ?_
        | refine WO.ldBAz rfl pa trB (by rfl) lt' (limLe_self _) ?_
        | refine WO.ldFr rfl zr gt (by rfl) (by rfl) ?_
        | refine WO.ldFo rfl zw gt (by rfl) (by rfl) ?_
        | refine WO.ldP rfl trP (by rfl) (by rfl) lq ?_
        | refine WO.ldR rfl (by rfl) trB gt (by rfl) lq ?_
        | refine WO.ldRp rfl (by rfl) trP gt (by rfl) lq ?_)
     | (refine iB ?_
        first
        | refine WO.bin rfl rfl (by decide) (by decide) rfl ?_
        | refine WO.quoD rfl rfl (by assumption) ?_
        | refine WO.remD rfl rfl (by assumption) ?_
        | refine WO.shrD rfl rfl (by assumption) ?_
        | refine WO.cat rfl rfl (by assumption) ?_
        | refine WO.bits rfl rfl rfl (by decide) (by decide) rfl ?_
        | refine WO.dp rfl rfl rfl ?_)
     | refine WO.fldS rfl pa pp rfl rfl rfl (by decide) ?_
     | (refine iI ?_
        first | refine WO.ixS rfl rfl sv ix (by rfl) ?_ | refine WO.ixR rfl trB rfl ix (by rfl) ?_ | refine WO.ixRp rfl trP rfl ix (by rfl) ?_)
     | (refine iC ?_
        first | refine WO.lenS rfl sv (by rfl) ?_ | refine WO.lenT rfl rfl rfl ?_ | refine WO.maxD rfl rfl ?_ | refine WO.min3 rfl rfl rfl rfl rfl ?_)
     | refine WO.pickT rfl rfl ?_
     | refine WO.pickF rfl rfl ?_
     | refine WO.nck rfl isp ?_
     | refine WO.ixT rfl rfl (by assumption) rfl rfl ?_
     | refine WO.conv rfl rfl rfl rfl ?_
     | (refine iS ?_
        first
        | refine WO.slcT (k:=.i64) (k':=.i64) rfl (.inl ⟨_,rfl,rfl⟩) (.inr ⟨rfl,rfl⟩) (by assumption) rfl rfl ?_
        | refine WO.slcT (k:=.i64) (k':=.i64) rfl (.inr ⟨rfl,rfl⟩) (.inl ⟨_,rfl,rfl⟩) (by assumption) rfl rfl ?_
        | refine WO.slcT (k:=.i64) (k':=.i64) rfl (.inl ⟨_,rfl,rfl⟩) (.inl ⟨_,rfl,rfl⟩) (by assumption) rfl rfl ?_)
     | refine WO.dp rfl rfl rfl ?_)
  | (refine iC' ?_
     first
     | refine WC.cov (by assumption) ?_
     | refine WC.seq ?_
     | refine WC.region ?_
     | refine WC.skip ?_
     | refine WC.block ?_
     | refine WC.ret ?_
     | refine WC.exit ?_
     | refine WC.drawP rfl rfl ?_
     | refine WC.drawN rfl rfl ?_
     | refine WC.drawDN rfl ?_)
  | refine thenL_n ?_
  | refine thenL_r ?_
  | refine thenL_e ?_
  | refine blockL_n ?_
  | refine blockL_r ?_
  | refine blockL_s ?_
  | refine blockL_e rfl ?_)
 exact hq.h):p:=k ⟨h⟩
theorem ci {α:Type} {E:Env} {lo:List Nat} {fl:Nat} {l:LE} {m:Mem} {n:Nat} {Q:AE→LE→Mem→Nat→Prop} {c:Operand} {x y:Code} {q:Bool} {a b r:α} (h:(if q then a else b) = r) (h1:q = true→a = r→WC E lo fl x l m n Q) (h2:q = false→b = r→WC E lo fl y l m n Q) (hc:evK l c = some (.sc (.bool q)):=by rfl):WC E lo fl (.cond c x y) l m n Q:=
 WC.cond hc (fun e=>h1 e (iteT e h)) (fun e=>h2 e (iteF e h))
structure Kp {fl:Nat} (S S':Cx fl):Prop where
 n:S.n≤S'.n
 z:∀ i,S.fz i→S'.fz i∧S'.m.get i = S.m.get i
section kp
variable {fl k:Nat} {S S' S'':Cx fl}
theorem Kp.refl (S:Cx fl):Kp S S:=⟨Nat.le_refl _,fun _ h=>⟨h,rfl⟩⟩
theorem Kp.to (h:Kp S S') (c:Ch k S' S'') (hk:Nat.beq k 0 = false:=by rfl):Kp S S'':=
 ⟨Nat.le_trans h.n c.n,fun i hi=>by
  obtain ⟨h1,h2⟩:=h.z i hi
  obtain ⟨h3,h4⟩:=fz_ch c (nb hk) i h1
  exact ⟨h3,h4.trans h2⟩⟩
theorem Kp.drop (h:Kp S S') (k:Nat):Kp S (S'.drop k):=⟨h.n,fun i hi=>⟨(fz_drop k i (h.z i hi).1).1,(h.z i hi).2⟩⟩
theorem trKp (h:Kp S S':=by
 repeat (first | with_reducible assumption | exact Kp.refl _ | refine Kp.to ?_ (by first | with_reducible assumption | assumption) | refine Kp.drop ?_ _)
 fail_if_success refine ?_):Kp S S':=h
theorem Kp.ks {n:Nat} {S S':Cx n} (h:Kp S S') (hz:∀ i,i < n→S.fz i) (hn:S.n = n):Keeps n n S.m S'.m S'.n:=⟨by have:=h.n;omega,fun i hi _=>(h.z i (hz i hi)).2⟩
end kp
theorem sees_some:∀ l:LE,∃ t:Tr AV,Sees t l
 | []=>⟨.nil,fun _ _ h=>by cases h⟩
 | (d,v) :: l=>by obtain ⟨t,ht⟩:=sees_some l;exact ⟨t.set d v,ht.set d v⟩
theorem opA_of {E:Env} {loose:Nat→Bool} {fl:Nat} {lim:Option Nat} {ops:Array Oper} {l:LE} {m:Mem} {n d:Nat} {op:Op} {ty:TypeId} {pos:String} {af:Array Edge} {v:AV} (hnc:∀ c,opA E c fl lim (evL l) m n op = opA E (fun _ _ _ _ _=>none) fl lim (evL l) m n op) (hin:allK l op = true)
 (h:WO E loose fl lim ops [⟨some d,op,ty,pos,af,none⟩] l m n fun l' m' n'=>lk l' d = some v∧m' = m∧n' = n):opA E (fun _ _ _ _ _=>none) fl lim (evL l) m n op = some (v,m,n):=by
 obtain ⟨t,ht⟩:=sees_some l
 obtain ⟨k,s',h1,l',h2,h3,h4,h5⟩:=h.ok t ht
 simp only [opsA,stepA,wantedA] at h1
 have e:∀ c,opA E c fl lim (St.ev ⟨t,m,n⟩) m n op = opA E (fun _ _ _ _ _=>none) fl lim (evL l) m n op:=fun c=>(opA_congr (evL_ev ht hin)).trans (hnc c)
 rw [e] at h1
 cases hq:opA E (fun _ _ _ _ _=>none) fl lim (evL l) m n op with
 | none=>rw [hq] at h1;cases h1
 | some r=>
  obtain ⟨v',m',n'⟩:=r
  rw [hq] at h1
  cases h1
  have h6:=h2 d v h3
  have h7:(t.set d v').get d = some v:=h6
  rw [Tr.get_set_same] at h7
  cases h7
  have h4:m' = m:=h4
  have h5:n' = n:=h5
  rw [h4,h5]
section x
variable {P:Program} {pv:Int→Value} {E:Env} {D:List Deferred} {B fl0:Nat} {w0:World} {N:Nat} {lo:List Nat} {fl:Nat} {l:LE} {m:Mem} {n:Nat} {Q:XQ} {c:Code} {id:Nat}
theorem WX.ofQ (hE:EnvOk P E) (hF:∀ f fi,E.fn f = some fi→FnOk P f fi) (hW:E.wc w0∧B = w0.heap.size) (hfl:fl0≤fl) (h:WC E lo fl c l m n fun e l m n=>Q (.e e) l m n):WX P pv D B fl0 w0 N lo c l m n Q:=
 WX.of hE hF hW hfl h fun _ _ _ _ q=>q
theorem WX.ofR (xs:List Nat) {ops:Array Oper} {dr:Bool} (_:(ops.toList.all fun o=>match o.op with | .call ⟨.value (.func g),_,_⟩=>!xs.contains g | _=>true) = true) (hE:EnvOk P E) (hF:∀ f fi,E.fn f = some fi→FnOk P f fi) (hW:E.wc w0∧B = w0.heap.size) (hfl:fl0≤fl)
 (h:WC E lo fl (.region id ops dr) l m n fun e l m n=>Q (.e e) l m n):WX P pv D B fl0 w0 N lo (.region id ops dr) l m n Q:=WX.ofQ hE hF hW hfl h
theorem WX.start {n:Nat} (h:∀ S:Cx n,S.m = m→S.n = n→(∀ i,i < n→S.fz i)→WX P pv D B fl0 w0 N lo c l S.m S.n Q):WX P pv D B fl0 w0 N lo c l m n Q:=
 h ⟨m,n,fun _=>0,Nat.le_refl n⟩ rfl rfl fun _ hi=>⟨hi,rfl⟩
theorem iX (h:WX P pv D B fl0 w0 N lo c l m n Q):WX P pv D B fl0 w0 N lo c l m n Q:=h
theorem xci {α:Type} {o:Operand} {x y:Code} {q:Bool} {a b r:α} (h:(if q then a else b) = r) (h1:q = true→a = r→WX P pv D B fl0 w0 N lo x l m n Q) (h2:q = false→b = r→WX P pv D B fl0 w0 N lo y l m n Q) (hc:evK l o = some (.sc (.bool q)):=by rfl):WX P pv D B fl0 w0 N lo (.cond o x y) l m n Q:=
 WX.cond hc (fun e=>h1 e (iteT e h)) (fun e=>h2 e (iteF e h))
theorem thenX_n {K:LE→Mem→Nat→Prop} (h:K l m n):thenX K Q (.e .normal) l m n:=h
theorem thenX_r {K:LE→Mem→Nat→Prop} (h:Q (.e .ret) l m n):thenX K Q (.e .ret) l m n:=h
theorem thenX_e {K:LE→Mem→Nat→Prop} {b:Nat} (h:Q (.e (.exit b)) l m n):thenX K Q (.e (.exit b)) l m n:=h
theorem thenX_p {K:LE→Mem→Nat→Prop} {b:Int} (h:Q (.pan b) l m n):thenX K Q (.pan b) l m n:=h
theorem blockX_n (h:Q (.e .normal) l m n):blockX id Q (.e .normal) l m n:=h
theorem blockX_r (h:Q (.e .ret) l m n):blockX id Q (.e .ret) l m n:=h
theorem blockX_p {b:Int} (h:Q (.pan b) l m n):blockX id Q (.pan b) l m n:=h
theorem blockX_s (h:Q (.e .normal) l m n):blockX id Q (.e (.exit id)) l m n:=by simp only [blockX,if_true];exact h
theorem blockX_e {b:Nat} (e:Nat.beq b id = false) (h:Q (.e (.exit b)) l m n):blockX id Q (.e (.exit b)) l m n:=by
 simp only [blockX];rw [if_neg (nb e)];exact h
variable {ops:Array Oper} {j:Nat} {S:Cx fl}
theorem WXO.callK {d:Option Tmp} {ty:TypeId} {pos:String} {af:Array Edge} {f:Operand} {xs:Array Operand} {ats:Array TypeId} {g:Nat} {args:List AV} {X:XR}
 (ho:ops[j]? = some ⟨d,.call ⟨.value f,xs,ats⟩,ty,pos,af,none⟩) (hf:evK l f = some (.sc (.fn g []))) (ha:xs.toList.mapM (evK l) = some args) (h:CX P pv B fl0 w0 g args S.m S.n fun x m' n'=>Keeps S.n S.n S.m m' n'∧x = X)
 (k:∀ v S',Ch 1 S S'→X = .ok v→WXO P pv D B fl0 w0 N ops (j + 1) (putX d v l) S'.m S'.n Q) (k':∀ c S',Ch 1 S S'→X = .pan c→Q (.pan c) l S'.m S'.n):WXO P pv D B fl0 w0 N ops j l S.m S.n Q:=by
 refine WXO.call ho hf ha (by simpa using h) ?_ ?_
 ·rintro v m' n' ⟨hk,e⟩
  obtain ⟨S',rfl,rfl,hc,_⟩:=S.next hk 1 S.n (Nat.le_refl _)
  exact k v S' hc e.symm
 ·rintro c m' n' ⟨hk,e⟩
  obtain ⟨S',rfl,rfl,hc,_⟩:=S.next hk 1 S.n (Nat.le_refl _)
  exact k' c S' hc e.symm
theorem WXO.callN {α:Type} {A:Lay α} {L:List α} {e:Option Int} {d:Option Tmp} {ty:TypeId} {pos:String} {af:Array Edge} {f:Operand} {xs:Array Operand} {ats:Array TypeId} {g:Nat} {args:List AV} (id:Nat)
 (ho:ops[j]? = some ⟨d,.call ⟨.value f,xs,ats⟩,ty,pos,af,none⟩) (hf:evK l f = some (.sc (.fn g []))) (ha:xs.toList.mapM (evK l) = some args) (hA:A.Fl)
 (h:CX P pv B fl0 w0 g args S.m S.n fun x m' n'=>Keeps S.n S.n S.m m' n'∧match e with | none=>∃ w,x = .ok (.sc w)∧Fr A S.n m' n' w L | some c=>x = .pan c)
 (k:∀ w S',e = none→Ch id S S'→Ow A S' id w L→WXO P pv D B fl0 w0 N ops (j + 1) (putX d (.sc w) l) S'.m S'.n Q) (k':∀ c S',e = some c→Ch 1 S S'→Q (.pan c) l S'.m S'.n):WXO P pv D B fl0 w0 N ops j l S.m S.n Q:=by
 refine WXO.call ho hf ha (by simpa using h) ?_ ?_
 ·rintro v m' n' ⟨hk,q⟩
  cases e with
  | none=>
   obtain ⟨w,q1,q2⟩:=q
   cases q1
   obtain ⟨S',rfl,rfl,hc,ho⟩:=q2.own hA hk id
   exact k w S' rfl hc ho
  | some c=>cases q
 ·rintro c m' n' ⟨hk,q⟩
  cases e with
  | none=>obtain ⟨w,q1,_⟩:=q;cases q1
  | some c'=>
   cases q
   obtain ⟨S',rfl,rfl,hc,_⟩:=S.next hk 1 S.n (Nat.le_refl _)
   exact k' c S' rfl hc
theorem WXO.callB {R:XR→Cx fl→Prop} {d:Option Tmp} {ty:TypeId} {pos:String} {af:Array Edge} {f:Operand} {xs:Array Operand} {ats:Array TypeId} {g:Nat} {args:List AV} (p q:List (Nat × Nat))
 (ho:ops[j]? = some ⟨d,.call ⟨.value f,xs,ats⟩,ty,pos,af,none⟩) (hf:evK l f = some (.sc (.fn g []))) (ha:xs.toList.mapM (evK l) = some args)
 (h:CX P pv B fl0 w0 g args S.m S.n fun x m' n'=>∃ S':Cx fl,S'.m = m'∧S'.n = n'∧ChM (S.mp p) S'∧R x S')
 (k:∀ v S' S1,Bak p q S S' S1→R (.ok v) S'→WXO P pv D B fl0 w0 N ops (j + 1) (putX d v l) S1.m S1.n Q) (k':∀ c S' S1,Bak p q S S' S1→R (.pan c) S'→Q (.pan c) l S1.m S1.n):WXO P pv D B fl0 w0 N ops j l S.m S.n Q:=by
 refine WXO.call ho hf ha (by simpa using h) ?_ ?_
 ·rintro v m' n' ⟨S',rfl,rfl,hc,hR⟩
  obtain ⟨S1,hb⟩:=Bak.mk' p q hc
  have:=k v S' S1 hb hR
  rw [hb.m,hb.n] at this;exact this
 ·rintro c m' n' ⟨S',rfl,rfl,hc,hR⟩
  obtain ⟨S1,hb⟩:=Bak.mk' p q hc
  have:=k' c S' S1 hb hR
  rw [hb.m,hb.n] at this;exact this
theorem CX.walkF (hE:EnvOk P E) (hF:∀ f fi,E.fn f = some fi→FnOk P f fi) {f:Nat} {args:List AV} {R:XR→Mem→Nat→Prop} {fi:Fi} (hf:E.fn f = some fi)
 (h:fl0≤n→WX P pv [] B fl0 w0 fi.ntmps fi.loose fi.body (argL 0 args) m n fun x l' m' n'=>match x with
   | .e a=>(a = .normal∨a = .ret)∧∃ vs v,resK E l' m' fi.results = some vs∧tupA vs = some v∧R (.ok v) m' n'
   | .pan c=>R (.pan c) m' n'):CX P pv B fl0 w0 f args m n R:=fun ρ w vals h0=>CX.walk hE hF hf (h h0) ρ w vals h0
end x
theorem gx {p q:Prop} (h:q) (k:Bx q→p:=by
 intro hq
 repeat (first
  | (refine iX ?_
     first
     | refine WX.cov (by assumption) ?_
     | refine WX.seq ?_
     | refine WX.ofR [15,33,36,18,19,9] rfl (by assumption) (by assumption) (by assumption) (by assumption) (go ?_)
     | refine WX.skip ?_
     | refine WX.block ?_
     | refine WX.ret ?_
     | refine WX.exit ?_)
  | refine thenX_n ?_ | refine thenX_r ?_ | refine thenX_e ?_ | refine thenX_p ?_
  | refine blockX_n ?_ | refine blockX_r ?_ | refine blockX_p ?_ | refine blockX_s ?_ | refine blockX_e rfl ?_)
 exact hq.h):p:=k ⟨h⟩
end Go.Am
namespace Go.Proofs.YtaphdnpjpmnaeadGreatDoor
open Go.Am
abbrev Y9:Lay (List UInt8):=Lay.one SV.str
abbrev Y85:Lay ((List UInt8) × Int × Int):=Lay.flat 3 (fun a=>[.str a.1,.int .i64 a.2.1,.int .i64 a.2.2]) fun _=>rfl
abbrev Y168:Lay ((List UInt8) × (List UInt8) × Int):=Lay.flat 3 (fun a=>[.str a.1,.str a.2.1,.int .i64 a.2.2]) fun _=>rfl
abbrev Y59:Lay ((List UInt8) × Int × Int):=Lay.flat 3 (fun a=>[.str a.1,.int .i64 a.2.1,.int .i64 a.2.2]) fun _=>rfl
abbrev Y118:Lay ((List UInt8) × (List UInt8) × Int):=Lay.flat 3 (fun a=>[.str a.1,.str a.2.1,.int .i64 a.2.2]) fun _=>rfl
def MC0:List ((List UInt8) × Int):=(mput ((mput ((mput ((mput ((mput ((mput ((mput (([]:List ((List UInt8) × Int))) ([106,111,105,110]:List UInt8) 1)) ([108,101,97,118,101]:List UInt8) 2)) ([108,101,110,100]:List UInt8) 3)) ([98,97,99,107]:List UInt8) 4)) ([100,114,97,119]:List UInt8) 5)) ([116,101,108,108]:List UInt8) 6)) ([102,97,105,114]:List UInt8) 7)
def MC1:List (Int × Int):=(mput ((mput ((mput ((mput ((mput (([]:List (Int × Int))) (1:Int) 1)) (2:Int) 1)) (3:Int) 2)) (4:Int) 1)) (6:Int) 1)
abbrev Y3:Lay Int:=Lay.one (SV.int .i64)
abbrev Y143:Lay (List Bool):=Lay.arr 256 SV.bool
abbrev Y99:Lay (Int × Int):=Lay.flat 2 (fun a=>[.int .i64 a.1,.int .i64 a.2]) fun _=>rfl
def MC2:List (Int × Int):=(mput ((mput ((mput (([]:List (Int × Int))) (1:Int) 1)) (3:Int) 1)) (5:Int) 1)
abbrev Y67:Lay (Int × Int × (List UInt8) × (List UInt8)):=Lay.flat 4 (fun a=>[.int .i64 a.1,.int .i64 a.2.1,.str a.2.2.1,.str a.2.2.2]) fun _=>rfl
abbrev Y69:Lay ((List UInt8) × Int):=Lay.flat 2 (fun a=>[.str a.1,.int .i64 a.2]) fun _=>rfl
abbrev Y5:Lay Int:=Lay.one (SV.int .u8)
abbrev Y195:Lay (List Bool):=Lay.arr 10 SV.bool
def F7 (F:Nat) (t0:List UInt8) (t1:List UInt8):Option (List (List UInt8)):=
 split? t0 t1
def F8 (F:Nat) :Option ((Option ((List ((List UInt8) × Int × Int)) × (List ((List UInt8) × (List UInt8) × Int))))):=
 some ((some (([],[]))))
def F20_21 (F:Nat) (t0:List UInt8):Option (List (List UInt8)):=
 fields? Fs t0
def F14 (F:Nat) (t0:Int):Option (List UInt8):=
 itoa? t0
def F22 (F:Nat) (t0:Int):Option ((List UInt8)):=
 (F14 F t0).bind fun r1=>
 (cat? [101,114,114,111,114,32] r1).bind fun x5=>
 some x5
def F16 (F:Nat) (t0:List (List UInt8)) (t1:List UInt8):Option (List UInt8):=
 join? t0 t1
def F96_l0 (F:Nat) (t1:Int) (s1:(List UInt8)):Option (Stp ((List UInt8)) ((List UInt8))):=
 (if (decide ((s1.length:Int) > 0)) then
 ((at? s1 (wrapA .i64 ((s1.length:Int) - 1))).bind fun x6=>
 some ((x6.toNat:Int) == t1))
  else some false).bind fun y9=>
 if y9 then
 ((sub? s1 0 (wrapA .i64 ((s1.length:Int) - 1))).bind fun x12=>
 some (.more x12))
 else
 some (.stop s1)
def F96 (F:Nat) (t0:List UInt8) (t1:Int):Option ((List UInt8)):=
 (iter (F96_l0 F t1) F t0).bind fun b14=>
 some b14
def F95_l0 (F:Nat) (t1:Int) (s1:(List UInt8)):Option (Stp ((List UInt8)) ((List UInt8))):=
 (if (decide ((s1.length:Int) > 0)) then
 ((at? s1 0).bind fun x6=>
 some ((x6.toNat:Int) == t1))
  else some false).bind fun y9=>
 if y9 then
 ((sub? s1 1 s1.length).bind fun x12=>
 some (.more x12))
 else
 some (.stop s1)
def F95 (F:Nat) (t0:List UInt8) (t1:Int):Option ((List UInt8)):=
 (iter (F95_l0 F t1) F t0).bind fun b14=>
 some b14
def F97_l0 (F:Nat) (t0:List UInt8) (s5:Int × (List Bool)):Option (Stp (Int × (List Bool)) ((List Bool) ⊕ (Bool × (List Bool)))):=
 if (decide (s5.1 < (t0.length:Int))) then
 ((at? t0 s5.1).bind fun x13=>
 if (decide ((x13.toNat:Int) ≥ 128)) then
 (some (.stop ((.inr (false,s5.2)))))
 else
 (ck s5.2 (x13.toNat:Int)).bind fun u19=>
 some (.more (((wrapA .i64 (s5.1 + 1)),(s5.2.set ((Int.toNat (x13.toNat:Int))) true)))))
 else
 some (.stop ((.inl s5.2)))
def F97 (F:Nat) (t0:List UInt8):Option ((List Bool) × Bool):=
 (iter (F97_l0 F t0) F (0,(List.replicate 256 false))).bind fun b23=>
 match b23 with
 | .inl b25=>(some ((b25,true)))
 | .inr b25=>(some ((b25.2,b25.1)))
def F136 (F:Nat) (t0:List Bool) (t1:Int):Option Bool:=
 (at? t0 t1).bind fun x1=>
 some x1
def F99_l0 (F:Nat) (t1:List Bool) (s1:(List UInt8)):Option (Stp ((List UInt8)) ((List UInt8))):=
 if (decide ((s1.length:Int) > 0)) then
 ((at? s1 (wrapA .i64 ((s1.length:Int) - 1))).bind fun x7=>
 (F136 F t1 ((x7.toNat:Int))).bind fun r9=>
 if (!r9) then
 (some (.stop s1))
 else
 (sub? s1 0 (wrapA .i64 ((s1.length:Int) - 1))).bind fun x14=>
 some (.more x14))
 else
 some (.stop s1)
def F99 (F:Nat) (t0:List UInt8) (t1:List Bool):Option ((List UInt8)):=
 (iter (F99_l0 F t1) F t0).bind fun b16=>
 some b16
def F98_l0 (F:Nat) (t1:List Bool) (s1:(List UInt8)):Option (Stp ((List UInt8)) ((List UInt8))):=
 if (decide ((s1.length:Int) > 0)) then
 ((at? s1 0).bind fun x7=>
 (F136 F t1 ((x7.toNat:Int))).bind fun r9=>
 if (!r9) then
 (some (.stop s1))
 else
 (sub? s1 1 s1.length).bind fun x14=>
 some (.more x14))
 else
 some (.stop s1)
def F98 (F:Nat) (t0:List UInt8) (t1:List Bool):Option ((List UInt8)):=
 (iter (F98_l0 F t1) F t0).bind fun b16=>
 some b16
def F44 (F:Nat) (t0:List UInt8) (t1:List UInt8):Option ((List UInt8)):=
 if ((t0 == []) || (t1 == [])) then
 (some t0)
 else
 (if ((t1.length:Int) == 1) then
 ((at? t1 0).bind fun x3=>
 some (decide ((x3.toNat:Int) < 128)))
  else some false).bind fun y6=>
 if y6 then
 ((at? t1 0).bind fun x9=>
 (F96 F t0 ((x9.toNat:Int))).bind fun r11=>
 (at? t1 0).bind fun x15=>
 (F95 F r11 ((x15.toNat:Int))).bind fun r17=>
 some r17)
 else
 (F97 F t1).bind fun r21=>
 (ckN? 256 r21.1).bind fun u31=>
 if r21.2 then
 ((F99 F t0 r21.1).bind fun r35=>
 (F98 F r35 r21.1).bind fun r39=>
 some r39)
 else
 none
def F45 (F:Nat) (t0:List UInt8):Option (Int):=
 atoi? t0
def F23 (F:Nat) (t0:List UInt8):Option (Int × Bool):=
 (if (((t0.length:Int) == 0) || (decide ((t0.length:Int) > 6))) then some true else
 ((F44 F t0 ([48,49,50,51,52,53,54,55,56,57])).bind fun r2=>
 some (!(r2 == [])))
 ).bind fun y7=>
 if y7 then
 (some ((0,false)))
 else
 (F45 F t0).bind fun r12=>
 some ((r12,true))
def F144_l0 (F:Nat) (t0:List Int) (t1:Int) (s1:Int):Option (Stp (Int) (Unit ⊕ Int)):=
 if (decide (s1 < (t0.length:Int))) then
 ((at? t0 s1).bind fun x9=>
 if (t1 == x9) then
 (some (.stop ((.inr s1))))
 else
 some (.more ((wrapA .i64 (s1 + 1)))))
 else
 some (.stop ((.inl ())))
def F144 (F:Nat) (t0:List Int) (t1:Int):Option Int:=
 (iter (F144_l0 F t0 t1) F 0).bind fun b12=>
 match b12 with
 | .inl b14=>(some ((-1)))
 | .inr b14=>(some b14)
def F104 (F:Nat) (t0:List Int) (t1:Int):Option Bool:=
 (F144 F t0 t1).bind fun r1=>
 some ((decide (r1 ≥ 0)))
def F46_l0 (F:Nat) (t0:List Int) (s2:Int):Option (Stp (Int) (Unit ⊕ Int)):=
 if (decide (s2 < (t0.length:Int))) then
 ((F104 F t0 s2).bind fun r10=>
 if (!r10) then
 (some (.stop ((.inr 3))))
 else
 some (.more ((wrapA .i64 (s2 + 1)))))
 else
 some (.stop ((.inl ())))
def F46 (F:Nat) (t0:List Int):Option Int:=
 if (decide ((t0.length:Int) > 10)) then
 (some 2)
 else
 (iter (F46_l0 F t0) F 0).bind fun b15=>
 match b15 with
 | .inl b17=>(some 0)
 | .inr b17=>(some b17)
def F49:Nat→Int→Option Int
 | 0,_=>none
 | F + 1,t0=>
 let frec:=F49 F
 if (decide (t0 < 2)) then
 (some 1)
 else
 (frec ((wrapA .i64 (t0 - 1)))).bind fun r2=>
 some ((wrapA .i64 (t0 * r2)))
def F48_l0 (F:Nat) (t0:List Int) (L2:List Int) (s6:(List Int) × Int):Option (Stp ((List Int) × Int) ((List Int))):=
 if (decide (s6.2 < (L2.length:Int))) then
 ((at? L2 s6.2).bind fun x16=>
 (at? t0 0).bind fun x18=>
 if (decide (x16 > x18)) then
 ((app? s6.1 ([(wrapA .i64 (x16 - 1))])).bind fun L25=>
 some (.more ((L25,(wrapA .i64 (s6.2 + 1))))))
 else
 (app? s6.1 ([x16])).bind fun L35=>
 some (.more ((L35,(wrapA .i64 (s6.2 + 1))))))
 else
 some (.stop s6.1)
def F48:Nat→(List Int)→Option Int
 | 0,_=>none
 | F + 1,t0=>
 let frec:=F48 F
 if ((t0.length:Int) == 0) then
 (some 0)
 else
 (sub? t0 1 t0.length).bind fun L2=>
 (iter (F48_l0 F t0 L2) F ([],0)).bind fun b41=>
 (at? t0 0).bind fun x46=>
 (F49 F ((b41.length:Int))).bind fun r48=>
 (frec b41).bind fun r52=>
 some ((wrapA .i64 ((wrapA .i64 (x46 * r48)) + r52)))
def F47_l0 (F:Nat) (t1:List Int) (s6:(List UInt8) × Int):Option (Stp ((List UInt8) × Int) ((List UInt8))):=
 if (decide (s6.2 < (t1.length:Int))) then
 ((at? t1 s6.2).bind fun x12=>
 (F14 F x12).bind fun r14=>
 (cat? r14 [32]).bind fun x18=>
 (cat? s6.1 x18).bind fun x20=>
 some (.more ((x20,(wrapA .i64 (s6.2 + 1))))))
 else
 some (.stop s6.1)
def F47 (F:Nat) (t0:Int) (t1:List Int):Option ((List UInt8)):=
 if (t0 != 0) then
 ((F22 F t0).bind fun r2=>
 some r2)
 else
 (iter (F47_l0 F t1) F ([],0)).bind fun b22=>
 (cat? b22 [46]).bind fun x26=>
 some x26
def F50_l0 (F:Nat) (x6:Int) (r18:(List Int)) (s24:(List Int) × Int):Option (Stp ((List Int) × Int) ((List Int))):=
 if (decide (s24.2 < (r18.length:Int))) then
 ((at? r18 s24.2).bind fun x34=>
 if (decide (x34 ≥ x6)) then
 ((app? s24.1 ([(wrapA .i64 (x34 + 1))])).bind fun L41=>
 some (.more ((L41,(wrapA .i64 (s24.2 + 1))))))
 else
 (app? s24.1 ([x34])).bind fun L51=>
 some (.more ((L51,(wrapA .i64 (s24.2 + 1))))))
 else
 some (.stop s24.1)
def F50:Nat→Int→Int→Option ((List Int))
 | 0,_,_=>none
 | F + 1,t0,t1=>
 let frec:=F50 F
 if (t0 == 0) then
 (some ([]))
 else
 (F49 F ((wrapA .i64 (t0 - 1)))).bind fun r2=>
 (quo? .i64 t1 r2).bind fun x6=>
 (F49 F ((wrapA .i64 (t0 - 1)))).bind fun r12=>
 (rem? t1 r12).bind fun x16=>
 (frec ((wrapA .i64 (t0 - 1))) x16).bind fun r18=>
 (iter (F50_l0 F x6 r18) F ([x6],0)).bind fun b57=>
 some b57
def F51_l0 (F:Nat) (t0:List Int) (s1:Int × Int):Option (Stp (Int × Int) (Unit ⊕ Int)):=
 if (decide (s1.2 < (t0.length:Int))) then
 ((at? t0 s1.2).bind fun x9=>
 if ((decide (x9 < 1)) || (decide (x9 > 40))) then
 (some (.stop ((.inr 1))))
 else
 (if (decide (s1.2 > 0)) then
 ((at? t0 (wrapA .i64 (s1.2 - 1))).bind fun x13=>
 some (decide (x13 < x9)))
  else some false).bind fun y16=>
 if y16 then
 (some (.stop ((.inr 3))))
 else
 if (decide ((wrapA .i64 (s1.1 + x9)) > 40)) then
 (some (.stop ((.inr 2))))
 else
 some (.more (((wrapA .i64 (s1.1 + x9)),(wrapA .i64 (s1.2 + 1))))))
 else
 some (.stop ((.inl ())))
def F51 (F:Nat) (t0:List Int):Option Int:=
 (iter (F51_l0 F t0) F (0,0)).bind fun b20=>
 match b20 with
 | .inl b22=>(some 0)
 | .inr b22=>(some b22)
def F52_l0 (F:Nat) (t0:List Int) (s1:(List Int) × Int) (s10:Int × Int):Option (Stp (Int × Int) (Int)):=
 if (decide (s10.2 < (t0.length:Int))) then
 ((at? t0 s10.2).bind fun x16=>
 if (decide (x16 ≥ s1.2)) then
 (some (.more (((wrapA .i64 (s10.1 + 1)),(wrapA .i64 (s10.2 + 1))))))
 else
 some (.more ((s10.1,(wrapA .i64 (s10.2 + 1))))))
 else
 some (.stop s10.1)
def F52_l1 (F:Nat) (t0:List Int) (s1:(List Int) × Int):Option (Stp ((List Int) × Int) ((List Int))):=
 (iter (F52_l0 F t0 s1) F (0,0)).bind fun b19=>
 if (b19 == 0) then
 (some (.stop s1.1))
 else
 (app? s1.1 ([b19])).bind fun L28=>
 some (.more ((L28,(wrapA .i64 (s1.2 + 1)))))
def F52 (F:Nat) (t0:List Int):Option ((List Int)):=
 (iter (F52_l1 F t0) F ([],1)).bind fun b34=>
 some b34
def F53_l0 (F:Nat) (t0:List Int) (s1:Int × Int):Option (Stp (Int × Int) (Unit ⊕ Int)):=
 if (decide (s1.2 < (t0.length:Int))) then
 ((at? t0 s1.2).bind fun x9=>
 if ((decide (x9 < 1)) || (decide (x9 > 12))) then
 (some (.stop ((.inr 1))))
 else
 (if (decide (s1.2 > 0)) then
 ((at? t0 (wrapA .i64 (s1.2 - 1))).bind fun x13=>
 some (decide (x9 > x13)))
  else some false).bind fun y16=>
 if y16 then
 (some (.stop ((.inr 3))))
 else
 if (decide ((wrapA .i64 (s1.1 + x9)) > 12)) then
 (some (.stop ((.inr 2))))
 else
 some (.more (((wrapA .i64 (s1.1 + x9)),(wrapA .i64 (s1.2 + 1))))))
 else
 some (.stop ((.inl ())))
def F53 (F:Nat) (t0:List Int):Option Int:=
 (iter (F53_l0 F t0) F (0,0)).bind fun b20=>
 match b20 with
 | .inl b22=>(some 0)
 | .inr b22=>(some b22)
def F105 (F:Nat) (t0:(List Int)):Option ((List Int)):=if t0.length≤17592186044416 then some t0 else none
def F54_l0 (F:Nat) (t0:List Int) (s1:Int × Int):Option (Stp (Int × Int) (Int)):=
 if (decide (s1.2 < (t0.length:Int))) then
 ((at? t0 s1.2).bind fun x7=>
 some (.more (((wrapA .i64 (s1.1 + x7)),(wrapA .i64 (s1.2 + 1))))))
 else
 some (.stop s1.1)
def F54_l1 (F:Nat) (t0:List Int) (frec:(List Int)→Option Int) (s14:Int × Int):Option (Stp (Int × Int) (Int)):=
 if (decide (s14.2 < (t0.length:Int))) then
 ((at? t0 s14.2).bind fun x20=>
 (if (decide (x20 > 0)) then
 ((if (s14.2 == (wrapA .i64 ((t0.length:Int) - 1))) then some true else
 ((at? t0 (wrapA .i64 (s14.2 + 1))).bind fun x22=>
 some (decide (x22 < x20)))
 ).bind fun y25=>
 some y25)
  else some false).bind fun y28=>
 if y28 then
 ((F105 F t0).bind fun r31=>
 (at? r31 s14.2).bind fun x37=>
 (ck r31 s14.2).bind fun u39=>
 (frec ((r31.set ((Int.toNat s14.2)) ((wrapA .i64 (x37 - 1)))))).bind fun r43=>
 some (.more (((wrapA .i64 (s14.1 + r43)),(wrapA .i64 (s14.2 + 1))))))
 else
 some (.more ((s14.1,(wrapA .i64 (s14.2 + 1))))))
 else
 some (.stop s14.1)
def F54:Nat→(List Int)→Option Int
 | 0,_=>none
 | F + 1,t0=>
 let frec:=F54 F
 (iter (F54_l0 F t0) F (0,0)).bind fun b9=>
 if (b9 == 0) then
 (some 1)
 else
 (iter (F54_l1 F t0 frec) F (0,0)).bind fun b47=>
 some b47
def F106_l0 (F:Nat)  (s21:Int × (List Int)):Option (Stp (Int × (List Int)) ((List Int))):=
 if (decide (s21.1 > 0)) then
 ((at? s21.2 s21.1).bind fun x27=>
 (at? s21.2 (wrapA .i64 (s21.1 - 1))).bind fun x29=>
 (ck s21.2 s21.1).bind fun u31=>
 some (.more (((wrapA .i64 (s21.1 - 1)),(s21.2.set ((Int.toNat s21.1)) ((wrapA .i64 (x27 + x29))))))))
 else
 some (.stop s21.2)
def F106_l1 (F:Nat) (t0:Int) (t1:Int) (s15:Int × (List Int)):Option (Stp (Int × (List Int)) ((List Int))):=
 if (decide (s15.1 < t0)) then
 ((iter (F106_l0 F) F (t1,s15.2)).bind fun b35=>
 some (.more (((wrapA .i64 (s15.1 + 1)),b35))))
 else
 some (.stop s15.2)
def F106 (F:Nat) (t0:Int) (t1:Int):Option Int:=
 if ((decide (t1 < 0)) || (decide (t1 > t0))) then
 (some 0)
 else
 if ((t1 == 0) || (t1 == t0)) then
 (some 1)
 else
 (mk? (wrapA .i64 (t1 + 1)) (0:Int)).bind fun L5=>
 (ck L5 0).bind fun u11=>
 (iter (F106_l1 F t0 t1) F (0,(L5.set ((Int.toNat 0)) 1))).bind fun b39=>
 (at? b39 t1).bind fun x43=>
 some x43
def F55 (F:Nat) (t0:Int) (t1:Int):Option Int:=
 if (((decide (t0 < 0)) || ((Int.tmod (wrapA .i64 (t1 - t0)) 2) != 0)) || (decide (t0 > t1))) then
 (some 0)
 else
 (F106 F t1 ((wrapA .i64 (Int.tdiv (wrapA .i64 (t1 - t0)) 2)))).bind fun r4=>
 (F106 F t1 ((wrapA .i64 ((wrapA .i64 (Int.tdiv (wrapA .i64 (t1 - t0)) 2)) - 1)))).bind fun r8=>
 some ((wrapA .i64 (r4 - r8)))
def F145:Nat→Int→Int→Option Int
 | 0,_,_=>none
 | F + 1,t0,t1=>
 let frec:=F145 F
 if ((maxI t1 (wrapA .i64 (0 - t1))) == 0) then
 (some ((maxI t0 (wrapA .i64 (0 - t0)))))
 else
 (rem? (maxI t0 (wrapA .i64 (0 - t0))) (maxI t1 (wrapA .i64 (0 - t1)))).bind fun x2=>
 (frec ((maxI t1 (wrapA .i64 (0 - t1)))) x2).bind fun r4=>
 some r4
def F107 (F:Nat) (t0:Int) (t1:Int):Option ((Int × Int) × Int):=
 (F145 F t0 t1).bind fun r5=>
 (show Option (Int) from (if (decide (t1 < 0)) then
 (some ((wrapA .i64 (0 - r5))))
 else
 some r5)).bind fun b10=>
 (quo? .i64 t0 b10).bind fun x15=>
 (quo? .i64 t1 b10).bind fun x17=>
 if ((decide (x17 > 1000000000)) || (decide ((maxI x15 (wrapA .i64 (0 - x15))) > 1000000000))) then
 (some (((((0,0)).1,((0,0)).2),2)))
 else
 some (((((x15,x17)).1,((x15,x17)).2),0))
def F57 (F:Nat) (t0:Int) (t1:Int):Option ((Int × Int)):=
 (F107 F t0 t1).bind fun r5=>
 some ((((((r5.1.1,r5.1.2)).1,((r5.1.1,r5.1.2)).2)).1,((((r5.1.1,r5.1.2)).1,((r5.1.1,r5.1.2)).2)).2))
def F56 (F:Nat) (t0:Int × Int) (t1:Int × Int):Option ((Int × Int) × Int):=
 (F107 F ((wrapA .i64 ((wrapA .i64 (((t0.1,t0.2)).1 * ((t1.1,t1.2)).2)) + (wrapA .i64 (((t0.1,t0.2)).2 * ((t1.1,t1.2)).1))))) ((wrapA .i64 (((t0.1,t0.2)).2 * ((t1.1,t1.2)).2)))).bind fun r13=>
 some (((((r13.1.1,r13.1.2)).1,((r13.1.1,r13.1.2)).2),r13.2))
def F24_l0 (F:Nat)  (s123:(List UInt8) × Int × (List Int)):Option (Stp ((List UInt8) × Int × (List Int)) ((List UInt8) × (List Int))):=
 (at? s123.2.2 0).bind fun x128=>
 if (decide ((s123.1.length:Int) < (wrapA .i64 (2 * x128)))) then
 ((at? s123.2.2 0).bind fun x131=>
 (F55 F ((wrapA .i64 (s123.2.1 + 1))) ((wrapA .i64 ((wrapA .i64 ((wrapA .i64 (2 * x131)) - (s123.1.length:Int))) - 1)))).bind fun r133=>
 (at? s123.2.2 1).bind fun x137=>
 if (decide (x137 < r133)) then
 ((cat? s123.1 [40]).bind fun x140=>
 some (.more ((x140,(wrapA .i64 (s123.2.1 + 1)),s123.2.2))))
 else
 (cat? s123.1 [41]).bind fun x142=>
 (at? s123.2.2 1).bind fun x144=>
 (ck s123.2.2 1).bind fun u146=>
 some (.more ((x142,(wrapA .i64 (s123.2.1 - 1)),(s123.2.2.set ((Int.toNat 1)) ((wrapA .i64 (x144 - r133))))))))
 else
 some (.stop ((s123.1,s123.2.2)))
def F24 (F:Nat) (t0:List UInt8) (t1:List Int):Option ((List UInt8) × Bool × (List Int)):=
 if (t0 == [114,97,110,107]) then
 ((F46 F t1).bind fun r2=>
 if (r2 != 0) then
 ((F22 F r2).bind fun r7=>
 some ((r7,true,t1)))
 else
 (F48 F t1).bind fun r11=>
 (F47 F 0 ([r11])).bind fun r19=>
 some ((r19,true,t1)))
 else
 if ((t0 == [111,114,100,101,114]) && ((t1.length:Int) == 2)) then
 ((at? t1 0).bind fun x25=>
 (if (decide (x25 > 10)) then some true else
 ((at? t1 1).bind fun x27=>
 (at? t1 0).bind fun x29=>
 (F49 F x29).bind fun r31=>
 some (decide (x27 ≥ r31)))
 ).bind fun y36=>
 if y36 then
 ((F22 F 1).bind fun r41=>
 some ((r41,true,t1)))
 else
 (at? t1 0).bind fun x45=>
 (at? t1 1).bind fun x47=>
 (F50 F x45 x47).bind fun r49=>
 (F47 F 0 r49).bind fun r55=>
 some ((r55,true,t1)))
 else
 if (t0 == [116,117,114,110,101,100]) then
 ((F51 F t1).bind fun r60=>
 if (r60 != 0) then
 ((F22 F r60).bind fun r65=>
 some ((r65,true,t1)))
 else
 (F52 F t1).bind fun r69=>
 (F47 F 0 r69).bind fun r75=>
 some ((r75,true,t1)))
 else
 if (t0 == [115,104,97,112,101,115]) then
 ((F53 F t1).bind fun r80=>
 if (r80 != 0) then
 ((F22 F r80).bind fun r85=>
 some ((r85,true,t1)))
 else
 (F54 F t1).bind fun r89=>
 (F47 F r80 ([r89])).bind fun r97=>
 some ((r97,true,t1)))
 else
 if ((t0 == [110,101,115,116]) && ((t1.length:Int) == 2)) then
 ((at? t1 0).bind fun x103=>
 (if (decide (x103 > 15)) then some true else
 ((at? t1 1).bind fun x105=>
 (at? t1 0).bind fun x107=>
 (F55 F 0 ((wrapA .i64 (2 * x107)))).bind fun r109=>
 some (decide (x105 ≥ r109)))
 ).bind fun y114=>
 if y114 then
 ((F22 F 1).bind fun r119=>
 some ((r119,true,t1)))
 else
 (iter (F24_l0 F) F ([],0,t1)).bind fun b150=>
 (cat? [58] b150.1).bind fun x154=>
 some ((x154,true,b150.2)))
 else
 if ((t0 == [115,117,109]) && ((t1.length:Int) == 4)) then
 ((at? t1 1).bind fun x158=>
 (if (x158 == 0) then some true else
 ((at? t1 3).bind fun x160=>
 some (x160 == 0))
 ).bind fun y163=>
 if y163 then
 ((F22 F 5).bind fun r166=>
 some ((r166,true,t1)))
 else
 (at? t1 0).bind fun x170=>
 (at? t1 1).bind fun x172=>
 (F57 F x170 x172).bind fun r174=>
 (at? t1 2).bind fun x178=>
 (at? t1 3).bind fun x180=>
 (F57 F x178 x180).bind fun r182=>
 (F56 F ((r174.1,r174.2)) ((r182.1,r182.2))).bind fun r186=>
 (F47 F r186.2 ([((r186.1.1,r186.1.2)).1,((r186.1.1,r186.1.2)).2])).bind fun r200=>
 some ((r200,true,t1)))
 else
 some (([],false,t1))
def F58 (F:Nat) (t0:(List ((List UInt8) × Int × Int))):Option ((List ((List UInt8) × Int × Int))):=if t0.length≤4398046511104 then some t0 else none
def F59 (F:Nat) (t0:(List ((List UInt8) × (List UInt8) × Int))):Option ((List ((List UInt8) × (List UInt8) × Int))):=if t0.length≤3518437208883 then some t0 else none
def F60_l0 (F:Nat) (t0:(List ((List UInt8) × Int × Int)) × (List ((List UInt8) × (List UInt8) × Int))) (s5:(List Int) × (List Int) × Int):Option (Stp ((List Int) × (List Int) × Int) ((List Int) × (List Int))):=
 if (decide (s5.2.2 < (t0.1.length:Int))) then
 ((at? t0.1 s5.2.2).bind fun x19=>
 (app? s5.1 ([((x19.1,x19.2.1,x19.2.2)).2.1])).bind fun L42=>
 (app? s5.2.1 ([((x19.1,x19.2.1,x19.2.2)).2.2])).bind fun L66=>
 some (.more ((L42,L66,(wrapA .i64 (s5.2.2 + 1))))))
 else
 some (.stop ((s5.1,s5.2.1)))
def F60 (F:Nat) (t0:(List ((List UInt8) × Int × Int)) × (List ((List UInt8) × (List UInt8) × Int))):Option ((List Int) × (List Int)):=
 (iter (F60_l0 F t0) F ([],[],0)).bind fun b104=>
 some ((b104.1,b104.2))
def F61_l0 (F:Nat) (s1:(List Int) × Int) (x11:Int) (s13:(List Int) × Int):Option (Stp ((List Int) × Int) ((List Int))):=
 if (decide (s13.2 < x11)) then
 ((app? s13.1 ([s1.2])).bind fun L27=>
 some (.more ((L27,(wrapA .i64 (s13.2 + 1))))))
 else
 some (.stop s13.1)
def F61_l1 (F:Nat) (t0:List Int) (s1:(List Int) × Int):Option (Stp ((List Int) × Int) ((List Int))):=
 if (decide (s1.2 < (t0.length:Int))) then
 ((at? t0 s1.2).bind fun x11=>
 (iter (F61_l0 F s1 x11) F (s1.1,0)).bind fun b33=>
 some (.more ((b33,(wrapA .i64 (s1.2 + 1))))))
 else
 some (.stop s1.1)
def F61 (F:Nat) (t0:List Int) (t1:Int):Option (Int × Int):=
 (iter (F61_l1 F t0) F ([],0)).bind fun b38=>
 if ((b38.length:Int) == 0) then
 (some ((0,4)))
 else
 if ((decide (t1 < 0)) || (decide (t1 ≥ (b38.length:Int)))) then
 (some ((0,1)))
 else
 (at? b38 t1).bind fun x46=>
 some ((x46,0))
def F63 (F:Nat) (t0:Int):Option Bool:=
 some ((decide (t0 > 1000000000)))
def F108_63_l0 (F:Nat) (t0:List Int) (s1:Int):Option (Stp (Int) (Unit ⊕ Int)):=
 if (decide (s1 < (t0.length:Int))) then
 ((at? t0 s1).bind fun x9=>
 (F63 F x9).bind fun r11=>
 if r11 then
 (some (.stop ((.inr s1))))
 else
 some (.more ((wrapA .i64 (s1 + 1)))))
 else
 some (.stop ((.inl ())))
def F108_63 (F:Nat) (t0:List Int):Option Int:=
 (iter (F108_63_l0 F t0) F 0).bind fun b16=>
 match b16 with
 | .inl b18=>(some ((-1)))
 | .inr b18=>(some b18)
def F62_63 (F:Nat) (t0:List Int):Option Bool:=
 (F108_63 F t0).bind fun r1=>
 some ((decide (r1 ≥ 0)))
def F64_l0 (F:Nat) (t0:List Int) (t1:List Int) (s1:Int) (s12:Bool × Int):Option (Stp (Bool × Int) (Bool)):=
 if (decide (s12.2 < (t0.length:Int))) then
 ((at? t0 s12.2).bind fun x18=>
 (if (decide (x18 > 0)) then
 ((at? t1 s12.2).bind fun x20=>
 (at? t0 s1).bind fun x22=>
 (at? t1 s1).bind fun x24=>
 (at? t0 s12.2).bind fun x26=>
 (if (decide ((wrapA .i64 (x20 * x22)) < (wrapA .i64 (x24 * x26)))) then some true else
 ((if (decide (s12.2 < s1)) then
 ((at? t1 s12.2).bind fun x28=>
 (at? t0 s1).bind fun x30=>
 (at? t1 s1).bind fun x32=>
 (at? t0 s12.2).bind fun x34=>
 some ((wrapA .i64 (x28 * x30)) == (wrapA .i64 (x32 * x34))))
  else some false).bind fun y37=>
 some y37)
 ).bind fun y40=>
 some y40)
  else some false).bind fun y43=>
 if y43 then
 (some (.more ((false,(wrapA .i64 (s12.2 + 1))))))
 else
 some (.more ((s12.1,(wrapA .i64 (s12.2 + 1))))))
 else
 some (.stop s12.1)
def F64_l1 (F:Nat) (t0:List Int) (t1:List Int) (s1:Int):Option (Stp (Int) (Unit ⊕ Int)):=
 if (decide (s1 < (t0.length:Int))) then
 ((at? t0 s1).bind fun x9=>
 if (x9 == 0) then
 (some (.more ((wrapA .i64 (s1 + 1)))))
 else
 (iter (F64_l0 F t0 t1 s1) F (true,0)).bind fun b46=>
 if b46 then
 (some (.stop ((.inr s1))))
 else
 some (.more ((wrapA .i64 (s1 + 1)))))
 else
 some (.stop ((.inl ())))
def F64 (F:Nat) (t0:List Int) (t1:List Int):Option Int:=
 (iter (F64_l1 F t0 t1) F 0).bind fun b51=>
 match b51 with
 | .inl b53=>(some ((-1)))
 | .inr b53=>(some b53)
def F65 (F:Nat) (t0:List UInt8):Option Bool:=
 (if ((!(t0 == [])) && (decide ((t0.length:Int) < 13))) then
 ((F44 F t0 ([97,98,99,100,101,102,103,104,105,106,107,108,109,110,111,112,113,114,115,116,117,118,119,120,121,122])).bind fun r2=>
 some (r2 == []))
  else some false).bind fun y7=>
 some y7
def F110 (F:Nat) (t0:(List UInt8) × Int × Int) (c0:List UInt8):Option Bool:=
 some ((((t0.1,t0.2.1,t0.2.2)).1 == c0))
def F109_110_l0 (F:Nat) (t0:List ((List UInt8) × Int × Int)) (t1c0:List UInt8) (s1:Int):Option (Stp (Int) (Unit ⊕ Int)):=
 if (decide (s1 < (t0.length:Int))) then
 ((at? t0 s1).bind fun x9=>
 (F110 F ((x9.1,x9.2.1,x9.2.2)) t1c0).bind fun r11=>
 if r11 then
 (some (.stop ((.inr s1))))
 else
 some (.more ((wrapA .i64 (s1 + 1)))))
 else
 some (.stop ((.inl ())))
def F109_110 (F:Nat) (t0:List ((List UInt8) × Int × Int)) (t1c0:List UInt8):Option Int:=
 (iter (F109_110_l0 F t0 t1c0) F 0).bind fun b16=>
 match b16 with
 | .inl b18=>(some ((-1)))
 | .inr b18=>(some b18)
def F66 (F:Nat) (t0:(List ((List UInt8) × Int × Int)) × (List ((List UInt8) × (List UInt8) × Int))) (t1:List UInt8):Option Int:=
 (F109_110 F t0.1 t1).bind fun r10=>
 some r10
def F68 (F:Nat) (t0:(List UInt8) × (List UInt8) × Int):Option Bool:=
 some ((((t0.1,t0.2.1,t0.2.2)).2.2 == 0))
def F111_68_l0 (F:Nat) (t0:List ((List UInt8) × (List UInt8) × Int)) (s1:Int):Option (Stp (Int) (Unit ⊕ Int)):=
 if (decide (s1 < (t0.length:Int))) then
 ((at? t0 s1).bind fun x9=>
 (F68 F ((x9.1,x9.2.1,x9.2.2))).bind fun r11=>
 if r11 then
 (some (.stop ((.inr s1))))
 else
 some (.more ((wrapA .i64 (s1 + 1)))))
 else
 some (.stop ((.inl ())))
def F111_68 (F:Nat) (t0:List ((List UInt8) × (List UInt8) × Int)):Option Int:=
 (iter (F111_68_l0 F t0) F 0).bind fun b16=>
 match b16 with
 | .inl b18=>(some ((-1)))
 | .inr b18=>(some b18)
def F67_68_l0 (F:Nat)  (s6:Int × Int × (List ((List UInt8) × (List UInt8) × Int))):Option (Stp (Int × Int × (List ((List UInt8) × (List UInt8) × Int))) (Int × (List ((List UInt8) × (List UInt8) × Int)))):=
 if (decide (s6.2.1 < (s6.2.2.length:Int))) then
 ((at? s6.2.2 s6.2.1).bind fun x12=>
 (F68 F ((((x12.1,x12.2.1,x12.2.2)).1,((x12.1,x12.2.1,x12.2.2)).2.1,((x12.1,x12.2.1,x12.2.2)).2.2))).bind fun r20=>
 if (!r20) then
 ((ck s6.2.2 s6.1).bind fun u25=>
 some (.more (((wrapA .i64 (s6.1 + 1)),(wrapA .i64 (s6.2.1 + 1)),(s6.2.2.set ((Int.toNat s6.1)) ((((x12.1,x12.2.1,x12.2.2)).1,((x12.1,x12.2.1,x12.2.2)).2.1,((x12.1,x12.2.1,x12.2.2)).2.2)))))))
 else
 some (.more ((s6.1,(wrapA .i64 (s6.2.1 + 1)),s6.2.2))))
 else
 some (.stop ((s6.1,s6.2.2)))
def F67_68 (F:Nat) (t0:List ((List UInt8) × (List UInt8) × Int)):Option ((List ((List UInt8) × (List UInt8) × Int))):=
 (F111_68 F t0).bind fun r1=>
 if (r1 == (-1)) then
 (some t0)
 else
 (iter (F67_68_l0 F) F (r1,(wrapA .i64 (r1 + 1)),t0)).bind fun b29=>
 (sub? b29.2 b29.1 b29.2.length).bind fun L33=>
 (sub? ((b29.2.take (Int.toNat b29.1) ++ List.replicate L33.length (([],[],0):(List UInt8) × (List UInt8) × Int))) 0 b29.1).bind fun L40=>
 some L40
def F25_l0 (F:Nat) (t1:Int × Int × (List UInt8) × (List UInt8)) (r17:List ((List UInt8) × Int × Int)) (r23:List ((List UInt8) × (List UInt8) × Int)) (s847:Int × (List ((List UInt8) × Int × Int)) × (List ((List UInt8) × (List UInt8) × Int)) × ((List UInt8) × Int)):Option (Stp (Int × (List ((List UInt8) × Int × Int)) × (List ((List UInt8) × (List UInt8) × Int)) × ((List UInt8) × Int)) (((List ((List UInt8) × Int × Int)) × (List ((List UInt8) × (List UInt8) × Int)) × ((List UInt8) × Int)) ⊕ (Int × (List ((List UInt8) × Int × Int)) × (List ((List UInt8) × (List UInt8) × Int)) × ((List UInt8) × Int)))):=
 if (decide (s847.1 < (r23.length:Int))) then
 ((at? r23 s847.1).bind fun x865=>
 if ((((x865.1,x865.2.1,x865.2.2)).1 == ((t1.1,t1.2.1,t1.2.2.1,t1.2.2.2)).2.2.1) || (((x865.1,x865.2.1,x865.2.2)).2.1 == ((t1.1,t1.2.1,t1.2.2.1,t1.2.2.2)).2.2.1)) then
 (some (.stop ((.inr (7,r17,r23,((((([],0):(List UInt8) × Int)).1,((([],0):(List UInt8) × Int)).2):(List UInt8) × Int))))))
 else
 some (.more (((wrapA .i64 (s847.1 + 1)),s847.2.1,s847.2.2.1,s847.2.2.2))))
 else
 some (.stop ((.inl (s847.2.1,s847.2.2.1,s847.2.2.2))))
def F25_l1 (F:Nat) (r335:Int) (s1572:Int × Int × (List ((List UInt8) × Int × Int)) × (List ((List UInt8) × (List UInt8) × Int))) (r1591:Int) (s1595:Int × (List ((List UInt8) × Int × Int)) × (List ((List UInt8) × (List UInt8) × Int))):Option (Stp (Int × (List ((List UInt8) × Int × Int)) × (List ((List UInt8) × (List UInt8) × Int))) (Int × (List ((List UInt8) × Int × Int)) × (List ((List UInt8) × (List UInt8) × Int)))):=
 (at? s1595.2.2 s1572.2.1).bind fun x1608=>
 (if (decide (x1608.2.2 > 0)) then
 ((at? s1595.2.1 r1591).bind fun x1610=>
 some (decide (x1610.2.1 > 0)))
  else some false).bind fun y1613=>
 (if y1613 then
 ((at? s1595.2.1 r335).bind fun x1615=>
 some (decide (x1615.2.1 < 100)))
  else some false).bind fun y1618=>
 if y1618 then
 ((at? s1595.2.2 s1572.2.1).bind fun x1621=>
 (at? s1595.2.2 s1572.2.1).bind fun x1623=>
 (at? s1595.2.1 r1591).bind fun x1627=>
 (at? s1595.2.1 r1591).bind fun x1629=>
 (at? ((s1595.2.1.set ((Int.toNat r1591)) ((x1629.1,(wrapA .i64 (x1627.2.1 - 1)),x1629.2.2)))) r335).bind fun x1633=>
 (at? ((s1595.2.1.set ((Int.toNat r1591)) ((x1629.1,(wrapA .i64 (x1627.2.1 - 1)),x1629.2.2)))) r335).bind fun x1635=>
 some (.more (((wrapA .i64 (s1595.1 + 1)),(((s1595.2.1.set ((Int.toNat r1591)) ((x1629.1,(wrapA .i64 (x1627.2.1 - 1)),x1629.2.2)))).set ((Int.toNat r335)) ((x1635.1,(wrapA .i64 (x1633.2.1 + 1)),x1635.2.2))),(s1595.2.2.set ((Int.toNat s1572.2.1)) ((x1623.1,x1623.2.1,(wrapA .i64 (x1621.2.2 - 1)))))))))
 else
 some (.stop ((s1595.1,s1595.2.1,s1595.2.2)))
def F25_l2 (F:Nat) (t1:Int × Int × (List UInt8) × (List UInt8)) (r335:Int) (s1572:Int × Int × (List ((List UInt8) × Int × Int)) × (List ((List UInt8) × (List UInt8) × Int))):Option (Stp (Int × Int × (List ((List UInt8) × Int × Int)) × (List ((List UInt8) × (List UInt8) × Int))) (Int × (List ((List UInt8) × Int × Int)) × (List ((List UInt8) × (List UInt8) × Int)))):=
 if (decide (s1572.2.1 ≥ 0)) then
 ((at? s1572.2.2.2 s1572.2.1).bind fun x1586=>
 if (!(x1586.1 == ((t1.1,t1.2.1,t1.2.2.1,t1.2.2.2)).2.2.1)) then
 (some (.more ((s1572.1,(wrapA .i64 (s1572.2.1 - 1)),s1572.2.2.1,s1572.2.2.2))))
 else
 (at? s1572.2.2.2 s1572.2.1).bind fun x1589=>
 (F66 F ((s1572.2.2.1,s1572.2.2.2)) x1589.2.1).bind fun r1591=>
 (iter (F25_l1 F r335 s1572 r1591) F (s1572.1,s1572.2.2.1,s1572.2.2.2)).bind fun b1639=>
 some (.more ((b1639.1,(wrapA .i64 (s1572.2.1 - 1)),b1639.2.1,b1639.2.2))))
 else
 some (.stop ((s1572.1,s1572.2.2.1,s1572.2.2.2)))
def F25 (F:Nat) (t0:(List ((List UInt8) × Int × Int)) × (List ((List UInt8) × (List UInt8) × Int))) (t1:Int × Int × (List UInt8) × (List UInt8)):Option (((List ((List UInt8) × Int × Int)) × (List ((List UInt8) × (List UInt8) × Int))) × ((List UInt8) × Int) × Int):=
 (F58 F t0.1).bind fun r17=>
 (F59 F t0.2).bind fun r23=>
 if ((decide (((t1.1,t1.2.1,t1.2.2.1,t1.2.2.2)).1 < 1)) || (decide (((t1.1,t1.2.1,t1.2.2.1,t1.2.2.2)).1 > 7))) then
 (some (((r17,r23),((((((([],0):(List UInt8) × Int)).1,((([],0):(List UInt8) × Int)).2):(List UInt8) × Int)).1,(((((([],0):(List UInt8) × Int)).1,((([],0):(List UInt8) × Int)).2):(List UInt8) × Int)).2),1)))
 else
 (F60 F ((r17,r23))).bind fun r111=>
 if ((((t1.1,t1.2.1,t1.2.2.1,t1.2.2.2)).1 == 5) || (((t1.1,t1.2.1,t1.2.2.1,t1.2.2.2)).1 == 7)) then
 ((show Option (Int × Int) from (if (((t1.1,t1.2.1,t1.2.2.1,t1.2.2.2)).1 == 5) then
 ((F61 F r111.1 (((t1.1,t1.2.1,t1.2.2.1,t1.2.2.2)).2.1)).bind fun r123=>
 some ((r123.1,r123.2)))
 else
 (F62_63 F r111.2).bind fun r127=>
 if r127 then
 (some ((0,1)))
 else
 (F64 F r111.1 r111.2).bind fun r132=>
 if (decide (r132 < 0)) then
 (some ((r132,4)))
 else
 some ((r132,0)))).bind fun b137=>
 if (b137.2 != 0) then
 (some (((r17,r23),((((((([],0):(List UInt8) × Int)).1,((([],0):(List UInt8) × Int)).2):(List UInt8) × Int)).1,(((((([],0):(List UInt8) × Int)).1,((([],0):(List UInt8) × Int)).2):(List UInt8) × Int)).2),b137.2)))
 else
 (at? r17 b137.1).bind fun x184=>
 (at? r17 b137.1).bind fun x186=>
 (at? ((r17.set ((Int.toNat b137.1)) ((x186.1,x186.2.1,(wrapA .i64 (x184.2.2 + 1)))))) b137.1).bind fun x196=>
 (at? ((r17.set ((Int.toNat b137.1)) ((x186.1,x186.2.1,(wrapA .i64 (x184.2.2 + 1)))))) b137.1).bind fun x198=>
 some ((((r17.set ((Int.toNat b137.1)) ((x186.1,x186.2.1,(wrapA .i64 (x184.2.2 + 1))))),r23),(((x196.1,x198.2.2)).1,((x196.1,x198.2.2)).2),0)))
 else
 (F65 F (((t1.1,t1.2.1,t1.2.2.1,t1.2.2.2)).2.2.1)).bind fun r235=>
 if (!r235) then
 (some (((r17,r23),((((((([],0):(List UInt8) × Int)).1,((([],0):(List UInt8) × Int)).2):(List UInt8) × Int)).1,(((((([],0):(List UInt8) × Int)).1,((([],0):(List UInt8) × Int)).2):(List UInt8) × Int)).2),3)))
 else
 (F66 F ((r17,r23)) (((t1.1,t1.2.1,t1.2.2.1,t1.2.2.2)).2.2.1)).bind fun r335=>
 if (((t1.1,t1.2.1,t1.2.2.1,t1.2.2.2)).1 == 1) then
 (if (decide (r335 ≥ 0)) then
 (some (((r17,r23),((((((([],0):(List UInt8) × Int)).1,((([],0):(List UInt8) × Int)).2):(List UInt8) × Int)).1,(((((([],0):(List UInt8) × Int)).1,((([],0):(List UInt8) × Int)).2):(List UInt8) × Int)).2),8)))
 else
 if ((decide (((t1.1,t1.2.1,t1.2.2.1,t1.2.2.2)).2.1 < 0)) || (decide (((t1.1,t1.2.1,t1.2.2.1,t1.2.2.2)).2.1 > 100))) then
 (some (((r17,r23),((((((([],0):(List UInt8) × Int)).1,((([],0):(List UInt8) × Int)).2):(List UInt8) × Int)).1,(((((([],0):(List UInt8) × Int)).1,((([],0):(List UInt8) × Int)).2):(List UInt8) × Int)).2),1)))
 else
 if (decide ((r17.length:Int) ≥ 8)) then
 (some (((r17,r23),((((((([],0):(List UInt8) × Int)).1,((([],0):(List UInt8) × Int)).2):(List UInt8) × Int)).1,(((((([],0):(List UInt8) × Int)).1,((([],0):(List UInt8) × Int)).2):(List UInt8) × Int)).2),9)))
 else
 (appB? 4398046511104 r17 ([(((t1.1,t1.2.1,t1.2.2.1,t1.2.2.2)).2.2.1,((t1.1,t1.2.1,t1.2.2.1,t1.2.2.2)).2.1,0)])).bind fun L633=>
 some (((L633,r23),((((((([],0):(List UInt8) × Int)).1,((([],0):(List UInt8) × Int)).2):(List UInt8) × Int)).1,(((((([],0):(List UInt8) × Int)).1,((([],0):(List UInt8) × Int)).2):(List UInt8) × Int)).2),0)))
 else
 if (decide (r335 < 0)) then
 (some (((r17,r23),((((((([],0):(List UInt8) × Int)).1,((([],0):(List UInt8) × Int)).2):(List UInt8) × Int)).1,(((((([],0):(List UInt8) × Int)).1,((([],0):(List UInt8) × Int)).2):(List UInt8) × Int)).2),4)))
 else
 if (((t1.1,t1.2.1,t1.2.2.1,t1.2.2.2)).1 == 2) then
 ((iter (F25_l0 F t1 r17 r23) F (0,[],[],(([],0):(List UInt8) × Int))).bind fun b955=>
 match b955 with
 | .inl b957=>((sub? r17 0 r335).bind fun L962=>
 (sub? r17 (wrapA .i64 (r335 + 1)) r17.length).bind fun L967=>
 (appB? 4398046511104 L962 L967).bind fun L971=>
 some (((L971,r23),((((((([],0):(List UInt8) × Int)).1,((([],0):(List UInt8) × Int)).2):(List UInt8) × Int)).1,(((((([],0):(List UInt8) × Int)).1,((([],0):(List UInt8) × Int)).2):(List UInt8) × Int)).2),0)))
 | .inr b957=>(some (((b957.2.1,b957.2.2.1),(b957.2.2.2.1,b957.2.2.2.2),b957.1))))
 else
 if (((t1.1,t1.2.1,t1.2.2.1,t1.2.2.2)).1 == 3) then
 ((F66 F ((r17,r23)) (((t1.1,t1.2.1,t1.2.2.1,t1.2.2.2)).2.2.2)).bind fun r1045=>
 if (decide (r1045 < 0)) then
 (some (((r17,r23),((((((([],0):(List UInt8) × Int)).1,((([],0):(List UInt8) × Int)).2):(List UInt8) × Int)).1,(((((([],0):(List UInt8) × Int)).1,((([],0):(List UInt8) × Int)).2):(List UInt8) × Int)).2),4)))
 else
 if ((r1045 == r335) || (decide (((t1.1,t1.2.1,t1.2.2.1,t1.2.2.2)).2.1 < 1))) then
 (some (((r17,r23),((((((([],0):(List UInt8) × Int)).1,((([],0):(List UInt8) × Int)).2):(List UInt8) × Int)).1,(((((([],0):(List UInt8) × Int)).1,((([],0):(List UInt8) × Int)).2):(List UInt8) × Int)).2),1)))
 else
 (at? r111.1 r335).bind fun x1242=>
 if (decide (((t1.1,t1.2.1,t1.2.2.1,t1.2.2.2)).2.1 > x1242)) then
 (some (((r17,r23),((((((([],0):(List UInt8) × Int)).1,((([],0):(List UInt8) × Int)).2):(List UInt8) × Int)).1,(((((([],0):(List UInt8) × Int)).1,((([],0):(List UInt8) × Int)).2):(List UInt8) × Int)).2),4)))
 else
 (at? r111.1 r1045).bind fun x1340=>
 if (decide ((wrapA .i64 (x1340 + ((t1.1,t1.2.1,t1.2.2.1,t1.2.2.2)).2.1)) > 100)) then
 (some (((r17,r23),((((((([],0):(List UInt8) × Int)).1,((([],0):(List UInt8) × Int)).2):(List UInt8) × Int)).1,(((((([],0):(List UInt8) × Int)).1,((([],0):(List UInt8) × Int)).2):(List UInt8) × Int)).2),9)))
 else
 (at? r17 r335).bind fun x1438=>
 (at? r17 r335).bind fun x1440=>
 (at? ((r17.set ((Int.toNat r335)) ((x1440.1,(wrapA .i64 (x1438.2.1 - ((t1.1,t1.2.1,t1.2.2.1,t1.2.2.2)).2.1)),x1440.2.2)))) r1045).bind fun x1444=>
 (at? ((r17.set ((Int.toNat r335)) ((x1440.1,(wrapA .i64 (x1438.2.1 - ((t1.1,t1.2.1,t1.2.2.1,t1.2.2.2)).2.1)),x1440.2.2)))) r1045).bind fun x1446=>
 (appB? 3518437208883 r23 ([(((t1.1,t1.2.1,t1.2.2.1,t1.2.2.2)).2.2.1,((t1.1,t1.2.1,t1.2.2.1,t1.2.2.2)).2.2.2,((t1.1,t1.2.1,t1.2.2.1,t1.2.2.2)).2.1)])).bind fun L1454=>
 some ((((((r17.set ((Int.toNat r335)) ((x1440.1,(wrapA .i64 (x1438.2.1 - ((t1.1,t1.2.1,t1.2.2.1,t1.2.2.2)).2.1)),x1440.2.2)))).set ((Int.toNat r1045)) ((x1446.1,(wrapA .i64 (x1444.2.1 + ((t1.1,t1.2.1,t1.2.2.1,t1.2.2.2)).2.1)),x1446.2.2))),L1454),((((((([],0):(List UInt8) × Int)).1,((([],0):(List UInt8) × Int)).2):(List UInt8) × Int)).1,(((((([],0):(List UInt8) × Int)).1,((([],0):(List UInt8) × Int)).2):(List UInt8) × Int)).2),0)))
 else
 if (((t1.1,t1.2.1,t1.2.2.1,t1.2.2.2)).1 == 4) then
 ((iter (F25_l2 F t1 r335) F (0,(wrapA .i64 ((r23.length:Int) - 1)),r17,r23)).bind fun b1645=>
 (F67_68 F b1645.2.2).bind fun r1651=>
 some (((b1645.2.1,r1651),(((((t1.1,t1.2.1,t1.2.2.1,t1.2.2.2)).2.2.1,b1645.1)).1,((((t1.1,t1.2.1,t1.2.2.1,t1.2.2.2)).2.2.1,b1645.1)).2),0)))
 else
 if (((t1.1,t1.2.1,t1.2.2.1,t1.2.2.2)).1 == 6) then
 ((at? r111.2 r335).bind fun x1713=>
 some (((r17,r23),(((((t1.1,t1.2.1,t1.2.2.1,t1.2.2.2)).2.2.1,x1713)).1,((((t1.1,t1.2.1,t1.2.2.1,t1.2.2.2)).2.2.1,x1713)).2),0)))
 else
 some (((r17,r23),((((((([],0):(List UInt8) × Int)).1,((([],0):(List UInt8) × Int)).2):(List UInt8) × Int)).1,(((((([],0):(List UInt8) × Int)).1,((([],0):(List UInt8) × Int)).2):(List UInt8) × Int)).2),0))
def F10_l0 (F:Nat) (t0:(List ((List UInt8) × Int × Int)) × (List ((List UInt8) × (List UInt8) × Int))) (s31:(List (List UInt8)) × Int):Option (Stp ((List (List UInt8)) × Int) ((List (List UInt8)))):=
 if (decide (s31.2 < (t0.1.length:Int))) then
 ((at? t0.1 s31.2).bind fun x41=>
 (app? s31.1 ([((x41.1,x41.2.1,x41.2.2)).1])).bind fun L53=>
 some (.more ((L53,(wrapA .i64 (s31.2 + 1))))))
 else
 some (.stop s31.1)
def F10_l1 (F:Nat) (t0:(List ((List UInt8) × Int × Int)) × (List ((List UInt8) × (List UInt8) × Int))) (L141:List (List UInt8)) (s145:(List Int) × Int × (List ((List UInt8) × Int × Int)) × (List ((List UInt8) × (List UInt8) × Int))):Option (Stp ((List Int) × Int × (List ((List UInt8) × Int × Int)) × (List ((List UInt8) × (List UInt8) × Int))) (((List Int) × (List ((List UInt8) × Int × Int)) × (List ((List UInt8) × (List UInt8) × Int))) ⊕ ((List UInt8) × (List ((List UInt8) × Int × Int)) × (List ((List UInt8) × (List UInt8) × Int))))):=
 if (decide (s145.2.1 < (L141.length:Int))) then
 ((at? L141 s145.2.1).bind fun x167=>
 (F23 F x167).bind fun r169=>
 if (!r169.2) then
 ((F22 F 10).bind fun r174=>
 some (.stop ((.inr (r174,t0.1,t0.2)))))
 else
 (app? s145.1 ([r169.1])).bind fun L184=>
 some (.more ((L184,(wrapA .i64 (s145.2.1 + 1)),s145.2.2.1,s145.2.2.2))))
 else
 some (.stop ((.inl (s145.1,s145.2.2.1,s145.2.2.2))))
def F10 (F:Nat) (t0:(List ((List UInt8) × Int × Int)) × (List ((List UInt8) × (List UInt8) × Int))) (t1:List UInt8):Option (((List ((List UInt8) × Int × Int)) × (List ((List UInt8) × (List UInt8) × Int))) × (List UInt8)):=
 (F20_21 F t1).bind fun r9=>
 if ((r9.length:Int) == 0) then
 ((F22 F 10).bind fun r16=>
 some (((t0.1,t0.2),r16)))
 else
 (at? r9 0).bind fun x23=>
 (sub? r9 1 r9.length).bind fun L25=>
 if ((x23 == [110,97,109,101,115]) && ((L25.length:Int) == 0)) then
 ((iter (F10_l0 F t0) F ([],0)).bind fun b59=>
 (F16 F b59 ([32])).bind fun r64=>
 (cat? [58] r64).bind fun x68=>
 some (((t0.1,t0.2),x68)))
 else
 (keyS? ([106,111,105,110]:List UInt8)).bind fun u77=>
 (keyS? ([108,101,97,118,101]:List UInt8)).bind fun u81=>
 (keyS? ([108,101,110,100]:List UInt8)).bind fun u85=>
 (keyS? ([98,97,99,107]:List UInt8)).bind fun u89=>
 (keyS? ([100,114,97,119]:List UInt8)).bind fun u93=>
 (keyS? ([116,101,108,108]:List UInt8)).bind fun u97=>
 (keyS? ([102,97,105,114]:List UInt8)).bind fun u101=>
 (keyS? (x23:List UInt8)).bind fun u105=>
 (keyN? (1:Int)).bind fun u111=>
 (keyN? (2:Int)).bind fun u115=>
 (keyN? (3:Int)).bind fun u119=>
 (keyN? (4:Int)).bind fun u123=>
 (keyN? (6:Int)).bind fun u127=>
 (keyN? (((mget MC0 (x23:List UInt8)).getD 0):Int)).bind fun u131=>
 if (decide ((L25.length:Int) < ((mget MC1 (((mget MC0 (x23:List UInt8)).getD 0):Int)).getD 0))) then
 ((F22 F 10).bind fun r134=>
 some (((t0.1,t0.2),r134)))
 else
 (sub? L25 ((mget MC1 (((mget MC0 (x23:List UInt8)).getD 0):Int)).getD 0) L25.length).bind fun L141=>
 (iter (F10_l1 F t0 L141) F ([],0,[],[])).bind fun b190=>
 match b190 with
 | .inl b192=>(if (((mget MC0 (x23:List UInt8)).getD 0) == 0) then
 ((F24 F x23 b192.1).bind fun r199=>
 if (!r199.2.1) then
 ((F22 F 10).bind fun r204=>
 some (((t0.1,t0.2),r204)))
 else
 some (((t0.1,t0.2),r199.1)))
 else
 (keyN? (1:Int)).bind fun u218=>
 (keyN? (3:Int)).bind fun u222=>
 (keyN? (5:Int)).bind fun u226=>
 (keyN? (((mget MC0 (x23:List UInt8)).getD 0):Int)).bind fun u230=>
 if ((b192.1.length:Int) != ((mget MC2 (((mget MC0 (x23:List UInt8)).getD 0):Int)).getD 0)) then
 ((F22 F 10).bind fun r233=>
 some (((t0.1,t0.2),r233)))
 else
 (show Option ((Int × Int × (List UInt8) × (List UInt8))) from (if (decide (((mget MC1 (((mget MC0 (x23:List UInt8)).getD 0):Int)).getD 0) > 0)) then
 ((at? L25 0).bind fun x247=>
 some (((((((mget MC0 (x23:List UInt8)).getD 0),0,[],[]):Int × Int × (List UInt8) × (List UInt8))).1,(((((mget MC0 (x23:List UInt8)).getD 0),0,[],[]):Int × Int × (List UInt8) × (List UInt8))).2.1,x247,(((((mget MC0 (x23:List UInt8)).getD 0),0,[],[]):Int × Int × (List UInt8) × (List UInt8))).2.2.2)))
 else
 some (((((mget MC0 (x23:List UInt8)).getD 0),0,[],[]):Int × Int × (List UInt8) × (List UInt8))))).bind fun b251=>
 (show Option ((Int × Int × (List UInt8) × (List UInt8))) from (if (decide (((mget MC1 (((mget MC0 (x23:List UInt8)).getD 0):Int)).getD 0) > 1)) then
 ((at? L25 1).bind fun x257=>
 some ((b251.1,b251.2.1,b251.2.2.1,x257)))
 else
 some b251)).bind fun b261=>
 (show Option ((Int × Int × (List UInt8) × (List UInt8))) from (if (decide ((b192.1.length:Int) > 0)) then
 ((at? b192.1 0).bind fun x267=>
 some ((b261.1,x267,b261.2.2.1,b261.2.2.2)))
 else
 some b261)).bind fun b271=>
 (F25 F ((t0.1,t0.2)) ((b271.1,b271.2.1,b271.2.2.1,b271.2.2.2))).bind fun r276=>
 if (r276.2.2 != 0) then
 ((F22 F r276.2.2).bind fun r294=>
 some (((r276.1.1,r276.1.2),r294)))
 else
 if (decide (((mget MC0 (x23:List UInt8)).getD 0) < 4)) then
 (some (((r276.1.1,r276.1.2),[111,107])))
 else
 (cat? ((r276.2.1.1,r276.2.1.2)).1 [32]).bind fun x315=>
 (F14 F (((r276.2.1.1,r276.2.1.2)).2)).bind fun r317=>
 (cat? x315 r317).bind fun x332=>
 some (((r276.1.1,r276.1.2),x332)))
 | .inr b192=>(some (((b192.2.1,b192.2.2),b192.1)))
def F5_l0 (F:Nat) (r1:List (List UInt8)) (s15:(List (List UInt8)) × Int × (List ((List UInt8) × Int × Int)) × (List ((List UInt8) × (List UInt8) × Int))):Option (Stp ((List (List UInt8)) × Int × (List ((List UInt8) × Int × Int)) × (List ((List UInt8) × (List UInt8) × Int))) ((List (List UInt8)))):=
 if (decide (s15.2.1 < (r1.length:Int))) then
 ((at? r1 s15.2.1).bind fun x31=>
 if (x31 == []) then
 (some (.more ((s15.1,(wrapA .i64 (s15.2.1 + 1)),s15.2.2.1,s15.2.2.2))))
 else
 (F10 F ((s15.2.2.1,s15.2.2.2)) x31).bind fun r34=>
 (app? s15.1 ([r34.2])).bind fun L72=>
 some (.more ((L72,(wrapA .i64 (s15.2.1 + 1)),r34.1.1,r34.1.2))))
 else
 some (.stop s15.1)
def F5 (F:Nat) (t0:List UInt8):Option ((List (List UInt8)) × Int):=
 (F7 F t0 ([10])).bind fun r1=>
 if ((decide ((t0.length:Int) > 4096)) || (decide ((r1.length:Int) > 60))) then
 (some (([],2)))
 else
 (iter (F5_l0 F r1) F ([],0,[],[])).bind fun b138=>
 some ((b138,0))
def F11_l0 (F:Nat) (t0:List (List UInt8)) (t1:List (List UInt8)) (s2:Int):Option (Stp (Int) (Unit ⊕ Bool)):=
 if (decide (s2 < (t0.length:Int))) then
 ((at? t0 s2).bind fun x10=>
 (at? t1 s2).bind fun x12=>
 if (!(x10 == x12)) then
 (some (.stop ((.inr false))))
 else
 some (.more ((wrapA .i64 (s2 + 1)))))
 else
 some (.stop ((.inl ())))
def F11 (F:Nat) (t0:List (List UInt8)) (t1:List (List UInt8)):Option Bool:=
 if ((t0.length:Int) != (t1.length:Int)) then
 (some false)
 else
 (iter (F11_l0 F t0 t1) F 0).bind fun b15=>
 match b15 with
 | .inl b17=>(some true)
 | .inr b17=>(some b17)
def F6 (F:Nat) (t0:List (List UInt8)) (t1:List (List UInt8)):Option Bool:=
 (F11 F t0 t1).bind fun r1=>
 some r1
def F15 (F:Nat) (t0:Int):Option Unit:=
 if (t0 != 0) then
 (none)
 else
 some (())
def F17_l0 (F:Nat) (t0:(List ((List UInt8) × Int × Int)) × (List ((List UInt8) × (List UInt8) × Int))) (s1:(List (List UInt8)) × Int):Option (Stp ((List (List UInt8)) × Int) ((List (List UInt8)))):=
 if (decide (s1.2 < (t0.1.length:Int))) then
 ((at? t0.1 s1.2).bind fun x11=>
 (app? s1.1 ([((x11.1,x11.2.1,x11.2.2)).1])).bind fun L23=>
 some (.more ((L23,(wrapA .i64 (s1.2 + 1))))))
 else
 some (.stop s1.1)
def F17 (F:Nat) (t0:(List ((List UInt8) × Int × Int)) × (List ((List UInt8) × (List UInt8) × Int))):Option ((List (List UInt8))):=
 (iter (F17_l0 F t0) F ([],0)).bind fun b29=>
 some b29
def F33_l0 (F:Nat) (L12:List Int) (s18:Int × Int):Option (Stp (Int × Int) (Int)):=
 if (decide (s18.2 < (L12.length:Int))) then
 ((at? L12 s18.2).bind fun x24=>
 if ((decide (x24 < 48)) || (decide (x24 > 57))) then
 ((F15 F 10).bind fun r28=>
 some (.more (((wrapA .i64 ((wrapA .i64 (10 * s18.1)) + (wrapA .i64 (wrapA .u8 (x24 - 48))))),(wrapA .i64 (s18.2 + 1))))))
 else
 some (.more (((wrapA .i64 ((wrapA .i64 (10 * s18.1)) + (wrapA .i64 (wrapA .u8 (x24 - 48))))),(wrapA .i64 (s18.2 + 1))))))
 else
 some (.stop s18.1)
def F33 (F:Nat) (t0:List UInt8):Option Int:=
 (show Option (Unit) from (if ((decide ((t0.length:Int) < 1)) || (decide ((t0.length:Int) > 6))) then
 ((F15 F 10).bind fun r3=>
 some (()))
 else
 some (()))).bind fun b7=>
 (bytes? t0).bind fun L12=>
 (iter (F33_l0 F L12) F (0,0)).bind fun b32=>
 some b32
def F36_l0 (F:Nat) (t0:List (List UInt8)) (s1:(List Int) × Int):Option (Stp ((List Int) × Int) ((List Int))):=
 if (decide (s1.2 < (t0.length:Int))) then
 ((at? t0 s1.2).bind fun x11=>
 (F33 F x11).bind fun r13=>
 (app? s1.1 ([r13])).bind fun L21=>
 some (.more ((L21,(wrapA .i64 (s1.2 + 1))))))
 else
 some (.stop s1.1)
def F36 (F:Nat) (t0:List (List UInt8)):Option ((List Int)):=
 (iter (F36_l0 F t0) F ([],0)).bind fun b27=>
 some b27
def F133_l0 (F:Nat) (t0:List Int) (s6:Int × (List Bool)):Option (Stp (Int × (List Bool)) (Unit ⊕ Int)):=
 if (decide (s6.1 < (t0.length:Int))) then
 ((at? t0 s6.1).bind fun x14=>
 (if ((decide (x14 < 0)) || (decide (x14 ≥ (t0.length:Int)))) then some true else
 ((at? s6.2 x14).bind fun x17=>
 some x17)
 ).bind fun y20=>
 if y20 then
 (some (.stop ((.inr 3))))
 else
 (ck s6.2 x14).bind fun u23=>
 some (.more (((wrapA .i64 (s6.1 + 1)),(s6.2.set ((Int.toNat x14)) true)))))
 else
 some (.stop ((.inl ())))
def F133 (F:Nat) (t0:List Int):Option Int:=
 if (decide ((t0.length:Int) > 10)) then
 (some 2)
 else
 (iter (F133_l0 F t0) F (0,(List.replicate 10 false))).bind fun b27=>
 match b27 with
 | .inl b29=>(some 0)
 | .inr b29=>(some b29)
def F86_l0 (F:Nat) (s12:Int × (List Int)) (x18:Int) (L20:List Int) (s24:Int × (List Int)):Option (Stp (Int × (List Int)) ((List Int))):=
 if (decide (s24.1 < (L20.length:Int))) then
 ((at? L20 s24.1).bind fun x30=>
 if (decide (x30 < x18)) then
 ((at? s24.2 s12.1).bind fun x33=>
 (ck s24.2 s12.1).bind fun u35=>
 some (.more (((wrapA .i64 (s24.1 + 1)),(s24.2.set ((Int.toNat s12.1)) ((wrapA .i64 (x33 + 1))))))))
 else
 some (.more (((wrapA .i64 (s24.1 + 1)),s24.2))))
 else
 some (.stop s24.2)
def F86_l1 (F:Nat) (t0:List Int) (s12:Int × (List Int)):Option (Stp (Int × (List Int)) ((List Int))):=
 if (decide (s12.1 < (t0.length:Int))) then
 ((at? t0 s12.1).bind fun x18=>
 (sub? t0 (wrapA .i64 (s12.1 + 1)) t0.length).bind fun L20=>
 (iter (F86_l0 F s12 x18 L20) F (0,s12.2)).bind fun b39=>
 some (.more (((wrapA .i64 (s12.1 + 1)),b39))))
 else
 some (.stop s12.2)
def F86 (F:Nat) (t0:List Int):Option ((List Int) × Int):=
 (F133 F t0).bind fun r1=>
 if (r1 != 0) then
 (some (([],r1)))
 else
 (mk? (t0.length:Int) (0:Int)).bind fun L6=>
 (iter (F86_l1 F t0) F (0,L6)).bind fun b43=>
 some ((b43,0))
def F35_l0 (F:Nat) (r1:(List Int) × Int) (s8:Int × Int):Option (Stp (Int × Int) (Int)):=
 if (decide (s8.2 < (r1.1.length:Int))) then
 ((at? r1.1 s8.2).bind fun x14=>
 some (.more (((wrapA .i64 ((wrapA .i64 (s8.1 * (wrapA .i64 ((r1.1.length:Int) - s8.2)))) + x14)),(wrapA .i64 (s8.2 + 1))))))
 else
 some (.stop s8.1)
def F35 (F:Nat) (t0:List Int):Option (Int × Int):=
 (F86 F t0).bind fun r1=>
 if (r1.2 != 0) then
 (some ((0,r1.2)))
 else
 (iter (F35_l0 F r1) F (0,0)).bind fun b16=>
 some ((b16,0))
def F37_l0 (F:Nat) (t0:List Int) (s1:(List UInt8) × Int):Option (Stp ((List UInt8) × Int) ((List UInt8))):=
 if (decide (s1.2 < (t0.length:Int))) then
 ((at? t0 s1.2).bind fun x7=>
 (F14 F x7).bind fun r9=>
 (cat? r9 [32]).bind fun x13=>
 (cat? s1.1 x13).bind fun x15=>
 some (.more ((x15,(wrapA .i64 (s1.2 + 1))))))
 else
 some (.stop s1.1)
def F37 (F:Nat) (t0:List Int):Option ((List UInt8)):=
 (iter (F37_l0 F t0) F ([],0)).bind fun b17=>
 (cat? b17 [46]).bind fun x21=>
 some x21
def F88_l0 (F:Nat) (t0:Int) (s1:Int × Int):Option (Stp (Int × Int) (Int)):=
 if (decide (s1.2≤t0)) then
 (some (.more (((wrapA .i64 (s1.1 * s1.2)),(wrapA .i64 (s1.2 + 1))))))
 else
 some (.stop s1.1)
def F88 (F:Nat) (t0:Int):Option Int:=
 (iter (F88_l0 F t0) F (1,2)).bind fun b7=>
 some b7
def F87 (F:Nat) (t0:Int):Option (Int × Int):=
 if ((decide (t0 < 0)) || (decide (t0 > 10))) then
 (some ((0,1)))
 else
 (F88 F t0).bind fun r3=>
 some ((r3,0))
def F89 (F:Nat) (t0:(List Int)) (t1:Int) (t2:Int):Option ((List Int)):=if 0≤t1 then delB? 17592186044416 t0 t1 t2 else none
def F38_l0 (F:Nat) (L8:List Int) (s14:Int × (List Int)):Option (Stp (Int × (List Int)) ((List Int))):=
 if (decide (s14.1 < (L8.length:Int))) then
 ((ck s14.2 s14.1).bind fun u20=>
 some (.more (((wrapA .i64 (s14.1 + 1)),(s14.2.set ((Int.toNat s14.1)) s14.1)))))
 else
 some (.stop s14.2)
def F38_l1 (F:Nat)  (s34:Int × (List Int) × (List Int) × Int):Option (Stp (Int × (List Int) × (List Int) × Int) ((List Int))):=
 if (decide (s34.2.2.2 ≥ 0)) then
 ((F88 F s34.2.2.2).bind fun r47=>
 (quo? .i64 s34.1 r47).bind fun x51=>
 (at? s34.2.1 x51).bind fun x53=>
 (app? s34.2.2.1 ([x53])).bind fun L59=>
 (quo? .i64 s34.1 r47).bind fun x65=>
 (quo? .i64 s34.1 r47).bind fun x67=>
 (F89 F s34.2.1 x65 ((wrapA .i64 (x67 + 1)))).bind fun r69=>
 (rem? s34.1 r47).bind fun x75=>
 some (.more ((x75,r69,L59,(wrapA .i64 (s34.2.2.2 - 1))))))
 else
 some (.stop s34.2.2.1)
def F38 (F:Nat) (t0:Int) (t1:Int):Option ((List Int) × Int):=
 (F87 F t0).bind fun r1=>
 if (((r1.2 != 0) || (decide (t1 < 0))) || (decide (t1 ≥ r1.1))) then
 (some (([],1)))
 else
 (mk? t0 (0:Int)).bind fun L8=>
 (iter (F38_l0 F L8) F (0,L8)).bind fun b24=>
 (mkC? 0 t0 (0:Int)).bind fun L28=>
 (iter (F38_l1 F) F (t1,b24,L28,(wrapA .i64 (t0 - 1)))).bind fun b77=>
 some ((b77,0))
def F90_l0 (F:Nat) (t0:List Int) (s1:Int × Int):Option (Stp (Int × Int) (Unit ⊕ Int)):=
 if (decide (s1.2 < (t0.length:Int))) then
 ((at? t0 s1.2).bind fun x9=>
 if ((decide (x9 < 1)) || (decide (x9 > 40))) then
 (some (.stop ((.inr 1))))
 else
 (if (decide (s1.2 > 0)) then
 ((at? t0 (wrapA .i64 (s1.2 - 1))).bind fun x13=>
 some (decide (x9 > x13)))
  else some false).bind fun y16=>
 if y16 then
 (some (.stop ((.inr 3))))
 else
 if (decide ((wrapA .i64 (s1.1 + x9)) > 40)) then
 (some (.stop ((.inr 2))))
 else
 some (.more (((wrapA .i64 (s1.1 + x9)),(wrapA .i64 (s1.2 + 1))))))
 else
 some (.stop ((.inl ())))
def F90 (F:Nat) (t0:List Int):Option Int:=
 (iter (F90_l0 F t0) F (0,0)).bind fun b20=>
 match b20 with
 | .inl b22=>(some 0)
 | .inr b22=>(some b22)
def F39_l0 (F:Nat) (x16:Int) (s18:(List Int)):Option (Stp ((List Int)) ((List Int))):=
 if (decide ((s18.length:Int) < x16)) then
 ((app? s18 ([0])).bind fun L32=>
 some (.more L32))
 else
 some (.stop s18)
def F39_l1 (F:Nat) (x16:Int) (s43:Int × (List Int)):Option (Stp (Int × (List Int)) ((List Int))):=
 if (decide (s43.1 < x16)) then
 ((at? s43.2 s43.1).bind fun x49=>
 (ck s43.2 s43.1).bind fun u51=>
 some (.more (((wrapA .i64 (s43.1 + 1)),(s43.2.set ((Int.toNat s43.1)) ((wrapA .i64 (x49 + 1))))))))
 else
 some (.stop s43.2)
def F39_l2 (F:Nat) (t0:List Int) (s6:(List Int) × Int):Option (Stp ((List Int) × Int) ((List Int))):=
 if (decide (s6.2 < (t0.length:Int))) then
 ((at? t0 s6.2).bind fun x16=>
 (iter (F39_l0 F x16) F s6.1).bind fun b38=>
 (iter (F39_l1 F x16) F (0,b38)).bind fun b55=>
 some (.more ((b55,(wrapA .i64 (s6.2 + 1))))))
 else
 some (.stop s6.1)
def F39 (F:Nat) (t0:List Int):Option ((List Int) × Int):=
 (F90 F t0).bind fun r1=>
 if (r1 != 0) then
 (some (([],r1)))
 else
 (iter (F39_l2 F t0) F ([],0)).bind fun b59=>
 some ((b59,0))
def F40_l0 (F:Nat) (t0:List Int) (s1:Int × Int):Option (Stp (Int × Int) (Int ⊕ (Int × Int))):=
 if (decide (s1.2 < (t0.length:Int))) then
 ((at? t0 s1.2).bind fun x9=>
 if ((decide (x9 < 1)) || (decide (x9 > 12))) then
 (some (.stop ((.inr (0,1)))))
 else
 (if (decide (s1.2 > 0)) then
 ((at? t0 (wrapA .i64 (s1.2 - 1))).bind fun x13=>
 some (decide (x9 > x13)))
  else some false).bind fun y16=>
 if y16 then
 (some (.stop ((.inr (0,3)))))
 else
 if (decide ((wrapA .i64 (s1.1 + x9)) > 12)) then
 (some (.stop ((.inr (0,2)))))
 else
 some (.more (((wrapA .i64 (s1.1 + x9)),(wrapA .i64 (s1.2 + 1))))))
 else
 some (.stop ((.inl s1.1)))
def F40_l1 (F:Nat) (b22:Int) (s25:Int × Int):Option (Stp (Int × Int) (Int)):=
 if (decide (s25.2≤b22)) then
 (some (.more (((wrapA .i64 (s25.1 * s25.2)),(wrapA .i64 (s25.2 + 1))))))
 else
 some (.stop s25.1)
def F40_l2 (F:Nat) (s43:Int × Int) (L49:List Int) (s53:Int × Int):Option (Stp (Int × Int) (Int)):=
 if (decide (s53.2 < (L49.length:Int))) then
 ((at? L49 s53.2).bind fun x59=>
 if (decide (x59 > s43.2)) then
 (some (.more (((wrapA .i64 (s53.1 + 1)),(wrapA .i64 (s53.2 + 1))))))
 else
 some (.more ((s53.1,(wrapA .i64 (s53.2 + 1))))))
 else
 some (.stop s53.1)
def F40_l3 (F:Nat) (t0:List Int) (s35:Int × Int) (x41:Int) (s43:Int × Int):Option (Stp (Int × Int) (Int)):=
 if (decide (s43.2 < x41)) then
 ((sub? t0 (wrapA .i64 (s35.2 + 1)) t0.length).bind fun L49=>
 (iter (F40_l2 F s43 L49) F ((wrapA .i64 (x41 - s43.2)),0)).bind fun b62=>
 (quo? .i64 s43.1 b62).bind fun x66=>
 some (.more ((x66,(wrapA .i64 (s43.2 + 1))))))
 else
 some (.stop s43.1)
def F40_l4 (F:Nat) (t0:List Int) (s35:Int × Int):Option (Stp (Int × Int) (Int)):=
 if (decide (s35.2 < (t0.length:Int))) then
 ((at? t0 s35.2).bind fun x41=>
 (iter (F40_l3 F t0 s35 x41) F (s35.1,0)).bind fun b68=>
 some (.more ((b68,(wrapA .i64 (s35.2 + 1))))))
 else
 some (.stop s35.1)
def F40 (F:Nat) (t0:List Int):Option (Int × Int):=
 (iter (F40_l0 F t0) F (0,0)).bind fun b20=>
 match b20 with
 | .inl b22=>((iter (F40_l1 F b22) F (1,2)).bind fun b31=>
 (iter (F40_l4 F t0) F (b31,0)).bind fun b72=>
 some ((b72,0)))
 | .inr b22=>(some ((b22.1,b22.2)))
def F92_l0 (F:Nat) (s11:(List Int) × Int) (s27:Int × (List Int)):Option (Stp (Int × (List Int)) ((List Int))):=
 if (decide (s27.1 < (s11.1.length:Int))) then
 ((at? s11.1 s27.1).bind fun x33=>
 (show Option ((List Int)) from (if (decide (s27.1 > 0)) then
 ((at? s27.2 (wrapA .i64 (s27.1 - 1))).bind fun x36=>
 (ck s27.2 (wrapA .i64 (s27.1 - 1))).bind fun u38=>
 some ((s27.2.set ((Int.toNat (wrapA .i64 (s27.1 - 1)))) ((wrapA .i64 (x36 + x33))))))
 else
 some s27.2)).bind fun b42=>
 if (decide ((wrapA .i64 (s27.1 + 1)) < (b42.length:Int))) then
 ((at? b42 (wrapA .i64 (s27.1 + 1))).bind fun x48=>
 (ck b42 (wrapA .i64 (s27.1 + 1))).bind fun u50=>
 some (.more (((wrapA .i64 (s27.1 + 1)),(b42.set ((Int.toNat (wrapA .i64 (s27.1 + 1)))) ((wrapA .i64 (x48 + x33))))))))
 else
 some (.more (((wrapA .i64 (s27.1 + 1)),b42))))
 else
 some (.stop s27.2)
def F92_l1 (F:Nat) (t1:Int) (s11:(List Int) × Int):Option (Stp ((List Int) × Int) ((List Int))):=
 if (decide (s11.2 < t1)) then
 ((mk? (wrapA .i64 (t1 + 2)) (0:Int)).bind fun L21=>
 (iter (F92_l0 F s11) F (0,L21)).bind fun b54=>
 some (.more ((b54,(wrapA .i64 (s11.2 + 1))))))
 else
 some (.stop s11.1)
def F92 (F:Nat) (t0:Int) (t1:Int):Option Int:=
 (mk? (wrapA .i64 (t1 + 2)) (0:Int)).bind fun L1=>
 (ck L1 0).bind fun u7=>
 (iter (F92_l1 F t1) F ((L1.set ((Int.toNat 0)) 1),0)).bind fun b58=>
 if (decide (t0 ≥ (b58.length:Int))) then
 (some 0)
 else
 (at? b58 t0).bind fun x64=>
 some x64
def F91 (F:Nat) (t0:Int):Option (Int × Int):=
 if ((decide (t0 < 0)) || (decide (t0 > 15))) then
 (some ((0,1)))
 else
 (F92 F 0 ((wrapA .i64 (2 * t0)))).bind fun r3=>
 some ((r3,0))
def F41_l0 (F:Nat) (t0:Int) (s8:Int × (List UInt8) × Int):Option (Stp (Int × (List UInt8) × Int) ((List UInt8))):=
 if (decide ((s8.2.1.length:Int) < (wrapA .i64 (2 * t0)))) then
 ((F92 F ((wrapA .i64 (s8.2.2 + 1))) ((wrapA .i64 ((wrapA .i64 ((wrapA .i64 (2 * t0)) - (s8.2.1.length:Int))) - 1)))).bind fun r14=>
 if (decide (s8.1 < r14)) then
 ((cat? s8.2.1 [40]).bind fun x19=>
 some (.more ((s8.1,x19,(wrapA .i64 (s8.2.2 + 1))))))
 else
 (cat? s8.2.1 [41]).bind fun x21=>
 some (.more (((wrapA .i64 (s8.1 - r14)),x21,(wrapA .i64 (s8.2.2 - 1))))))
 else
 some (.stop s8.2.1)
def F41 (F:Nat) (t0:Int) (t1:Int):Option ((List UInt8) × Int):=
 (F91 F t0).bind fun r1=>
 if (((r1.2 != 0) || (decide (t1 < 0))) || (decide (t1 ≥ r1.1))) then
 (some (([],1)))
 else
 (iter (F41_l0 F t0) F (t1,[],0)).bind fun b23=>
 some ((b23,0))
def F134_l0 (F:Nat)  (s1:Int × Int):Option (Stp (Int × Int) (Int)):=
 if (decide (s1.2 > 0)) then
 ((rem? s1.1 s1.2).bind fun x7=>
 some (.more ((s1.2,x7))))
 else
 some (.stop s1.1)
def F134 (F:Nat) (t0:Int) (t1:Int):Option Int:=
 (iter (F134_l0 F) F ((maxI t0 (wrapA .i64 (0 - t0))),t1)).bind fun b9=>
 some b9
def F93 (F:Nat) (t0:Int) (t1:Int):Option ((Int × Int) × Int):=
 (F134 F t0 t1).bind fun r5=>
 (quo? .i64 t0 r5).bind fun x9=>
 (quo? .i64 t1 r5).bind fun x11=>
 if (((decide (((x9,x11)).2 > 1000000000)) || (decide (((x9,x11)).1 < (-1000000000)))) || (decide (((x9,x11)).1 > 1000000000))) then
 (some (((((0,0)).1,((0,0)).2),2)))
 else
 some (((((((x9,x11)).1,((x9,x11)).2)).1,((((x9,x11)).1,((x9,x11)).2)).2),0))
def F42 (F:Nat) (t0:Int) (t1:Int):Option ((Int × Int) × Int):=
 if ((((decide (t0 < (-1000000000))) || (decide (t0 > 1000000000))) || (decide (t1 < (-1000000000)))) || (decide (t1 > 1000000000))) then
 (some (((((0,0)).1,((0,0)).2),1)))
 else
 if (t1 == 0) then
 (some (((((0,0)).1,((0,0)).2),5)))
 else
 if (decide (t1 < 0)) then
 ((F93 F ((wrapA .i64 (0 - t0))) ((wrapA .i64 (0 - t1)))).bind fun r15=>
 some (((((r15.1.1,r15.1.2)).1,((r15.1.1,r15.1.2)).2),r15.2)))
 else
 (F93 F t0 t1).bind fun r21=>
 some (((((r21.1.1,r21.1.2)).1,((r21.1.1,r21.1.2)).2),r21.2))
def F135 (F:Nat) (t0:Int × Int):Option Int:=
 if ((((decide (((t0.1,t0.2)).2 < 1)) || (decide (((t0.1,t0.2)).2 > 1000000000))) || (decide (((t0.1,t0.2)).1 < (-1000000000)))) || (decide (((t0.1,t0.2)).1 > 1000000000))) then
 (some 1)
 else
 (F134 F (((t0.1,t0.2)).1) (((t0.1,t0.2)).2)).bind fun r9=>
 if (r9 != 1) then
 (some 3)
 else
 some 0
def F94 (F:Nat) (t0:Int × Int) (t1:Int × Int):Option Int:=
 (F135 F ((((t0.1,t0.2)).1,((t0.1,t0.2)).2))).bind fun r9=>
 if (r9 != 0) then
 (some r9)
 else
 (F135 F ((((t1.1,t1.2)).1,((t1.1,t1.2)).2))).bind fun r14=>
 some r14
def F43 (F:Nat) (t0:Int × Int) (t1:Int × Int):Option ((Int × Int) × Int):=
 (F94 F ((((t0.1,t0.2)).1,((t0.1,t0.2)).2)) ((((t1.1,t1.2)).1,((t1.1,t1.2)).2))).bind fun r13=>
 if (r13 != 0) then
 (some (((((0,0)).1,((0,0)).2),r13)))
 else
 (F93 F ((wrapA .i64 ((wrapA .i64 (((t0.1,t0.2)).1 * ((t1.1,t1.2)).2)) + (wrapA .i64 (((t1.1,t1.2)).1 * ((t0.1,t0.2)).2))))) ((wrapA .i64 (((t0.1,t0.2)).2 * ((t1.1,t1.2)).2)))).bind fun r20=>
 some (((((r20.1.1,r20.1.2)).1,((r20.1.1,r20.1.2)).2),r20.2))
def F19 (F:Nat) (t0:List UInt8) (t1:List (List UInt8)):Option ((List UInt8)):=
 if (t0 == [114,97,110,107]) then
 ((F36 F t1).bind fun r2=>
 (F35 F r2).bind fun r8=>
 (F15 F r8.2).bind fun r12=>
 (F37 F ([r8.1])).bind fun r20=>
 some r20)
 else
 if ((t0 == [111,114,100,101,114]) && ((t1.length:Int) == 2)) then
 ((F36 F t1).bind fun r26=>
 (at? r26 0).bind fun x32=>
 (at? r26 1).bind fun x34=>
 (F38 F x32 x34).bind fun r36=>
 (F15 F r36.2).bind fun r42=>
 (F37 F r36.1).bind fun r46=>
 some r46)
 else
 if (t0 == [116,117,114,110,101,100]) then
 ((F36 F t1).bind fun r51=>
 (F39 F r51).bind fun r57=>
 (F15 F r57.2).bind fun r63=>
 (F37 F r57.1).bind fun r67=>
 some r67)
 else
 if (t0 == [115,104,97,112,101,115]) then
 ((F36 F t1).bind fun r72=>
 (F40 F r72).bind fun r78=>
 (F15 F r78.2).bind fun r82=>
 (F37 F ([r78.1])).bind fun r90=>
 some r90)
 else
 if ((t0 == [110,101,115,116]) && ((t1.length:Int) == 2)) then
 ((F36 F t1).bind fun r96=>
 (at? r96 0).bind fun x102=>
 (at? r96 1).bind fun x104=>
 (F41 F x102 x104).bind fun r106=>
 (F15 F r106.2).bind fun r110=>
 (cat? [58] r106.1).bind fun x114=>
 some x114)
 else
 if ((t0 == [115,117,109]) && ((t1.length:Int) == 4)) then
 ((F36 F t1).bind fun r118=>
 (at? r118 0).bind fun x124=>
 (at? r118 1).bind fun x126=>
 (F42 F x124 x126).bind fun r128=>
 (F15 F r128.2).bind fun r138=>
 (at? r118 2).bind fun x142=>
 (at? r118 3).bind fun x144=>
 (F42 F x142 x144).bind fun r146=>
 (F15 F r146.2).bind fun r156=>
 (F43 F ((((r128.1.1,r128.1.2)).1,((r128.1.1,r128.1.2)).2)) ((((r146.1.1,r146.1.2)).1,((r146.1.1,r146.1.2)).2))).bind fun r160=>
 (F15 F r160.2).bind fun r170=>
 (F37 F ([((r160.1.1,r160.1.2)).1,((r160.1.1,r160.1.2)).2])).bind fun r178=>
 some r178)
 else
 (F15 F 10).bind fun r182=>
 some ([])
def F78_l0 (F:Nat) (t0:(List ((List UInt8) × Int × Int)) × (List ((List UInt8) × (List UInt8) × Int))) (s1:(List Int) × Int):Option (Stp ((List Int) × Int) ((List Int))):=
 if (decide (s1.2 < (t0.1.length:Int))) then
 ((at? t0.1 s1.2).bind fun x11=>
 (app? s1.1 ([((x11.1,x11.2.1,x11.2.2)).2.1])).bind fun L23=>
 some (.more ((L23,(wrapA .i64 (s1.2 + 1))))))
 else
 some (.stop s1.1)
def F78 (F:Nat) (t0:(List ((List UInt8) × Int × Int)) × (List ((List UInt8) × (List UInt8) × Int))):Option ((List Int)):=
 (iter (F78_l0 F t0) F ([],0)).bind fun b29=>
 some b29
def F124_l0 (F:Nat) (t0:List Int) (s2:Int):Option (Stp (Int) (Unit ⊕ Int)):=
 if (decide (s2 < (t0.length:Int))) then
 ((at? t0 s2).bind fun x10=>
 if ((decide (x10 < 0)) || (decide (x10 > 100))) then
 (some (.stop ((.inr 1))))
 else
 some (.more ((wrapA .i64 (s2 + 1)))))
 else
 some (.stop ((.inl ())))
def F124 (F:Nat) (t0:List Int):Option Int:=
 if (decide ((t0.length:Int) > 8)) then
 (some 2)
 else
 (iter (F124_l0 F t0) F 0).bind fun b14=>
 match b14 with
 | .inl b16=>(some 0)
 | .inr b16=>(some b16)
def F123_l0 (F:Nat) (t0:List Int) (s6:Int × Int):Option (Stp (Int × Int) (Int)):=
 if (decide (s6.2 < (t0.length:Int))) then
 ((at? t0 s6.2).bind fun x12=>
 some (.more (((wrapA .i64 (s6.1 + x12)),(wrapA .i64 (s6.2 + 1))))))
 else
 some (.stop s6.1)
def F123 (F:Nat) (t0:List Int):Option (Int × Int):=
 (F124 F t0).bind fun r1=>
 if (r1 != 0) then
 (some ((0,r1)))
 else
 (iter (F123_l0 F t0) F (0,0)).bind fun b14=>
 some ((b14,0))
def F77_l0 (F:Nat) (t0:List Int) (s9:Int × Int):Option (Stp (Int × Int) (Int)):=
 (at? t0 s9.2).bind fun x14=>
 if (decide (s9.1 ≥ x14)) then
 ((at? t0 s9.2).bind fun x17=>
 some (.more (((wrapA .i64 (s9.1 - x17)),(wrapA .i64 (s9.2 + 1))))))
 else
 some (.stop s9.2)
def F77 (F:Nat) (t0:List Int) (t1:Int):Option (Int × Int):=
 (F123 F t0).bind fun r1=>
 if (r1.2 != 0) then
 (some ((0,r1.2)))
 else
 if (r1.1 == 0) then
 (some ((0,4)))
 else
 if ((decide (t1 < 0)) || (decide (t1 ≥ r1.1))) then
 (some ((0,1)))
 else
 (iter (F77_l0 F t0) F (t1,0)).bind fun b19=>
 some ((b19,0))
def F76 (F:Nat) (t0:(List ((List UInt8) × Int × Int)) × (List ((List UInt8) × (List UInt8) × Int))) (t1:Int) (t2:Int):Option (((List UInt8) × Int) × Int × ((List ((List UInt8) × Int × Int)) × (List ((List UInt8) × (List UInt8) × Int)))):=
 if (t2 != 0) then
 (some (((((([],0):(List UInt8) × Int)).1,((([],0):(List UInt8) × Int)).2),t2,(t0.1,t0.2))))
 else
 (at? t0.1 t1).bind fun x9=>
 (at? t0.1 t1).bind fun x11=>
 (at? ((t0.1.set ((Int.toNat t1)) ((x11.1,x11.2.1,(wrapA .i64 (x9.2.2 + 1)))))) t1).bind fun x15=>
 (at? ((t0.1.set ((Int.toNat t1)) ((x11.1,x11.2.1,(wrapA .i64 (x9.2.2 + 1)))))) t1).bind fun x17=>
 some (((((x15.1,x17.2.2)).1,((x15.1,x17.2.2)).2),0,((t0.1.set ((Int.toNat t1)) ((x11.1,x11.2.1,(wrapA .i64 (x9.2.2 + 1))))),t0.2)))
def F125_l0 (F:Nat) (t0:List Int) (t1:List Int) (s1:Int × Int):Option (Stp (Int × Int) (Int)):=
 if (decide (s1.2 < (t0.length:Int))) then
 ((at? t0 s1.2).bind fun x7=>
 (if (decide (x7 > 0)) then
 ((if (decide (s1.1 < 0)) then some true else
 ((at? t1 s1.2).bind fun x9=>
 (at? t0 s1.1).bind fun x11=>
 (at? t1 s1.1).bind fun x13=>
 some (decide ((wrapA .i64 (x9 * x11)) < (wrapA .i64 (x13 * x7)))))
 ).bind fun y16=>
 some y16)
  else some false).bind fun y19=>
 if y19 then
 (some (.more ((s1.2,(wrapA .i64 (s1.2 + 1))))))
 else
 some (.more ((s1.1,(wrapA .i64 (s1.2 + 1))))))
 else
 some (.stop s1.1)
def F125 (F:Nat) (t0:List Int) (t1:List Int):Option Int:=
 (iter (F125_l0 F t0 t1) F ((-1),0)).bind fun b22=>
 some b22
def F79_l0 (F:Nat) (t1:List Int) (s7:Int):Option (Stp (Int) (Unit ⊕ (Int × Int))):=
 if (decide (s7 < (t1.length:Int))) then
 ((at? t1 s7).bind fun x15=>
 if ((decide (x15 < 0)) || (decide (x15 > 1000000000))) then
 (some (.stop ((.inr (0,1)))))
 else
 some (.more ((wrapA .i64 (s7 + 1)))))
 else
 some (.stop ((.inl ())))
def F79 (F:Nat) (t0:List Int) (t1:List Int):Option (Int × Int):=
 (F124 F t0).bind fun r1=>
 if (r1 != 0) then
 (some ((0,r1)))
 else
 if ((t1.length:Int) != (t0.length:Int)) then
 (some ((0,3)))
 else
 (iter (F79_l0 F t1) F 0).bind fun b19=>
 match b19 with
 | .inl b21=>((F125 F t0 t1).bind fun r24=>
 if (decide (r24 < 0)) then
 (some ((0,4)))
 else
 some ((r24,0)))
 | .inr b21=>(some ((b21.1,b21.2)))
def F80_l0 (F:Nat) (L1:List Int) (s7:Int):Option (Stp (Int) (Unit ⊕ Bool)):=
 if (decide (s7 < (L1.length:Int))) then
 ((at? L1 s7).bind fun x15=>
 if ((decide (x15 < 97)) || (decide (x15 > 122))) then
 (some (.stop ((.inr false))))
 else
 some (.more ((wrapA .i64 (s7 + 1)))))
 else
 some (.stop ((.inl ())))
def F80 (F:Nat) (t0:List UInt8):Option Bool:=
 (bytes? t0).bind fun L1=>
 (iter (F80_l0 F L1) F 0).bind fun b19=>
 match b19 with
 | .inl b21=>(some (((decide ((t0.length:Int) > 0)) && (decide ((t0.length:Int)≤12)))))
 | .inr b21=>(some b21)
def F127 (F:Nat) (t0:(List UInt8) × Int × Int) (c0:List UInt8):Option Bool:=
 some ((((t0.1,t0.2.1,t0.2.2)).1 == c0))
def F126_127_l0 (F:Nat) (t0:List ((List UInt8) × Int × Int)) (t1c0:List UInt8) (s1:Int):Option (Stp (Int) (Unit ⊕ Int)):=
 if (decide (s1 < (t0.length:Int))) then
 ((at? t0 s1).bind fun x9=>
 (F127 F ((x9.1,x9.2.1,x9.2.2)) t1c0).bind fun r11=>
 if r11 then
 (some (.stop ((.inr s1))))
 else
 some (.more ((wrapA .i64 (s1 + 1)))))
 else
 some (.stop ((.inl ())))
def F126_127 (F:Nat) (t0:List ((List UInt8) × Int × Int)) (t1c0:List UInt8):Option Int:=
 (iter (F126_127_l0 F t0 t1c0) F 0).bind fun b16=>
 match b16 with
 | .inl b18=>(some ((-1)))
 | .inr b18=>(some b18)
def F81 (F:Nat) (t0:(List ((List UInt8) × Int × Int)) × (List ((List UInt8) × (List UInt8) × Int))) (t1:List UInt8):Option Int:=
 (F126_127 F t0.1 t1).bind fun r6=>
 some r6
def F82 (F:Nat) (t0:(List ((List UInt8) × Int × Int)) × (List ((List UInt8) × (List UInt8) × Int))) (t1:Int) (t2:Int × Int × (List UInt8) × (List UInt8)):Option (Int × ((List ((List UInt8) × Int × Int)) × (List ((List UInt8) × (List UInt8) × Int)))):=
 if (decide (t1 ≥ 0)) then
 (some ((8,(t0.1,t0.2))))
 else
 if ((decide (((t2.1,t2.2.1,t2.2.2.1,t2.2.2.2)).2.1 < 0)) || (decide (((t2.1,t2.2.1,t2.2.2.1,t2.2.2.2)).2.1 > 100))) then
 (some ((1,(t0.1,t0.2))))
 else
 if ((t0.1.length:Int) == 8) then
 (some ((9,(t0.1,t0.2))))
 else
 (appB? 4398046511104 t0.1 ([(((t2.1,t2.2.1,t2.2.2.1,t2.2.2.2)).2.2.1,((t2.1,t2.2.1,t2.2.2.1,t2.2.2.2)).2.1,0)])).bind fun L13=>
 some ((0,(L13,t0.2)))
def F129 (F:Nat) (t0:(List UInt8) × (List UInt8) × Int) (c0:List UInt8):Option Bool:=
 some (((((t0.1,t0.2.1,t0.2.2)).1 == c0) || (((t0.1,t0.2.1,t0.2.2)).2.1 == c0)))
def F153_129_l0 (F:Nat) (t0:List ((List UInt8) × (List UInt8) × Int)) (t1c0:List UInt8) (s1:Int):Option (Stp (Int) (Unit ⊕ Int)):=
 if (decide (s1 < (t0.length:Int))) then
 ((at? t0 s1).bind fun x9=>
 (F129 F ((x9.1,x9.2.1,x9.2.2)) t1c0).bind fun r11=>
 if r11 then
 (some (.stop ((.inr s1))))
 else
 some (.more ((wrapA .i64 (s1 + 1)))))
 else
 some (.stop ((.inl ())))
def F153_129 (F:Nat) (t0:List ((List UInt8) × (List UInt8) × Int)) (t1c0:List UInt8):Option Int:=
 (iter (F153_129_l0 F t0 t1c0) F 0).bind fun b16=>
 match b16 with
 | .inl b18=>(some ((-1)))
 | .inr b18=>(some b18)
def F128_129 (F:Nat) (t0:List ((List UInt8) × (List UInt8) × Int)) (t1c0:List UInt8):Option Bool:=
 (F153_129 F t0 t1c0).bind fun r1=>
 some ((decide (r1 ≥ 0)))
def F130 (F:Nat) (t0:(List ((List UInt8) × Int × Int))) (t1:Int) (t2:Int):Option ((List ((List UInt8) × Int × Int))):=if 0≤t1 then delB? 4398046511104 t0 t1 t2 else none
def F83 (F:Nat) (t0:(List ((List UInt8) × Int × Int)) × (List ((List UInt8) × (List UInt8) × Int))) (t1:Int):Option (Int × ((List ((List UInt8) × Int × Int)) × (List ((List UInt8) × (List UInt8) × Int)))):=
 (at? t0.1 t1).bind fun x1=>
 (F128_129 F t0.2 x1.1).bind fun r10=>
 if r10 then
 (some ((7,(t0.1,t0.2))))
 else
 (F130 F t0.1 t1 ((wrapA .i64 (t1 + 1)))).bind fun r15=>
 some ((0,(r15,t0.2)))
def F131 (F:Nat) (t0:List Int) (t1:Int) (t2:Int) (t3:Int):Option ((List Int) × Int):=
 (F124 F t0).bind fun r1=>
 if (r1 != 0) then
 (some (([],r1)))
 else
 if (((((decide (t1 < 0)) || (decide (t1 ≥ (t0.length:Int)))) || (decide (t2 < 0))) || (decide (t2 ≥ (t0.length:Int)))) || (decide (t3 < 0))) then
 (some (([],1)))
 else
 (at? t0 t1).bind fun x11=>
 if (decide (t3 > x11)) then
 (some (([],4)))
 else
 (app? ([]) t0).bind fun L18=>
 (at? L18 t1).bind fun x24=>
 (ck L18 t1).bind fun u26=>
 (at? ((L18.set ((Int.toNat t1)) ((wrapA .i64 (x24 - t3))))) t2).bind fun x30=>
 (ck ((L18.set ((Int.toNat t1)) ((wrapA .i64 (x24 - t3))))) t2).bind fun u32=>
 (at? ((((L18.set ((Int.toNat t1)) ((wrapA .i64 (x24 - t3))))).set ((Int.toNat t2)) ((wrapA .i64 (x30 + t3))))) t2).bind fun x36=>
 if (decide (x36 > 100)) then
 (some (([],9)))
 else
 some (((((L18.set ((Int.toNat t1)) ((wrapA .i64 (x24 - t3))))).set ((Int.toNat t2)) ((wrapA .i64 (x30 + t3)))),0))
def F84 (F:Nat) (t0:(List ((List UInt8) × Int × Int)) × (List ((List UInt8) × (List UInt8) × Int))) (t1:Int) (t2:Int × Int × (List UInt8) × (List UInt8)):Option (Int × ((List ((List UInt8) × Int × Int)) × (List ((List UInt8) × (List UInt8) × Int)))):=
 (F81 F ((t0.1,t0.2)) (((t2.1,t2.2.1,t2.2.2.1,t2.2.2.2)).2.2.2)).bind fun r5=>
 if (decide (r5 < 0)) then
 (some ((4,(t0.1,t0.2))))
 else
 if ((r5 == t1) || (decide (((t2.1,t2.2.1,t2.2.2.1,t2.2.2.2)).2.1 < 1))) then
 (some ((1,(t0.1,t0.2))))
 else
 (F78 F ((t0.1,t0.2))).bind fun r12=>
 (F131 F r12 t1 r5 (((t2.1,t2.2.1,t2.2.2.1,t2.2.2.2)).2.1)).bind fun r18=>
 if (r18.2 != 0) then
 (some ((r18.2,(t0.1,t0.2))))
 else
 (at? r18.1 t1).bind fun x25=>
 (at? r18.1 r5).bind fun x27=>
 (at? t0.1 t1).bind fun x29=>
 (at? ((t0.1.set ((Int.toNat t1)) ((x29.1,x25,x29.2.2)))) r5).bind fun x33=>
 (appB? 3518437208883 t0.2 ([(((t2.1,t2.2.1,t2.2.2.1,t2.2.2.2)).2.2.1,((t2.1,t2.2.1,t2.2.2.1,t2.2.2.2)).2.2.2,((t2.1,t2.2.1,t2.2.2.1,t2.2.2.2)).2.1)])).bind fun L41=>
 some ((0,((((t0.1.set ((Int.toNat t1)) ((x29.1,x25,x29.2.2)))).set ((Int.toNat r5)) ((x33.1,x27,x33.2.2))),L41)))
def F132 (F:Nat) (t0:(List ((List UInt8) × (List UInt8) × Int))) (t1:Int) (t2:Int):Option ((List ((List UInt8) × (List UInt8) × Int))):=if 0≤t1 then delB? 3518437208883 t0 t1 t2 else none
def F85_l0 (F:Nat) (t1:List UInt8) (s5:Int × Int × (List ((List UInt8) × Int × Int)) × (List ((List UInt8) × (List UInt8) × Int))):Option (Stp (Int × Int × (List ((List UInt8) × Int × Int)) × (List ((List UInt8) × (List UInt8) × Int))) (Int × (List ((List UInt8) × Int × Int)) × (List ((List UInt8) × (List UInt8) × Int)))):=
 if (decide (s5.2.1 ≥ 0)) then
 ((at? s5.2.2.2 s5.2.1).bind fun x19=>
 if (!(((x19.1,x19.2.1,x19.2.2)).1 == t1)) then
 (some (.more ((s5.1,(wrapA .i64 (s5.2.1 - 1)),s5.2.2.1,s5.2.2.2))))
 else
 (F81 F ((s5.2.2.1,s5.2.2.2)) (((x19.1,x19.2.1,x19.2.2)).1)).bind fun r28=>
 (F81 F ((s5.2.2.1,s5.2.2.2)) (((x19.1,x19.2.1,x19.2.2)).2.1)).bind fun r32=>
 (at? s5.2.2.1 r32).bind fun x36=>
 (at? s5.2.2.1 r28).bind fun x38=>
 (at? s5.2.2.1 r32).bind fun x40=>
 (at? s5.2.2.1 r32).bind fun x42=>
 (at? ((s5.2.2.1.set ((Int.toNat r32)) ((x42.1,(wrapA .i64 (x40.2.1 - (minI (minI ((x19.1,x19.2.1,x19.2.2)).2.2 x36.2.1) (wrapA .i64 (100 - x38.2.1))))),x42.2.2)))) r28).bind fun x46=>
 (at? ((s5.2.2.1.set ((Int.toNat r32)) ((x42.1,(wrapA .i64 (x40.2.1 - (minI (minI ((x19.1,x19.2.1,x19.2.2)).2.2 x36.2.1) (wrapA .i64 (100 - x38.2.1))))),x42.2.2)))) r28).bind fun x48=>
 (at? s5.2.2.2 s5.2.1).bind fun x52=>
 (at? s5.2.2.2 s5.2.1).bind fun x54=>
 (at? ((s5.2.2.2.set ((Int.toNat s5.2.1)) ((x54.1,x54.2.1,(wrapA .i64 (x52.2.2 - (minI (minI ((x19.1,x19.2.1,x19.2.2)).2.2 x36.2.1) (wrapA .i64 (100 - x38.2.1))))))))) s5.2.1).bind fun x58=>
 if (x58.2.2 == 0) then
 ((F132 F ((s5.2.2.2.set ((Int.toNat s5.2.1)) ((x54.1,x54.2.1,(wrapA .i64 (x52.2.2 - (minI (minI ((x19.1,x19.2.1,x19.2.2)).2.2 x36.2.1) (wrapA .i64 (100 - x38.2.1))))))))) s5.2.1 ((wrapA .i64 (s5.2.1 + 1)))).bind fun r61=>
 some (.more (((wrapA .i64 (s5.1 + (minI (minI ((x19.1,x19.2.1,x19.2.2)).2.2 x36.2.1) (wrapA .i64 (100 - x38.2.1))))),(wrapA .i64 (s5.2.1 - 1)),(((s5.2.2.1.set ((Int.toNat r32)) ((x42.1,(wrapA .i64 (x40.2.1 - (minI (minI ((x19.1,x19.2.1,x19.2.2)).2.2 x36.2.1) (wrapA .i64 (100 - x38.2.1))))),x42.2.2)))).set ((Int.toNat r28)) ((x48.1,(wrapA .i64 (x46.2.1 + (minI (minI ((x19.1,x19.2.1,x19.2.2)).2.2 x36.2.1) (wrapA .i64 (100 - x38.2.1))))),x48.2.2))),r61))))
 else
 some (.more (((wrapA .i64 (s5.1 + (minI (minI ((x19.1,x19.2.1,x19.2.2)).2.2 x36.2.1) (wrapA .i64 (100 - x38.2.1))))),(wrapA .i64 (s5.2.1 - 1)),(((s5.2.2.1.set ((Int.toNat r32)) ((x42.1,(wrapA .i64 (x40.2.1 - (minI (minI ((x19.1,x19.2.1,x19.2.2)).2.2 x36.2.1) (wrapA .i64 (100 - x38.2.1))))),x42.2.2)))).set ((Int.toNat r28)) ((x48.1,(wrapA .i64 (x46.2.1 + (minI (minI ((x19.1,x19.2.1,x19.2.2)).2.2 x36.2.1) (wrapA .i64 (100 - x38.2.1))))),x48.2.2))),(s5.2.2.2.set ((Int.toNat s5.2.1)) ((x54.1,x54.2.1,(wrapA .i64 (x52.2.2 - (minI (minI ((x19.1,x19.2.1,x19.2.2)).2.2 x36.2.1) (wrapA .i64 (100 - x38.2.1))))))))))))
 else
 some (.stop ((s5.1,s5.2.2.1,s5.2.2.2)))
def F85 (F:Nat) (t0:(List ((List UInt8) × Int × Int)) × (List ((List UInt8) × (List UInt8) × Int))) (t1:List UInt8):Option (((List UInt8) × Int) × ((List ((List UInt8) × Int × Int)) × (List ((List UInt8) × (List UInt8) × Int)))):=
 (iter (F85_l0 F t1) F (0,(wrapA .i64 ((t0.2.length:Int) - 1)),t0.1,t0.2)).bind fun b69=>
 some (((((t1,b69.1)).1,((t1,b69.1)).2),(b69.2.1,b69.2.2)))
def F34_l0 (F:Nat) (t0:(List ((List UInt8) × Int × Int)) × (List ((List UInt8) × (List UInt8) × Int))) (s41:(List Int) × Int):Option (Stp ((List Int) × Int) ((List Int))):=
 if (decide (s41.2 < (t0.1.length:Int))) then
 ((at? t0.1 s41.2).bind fun x51=>
 (app? s41.1 ([((x51.1,x51.2.1,x51.2.2)).2.2])).bind fun L63=>
 some (.more ((L63,(wrapA .i64 (s41.2 + 1))))))
 else
 some (.stop s41.1)
def F34 (F:Nat) (t0:(List ((List UInt8) × Int × Int)) × (List ((List UInt8) × (List UInt8) × Int))) (t1:Int × Int × (List UInt8) × (List UInt8)):Option (((List UInt8) × Int) × Int × ((List ((List UInt8) × Int × Int)) × (List ((List UInt8) × (List UInt8) × Int)))):=
 if (((t1.1,t1.2.1,t1.2.2.1,t1.2.2.2)).1 == 5) then
 ((F78 F ((t0.1,t0.2))).bind fun r16=>
 (F77 F r16 (((t1.1,t1.2.1,t1.2.2.1,t1.2.2.2)).2.1)).bind fun r22=>
 (F76 F ((t0.1,t0.2)) r22.1 r22.2).bind fun r26=>
 some (((((r26.1.1,r26.1.2)).1,((r26.1.1,r26.1.2)).2),r26.2.1,(r26.2.2.1,r26.2.2.2))))
 else
 if (((t1.1,t1.2.1,t1.2.2.1,t1.2.2.2)).1 == 7) then
 ((iter (F34_l0 F t0) F ([],0)).bind fun b69=>
 (F78 F ((t0.1,t0.2))).bind fun r74=>
 (F79 F r74 b69).bind fun r80=>
 (F76 F ((t0.1,t0.2)) r80.1 r80.2).bind fun r84=>
 some (((((r84.1.1,r84.1.2)).1,((r84.1.1,r84.1.2)).2),r84.2.1,(r84.2.2.1,r84.2.2.2))))
 else
 (show Option (Bool) from (if (((t1.1,t1.2.1,t1.2.2.1,t1.2.2.2)).1 == 1) then
 (some ((((t1.1,t1.2.1,t1.2.2.1,t1.2.2.2)).1 == 1)))
 else
 if (((t1.1,t1.2.1,t1.2.2.1,t1.2.2.2)).1 == 2) then
 (some ((((t1.1,t1.2.1,t1.2.2.1,t1.2.2.2)).1 == 2)))
 else
 if (((t1.1,t1.2.1,t1.2.2.1,t1.2.2.2)).1 == 3) then
 (some ((((t1.1,t1.2.1,t1.2.2.1,t1.2.2.2)).1 == 3)))
 else
 if (((t1.1,t1.2.1,t1.2.2.1,t1.2.2.2)).1 == 4) then
 (some ((((t1.1,t1.2.1,t1.2.2.1,t1.2.2.2)).1 == 4)))
 else
 some ((((t1.1,t1.2.1,t1.2.2.1,t1.2.2.2)).1 == 6)))).bind fun b102=>
 if b102 then
 ((F80 F (((t1.1,t1.2.1,t1.2.2.1,t1.2.2.2)).2.2.1)).bind fun r108=>
 if (!r108) then
 (some ((((((((([],0):(List UInt8) × Int)).1,((([],0):(List UInt8) × Int)).2):(List UInt8) × Int)).1,(((((([],0):(List UInt8) × Int)).1,((([],0):(List UInt8) × Int)).2):(List UInt8) × Int)).2),3,(t0.1,t0.2))))
 else
 (F81 F ((t0.1,t0.2)) (((t1.1,t1.2.1,t1.2.2.1,t1.2.2.2)).2.2.1)).bind fun r116=>
 if (((t1.1,t1.2.1,t1.2.2.1,t1.2.2.2)).1 == 1) then
 ((F82 F ((t0.1,t0.2)) r116 ((((t1.1,t1.2.1,t1.2.2.1,t1.2.2.2)).1,((t1.1,t1.2.1,t1.2.2.1,t1.2.2.2)).2.1,((t1.1,t1.2.1,t1.2.2.1,t1.2.2.2)).2.2.1,((t1.1,t1.2.1,t1.2.2.1,t1.2.2.2)).2.2.2))).bind fun r123=>
 some ((((((((([],0):(List UInt8) × Int)).1,((([],0):(List UInt8) × Int)).2):(List UInt8) × Int)).1,(((((([],0):(List UInt8) × Int)).1,((([],0):(List UInt8) × Int)).2):(List UInt8) × Int)).2),r123.1,(r123.2.1,r123.2.2))))
 else
 if (decide (r116 < 0)) then
 (some ((((((((([],0):(List UInt8) × Int)).1,((([],0):(List UInt8) × Int)).2):(List UInt8) × Int)).1,(((((([],0):(List UInt8) × Int)).1,((([],0):(List UInt8) × Int)).2):(List UInt8) × Int)).2),4,(t0.1,t0.2))))
 else
 if (((t1.1,t1.2.1,t1.2.2.1,t1.2.2.2)).1 == 2) then
 ((F83 F ((t0.1,t0.2)) r116).bind fun r143=>
 some ((((((((([],0):(List UInt8) × Int)).1,((([],0):(List UInt8) × Int)).2):(List UInt8) × Int)).1,(((((([],0):(List UInt8) × Int)).1,((([],0):(List UInt8) × Int)).2):(List UInt8) × Int)).2),r143.1,(r143.2.1,r143.2.2))))
 else
 if (((t1.1,t1.2.1,t1.2.2.1,t1.2.2.2)).1 == 3) then
 ((F84 F ((t0.1,t0.2)) r116 ((((t1.1,t1.2.1,t1.2.2.1,t1.2.2.2)).1,((t1.1,t1.2.1,t1.2.2.1,t1.2.2.2)).2.1,((t1.1,t1.2.1,t1.2.2.1,t1.2.2.2)).2.2.1,((t1.1,t1.2.1,t1.2.2.1,t1.2.2.2)).2.2.2))).bind fun r160=>
 some ((((((((([],0):(List UInt8) × Int)).1,((([],0):(List UInt8) × Int)).2):(List UInt8) × Int)).1,(((((([],0):(List UInt8) × Int)).1,((([],0):(List UInt8) × Int)).2):(List UInt8) × Int)).2),r160.1,(r160.2.1,r160.2.2))))
 else
 if (((t1.1,t1.2.1,t1.2.2.1,t1.2.2.2)).1 == 4) then
 ((F85 F ((t0.1,t0.2)) (((t1.1,t1.2.1,t1.2.2.1,t1.2.2.2)).2.2.1)).bind fun r175=>
 some (((((r175.1.1,r175.1.2)).1,((r175.1.1,r175.1.2)).2),0,(r175.2.1,r175.2.2))))
 else
 (at? t0.1 r116).bind fun x189=>
 some (((((((t1.1,t1.2.1,t1.2.2.1,t1.2.2.2)).2.2.1,x189.2.2)).1,((((t1.1,t1.2.1,t1.2.2.1,t1.2.2.2)).2.2.1,x189.2.2)).2),0,(t0.1,t0.2))))
 else
 some ((((((((([],0):(List UInt8) × Int)).1,((([],0):(List UInt8) × Int)).2):(List UInt8) × Int)).1,(((((([],0):(List UInt8) × Int)).1,((([],0):(List UInt8) × Int)).2):(List UInt8) × Int)).2),1,(t0.1,t0.2)))
end Go.Proofs.YtaphdnpjpmnaeadGreatDoor

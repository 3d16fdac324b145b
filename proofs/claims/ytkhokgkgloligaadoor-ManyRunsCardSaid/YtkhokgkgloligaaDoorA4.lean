/- Towards castlaw.ManyRuns, part 4: joined by a program of ours. -/
import Derived.Test.YtkhokgkgloligaaDoorA3
import Derived.Deep.Slices
import Derived.SizedLaws
set_option linter.unusedVariables false
set_option linter.unusedSimpArgs false
set_option linter.unusedSectionVars false
namespace Go.Am
open Go.ChangeShapes Go.WideShapes Go.RowKit
structure Ab (W:World) where
 n:Nat
 m:Mem
 ρ:Rho
 fresh:∀ i,n<=i->ρ i = none
 ok:∀ i l,m.get i = some l->i < n/\∃ p,ρ i = some p/\BlockAt ρ false l p W
def Ab.le {W:World} (X Y:Ab W):Prop:=X.n<=Y.n/\Ext X.ρ Y.ρ/\∀ i,i < X.n->Y.m.get i = X.m.get i
theorem Ab.le.refl {W:World} (X:Ab W):X.le X:=⟨Nat.le_refl _,Ext.refl _,fun _ _=>rfl⟩
theorem Ab.le.trans {W:World} {X Y Z:Ab W} (h:X.le Y) (k:Y.le Z):X.le Z:=⟨Nat.le_trans h.1 k.1,Ext.trans h.2.1 k.2.1,fun i hi=>(k.2.2 i (Nat.lt_of_lt_of_le hi h.1)).trans (h.2.2 i hi)⟩
theorem Ab.le.fr {W:World} {X Y:Ab W} (h:X.le Y):∀ i,i < X.n->i < Y.n/\Y.m.get i = X.m.get i:=fun i hi=>⟨Nat.lt_of_lt_of_le hi h.1,h.2.2 i hi⟩
def Ab.nil (W:World):Ab W:=⟨0,.nil,fun _=>none,fun _ _=>rfl,fun i l h=>by simp [Tr.get] at h⟩
def Rdr {α:Type} (P:Program) (t:TypeId) (A:Lay α) (V:α->Prop):Prop:=
 ∀ {H:Type} (enc:TypeId × Value->H) (W:World) (fuel:Nat) (cs:List Value) (x:DataW H × List MemPlace),DataW.trod enc P W 0 (fun _=>true) true fuel t cs = some x ->
  ∀ X:Ab W,∃ (Y:Ab W) (l:List SV) (a:α),X.le Y/\All2 (SV.rel Y.ρ) l cs/\A.R (fun i=>i < Y.n) Y.m a l/\V a
section
variable {P:Program} {t e:TypeId} {α β:Type} {A:Lay α} {B:Lay β} {V V':α->Prop} {U:β->Prop}
def inR (k:IntKind) (n:Int):Prop:=k.min<=n/\n<=k.max
theorem Rdr.int {k:IntKind} (ht:P.underlying t = some (.int k)):Rdr P t (Lay.one (SV.int k)) (inR k):=by
 intro H enc W fuel cs x h X
 obtain ⟨n,rfl,_,hw⟩:=DataW.trod_int ht h
 refine ⟨X,[.int k n],n,Ab.le.refl X,⟨rfl,trivial⟩,rfl,?_⟩
 simpa [Lit.wf,inR] using hw
theorem Rdr.str (ht:P.underlying t = some .string):Rdr P t (Lay.one SV.str) (fun s=>s.length<=maxLen):=by
 intro H enc W fuel cs x h X
 obtain ⟨s,rfl,_,hs⟩:=DataW.trod_string ht h
 exact ⟨X,[.str s.data.toList],s.data.toList,Ab.le.refl X,⟨rfl,trivial⟩,rfl,by simpa using hs⟩
def Lay.prod (A:Lay α) (B:Lay β):Lay (α × β) where
 sz:=A.sz + B.sz
 R z m a cs:=∃ c1 c2,cs = c1 ++ c2/\A.R z m a.1 c1/\B.R z m a.2 c2
 len:=by rintro z m a cs ⟨c1,c2,rfl,h1,h2⟩;rw [List.length_append,A.len h1,B.len h2]
 frame:=by rintro z z' m m' a cs ⟨c1,c2,rfl,h1,h2⟩ k;exact ⟨c1,c2,rfl,A.frame h1 k,B.frame h2 k⟩
theorem Rdr.via {γ:Type} {C:Lay γ} {T:γ->Prop} (g:α->γ) (h:Rdr P t A V) (hr:∀ z m a cs,A.R z m a cs->C.R z m (g a) cs) (hv:∀ a,V a->T (g a)):Rdr P t C T:=by
 intro H enc W fuel cs x hx X
 obtain ⟨Y,l,a,h1,h2,h3,h4⟩:=h enc W fuel cs x hx X
 exact ⟨Y,l,g a,h1,h2,hr _ _ _ _ h3,hv _ h4⟩
def RdrF {α:Type} (P:Program) (fs:List Field) (o:Nat) (A:Lay α) (V:α->Prop):Prop:=
 ∀ {H:Type} (enc:TypeId × Value->H) (W:World) (n:Nat) (cs:List Value) (xs:List (DataW H × List MemPlace)),(∀ (i:Nat) (f:Field),fs[i]? = some f->DataW.trod enc P W 0 (fun _=>true) true n f.type ((cs.drop f.offset).take (P.cellsOf f.type)) = xs[i]?)->xs.length = fs.length->o + A.sz = cs.length ->
  ∀ X:Ab W,∃ (Y:Ab W) (l:List SV) (a:α),X.le Y/\All2 (SV.rel Y.ρ) l (cs.drop o)/\A.R (fun i=>i < Y.n) Y.m a l/\V a
theorem RdrF.one {f:Field} {o:Nat} (ho:f.offset = o) (hs:P.cellsOf f.type = A.sz) (h:Rdr P f.type A V):RdrF P [f] o A V:=by
 intro H enc W n cs xs hx hl hc X
 have h0:=hx 0 f rfl
 match xs,hl with
 | [y],_=>
  obtain ⟨Y,l,a,h1,h2,h3,h4⟩:=h enc W n _ y (by simpa using h0) X
  rw [ho,hs,List.take_of_length_le (by rw [List.length_drop];omega)] at h2
  exact ⟨Y,l,a,h1,h2,h3,h4⟩
theorem RdrF.cons {f:Field} {fs:List Field} {o:Nat} (ho:f.offset = o) (hs:P.cellsOf f.type = A.sz) (h:Rdr P f.type A V) (hr:RdrF P fs (o + A.sz) B U):RdrF P (f :: fs) o (Lay.prod A B) (fun a=>V a.1/\U a.2):=by
 intro H enc W n cs xs hx hl hc X
 have hc:o + (A.sz + B.sz) = cs.length:=hc
 match xs,hl with
 | y :: ys,hl=>
  have h0:=hx 0 f rfl
  obtain ⟨Y,l,a,h1,h2,h3,h4⟩:=h enc W n _ y (by simpa using h0) X
  obtain ⟨Z,l',b,k1,k2,k3,k4⟩:=hr enc W n cs ys (fun i g hg=>by simpa using hx (i + 1) g (by simpa using hg)) (by simpa using hl) (by omega) Y
  refine ⟨Z,l ++ l',(a,b),h1.trans k1,?_,⟨l,l',rfl,A.frame h3 k1.fr,k3⟩,h4,k4⟩
  rw [ho,hs] at h2
  have:=All2.append (h2.mono fun _ _=>SV.rel_ext k1.2.1) k2
  rwa [<- List.drop_drop,List.take_append_drop] at this
theorem Rdr.struct {fs:Array Field} {l:List Field} (ht:P.underlying t = some (.struct fs)) (hl:fs.toList = l) (hs:P.cellsOf t = A.sz) (h:RdrF P l 0 A V):Rdr P t A V:=by
 intro H enc W fuel cs x hx X
 obtain ⟨xs,n,_,_,h1,h2,h3⟩:=DataW.trod_struct ht hx
 obtain ⟨Y,l',a,k1,k2,k3,k4⟩:=h enc W n cs xs (fun i f hf=>h3 i f (by rw [<- hl] at hf;simpa using hf)) (by rw [h2,<- hl];simp) (by omega) X
 exact ⟨Y,l',a,k1,by simpa using k2,k3,k4⟩
theorem cell?_heap {W:World} {a:Addr} {v:Value} (h:W.cell? a = some v):a.spot = none/\∃ arr T fz,W.heap[a.block]? = some (.cells arr T fz)/\arr[a.off]? = some v:=by
 refine ⟨World.cell?_spot h,?_⟩
 unfold World.cell? at h
 split at h
 ·rename_i c T fz hb
  split at h
  ·cases h
  ·exact ⟨c,T,fz,hb,h⟩
 ·cases h
theorem Rdr.sl (ht:P.underlying t = some (.slice e)) (hs:P.cellsOf e = A.sz) (h0:A.sz≠0) (h:Rdr P e A V):Rdr P t (Lay.sl A) (fun L=>L.length<=maxLen/\∀ a∈L,V a):=by
 intro H enc W fuel cs x hx X
 rcases Go.Deep.open_slice ht hx with ⟨rfl,_⟩ | ⟨a,len,cap,m,n,D,Plc,rfl,hb,hl,hm,hmm,_,hel⟩
 ·exact ⟨X,[.nils],[],Ab.le.refl X,⟨rfl,trivial⟩,⟨.nils,rfl,.inl ⟨.inl rfl,rfl⟩⟩,by simp,by simp⟩
 simp only [if_true] at hmm
 subst hmm
 by_cases hlen:len = 0
 ·subst hlen
  exact ⟨X,[.emp],[],Ab.le.refl X,⟨⟨_,_,rfl⟩,trivial⟩,⟨.emp,rfl,.inl ⟨.inr rfl,rfl⟩⟩,by simp,by simp⟩
 rw [hs] at hel
 have hcell:∀ i,i < m->∀ j,j < A.sz->∃ v,W.cell? ((a.add (i * A.sz)).add j) = some v:=by
  intro i hi j hj
  obtain ⟨cs',h1,_⟩:=hel i hi
  obtain ⟨_,h2,h3⟩:=World.cells?_some h1
  rw [h3 j hj]
  exact ⟨_,List.getElem?_eq_getElem (by omega)⟩
 obtain ⟨v0,hv0⟩:=hcell 0 (by omega) 0 (by omega)
 obtain ⟨hspot,arr,T,fz,hheap,_⟩:=cell?_heap (show W.cell? a = some v0 by simpa [Addr.add] using hv0)
 obtain ⟨ab,ao,asp⟩:=a
 simp only at hspot
 subst hspot
 simp only at hheap
 have hat:∀ i,i < m->∀ j,j < A.sz->∀ v,W.cell? (((⟨ab,ao,none⟩:Addr).add (i * A.sz)).add j) = some v->arr[ao + i * A.sz + j]? = some v:=by
  intro i hi j hj v hv
  have e1:((⟨ab,ao,none⟩:Addr).add (i * A.sz)).add j = ⟨ab,ao + i * A.sz + j,none⟩:=by
   unfold Addr.add
   by_cases q1:i * A.sz = 0 <;> by_cases q2:j = 0 <;> simp [q1,q2,Nat.add_assoc]
  rw [e1] at hv
  obtain ⟨_,arr',T',fz',g1,g2⟩:=cell?_heap hv
  simp only at g1 g2
  rw [hheap] at g1
  cases g1
  exact g2
 have hsize:ao + m * A.sz<=arr.size:=by
  obtain ⟨v,hv⟩:=hcell (m - 1) (by omega) (A.sz - 1) (by omega)
  have:=(Array.getElem?_eq_some_iff.1 (hat _ (by omega) _ (by omega) v hv)).1
  have e2:(m - 1) * A.sz = m * A.sz - A.sz:=by rw [Nat.sub_mul,Nat.one_mul]
  have e3:A.sz<=m * A.sz:=Nat.le_mul_of_pos_left _ (by omega)
  omega
 have key:∀ k,k<=len->∃ (Y:Ab W) (l:List SV) (L:List α),X.le Y/\L.length = k/\RL A (fun i=>i < Y.n) Y.m L l/\(∀ a∈L,V a)/\All2 (SV.rel Y.ρ) l ((arr.toList.drop ao).take (k * A.sz)):=by
  intro k
  induction k with
  | zero=>intro _;exact ⟨X,[],[],Ab.le.refl X,rfl,rfl,by simp,by simp [All2]⟩
  | succ k ih=>
   intro hk
   obtain ⟨Y,l,L,h1,h2,h3,h4,h5⟩:=ih (by omega)
   obtain ⟨cs',g1,g2⟩:=hel k (by omega)
   obtain ⟨_,g3,g4⟩:=World.cells?_some g1
   obtain ⟨Z,l',a',k1,k2,k3,k4⟩:=h enc W n cs' _ g2 Y
   refine ⟨Z,l ++ l',L ++ [a'],h1.trans k1,by simp [h2],RL.append (h3.frame k1.fr) (RL.one k3),?_,?_⟩
   ·intro b hb
    rcases List.mem_append.1 hb with hb | hb
    ·exact h4 b hb
    ·simp at hb;subst hb;exact k4
   ·have hcs:cs' = (arr.toList.drop (ao + k * A.sz)).take A.sz:=by
     apply List.ext_getElem?
     intro j
     by_cases hj:j < A.sz
     ·obtain ⟨v,hv⟩:=hcell k (by omega) j hj
      rw [<- g4 j hj,hv,List.getElem?_take_of_lt hj,List.getElem?_drop]
      have:=hat k (by omega) j hj v hv
      rw [Array.getElem?_toList];exact this.symm
     ·rw [List.getElem?_eq_none (by omega),List.getElem?_eq_none (by rw [List.length_take];omega)]
    rw [hcs] at k2
    have:=All2.append (h5.mono fun _ _=>SV.rel_ext k1.2.1) k2
    rwa [Nat.add_mul,Nat.one_mul,List.take_add,List.drop_drop]
 obtain ⟨Y,l,L,h1,h2,h3,h4,h5⟩:=key len (Nat.le_refl _)
 have hll:=h3.length
 have hmul:len * A.sz<=m * A.sz:=Nat.mul_le_mul_right _ hl
 let p:Pl:=⟨ab,ao,arr.size⟩
 have hY:Y.ρ Y.n = none:=Y.fresh _ (Nat.le_refl _)
 have hext:Ext Y.ρ (upR Y.ρ Y.n p):=upR_ext hY
 let Z:Ab W:=⟨Y.n + 1,Y.m.set Y.n l,upR Y.ρ Y.n p,fun i hi=>by unfold upR;rw [if_neg (by omega)];exact Y.fresh i (by omega),fun i l' hi=>by
  rw [Tr.get_set] at hi
  by_cases e:i = Y.n
  ·rw [if_pos e] at hi;cases hi;subst e
   refine ⟨by omega,p,by simp [upR],⟨arr,T,fz,hheap,rfl,?_,?_,fun q=>by cases q⟩⟩
   ·show ao + l.length<=arr.size;rw [hll,h2];omega
   ·show All2 _ l ((arr.toList.drop ao).take l.length)
    rw [hll,h2]
    exact h5.mono fun _ _=>SV.rel_ext hext
  ·rw [if_neg e] at hi
   obtain ⟨q1,q,q2,q3⟩:=Y.ok i l' hi
   exact ⟨by omega,q,by unfold upR;rw [if_neg e];exact q2,q3.ext hext⟩⟩
 have hle:Y.le Z:=⟨Nat.le_succ _,hext,fun i hi=>Tr.get_set_ne _ _ (by omega)⟩
 refine ⟨Z,[.sl Y.n 0 len len A.sz],L,h1.trans hle,⟨⟨p,m,by simp [Z,upR],Nat.le_refl _,hl,hm,?_,by simp [p]⟩,trivial⟩,⟨_,rfl,.inr ⟨Y.n,0,len,l,by rw [h2],by omega,Nat.lt_succ_self _,Tr.get_set_same _ _ _,by rw [hll];simp,?_⟩⟩,by rw [h2];omega,h4⟩
 ·show ao + 0 + m * A.sz<=arr.size;omega
 ·rw [List.drop_zero,<- hll,List.take_length]
  exact h3.frame hle.fr
theorem Rdr.arg {H:Type} {enc:TypeId × Value->H} {W:World} {v:Value} {d:DataW H} {ps:List MemPlace} (h:Rdr P t A V) (hv:v.cells = #[v]) (hd:DataW.Trod enc P W 0 (fun _=>true) true t v d ps) (X:Ab W):
 ∃ (Y:Ab W) (x:SV) (a:α),X.le Y/\AV.rel Y.ρ (.sc x) v/\A.R (fun i=>i < Y.n) Y.m a [x]/\V a:=by
 obtain ⟨fuel,hf⟩:=hd
 obtain ⟨Y,l,a,h1,h2,h3,h4⟩:=h enc W fuel _ _ hf X
 rw [hv] at h2
 match l,h2 with
 | [x],h2=>exact ⟨Y,x,a,h1,h2.1,h3,h4⟩
theorem arg_sized {P:Program} {t e:TypeId} {α:Type} {A:Lay α} {H:Type} {enc:TypeId × Value->H} {W:World} {z:Option Addr} {zl zc:Nat} {d:DataW H} {ps:List MemPlace} {ts:List TypeId} {ds:List (DataW H)} {j:Nat}
 (hs:(DataW.weightsEach P ts ds).all (·<=reachBytes) = true) (htj:ts[j]? = some t) (hdj:ds[j]? = some d) (ht:P.underlying t = some (.slice e)) (hd:DataW.Trod enc P W 0 (fun _=>true) true t (.slice z zl zc) d ps)
 {ρ:Rho} {w:SV} {zo zi:Nat->Prop} {m:Mem} {a:List α} (hr:AV.rel ρ (.sc w) (.slice z zl zc)) (hR:RO A zo zi m w a):a.length * P.bytesOf e<=140737488351232:=by
 rcases hR with ⟨_,rfl⟩ | ⟨i,o,c,cs,rfl,_⟩
 ·simp
 ·obtain ⟨p,cc,_,_,_,_,_,hv⟩:=hr
  injection hv with h1 h2 h3
  obtain ⟨fuel,hf⟩:=hd
  rcases Go.Deep.open_slice ht hf with ⟨e1,_⟩ | ⟨a',len,cap,m',n,D,Plc,e1,hb,hl,hm,hmm,e2,hel⟩
  ·have e1:Value.slice z zl zc = .slice none 0 0:=by simpa [Value.cells] using e1
   injection e1 with e1 _ _
   rw [h1] at e1;cases e1
  ·have e1:Value.slice z zl zc = .slice (some a') len cap:=by simpa [Value.cells] using e1
   injection e1 with _ e1 _
   have hdd:d = .slice ((List.range len).map D) ((List.range (m' - len)).map fun j=>D (len + j)):=congrArg Prod.fst e2
   rw [hdd] at hdj
   have:=sized_slice hs htj hdj ht
   simp only [List.length_map,List.length_range] at this
   have hlen:len = a.length:=by omega
   rw [hlen] at this
   have h5:a.length * P.bytesOf e<=(a.length + (m' - a.length)) * P.bytesOf e:=Nat.mul_le_mul_right _ (by omega)
   have:reachBytes = 140737488351232:=rfl
   omega
end
end Go.Am
namespace Go.Co
open Go.Am Go.Conc
def RdW {α:Type} (A:Lay α) (a:α) (v:Value) (fin:Nat->Prop) (w:World):Prop:=
 ∀ W':World,(∀ b,fin b->W'.heap[b]? = w.heap[b]?)->∀ X:Ab W',∃ (Y:Ab W') (x:SV),X.le Y/\SV.rel Y.ρ x v/\A.R (fun i=>i < Y.n) Y.m a [x]
theorem RdW.heap {α:Type} {A:Lay α} {a:α} {v:Value} {fin:Nat->Prop} {w w':World} (h:RdW A a v fin w) (e:∀ b,fin b->w'.heap[b]? = w.heap[b]?):RdW A a v fin w':=
 fun W' hW=>h W' fun b hb=>(hW b hb).trans (e b hb)
def Shut:SV->Prop
 | .str _ | .int _ _ | .bool _=>True
 | _=>False
theorem Shut.rel {x:SV} (hx:Shut x) {ρ ρ':Rho} {v:Value} (h:x.rel ρ v):x.rel ρ' v:=by
 cases x <;> first | exact h | exact hx.elim
theorem Ab.push {W:World} (X:Ab W) (p:Pl) (l:List SV) {arr:Array Value} {T:TypeId} {fz:Nat × Nat} (h1:W.heap[p.b]? = some (.cells arr T fz)) (h2:arr.size = p.cs) (h3:p.base + l.length<=p.cs)
 (h4:All2 (SV.rel X.ρ) l ((arr.toList.drop p.base).take l.length)):∃ Z:Ab W,X.le Z/\Z.n = X.n + 1/\Z.m.get X.n = some l/\Z.ρ X.n = some p:=by
 have hY:X.ρ X.n = none:=X.fresh _ (Nat.le_refl _)
 have hext:Ext X.ρ (upR X.ρ X.n p):=upR_ext hY
 refine ⟨⟨X.n + 1,X.m.set X.n l,upR X.ρ X.n p,fun i hi=>by unfold upR;rw [if_neg (by omega)];exact X.fresh i (by omega),fun i l' hi=>?_⟩,⟨Nat.le_succ _,hext,fun i hi=>Tr.get_set_ne _ _ (by omega)⟩,rfl,Tr.get_set_same _ _ _,by simp [upR]⟩
 rw [Tr.get_set] at hi
 by_cases e:i = X.n
 ·rw [if_pos e] at hi;cases hi;subst e
  exact ⟨by omega,p,by simp [upR],⟨arr,T,fz,h1,h2,h3,h4.mono fun _ _=>SV.rel_ext hext,fun q=>by cases q⟩⟩
 ·rw [if_neg e] at hi
  obtain ⟨q1,q,q2,q3⟩:=X.ok i l' hi
  exact ⟨by omega,q,by unfold upR;rw [if_neg e];exact q2,q3.ext hext⟩
theorem rl_flat {α:Type} {sz:Nat} {f:α->List SV} {hf:∀ a,(f a).length = sz} {z:Nat->Prop} {m:Mem}:∀ {L:List α} {cs:List SV},RL (Lay.flat sz f hf) z m L cs->cs = (L.map f).flatten
 | [],_,h=>h
 | _ :: _,_,⟨c,r,e,h1,h2⟩=>by rw [e,show c = _ from h1,rl_flat h2];rfl
theorem flat_rl {α:Type} {sz:Nat} {f:α->List SV} {hf:∀ a,(f a).length = sz} {z:Nat->Prop} {m:Mem}:∀ (L:List α),RL (Lay.flat sz f hf) z m L (L.map f).flatten
 | []=>rfl
 | a :: L=>⟨f a,_,rfl,rfl,flat_rl L⟩
theorem all2_mem {α β:Type} {R S:α->β->Prop}:∀ {l:List α} {r:List β},All2 R l r->(∀ x y,x∈l->R x y->S x y)->All2 S l r
 | [],[],_,_=>trivial
 | a :: l,b :: r,h,k=>⟨k a b (by simp) h.1,all2_mem h.2 fun x y hx=>k x y (by simp [hx])⟩
 | [],_ :: _,h,_=>h.elim
 | _ :: _,[],h,_=>h.elim
theorem rdW_of_ow {α:Type} {sz:Nat} {f:α->List SV} {hf:∀ a,(f a).length = sz} (hsh:∀ a,∀ x∈f a,Shut x) {RO:Nat->Prop} {ev:Bool} {B fl:Nat} {w0:World} {ρ:Rho} {S:Cx fl} {σ:GW} {id:Nat} {v:SV} {L:List α}
 (how:Ow (Lay.flat sz f hf) S id v L) (hm:MemO RO ev B fl w0 ρ S.m σ) {val:Value} (hv:SV.rel ρ v val) {fin:Nat->Prop} (hfin:∀ b,σ.own b\/RO b->fin b):RdW (Lay.sl (Lay.flat sz f hf)) L val fin σ.w:=by
 rcases how with ⟨rfl,rfl⟩ | ⟨b,c,cs,rfl,h1,h2,_,h4,h5,h6,h7⟩
 ·obtain rfl:val = _:=hv
  exact fun W' _ X=>⟨X,.nils,Ab.le.refl X,rfl,.nils,rfl,.inl ⟨.inl rfl,rfl⟩⟩
 ·have h6:cs.length = c * sz:=h6
  have h7:RL (Lay.flat sz f hf) S.fz S.m L (cs.take (L.length * sz)):=h7
  obtain ⟨p,cc,hp,k1,k2,k3,k4,rfl⟩:=hv
  have k4:p.base + 0 + cc * sz<=p.cs:=k4
  obtain ⟨p',hp',hat,_⟩:=hm.rel.mem b cs h5
  rw [hp] at hp';cases hp'
  obtain ⟨arr,T,fz,a1,a2,a3,a4,_⟩:=(AtP.cells hat (by omega)).at_
  have hf':fin p.b:=by
   refine hfin p.b ?_
   rcases hm.own b cs p h1 h5 hp with q | q
   ·exact .inl q
   ·exact .inr q.1
  have hle:L.length * sz<=cs.length:=by rw [h6];exact Nat.mul_le_mul_right _ h4
  have el:=rl_flat h7
  have hlen:(cs.take (L.length * sz)).length = L.length * sz:=by rw [List.length_take];omega
  intro W' hW X
  obtain ⟨Z,z1,z2,z3,z4⟩:=Ab.push X ⟨p.b,p.base,p.cs⟩ (cs.take (L.length * sz)) (arr:=arr) (T:=T) (fz:=fz) ((hW p.b hf').trans a1) a2 (by show p.base + _<=p.cs;rw [hlen];omega) (by
   rw [hlen]
   have a5:=All2.take (L.length * sz) a4
   rw [List.take_take,Nat.min_eq_left hle] at a5
   refine all2_mem a5 fun x y hx hr=>?_
   rw [el] at hx
   obtain ⟨l,hl,hxl⟩:=List.mem_flatten.1 hx
   obtain ⟨a,_,rfl⟩:=List.mem_map.1 hl
   exact (hsh a x hxl).rel hr)
  refine ⟨Z,.sl X.n 0 L.length L.length sz,z1,⟨⟨p.b,p.base,p.cs⟩,cc,z4,Nat.le_refl _,Nat.le_trans k1 k2,k3,by show p.base + 0 + cc * sz<=p.cs;omega,rfl⟩,_,rfl,.inr ⟨X.n,0,L.length,_,rfl,Nat.le_refl _,by rw [z2];omega,z3,by show 0 + L.length * sz<=_;omega,?_⟩⟩
  show RL (Lay.flat sz f hf) _ _ L (((cs.take (L.length * sz)).drop 0).take (L.length * sz))
  rw [List.drop_zero,List.take_take,Nat.min_self,el]
  exact flat_rl L
open Go.Am Go.Conc Go.RowKit
theorem prod_sz {α β:Type} (A:Lay α) (B:Lay β):(Lay.prod (Lay.sl A) (Lay.sl B)).sz = 2:=rfl
theorem out_read {α β:Type} {A:Lay α} {B:Lay β} {N:Nat} {w:World} {cs:Array Value} {T:TypeId} {fz:Nat × Nat} {b:Nat} (hb:w.heap[b]? = some (.cells cs T fz)) (hsz:cs.size = 2 * N) (a:Nat->List α) (bb:Nat->List β)
 (h:∀ k,k < N->∃ v1 v2 fin,cs[2 * k]? = some v1/\cs[2 * k + 1]? = some v2/\RdW (Lay.sl A) (a k) v1 fin w/\RdW (Lay.sl B) (bb k) v2 fin w) (hN:N<=maxLen) (X:Ab w):
 ∃ (Y:Ab w) (x:SV),X.le Y/\SV.rel Y.ρ x (.slice (some ⟨b,0,none⟩) N N)/\RO (Lay.prod (Lay.sl A) (Lay.sl B)) (fun i=>i < Y.n) (fun i=>i < Y.n) Y.m x ((List.range N).map fun k=>(a k,bb k)):=by
 have key:∀ k,k<=N->∃ (Y:Ab w) (l:List SV),X.le Y/\RL (Lay.prod (Lay.sl A) (Lay.sl B)) (fun i=>i < Y.n) Y.m ((List.range k).map fun k=>(a k,bb k)) l/\All2 (SV.rel Y.ρ) l (cs.toList.take (2 * k)):=by
  intro k
  induction k with
  | zero=>intro _;exact ⟨X,[],Ab.le.refl X,rfl,by simp [All2]⟩
  | succ k ih=>
   intro hk
   obtain ⟨Y,l,h1,h2,h3⟩:=ih (by omega)
   obtain ⟨v1,v2,fin,e1,e2,r1,r2⟩:=h k (by omega)
   obtain ⟨Y1,x1,y1,y2,y3⟩:=r1 w (fun _ _=>rfl) Y
   obtain ⟨Y2,x2,z1,z2,z3⟩:=r2 w (fun _ _=>rfl) Y1
   have hfr:=Ab.le.fr (y1.trans z1)
   refine ⟨Y2,l ++ [x1,x2],h1.trans (y1.trans z1),?_,?_⟩
   ·rw [List.range_succ,List.map_append]
    refine RL.append (h2.frame hfr) (RL.one ?_)
    exact ⟨[x1],[x2],rfl,(Lay.sl A).frame y3 (Ab.le.fr z1),z3⟩
   ·have e3:cs.toList.take (2 * (k + 1)) = cs.toList.take (2 * k) ++ [v1,v2]:=by
     rw [show 2 * (k + 1) = 2 * k + 1 + 1 by omega,List.take_add_one,List.take_add_one]
     simp only [Array.getElem?_toList,e1,e2,Option.toList_some,List.append_assoc,List.cons_append,List.nil_append]
    rw [e3]
    exact All2.append (h3.mono fun _ _=>SV.rel_ext (y1.trans z1).2.1) ⟨SV.rel_ext z1.2.1 y2,z2,trivial⟩
 obtain ⟨Y,l,h1,h2,h3⟩:=key N (Nat.le_refl _)
 have hl:l.length = N * 2:=by have:=h2.length;rw [prod_sz,List.length_map,List.length_range] at this;exact this
 obtain ⟨Z,z1,z2,z3,z4⟩:=Ab.push Y ⟨b,0,cs.size⟩ l hb rfl (by show 0 + _<=cs.size;omega) (by
  show All2 _ l ((cs.toList.drop 0).take l.length)
  rw [List.drop_zero,hl,Nat.mul_comm];exact h3)
 refine ⟨Z,.sl Y.n 0 N N 2,h1.trans z1,⟨⟨b,0,cs.size⟩,N,z4,Nat.le_refl _,Nat.le_refl _,hN,by show 0 + 0 + N * 2<=cs.size;omega,rfl⟩,.inr ⟨Y.n,0,N,l,by simp [prod_sz],by simp,by rw [z2];omega,z3,by simp [prod_sz];omega,?_⟩⟩
 simp only [prod_sz,List.length_map,List.length_range,List.drop_zero]
 rw [List.take_of_length_le (by omega)]
 exact h2.frame (Ab.le.fr z1)
theorem Ab.to {W w:World} (hb:Below W.heap.size W w) (X:Ab W):∃ Y:Ab w,Y.n = X.n/\Y.m = X.m/\Y.ρ = X.ρ:=
 ⟨⟨X.n,X.m,X.ρ,X.fresh,fun i l hi=>by
  obtain ⟨h1,p,h2,h3⟩:=X.ok i l hi
  obtain ⟨_,_,_,h4,_⟩:=h3.at_
  exact ⟨h1,p,h2,h3.world (hb.block _ (Array.getElem?_eq_some_iff.1 h4).1)⟩⟩,rfl,rfl,rfl⟩
theorem Ab.mem {W w:World} (hb:Below W.heap.size W w) (X:Ab w) {RO:Nat->Prop} {L:World->World->Prop} {own:Nat->Prop} (hro:∀ i l p,X.m.get i = some l->X.ρ i = some p->RO p.b):MemO RO true W.heap.size X.n W X.ρ X.m ⟨own,w⟩:=by
 refine ⟨⟨hb,Nat.le_refl _,fun i l hi=>?_,fun i j l l' p q hi _ gi=>?_⟩,fun i l p hi gi=>?_,fun i l p _ gi hp=>hro i l p gi hp,fun h=>by cases h⟩
 ·obtain ⟨h1,p,h2,h3⟩:=X.ok i l hi
  refine ⟨p,h2,.inl ?_,fun h=>by omega⟩
  rw [show decide (X.n<=i) = false from by simp;omega]
  exact h3
 ·have:=(X.ok i l gi).1;omega
 ·have:=(X.ok i l gi).1;omega
open Go.Am Go.Conc Go.RowKit
section
variable {P:Program} {main:Bool} {RO:Nat->Prop} {L:World->World->Prop} {ev:Bool} {D:List Deferred} {B fl0:Nat} {w0:World} {E:Env}
theorem drawn_soundO (hE:EnvOk P E) (hRO:∀ b,b < B->RO b) {fn:FuncId} {R:List Nat} {call:CallF} (hR:CallKeepR R call) (hcall:CallOkO P main RO L ev B fl0 w0 call) (hck:CallKeeps call) {callT:CallF} {lo:List Nat} {loose:Bool} {fl N:Nat} {lim:Option Nat} {ops:Array Oper} (htight:loose = true->CallTight callT/\∀ o,tgO lo o = true->∀ s,opW E call fl lim ops o s = opW E callT fl lim ops o s) (hcfT:CallFra callT) (hcf:CallFra call) (hfl:fl0<=fl) {Q:Exit->Act->GW->Prop}
 {tf:Tr AV} {mf:Mem} {kf:Nat} (hdraw:drawOk lo ops loose = true\/(drawOkD lo ops loose = true/\dynOk lo ops loose tf = true)\/(drawOkG lo ops = true/\loose = false/\∀ o∈ops.toList,stabR ops o = true->∀ i∈ldB tf o,i∈R)) (hdst:∀ o∈ops.toList,∀ d,o.dst = some d->d < N) (hco:∀ o∈ops.toList,coOp E o = true\/ev = false) (hplain:lim.isSome = true) (hkf:fl0<=kf):
 ∀ (fuel:Nat) (asg:List El) (listed:Array Bool) (t:Tr AV) (m:Mem) (k0 n0:Nat) (ρ:Rho) (a:Act) (σ:GW),asg.length<=fuel->listed.size = ops.size ->
  (∀ e∈asg,e.i < ops.size/\listed.getD e.i true = false/\ops[e.i]? = some e.o)->(∀ i,i < ops.size->listed.getD i true = false->∃ e∈asg,e.i = i)->asg.Pairwise (fun x y=>x.i < y.i) ->
  (∀ q,q < ops.size->listed.getD q true = true->∀ p,p < q->((Region.before ops).getD q 0).testBit p = true->listed.getD p true = true) ->
  Asc k0 asg kf->fl0<=k0->(∀ l,lim = some l->l<=k0)->(∀ e∈asg,∀ q,e.k<=q->q < e.k'->ρ q = none)->StO RO ev D B fl0 w0 N ρ ⟨t,m,n0⟩ a σ->runAsg E call fl lim ops asg t m = some (tf,mf) ->
  (∀ ρ' a' σ',Ext ρ ρ'->(∀ q,ρ' q≠none->ρ q≠none\/(k0<=q/\q < kf))->StO RO ev D B fl0 w0 N ρ' ⟨tf,mf,kf⟩ a' σ'->Q .normal a' σ') ->
  anyO P main (pact RO L ev) fn .any ops Q fuel listed a σ:=by
 have hpre:∀ (j:Nat) (o:Oper),ops[j]? = some o->(∀ e∈o.after.toList,Region.binds .any e = true->e.on < j)/\bitsOk (Region.before ops) j o = true /\
  (∀ (i:Nat) (p:Oper),ops[i]? = some p->i < j->((Region.before ops).getD j 0).testBit i = true\/pairOkL lo ops loose p o = true\/(pairDyn ops p i o j = true/\djT tf p o = true)\/(pairG ops p o = true/\∀ o∈ops.toList,stabR ops o = true->∀ i∈ldB tf o,i∈R)):=by
  intro j o ho
  have hm:(o,j)∈ops.toList.zipIdx:=by
   rw [List.mem_zipIdx_iff_getElem?];simpa using ho
  rcases hdraw with hdraw | ⟨hdraw,hdyn⟩ | ⟨hdraw,rfl,hrd⟩
  ·unfold drawOk at hdraw
   simp only [List.all_eq_true,Bool.and_eq_true,Prod.forall] at hdraw
   obtain ⟨⟨h1,h2⟩,h3⟩:=hdraw o j hm
   refine ⟨fun e he hb=>?_,h2,fun i p hp hi=>?_⟩
   ·have:=h1 e he
    simpa [hb] using this
   ·have:=h3 p i (by rw [List.mem_zipIdx_iff_getElem?];simpa using hp)
    simp only [hi,decide_true,Bool.not_true,Bool.false_or,Bool.or_eq_true] at this
    rcases this with h | h
    ·exact .inl h
    ·exact .inr (.inl h)
  ·unfold drawOkD at hdraw
   unfold dynOk at hdyn
   simp only [List.all_eq_true,Bool.and_eq_true,Prod.forall] at hdraw hdyn
   obtain ⟨⟨h1,h2⟩,h3⟩:=hdraw o j hm
   refine ⟨fun e he hb=>?_,h2,fun i p hp hi=>?_⟩
   ·have:=h1 e he
    simpa [hb] using this
   ·have hm2:(p,i)∈ops.toList.zipIdx:=by rw [List.mem_zipIdx_iff_getElem?];simpa using hp
    have g3:=h3 p i hm2
    have g4:=hdyn o j hm p i hm2
    simp only [hi,decide_true,Bool.not_true,Bool.false_or,Bool.or_eq_true] at g3 g4
    rcases g3 with (h | h) | h
    ·exact .inl h
    ·exact .inr (.inl h)
    ·rcases g4 with (g | g) | g
     ·exact .inl g
     ·exact .inr (.inl g)
     ·exact .inr (.inr (.inl ⟨h,g⟩))
  ·unfold drawOkG at hdraw
   simp only [List.all_eq_true,Bool.and_eq_true,Prod.forall] at hdraw
   obtain ⟨⟨h1,h2⟩,h3⟩:=hdraw o j hm
   refine ⟨fun e he hb=>?_,h2,fun i p hp hi=>?_⟩
   ·have:=h1 e he
    simpa [hb] using this
   ·have:=h3 p i (by rw [List.mem_zipIdx_iff_getElem?];simpa using hp)
    simp only [hi,decide_true,Bool.not_true,Bool.false_or,Bool.or_eq_true] at this
    rcases this with (h | h) | h
    ·exact .inl h
    ·exact .inr (.inl h)
    ·exact .inr (.inr (.inr ⟨h,hrd⟩))
 have hbits:∀ (listed:Array Bool) (i p:Nat) (o:Oper),ops[i]? = some o->listed.size = ops.size->(∀ e∈o.after.toList,Region.binds .any e = true->listed.getD e.on false = true) ->
  (∀ q,q < ops.size->listed.getD q true = true->∀ p,p < q->((Region.before ops).getD q 0).testBit p = true->listed.getD p true = true)->p < i->((Region.before ops).getD i 0).testBit p = true->listed.getD p true = true:=by
  intro listed i p o ho hsz hl hcl hp hb
  have h2:=(hpre i o ho).2.1
  unfold bitsOk at h2
  simp only [List.all_eq_true,List.mem_range] at h2
  have h3:=h2 p hp
  simp only [hb,Bool.not_true,Bool.false_or,List.any_eq_true,Bool.and_eq_true,Bool.or_eq_true,beq_iff_eq,decide_eq_true_eq] at h3
  obtain ⟨e,he,heb,h4⟩:=h3
  have hon:=hl e he heb
  have honlt:e.on < listed.size:=by
   rcases Nat.lt_or_ge e.on listed.size with h | h
   ·exact h
   ·rw [Array.getD_eq_getD_getElem?,Array.getElem?_eq_none h] at hon;simp at hon
  have hon':listed.getD e.on true = true:=by
   rw [Array.getD_eq_getD_getElem?,Array.getElem?_eq_getElem honlt] at hon ⊢
   simpa using hon
  rcases h4 with h4 | ⟨h4,h5⟩
  ·rw [<- h4];exact hon'
  ·exact hcl e.on (by omega) hon' p h4 h5
 intro fuel
 induction fuel with
 | zero=>
  intro asg listed t m k0 n0 ρ a σ hlen hsz hin hall hpw hcl hasc hk0 hlim hfresh hrel hrun hQ
  have:asg = []:=List.eq_nil_of_length_eq_zero (by omega)
  subst this
  simp only [runAsg,Option.some.injEq,Prod.mk.injEq] at hrun
  obtain ⟨rfl,rfl⟩:=hrun
  refine ⟨?_,hQ ρ a σ (Ext.refl _) (fun _ h=>.inl h) ⟨⟨hrel.st.mem,hrel.st.tmps,hrel.st.size,hrel.st.defers,hkf⟩,hrel.own,hrel.ro,hrel.all⟩⟩
  rw [List.eq_nil_iff_forall_not_mem]
  intro i hi
  obtain ⟨h1,h2,_⟩:=ready_iff.1 hi
  obtain ⟨e,he,_⟩:=hall i h1 h2
  simp at he
 | succ fuel ih=>
  intro asg listed t m k0 n0 ρ a σ hlen hsz hin hall hpw hcl hasc hk0 hlim hfresh hrel hrun hQ
  constructor
  ·intro hre
   cases asg with
   | nil=>
    simp only [runAsg,Option.some.injEq,Prod.mk.injEq] at hrun
    obtain ⟨rfl,rfl⟩:=hrun
    exact hQ ρ a σ (Ext.refl _) (fun _ h=>.inl h) ⟨⟨hrel.st.mem,hrel.st.tmps,hrel.st.size,hrel.st.defers,hkf⟩,hrel.own,hrel.ro,hrel.all⟩
   | cons e r=>
    exfalso
    obtain ⟨h1,h2,h3⟩:=hin e (by simp)
    have:e.i∈Region.ready .any ops listed:=by
     refine ready_iff.2 ⟨h1,h2,fun o ho ed hed hb=>?_⟩
     rw [h3] at ho;cases ho
     have hlt:=(hpre e.i e.o h3).1 ed hed hb
     by_cases hl:listed.getD ed.on true = true
     ·rw [Array.getD_eq_getD_getElem?,Array.getElem?_eq_getElem (by omega)] at hl ⊢
      simpa using hl
     ·exfalso
      obtain ⟨x,hx,hxi⟩:=hall ed.on (by omega) (by simpa using hl)
      rcases List.mem_cons.1 hx with rfl | hx
      ·omega
      ·have:=(List.pairwise_cons.1 hpw).1 x hx
       omega
    rw [hre] at this
    simp at this
  ·intro i hi
   obtain ⟨hi1,hi2,hi3⟩:=ready_iff.1 hi
   obtain ⟨e,he,rfl⟩:=hall i hi1 hi2
   obtain ⟨l1,l2,rfl⟩:=List.append_of_mem he
   obtain ⟨_,_,heo⟩:=hin e he
   have hpw':=List.pairwise_append.1 hpw
   obtain ⟨s1,s2,s3,s4⟩:=Asc.split hasc
   have hfront:=front hR hplain htight hcfT hcf l1 t m (fun x hx=>by
    have hxi:x.i < e.i:=hpw'.2.2 x hx e (by simp)
    obtain ⟨hx1,hx2,hx3⟩:=hin x (by simp [hx])
    refine ⟨?_,(s1 x hx).1,(s1 x hx).2,?_⟩
    ·rcases (hpre e.i e.o heo).2.2 x.i x.o hx3 hxi with h | h | ⟨h,hd⟩ | ⟨h,hd⟩
     ·have:=hbits listed e.i x.i e.o heo hsz (hi3 e.o heo) hcl hxi h
      rw [hx2] at this;cases this
     ·exact .inl h
     ·right;left
      unfold pairDyn stab at h
      simp only [Bool.and_eq_true,List.all_eq_true,Prod.forall,Option.isNone_iff_eq_none,Option.isSome_iff_ne_none] at h
      obtain ⟨⟨⟨⟨⟨⟨⟨p1,p2⟩,p3⟩,p4⟩,p5⟩,p6⟩,p7⟩,p8⟩:=h
      refine ⟨p1,p3,p4,p5,p6,hd,fun y hy hxy d hyd hmem=>?_,fun y hy d hyd hmem=>?_,p2,fun y hy hne d hxd hyd=>?_⟩
      ·have g:=p7 y.o y.i (by rw [List.mem_zipIdx_iff_getElem?];simpa using (hin y hy).2.2)
       rw [hyd] at g
       simp only [Bool.and_eq_true,Bool.or_eq_true,Bool.not_eq_true',List.contains_eq_mem,decide_eq_false_iff_not,decide_eq_true_eq] at g
       rcases g.1 with g | g
       ·exact g hmem
       ·omega
      ·have g:=p8 y.o y.i (by rw [List.mem_zipIdx_iff_getElem?];simpa using (hin y hy).2.2)
       rw [hyd] at g
       simp only [Bool.and_eq_true,Bool.or_eq_true,Bool.not_eq_true',List.contains_eq_mem,decide_eq_false_iff_not,decide_eq_true_eq] at g
       rcases g.1 with g | g
       ·exact g hmem
       ·have:=hbits listed e.i y.i e.o heo hsz (hi3 e.o heo) hcl g.1 g.2
        rw [(hin y hy).2.1] at this;cases this
      ·have g:=p7 y.o y.i (by rw [List.mem_zipIdx_iff_getElem?];simpa using (hin y hy).2.2)
       rw [hyd] at g
       simp only [Bool.and_eq_true,Bool.or_eq_true,beq_iff_eq,bne_iff_ne] at g
       rcases g.2 with g | g
       ·exact hne g
       ·exact g hxd
     ·right;right
      have hst:∀ o:Oper,stabR ops o = true->∀ y∈l1 ++ e :: l2,∀ d,y.o.dst = some d->d ∉ tmpsOf o:=by
       intro o ho y hy d hyd hmem
       unfold stabR at ho
       simp only [List.all_eq_true] at ho
       have g:=ho y.o (by have:=(hin y hy).2.2;simpa using Array.mem_of_getElem? this)
       rw [hyd] at g
       simp only [Bool.not_eq_true',List.contains_eq_mem,decide_eq_false_iff_not] at g
       exact g hmem
      unfold pairG at h
      simp only [Bool.and_eq_true,Bool.or_eq_true,beq_iff_eq] at h
      refine ⟨h.1,h.2.imp (fun h=>?_) fun h=>?_⟩
      ·exact ⟨h.1.1,h.1.2,hd _ (by simpa using Array.mem_of_getElem? heo) h.2,hst _ h.2⟩
      ·exact ⟨h.1.1,h.1.2,hd _ (by simpa using Array.mem_of_getElem? hx3) h.2,hst _ h.2⟩
    ·cases hl:lim with
     | none=>
      rw [hl] at hplain;cases hplain
     | some l=>
      left
      exact ⟨l,rfl,Nat.le_trans (hlim l hl) (Asc.mem _ _ hasc x (by simp [hx])).1⟩) hpw (fun q h1 h2=>by
    cases hq:m.get q with
    | none=>rfl
    | some l=>
     exfalso
     obtain ⟨p,hp,_⟩:=hrel.st.mem.mem q l hq
     rw [hfresh e he q h1 h2] at hp
     cases hp) hrun
   obtain ⟨v,m1,hw,hrest⟩:=runAsg_cons hfront
   have hek:k0<=e.k:=(Asc.mem _ _ hasc e he).1
   have hst:stepA E call fl lim ops e.o ⟨t,m,e.k⟩ = some ⟨putT t e.o.dst v,m1,e.k'⟩:=by
    rw [stepA_eq,hw];simp [put_eq]
   have hrel':StO RO ev D B fl0 w0 N ρ ⟨t,m,e.k⟩ a σ:=⟨⟨hrel.st.mem,hrel.st.tmps,hrel.st.size,hrel.st.defers,Nat.le_trans hk0 hek⟩,hrel.own,hrel.ro,hrel.all⟩
   refine step_soundO hE hRO hcall hfl hck hrel' heo (hco e.o (by simpa using Array.mem_of_getElem? heo)) (hdst e.o (by simpa using Array.mem_of_getElem? heo)) hst (fun q h1 h2=>hfresh e he q h1 h2) ?_
   intro ρ' a' σ' hext hdom hrel2
   refine ih (l1 ++ l2) (listed.setIfInBounds e.i true) _ m1 k0 e.k' ρ' a' σ' (by simp at hlen ⊢;omega) (by simpa using hsz) ?_ ?_ ?_ ?_ s4 hk0 hlim ?_ hrel2 hrest ?_
   ·intro x hx
    have hx':x∈l1 ++ e :: l2:=by
     rcases List.mem_append.1 hx with h | h <;> simp [h]
    obtain ⟨h1,h2,h3⟩:=hin x hx'
    refine ⟨h1,?_,h3⟩
    have hne:e.i≠x.i:=by
     rcases List.mem_append.1 hx with h | h
     ·have:=hpw'.2.2 x h e (by simp);omega
     ·have:=(List.pairwise_cons.1 hpw'.2.1).1 x h;omega
    rw [Array.getD_eq_getD_getElem?] at h2 ⊢
    rw [Array.getElem?_setIfInBounds,if_neg hne]
    exact h2
   ·intro j hj hl
    rw [Array.getD_eq_getD_getElem?,Array.getElem?_setIfInBounds] at hl
    by_cases hje:e.i = j
    ·rw [if_pos hje,if_pos (by omega)] at hl;simp at hl
    ·rw [if_neg hje] at hl
     obtain ⟨x,hx,hxi⟩:=hall j hj (by rw [Array.getD_eq_getD_getElem?];exact hl)
     refine ⟨x,?_,hxi⟩
     rcases List.mem_append.1 hx with h | h
     ·simp [h]
     ·rcases List.mem_cons.1 h with rfl | h
      ·exact (hje hxi).elim
      ·simp [h]
   ·refine List.pairwise_append.2 ⟨hpw'.1,(List.pairwise_cons.1 hpw'.2.1).2,fun x hx y hy=>hpw'.2.2 x hx y (by simp [hy])⟩
   ·have hget:∀ q,(listed.setIfInBounds e.i true).getD q true = true↔(q = e.i\/listed.getD q true = true):=by
     intro q
     rw [Array.getD_eq_getD_getElem?,Array.getD_eq_getD_getElem?,Array.getElem?_setIfInBounds]
     by_cases hq:e.i = q
     ·rw [if_pos hq]
      by_cases hs:e.i < listed.size
      ·rw [if_pos hs];simp [hq]
      ·rw [if_neg hs];simp [hq]
     ·rw [if_neg hq]
      constructor
      ·exact .inr
      ·rintro (h | h)
       ·exact (hq h.symm).elim
       ·exact h
    intro q hq hl p hp hb
    rw [hget] at hl ⊢
    right
    rcases hl with rfl | hl
    ·exact hbits listed e.i p e.o heo hsz (hi3 e.o heo) hcl hp hb
    ·exact hcl q hq hl p hp hb
   ·intro x hx q h1 h2
    have hx':x∈l1 ++ e :: l2:=by
     rcases List.mem_append.1 hx with h | h <;> simp [h]
    by_cases hn:ρ' q = none
    ·exact hn
    ·exfalso
     rcases hdom q hn with h | ⟨h3,h4⟩
     ·exact h (hfresh x hx' q h1 h2)
     ·simp only at h3 h4
      rcases List.mem_append.1 hx with h | h
      ·have:=(s1 x h).2;omega
      ·have:=s3 x h;omega
   ·intro ρ'' a'' σ'' hext2 hdom2 hrel3
    refine hQ ρ'' a'' σ'' (hext.trans hext2) (fun q hq=>?_) hrel3
    rcases hdom2 q hq with h | h
    ·rcases hdom q h with h | ⟨h3,h4⟩
     ·exact .inl h
     ·have:=(Asc.mem _ _ hasc e he).2.2
      simp only at h3 h4
      exact .inr ⟨by omega,by omega⟩
    ·exact .inr h
end
open Go.Am Go.Conc Go.RowKit
section
variable {P:Program} {main:Bool} {RO:Nat->Prop} {L:World->World->Prop} {ev:Bool} {D:List Deferred} {B fl0:Nat} {w0:World} {E:Env}
theorem ops_soundO (hE:EnvOk P E) (hL:∀ a b c,L a b->L b c->L a c) (hRO:∀ b,b < B->RO b) {fn:FuncId} {call:CallF} (hcall:CallOkO P main RO L ev B fl0 w0 call) (hck:CallKeeps call) {fl N:Nat} (hfl:fl0<=fl) {lim:Option Nat} {ops:Array Oper} {Q:Exit->Act->GW->Prop}:
 ∀ (os:List Oper) (j:Nat) (s s':St) (ρ:Rho) (a:Act) (σ:GW),(∀ q o,os[q]? = some o->ops[j + q]? = some o)->(∀ o∈os,∀ d,o.dst = some d->d < N)->(∀ o∈os,coOp E o = true\/ev = false)->opsA E call fl lim ops os s = some s' ->
  StO RO ev D B fl0 w0 N ρ s a σ->(∀ q,s.n<=q->q < s'.n->ρ q = none) ->
  (∀ ρ' a' σ',Ext ρ ρ'->(∀ q,ρ' q≠none->ρ q≠none\/(s.n<=q/\q < s'.n))->StO RO ev D B fl0 w0 N ρ' s' a' σ'->Q .normal a' σ')->opsO P main (pact RO L ev) fn ops (List.range' j os.length) Q a σ
 | [],j,s,s',ρ,a,σ,_,_,_,h,hrel,_,hQ=>by
  simp only [opsA,Option.some.injEq] at h
  subst h
  exact opsO_nil (pact_ok hL) (hQ ρ a σ (Ext.refl _) (fun _ h=>.inl h) hrel)
 | o :: os,j,s,s',ρ,a,σ,ho,hd,hco,h,hrel,hfresh,hQ=>by
  simp only [opsA] at h
  split at h
  ·rename_i s1 h1
   rw [List.length_cons,List.range'_succ]
   refine opsO_cons (pact_ok hL) ?_
   have k1:Keeps fl s.n s.m s1.m s1.n:=opsA_keeps (E:=E) (call:=call) (lim:=lim) (ops:=ops) hck [o] s s1 (by simp only [opsA,h1])
   have k2:=opsA_keeps hck os s1 s' h
   refine step_soundO hE hRO hcall hfl hck hrel (by simpa using ho 0 o rfl) (hco o (by simp)) (hd o (by simp)) h1 (fun q h1 h2=>hfresh q h1 (by have:=k2.1;omega)) ?_
   intro ρ' a' σ' hext hdom hrel'
   refine ops_soundO hE hL hRO hcall hck hfl os (j + 1) s1 s' ρ' a' σ' (fun q o' hq=>by have:=ho (q + 1) o' (by simpa using hq);rw [<- this];congr 1;omega) (fun o' ho'=>hd o' (by simp [ho'])) (fun o' ho'=>hco o' (by simp [ho'])) h hrel' ?_ ?_
   ·intro q h1 h2
    by_cases hn:ρ' q = none
    ·exact hn
    ·exfalso
     rcases hdom q hn with h | ⟨_,h4⟩
     ·exact h (hfresh q (by have:=k1.1;omega) h2)
     ·omega
   ·intro ρ'' a'' σ'' hext2 hdom2 hrel2
    refine hQ ρ'' a'' σ'' (hext.trans hext2) (fun q hq=>?_) hrel2
    rcases hdom2 q hq with h | h
    ·rcases hdom q h with h | h
     ·exact .inl h
     ·exact .inr ⟨h.1,by have:=k2.1;omega⟩
    ·exact .inr ⟨by have:=k1.1;omega,h.2⟩
  ·cases h
theorem callD_okO {call:CallF} (h:CallOkO P main RO L ev B fl0 w0 call) (loose:Nat->Bool):CallOkO P main RO L ev B fl0 w0 (callD call loose):=by
 intro fl f args m n v m' n' h1 h2 h3
 exact h _ f args m n v m' n' (by split <;> omega) h2 h3
theorem callR_okO {call:CallF} (hc:CallOkO P main RO L ev B fl0 w0 call) (lo:List Nat) (id:Nat) (ops:Array Oper) (t:Tr AV):CallOkO P main RO L ev B fl0 w0 (callR lo id ops t call):=by
 unfold callR
 split
 ·intro fl f args m n v m' n' h1 h2 h3
  exact callD_okO hc _ fl f args m n v m' n' h1 h2 (callG_some h3).1
 ·exact callD_okO hc _
theorem region_soundO (hE:EnvOk P E) (hL:∀ a b c,L a b->L b c->L a c) (hRO:∀ b,b < B->RO b) {fn:FuncId} {call:CallF} (hcall:CallOkO P main RO L ev B fl0 w0 call) (hck:CallKeeps call) (hcf:CallFra call) {fl N:Nat} (hfl:fl0<=fl) {lo:List Nat} {id:Nat} {ops:Array Oper} {draw:Bool}
 (hd:∀ o∈ops.toList,∀ d,o.dst = some d->d < N) (hco:∀ o∈ops.toList,coOp E o = true\/ev = false) {s s':St}
 (hok:draw = true->(gId lo id = false/\(drawOk lo ops (lo.contains id) = true\/(drawOkD lo ops (lo.contains id) = true/\dynOk lo ops (lo.contains id) s'.t = true)))\/(gId lo id = true/\drawOkG lo ops = true/\lo.contains id = false))
 (h:(if draw then opsA E (callR lo id ops s.t call) fl (some s.n) ops ops.toList s else opsA E call fl none ops ops.toList s) = some s') {Q:Exit->Act->GW->Prop} {ρ:Rho} {a:Act} {σ:GW}
 (hrel:StO RO ev D B fl0 w0 N ρ s a σ) (hfresh:∀ q,s.n<=q->q < s'.n->ρ q = none)
 (hQ:∀ ρ' a' σ',Ext ρ ρ'->(∀ q,ρ' q≠none->ρ q≠none\/(s.n<=q/\q < s'.n))->StO RO ev D B fl0 w0 N ρ' s' a' σ'->Q .normal a' σ'):wpO P main (pact RO L ev) fn (.region id ops draw) Q a σ:=by
 cases draw with
 | false=>
  simp only [Bool.false_eq_true,if_false] at h
  refine wpO_region (pact_ok hL) ?_
  have:=ops_soundO hE hL hRO (fn:=fn) hcall hck hfl (Q:=Q) ops.toList 0 s s' ρ a σ (fun q o hq=>by simpa using hq) hd hco h hrel hfresh hQ
  rw [Array.length_toList,<- List.range_eq_range'] at this
  exact this
 | true=>
  simp only [if_true] at h
  have hck':=callR_keeps hck lo id ops s.t
  obtain ⟨asg,a1,a2,a3,a4⟩:=asg_of_opsA hck' ops.toList 0 s s' (fun q o hq=>by simpa using hq) h
  refine wpO_any (pact_ok hL) hE.mixed fun w₁ hr=>?_
  have hrel:=hrel.rely hRO hr
  clear hr
  have hrel':StO RO ev D B fl0 w0 N ρ ⟨s.t,s.m,s.n⟩ a ⟨σ.own,{ w₁ with drawn:=w₁.drawn + 1 }⟩:=⟨⟨hrel.st.mem.drewn _,hrel.st.tmps,hrel.st.size,hrel.st.defers,hrel.st.low⟩,hrel.own,hrel.ro,hrel.all⟩
  have hk:=(opsA_keeps hck' ops.toList s s' h).1
  have hlen:asg.length = ops.size:=by
   have:=congrArg List.length a2
   simpa using this
  have hidx:∀ e∈asg,e.i < ops.size:=by
   intro e he
   have:e.i∈asg.map (·.i):=List.mem_map_of_mem he
   rw [a2] at this
   simpa using this
  have hun:∀ i,i < ops.size->(Array.replicate ops.size false).getD i true = false:=by
   intro i hi
   rw [Array.getD_eq_getD_getElem?,Array.getElem?_eq_getElem (by simpa using hi)]
   simp
  have hR:∃ R,CallKeepR R (callR lo id ops s.t call)/\(lo.contains id = true->CallTight (callD call fun _=>true)/\∀ o,tgO lo o = true->∀ s2,opW E (callR lo id ops s.t call) fl (some s.n) ops o s2 = opW E (callD call fun _=>true) fl (some s.n) ops o s2) /\
   (drawOk lo ops (lo.contains id) = true\/(drawOkD lo ops (lo.contains id) = true/\dynOk lo ops (lo.contains id) s'.t = true)\/(drawOkG lo ops = true/\lo.contains id = false/\∀ o∈ops.toList,stabR ops o = true->∀ i∈ldB s'.t o,i∈R)):=by
   rcases hok rfl with ⟨hg,hd⟩ | ⟨hg,hd,hl⟩
   ·refine ⟨[],fun _ _ _ _ _ _ _ _ _ i hi=>by simp at hi,fun hl=>⟨callD_tight hck,fun o ho s2=>?_⟩,hd.elim .inl fun h=>.inr (.inl h)⟩
    have:callR lo id ops s.t call = callD call (tgt lo id):=by unfold callR;rw [hg];rfl
    rw [this]
    exact callD_eq hl ho s2
   ·refine ⟨rdB s.t ops,fun fl f args m n v m' n' hc i hi=>?_,fun h=>(by rw [hl] at h;cases h),.inr (.inr ⟨hd,hl,fun o ho hst i hi=>?_⟩)⟩
    ·unfold callR at hc
     rw [hg] at hc
     exact (callG_some hc).2 i hi
    ·have:ldB s'.t o = ldB s.t o:=ldB_congr fun d hd=>runAsg_tmp asg s.t s.m (fun e he q=>by
      unfold stabR at hst
      simp only [List.all_eq_true] at hst
      have g:=hst e.o (a3 e he).2
      rw [q] at g
      simp only [Bool.not_eq_true',List.contains_eq_mem,decide_eq_false_iff_not] at g
      exact g hd) a1
     rw [this] at hi
     exact List.mem_flatMap.2 ⟨o,ho,hi⟩
  obtain ⟨R,hR,htight,hdr⟩:=hR
  refine drawn_soundO hE hRO hR (callR_okO hcall lo id ops s.t) hck' (callT:=callD call fun _=>true) htight (callD_fra hcf _) (callR_fra hcf _ _ _ _) hfl hdr hd hco ?_ (Nat.le_trans hrel.st.low hk) ops.size asg _ s.t s.m s.n s.n ρ a _ (by omega) (by simp) ?_ ?_ ?_ ?_ a4 hrel.st.low ?_ ?_ hrel' a1 hQ
  ·rfl
  ·intro e he
   exact ⟨hidx e he,hun _ (hidx e he),(a3 e he).1⟩
  ·intro i hi _
   have:i∈asg.map (·.i):=by rw [a2];simp [hi]
   obtain ⟨e,he,rfl⟩:=List.mem_map.1 this
   exact ⟨e,he,rfl⟩
  ·rw [<- List.pairwise_map,a2]
   exact List.pairwise_lt_range'
  ·intro q hq hl
   rw [hun q hq] at hl;cases hl
  ·intro l hl
   simp at hl;omega
  ·intro e he q h1 h2
   obtain ⟨b1,b2,b3⟩:=Asc.mem _ _ a4 e he
   exact hfresh q (by omega) (by omega)
theorem np_results {M:Nat} (fn:Func) (tmps:Array Value):NP P M (results fn tmps):=by
 unfold results
 refine NP.bind (np_amapM (fun r=>?_) _) fun _=>trivial
 cases r with
 | tmp t=>exact trivial
 | cell q t=>exact NP.bind (np_asAddr _) fun _=>np_loadVar _ _
theorem results_relO (hE:EnvOk P E) {N:Nat} {ρ:Rho} {s:St} {a:Act} {σ:GW} (hrel:StO RO ev D B fl0 w0 N ρ s a σ) {fn:Func} {vs:List AV} {v:AV} (h:resultsA E s fn.results.toList = some vs) (hv:tupA vs = some v):
 ∃ val,(results fn a.tmps).run P σ.w = .ok val σ.w/\v.rel ρ val/\∀ e∈(results fn a.tmps).events P σ.w #[],EvO σ.own RO e:=by
 obtain ⟨val,h1,h2⟩:=results_rel hE hrel.st h hv
 have hst:StRel D B fl0 { veil (ownV ρ s.m σ) (roV RO ρ s.m) σ.w with heap:=(veil (ownV ρ s.m σ) (roV RO ρ s.m) σ.w).heap.extract 0 B } N ρ s a (veil (ownV ρ s.m σ) (roV RO ρ s.m) σ.w):=
  ⟨veil_rel hrel.mem,hrel.st.tmps,hrel.st.size,hrel.st.defers,hrel.st.low⟩
 obtain ⟨val',h3,_⟩:=results_rel hE hst h hv
 obtain ⟨w3,u,k1,_,k3,_⟩:=coincide (N:=σ.w.heap.size) (fun b hb=>.inr hb) (np_results fn a.tmps) #[] (veil_ok (RO:=RO) hrel.st.mem) (Nat.le_refl _) h3
 rw [Sem.runT_eq] at k1
 simp only [Prod.mk.injEq] at k1
 obtain ⟨k1,k2⟩:=k1
 rw [h1] at k1
 simp only [Result.ok.injEq] at k1
 obtain ⟨rfl,rfl⟩:=k1
 refine ⟨val,h1,h2,fun e he=>?_⟩
 rw [k2] at he
 refine (k3 e (by simpa using he)).mono (fun b hb=>?_) (fun b hb=>hb.1)
 rcases hb with ⟨q | q,hlt⟩
 ·exact q.1
 ·omega
def coCode (E:Env):Code->Bool
 | .region _ ops _=>ops.toList.all (coOp E)
 | .seq a b=>coCode E a && coCode E b
 | .cond _ a b=>coCode E a && coCode E b
 | .block _ b=>coCode E b
 | .loop b=>coCode E b
 | _=>true
def PostO (RO:Nat->Prop) (ev:Bool) (D:List Deferred) (B fl0:Nat) (w0:World) (N:Nat) (ρ:Rho) (n:Nat) (e:AE) (s':St):Exit->Act->GW->Prop:=
 fun ex a' σ'=>ex = e.toExit/\∃ ρ',Ext ρ ρ'/\(∀ q,ρ' q≠none->ρ q≠none\/(n<=q/\q < s'.n))/\StO RO ev D B fl0 w0 N ρ' s' a' σ'
def RunOkO (P:Program) (main:Bool) (RO:Nat->Prop) (L:World->World->Prop) (ev:Bool) (B fl0:Nat) (w0:World) (E:Env) (k:Nat):Prop:=
 (∀ lo fl c s e s',run E k lo fl c s = some (e,s')->Keeps fl s.n s.m s'.m s'.n) /\
 (∀ (D:List Deferred) N lo fl c s e s',run E k lo fl c s = some (e,s')->codeOk lo c = true->dstOk N c = true->(coCode E c = true\/ev = false)->fl0<=fl->∀ fn ρ a σ,StO RO ev D B fl0 w0 N ρ s a σ->(∀ q,s.n<=q->q < s'.n->ρ q = none) ->
   wpO P main (pact RO L ev) fn c (PostO RO ev D B fl0 w0 N ρ s.n e s') a σ) /\
 (∀ (D:List Deferred) N lo fl c s e s',run E k lo fl (.loop c) s = some (e,s')->codeOk lo c = true->dstOk N c = true->(coCode E c = true\/ev = false)->fl0<=fl->∀ fn ρ a σ,StO RO ev D B fl0 w0 N ρ s a σ->(∀ q,s.n<=q->q < s'.n->ρ q = none) ->
   roundsO P main (pact RO L ev) fn c (PostO RO ev D B fl0 w0 N ρ s.n e s') k a σ)
theorem callF_keepsO {k:Nat} (h:RunOkO P main RO L ev B fl0 w0 E k):CallKeeps (callF E k):=by
 intro fl f args m n v m' n' hc
 rcases ite_of hc with ⟨_,hc⟩ | ⟨_,hc⟩
 ·exact E.ext.keeps _ _ _ _ _ _ _ _ hc
 unfold callB at hc
 split at hc
 ·cases hc
 ·split at hc
  ·rename_i e s hr
   split at hc
   ·split at hc
    ·obtain ⟨u,_,hh⟩:=Option.map_eq_some_iff.1 hc
     simp only [Prod.mk.injEq] at hh;obtain ⟨_,rfl,rfl⟩:=hh
     exact h.1 _ _ _ _ _ _ hr
    ·cases hc
   ·cases hc
  ·cases hc
theorem callF_okO (hE:EnvOk P E) (hL:∀ a b c,L a b->L b c->L a c) (hRO:∀ b,b < B->RO b) (hF:∀ f fi,E.fn f = some fi->FnOk P f fi) (hX:∀ f,E.ext.is f = false) (hC:∀ f fi,E.fn f = some fi->coCode E fi.body = true\/ev = false) {k:Nat} (h:RunOkO P main RO L ev B fl0 w0 E k):CallOkO P main RO L ev B fl0 w0 (callF E k):=by
 intro fl f args m n v m' n' hfl hn hc ρ σ vals hm ha hfresh
 rcases ite_of hc with ⟨hx,_⟩ | ⟨_,hc⟩
 ·rw [hX] at hx;cases hx
 unfold callB at hc
 split at hc
 ·cases hc
 ·rename_i fi hfi
  obtain ⟨fn,hfn,hb,hnt,hres,hname,hco,hdo⟩:=(hF f fi hfi).h
  refine ⟨⟨fn,hfn,hname,by rw [hb];rfl⟩,?_⟩
  split at hc
  ·rename_i e s hr
   split at hc
   ·rename_i he
    split at hc
    ·rename_i vs hvs
     obtain ⟨u,hu,hh⟩:=Option.map_eq_some_iff.1 hc
     simp only [Prod.mk.injEq] at hh;obtain ⟨rfl,rfl,rfl⟩:=hh
     refine ⟨fn,_,hfn,hname,hb,?_⟩
     have hrel:StO RO ev [] B fl0 w0 fi.ntmps ρ ⟨Tr.ofList 0 args .nil,m,n⟩ { tmps:=vals ++ Array.replicate (fn.ntmps - vals.size) undef,defers:=[] } σ:=by
      refine ⟨⟨hm.rel,fun d=>?_,by simp;omega,rfl,hn⟩,hm.own,hm.ro,hm.all⟩
      simp only [Tr.get_ofList,Tr.get_nil]
      have hlen:=ha.length
      rw [Array.getD_eq_getD_getElem?,Array.getElem?_append]
      by_cases hd:d < vals.size
      ·have hd':d < args.length:=by simp at hlen;omega
       rw [if_pos hd,if_pos (by omega)]
       simp only [Nat.sub_zero]
       obtain ⟨y,hy,hr⟩:=ha.get d _ (List.getElem?_eq_getElem hd')
       have:vals[d]? = some y:=by simpa using hy
       rw [this,List.getElem?_eq_getElem hd']
       exact hr
      ·rw [if_neg hd,if_neg (by simp at hlen;omega)]
       have:((Array.replicate (fn.ntmps - vals.size) undef)[d - vals.size]?).getD undef = undef:=by
        rw [Array.getElem?_replicate];split <;> rfl
       rw [this]
       trivial
     refine wpO_mono (h.2.1 [] fi.ntmps fi.loose fl fi.body _ e s hr hco hdo (hC f fi hfi) hfl f ρ _ σ hrel hfresh) ?_
     rintro ex a' σ' ⟨rfl,ρ',hext,hdom,hrel'⟩
     rw [<- hres] at hvs
     have hgoal:bodyO P (pact RO L ev) f fn (fun val σ'=>∃ ρ',Ext ρ ρ'/\(∀ i,ρ' i≠none->ρ i≠none\/(n<=i/\i < s.n))/\MemO RO ev B fl0 w0 ρ' s.m σ'/\u.rel ρ' val) .ret a' σ':=by
      refine ⟨hrel'.st.defers,fun w₁ hr₁=>?_⟩
      have hrel1:=hrel'.rely hRO hr₁
      obtain ⟨val,hv1,hv2,hv3⟩:=results_relO hE hrel1 hvs hu
      refine ⟨val,hv1,?_,ρ',hext,hdom,hrel1.mem,hv2⟩
      obtain ⟨q1,q2,q3,q4,q5,q6,_⟩:=pact_idle (RO:=RO) (L:=L) (ev:=ev) ⟨σ'.own,w₁⟩
      exact ⟨q1,q2,q3,q4,q5,q6,fun _ e he=>hv3 e (mem_seen he)⟩
     rcases he with rfl | rfl
     ·exact hgoal
     ·exact hgoal
    ·cases hc
   ·cases hc
  ·cases hc
theorem runOkO (hE:EnvOk P E) (hL:∀ a b c,L a b->L b c->L a c) (hRO:∀ b,b < B->RO b) (hF:∀ f fi,E.fn f = some fi->FnOk P f fi) (hX:∀ f,E.ext.is f = false) (hC:∀ f fi,E.fn f = some fi->coCode E fi.body = true\/ev = false):∀ k,RunOkO P main RO L ev B fl0 w0 E k:=by
 intro k
 induction k with
 | zero=>exact ⟨fun _ _ _ _ _ _ h=>by simp [run] at h,fun _ _ _ _ _ _ _ _ h=>by simp [run] at h,fun _ _ _ _ _ _ _ _ h=>by simp [run] at h⟩
 | succ k ih=>
  have T:=pact_ok (RO:=RO) (ev:=ev) hL
  have hck:=callF_keepsO ih
  have hco:=callF_okO hE hL hRO hF hX hC ih
  have hreg:∀ lo fl id ops draw s,run E (k + 1) lo fl (.region id ops draw) s = (if draw then (opsA E (callR lo id ops s.t (callF E k)) fl (some s.n) ops ops.toList s).bind (chkD lo id ops) else opsA E (callF E k) fl none ops ops.toList s).map fun s'=>(.normal,s'):=by
   intro lo fl id ops draw s
   cases draw <;> rfl
  have loops:∀ (D:List Deferred) N lo fl b s e s',run E (k + 1) lo fl (.loop b) s = some (e,s')->codeOk lo b = true->dstOk N b = true->(coCode E b = true\/ev = false)->fl0<=fl->∀ fn ρ a σ,StO RO ev D B fl0 w0 N ρ s a σ->(∀ q,s.n<=q->q < s'.n->ρ q = none) ->
   roundsO P main (pact RO L ev) fn b (PostO RO ev D B fl0 w0 N ρ s.n e s') (k + 1) a σ:=by
   intro D N lo fl b s e s' h hcode hdst hcc hfl fn ρ a σ hrel hfresh
   simp only [run] at h
   show wpO P main (pact RO L ev) fn b _ a σ
   split at h
   ·rename_i s1 h1
    have k1:=ih.1 _ _ _ _ _ _ h1
    have k2:=ih.1 _ _ _ _ _ _ h
    refine wpO_mono (ih.2.1 D N lo fl b s .normal s1 h1 hcode hdst hcc hfl fn ρ a σ hrel (fun q h2 h3=>hfresh q h2 (by have:=k2.1;omega))) ?_
    rintro ex a1 w1 ⟨rfl,ρ1,hext,hdom,hrel1⟩
    show roundsO P main (pact RO L ev) fn b _ k a1 w1
    refine roundsO_mono ?_ k a1 w1 (ih.2.2 D N lo fl b s1 e s' h hcode hdst hcc hfl fn ρ1 a1 w1 hrel1 (fresh_after hfresh hdom k1.1))
    rintro ex a2 w2 ⟨rfl,ρ2,hext2,hdom2,hrel2⟩
    exact ⟨rfl,ρ2,hext.trans hext2,dom_after hdom hdom2 k1.1 k2.1,hrel2⟩
   ·rename_i hno
    refine wpO_mono (ih.2.1 D N lo fl b s e s' h hcode hdst hcc hfl fn ρ a σ hrel hfresh) ?_
    rintro ex a1 w1 ⟨rfl,hrest⟩
    cases e with
    | normal=>exact (hno s' h).elim
    | exit id=>exact ⟨rfl,hrest⟩
    | ret=>exact ⟨rfl,hrest⟩
  refine ⟨?_,?_,loops⟩
  ·intro lo fl c s e s' h
   cases c with
   | skip=>simp only [run,Option.some.injEq,Prod.mk.injEq] at h;obtain ⟨_,rfl⟩:=h;exact Keeps.refl _ _ _
   | label l=>simp only [run,Option.some.injEq,Prod.mk.injEq] at h;obtain ⟨_,rfl⟩:=h;exact Keeps.refl _ _ _
   | exit l=>simp only [run,Option.some.injEq,Prod.mk.injEq] at h;obtain ⟨_,rfl⟩:=h;exact Keeps.refl _ _ _
   | ret=>simp only [run,Option.some.injEq,Prod.mk.injEq] at h;obtain ⟨_,rfl⟩:=h;exact Keeps.refl _ _ _
   | region id ops draw=>
    rw [hreg] at h
    obtain ⟨s1,h1,hh⟩:=Option.map_eq_some_iff.1 h
    simp only [Prod.mk.injEq] at hh;obtain ⟨_,rfl⟩:=hh
    cases draw with
    | false=>exact opsA_keeps hck _ _ _ h1
    | true=>exact opsA_keeps (callR_keeps hck _ _ _ _) _ _ _ (chkD_some h1).1
   | seq x y=>
    simp only [run] at h
    split at h
    ·rename_i s1 h1
     exact (ih.1 _ _ _ _ _ _ h1).trans (ih.1 _ _ _ _ _ _ h)
    ·exact ih.1 _ _ _ _ _ _ h
   | cond q x y=>
    simp only [run] at h
    split at h
    ·exact ih.1 _ _ _ _ _ _ h
    ·cases h
   | block id b=>
    simp only [run] at h
    split at h
    ·rename_i id' s1 h1
     have:=ih.1 _ _ _ _ _ _ h1
     split at h <;> (simp only [Option.some.injEq,Prod.mk.injEq] at h;obtain ⟨_,rfl⟩:=h;exact this)
    ·exact ih.1 _ _ _ _ _ _ h
   | loop b=>
    simp only [run] at h
    split at h
    ·rename_i s1 h1
     exact (ih.1 _ _ _ _ _ _ h1).trans (ih.1 _ _ _ _ _ _ h)
    ·exact ih.1 _ _ _ _ _ _ h
   | _=>simp [run] at h
  ·intro D N lo fl c s e s' h hcode hdst hcc hfl fn ρ a σ hrel hfresh
   have one:∀ ex,some (ex,s) = some (e,s')->ex.toExit = e.toExit/\∃ ρ',Ext ρ ρ'/\(∀ q,ρ' q≠none->ρ q≠none\/(s.n<=q/\q < s'.n))/\StO RO ev D B fl0 w0 N ρ' s' a σ:=by
    intro ex hx
    simp only [Option.some.injEq,Prod.mk.injEq] at hx
    obtain ⟨rfl,rfl⟩:=hx
    exact ⟨rfl,ρ,Ext.refl _,fun _ h=>.inl h,hrel⟩
   cases c with
   | skip=>exact wpO_skip T (one .normal h)
   | label l=>exact wpO_label T (one .normal h)
   | exit l=>exact wpO_exit T (one (.exit l) h)
   | ret=>exact wpO_ret T (one .ret h)
   | region id ops draw=>
    rw [hreg] at h
    obtain ⟨s1,h1,hh⟩:=Option.map_eq_some_iff.1 h
    simp only [Prod.mk.injEq] at hh;obtain ⟨rfl,rfl⟩:=hh
    simp only [codeOk,Bool.or_eq_true,Bool.not_eq_true'] at hcode
    simp only [dstOk,List.all_eq_true] at hdst
    refine region_soundO hE hL hRO hco hck (callF_fra k) hfl (lo:=lo) (s':=s1) (fun o ho d hd=>by have:=hdst o ho;rw [hd] at this;simpa using this) (fun o ho=>hcc.imp (fun q=>by simp only [coCode,List.all_eq_true] at q;exact q o ho) fun q=>q) (fun hd=>?_) (by
     cases draw with
     | false=>simpa using h1
     | true=>simpa using (chkD_some h1).1) hrel hfresh ?_
    ·subst hd
     simp only [Bool.true_eq_false,false_or] at hcode
     cases hg:gId lo id with
     | true=>
      rw [hg] at hcode
      simp only [if_true,Bool.and_eq_true,Bool.not_eq_true'] at hcode
      exact .inr ⟨rfl,hcode.1.1,hcode.2⟩
     | false=>
      rw [hg] at hcode
      simp only [Bool.false_eq_true,if_false] at hcode
      cases hdy:dynId lo id with
      | false=>rw [hdy] at hcode;exact .inl ⟨rfl,.inl (by simpa using hcode)⟩
      | true=>rw [hdy] at hcode;exact .inl ⟨rfl,.inr ⟨by simpa using hcode,(chkD_some h1).2.1 hdy⟩⟩
    intro ρ' a' w' hext hdom hrel'
    exact ⟨rfl,ρ',hext,hdom,hrel'⟩
   | seq x y=>
    simp only [codeOk,Bool.and_eq_true] at hcode
    simp only [dstOk,Bool.and_eq_true] at hdst
    simp only [run] at h
    refine wpO_seq T ?_
    have hcc':(coCode E x = true\/ev = false)/\(coCode E y = true\/ev = false):=by simp only [coCode,Bool.and_eq_true] at hcc;exact ⟨hcc.imp (·.1) id,hcc.imp (·.2) id⟩
    split at h
    ·rename_i s1 h1
     have k1:=ih.1 _ _ _ _ _ _ h1
     have k2:=ih.1 _ _ _ _ _ _ h
     refine wpO_mono (ih.2.1 D N lo fl x s .normal s1 h1 hcode.1 hdst.1 hcc'.1 hfl fn ρ a σ hrel (fun q h2 h3=>hfresh q h2 (by have:=k2.1;omega))) ?_
     rintro ex a1 w1 ⟨rfl,ρ1,hext,hdom,hrel1⟩
     show wpO P main (pact RO L ev) fn y _ a1 w1
     refine wpO_mono (ih.2.1 D N lo fl y s1 e s' h hcode.2 hdst.2 hcc'.2 hfl fn ρ1 a1 w1 hrel1 (fresh_after hfresh hdom k1.1)) ?_
     rintro ex a2 w2 ⟨rfl,ρ2,hext2,hdom2,hrel2⟩
     exact ⟨rfl,ρ2,hext.trans hext2,dom_after hdom hdom2 k1.1 k2.1,hrel2⟩
    ·rename_i hno
     refine wpO_mono (ih.2.1 D N lo fl x s e s' h hcode.1 hdst.1 hcc'.1 hfl fn ρ a σ hrel hfresh) ?_
     rintro ex a1 w1 ⟨rfl,hrest⟩
     cases e with
     | normal=>exact (hno s' h).elim
     | exit id=>exact ⟨rfl,hrest⟩
     | ret=>exact ⟨rfl,hrest⟩
   | cond q x y=>
    simp only [codeOk,Bool.and_eq_true] at hcode
    simp only [dstOk,Bool.and_eq_true] at hdst
    simp only [run] at h
    split at h
    ·rename_i t ht
     have hq:=hrel.st.ev q
     rw [ht] at hq
     have hq:a.eval q = .bool t:=hq
     refine wpO_cond T hq ?_
     have hcc':(coCode E x = true\/ev = false)/\(coCode E y = true\/ev = false):=by simp only [coCode,Bool.and_eq_true] at hcc;exact ⟨hcc.imp (·.1) id,hcc.imp (·.2) id⟩
     cases t with
     | true=>exact ih.2.1 D N lo fl x s e s' h hcode.1 hdst.1 hcc'.1 hfl fn ρ a σ hrel hfresh
     | false=>exact ih.2.1 D N lo fl y s e s' h hcode.2 hdst.2 hcc'.2 hfl fn ρ a σ hrel hfresh
    ·cases h
   | block id b=>
    simp only [codeOk] at hcode
    simp only [dstOk] at hdst
    simp only [run] at h
    refine wpO_block T ?_
    split at h
    ·rename_i id' s1 h1
     have hs1:s1 = s':=by split at h <;> (simp only [Option.some.injEq,Prod.mk.injEq] at h;exact h.2)
     subst hs1
     refine wpO_mono (ih.2.1 D N lo fl b s (.exit id') s1 h1 hcode hdst hcc hfl fn ρ a σ hrel hfresh) ?_
     rintro ex a1 w1 ⟨rfl,hrest⟩
     simp only [AE.toExit,blockO]
     split at h
     ·rename_i he
      simp only [Option.some.injEq,Prod.mk.injEq] at h
      obtain ⟨rfl,_⟩:=h
      rw [if_pos he]
      exact ⟨rfl,hrest⟩
     ·rename_i he
      simp only [Option.some.injEq,Prod.mk.injEq] at h
      obtain ⟨rfl,_⟩:=h
      rw [if_neg he]
      exact ⟨rfl,hrest⟩
    ·rename_i hno
     refine wpO_mono (ih.2.1 D N lo fl b s e s' h hcode hdst hcc hfl fn ρ a σ hrel hfresh) ?_
     rintro ex a1 w1 ⟨rfl,hrest⟩
     cases e with
     | normal=>exact ⟨rfl,hrest⟩
     | exit id'=>exact (hno id' s' h).elim
     | ret=>exact ⟨rfl,hrest⟩
   | loop b=>
    simp only [codeOk] at hcode
    simp only [dstOk] at hdst
    exact wpO_loop T (k + 1) (loops D N lo fl b s e s' h hcode hdst hcc hfl fn ρ a σ hrel hfresh)
   | _=>simp [run] at h
end
end Go.Co
namespace Go.Am
def Wk {α:Type} {fl:Nat} (A:Lay α) (S:Cx fl) (k:Nat) (v:SV) (L:List α):Prop:=RO A (fun i=>i < S.n/\S.ow i = k) S.fz S.m v L
section wk
variable {α:Type} {A:Lay α} {fl k j:Nat} {S S':Cx fl} {v:SV} {L:List α}
theorem Ow.wk (h:Ow A S k v L):Wk A S k v L:=RO.to h.oz (fun _ h=>⟨h.2,rfl⟩) (fun _ h=>⟨h,rfl⟩)
theorem Wk.ro (h:Wk A S k v L):RO A (fun i=>i < S.n) S.fz S.m v L:=RO.to h (fun _ h=>⟨h.1,rfl⟩) (fun _ h=>⟨h,rfl⟩)
end wk
def Pv {α:Type} (A:Lay α) (n:Nat) (m:Mem) (b:Nat) (u:α):Prop:=b < n/\∃ cs,m.get b = some cs/\A.R (fun i=>i < n) m u cs
def Rp {α:Type} {fl:Nat} (A:Lay α) (S:Cx fl) (v:SV) (u:α):Prop:=∃ b cs,v = .ptr b 0/\S.fz b/\S.m.get b = some cs/\A.R S.fz S.m u cs
section rp
variable {α:Type} {A:Lay α} {fl k j b:Nat} {S S':Cx fl} {v:SV} {u:α} {m:Mem}
theorem Pv.rpS {n:Nat} {S:Cx n} (h:Pv A n m b u) (em:S.m = m) (hz:∀ i,i < n->S.fz i):Rp A S (.ptr b 0) u:=by
 subst em
 obtain ⟨h1,cs,h2,h3⟩:=h
 exact ⟨b,cs,rfl,hz b h1,h2,A.frame h3 fun i hi=>⟨hz i hi,rfl⟩⟩
theorem Rp.pv (h:Rp A S (.ptr b 0) u):Pv A S.n S.m b u:=by
 obtain ⟨b',cs,e,h1,h2,h3⟩:=h
 cases e
 exact ⟨h1.1,cs,h2,A.frame h3 fun i hi=>⟨hi.1,rfl⟩⟩
theorem Bk.pv {id:Nat} (h:Bk A S id (.ptr b 0) u):Pv A S.n S.m b u:=by
 obtain ⟨b',cs,e,_,h1,_,h2,h3⟩:=h
 cases e
 exact ⟨h1,cs,h2,A.frame h3 fun i hi=>⟨hi.1,rfl⟩⟩
theorem Rp.to (h:Rp A S v u) (c:Ch k S S') (hk:Nat.beq k 0 = false:=by rfl):Rp A S' v u:=by
 have hk:k≠0:=fun e=>by subst e;cases hk
 obtain ⟨b,cs,e,h1,h2,h3⟩:=h
 obtain ⟨q1,q2⟩:=fz_ch c hk b h1
 exact ⟨b,cs,e,q1,by rw [q2];exact h2,A.frame h3 (fz_ch c hk)⟩
end rp
section rules
variable {E:Env} {lo:List Nat} {fl:Nat} {loose:Nat->Bool} {lim:Option Nat} {ops:Array Oper} {os:List Oper}
variable {l:LE} {m:Mem} {n:Nat} {K:LE->Mem->Nat->Prop}
variable {d:Nat} {ty t:TypeId} {pos:String} {af:Array Edge} {x:Operand} {v:SV}
variable {α:Type} {A:Lay α} {S:Cx fl} {L:List α} {u:α} {s:SV} {id:Nat}
theorem WO.ldP {sz:Nat} {f:α->List SV} {hf:∀ a,(f a).length = sz} (hx:evK l x = some (.sc v)) (hs:Rp (Lay.flat sz f hf) S v u) (hc:(f u)[0]? = some s) (hT:oneT E t = true) (hl:limLe lim S.n = true)
 (h:WO E loose fl lim ops os ((d,.sc s) :: l) S.m S.n K):WO E loose fl lim ops (⟨some d,.load t x,ty,pos,af,none⟩ :: os) l S.m S.n K:=⟨fun tt ht=>by
 obtain ⟨y,h1,h2,h3,_⟩:=oneT_ok hT
 refine W_op2 ?_ (h.put ht)
 obtain ⟨b,cs,rfl,h4,h5,h6⟩:=hs
 have h6:cs = f u:=h6
 subst h6
 simp only [opA,evK_ev ht hx,loadA,limOk_of hl h4.1,if_true,h5,part,h1,h2,h3,or_self,if_false,hc,Option.map_some]⟩
end rules
section rules
variable {E:Env} {lo:List Nat} {fl:Nat} {loose:Nat->Bool} {lim:Option Nat} {ops:Array Oper} {os:List Oper}
variable {l:LE} {m m0:Mem} {n n0:Nat} {K:LE->Mem->Nat->Prop}
variable {d:Nat} {ty t:TypeId} {pos:String} {af:Array Edge} {x y:Operand} {v w:SV} {k k':IntKind}
variable {α:Type} {A:Lay α} {S:Cx fl} {L L' M:List α} {j b:Nat} {id:Nat}
def Sb (v w:SV) (sz lo k:Nat):Prop:=((w = .nils\/w = .emp)/\k = 0)\/∃ b o n c c',v = .sl b o n c sz/\w = .sl b (o + lo * sz) k c' sz/\lo + k<=n/\k<=c'
theorem WO.slcB {zo zi:Nat->Prop} {lo' hi':Int} {lo1 hi1:Option Operand} (hx:evK l x = some (.sc v)) (hlo:(∃ y,lo1 = some y/\evK l y = some (.sc (.int k lo')))\/lo1 = none/\lo' = 0) (hhi:(∃ y,hi1 = some y/\evK l y = some (.sc (.int k' hi')))\/hi1 = none/\hi' = L.length)
 (hs:RO A zo zi m v L) (hM:sub? L lo' hi' = some M) (hT:slTs E t A.sz = true)
 (h:∀ w,RO A zo zi m w M->Sb v w A.sz lo'.toNat M.length->WO E loose fl lim ops os ((d,.sc w) :: l) m n K):WO E loose fl lim ops (⟨some d,.slice t x lo1 hi1 none,ty,pos,af,none⟩ :: os) l m n K:=⟨fun tt ht=>by
 obtain ⟨yt,e,h1,h2,h3,h4,_⟩:=slTs_ok hT
 have hlo':lo1.map (St.ev ⟨tt,m,n⟩) = some (.sc (.int k lo'))\/lo1.map (St.ev ⟨tt,m,n⟩) = none/\lo' = 0:=by
  rcases hlo with ⟨y,rfl,hy⟩ | ⟨rfl,h0⟩
  ·exact .inl (by rw [Option.map_some,evK_ev ht hy])
  ·exact .inr ⟨rfl,h0⟩
 have hhi':hi1.map (St.ev ⟨tt,m,n⟩) = some (.sc (.int k' hi'))\/hi1.map (St.ev ⟨tt,m,n⟩) = none/\hi' = L.length:=by
  rcases hhi with ⟨y,rfl,hy⟩ | ⟨rfl,h0⟩
  ·exact .inl (by rw [Option.map_some,evK_ev ht hy])
  ·exact .inr ⟨rfl,h0⟩
 obtain ⟨w,q1,q2⟩:=RO.sub (t:=t) hs hM h1 h2 h3 h4 _ _ hlo' hhi'
 have hsb:Sb v w A.sz lo'.toNat M.length:=by
  obtain ⟨⟨b1,b2,b3⟩,hMe⟩:=sub?_some hM
  have hml:M.length = hi'.toNat - lo'.toNat:=by rw [hMe,List.length_drop,List.length_take];omega
  rcases q2 with ⟨q3,q4⟩ | ⟨i,o,c,cs,rfl,q3,q4,_⟩
  ·exact .inl ⟨q3,by rw [q4];rfl⟩
  ·rcases hs with ⟨hv,rfl⟩ | ⟨i2,o2,c2,cs2,rfl,p2,p3,p4,p5,p6⟩
   ·exfalso
    simp at b3
    have e1:lo' = 0:=by omega
    have e2:hi' = 0:=by omega
    subst e1;subst e2
    have hb:∀ (o:Option AV) (k:IntKind),(o = some (.sc (.int k 0))\/o = none)->boundA o 0 0 = some 0:=by
     rintro o k (rfl | rfl) <;> simp [boundA]
    rcases hv with hv | hv
    ·subst hv
     simp only [sliceA,h1,h2,h3] at q1
     rw [hb _ k' (hhi'.imp id (·.1)),hb _ k (hlo'.imp id (·.1))] at q1
     simp at q1
    ·subst hv
     simp only [sliceA,h1,h2,h3] at q1
     rw [hb _ k' (hhi'.imp id (·.1)),hb _ k (hlo'.imp id (·.1))] at q1
     simp at q1
   ·right
    have hb1:boundA (hi1.map (St.ev ⟨tt,m,n⟩)) L.length c2 = some hi'.toNat:=by
     rcases hhi' with e | ⟨e,rfl⟩
     ·rw [e];simp only [boundA];rw [if_pos (by omega)]
     ·rw [e];simp [boundA]
    have hb2:boundA (lo1.map (St.ev ⟨tt,m,n⟩)) 0 hi'.toNat = some lo'.toNat:=by
     rcases hlo' with e | ⟨e,rfl⟩
     ·rw [e];simp only [boundA];rw [if_pos (by omega)]
     ·rw [e];simp [boundA]
    simp only [sliceA,h1,h2,h3,h4,Option.map_some] at q1
    have hb0:boundA none c2 c2 = some c2:=rfl
    simp only [hb0,hb1,hb2] at q1
    split at q1
    ·cases q1
    ·split at q1
     ·simp only [Option.some.injEq,AV.sc.injEq,SV.sl.injEq] at q1
      obtain ⟨r1,r2,r3,r4,r5⟩:=q1
      exact ⟨i,o2,L.length,c2,c,by rw [<- r1],by rw [<- r2],by omega,q3⟩
     ·simp at q1
 refine W_op2 ?_ ((h w q2 hsb).put ht)
 simp only [opA,orA,evK_ev ht hx,Option.map_none,q1,Option.map_some]⟩
variable {y1 y2 y3:Operand} {k'':IntKind} {o ln c sz q:Nat} {i jj hh:Int} {cs new:List SV}
theorem WO.slH3 (hx:evK l x = some (.sc (.sl b o ln c sz))) (hlo:evK l y1 = some (.sc (.int k i))) (hhi:evK l y2 = some (.sc (.int k' jj))) (hmx:evK l y3 = some (.sc (.int k'' hh))) (h1:0<=i/\i<=jj/\jj<=hh/\hh<=c) (hT:slTs E t sz = true)
 (h:∀ w,WO E loose fl lim ops os ((d,.sc w) :: l) m n K):WO E loose fl lim ops (⟨some d,.slice t x (some y1) (some y2) (some y3),ty,pos,af,none⟩ :: os) l m n K:=⟨fun tt ht=>by
 obtain ⟨yt,e,e1,e2,e3,e4,_⟩:=slTs_ok hT
 have key:∃ w,sliceA E t (.sc (.sl b o ln c sz)) (some (.sc (.int k i))) (some (.sc (.int k' jj))) (some (.sc (.int k'' hh))) = some (.sc w):=by
  simp only [sliceA,e1,e2,e3,e4,Option.map_some,boundA]
  rw [if_pos (show 0<=hh/\hh<=(c:Int) from by omega)]
  simp only
  rw [if_pos (show 0<=jj/\jj<=((hh.toNat:Nat):Int) from by omega)]
  simp only
  rw [if_pos (show 0<=i/\i<=((jj.toNat:Nat):Int) from by omega)]
  simp only
  by_cases hq:i.toNat < hh.toNat\/i.toNat = 0
  ·rw [if_pos hq];exact ⟨_,by simp;rfl⟩
  ·rw [if_neg hq];exact ⟨_,by simp;rfl⟩
 obtain ⟨w,hw⟩:=key
 refine W_op2 ?_ ((h w).put ht)
 simp only [opA,orA,evK_ev ht hx,evK_ev ht hlo,evK_ev ht hhi,evK_ev ht hmx,Option.map_some,hw]⟩
theorem WO.slHto (hx:evK l x = some (.sc (.sl b o ln c sz))) (hhi:evK l y2 = some (.sc (.int k' jj))) (h1:0<=jj/\jj<=c) (hT:slTs E t sz = true)
 (h:WO E loose fl lim ops os ((d,.sc (.sl b o jj.toNat c sz)) :: l) m n K):WO E loose fl lim ops (⟨some d,.slice t x none (some y2) none,ty,pos,af,none⟩ :: os) l m n K:=⟨fun tt ht=>by
 obtain ⟨yt,e,e1,e2,e3,e4,_⟩:=slTs_ok hT
 refine W_op2 ?_ (h.put ht)
 have key:sliceA E t (.sc (.sl b o ln c sz)) none (some (.sc (.int k' jj))) none = some (.sc (.sl b o jj.toNat c sz)):=by
  simp only [sliceA,e1,e2,e3,e4,Option.map_some,boundA]
  rw [if_pos (show 0<=jj/\jj<=(c:Int) from by omega)]
  simp
 simp only [opA,orA,evK_ev ht hx,evK_ev ht hhi,Option.map_some,Option.map_none,key]⟩
theorem WO.slHmid (hx:evK l x = some (.sc (.sl b o ln c sz))) (hlo:evK l y1 = some (.sc (.int k i))) (hhi:evK l y2 = some (.sc (.int k' jj))) (h1:0<=i/\i<=jj/\jj<=c/\i < c) (hT:slTs E t sz = true)
 (h:WO E loose fl lim ops os ((d,.sc (.sl b (o + i.toNat * sz) (jj.toNat - i.toNat) (c - i.toNat) sz)) :: l) m n K):WO E loose fl lim ops (⟨some d,.slice t x (some y1) (some y2) none,ty,pos,af,none⟩ :: os) l m n K:=⟨fun tt ht=>by
 obtain ⟨yt,e,e1,e2,e3,e4,_⟩:=slTs_ok hT
 refine W_op2 ?_ (h.put ht)
 have key:sliceA E t (.sc (.sl b o ln c sz)) (some (.sc (.int k i))) (some (.sc (.int k' jj))) none = some (.sc (.sl b (o + i.toNat * sz) (jj.toNat - i.toNat) (c - i.toNat) sz)):=by
  simp only [sliceA,e1,e2,e3,e4,Option.map_some,boundA]
  rw [if_pos (show 0<=jj/\jj<=(c:Int) from by omega)]
  simp only
  rw [if_pos (show 0<=i/\i<=((jj.toNat:Nat):Int) from by omega)]
  simp only
  rw [if_pos (show i.toNat < c\/i.toNat = 0 from by omega)]
  simp
 simp only [opA,orA,evK_ev ht hx,evK_ev ht hlo,evK_ev ht hhi,Option.map_some,Option.map_none,key]⟩
theorem WO.slHfrom (hx:evK l x = some (.sc (.sl b o ln c sz))) (hlo:evK l y1 = some (.sc (.int k i))) (h1:0<=i/\i<=ln/\ln<=c) (hm:m.get b = some cs) (hle:o + ln * sz<=cs.length) (hT:slTs E t sz = true)
 (h:∀ w,elemsA m (.sc w) sz = some ((cs.drop (o + i.toNat * sz)).take ((ln - i.toNat) * sz),ln - i.toNat)->WO E loose fl lim ops os ((d,.sc w) :: l) m n K):WO E loose fl lim ops (⟨some d,.slice t x (some y1) none none,ty,pos,af,none⟩ :: os) l m n K:=⟨fun tt ht=>by
 obtain ⟨yt,e,e1,e2,e3,e4,_⟩:=slTs_ok hT
 have h2:i.toNat * sz + (ln - i.toNat) * sz = ln * sz:=by rw [<- Nat.add_mul];congr 1;omega
 have key:∃ w,sliceA E t (.sc (.sl b o ln c sz)) (some (.sc (.int k i))) none none = some (.sc w)/\elemsA m (.sc w) sz = some ((cs.drop (o + i.toNat * sz)).take ((ln - i.toNat) * sz),ln - i.toNat):=by
  simp only [sliceA,e1,e2,e3,e4,Option.map_some,boundA]
  rw [if_pos (show 0<=i/\i<=(ln:Int) from by omega)]
  simp only
  by_cases hq:i.toNat < c\/i.toNat = 0
  ·rw [if_pos hq]
   refine ⟨.sl b (o + i.toNat * sz) (ln - i.toNat) (c - i.toNat) sz,by simp,?_⟩
   simp only [elemsA,hm]
   rw [if_neg (by simp),if_pos (by omega)]
  ·rw [if_neg hq]
   refine ⟨.emp,by simp,?_⟩
   have:ln - i.toNat = 0:=by omega
   rw [this,Nat.zero_mul,List.take_zero]
   rfl
 obtain ⟨w,hw,hw2⟩:=key
 refine W_op2 ?_ ((h w hw2).put ht)
 simp only [opA,orA,evK_ev ht hx,evK_ev ht hlo,Option.map_some,Option.map_none,hw]⟩
theorem WO.clrH (hx:evK l x = some (.sc (.sl b o ln c sz))) (hm:m.get b = some cs) (hle:o + ln * sz<=cs.length) (hfl:fl<=b) (hT:slTs E t sz = true)
 (h:∀ z:List SV,z.length = ln * sz->WO E loose fl lim ops os l (m.set b (splice cs o z)) n K):WO E loose fl lim ops (⟨none,.call ⟨.builtin .clear,#[x],#[t]⟩,ty,pos,af,none⟩ :: os) l m n K:=⟨fun tt ht=>by
 obtain ⟨yt,e,e1,e2,e3,e4,e5,e6,e7⟩:=slTs_ok hT
 refine W_op2 (v:=.tup []) (m':=m.set b (splice cs o (List.replicate ln e.zero).flatten)) (n':=n) ?_ ((h _ (by simp [e5])).ok tt ht)
 have key:clearA E fl t (.sc (.sl b o ln c sz)) m n = some (.tup [],m.set b (splice cs o (List.replicate ln e.zero).flatten),n):=by
  simp only [clearA,e1,e2,e3,e4]
  rw [if_neg (by simp),if_neg (by rw [e5];simp)]
  rw [if_neg (by simp;omega),hm]
  try simp only
  rw [if_pos hle]
 simp only [opA,orA,callA,builtinA,List.map_cons,List.map_nil,evK_ev ht hx]
 simp [key]⟩
def Ov {α:Type} (A:Lay α) (fl n b:Nat) (m:Mem) (v:SV) (L:List α):Prop:=
 ∃ c cs,v = .sl b 0 L.length c A.sz/\L.length<=c/\fl<=b/\b < n/\m.get b = some cs/\cs.length = c * A.sz/\RL A (fun i=>i < n/\i≠b) m L (cs.take (L.length * A.sz))
def Oq {α:Type} (A:Lay α) (n b:Nat) (m m':Mem) (w:SV) (M:List α):Prop:=
 (∀ i,i < n->i≠b->m'.get i = m.get i)/\∃ c cs,w = .sl b 0 M.length c A.sz/\M.length<=c/\m'.get b = some cs/\cs.length = c * A.sz/\RL A (fun i=>i < n/\i≠b) m' M (cs.take (M.length * A.sz))
theorem WO.callO {f:Operand} {xs:Array Operand} {ats:Array TypeId} {g:Nat} {caps:List (Nat × Nat)} {args:List AV} (hs:Ow A S id v L) (hne:0 < L.length) (hf:evK l f = some (.sc (.fn g caps))) (ha:xs.toList.mapM (evK l) = some args)
 (hr:∀ b,Ov A fl S.n b S.m v L->Ret E fl g (args ++ caps.map fun p=>.sc (.ptr p.1 p.2)) S.m S.n (fun v' m' n'=>∃ w,v' = .sc w/\Oq A S.n b S.m m' w M)) (hA:A.Fl)
 (h:∀ w S',Ch id S S'->Ow A S' id w M->WO E loose fl lim ops os ((d,.sc w) :: l) S'.m S'.n K) (hl:loose g = false:=by rfl):
 WO E loose fl lim ops (⟨some d,.call ⟨.value f,xs,ats⟩,ty,pos,af,none⟩ :: os) l S.m S.n K:=by
 have hS:=S.le
 refine WO.call hf ha ?_
 rw [hl];simp only [Bool.false_eq_true,if_false]
 rcases hs with ⟨rfl,rfl⟩ | ⟨b,c,cs,rfl,h2,h3,h4,h5,h6,h7,h8⟩
 ·simp at hne
 ·refine (Ret.keeps (hr b ⟨c,cs,rfl,h5,h2,h3,h6,h7,h8.fl hA⟩)).mono ?_
  rintro v' m' n' ⟨⟨w,rfl,hp1,c',cs',rfl,e1,e2,e3,e4⟩,hk⟩
  have hn:=hk.1
  exact h _ ⟨m',n',fun i=>if i < S.n then S.ow i else 0,by omega⟩ ⟨hn,fun i hi hk=>⟨if_pos hi,hp1 i hi (fun e=>hk (by rw [e];exact h4))⟩⟩ (.inr ⟨b,c',cs',rfl,h2,by simp only;omega,by simp only;rw [if_pos h3];exact h4,e1,e2,e3,e4.fl hA⟩)
end rules
def SV.blk:SV->Option Nat
 | .sl b _ _ _ _=>some b
 | .ptr b _=>some b
 | _=>none
def Cx.mg {fl:Nat} (S:Cx fl) (j r:Nat):Cx fl:=⟨S.m,S.n,fun i=>if S.ow i = j then r else S.ow i,S.le⟩
section fam
variable {α:Type} {A:Lay α} {fl k r j i:Nat} {S S':Cx fl} {v w:SV} {H:List SV} {L:List (List α)} {R:List α} {hole:Option Nat}
theorem nb {a b:Nat} (h:Nat.beq a b = false):a≠b:=fun e=>by subst e;rw [show Nat.beq a a = true by simp] at h;cases h
theorem Ow.blk_ow (h:Ow A S k v R) {b:Nat} (hb:v.blk = some b):S.ow b = k/\b < S.n:=by
 rcases h with ⟨rfl,_⟩ | ⟨b',c,cs,rfl,_,h3,h4,_⟩
 ·cases hb
 ·cases hb;exact ⟨h4,h3⟩
theorem Cx.mg_ch (S:Cx fl) (j r:Nat):Ch j S (S.mg j r):=⟨Nat.le_refl _,fun i _ hk=>⟨by simp only [Cx.mg];rw [if_neg hk],rfl⟩⟩
end fam
section tw
variable {α:Type} {A:Lay α} {fl k r j i n0:Nat} {S S':Cx fl} {v w:SV} {H:List SV} {L M:List (List α)} {R:List α}
def Lt (v:SV) (n:Nat):Prop:=∀ b,v.blk = some b->b < n
theorem Lt.lim {lim:Option Nat} (h:Lt v n0) (hl:limLe lim n0 = true) {b:Nat} (hb:v.blk = some b):limOk lim b = true:=limOk_of hl (h b hb)
end tw
def Bw {fl:Nat} (S:Cx fl) (k:Nat) (v:SV) (cs:List SV):Prop:=∃ b,v = .ptr b 0/\fl<=b/\b < S.n/\S.ow b = k/\S.m.get b = some cs
def Rw {fl:Nat} (S:Cx fl) (v:SV) (cs:List SV):Prop:=∃ b,v = .ptr b 0/\S.fz b/\S.m.get b = some cs
def Pw (n:Nat) (m:Mem) (v:SV) (cs:List SV):Prop:=∃ b,v = .ptr b 0/\b < n/\m.get b = some cs
section bw
variable {fl k j:Nat} {S S':Cx fl} {v:SV} {cs:List SV}
theorem Bw.to (h:Bw S j v cs) (c:Ch k S S') (hk:Nat.beq k 0 = false:=by rfl) (hj:Nat.beq j k = false:=by rfl):Bw S' j v cs:=by
 obtain ⟨b,h1,h2,h3,h4,h5⟩:=h
 obtain ⟨q1,q2⟩:=c.ow b h3 (by rw [h4];exact nb hj)
 exact ⟨b,h1,h2,Nat.lt_of_lt_of_le h3 c.n,by rw [q1];exact h4,by rw [q2];exact h5⟩
theorem Bw.drop (h:Bw S j v cs) (k:Nat) (hj:Nat.beq j k = false:=by rfl):Bw (S.drop k) j v cs:=by
 obtain ⟨b,h1,h2,h3,h4,h5⟩:=h
 exact ⟨b,h1,h2,h3,by simp only [Cx.drop];rw [if_neg (by rw [h4];exact nb hj)];exact h4,h5⟩
theorem Bw.ren (h:Bw S k v cs) (j:Nat) (hk:Nat.beq k 0 = false:=by rfl) (hj:Nat.beq j 0 = false:=by rfl):Bw (S.ren k j) j v cs:=by
 obtain ⟨b,h1,h2,h3,h4,h5⟩:=h
 exact ⟨b,h1,h2,h3,by simp only [Cx.ren];rw [if_pos h4],h5⟩
theorem Rw.to (h:Rw S v cs) (c:Ch k S S') (hk:Nat.beq k 0 = false:=by rfl):Rw S' v cs:=by
 obtain ⟨b,h1,h2,h5⟩:=h
 obtain ⟨q1,q2⟩:=fz_ch c (nb hk) b h2
 exact ⟨b,h1,q1,by rw [q2];exact h5⟩
theorem Bw.isp (h:Bw S k v cs):∃ b,v = .ptr b 0:=by obtain ⟨b,h,_⟩:=h;exact ⟨b,h⟩
theorem Rw.isp (h:Rw S v cs):∃ b,v = .ptr b 0:=by obtain ⟨b,h,_⟩:=h;exact ⟨b,h⟩
theorem Bw.at0 (h:Bw S k v cs):v = ptrAt v 0 0:=by obtain ⟨b,rfl,_⟩:=h;rfl
theorem Rw.at0 (h:Rw S v cs):v = ptrAt v 0 0:=by obtain ⟨b,rfl,_⟩:=h;rfl
theorem Bw.ptr {j:Nat} (h:Bw S k v cs):∃ b o,ptrAt v j 0 = .ptr b o:=by obtain ⟨b,rfl,_⟩:=h;exact ⟨_,_,rfl⟩
theorem Rw.ptr {j:Nat} (h:Rw S v cs):∃ b o,ptrAt v j 0 = .ptr b o:=by obtain ⟨b,rfl,_⟩:=h;exact ⟨_,_,rfl⟩
theorem Bw.lt (h:Bw S k v cs):Lt v S.n:=by obtain ⟨b,rfl,_,h,_⟩:=h;intro c hc;cases hc;exact h
theorem Rw.lt (h:Rw S v cs):Lt v S.n:=by obtain ⟨b,rfl,h,_⟩:=h;intro c hc;cases hc;exact h.1
theorem Bw.pw (h:Bw S k v cs):Pw S.n S.m v cs:=by obtain ⟨b,h1,_,h3,_,h5⟩:=h;exact ⟨b,h1,h3,h5⟩
theorem Pw.rwS {n:Nat} {m:Mem} {S:Cx n} (h:Pw n m v cs) (em:S.m = m) (hz:∀ i,i < n->S.fz i):Rw S v cs:=by
 subst em
 obtain ⟨b,h1,h3,h5⟩:=h
 exact ⟨b,h1,hz b h3,h5⟩
end bw
section rules
variable {E:Env} {lo:List Nat} {fl:Nat} {loose:Nat->Bool} {lim:Option Nat} {ops:Array Oper} {os:List Oper}
variable {l:LE} {m:Mem} {n n0:Nat} {K:LE->Mem->Nat->Prop}
variable {d:Nat} {ty t:TypeId} {pos:String} {af:Array Edge} {x y:Operand} {v w:SV} {k k':IntKind}
variable {S:Cx fl} {q:Nat} {s:SV} {cs:List SV} {id:Nat} {p:SV}
theorem WO.ld0 {b:Nat} (hx:evK l x = some (.sc (.ptr b q))) (hb:m.get b = some cs) (hc:cs[q]? = some s) (hT:oneT E t = true) (hl:limOk lim b = true)
 (h:WO E loose fl lim ops os ((d,.sc s) :: l) m n K):WO E loose fl lim ops (⟨some d,.load t x,ty,pos,af,none⟩ :: os) l m n K:=⟨fun tt ht=>by
 obtain ⟨y,h1,h2,h3,_⟩:=oneT_ok hT
 refine W_op2 ?_ (h.put ht)
 simp only [opA,evK_ev ht hx,loadA,hl,if_true,hb,part,h1,h2,h3,or_self,if_false,hc,Option.map_some]⟩
theorem WO.ld0A {b sz:Nat} (hx:evK l x = some (.sc (.ptr b q))) (hb:m.get b = some cs) (hc:q + sz<=cs.length) (hT:aggT E t sz = true) (hl:limOk lim b = true)
 (h:WO E loose fl lim ops os ((d,.agg ((cs.drop q).take sz)) :: l) m n K):WO E loose fl lim ops (⟨some d,.load t x,ty,pos,af,none⟩ :: os) l m n K:=⟨fun tt ht=>by
 obtain ⟨y,h1,h2,h3,_⟩:=aggT_ok hT
 refine W_op2 ?_ (h.put ht)
 simp only [opA,evK_ev ht hx,loadA,hl,if_true,hb,part,h1,h2,h3,hc,Option.map_some]⟩
theorem WO.ldW (hx:evK l x = some (.sc p)) (hp:p = ptrAt v 0 q) (hs:Bw S id v cs) (hc:cs[q]? = some s) (hT:oneT E t = true) (hv:Lt v n0) (hl:limLe lim n0 = true)
 (h:WO E loose fl lim ops os ((d,.sc s) :: l) S.m S.n K):WO E loose fl lim ops (⟨some d,.load t x,ty,pos,af,none⟩ :: os) l S.m S.n K:=by
 subst hp
 obtain ⟨b,rfl,_,h4,_,h5⟩:=hs
 exact WO.ld0 (by simpa [ptrAt] using hx) h5 hc hT (hv.lim hl rfl) h
theorem WO.ldRw (hx:evK l x = some (.sc p)) (hp:p = ptrAt v 0 q) (hs:Rw S v cs) (hc:cs[q]? = some s) (hT:oneT E t = true) (hv:Lt v n0) (hl:limLe lim n0 = true)
 (h:WO E loose fl lim ops os ((d,.sc s) :: l) S.m S.n K):WO E loose fl lim ops (⟨some d,.load t x,ty,pos,af,none⟩ :: os) l S.m S.n K:=by
 subst hp
 obtain ⟨b,rfl,h4,h5⟩:=hs
 exact WO.ld0 (by simpa [ptrAt] using hx) h5 hc hT (hv.lim hl rfl) h
theorem WO.ldWA {sz:Nat} {r:List SV} (hx:evK l x = some (.sc p)) (hp:p = ptrAt v 0 q) (hs:Bw S id v cs) (hr:(cs.drop q).take sz = r) (hc:Nat.ble (q + sz) cs.length = true) (hT:aggT E t sz = true) (hv:Lt v n0) (hl:limLe lim n0 = true)
 (h:WO E loose fl lim ops os ((d,.agg r) :: l) S.m S.n K):WO E loose fl lim ops (⟨some d,.load t x,ty,pos,af,none⟩ :: os) l S.m S.n K:=by
 subst hp;subst hr
 obtain ⟨b,rfl,_,h4,_,h5⟩:=hs
 exact WO.ld0A (by simpa [ptrAt] using hx) h5 (Nat.le_of_ble_eq_true hc) hT (hv.lim hl rfl) h
theorem WO.stW {av:AV} {vc r:List SV} {yt:Ty} (hx:evK l x = some (.sc p)) (hp:p = ptrAt v 0 q) (hy:evK l y = some av) (hc:av.cells? = some vc) (hs:Bw S id v cs) (hT:E.ty t = some yt) (hz:Nat.beq vc.length yt.size = true) (hle:Nat.ble (q + vc.length) cs.length = true) (hr:splice cs q vc = r) (hid:Nat.beq id 0 = false)
 (h:∀ S',Ch id S S'->Bw S' id v r->WO E loose fl lim ops os l S'.m S'.n K):WO E loose fl lim ops (⟨none,.store t x y,ty,pos,af,none⟩ :: os) l S.m S.n K:=⟨fun tt ht=>by
 subst hp;subst hr
 obtain ⟨b,rfl,h1,h2,h3,h4⟩:=hs
 have hch:Ch id S (⟨S.m.set b (splice cs q vc),S.n,S.ow,S.le⟩:Cx fl):=⟨Nat.le_refl _,fun i hi hk=>⟨rfl,Tr.get_set_ne _ _ (fun e=>hk (by rw [e];exact h3))⟩⟩
 refine W_op2 (v:=.tup []) (m':=S.m.set b (splice cs q vc)) (n':=S.n) ?_ ((h ⟨S.m.set b (splice cs q vc),S.n,S.ow,S.le⟩ hch ⟨b,rfl,h1,h2,h3,Tr.get_set_same _ _ _⟩).ok tt ht)
 have e:evK l x = some (.sc (.ptr b q)):=by simpa [ptrAt] using hx
 simp only [opA,evK_ev ht e,evK_ev ht hy,storeA,hc,hT]
 rw [if_pos ⟨h1,Nat.eq_of_beq_eq_true hz⟩,h4]
 simp only
 rw [if_pos (Nat.le_of_ble_eq_true hle)];rfl⟩
theorem Bw.fresh (hid:id≠0):∃ S':Cx fl,S'.m = S.m.set S.n cs/\S'.n = S.n + 1/\Ch id S S'/\Bw S' id (.ptr S.n 0) cs:=by
 have hS:=S.le
 exact ⟨⟨S.m.set S.n cs,S.n + 1,fun i=>if i = S.n then id else S.ow i,by omega⟩,rfl,rfl,⟨by simp,fun i hi hk=>⟨by simp only;rw [if_neg (by omega)],Tr.get_set_ne _ _ (by omega)⟩⟩,S.n,rfl,hS,by simp,by simp,Tr.get_set_same _ _ _⟩
theorem WO.alW {yt:Ty} (id:Nat) (hT:E.ty t = some yt) (hz:yt.zero = cs) (hid:Nat.beq id 0 = false)
 (h:∀ b S',Ch id S S'->Bw S' id (.ptr b 0) cs->WO E loose fl lim ops os ((d,.sc (.ptr b 0)) :: l) S'.m S'.n K):WO E loose fl lim ops (⟨some d,.alloc t,ty,pos,af,none⟩ :: os) l S.m S.n K:=⟨fun tt ht=>by
 subst hz
 obtain ⟨S',e1,e2,h7,h8⟩:=Bw.fresh (S:=S) (cs:=yt.zero) (nb hid)
 exact W_op2 (m':=S'.m) (n':=S'.n) (by simp only [opA,hT,e1,e2]) ((h _ S' h7 h8).put ht)⟩
theorem WO.bxW {av:AV} (id:Nat) (hx:evK l x = some av) (hc:av.cells? = some cs) (hid:Nat.beq id 0 = false)
 (h:∀ b S',Ch id S S'->Bw S' id (.ptr b 0) cs->WO E loose fl lim ops os ((d,.sc (.ptr b 0)) :: l) S'.m S'.n K):WO E loose fl lim ops (⟨some d,.box t x,ty,pos,af,none⟩ :: os) l S.m S.n K:=⟨fun tt ht=>by
 obtain ⟨S',e1,e2,h7,h8⟩:=Bw.fresh (S:=S) (cs:=cs) (nb hid)
 exact W_op2 (m':=S'.m) (n':=S'.n) (by simp only [opA,evK_ev ht hx,hc,e1,e2]) ((h _ S' h7 h8).put ht)⟩
end rules
structure ChM {fl:Nat} (S S':Cx fl):Prop where
 n:S.n<=S'.n
 ow:∀ i,i < S.n->(S.ow i = 0\/1000<=S.ow i)->S'.ow i = S.ow i/\S'.m.get i = S.m.get i
def lkp:List (Nat × Nat)->Nat->Option Nat
 | [],_=>none
 | (a,b) :: r,o=>if Nat.beq a o then some b else lkp r o
def sg (l:List (Nat × Nat)) (o:Nat):Nat:=if Nat.beq o 0 then 0 else (lkp l o).getD (o + 1000)
def tk (l:List (Nat × Nat)) (o:Nat):Nat:=if Nat.beq o 0 then 0 else (lkp l o).getD 1
def Cx.mp {fl:Nat} (S:Cx fl) (l:List (Nat × Nat)):Cx fl:=⟨S.m,S.n,fun i=>sg l (S.ow i),S.le⟩
def Strict (l:List (Nat × Nat)):Bool:=l.all fun p=>p.2 != 0
section chm
variable {fl k j:Nat} {S S0 S1 S':Cx fl} {v:SV} {l q:List (Nat × Nat)}
theorem ChM.refl (S:Cx fl):ChM S S:=⟨Nat.le_refl _,fun _ _ _=>⟨rfl,rfl⟩⟩
theorem ChM.to (h:ChM S0 S) (c:Ch k S S') (hk:Nat.beq k 0 = false:=by rfl) (hk2:Nat.blt k 1000 = true:=by rfl):ChM S0 S':=
 ⟨Nat.le_trans h.n c.n,fun i hi ho=>by
  obtain ⟨h1,h2⟩:=h.ow i hi ho
  have hlt:k < 1000:=Nat.le_of_ble_eq_true hk2
  obtain ⟨h3,h4⟩:=c.ow i (Nat.lt_of_lt_of_le hi h.n) (by rw [h1];have:=nb hk;omega)
  exact ⟨h3.trans h1,h4.trans h2⟩⟩
theorem ChM.drop (h:ChM S0 S) (k:Nat) (hk:Nat.beq k 0 = false:=by rfl) (hk2:Nat.blt k 1000 = true:=by rfl):ChM S0 (S.drop k):=
 ⟨h.n,fun i hi ho=>by
  obtain ⟨h1,h2⟩:=h.ow i hi ho
  have hlt:k < 1000:=Nat.le_of_ble_eq_true hk2
  refine ⟨?_,h2⟩
  show (if S.ow i = k then 0 else S.ow i) = _
  rw [if_neg (by rw [h1];have:=nb hk;omega)];exact h1⟩
theorem ChM.renO (h:ChM S0 S) (k j:Nat) (hk:Nat.beq k 0 = false:=by rfl) (hj:Nat.beq j 0 = false:=by rfl) (hk2:Nat.blt k 1000 = true:=by rfl) (hj2:Nat.blt j 1000 = true:=by rfl):ChM S0 (S.ren k j):=
 ⟨h.n,fun i hi ho=>by
  obtain ⟨h1,h2⟩:=h.ow i hi ho
  have hlt:k < 1000:=Nat.le_of_ble_eq_true hk2
  have hlt2:j < 1000:=Nat.le_of_ble_eq_true hj2
  refine ⟨?_,h2⟩
  show (if S.ow i = k then j else if S.ow i = j then 1 else S.ow i) = _
  rw [if_neg (by rw [h1];have:=nb hk;omega),if_neg (by rw [h1];have:=nb hj;omega)];exact h1⟩
theorem fz_mp:∀ i,S.fz i->(S.mp l).fz i/\(S.mp l).m.get i = S.m.get i:=fun i ⟨h1,h2⟩=>⟨⟨h1,by show sg l (S.ow i) = 0;rw [h2];rfl⟩,rfl⟩
variable {α:Type} {A:Lay α} {L:List α} {LL:List (List α)} {cs:List SV}
theorem Rd.mp (h:Rd A S v L):Rd A (S.mp l) v L:=RO.to h fz_mp fz_mp
theorem Ow.mp (h:Ow A S k v L) (e:sg l k = j):Ow A (S.mp l) j v L:=by
 rcases h with h | ⟨b,c',cs,h1,h2,h3,h4,h5,h6,h7,h8⟩
 ·exact .inl h
 ·exact .inr ⟨b,c',cs,h1,h2,h3,by show sg l (S.ow b) = j;rw [h4];exact e,h5,h6,h7,h8.frame fz_mp⟩
theorem Wk.mp0 (h:Wk A S k v L) (e:sg l k = 0):Rd A (S.mp l) v L:=RO.to h (fun i hi=>⟨⟨hi.1,by show sg l (S.ow i) = 0;rw [hi.2];exact e⟩,rfl⟩) fz_mp
theorem Ow.mp0 (h:Ow A S k v L) (e:sg l k = 0):Rd A (S.mp l) v L:=h.wk.mp0 e
theorem Bw.mp (h:Bw S k v cs) (e:sg l k = j):Bw (S.mp l) j v cs:=by
 obtain ⟨b,h1,h2,h3,h4,h5⟩:=h
 exact ⟨b,h1,h2,h3,by show sg l (S.ow b) = j;rw [h4];exact e,h5⟩
structure Bak (l q:List (Nat × Nat)) (S S' S1:Cx fl):Prop where
 m:S1.m = S'.m
 n:S1.n = S'.n
 le:S.n<=S'.n
 old:∀ i,i < S.n->(sg l (S.ow i) = 0\/1000<=sg l (S.ow i))->S1.ow i = S.ow i/\S'.ow i = sg l (S.ow i)/\S'.m.get i = S.m.get i
 new:∀ i,¬ (i < S.n/\(sg l (S.ow i) = 0\/1000<=sg l (S.ow i)))->S1.ow i = tk q (S'.ow i)
theorem Bak.mk' (l q:List (Nat × Nat)) (h:ChM (S.mp l) S'):∃ S1:Cx fl,Bak l q S S' S1:=by
 refine ⟨⟨S'.m,S'.n,fun i=>if i < S.n/\(sg l (S.ow i) = 0\/1000<=sg l (S.ow i)) then S.ow i else tk q (S'.ow i),S'.le⟩,rfl,rfl,h.n,fun i h1 h2=>⟨if_pos ⟨h1,h2⟩,h.ow i h1 h2⟩,fun i hi=>if_neg hi⟩
theorem Bak.own (hb:Bak l q S S' S1) {b:Nat} (h1:S'.ow b = j) (hj:Nat.beq j 0 = false) (hj2:Nat.blt j 1000 = true):S1.ow b = tk q j:=by
 have hlt:j < 1000:=Nat.le_of_ble_eq_true hj2
 rw [<- h1]
 refine hb.new b fun ⟨h2,h3⟩=>?_
 have:=(hb.old b h2 h3).2.1
 have:=nb hj
 omega
theorem Bak.fz (hb:Bak l q S S' S1) (hs:Strict l = true):∀ i,S'.fz i->S1.fz i/\S1.m.get i = S'.m.get i:=fun i ⟨h1,h2⟩=>by
 refine ⟨⟨by rw [hb.n];exact h1,?_⟩,by rw [hb.m]⟩
 by_cases hc:i < S.n/\(sg l (S.ow i) = 0\/1000<=sg l (S.ow i))
 ·obtain ⟨e1,e2,_⟩:=hb.old i hc.1 hc.2
  rw [e1]
  rw [h2] at e2
  have key:∀ (l:List (Nat × Nat)) (o:Nat),Strict l = true->0 = sg l o->o = 0:=by
   intro l o hs h
   unfold sg at h
   by_cases h0:Nat.beq o 0 = true
   ·exact Nat.eq_of_beq_eq_true h0
   ·rw [if_neg h0] at h
    exfalso
    induction l with
    | nil=>simp [lkp] at h
    | cons p r ih=>
     obtain ⟨a,b⟩:=p
     simp only [Strict,List.all_cons,Bool.and_eq_true,bne_iff_ne,ne_eq] at hs
     simp only [lkp] at h
     split at h
     ·simp only [Option.getD_some] at h;exact hs.1 h.symm
     ·exact ih (by simpa [Strict] using hs.2) h
  exact key l _ hs e2
 ·rw [hb.new i hc,h2];rfl
theorem Ow.bkF (h:Ow A S' j v L) (hb:Bak l q S S' S1) (e:tk q j = k) (hA:A.Fl) (hj:Nat.beq j 0 = false:=by rfl) (hj2:Nat.blt j 1000 = true:=by rfl):Ow A S1 k v L:=by
 rcases h with h | ⟨b,c',cs,h1,h2,h3,h4,h5,h6,h7,h8⟩
 ·exact .inl h
 ·exact .inr ⟨b,c',cs,h1,h2,by rw [hb.n];exact h3,by rw [hb.own h4 hj hj2];exact e,h5,by rw [hb.m];exact h6,h7,h8.fl hA⟩
theorem Rd.bkS (h:Rd A S' v L) (hb:Bak l q S S' S1) (hs:Strict l = true):Rd A S1 v L:=RO.to h (hb.fz hs) (hb.fz hs)
theorem Bw.bk (h:Bw S' j v cs) (hb:Bak l q S S' S1) (e:tk q j = k) (hj:Nat.beq j 0 = false:=by rfl) (hj2:Nat.blt j 1000 = true:=by rfl):Bw S1 k v cs:=by
 obtain ⟨b,h1,h2,h3,h4,h5⟩:=h
 exact ⟨b,h1,h2,by rw [hb.n];exact h3,by rw [hb.own h4 hj hj2];exact e,by rw [hb.m];exact h5⟩
def Cx.mgs:List Nat->Nat->Cx fl->Cx fl
 | [],_,S=>S
 | j :: r,k0,S=>Cx.mgs r k0 (S.mg j k0)
theorem Cx.mgs_mn (k0:Nat):∀ (ks:List Nat) (S:Cx fl),(Cx.mgs ks k0 S).m = S.m/\(Cx.mgs ks k0 S).n = S.n
 | [],S=>⟨rfl,rfl⟩
 | j :: r,S=>Cx.mgs_mn k0 r (S.mg j k0)
theorem Cx.mgs_ow (k0:Nat):∀ (ks:List Nat) (S:Cx fl) (i:Nat),(Cx.mgs ks k0 S).ow i≠k0->(Cx.mgs ks k0 S).ow i = S.ow i/\S.ow i≠k0/\S.ow i ∉ ks
 | [],S,i,h=>⟨rfl,h,by simp⟩
 | j :: r,S,i,h=>by
  obtain ⟨h1,h2,h3⟩:=Cx.mgs_ow k0 r (S.mg j k0) i h
  have e:(S.mg j k0).ow i = if S.ow i = j then k0 else S.ow i:=rfl
  by_cases hj:S.ow i = j
  ·rw [e,if_pos hj] at h2;exact (h2 rfl).elim
  ·rw [e,if_neg hj] at h1 h2 h3
   exact ⟨h1,h2,by simp [hj,h3]⟩
def mgOk (l:List (Nat × Nat)) (ks:List Nat) (k0:Nat):Bool:=l.all fun p=>p.2 == 0 || p.1 == k0 || ks.contains p.1
theorem Bak.ch (hb:Bak l q S S' S1) (ks:List Nat) (k0:Nat) (h:mgOk l ks k0 = true:=by rfl):Ch k0 (Cx.mgs ks k0 S) S1:=by
 obtain ⟨e1,e2⟩:=Cx.mgs_mn k0 ks S
 refine ⟨by rw [e2,hb.n];exact hb.le,fun i hi hk=>?_⟩
 rw [e2] at hi
 obtain ⟨h1,h2,h3⟩:=Cx.mgs_ow k0 ks S i hk
 have key:∀ (l:List (Nat × Nat)) (o:Nat),mgOk l ks k0 = true->o≠k0->o ∉ ks->sg l o = 0\/1000<=sg l o:=by
  intro l o hm h2 h3
  unfold sg
  by_cases h0:Nat.beq o 0 = true
  ·rw [if_pos h0];exact .inl rfl
  ·rw [if_neg h0]
   induction l with
   | nil=>right;simp [lkp]
   | cons p r ih=>
    obtain ⟨a,b⟩:=p
    simp only [mgOk,List.all_cons,Bool.and_eq_true,Bool.or_eq_true,beq_iff_eq] at hm
    simp only [lkp]
    split
    ·rename_i e
     have e:a = o:=Nat.eq_of_beq_eq_true e
     subst e
     rcases hm.1 with (h | h) | h
     ·left;simpa using h
     ·exact (h2 h).elim
     ·exact (h3 (by simpa using h)).elim
    ·exact ih (by simpa [mgOk] using hm.2)
 obtain ⟨g1,_,g3⟩:=hb.old i hi (key l _ h h2 h3)
 exact ⟨by rw [g1,h1],by rw [hb.m,e1];exact g3⟩
end chm
section rules
variable {E:Env} {lo:List Nat} {fl:Nat} {loose:Nat->Bool} {lim:Option Nat} {ops:Array Oper} {os:List Oper}
variable {l:LE} {m:Mem} {n n0:Nat} {K:LE->Mem->Nat->Prop}
variable {d:Nat} {ty t:TypeId} {pos:String} {af:Array Edge} {S:Cx fl}
theorem WO.callG {f:Operand} {xs:Array Operand} {ats:Array TypeId} {g:Nat} {caps:List (Nat × Nat)} {args:List AV} {R:AV->Cx fl->Prop} (p q:List (Nat × Nat)) (hf:evK l f = some (.sc (.fn g caps))) (ha:xs.toList.mapM (evK l) = some args)
 (hr:Ret E fl g (args ++ caps.map fun p=>.sc (.ptr p.1 p.2)) S.m S.n (fun v m' n'=>∃ S':Cx fl,S'.m = m'/\S'.n = n'/\ChM (S.mp p) S'/\R v S'))
 (h:∀ v S' S1,Bak p q S S' S1->R v S'->WO E loose fl lim ops os ((d,v) :: l) S1.m S1.n K) (hl:loose g = false:=by rfl):
 WO E loose fl lim ops (⟨some d,.call ⟨.value f,xs,ats⟩,ty,pos,af,none⟩ :: os) l S.m S.n K:=by
 refine WO.call hf ha ?_
 rw [hl];simp only [Bool.false_eq_true,if_false]
 refine hr.mono ?_
 rintro v m' n' ⟨S',rfl,rfl,hM,hR⟩
 obtain ⟨S1,hb⟩:=Bak.mk' p q hM
 have:=h v S' S1 hb hR
 rw [hb.m,hb.n] at this
 exact this
end rules
theorem SV.mem_blks {v:SV} {i:Nat}:i∈v.blks↔v.blk = some i:=by
 cases v <;> simp [SV.blks,SV.blk,eq_comm]
def BK {fl:Nat} (S:Cx fl) (k:Nat) (v:SV):Prop:=∀ b,v.blk = some b->b < S.n/\S.ow b = k
def NB (v w:SV):Prop:=∀ b,v.blk = some b->w.blk≠some b
def GE (n:Nat) (v:SV):Prop:=∀ b,v.blk = some b->n<=b
section bk
variable {α:Type} {A:Lay α} {fl k j:Nat} {S S':Cx fl} {v w:SV} {L:List α}
theorem Ow.bko (h:Ow A S k v L):BK S k v:=fun b hb=>⟨(h.blk_ow hb).2,(h.blk_ow hb).1⟩
theorem RO.bkz {zi:Nat->Prop} {m:Mem} (h:RO A (fun i=>i < S.n/\S.ow i = k) zi m v L):BK S k v:=by
 intro b hb
 rcases h with ⟨h1,_⟩ | ⟨i,o,c,cs,h1,_,h3,_⟩
 ·rcases h1 with rfl | rfl
  ·cases hb
  ·cases hb
 ·subst h1;cases hb;exact h3
theorem Rd.bko (h:Rd A S v L):BK S 0 v:=RO.bkz h
theorem Bk.bko {a:α} (h:Bk A S k v a):BK S k v:=by
 obtain ⟨b,cs,rfl,_,h2,h3,_⟩:=h
 intro b' hb;cases hb;exact ⟨h2,h3⟩
theorem Bw.bko {cs:List SV} (h:Bw S k v cs):BK S k v:=by
 obtain ⟨b,rfl,_,h2,h3,_⟩:=h
 intro b' hb;cases hb;exact ⟨h2,h3⟩
theorem BK.nb (h:BK S k v) (g:BK S j w) (hkj:Nat.beq k j = false:=by rfl):NB v w:=fun b hb hw=>Go.Am.nb hkj ((h b hb).2.symm.trans (g b hw).2)
theorem BK.ge {n:Nat} (h:BK S k v) (g:GE n w) (hn:S.n<=n):NB v w:=fun b hb hw=>by
 have:=(h b hb).1;have:=g b hw;omega
theorem NB.symm (h:NB v w):NB w v:=fun b hb hw=>h b hw hb
theorem ptrAt_blk {i q b:Nat} (h:(ptrAt v i q).blk = some b):v.blk = some b:=by
 cases v <;> simp [ptrAt,SV.blk] at h ⊢ <;> exact h
theorem NB.pt {i q:Nat} (h:NB v w):NB (ptrAt v i q) w:=fun b hb=>h b (ptrAt_blk hb)
theorem NB.none (h:v.blk = .none):NB v w:=fun b hb=>by rw [h] at hb;cases hb
end bk
def valsL (l:LE):List Operand->Option (List SV)
 | []=>some []
 | x :: r=>match evK l x with
  | none=>none
  | some (.sc v)=>match valsL l r with
   | some vs=>some (v :: vs)
   | none=>none
  | some _=>valsL l r
def rdOps:Op->List Operand
 | .load _ a=>[a]
 | .store _ a _=>[a]
 | .call { callee:=.builtin .append,args:=xs,.. }=>xs.toList
 | _=>[]
def wrOps:Op->List Operand
 | .store _ a _=>[a]
 | .call { callee:=.builtin .append,args:=xs,.. }=>match xs.toList with
  | x :: _=>[x]
  | []=>[]
 | _=>[]
def dsOps:Option Nat->List Operand
 | some d=>[.tmp d]
 | none=>[]
theorem valsL_blks {t:Tr AV} {l:LE} (hs:Sees t l):∀ {xs:List Operand} {vs:List SV},valsL l xs = some vs->∀ x∈xs,∀ i∈(evT t x).blks,∃ v∈vs,v.blk = some i
 | [],_,_,x,hx,_,_=>by simp at hx
 | y :: r,vs,h,x,hx,i,hi=>by
  simp only [valsL] at h
  have he:∀ {v:AV},evK l y = some v->evT t y = v:=fun h=>evK_ev (m:=.nil) (n:=0) hs h
  split at h
  ·cases h
  ·rename_i v hv
   split at h
   ·rename_i ws hw
    cases h
    rcases List.mem_cons.1 hx with rfl | hx
    ·rw [he hv] at hi
     exact ⟨v,by simp,SV.mem_blks.1 hi⟩
    ·obtain ⟨u,h1,h2⟩:=valsL_blks hs hw x hx i hi
     exact ⟨u,by simp [h1],h2⟩
   ·cases h
  ·rename_i v hno hv
   rcases List.mem_cons.1 hx with rfl | hx
   ·rw [he hv] at hi
    cases v with
    | sc u=>exact (hno u rfl).elim
    | _=>simp [AV.blks] at hi
   ·exact valsL_blks hs h x hx i hi
def NB1 (v:SV):List SV->Prop
 | []=>True
 | w :: ws=>NB v w/\NB1 v ws
def NBs:List SV->List SV->Prop
 | [],_=>True
 | v :: vs,ws=>NB1 v ws/\NBs vs ws
theorem NB1.mem {v:SV}:∀ {ws:List SV},NB1 v ws->∀ w∈ws,NB v w
 | w :: ws,h,u,hu=>by
  rcases List.mem_cons.1 hu with rfl | hu
  ·exact h.1
  ·exact NB1.mem h.2 u hu
theorem NBs.mem:∀ {vs ws:List SV},NBs vs ws->∀ v∈vs,∀ w∈ws,NB v w
 | v :: vs,ws,h,u,hu=>by
  rcases List.mem_cons.1 hu with rfl | hu
  ·exact NB1.mem h.1
  ·exact NBs.mem h.2 u hu
theorem readsV_ops (ev:Operand->AV) (op:Op):readsV ev op = (rdOps op).flatMap fun x=>(ev x).blks:=by
 unfold readsV rdOps
 split <;> simp
theorem writesV_ops (ev:Operand->AV) (op:Op):writesV ev op = (wrOps op).flatMap fun x=>(ev x).blks:=by
 unfold writesV wrOps
 split
 ·simp
 ·split <;> simp_all
 ·simp
theorem dstB_ops (t:Tr AV) (o:Oper):dstB t o = (dsOps o.dst).flatMap fun x=>(evT t x).blks:=by
 unfold dstB
 cases o.dst with
 | none=>rfl
 | some d=>simp [dsOps,evT,St.ev]
theorem djT_of {t:Tr AV} {l:LE} (hs:Sees t l) {a b:Oper} {ra wa da rb wb:List SV} (h1:valsL l (rdOps a.op) = some ra) (h2:valsL l (wrOps a.op) = some wa) (h3:valsL l (dsOps a.dst) = some da) (h4:valsL l (rdOps b.op) = some rb) (h5:valsL l (wrOps b.op) = some wb)
 (n1:NBs wa rb) (n2:NBs da rb) (n3:NBs wb ra):djT t a b = true:=by
 unfold djT
 rw [readsV_ops,writesV_ops,readsV_ops,writesV_ops,dstB_ops]
 simp only [Bool.and_eq_true,List.all_eq_true,Bool.not_eq_true',List.contains_eq_mem,decide_eq_false_iff_not,List.mem_flatMap]
 have key:∀ {xs ys:List Operand} {vs ws:List SV},valsL l xs = some vs->valsL l ys = some ws->NBs vs ws->∀ i,(∃ y∈ys,i∈(evT t y).blks)->¬ ∃ x∈xs,i∈(evT t x).blks:=by
  rintro xs ys vs ws g1 g2 g3 i ⟨y,hy,hi⟩ ⟨x,hx,hj⟩
  obtain ⟨v,hv,ev⟩:=valsL_blks hs g1 x hx i hj
  obtain ⟨w,hw,ew⟩:=valsL_blks hs g2 y hy i hi
  exact g3.mem v hv w hw i ev ew
 exact ⟨fun i hi=>⟨key h2 h4 n1 i hi,key h3 h4 n2 i hi⟩,fun i hi=>fun hj=>key h5 h1 n3 i hj hi⟩
def coverD (lo:List Nat) (ops:Array Oper) (loose:Bool) (ps:List (Nat × Nat)):Bool:=
 ops.toList.zipIdx.all fun (o,j)=>ops.toList.zipIdx.all fun (p,i)=>!decide (i < j) || ((Region.before ops).getD j 0).testBit i || pairOkL lo ops loose p o || ps.contains (i,j)
def DJ (t:Tr AV):Option Oper->Option Oper->Prop
 | some a,some b=>djT t a b = true
 | _,_=>True
def PD (t:Tr AV) (ops:Array Oper):List (Nat × Nat)->Prop
 | []=>True
 | q :: r=>DJ t ops[q.1]? ops[q.2]?/\PD t ops r
theorem PD.mem {t:Tr AV} {ops:Array Oper} {i j:Nat} {a b:Oper} (h1:ops[i]? = some a) (h2:ops[j]? = some b):∀ (ps:List (Nat × Nat)),PD t ops ps->(i,j)∈ps->djT t a b = true:=by
 intro ps
 induction ps with
 | nil=>intro _ hm;cases hm
 | cons q r ih=>
  intro h hm
  rcases List.mem_cons.1 hm with e | hm
  ·subst e
   have h0:DJ t ops[i]? ops[j]?:=h.1
   rw [h1,h2] at h0
   exact h0
  ·exact ih h.2 hm
theorem dynOk_of {t:Tr AV} {lo:List Nat} {ops:Array Oper} {loose:Bool} (ps:List (Nat × Nat)) (hp:coverD lo ops loose ps = true) (h:PD t ops ps):dynOk lo ops loose t = true:=by
 unfold coverD at hp
 unfold dynOk
 rw [List.all_eq_true] at hp ⊢
 intro q1 h1
 have hp1:=hp q1 h1
 rw [List.all_eq_true] at hp1 ⊢
 intro q2 h2
 have hp2:=hp1 q2 h2
 obtain ⟨o,j⟩:=q1
 obtain ⟨p,i⟩:=q2
 simp only [Bool.or_eq_true] at hp2 ⊢
 rcases hp2 with g | g
 ·exact .inl g
 ·right
  rw [List.mem_zipIdx_iff_getElem?] at h1 h2
  simp only [Array.getElem?_toList] at h1 h2
  exact PD.mem h2 h1 ps h (List.contains_iff_mem.1 g)
section rules
variable {E:Env} {lo:List Nat} {fl:Nat} {loose:Nat->Bool} {lim:Option Nat} {ops:Array Oper} {os:List Oper}
variable {l:LE} {m:Mem} {n n0:Nat} {K:LE->Mem->Nat->Prop} {Q:AE->LE->Mem->Nat->Prop}
variable {α:Type} {A:Lay α} {L M:List α} {d:Nat} {ty t:TypeId} {pos:String} {af:Array Edge} {S:Cx fl}
theorem WC.drawDN {id:Nat} (hp:plainOps ops = false) (h:WO E (tgt lo id) fl (some n) ops ops.toList l m n (fun l' m' n'=>(∀ t,Sees t l'->dynOk lo ops (lo.contains id) t = true)/\Q .normal l' m' n')) (hg:gId lo id = false:=by rfl):WC E lo fl (.region id ops true) l m n Q:=WC.drawD h hg
theorem WO.bsD {len:Nat} {ps:Array (Nat × Operand)} {cs:List SV} (id:Nat) (hin:allK l (.buildSlice t len ps) = true) (hop:opA E (fun _ _ _ _ _=>none) fl lim (evL l) S.m S.n (.buildSlice t len ps) = some (.sc (.sl S.n 0 len len A.sz),S.m.set S.n cs,S.n + 1)) (hL:M.length = len)
 (hR:RL A S.fz S.m M cs) (hid:Nat.beq id 0 = false)
 (h:∀ v' S',GE S.n v'->Ch id S S'->Ow A S' id v' M->WO E loose fl lim ops os ((d,.sc v') :: l) S'.m S'.n K):WO E loose fl lim ops (⟨some d,.buildSlice t len ps,ty,pos,af,none⟩ :: os) l S.m S.n K:=by
 have hid:id≠0:=fun e=>by subst e;cases hid
 subst hL
 have hl:=hR.length
 obtain ⟨S',e1,e2,h7,h8⟩:=Ow.fresh (S:=S) (cs:=cs) (c:=M.length) (by rw [<- hl,List.take_length];exact hR) hid (by simp) hl
 refine WO.do hin hop ?_
 rw [<- e1,<- e2]
 exact h _ S' (fun b hb=>by cases hb;exact Nat.le_refl _) h7 h8
end rules
section resc
variable {E:Env} {l l0:LE} {m:Mem} {rs:List ResultVar} {vs:List AV} {fl id:Nat} {S:Cx fl} {v:SV} {cs:List SV}
theorem resK_t {t:Nat} {w:AV} (hc:Cov l l0) (h:lk l0 t = some w) (r:resK E l m rs = some vs):resK E l m (.tmp t :: rs) = some (w :: vs):=by
 simp only [resK,hc _ _ h,r]
theorem resK_w {a t sz:Nat} (hs:Bw S id v cs) (hc:Cov l l0) (h1:lk l0 a = some (.sc v)) (hT:aggT E t sz = true) (hl:Nat.beq sz cs.length = true) (r:resK E l S.m rs = some vs):resK E l S.m (.cell a t :: rs) = some (.agg cs :: vs):=by
 obtain ⟨y,q1,q2,q3,_⟩:=aggT_ok hT
 obtain ⟨b,rfl,_,_,_,h5⟩:=hs
 have hl:=Nat.eq_of_beq_eq_true hl
 simp only [resK,hc _ _ h1,r,loadA,limOk,if_true,h5,part,q1,q2,q3,Nat.zero_add,hl,Nat.le_refl,List.drop_zero,Option.map_some]
 rw [List.take_of_length_le (by omega)]
end resc
section rules
variable {E:Env} {lo:List Nat} {fl:Nat} {loose:Nat->Bool} {lim:Option Nat} {ops:Array Oper} {os:List Oper}
variable {l:LE} {m m0:Mem} {n n0:Nat} {K:LE->Mem->Nat->Prop}
variable {d:Nat} {ty t:TypeId} {pos:String} {af:Array Edge} {x y:Operand} {v w:SV} {k k':IntKind} {s:SV}
variable {α:Type} {A:Lay α} {S:Cx fl} {L L' M:List α} {u:α} {j b q:Nat} {id:Nat}
theorem WO.slcO {hi':Int} {y2:Operand} (hx:evK l x = some (.sc v)) (hhi:evK l y2 = some (.sc (.int k hi'))) (hs:Ow A S id v L) (hM:sub? L 0 hi' = some M) (hT:slTs E t A.sz = true)
 (h:∀ w,Ow A S id w M->WO E loose fl lim ops os ((d,.sc w) :: l) S.m S.n K):WO E loose fl lim ops (⟨some d,.slice t x none (some y2) none,ty,pos,af,none⟩ :: os) l S.m S.n K:=by
 obtain ⟨⟨_,q1,q2⟩,rfl⟩:=sub?_some hM
 rcases hs with ⟨rfl,rfl⟩ | ⟨b,c,cs,rfl,h2,h3,h4,h5,h6,h7,h8⟩
 ·simp only [List.length_nil] at q2
  have e0:hi' = 0:=by omega
  subst e0
  obtain ⟨yt,e,e1,e2,e3,e4,_⟩:=slTs_ok hT
  refine ⟨fun tt ht=>W_op2 ?_ ((h .nils (.inl ⟨rfl,by simp⟩)).put ht)⟩
  simp only [opA,orA,evK_ev ht hx,evK_ev ht hhi,Option.map_some,Option.map_none,sliceA,e1,e2,e3,e4,boundA]
  simp
 ·refine WO.slHto hx hhi ⟨q1,by omega⟩ hT (h _ (.inr ⟨b,c,cs,?_,h2,h3,h4,?_,h6,h7,?_⟩))
  ·simp only [Int.toNat_zero,List.drop_zero,List.length_take]
   rw [Nat.min_eq_left (by omega)]
  ·simp only [Int.toNat_zero,List.drop_zero,List.length_take];omega
  ·have:=RL.take hi'.toNat h8
   rw [List.take_take,Nat.min_eq_left (Nat.mul_le_mul_right _ (by omega))] at this
   simp only [Int.toNat_zero,List.drop_zero,List.length_take]
   rw [Nat.min_eq_left (by omega)]
   exact this
theorem Bk.lt (h:Bk A S id v u):Lt v S.n:=by obtain ⟨b,cs,rfl,_,h4,_⟩:=h;intro c hc;cases hc;exact h4
theorem WO.ldBz {sz:Nat} {f:α->List SV} {hf:∀ a,(f a).length = sz} {p:SV} (hx:evK l x = some (.sc p)) (hp:p = ptrAt v j q) (hs:Bk (Lay.flat sz f hf) S id v u) (hc:(f u)[q]? = some s) (hT:oneT E t = true) (hv:Lt v n0) (hl:limLe lim n0 = true)
 (h:WO E loose fl lim ops os ((d,.sc s) :: l) S.m S.n K):WO E loose fl lim ops (⟨some d,.load t x,ty,pos,af,none⟩ :: os) l S.m S.n K:=⟨fun tt ht=>by
 subst hp
 obtain ⟨y,h1,h2,h3,_⟩:=oneT_ok hT
 refine W_op2 ?_ (h.put ht)
 obtain ⟨b,cs,rfl,_,h4,_,h5,h6⟩:=hs
 have h6:cs = f u:=h6
 subst h6
 simp only [opA,orA,evK_ev ht hx,ptrAt,loadA,hv.lim hl rfl,if_true,h5,part,h1,h2,h3,or_self,if_false,Nat.zero_add,hc,Option.map_some]⟩
theorem WO.ldBAz {sz:Nat} {f:α->List SV} {hf:∀ a,(f a).length = sz} {p:SV} (hx:evK l x = some (.sc p)) (hp:p = ptrAt v j 0) (hs:Bk (Lay.flat sz f hf) S id v u) (hT:aggT E t sz = true) (hv:Lt v n0) (hl:limLe lim n0 = true)
 (h:WO E loose fl lim ops os ((d,.agg (f u)) :: l) S.m S.n K):WO E loose fl lim ops (⟨some d,.load t x,ty,pos,af,none⟩ :: os) l S.m S.n K:=⟨fun tt ht=>by
 subst hp
 obtain ⟨y,h1,h2,h3,_⟩:=aggT_ok hT
 refine W_op2 ?_ (h.put ht)
 obtain ⟨b,cs,rfl,_,h4,_,h5,h6⟩:=hs
 have h6:cs = f u:=h6
 subst h6
 have:=hf u
 simp only [opA,orA,evK_ev ht hx,ptrAt,loadA,hv.lim hl rfl,if_true,h5,part,h1,h2,h3,Nat.zero_add,this,Nat.le_refl,List.drop_zero,Option.map_some]
 rw [List.take_of_length_le (by omega)]⟩
end rules
section rules
variable {E:Env} {lo:List Nat} {fl:Nat} {loose:Nat->Bool} {lim:Option Nat} {ops:Array Oper} {os:List Oper}
variable {l:LE} {m:Mem} {n:Nat} {K:LE->Mem->Nat->Prop}
variable {d:Nat} {ty t t1:TypeId} {pos:String} {af:Array Edge} {x y i:Operand} {v w:SV} {k k':IntKind} {a b:Int}
variable {α:Type} {A:Lay α} {S:Cx fl} {L L' M:List α} {j q:Nat} {u:α} {s:SV} {id:Nat}
def slTb (E:Env) (t sz bnd:Nat):Bool:=slTs E t sz && (match E.ty t with
 | some y=>(match E.ty y.elem with
  | some e=>decide (bnd * e.bytes<=140737488355328)
  | none=>false)
 | none=>false)
theorem WO.appN {y2:Operand} {zo:Nat->Prop} {bnd:Nat} (hx:evK l x = some (.sc v)) (hy:evK l y2 = some (.sc w)) (hs:Ow A S id v []) (hs2:RO A zo S.fz S.m w L') (hM:L'.length<=bnd) (hb:bnd<=9223372036854775807) (hT:slTb E t A.sz bnd = true) (hid:Nat.beq id 0 = false)
 (h:∀ v' S',Ch id S S'->Ow A S' id v' L'->WO E loose fl lim ops os ((d,.sc v') :: l) S'.m S'.n K):
 WO E loose fl lim ops (⟨some d,.call ⟨.builtin .append,#[x,y2],#[t,t]⟩,ty,pos,af,none⟩ :: os) l S.m S.n K:=⟨fun tt ht=>by
 have hid:id≠0:=fun e=>by subst e;cases hid
 unfold slTb at hT
 simp only [Bool.and_eq_true] at hT
 obtain ⟨hT,hT2⟩:=hT
 obtain ⟨z,e,h1,h2,h3,h4,h5,h5',h6⟩:=slTs_ok hT
 simp only [h1,h3,decide_eq_true_eq] at hT2
 obtain ⟨new,q1,q2⟩:=hs2.elems
 obtain ⟨old,q3,q4⟩:=hs.ro.elems
 have holdc:∀ b c,v = .sl b 0 ([]:List α).length c A.sz->∀ cs,S.m.get b = some cs->old = cs.take (([]:List α).length * A.sz):=by
  intro b c e cs hcs
  subst e
  simp only [elemsA,hcs] at q3
  rw [if_neg (by simp)] at q3
  split at q3
  ·cases q3;rfl
  ·cases q3
 have hby:(([]:List α).length + L'.length) * e.bytes<=140737488355328:=by
  rw [List.length_nil,Nat.zero_add];exact Nat.le_trans (Nat.mul_le_mul_right _ hM) hT2
 obtain ⟨v',S',q5,q6,q7⟩:=hs.app0 hid q2 h4 hby (by simp;omega) q4 holdc
 refine W_op2 (m':=S'.m) (n':=S'.n) ?_ ((h v' S' q6 q7).put ht)
 simp only [opA,orA,callA,builtinA,List.map_cons,List.map_nil,evK_ev ht hx,evK_ev ht hy]
 simp only [List.getElem?_toArray,List.getElem?_cons_zero,List.getElem?_cons_succ,if_true,appendA,h1,h2,h3,h4,h5]
 rw [q3,q1]
 simpa [h5'] using q5⟩
end rules
section g
variable {E:Env} {lo:List Nat} {fl:Nat} {loose:Nat->Bool} {lim:Option Nat} {ops:Array Oper} {os o1 o2:List Oper} {R:List Nat}
theorem opA_nocall {c c':CallF} {lim:Option Nat} {ev:Operand->AV} {m:Mem} {n:Nat} {op:Op} (h:cls op≠3):opA E c fl lim ev m n op = opA E c' fl lim ev m n op:=by
 cases op with
 | call q=>
  obtain ⟨callee,xs,ats⟩:=q
  cases callee with
  | value f=>exact (h rfl).elim
  | _=>rfl
 | _=>rfl
theorem opsA_nocall {c c':CallF}:∀ (os:List Oper) (s:St),(os.all fun o=>cls o.op != 3) = true->opsA E c fl lim ops os s = opsA E c' fl lim ops os s
 | [],_,_=>rfl
 | o :: os,s,h=>by
  simp only [List.all_cons,Bool.and_eq_true,bne_iff_ne] at h
  have h1:stepA E c fl lim ops o s = stepA E c' fl lim ops o s:=by
   unfold stepA
   rw [opA_nocall h.1]
  simp only [opsA,h1]
  split
  ·exact opsA_nocall os _ h.2
  ·rfl
theorem opsA_app {c:CallF}:∀ (o1:List Oper) {o2:List Oper} {s s1 s2:St},opsA E c fl lim ops o1 s = some s1->opsA E c fl lim ops o2 s1 = some s2->opsA E c fl lim ops (o1 ++ o2) s = some s2
 | [],_,_,_,_,h1,h2=>by simp only [opsA] at h1;cases h1;exact h2
 | o :: r,o2,s,s1,s2,h1,h2=>by
  simp only [opsA,List.cons_append] at h1 ⊢
  split at h1
  ·exact opsA_app r h1 h2
  ·cases h1
theorem callG_le {c c':CallF} (h:CallLe c c') (R:List Nat):CallLe (callG R c) (callG R c'):=by
 intro fl f args m n r hc
 obtain ⟨h1,h2⟩:=callG_some hc
 exact callG_mk (h _ _ _ _ _ _ h1) h2
theorem callG_sub {c:CallF} {R R':List Nat} (h:∀ q∈R',q∈R):CallLe (callG R c) (callG R' c):=by
 intro fl f args m n r hc
 obtain ⟨h1,h2⟩:=callG_some hc
 exact callG_mk h1 fun q hq=>h2 q (h q hq)
def OpsG (E:Env) (R:List Nat) (loose:Nat->Bool) (fl:Nat) (lim:Option Nat) (ops:Array Oper) (os:List Oper) (s:St) (Q:St->Prop):Prop:=∃ k s',opsA E (callG R (callD (callF E k) loose)) fl lim ops os s = some s'/\Q s'
theorem OpsG.pre {s:St} {Q:St->Prop} (hc:(o1.all fun o=>cls o.op != 3) = true) (h:Ops E loose fl lim ops o1 s fun s'=>OpsG E R loose fl lim ops o2 s' Q):OpsG E R loose fl lim ops (o1 ++ o2) s Q:=by
 obtain ⟨k1,s1,h1,k2,s2,h2,h3⟩:=h
 exact ⟨k2,s2,opsA_app o1 ((opsA_nocall o1 s hc).trans h1) h2,h3⟩
theorem OpsG.nil {s:St} {Q:St->Prop} (h:Q s):OpsG E R loose fl lim ops [] s Q:=⟨0,s,rfl,h⟩
theorem OpsG.call {o:Oper} {s:St} {Q:St->Prop} {f:Operand} {xs:Array Operand} {ats:Array TypeId} {g:Nat} {caps:List (Nat × Nat)} (hop:o.op = .call ⟨.value f,xs,ats⟩) (hw:wantedA ops s o = some true)
 (hf:s.ev f = .sc (.fn g caps)) (h:Ret E (if loose g then max fl s.n else fl) g (xs.toList.map s.ev ++ caps.map fun p=>.sc (.ptr p.1 p.2)) s.m s.n (fun v m' n'=>(∀ q∈R,m'.get q = s.m.get q)/\OpsG E R loose fl lim ops os (s.put o.dst v m' n') Q)):
 OpsG E R loose fl lim ops (o :: os) s Q:=by
 obtain ⟨k1,v,m',n',h1,hR,k2,s',h2,h3⟩:=h
 refine ⟨k1 + k2,s',?_,h3⟩
 have hstep:stepA E (callG R (callD (callF E (k1 + k2)) loose)) fl lim ops o s = some (s.put o.dst v m' n'):=by
  unfold stepA
  rw [hw]
  have:=callG_mk (R:=R) (call:=callD (callF E (k1 + k2)) loose) (fl:=fl) (f:=g) (args:=xs.toList.map s.ev ++ caps.map fun p=>.sc (.ptr p.1 p.2)) (m:=s.m) (n:=s.n) (r:=(v,m',n')) (callLe_more k1 k2 _ _ _ _ _ _ h1) hR
  simp only [hop,opA,callA,hf,this]
 simp only [opsA,hstep]
 rw [Nat.add_comm]
 exact opsA_le (callG_le (callD_le (callLe_more k2 k1) _) _) _ _ _ h2
theorem Runs.drawG {id:Nat} {s:St} {Q:AE->St->Prop} (hg:gId lo id = true) (hd:dynId lo id = false) (hR:∀ q∈rdB s.t ops,q∈R) (h:OpsG E R (tgt lo id) fl (some s.n) ops ops.toList s (Q .normal)):Runs E lo fl (.region id ops true) s Q:=by
 obtain ⟨k,s',h1,h2⟩:=h
 refine ⟨k + 1,.normal,s',?_,h2⟩
 rw [run_region]
 simp only [if_true]
 have:callR lo id ops s.t (callF E k) = callG (rdB s.t ops) (callD (callF E k) (tgt lo id)):=by unfold callR;rw [hg];rfl
 rw [this,opsA_le (callG_sub hR) _ _ _ h1,Option.bind_some,chkD,hd];rfl
structure WOG (E:Env) (R:List Nat) (loose:Nat->Bool) (fl:Nat) (lim:Option Nat) (ops:Array Oper) (os:List Oper) (l:LE) (m:Mem) (n:Nat) (K:LE->Mem->Nat->Prop):Prop where
 ok:∀ t,Sees t l->OpsG E R loose fl lim ops os ⟨t,m,n⟩ fun s=>∃ l',Sees s.t l'/\K l' s.m s.n
variable {l:LE} {m:Mem} {n:Nat} {K:LE->Mem->Nat->Prop} {Q:AE->LE->Mem->Nat->Prop} {d:Nat} {ty:TypeId} {pos:String} {af:Array Edge}
theorem WOG.nil (h:K l m n):WOG E R loose fl lim ops [] l m n K:=⟨fun _ ht=>OpsG.nil ⟨l,ht,h⟩⟩
theorem WOG.pre (hc:(o1.all fun o=>cls o.op != 3) = true) (h:WO E loose fl lim ops o1 l m n fun l' m' n'=>WOG E R loose fl lim ops o2 l' m' n' K):WOG E R loose fl lim ops (o1 ++ o2) l m n K:=by
 constructor
 intro t ht
 refine OpsG.pre hc ?_
 obtain ⟨k,s',h1,l',h2,h3⟩:=h.ok t ht
 exact ⟨k,s',h1,h3.ok _ h2⟩
theorem WOG.call {f:Operand} {xs:Array Operand} {ats:Array TypeId} {g:Nat} {caps:List (Nat × Nat)} {args:List AV} (hf:evK l f = some (.sc (.fn g caps))) (ha:xs.toList.mapM (evK l) = some args)
 (h:Ret E (if loose g then max fl n else fl) g (args ++ caps.map fun p=>.sc (.ptr p.1 p.2)) m n (fun v m' n'=>(∀ q∈R,m'.get q = m.get q)/\WOG E R loose fl lim ops os ((d,v) :: l) m' n' K)):
 WOG E R loose fl lim ops (⟨some d,.call ⟨.value f,xs,ats⟩,ty,pos,af,none⟩ :: os) l m n K:=by
 constructor
 intro t ht
 have hm:∀ (ys:List Operand) (args:List AV),ys.mapM (evK l) = some args->ys.map (St.ev ⟨t,m,n⟩) = args:=by
  intro ys
  induction ys with
  | nil=>intro args h;cases h;rfl
  | cons y ys ih=>
   intro args h
   rw [List.mapM_cons] at h
   obtain ⟨v,h1,h2⟩:=Option.bind_eq_some_iff.1 h
   obtain ⟨vs,h3,h4⟩:=Option.bind_eq_some_iff.1 h2
   cases h4
   rw [List.map_cons,ih vs h3,evK_ev ht h1]
 refine OpsG.call rfl rfl (evK_ev ht hf) ?_
 rw [hm _ _ ha]
 exact h.mono fun v m' n' h'=>⟨h'.1,h'.2.ok _ (ht.set d v)⟩
theorem WOG.split (k:Nat) (hc:((os.take k).all fun o=>cls o.op != 3) = true) (h:WO E loose fl lim ops (os.take k) l m n fun l' m' n'=>WOG E R loose fl lim ops (os.drop k) l' m' n' K):WOG E R loose fl lim ops os l m n K:=by
 rw [<- List.take_append_drop k os]
 exact WOG.pre hc h
theorem WC.drawG {id:Nat} (R:List Nat) (hg:gId lo id = true) (hd:dynId lo id = false) (hp:plainOps ops = false) (hR:∀ t,Sees t l->∀ q∈rdB t ops,q∈R) (h:WOG E R (tgt lo id) fl (some n) ops ops.toList l m n (Q .normal)):WC E lo fl (.region id ops true) l m n Q:=
 ⟨fun t ht=>Runs.drawG (R:=R) hg hd (hR t ht) (h.ok t ht)⟩
end g
section vec
variable {E:Env} {lo:List Nat} {fl:Nat} {loose:Nat->Bool} {lim:Option Nat} {ops:Array Oper} {os:List Oper} {l:LE} {m:Mem} {n id:Nat} {K:LE->Mem->Nat->Prop} {d:Nat} {ty t:TypeId} {pos:String} {af:Array Edge} {x i:Operand} {v:SV} {S:Cx fl} {k:IntKind} {a:Int}
theorem WO.ldV {α:Type} {N j:Nat} {g:α->SV} {L:List α} {p:SV} (hx:evK l x = some (.sc p)) (hp:p = ptrAt v j 0) (hs:Bk (Lay.arr N g) S id v L) (hT:aggT E t N = true) (hl:limLe lim S.n = true)
 (h:L.length = N->WO E loose fl lim ops os ((d,.agg (L.map g)) :: l) S.m S.n K):WO E loose fl lim ops (⟨some d,.load t x,ty,pos,af,none⟩ :: os) l S.m S.n K:=⟨fun tt ht=>by
 subst hp
 obtain ⟨y,h1,h2,h3,_⟩:=aggT_ok hT
 obtain ⟨b,cs,rfl,_,h4,_,h5,h6,rfl⟩:=hs
 refine W_op2 ?_ ((h h6).put ht)
 simp only [opA,evK_ev ht hx,ptrAt,loadA,limOk_of hl h4,if_true,h5,part,h1,h2,h3,Nat.zero_add,List.length_map,h6,Nat.le_refl,List.drop_zero,Option.map_some]
 rw [List.take_of_length_le (by rw [List.length_map];omega)]⟩
end vec
structure ML (κ ν:Type) where
 y:Mt
 ek:κ->List SV
 ev:ν->SV
 dz:ν
 hz:y.zero = ev dz
 inj:∀ a b,ek a = ek b->a = b
section arr
variable {α:Type} {N:Nat} {g:α->SV} {L M:List α} {fl:Nat} {S S':Cx fl} {v w:SV} {E:Env} {loose:Nat->Bool} {lim:Option Nat} {ops:Array Oper} {os:List Oper} {l l0:LE} {id:Nat} {K:LE->Mem->Nat->Prop} {d:Nat} {ty t:TypeId} {pos:String} {af:Array Edge} {x y:Operand}
theorem WO.stV {p:SV} (hx:evK l x = some (.sc p)) (hp:p = ptrAt v 0 0) (hy:evK l y = some (.agg (M.map g))) (hs:Bk (Lay.arr N g) S id v L) (hM:M.length = N) (hT:aggT E t N = true) (hid:Nat.beq id 0 = false)
 (h:∀ S',Ch id S S'->Bk (Lay.arr N g) S' id v M->WO E loose fl lim ops os l S'.m S'.n K):WO E loose fl lim ops (⟨none,.store t x y,ty,pos,af,none⟩ :: os) l S.m S.n K:=⟨fun tt ht=>by
 have hid:id≠0:=fun e=>by subst e;cases hid
 subst hp
 obtain ⟨z,h1,h2,h3,h4⟩:=aggT_ok hT
 obtain ⟨b,cs,rfl,h5,h6,⟨h7,rfl⟩,S',e1,e2,h8,h9⟩:=hs.put (u':=M) (c:=M.map g) ⟨hM,rfl⟩ hid
 refine W_op2 (v:=.tup []) (m':=S'.m) (n':=S'.n) ?_ ((h S' h8 h9).ok tt ht)
 simp only [opA,evK_ev ht hx,evK_ev ht hy,ptrAt,storeA,AV.cells?,h1,h3,List.length_map,hM,h5,h6,h7,true_and,Nat.zero_add,Nat.le_refl,if_true]
 rw [e2,e1]
 simp only [splice,List.take_zero,List.nil_append,Nat.zero_add,List.length_map,hM]
 rw [List.drop_of_length_le (by rw [List.length_map,h7];exact Nat.le_refl _),List.append_nil];rfl⟩
theorem resK_ar {a t:Nat} {rs:List ResultVar} {vs:List AV} (hs:Bk (Lay.arr N g) S id v L) (hc:Cov l l0) (h1:lk l0 a = some (.sc v)) (hT:aggT E t N = true) (r:resK E l S.m rs = some vs):resK E l S.m (.cell a t :: rs) = some (.agg (L.map g) :: vs):=by
 obtain ⟨y,q1,q2,q3,_⟩:=aggT_ok hT
 obtain ⟨b,cs,rfl,_,_,_,h5,h6,rfl⟩:=hs
 simp only [resK,hc _ _ h1,r,loadA,limOk,if_true,h5,part,q1,q2,q3,Nat.zero_add,List.length_map,h6,Nat.le_refl,List.drop_zero,Option.map_some]
 rw [List.take_of_length_le (by rw [List.length_map];omega)]
end arr
def ckN? {α:Type} (N:Nat) (L:List α):Option Unit:=if L.length = N then some () else none
theorem ckN?_ok {α:Type} {N:Nat} {L:List α} {u:Unit} (h:ckN? N L = some u):L.length = N:=by
 unfold ckN? at h
 split at h
 ·assumption
 ·cases h
def appB? {α:Type} (bnd:Nat) (L L':List α):Option (List α):=if L.length + L'.length<=bnd then some (L ++ L') else none
theorem appB?_some {α:Type} {bnd:Nat} {L L' M:List α} (h:appB? bnd L L' = some M):L.length + L'.length<=bnd/\M = L ++ L':=by
 unfold appB? at h
 split at h
 ·cases h;exact ⟨by assumption,rfl⟩
 ·cases h
theorem appB?_ok {α:Type} {bnd:Nat} {L L':List α} (h:L.length + L'.length<=bnd):appB? bnd L L' = some (L ++ L'):=if_pos h
def delB? {α:Type} (bnd:Nat) (L:List α) (i j:Int):Option (List α):=if 0<=i/\i<=j/\j<=L.length/\0 < L.length/\L.length<=bnd then some (L.take i.toNat ++ L.drop j.toNat) else none
theorem delB?_some {α:Type} {bnd:Nat} {L M:List α} {i j:Int} (h:delB? bnd L i j = some M):(0<=i/\i<=j/\j<=L.length/\0 < L.length/\L.length<=bnd)/\M = L.take i.toNat ++ L.drop j.toNat:=by
 unfold delB? at h
 split at h
 ·cases h;exact ⟨by assumption,rfl⟩
 ·cases h
theorem delB?_ne {P:Prop} [Decidable P] {α:Type} {bnd:Nat} {L M:List α} {i j:Int} (h:(if P then delB? bnd L i j else none) = some M):0 < L.length:=by
 split at h
 ·exact (delB?_some h).1.2.2.2.1
 ·cases h
section resk
variable {E:Env} {fl:Nat} {S:Cx fl} {v:SV} {id:Nat} {l l0:LE} {rs:List ResultVar} {vs:List AV} {α:Type}
theorem resK_b {sz:Nat} {f:α->List SV} {hf:∀ a,(f a).length = sz} {u:α} {a t:Nat} (hs:Bk (Lay.flat sz f hf) S id v u) (hc:Cov l l0) (h1:lk l0 a = some (.sc v)) (hT:aggT E t sz = true) (r:resK E l S.m rs = some vs):
 resK E l S.m (.cell a t :: rs) = some (.agg (f u) :: vs):=by
 obtain ⟨y,q1,q2,q3,_⟩:=aggT_ok hT
 obtain ⟨b,cs,rfl,_,h4,_,h5,h6⟩:=hs
 have h6:cs = f u:=h6
 subst h6
 have:=hf u
 simp only [resK,hc _ _ h1,r,loadA,limOk,if_true,h5,part,q1,q2,q3,Nat.zero_add,this,Nat.le_refl,List.drop_zero,Option.map_some]
 rw [List.take_of_length_le (by omega)]
end resk
theorem Rp.isp {α:Type} {A:Lay α} {fl:Nat} {S:Cx fl} {v:SV} {u:α} (h:Rp A S v u):∃ b,v = .ptr b 0:=by obtain ⟨b,cs,h,_⟩:=h;exact ⟨b,h⟩
section rules
variable {E:Env} {fl:Nat} {loose:Nat->Bool} {lim:Option Nat} {ops:Array Oper} {os:List Oper} {l:LE} {m:Mem} {n:Nat} {K:LE->Mem->Nat->Prop} {d:Nat} {ty t:TypeId} {pos:String} {af:Array Edge} {x y z i:Operand} {v w:SV} {k k' k'':IntKind} {a b c:Int} {S:Cx fl} {id q:Nat} {α:Type} {A:Lay α} {L L' M:List α} {u:α}
theorem WO.min3 {ats:Array TypeId} (hx:evK l x = some (.sc (.int k a))) (hy:evK l y = some (.sc (.int k' b))) (hz:evK l z = some (.sc (.int k'' c))) (e1:k' = k) (e2:k'' = k) (h:WO E loose fl lim ops os ((d,.sc (.int k (minI (minI a b) c))) :: l) m n K):
 WO E loose fl lim ops (⟨some d,.call ⟨.builtin .min,#[x,y,z],ats⟩,ty,pos,af,none⟩ :: os) l m n K:=⟨fun tt ht=>by
 subst e1 e2
 exact W_op2 (by simp only [opA,callA,builtinA,List.map_cons,List.map_nil,evK_ev ht hx,evK_ev ht hy,evK_ev ht hz,foldMax,max2,Bool.false_eq_true,if_false,Option.map_some,minI];rfl) (h.put ht)⟩
theorem WO.ixRp {N:Nat} {g:α->SV} (hx:evK l x = some (.sc v)) (hs:Rp (Lay.arr N g) S v L) (hi:evK l i = some (.sc (.int k a))) (ha:0<=a/\a < L.length) (hT:arTs E t N 1 = true) (h:WO E loose fl lim ops os ((d,.sc (ptrAt v 0 a.toNat)) :: l) m n K):
 WO E loose fl lim ops (⟨some d,.indexAddr t x i,ty,pos,af,none⟩ :: os) l m n K:=by
 obtain ⟨b,cs,rfl,_,_,hl,_⟩:=hs
 have hl:L.length = N:=hl
 refine WO.ixB hx ⟨b,rfl⟩ hi (by omega) hT ?_
 rw [Nat.mul_one];exact h
theorem WO.ldRp {N:Nat} {g:α->SV} {p:SV} (hx:evK l x = some (.sc p)) (hp:p = ptrAt v 0 q) (hs:Rp (Lay.arr N g) S v L) (hu:L[q]? = some u) (hT:oneT E t = true) (hl:limLe lim S.n = true)
 (h:WO E loose fl lim ops os ((d,.sc (g u)) :: l) S.m S.n K):WO E loose fl lim ops (⟨some d,.load t x,ty,pos,af,none⟩ :: os) l S.m S.n K:=⟨fun tt ht=>by
 subst hp
 obtain ⟨y,h1,h2,h3,_⟩:=oneT_ok hT
 refine W_op2 ?_ (h.put ht)
 obtain ⟨b,cs,rfl,h4,h5,_,rfl⟩:=hs
 have hcell:(L.map g)[q]? = some (g u):=by rw [List.getElem?_map,hu];rfl
 simp only [opA,evK_ev ht hx,ptrAt,loadA,limOk_of hl h4.1,if_true,h5,part,h1,h2,h3,or_self,if_false,Nat.zero_add,hcell,Option.map_some]⟩
theorem WO.slcP {hi':Int} {y2:Operand} (hx:evK l x = some (.sc v)) (hhi:evK l y2 = some (.sc (.int k hi'))) (hs:Ow A S id v L) (hM:sub? L 0 hi' = some M) (hT:slTs E t A.sz = true)
 (h:∀ w,Wk A S id w M->Ow A S id w M->WO E loose fl lim ops os ((d,.sc w) :: l) S.m S.n K):WO E loose fl lim ops (⟨some d,.slice t x none (some y2) none,ty,pos,af,none⟩ :: os) l S.m S.n K:=
 WO.slcO hx hhi hs hM hT fun w hw=>h w hw.wk hw
theorem WO.appSB {y2:Operand} {zo:Nat->Prop} {bnd:Nat} (hx:evK l x = some (.sc v)) (hy:evK l y2 = some (.sc w)) (hs:Ow A S id v L) (hs2:RO A zo S.fz S.m w L') (hM:appB? bnd L L' = some M) (hb:Nat.ble bnd 9223372036854775807 = true) (hT:slTb E t A.sz bnd = true) (hid:Nat.beq id 0 = false)
 (h:∀ v' S',Ch id S S'->Ow A S' id v' M->WO E loose fl lim ops os ((d,.sc v') :: l) S'.m S'.n K):
 WO E loose fl lim ops (⟨some d,.call ⟨.builtin .append,#[x,y2],#[t,t]⟩,ty,pos,af,none⟩ :: os) l S.m S.n K:=⟨fun tt ht=>by
 have hid:id≠0:=fun e=>by subst e;cases hid
 have hb:bnd<=9223372036854775807:=Nat.le_of_ble_eq_true hb
 obtain ⟨hMl,rfl⟩:=appB?_some hM
 unfold slTb at hT
 simp only [Bool.and_eq_true] at hT
 obtain ⟨hT,hT2⟩:=hT
 obtain ⟨z,e,h1,h2,h3,h4,h5,h5',h6⟩:=slTs_ok hT
 simp only [h1,h3,decide_eq_true_eq] at hT2
 obtain ⟨new,q1,q2⟩:=hs2.elems
 obtain ⟨old,q3,q4⟩:=hs.ro.elems
 have holdc:∀ b c,v = .sl b 0 L.length c A.sz->∀ cs,S.m.get b = some cs->old = cs.take (L.length * A.sz):=by
  intro b c e cs hcs
  subst e
  simp only [elemsA,hcs] at q3
  rw [if_neg (by simp)] at q3
  split at q3
  ·simp only [List.drop_zero,Option.some.injEq,Prod.mk.injEq] at q3;exact q3.1.symm
  ·cases q3
 have hby:(L.length + L'.length) * e.bytes<=140737488355328:=Nat.le_trans (Nat.mul_le_mul_right _ hMl) hT2
 obtain ⟨v',S',q5,q6,q7⟩:=hs.app0 hid q2 h4 hby (by omega) q4 holdc
 refine W_op2 (m':=S'.m) (n':=S'.n) ?_ ((h v' S' q6 q7).put ht)
 simp only [opA,callA,builtinA,List.map_cons,List.map_nil,evK_ev ht hx,evK_ev ht hy]
 simp only [List.getElem?_toArray,List.getElem?_cons_zero,List.getElem?_cons_succ,if_true,appendA,h1,h2,h3,h4,h5]
 rw [q3,q1]
 simp [h5',q5]⟩
theorem WO.appHB {o ln c sz q b bnd:Nat} {cs new:List SV} (hx:evK l x = some (.sc (.sl b o ln c sz))) (hy:evK l y = some (.sc w)) (hw:elemsA m (.sc w) sz = some (new,q)) (hm:m.get b = some cs) (hle:o + c * sz<=cs.length) (hq:ln + q<=c) (hq2:ln + q<=bnd) (hb:Nat.ble bnd 9223372036854775807 = true) (hfl:fl<=b) (hT:slTb E t sz bnd = true)
 (h:WO E loose fl lim ops os ((d,.sc (.sl b o (ln + q) c sz)) :: l) (m.set b (splice cs (o + ln * sz) new)) n K):WO E loose fl lim ops (⟨some d,.call ⟨.builtin .append,#[x,y],#[t,t]⟩,ty,pos,af,none⟩ :: os) l m n K:=⟨fun tt ht=>by
 have hb:bnd<=9223372036854775807:=Nat.le_of_ble_eq_true hb
 unfold slTb at hT
 simp only [Bool.and_eq_true] at hT
 obtain ⟨hT,hT2⟩:=hT
 obtain ⟨yt,e,e1,e2,e3,e4,e5,e6,e7⟩:=slTs_ok hT
 simp only [e1,e3,decide_eq_true_eq] at hT2
 refine W_op2 ?_ (h.put ht)
 have h2:ln * sz<=c * sz:=Nat.mul_le_mul_right _ (by omega)
 have h3:(ln + q) * e.bytes<=140737488355328:=Nat.le_trans (Nat.mul_le_mul_right _ hq2) hT2
 have hel:elemsA m (.sc (.sl b o ln c sz)) sz = some ((cs.drop o).take (ln * sz),ln):=by
  simp only [elemsA,hm]
  rw [if_neg (by simp),if_pos (by omega)]
 have key:appendA E fl t (.sc (.sl b o ln c sz)) (.sc w) m n = some (.sc (.sl b o (ln + q) c sz),m.set b (splice cs (o + ln * sz) new),n):=by
  simp only [appendA,e1,e2,e3,e4]
  rw [if_neg (by simp),if_neg (by rw [e5];simp;omega),hel,hw]
  simp only [appendTo]
  rw [if_neg (by omega),if_neg (by omega),if_pos hq,hm]
  simp only
  rw [if_pos hle]
 simp only [opA,callA,builtinA,List.map_cons,List.map_nil,evK_ev ht hx,evK_ev ht hy]
 simp [key]⟩
theorem del_RL {cs zz:List SV} {p r lo:Nat} {zf:Nat->Prop} (h:RL A zf m L (cs.take (L.length * A.sz))) (h1:p<=r) (h2:r<=L.length) (hl:L.length * A.sz<=cs.length) (hlo:lo = p + (L.length - r)):
 RL A zf m (L.take p ++ L.drop r) ((splice (splice cs (0 + p * A.sz) ((cs.drop (0 + r * A.sz)).take ((L.length - r) * A.sz))) (0 + lo * A.sz) zz).take ((L.take p ++ L.drop r).length * A.sz)):=by
 subst hlo
 simp only [Nat.zero_add]
 have hlen:(L.take p ++ L.drop r).length = p + (L.length - r):=by simp;omega
 have e0:p * A.sz<=r * A.sz:=Nat.mul_le_mul_right _ h1
 have e1:r * A.sz<=L.length * A.sz:=Nat.mul_le_mul_right _ h2
 have e2:(L.length - r) * A.sz = L.length * A.sz - r * A.sz:=Nat.sub_mul _ _ _
 have e3:(p + (L.length - r)) * A.sz = p * A.sz + (L.length - r) * A.sz:=Nat.add_mul _ _ _
 have r1:=RL.append (RL.take p h) (RL.drop r h)
 have ee:(splice (splice cs (p * A.sz) ((cs.drop (r * A.sz)).take ((L.length - r) * A.sz))) ((p + (L.length - r)) * A.sz) zz).take ((p + (L.length - r)) * A.sz) = (cs.take (L.length * A.sz)).take (p * A.sz) ++ (cs.take (L.length * A.sz)).drop (r * A.sz):=by
  have hX:(splice cs (p * A.sz) ((cs.drop (r * A.sz)).take ((L.length - r) * A.sz))).take ((p + (L.length - r)) * A.sz) = cs.take (p * A.sz) ++ (cs.drop (r * A.sz)).take ((L.length - r) * A.sz):=by
   unfold splice
   rw [List.take_append_of_le_length (by simp only [List.length_append,List.length_take,List.length_drop];omega),List.take_of_length_le (by simp only [List.length_append,List.length_take,List.length_drop];omega)]
  have hY:∀ X:List SV,(p + (L.length - r)) * A.sz<=X.length->(splice X ((p + (L.length - r)) * A.sz) zz).take ((p + (L.length - r)) * A.sz) = X.take ((p + (L.length - r)) * A.sz):=by
   intro X hX
   unfold splice
   rw [List.append_assoc,List.take_append_of_le_length (by rw [List.length_take];omega),List.take_take,Nat.min_self]
  rw [hY _ (by simp only [splice,List.length_append,List.length_take,List.length_drop];omega),hX,List.take_take,Nat.min_eq_left (by omega),List.drop_take,e2]
 rw [hlen,ee]
 exact r1
theorem WO.clrB {z0:α} {lo':Int} (hs:Ow A S id v L) (hM:sub? L lo' L.length = some M) (hb:Sb v w A.sz lo'.toNat M.length) (hx:evK l x = some (.sc w)) (hz:A.R S.fz S.m z0 (slZ E t)) (hT:slTs E t A.sz = true) (hid:Nat.beq id 0 = false)
 (h:∀ S',Ch id S S'->Ow A S' id v (L.take lo'.toNat ++ List.replicate M.length z0)->WO E loose fl lim ops os l S'.m S'.n K):WO E loose fl lim ops (⟨none,.call ⟨.builtin .clear,#[x],#[t]⟩,ty,pos,af,none⟩ :: os) l S.m S.n K:=⟨fun tt ht=>by
 have hid:id≠0:=fun e=>by subst e;cases hid
 obtain ⟨⟨b1,b2,b3⟩,hMe⟩:=sub?_some hM
 have hml:M.length = L.length - lo'.toNat:=by rw [hMe,List.length_drop,List.length_take];omega
 obtain ⟨yt,e,e1,e2,e3,e4,e5,e6,e7⟩:=slTs_ok hT
 have hzz:slZ E t = e.zero:=by unfold slZ;rw [e1];simp only [e3]
 rcases hb with ⟨hw,hk0⟩ | ⟨b,o,ln,c,c',rfl,rfl,hle,hc'⟩
 ·have e0:L.take lo'.toNat ++ List.replicate M.length z0 = L:=by
   rw [hk0,List.replicate_zero,List.append_nil,List.take_of_length_le (by omega)]
  have hh:=h S (Ch.refl _ _) (by rw [e0];exact hs)
  refine W_op2 (v:=.tup []) (m':=S.m) (n':=S.n) ?_ (hh.ok tt ht)
  have key:∀ w0,w0 = SV.nils\/w0 = SV.emp->clearA E fl t (.sc w0) S.m S.n = some (.tup [],S.m,S.n):=by
   intro w0 hw0
   simp only [clearA,e1,e3]
   rw [if_neg (by simp [e2]),if_neg (by rw [e4,e5];simp)]
   rcases hw0 with rfl | rfl <;> rfl
  simp only [opA,callA,builtinA,List.map_cons,List.map_nil,evK_ev ht hx]
  exact key w hw
 ·rcases hs with ⟨hv,_⟩ | ⟨b',c2,cs,hv,h2,h3,h4,h5,h6,h7,h8⟩
  ·cases hv
  ·cases hv
   have g1:lo'.toNat * A.sz<=L.length * A.sz:=Nat.mul_le_mul_right _ (by omega)
   have g2:L.length * A.sz<=c * A.sz:=Nat.mul_le_mul_right _ h5
   have g3:M.length * A.sz = L.length * A.sz - lo'.toNat * A.sz:=by rw [hml,Nat.sub_mul]
   have hzl:(List.replicate M.length e.zero).flatten.length = M.length * A.sz:=by simp [e5]
   have hch:Ch id S (⟨S.m.set b (splice cs (0 + lo'.toNat * A.sz) (List.replicate M.length e.zero).flatten),S.n,S.ow,S.le⟩:Cx fl):=⟨Nat.le_refl _,fun i hi hk=>⟨rfl,Tr.get_set_ne _ _ (fun e=>hk (by rw [e];exact h4))⟩⟩
   have hlen:(L.take lo'.toNat ++ List.replicate M.length z0).length = L.length:=by simp;omega
   refine W_op2 (v:=.tup []) (m':=S.m.set b (splice cs (0 + lo'.toNat * A.sz) (List.replicate M.length e.zero).flatten)) (n':=S.n) ?_ ((h _ hch (.inr ⟨b,c,_,by rw [hlen],h2,h3,h4,by rw [hlen];exact h5,Tr.get_set_same _ _ _,?_,?_⟩)).ok tt ht)
   ·have key:clearA E fl t (.sc (.sl b (0 + lo'.toNat * A.sz) M.length c' A.sz)) S.m S.n = some (.tup [],S.m.set b (splice cs (0 + lo'.toNat * A.sz) (List.replicate M.length e.zero).flatten),S.n):=by
     simp only [clearA,e1,e2,e3,e4]
     rw [if_neg (by simp),if_neg (by rw [e5];simp),if_neg (by simp;omega),h6]
     try simp only
     rw [if_pos (by omega)]
    simp only [opA,callA,builtinA,List.map_cons,List.map_nil,evK_ev ht hx]
    exact key
   ·simp only [splice,List.length_append,List.length_take,List.length_drop,hzl];omega
   ·rw [hlen]
    have r1:=RL.append (RL.take lo'.toNat h8) (RL.replicate hz M.length)
    rw [hzz] at r1
    have ee:(splice cs (0 + lo'.toNat * A.sz) (List.replicate M.length e.zero).flatten).take (L.length * A.sz) = (cs.take (L.length * A.sz)).take (lo'.toNat * A.sz) ++ (List.replicate M.length e.zero).flatten:=by
     unfold splice
     rw [Nat.zero_add,List.take_append_of_le_length (by simp only [List.length_append,List.length_take,hzl];omega),List.take_of_length_le (by simp only [List.length_append,List.length_take,hzl];omega),List.take_take,Nat.min_eq_left g1]
    rw [ee]
    exact r1.frame (fz_ch hch hid)⟩
end rules
theorem eqC_str {p q:List UInt8}:eqC 3 (.str p) (.str q) = some (p == q):=rfl
section wog
variable {E:Env} {fl:Nat} {loose:Nat->Bool} {lim:Option Nat} {ops:Array Oper} {os:List Oper} {l:LE} {K:LE->Mem->Nat->Prop} {d:Nat} {ty:TypeId} {pos:String} {af:Array Edge} {S:Cx fl} {R:List Nat}
def Apt {fl:Nat} (S:Cx fl) (p:List (Nat × Nat)):List Nat->Prop
 | []=>True
 | b :: r=>(b < S.n/\(sg p (S.ow b) = 0\/1000<=sg p (S.ow b)))/\Apt S p r
theorem Apt.mem {p:List (Nat × Nat)}:∀ {R:List Nat},Apt S p R->∀ b∈R,b < S.n/\(sg p (S.ow b) = 0\/1000<=sg p (S.ow b))
 | _ :: _,h,b,hb=>by
  rcases List.mem_cons.1 hb with rfl | hb
  ·exact h.1
  ·exact Apt.mem h.2 b hb
theorem Bk.apt {α:Type} {A:Lay α} {id b:Nat} {u:α} {p:List (Nat × Nat)} (h:Bk A S id (.ptr b 0) u) (e:Nat.ble 1000 (sg p id) = true):b < S.n/\(sg p (S.ow b) = 0\/1000<=sg p (S.ow b)):=by
 obtain ⟨b',cs,e1,_,h3,h4,_⟩:=h
 cases e1
 exact ⟨h3,.inr (by rw [h4];exact Nat.le_of_ble_eq_true e)⟩
theorem WOG.callG {f:Operand} {xs:Array Operand} {ats:Array TypeId} {g:Nat} {caps:List (Nat × Nat)} {args:List AV} {Q:AV->Cx fl->Prop} (p q:List (Nat × Nat)) (hA:Apt S p R) (hf:evK l f = some (.sc (.fn g caps))) (ha:xs.toList.mapM (evK l) = some args)
 (hr:Ret E fl g (args ++ caps.map fun p=>.sc (.ptr p.1 p.2)) S.m S.n (fun v m' n'=>∃ S':Cx fl,S'.m = m'/\S'.n = n'/\ChM (S.mp p) S'/\Q v S'))
 (h:∀ v S' S1,Bak p q S S' S1->Q v S'->WOG E R loose fl lim ops os ((d,v) :: l) S1.m S1.n K) (hl:loose g = false:=by rfl):
 WOG E R loose fl lim ops (⟨some d,.call ⟨.value f,xs,ats⟩,ty,pos,af,none⟩ :: os) l S.m S.n K:=by
 refine WOG.call hf ha ?_
 rw [hl];simp only [Bool.false_eq_true,if_false]
 refine hr.mono ?_
 rintro v m' n' ⟨S',rfl,rfl,hM,hR⟩
 obtain ⟨S1,hb⟩:=Bak.mk' p q hM
 refine ⟨fun i hi=>?_,?_⟩
 ·obtain ⟨h1,h2⟩:=hA.mem i hi
  exact (hb.old i h1 h2).2.2
 ·have:=h v S' S1 hb hR
  rw [hb.m,hb.n] at this
  exact this
def ldOs:Op->List Operand
 | .load _ a=>[a]
 | _=>[]
def rdOs:List Oper->List Operand
 | []=>[]
 | o :: r=>ldOs o.op ++ rdOs r
theorem ldB_os (t:Tr AV) (o:Oper):ldB t o = (ldOs o.op).flatMap fun x=>(evT t x).blks:=by
 obtain ⟨dst,op,_,_,_,_⟩:=o
 cases op <;> first | rfl | simp [ldB,ldOs]
theorem rdB_os {t:Tr AV} {ops:Array Oper}:rdB t ops = (rdOs ops.toList).flatMap fun x=>(evT t x).blks:=by
 unfold rdB
 generalize ops.toList = L
 induction L with
 | nil=>rfl
 | cons o r ih=>rw [List.flatMap_cons,ih,ldB_os,rdOs,List.flatMap_append]
theorem rdB_in {t:Tr AV} {l:LE} {ops:Array Oper} {vs:List SV} (hs:Sees t l) (hv:valsL l (rdOs ops.toList) = some vs) (hR:vs.all (fun v=>match v.blk with | some b=>R.contains b | none=>true) = true):∀ q∈rdB t ops,q∈R:=by
 intro q hq
 rw [rdB_os] at hq
 obtain ⟨x,hx,hq⟩:=List.mem_flatMap.1 hq
 obtain ⟨v,h1,h2⟩:=valsL_blks hs hv x hx q hq
 have:=List.all_eq_true.1 hR v h1
 rw [h2] at this
 simpa using this
end wog
end Go.Am
namespace Go.Proofs.YtkhokgkgloligaaDoor
open Go.Am
abbrev Y35:Lay (Int × Int × (List UInt8) × (List UInt8)):=Lay.flat 4 (fun a=>[.int .i64 a.1,.int .i64 a.2.1,.str a.2.2.1,.str a.2.2.2]) fun _=>rfl
abbrev Y27:Lay (List (Int × Int × (List UInt8) × (List UInt8))):=Lay.sl Y35
abbrev Y60:Lay ((List UInt8) × Int × Int):=Lay.flat 3 (fun a=>[.str a.1,.int .i64 a.2.1,.int .i64 a.2.2]) fun _=>rfl
abbrev Y63:Lay ((List UInt8) × (List UInt8) × Int):=Lay.flat 3 (fun a=>[.str a.1,.str a.2.1,.int .i64 a.2.2]) fun _=>rfl
abbrev Y37:Lay ((List UInt8) × Int):=Lay.flat 2 (fun a=>[.str a.1,.int .i64 a.2]) fun _=>rfl
abbrev Y3:Lay Int:=Lay.one (SV.int .i64)
abbrev Y122:Lay (List Bool):=Lay.arr 256 SV.bool
abbrev Y9:Lay (List UInt8):=Lay.one SV.str
abbrev Y24:Lay Int:=Lay.one (SV.int .i64)
abbrev Y114:Lay ((List UInt8) × Int × Int):=Lay.flat 3 (fun a=>[.str a.1,.int .i64 a.2.1,.int .i64 a.2.2]) fun _=>rfl
abbrev Y134:Lay ((List UInt8) × (List UInt8) × Int):=Lay.flat 3 (fun a=>[.str a.1,.str a.2.1,.int .i64 a.2.2]) fun _=>rfl
abbrev Y5:Lay Int:=Lay.one (SV.int .u8)
def F13 (F:Nat) (t0:(List ((List UInt8) × Int × Int))):Option ((List ((List UInt8) × Int × Int))):=if t0.length<=4398046511104 then some t0 else none
def F14 (F:Nat) (t0:(List ((List UInt8) × (List UInt8) × Int))):Option ((List ((List UInt8) × (List UInt8) × Int))):=if t0.length<=3518437208883 then some t0 else none
def F15_l0 (F:Nat) (t0:(List ((List UInt8) × Int × Int)) × (List ((List UInt8) × (List UInt8) × Int))) (s5:(List Int) × (List Int) × Int):Option (Stp ((List Int) × (List Int) × Int) ((List Int) × (List Int))):=
 if (decide (s5.2.2 < (t0.1.length:Int))) then
 ((at? t0.1 s5.2.2).bind fun x19=>
 (app? s5.1 ([((x19.1,x19.2.1,x19.2.2)).2.1])).bind fun L42=>
 (app? s5.2.1 ([((x19.1,x19.2.1,x19.2.2)).2.2])).bind fun L66=>
 some (.more ((L42,L66,(wrapA .i64 (s5.2.2 + 1))))))
 else
 some (.stop ((s5.1,s5.2.1)))
def F15 (F:Nat) (t0:(List ((List UInt8) × Int × Int)) × (List ((List UInt8) × (List UInt8) × Int))):Option ((List Int) × (List Int)):=
 (iter (F15_l0 F t0) F ([],[],0)).bind fun b104=>
 some ((b104.1,b104.2))
def F16_l0 (F:Nat) (s1:(List Int) × Int) (x11:Int) (s13:(List Int) × Int):Option (Stp ((List Int) × Int) ((List Int))):=
 if (decide (s13.2 < x11)) then
 ((app? s13.1 ([s1.2])).bind fun L27=>
 some (.more ((L27,(wrapA .i64 (s13.2 + 1))))))
 else
 some (.stop s13.1)
def F16_l1 (F:Nat) (t0:List Int) (s1:(List Int) × Int):Option (Stp ((List Int) × Int) ((List Int))):=
 if (decide (s1.2 < (t0.length:Int))) then
 ((at? t0 s1.2).bind fun x11=>
 (iter (F16_l0 F s1 x11) F (s1.1,0)).bind fun b33=>
 some (.more ((b33,(wrapA .i64 (s1.2 + 1))))))
 else
 some (.stop s1.1)
def F16 (F:Nat) (t0:List Int) (t1:Int):Option (Int × Int):=
 (iter (F16_l1 F t0) F ([],0)).bind fun b38=>
 if ((b38.length:Int) == 0) then
 (some ((0,4)))
 else
 if ((decide (t1 < 0)) || (decide (t1 ≥ (b38.length:Int)))) then
 (some ((0,1)))
 else
 (at? b38 t1).bind fun x46=>
 some ((x46,0))
def F18 (F:Nat) (t0:Int):Option Bool:=
 some ((decide (t0 > 1000000000)))
def F46_18_l0 (F:Nat) (t0:List Int) (s1:Int):Option (Stp (Int) (Unit ⊕ Int)):=
 if (decide (s1 < (t0.length:Int))) then
 ((at? t0 s1).bind fun x9=>
 (F18 F x9).bind fun r11=>
 if r11 then
 (some (.stop ((.inr s1))))
 else
 some (.more ((wrapA .i64 (s1 + 1)))))
 else
 some (.stop ((.inl ())))
def F46_18 (F:Nat) (t0:List Int):Option Int:=
 (iter (F46_18_l0 F t0) F 0).bind fun b16=>
 match b16 with
 | .inl b18=>(some ((-1)))
 | .inr b18=>(some b18)
def F17_18 (F:Nat) (t0:List Int):Option Bool:=
 (F46_18 F t0).bind fun r1=>
 some ((decide (r1 ≥ 0)))
def F19_l0 (F:Nat) (t0:List Int) (t1:List Int) (s1:Int) (s12:Bool × Int):Option (Stp (Bool × Int) (Bool)):=
 if (decide (s12.2 < (t0.length:Int))) then
 ((at? t0 s12.2).bind fun x18=>
 (if (decide (x18 > 0)) then
 ((at? t1 s12.2).bind fun x20=>
 (at? t0 s1).bind fun x22=>
 (at? t1 s1).bind fun x24=>
 (at? t0 s12.2).bind fun x26=>
 (if (decide ((wrapA .i64 (x20 * x22)) < (wrapA .i64 (x24 * x26)))) then some true else
 ((if (decide (s12.2 < s1)) then
 ((at? t1 s12.2).bind fun x28=>
 (at? t0 s1).bind fun x30=>
 (at? t1 s1).bind fun x32=>
 (at? t0 s12.2).bind fun x34=>
 some ((wrapA .i64 (x28 * x30)) == (wrapA .i64 (x32 * x34))))
  else some false).bind fun y37=>
 some y37)
 ).bind fun y40=>
 some y40)
  else some false).bind fun y43=>
 if y43 then
 (some (.more ((false,(wrapA .i64 (s12.2 + 1))))))
 else
 some (.more ((s12.1,(wrapA .i64 (s12.2 + 1))))))
 else
 some (.stop s12.1)
def F19_l1 (F:Nat) (t0:List Int) (t1:List Int) (s1:Int):Option (Stp (Int) (Unit ⊕ Int)):=
 if (decide (s1 < (t0.length:Int))) then
 ((at? t0 s1).bind fun x9=>
 if (x9 == 0) then
 (some (.more ((wrapA .i64 (s1 + 1)))))
 else
 (iter (F19_l0 F t0 t1 s1) F (true,0)).bind fun b46=>
 if b46 then
 (some (.stop ((.inr s1))))
 else
 some (.more ((wrapA .i64 (s1 + 1)))))
 else
 some (.stop ((.inl ())))
def F19 (F:Nat) (t0:List Int) (t1:List Int):Option Int:=
 (iter (F19_l1 F t0 t1) F 0).bind fun b51=>
 match b51 with
 | .inl b53=>(some ((-1)))
 | .inr b53=>(some b53)
def F67_l0 (F:Nat) (t1:Int) (s1:(List UInt8)):Option (Stp ((List UInt8)) ((List UInt8))):=
 (if (decide ((s1.length:Int) > 0)) then
 ((at? s1 (wrapA .i64 ((s1.length:Int) - 1))).bind fun x6=>
 some ((x6.toNat:Int) == t1))
  else some false).bind fun y9=>
 if y9 then
 ((sub? s1 0 (wrapA .i64 ((s1.length:Int) - 1))).bind fun x12=>
 some (.more x12))
 else
 some (.stop s1)
def F67 (F:Nat) (t0:List UInt8) (t1:Int):Option ((List UInt8)):=
 (iter (F67_l0 F t1) F t0).bind fun b14=>
 some b14
def F66_l0 (F:Nat) (t1:Int) (s1:(List UInt8)):Option (Stp ((List UInt8)) ((List UInt8))):=
 (if (decide ((s1.length:Int) > 0)) then
 ((at? s1 0).bind fun x6=>
 some ((x6.toNat:Int) == t1))
  else some false).bind fun y9=>
 if y9 then
 ((sub? s1 1 s1.length).bind fun x12=>
 some (.more x12))
 else
 some (.stop s1)
def F66 (F:Nat) (t0:List UInt8) (t1:Int):Option ((List UInt8)):=
 (iter (F66_l0 F t1) F t0).bind fun b14=>
 some b14
def F68_l0 (F:Nat) (t0:List UInt8) (s5:Int × (List Bool)):Option (Stp (Int × (List Bool)) ((List Bool) ⊕ (Bool × (List Bool)))):=
 if (decide (s5.1 < (t0.length:Int))) then
 ((at? t0 s5.1).bind fun x13=>
 if (decide ((x13.toNat:Int) ≥ 128)) then
 (some (.stop ((.inr (false,s5.2)))))
 else
 (ck s5.2 (x13.toNat:Int)).bind fun u19=>
 some (.more (((wrapA .i64 (s5.1 + 1)),(s5.2.set ((Int.toNat (x13.toNat:Int))) true)))))
 else
 some (.stop ((.inl s5.2)))
def F68 (F:Nat) (t0:List UInt8):Option ((List Bool) × Bool):=
 (iter (F68_l0 F t0) F (0,(List.replicate 256 false))).bind fun b23=>
 match b23 with
 | .inl b25=>(some ((b25,true)))
 | .inr b25=>(some ((b25.2,b25.1)))
def F83 (F:Nat) (t0:List Bool) (t1:Int):Option Bool:=
 (at? t0 t1).bind fun x1=>
 some x1
def F70_l0 (F:Nat) (t1:List Bool) (s1:(List UInt8)):Option (Stp ((List UInt8)) ((List UInt8))):=
 if (decide ((s1.length:Int) > 0)) then
 ((at? s1 (wrapA .i64 ((s1.length:Int) - 1))).bind fun x7=>
 (F83 F t1 ((x7.toNat:Int))).bind fun r9=>
 if (!r9) then
 (some (.stop s1))
 else
 (sub? s1 0 (wrapA .i64 ((s1.length:Int) - 1))).bind fun x14=>
 some (.more x14))
 else
 some (.stop s1)
def F70 (F:Nat) (t0:List UInt8) (t1:List Bool):Option ((List UInt8)):=
 (iter (F70_l0 F t1) F t0).bind fun b16=>
 some b16
def F69_l0 (F:Nat) (t1:List Bool) (s1:(List UInt8)):Option (Stp ((List UInt8)) ((List UInt8))):=
 if (decide ((s1.length:Int) > 0)) then
 ((at? s1 0).bind fun x7=>
 (F83 F t1 ((x7.toNat:Int))).bind fun r9=>
 if (!r9) then
 (some (.stop s1))
 else
 (sub? s1 1 s1.length).bind fun x14=>
 some (.more x14))
 else
 some (.stop s1)
def F69 (F:Nat) (t0:List UInt8) (t1:List Bool):Option ((List UInt8)):=
 (iter (F69_l0 F t1) F t0).bind fun b16=>
 some b16
def F47 (F:Nat) (t0:List UInt8) (t1:List UInt8):Option ((List UInt8)):=
 if ((t0 == []) || (t1 == [])) then
 (some t0)
 else
 (if ((t1.length:Int) == 1) then
 ((at? t1 0).bind fun x3=>
 some (decide ((x3.toNat:Int) < 128)))
  else some false).bind fun y6=>
 if y6 then
 ((at? t1 0).bind fun x9=>
 (F67 F t0 ((x9.toNat:Int))).bind fun r11=>
 (at? t1 0).bind fun x15=>
 (F66 F r11 ((x15.toNat:Int))).bind fun r17=>
 some r17)
 else
 (F68 F t1).bind fun r21=>
 (ckN? 256 r21.1).bind fun u31=>
 if r21.2 then
 ((F70 F t0 r21.1).bind fun r35=>
 (F69 F r35 r21.1).bind fun r39=>
 some r39)
 else
 none
def F20 (F:Nat) (t0:List UInt8):Option Bool:=
 (if ((!(t0 == [])) && (decide ((t0.length:Int) < 13))) then
 ((F47 F t0 ([97,98,99,100,101,102,103,104,105,106,107,108,109,110,111,112,113,114,115,116,117,118,119,120,121,122])).bind fun r2=>
 some (r2 == []))
  else some false).bind fun y7=>
 some y7
def F49 (F:Nat) (t0:(List UInt8) × Int × Int) (c0:List UInt8):Option Bool:=
 some ((((t0.1,t0.2.1,t0.2.2)).1 == c0))
def F48_49_l0 (F:Nat) (t0:List ((List UInt8) × Int × Int)) (t1c0:List UInt8) (s1:Int):Option (Stp (Int) (Unit ⊕ Int)):=
 if (decide (s1 < (t0.length:Int))) then
 ((at? t0 s1).bind fun x9=>
 (F49 F ((x9.1,x9.2.1,x9.2.2)) t1c0).bind fun r11=>
 if r11 then
 (some (.stop ((.inr s1))))
 else
 some (.more ((wrapA .i64 (s1 + 1)))))
 else
 some (.stop ((.inl ())))
def F48_49 (F:Nat) (t0:List ((List UInt8) × Int × Int)) (t1c0:List UInt8):Option Int:=
 (iter (F48_49_l0 F t0 t1c0) F 0).bind fun b16=>
 match b16 with
 | .inl b18=>(some ((-1)))
 | .inr b18=>(some b18)
def F21 (F:Nat) (t0:(List ((List UInt8) × Int × Int)) × (List ((List UInt8) × (List UInt8) × Int))) (t1:List UInt8):Option Int:=
 (F48_49 F t0.1 t1).bind fun r10=>
 some r10
def F23 (F:Nat) (t0:(List UInt8) × (List UInt8) × Int):Option Bool:=
 some ((((t0.1,t0.2.1,t0.2.2)).2.2 == 0))
def F50_23_l0 (F:Nat) (t0:List ((List UInt8) × (List UInt8) × Int)) (s1:Int):Option (Stp (Int) (Unit ⊕ Int)):=
 if (decide (s1 < (t0.length:Int))) then
 ((at? t0 s1).bind fun x9=>
 (F23 F ((x9.1,x9.2.1,x9.2.2))).bind fun r11=>
 if r11 then
 (some (.stop ((.inr s1))))
 else
 some (.more ((wrapA .i64 (s1 + 1)))))
 else
 some (.stop ((.inl ())))
def F50_23 (F:Nat) (t0:List ((List UInt8) × (List UInt8) × Int)):Option Int:=
 (iter (F50_23_l0 F t0) F 0).bind fun b16=>
 match b16 with
 | .inl b18=>(some ((-1)))
 | .inr b18=>(some b18)
def F22_23_l0 (F:Nat)  (s6:Int × Int × (List ((List UInt8) × (List UInt8) × Int))):Option (Stp (Int × Int × (List ((List UInt8) × (List UInt8) × Int))) (Int × (List ((List UInt8) × (List UInt8) × Int)))):=
 if (decide (s6.2.1 < (s6.2.2.length:Int))) then
 ((at? s6.2.2 s6.2.1).bind fun x12=>
 (F23 F ((((x12.1,x12.2.1,x12.2.2)).1,((x12.1,x12.2.1,x12.2.2)).2.1,((x12.1,x12.2.1,x12.2.2)).2.2))).bind fun r20=>
 if (!r20) then
 ((ck s6.2.2 s6.1).bind fun u25=>
 some (.more (((wrapA .i64 (s6.1 + 1)),(wrapA .i64 (s6.2.1 + 1)),(s6.2.2.set ((Int.toNat s6.1)) ((((x12.1,x12.2.1,x12.2.2)).1,((x12.1,x12.2.1,x12.2.2)).2.1,((x12.1,x12.2.1,x12.2.2)).2.2)))))))
 else
 some (.more ((s6.1,(wrapA .i64 (s6.2.1 + 1)),s6.2.2))))
 else
 some (.stop ((s6.1,s6.2.2)))
def F22_23 (F:Nat) (t0:List ((List UInt8) × (List UInt8) × Int)):Option ((List ((List UInt8) × (List UInt8) × Int))):=
 (F50_23 F t0).bind fun r1=>
 if (r1 == (-1)) then
 (some t0)
 else
 (iter (F22_23_l0 F) F (r1,(wrapA .i64 (r1 + 1)),t0)).bind fun b29=>
 (sub? b29.2 b29.1 b29.2.length).bind fun L33=>
 (sub? ((b29.2.take (Int.toNat b29.1) ++ List.replicate L33.length (([],[],0):(List UInt8) × (List UInt8) × Int))) 0 b29.1).bind fun L40=>
 some L40
def F5_l0 (F:Nat) (t1:Int × Int × (List UInt8) × (List UInt8)) (r17:List ((List UInt8) × Int × Int)) (r23:List ((List UInt8) × (List UInt8) × Int)) (s847:Int × (List ((List UInt8) × Int × Int)) × (List ((List UInt8) × (List UInt8) × Int)) × ((List UInt8) × Int)):Option (Stp (Int × (List ((List UInt8) × Int × Int)) × (List ((List UInt8) × (List UInt8) × Int)) × ((List UInt8) × Int)) (((List ((List UInt8) × Int × Int)) × (List ((List UInt8) × (List UInt8) × Int)) × ((List UInt8) × Int)) ⊕ (Int × (List ((List UInt8) × Int × Int)) × (List ((List UInt8) × (List UInt8) × Int)) × ((List UInt8) × Int)))):=
 if (decide (s847.1 < (r23.length:Int))) then
 ((at? r23 s847.1).bind fun x865=>
 if ((((x865.1,x865.2.1,x865.2.2)).1 == ((t1.1,t1.2.1,t1.2.2.1,t1.2.2.2)).2.2.1) || (((x865.1,x865.2.1,x865.2.2)).2.1 == ((t1.1,t1.2.1,t1.2.2.1,t1.2.2.2)).2.2.1)) then
 (some (.stop ((.inr (7,r17,r23,((((([],0):(List UInt8) × Int)).1,((([],0):(List UInt8) × Int)).2):(List UInt8) × Int))))))
 else
 some (.more (((wrapA .i64 (s847.1 + 1)),s847.2.1,s847.2.2.1,s847.2.2.2))))
 else
 some (.stop ((.inl (s847.2.1,s847.2.2.1,s847.2.2.2))))
def F5_l1 (F:Nat) (r335:Int) (s1572:Int × Int × (List ((List UInt8) × Int × Int)) × (List ((List UInt8) × (List UInt8) × Int))) (r1591:Int) (s1595:Int × (List ((List UInt8) × Int × Int)) × (List ((List UInt8) × (List UInt8) × Int))):Option (Stp (Int × (List ((List UInt8) × Int × Int)) × (List ((List UInt8) × (List UInt8) × Int))) (Int × (List ((List UInt8) × Int × Int)) × (List ((List UInt8) × (List UInt8) × Int)))):=
 (at? s1595.2.2 s1572.2.1).bind fun x1608=>
 (if (decide (x1608.2.2 > 0)) then
 ((at? s1595.2.1 r1591).bind fun x1610=>
 some (decide (x1610.2.1 > 0)))
  else some false).bind fun y1613=>
 (if y1613 then
 ((at? s1595.2.1 r335).bind fun x1615=>
 some (decide (x1615.2.1 < 100)))
  else some false).bind fun y1618=>
 if y1618 then
 ((at? s1595.2.2 s1572.2.1).bind fun x1621=>
 (at? s1595.2.2 s1572.2.1).bind fun x1623=>
 (at? s1595.2.1 r1591).bind fun x1627=>
 (at? s1595.2.1 r1591).bind fun x1629=>
 (at? ((s1595.2.1.set ((Int.toNat r1591)) ((x1629.1,(wrapA .i64 (x1627.2.1 - 1)),x1629.2.2)))) r335).bind fun x1633=>
 (at? ((s1595.2.1.set ((Int.toNat r1591)) ((x1629.1,(wrapA .i64 (x1627.2.1 - 1)),x1629.2.2)))) r335).bind fun x1635=>
 some (.more (((wrapA .i64 (s1595.1 + 1)),(((s1595.2.1.set ((Int.toNat r1591)) ((x1629.1,(wrapA .i64 (x1627.2.1 - 1)),x1629.2.2)))).set ((Int.toNat r335)) ((x1635.1,(wrapA .i64 (x1633.2.1 + 1)),x1635.2.2))),(s1595.2.2.set ((Int.toNat s1572.2.1)) ((x1623.1,x1623.2.1,(wrapA .i64 (x1621.2.2 - 1)))))))))
 else
 some (.stop ((s1595.1,s1595.2.1,s1595.2.2)))
def F5_l2 (F:Nat) (t1:Int × Int × (List UInt8) × (List UInt8)) (r335:Int) (s1572:Int × Int × (List ((List UInt8) × Int × Int)) × (List ((List UInt8) × (List UInt8) × Int))):Option (Stp (Int × Int × (List ((List UInt8) × Int × Int)) × (List ((List UInt8) × (List UInt8) × Int))) (Int × (List ((List UInt8) × Int × Int)) × (List ((List UInt8) × (List UInt8) × Int)))):=
 if (decide (s1572.2.1 ≥ 0)) then
 ((at? s1572.2.2.2 s1572.2.1).bind fun x1586=>
 if (!(x1586.1 == ((t1.1,t1.2.1,t1.2.2.1,t1.2.2.2)).2.2.1)) then
 (some (.more ((s1572.1,(wrapA .i64 (s1572.2.1 - 1)),s1572.2.2.1,s1572.2.2.2))))
 else
 (at? s1572.2.2.2 s1572.2.1).bind fun x1589=>
 (F21 F ((s1572.2.2.1,s1572.2.2.2)) x1589.2.1).bind fun r1591=>
 (iter (F5_l1 F r335 s1572 r1591) F (s1572.1,s1572.2.2.1,s1572.2.2.2)).bind fun b1639=>
 some (.more ((b1639.1,(wrapA .i64 (s1572.2.1 - 1)),b1639.2.1,b1639.2.2))))
 else
 some (.stop ((s1572.1,s1572.2.2.1,s1572.2.2.2)))
def F5 (F:Nat) (t0:(List ((List UInt8) × Int × Int)) × (List ((List UInt8) × (List UInt8) × Int))) (t1:Int × Int × (List UInt8) × (List UInt8)):Option (((List ((List UInt8) × Int × Int)) × (List ((List UInt8) × (List UInt8) × Int))) × ((List UInt8) × Int) × Int):=
 (F13 F t0.1).bind fun r17=>
 (F14 F t0.2).bind fun r23=>
 if ((decide (((t1.1,t1.2.1,t1.2.2.1,t1.2.2.2)).1 < 1)) || (decide (((t1.1,t1.2.1,t1.2.2.1,t1.2.2.2)).1 > 7))) then
 (some (((r17,r23),((((((([],0):(List UInt8) × Int)).1,((([],0):(List UInt8) × Int)).2):(List UInt8) × Int)).1,(((((([],0):(List UInt8) × Int)).1,((([],0):(List UInt8) × Int)).2):(List UInt8) × Int)).2),1)))
 else
 (F15 F ((r17,r23))).bind fun r111=>
 if ((((t1.1,t1.2.1,t1.2.2.1,t1.2.2.2)).1 == 5) || (((t1.1,t1.2.1,t1.2.2.1,t1.2.2.2)).1 == 7)) then
 ((show Option (Int × Int) from (if (((t1.1,t1.2.1,t1.2.2.1,t1.2.2.2)).1 == 5) then
 ((F16 F r111.1 (((t1.1,t1.2.1,t1.2.2.1,t1.2.2.2)).2.1)).bind fun r123=>
 some ((r123.1,r123.2)))
 else
 (F17_18 F r111.2).bind fun r127=>
 if r127 then
 (some ((0,1)))
 else
 (F19 F r111.1 r111.2).bind fun r132=>
 if (decide (r132 < 0)) then
 (some ((r132,4)))
 else
 some ((r132,0)))).bind fun b137=>
 if (b137.2 != 0) then
 (some (((r17,r23),((((((([],0):(List UInt8) × Int)).1,((([],0):(List UInt8) × Int)).2):(List UInt8) × Int)).1,(((((([],0):(List UInt8) × Int)).1,((([],0):(List UInt8) × Int)).2):(List UInt8) × Int)).2),b137.2)))
 else
 (at? r17 b137.1).bind fun x184=>
 (at? r17 b137.1).bind fun x186=>
 (at? ((r17.set ((Int.toNat b137.1)) ((x186.1,x186.2.1,(wrapA .i64 (x184.2.2 + 1)))))) b137.1).bind fun x196=>
 (at? ((r17.set ((Int.toNat b137.1)) ((x186.1,x186.2.1,(wrapA .i64 (x184.2.2 + 1)))))) b137.1).bind fun x198=>
 some ((((r17.set ((Int.toNat b137.1)) ((x186.1,x186.2.1,(wrapA .i64 (x184.2.2 + 1))))),r23),(((x196.1,x198.2.2)).1,((x196.1,x198.2.2)).2),0)))
 else
 (F20 F (((t1.1,t1.2.1,t1.2.2.1,t1.2.2.2)).2.2.1)).bind fun r235=>
 if (!r235) then
 (some (((r17,r23),((((((([],0):(List UInt8) × Int)).1,((([],0):(List UInt8) × Int)).2):(List UInt8) × Int)).1,(((((([],0):(List UInt8) × Int)).1,((([],0):(List UInt8) × Int)).2):(List UInt8) × Int)).2),3)))
 else
 (F21 F ((r17,r23)) (((t1.1,t1.2.1,t1.2.2.1,t1.2.2.2)).2.2.1)).bind fun r335=>
 if (((t1.1,t1.2.1,t1.2.2.1,t1.2.2.2)).1 == 1) then
 (if (decide (r335 ≥ 0)) then
 (some (((r17,r23),((((((([],0):(List UInt8) × Int)).1,((([],0):(List UInt8) × Int)).2):(List UInt8) × Int)).1,(((((([],0):(List UInt8) × Int)).1,((([],0):(List UInt8) × Int)).2):(List UInt8) × Int)).2),8)))
 else
 if ((decide (((t1.1,t1.2.1,t1.2.2.1,t1.2.2.2)).2.1 < 0)) || (decide (((t1.1,t1.2.1,t1.2.2.1,t1.2.2.2)).2.1 > 100))) then
 (some (((r17,r23),((((((([],0):(List UInt8) × Int)).1,((([],0):(List UInt8) × Int)).2):(List UInt8) × Int)).1,(((((([],0):(List UInt8) × Int)).1,((([],0):(List UInt8) × Int)).2):(List UInt8) × Int)).2),1)))
 else
 if (decide ((r17.length:Int) ≥ 8)) then
 (some (((r17,r23),((((((([],0):(List UInt8) × Int)).1,((([],0):(List UInt8) × Int)).2):(List UInt8) × Int)).1,(((((([],0):(List UInt8) × Int)).1,((([],0):(List UInt8) × Int)).2):(List UInt8) × Int)).2),9)))
 else
 (appB? 4398046511104 r17 ([(((t1.1,t1.2.1,t1.2.2.1,t1.2.2.2)).2.2.1,((t1.1,t1.2.1,t1.2.2.1,t1.2.2.2)).2.1,0)])).bind fun L633=>
 some (((L633,r23),((((((([],0):(List UInt8) × Int)).1,((([],0):(List UInt8) × Int)).2):(List UInt8) × Int)).1,(((((([],0):(List UInt8) × Int)).1,((([],0):(List UInt8) × Int)).2):(List UInt8) × Int)).2),0)))
 else
 if (decide (r335 < 0)) then
 (some (((r17,r23),((((((([],0):(List UInt8) × Int)).1,((([],0):(List UInt8) × Int)).2):(List UInt8) × Int)).1,(((((([],0):(List UInt8) × Int)).1,((([],0):(List UInt8) × Int)).2):(List UInt8) × Int)).2),4)))
 else
 if (((t1.1,t1.2.1,t1.2.2.1,t1.2.2.2)).1 == 2) then
 ((iter (F5_l0 F t1 r17 r23) F (0,[],[],(([],0):(List UInt8) × Int))).bind fun b955=>
 match b955 with
 | .inl b957=>((sub? r17 0 r335).bind fun L962=>
 (sub? r17 (wrapA .i64 (r335 + 1)) r17.length).bind fun L967=>
 (appB? 4398046511104 L962 L967).bind fun L971=>
 some (((L971,r23),((((((([],0):(List UInt8) × Int)).1,((([],0):(List UInt8) × Int)).2):(List UInt8) × Int)).1,(((((([],0):(List UInt8) × Int)).1,((([],0):(List UInt8) × Int)).2):(List UInt8) × Int)).2),0)))
 | .inr b957=>(some (((b957.2.1,b957.2.2.1),(b957.2.2.2.1,b957.2.2.2.2),b957.1))))
 else
 if (((t1.1,t1.2.1,t1.2.2.1,t1.2.2.2)).1 == 3) then
 ((F21 F ((r17,r23)) (((t1.1,t1.2.1,t1.2.2.1,t1.2.2.2)).2.2.2)).bind fun r1045=>
 if (decide (r1045 < 0)) then
 (some (((r17,r23),((((((([],0):(List UInt8) × Int)).1,((([],0):(List UInt8) × Int)).2):(List UInt8) × Int)).1,(((((([],0):(List UInt8) × Int)).1,((([],0):(List UInt8) × Int)).2):(List UInt8) × Int)).2),4)))
 else
 if ((r1045 == r335) || (decide (((t1.1,t1.2.1,t1.2.2.1,t1.2.2.2)).2.1 < 1))) then
 (some (((r17,r23),((((((([],0):(List UInt8) × Int)).1,((([],0):(List UInt8) × Int)).2):(List UInt8) × Int)).1,(((((([],0):(List UInt8) × Int)).1,((([],0):(List UInt8) × Int)).2):(List UInt8) × Int)).2),1)))
 else
 (at? r111.1 r335).bind fun x1242=>
 if (decide (((t1.1,t1.2.1,t1.2.2.1,t1.2.2.2)).2.1 > x1242)) then
 (some (((r17,r23),((((((([],0):(List UInt8) × Int)).1,((([],0):(List UInt8) × Int)).2):(List UInt8) × Int)).1,(((((([],0):(List UInt8) × Int)).1,((([],0):(List UInt8) × Int)).2):(List UInt8) × Int)).2),4)))
 else
 (at? r111.1 r1045).bind fun x1340=>
 if (decide ((wrapA .i64 (x1340 + ((t1.1,t1.2.1,t1.2.2.1,t1.2.2.2)).2.1)) > 100)) then
 (some (((r17,r23),((((((([],0):(List UInt8) × Int)).1,((([],0):(List UInt8) × Int)).2):(List UInt8) × Int)).1,(((((([],0):(List UInt8) × Int)).1,((([],0):(List UInt8) × Int)).2):(List UInt8) × Int)).2),9)))
 else
 (at? r17 r335).bind fun x1438=>
 (at? r17 r335).bind fun x1440=>
 (at? ((r17.set ((Int.toNat r335)) ((x1440.1,(wrapA .i64 (x1438.2.1 - ((t1.1,t1.2.1,t1.2.2.1,t1.2.2.2)).2.1)),x1440.2.2)))) r1045).bind fun x1444=>
 (at? ((r17.set ((Int.toNat r335)) ((x1440.1,(wrapA .i64 (x1438.2.1 - ((t1.1,t1.2.1,t1.2.2.1,t1.2.2.2)).2.1)),x1440.2.2)))) r1045).bind fun x1446=>
 (appB? 3518437208883 r23 ([(((t1.1,t1.2.1,t1.2.2.1,t1.2.2.2)).2.2.1,((t1.1,t1.2.1,t1.2.2.1,t1.2.2.2)).2.2.2,((t1.1,t1.2.1,t1.2.2.1,t1.2.2.2)).2.1)])).bind fun L1454=>
 some ((((((r17.set ((Int.toNat r335)) ((x1440.1,(wrapA .i64 (x1438.2.1 - ((t1.1,t1.2.1,t1.2.2.1,t1.2.2.2)).2.1)),x1440.2.2)))).set ((Int.toNat r1045)) ((x1446.1,(wrapA .i64 (x1444.2.1 + ((t1.1,t1.2.1,t1.2.2.1,t1.2.2.2)).2.1)),x1446.2.2))),L1454),((((((([],0):(List UInt8) × Int)).1,((([],0):(List UInt8) × Int)).2):(List UInt8) × Int)).1,(((((([],0):(List UInt8) × Int)).1,((([],0):(List UInt8) × Int)).2):(List UInt8) × Int)).2),0)))
 else
 if (((t1.1,t1.2.1,t1.2.2.1,t1.2.2.2)).1 == 4) then
 ((iter (F5_l2 F t1 r335) F (0,(wrapA .i64 ((r23.length:Int) - 1)),r17,r23)).bind fun b1645=>
 (F22_23 F b1645.2.2).bind fun r1651=>
 some (((b1645.2.1,r1651),(((((t1.1,t1.2.1,t1.2.2.1,t1.2.2.2)).2.2.1,b1645.1)).1,((((t1.1,t1.2.1,t1.2.2.1,t1.2.2.2)).2.2.1,b1645.1)).2),0)))
 else
 if (((t1.1,t1.2.1,t1.2.2.1,t1.2.2.2)).1 == 6) then
 ((at? r111.2 r335).bind fun x1713=>
 some (((r17,r23),(((((t1.1,t1.2.1,t1.2.2.1,t1.2.2.2)).2.2.1,x1713)).1,((((t1.1,t1.2.1,t1.2.2.1,t1.2.2.2)).2.2.1,x1713)).2),0)))
 else
 some (((r17,r23),((((((([],0):(List UInt8) × Int)).1,((([],0):(List UInt8) × Int)).2):(List UInt8) × Int)).1,(((((([],0):(List UInt8) × Int)).1,((([],0):(List UInt8) × Int)).2):(List UInt8) × Int)).2),0))
def F24_l0 (F:Nat) (t0:List ((List UInt8) × Int)) (t1:List ((List UInt8) × Int)) (s2:Int):Option (Stp (Int) (Unit ⊕ Bool)):=
 if (decide (s2 < (t0.length:Int))) then
 ((at? t0 s2).bind fun x10=>
 (at? t1 s2).bind fun x12=>
 if (!(x10.1 == x12.1 && (x10.2 == x12.2 && true))) then
 (some (.stop ((.inr false))))
 else
 some (.more ((wrapA .i64 (s2 + 1)))))
 else
 some (.stop ((.inl ())))
def F24 (F:Nat) (t0:List ((List UInt8) × Int)) (t1:List ((List UInt8) × Int)):Option Bool:=
 if ((t0.length:Int) != (t1.length:Int)) then
 (some false)
 else
 (iter (F24_l0 F t0 t1) F 0).bind fun b15=>
 match b15 with
 | .inl b17=>(some true)
 | .inr b17=>(some b17)
def F6 (F:Nat) (t0:List ((List UInt8) × Int)) (t1:List ((List UInt8) × Int)):Option Bool:=
 (F24 F t0 t1).bind fun r1=>
 some r1
def F25_l0 (F:Nat) (t0:List Int) (t1:List Int) (s2:Int):Option (Stp (Int) (Unit ⊕ Bool)):=
 if (decide (s2 < (t0.length:Int))) then
 ((at? t0 s2).bind fun x10=>
 (at? t1 s2).bind fun x12=>
 if (x10 != x12) then
 (some (.stop ((.inr false))))
 else
 some (.more ((wrapA .i64 (s2 + 1)))))
 else
 some (.stop ((.inl ())))
def F25 (F:Nat) (t0:List Int) (t1:List Int):Option Bool:=
 if ((t0.length:Int) != (t1.length:Int)) then
 (some false)
 else
 (iter (F25_l0 F t0 t1) F 0).bind fun b15=>
 match b15 with
 | .inl b17=>(some true)
 | .inr b17=>(some b17)
def F7 (F:Nat) (t0:List Int) (t1:List Int):Option Bool:=
 (F25 F t0 t1).bind fun r1=>
 some r1
def F39 (F:Nat) :Option ((Option ((List ((List UInt8) × Int × Int)) × (List ((List UInt8) × (List UInt8) × Int))))):=
 some ((some (([],[]))))
def F57_l0 (F:Nat) (t0:(List ((List UInt8) × Int × Int)) × (List ((List UInt8) × (List UInt8) × Int))) (s1:(List Int) × Int):Option (Stp ((List Int) × Int) ((List Int))):=
 if (decide (s1.2 < (t0.1.length:Int))) then
 ((at? t0.1 s1.2).bind fun x11=>
 (app? s1.1 ([((x11.1,x11.2.1,x11.2.2)).2.1])).bind fun L23=>
 some (.more ((L23,(wrapA .i64 (s1.2 + 1))))))
 else
 some (.stop s1.1)
def F57 (F:Nat) (t0:(List ((List UInt8) × Int × Int)) × (List ((List UInt8) × (List UInt8) × Int))):Option ((List Int)):=
 (iter (F57_l0 F t0) F ([],0)).bind fun b29=>
 some b29
def F74_l0 (F:Nat) (t0:List Int) (s2:Int):Option (Stp (Int) (Unit ⊕ Int)):=
 if (decide (s2 < (t0.length:Int))) then
 ((at? t0 s2).bind fun x10=>
 if ((decide (x10 < 0)) || (decide (x10 > 100))) then
 (some (.stop ((.inr 1))))
 else
 some (.more ((wrapA .i64 (s2 + 1)))))
 else
 some (.stop ((.inl ())))
def F74 (F:Nat) (t0:List Int):Option Int:=
 if (decide ((t0.length:Int) > 8)) then
 (some 2)
 else
 (iter (F74_l0 F t0) F 0).bind fun b14=>
 match b14 with
 | .inl b16=>(some 0)
 | .inr b16=>(some b16)
def F73_l0 (F:Nat) (t0:List Int) (s6:Int × Int):Option (Stp (Int × Int) (Int)):=
 if (decide (s6.2 < (t0.length:Int))) then
 ((at? t0 s6.2).bind fun x12=>
 some (.more (((wrapA .i64 (s6.1 + x12)),(wrapA .i64 (s6.2 + 1))))))
 else
 some (.stop s6.1)
def F73 (F:Nat) (t0:List Int):Option (Int × Int):=
 (F74 F t0).bind fun r1=>
 if (r1 != 0) then
 (some ((0,r1)))
 else
 (iter (F73_l0 F t0) F (0,0)).bind fun b14=>
 some ((b14,0))
def F56_l0 (F:Nat) (t0:List Int) (s9:Int × Int):Option (Stp (Int × Int) (Int)):=
 (at? t0 s9.2).bind fun x14=>
 if (decide (s9.1 ≥ x14)) then
 ((at? t0 s9.2).bind fun x17=>
 some (.more (((wrapA .i64 (s9.1 - x17)),(wrapA .i64 (s9.2 + 1))))))
 else
 some (.stop s9.2)
def F56 (F:Nat) (t0:List Int) (t1:Int):Option (Int × Int):=
 (F73 F t0).bind fun r1=>
 if (r1.2 != 0) then
 (some ((0,r1.2)))
 else
 if (r1.1 == 0) then
 (some ((0,4)))
 else
 if ((decide (t1 < 0)) || (decide (t1 ≥ r1.1))) then
 (some ((0,1)))
 else
 (iter (F56_l0 F t0) F (t1,0)).bind fun b19=>
 some ((b19,0))
def F55 (F:Nat) (t0:(List ((List UInt8) × Int × Int)) × (List ((List UInt8) × (List UInt8) × Int))) (t1:Int) (t2:Int):Option (((List UInt8) × Int) × Int × ((List ((List UInt8) × Int × Int)) × (List ((List UInt8) × (List UInt8) × Int)))):=
 if (t2 != 0) then
 (some (((((([],0):(List UInt8) × Int)).1,((([],0):(List UInt8) × Int)).2),t2,(t0.1,t0.2))))
 else
 (at? t0.1 t1).bind fun x9=>
 (at? t0.1 t1).bind fun x11=>
 (at? ((t0.1.set ((Int.toNat t1)) ((x11.1,x11.2.1,(wrapA .i64 (x9.2.2 + 1)))))) t1).bind fun x15=>
 (at? ((t0.1.set ((Int.toNat t1)) ((x11.1,x11.2.1,(wrapA .i64 (x9.2.2 + 1)))))) t1).bind fun x17=>
 some (((((x15.1,x17.2.2)).1,((x15.1,x17.2.2)).2),0,((t0.1.set ((Int.toNat t1)) ((x11.1,x11.2.1,(wrapA .i64 (x9.2.2 + 1))))),t0.2)))
def F75_l0 (F:Nat) (t0:List Int) (t1:List Int) (s1:Int × Int):Option (Stp (Int × Int) (Int)):=
 if (decide (s1.2 < (t0.length:Int))) then
 ((at? t0 s1.2).bind fun x7=>
 (if (decide (x7 > 0)) then
 ((if (decide (s1.1 < 0)) then some true else
 ((at? t1 s1.2).bind fun x9=>
 (at? t0 s1.1).bind fun x11=>
 (at? t1 s1.1).bind fun x13=>
 some (decide ((wrapA .i64 (x9 * x11)) < (wrapA .i64 (x13 * x7)))))
 ).bind fun y16=>
 some y16)
  else some false).bind fun y19=>
 if y19 then
 (some (.more ((s1.2,(wrapA .i64 (s1.2 + 1))))))
 else
 some (.more ((s1.1,(wrapA .i64 (s1.2 + 1))))))
 else
 some (.stop s1.1)
def F75 (F:Nat) (t0:List Int) (t1:List Int):Option Int:=
 (iter (F75_l0 F t0 t1) F ((-1),0)).bind fun b22=>
 some b22
def F58_l0 (F:Nat) (t1:List Int) (s7:Int):Option (Stp (Int) (Unit ⊕ (Int × Int))):=
 if (decide (s7 < (t1.length:Int))) then
 ((at? t1 s7).bind fun x15=>
 if ((decide (x15 < 0)) || (decide (x15 > 1000000000))) then
 (some (.stop ((.inr (0,1)))))
 else
 some (.more ((wrapA .i64 (s7 + 1)))))
 else
 some (.stop ((.inl ())))
def F58 (F:Nat) (t0:List Int) (t1:List Int):Option (Int × Int):=
 (F74 F t0).bind fun r1=>
 if (r1 != 0) then
 (some ((0,r1)))
 else
 if ((t1.length:Int) != (t0.length:Int)) then
 (some ((0,3)))
 else
 (iter (F58_l0 F t1) F 0).bind fun b19=>
 match b19 with
 | .inl b21=>((F75 F t0 t1).bind fun r24=>
 if (decide (r24 < 0)) then
 (some ((0,4)))
 else
 some ((r24,0)))
 | .inr b21=>(some ((b21.1,b21.2)))
def F59_l0 (F:Nat) (L1:List Int) (s7:Int):Option (Stp (Int) (Unit ⊕ Bool)):=
 if (decide (s7 < (L1.length:Int))) then
 ((at? L1 s7).bind fun x15=>
 if ((decide (x15 < 97)) || (decide (x15 > 122))) then
 (some (.stop ((.inr false))))
 else
 some (.more ((wrapA .i64 (s7 + 1)))))
 else
 some (.stop ((.inl ())))
def F59 (F:Nat) (t0:List UInt8):Option Bool:=
 (bytes? t0).bind fun L1=>
 (iter (F59_l0 F L1) F 0).bind fun b19=>
 match b19 with
 | .inl b21=>(some (((decide ((t0.length:Int) > 0)) && (decide ((t0.length:Int)<=12)))))
 | .inr b21=>(some b21)
def F77 (F:Nat) (t0:(List UInt8) × Int × Int) (c0:List UInt8):Option Bool:=
 some ((((t0.1,t0.2.1,t0.2.2)).1 == c0))
def F76_77_l0 (F:Nat) (t0:List ((List UInt8) × Int × Int)) (t1c0:List UInt8) (s1:Int):Option (Stp (Int) (Unit ⊕ Int)):=
 if (decide (s1 < (t0.length:Int))) then
 ((at? t0 s1).bind fun x9=>
 (F77 F ((x9.1,x9.2.1,x9.2.2)) t1c0).bind fun r11=>
 if r11 then
 (some (.stop ((.inr s1))))
 else
 some (.more ((wrapA .i64 (s1 + 1)))))
 else
 some (.stop ((.inl ())))
def F76_77 (F:Nat) (t0:List ((List UInt8) × Int × Int)) (t1c0:List UInt8):Option Int:=
 (iter (F76_77_l0 F t0 t1c0) F 0).bind fun b16=>
 match b16 with
 | .inl b18=>(some ((-1)))
 | .inr b18=>(some b18)
def F60 (F:Nat) (t0:(List ((List UInt8) × Int × Int)) × (List ((List UInt8) × (List UInt8) × Int))) (t1:List UInt8):Option Int:=
 (F76_77 F t0.1 t1).bind fun r6=>
 some r6
def F61 (F:Nat) (t0:(List ((List UInt8) × Int × Int)) × (List ((List UInt8) × (List UInt8) × Int))) (t1:Int) (t2:Int × Int × (List UInt8) × (List UInt8)):Option (Int × ((List ((List UInt8) × Int × Int)) × (List ((List UInt8) × (List UInt8) × Int)))):=
 if (decide (t1 ≥ 0)) then
 (some ((8,(t0.1,t0.2))))
 else
 if ((decide (((t2.1,t2.2.1,t2.2.2.1,t2.2.2.2)).2.1 < 0)) || (decide (((t2.1,t2.2.1,t2.2.2.1,t2.2.2.2)).2.1 > 100))) then
 (some ((1,(t0.1,t0.2))))
 else
 if ((t0.1.length:Int) == 8) then
 (some ((9,(t0.1,t0.2))))
 else
 (appB? 4398046511104 t0.1 ([(((t2.1,t2.2.1,t2.2.2.1,t2.2.2.2)).2.2.1,((t2.1,t2.2.1,t2.2.2.1,t2.2.2.2)).2.1,0)])).bind fun L13=>
 some ((0,(L13,t0.2)))
def F79 (F:Nat) (t0:(List UInt8) × (List UInt8) × Int) (c0:List UInt8):Option Bool:=
 some (((((t0.1,t0.2.1,t0.2.2)).1 == c0) || (((t0.1,t0.2.1,t0.2.2)).2.1 == c0)))
def F87_79_l0 (F:Nat) (t0:List ((List UInt8) × (List UInt8) × Int)) (t1c0:List UInt8) (s1:Int):Option (Stp (Int) (Unit ⊕ Int)):=
 if (decide (s1 < (t0.length:Int))) then
 ((at? t0 s1).bind fun x9=>
 (F79 F ((x9.1,x9.2.1,x9.2.2)) t1c0).bind fun r11=>
 if r11 then
 (some (.stop ((.inr s1))))
 else
 some (.more ((wrapA .i64 (s1 + 1)))))
 else
 some (.stop ((.inl ())))
def F87_79 (F:Nat) (t0:List ((List UInt8) × (List UInt8) × Int)) (t1c0:List UInt8):Option Int:=
 (iter (F87_79_l0 F t0 t1c0) F 0).bind fun b16=>
 match b16 with
 | .inl b18=>(some ((-1)))
 | .inr b18=>(some b18)
def F78_79 (F:Nat) (t0:List ((List UInt8) × (List UInt8) × Int)) (t1c0:List UInt8):Option Bool:=
 (F87_79 F t0 t1c0).bind fun r1=>
 some ((decide (r1 ≥ 0)))
def F80 (F:Nat) (t0:(List ((List UInt8) × Int × Int))) (t1:Int) (t2:Int):Option ((List ((List UInt8) × Int × Int))):=if 0<=t1 then delB? 4398046511104 t0 t1 t2 else none
def F62 (F:Nat) (t0:(List ((List UInt8) × Int × Int)) × (List ((List UInt8) × (List UInt8) × Int))) (t1:Int):Option (Int × ((List ((List UInt8) × Int × Int)) × (List ((List UInt8) × (List UInt8) × Int)))):=
 (at? t0.1 t1).bind fun x1=>
 (F78_79 F t0.2 x1.1).bind fun r10=>
 if r10 then
 (some ((7,(t0.1,t0.2))))
 else
 (F80 F t0.1 t1 ((wrapA .i64 (t1 + 1)))).bind fun r15=>
 some ((0,(r15,t0.2)))
def F81 (F:Nat) (t0:List Int) (t1:Int) (t2:Int) (t3:Int):Option ((List Int) × Int):=
 (F74 F t0).bind fun r1=>
 if (r1 != 0) then
 (some (([],r1)))
 else
 if (((((decide (t1 < 0)) || (decide (t1 ≥ (t0.length:Int)))) || (decide (t2 < 0))) || (decide (t2 ≥ (t0.length:Int)))) || (decide (t3 < 0))) then
 (some (([],1)))
 else
 (at? t0 t1).bind fun x11=>
 if (decide (t3 > x11)) then
 (some (([],4)))
 else
 (app? ([]) t0).bind fun L18=>
 (at? L18 t1).bind fun x24=>
 (ck L18 t1).bind fun u26=>
 (at? ((L18.set ((Int.toNat t1)) ((wrapA .i64 (x24 - t3))))) t2).bind fun x30=>
 (ck ((L18.set ((Int.toNat t1)) ((wrapA .i64 (x24 - t3))))) t2).bind fun u32=>
 (at? ((((L18.set ((Int.toNat t1)) ((wrapA .i64 (x24 - t3))))).set ((Int.toNat t2)) ((wrapA .i64 (x30 + t3))))) t2).bind fun x36=>
 if (decide (x36 > 100)) then
 (some (([],9)))
 else
 some (((((L18.set ((Int.toNat t1)) ((wrapA .i64 (x24 - t3))))).set ((Int.toNat t2)) ((wrapA .i64 (x30 + t3)))),0))
def F63 (F:Nat) (t0:(List ((List UInt8) × Int × Int)) × (List ((List UInt8) × (List UInt8) × Int))) (t1:Int) (t2:Int × Int × (List UInt8) × (List UInt8)):Option (Int × ((List ((List UInt8) × Int × Int)) × (List ((List UInt8) × (List UInt8) × Int)))):=
 (F60 F ((t0.1,t0.2)) (((t2.1,t2.2.1,t2.2.2.1,t2.2.2.2)).2.2.2)).bind fun r5=>
 if (decide (r5 < 0)) then
 (some ((4,(t0.1,t0.2))))
 else
 if ((r5 == t1) || (decide (((t2.1,t2.2.1,t2.2.2.1,t2.2.2.2)).2.1 < 1))) then
 (some ((1,(t0.1,t0.2))))
 else
 (F57 F ((t0.1,t0.2))).bind fun r12=>
 (F81 F r12 t1 r5 (((t2.1,t2.2.1,t2.2.2.1,t2.2.2.2)).2.1)).bind fun r18=>
 if (r18.2 != 0) then
 (some ((r18.2,(t0.1,t0.2))))
 else
 (at? r18.1 t1).bind fun x25=>
 (at? r18.1 r5).bind fun x27=>
 (at? t0.1 t1).bind fun x29=>
 (at? ((t0.1.set ((Int.toNat t1)) ((x29.1,x25,x29.2.2)))) r5).bind fun x33=>
 (appB? 3518437208883 t0.2 ([(((t2.1,t2.2.1,t2.2.2.1,t2.2.2.2)).2.2.1,((t2.1,t2.2.1,t2.2.2.1,t2.2.2.2)).2.2.2,((t2.1,t2.2.1,t2.2.2.1,t2.2.2.2)).2.1)])).bind fun L41=>
 some ((0,((((t0.1.set ((Int.toNat t1)) ((x29.1,x25,x29.2.2)))).set ((Int.toNat r5)) ((x33.1,x27,x33.2.2))),L41)))
def F82 (F:Nat) (t0:(List ((List UInt8) × (List UInt8) × Int))) (t1:Int) (t2:Int):Option ((List ((List UInt8) × (List UInt8) × Int))):=if 0<=t1 then delB? 3518437208883 t0 t1 t2 else none
def F64_l0 (F:Nat) (t1:List UInt8) (s5:Int × Int × (List ((List UInt8) × Int × Int)) × (List ((List UInt8) × (List UInt8) × Int))):Option (Stp (Int × Int × (List ((List UInt8) × Int × Int)) × (List ((List UInt8) × (List UInt8) × Int))) (Int × (List ((List UInt8) × Int × Int)) × (List ((List UInt8) × (List UInt8) × Int)))):=
 if (decide (s5.2.1 ≥ 0)) then
 ((at? s5.2.2.2 s5.2.1).bind fun x19=>
 if (!(((x19.1,x19.2.1,x19.2.2)).1 == t1)) then
 (some (.more ((s5.1,(wrapA .i64 (s5.2.1 - 1)),s5.2.2.1,s5.2.2.2))))
 else
 (F60 F ((s5.2.2.1,s5.2.2.2)) (((x19.1,x19.2.1,x19.2.2)).1)).bind fun r28=>
 (F60 F ((s5.2.2.1,s5.2.2.2)) (((x19.1,x19.2.1,x19.2.2)).2.1)).bind fun r32=>
 (at? s5.2.2.1 r32).bind fun x36=>
 (at? s5.2.2.1 r28).bind fun x38=>
 (at? s5.2.2.1 r32).bind fun x40=>
 (at? s5.2.2.1 r32).bind fun x42=>
 (at? ((s5.2.2.1.set ((Int.toNat r32)) ((x42.1,(wrapA .i64 (x40.2.1 - (minI (minI ((x19.1,x19.2.1,x19.2.2)).2.2 x36.2.1) (wrapA .i64 (100 - x38.2.1))))),x42.2.2)))) r28).bind fun x46=>
 (at? ((s5.2.2.1.set ((Int.toNat r32)) ((x42.1,(wrapA .i64 (x40.2.1 - (minI (minI ((x19.1,x19.2.1,x19.2.2)).2.2 x36.2.1) (wrapA .i64 (100 - x38.2.1))))),x42.2.2)))) r28).bind fun x48=>
 (at? s5.2.2.2 s5.2.1).bind fun x52=>
 (at? s5.2.2.2 s5.2.1).bind fun x54=>
 (at? ((s5.2.2.2.set ((Int.toNat s5.2.1)) ((x54.1,x54.2.1,(wrapA .i64 (x52.2.2 - (minI (minI ((x19.1,x19.2.1,x19.2.2)).2.2 x36.2.1) (wrapA .i64 (100 - x38.2.1))))))))) s5.2.1).bind fun x58=>
 if (x58.2.2 == 0) then
 ((F82 F ((s5.2.2.2.set ((Int.toNat s5.2.1)) ((x54.1,x54.2.1,(wrapA .i64 (x52.2.2 - (minI (minI ((x19.1,x19.2.1,x19.2.2)).2.2 x36.2.1) (wrapA .i64 (100 - x38.2.1))))))))) s5.2.1 ((wrapA .i64 (s5.2.1 + 1)))).bind fun r61=>
 some (.more (((wrapA .i64 (s5.1 + (minI (minI ((x19.1,x19.2.1,x19.2.2)).2.2 x36.2.1) (wrapA .i64 (100 - x38.2.1))))),(wrapA .i64 (s5.2.1 - 1)),(((s5.2.2.1.set ((Int.toNat r32)) ((x42.1,(wrapA .i64 (x40.2.1 - (minI (minI ((x19.1,x19.2.1,x19.2.2)).2.2 x36.2.1) (wrapA .i64 (100 - x38.2.1))))),x42.2.2)))).set ((Int.toNat r28)) ((x48.1,(wrapA .i64 (x46.2.1 + (minI (minI ((x19.1,x19.2.1,x19.2.2)).2.2 x36.2.1) (wrapA .i64 (100 - x38.2.1))))),x48.2.2))),r61))))
 else
 some (.more (((wrapA .i64 (s5.1 + (minI (minI ((x19.1,x19.2.1,x19.2.2)).2.2 x36.2.1) (wrapA .i64 (100 - x38.2.1))))),(wrapA .i64 (s5.2.1 - 1)),(((s5.2.2.1.set ((Int.toNat r32)) ((x42.1,(wrapA .i64 (x40.2.1 - (minI (minI ((x19.1,x19.2.1,x19.2.2)).2.2 x36.2.1) (wrapA .i64 (100 - x38.2.1))))),x42.2.2)))).set ((Int.toNat r28)) ((x48.1,(wrapA .i64 (x46.2.1 + (minI (minI ((x19.1,x19.2.1,x19.2.2)).2.2 x36.2.1) (wrapA .i64 (100 - x38.2.1))))),x48.2.2))),(s5.2.2.2.set ((Int.toNat s5.2.1)) ((x54.1,x54.2.1,(wrapA .i64 (x52.2.2 - (minI (minI ((x19.1,x19.2.1,x19.2.2)).2.2 x36.2.1) (wrapA .i64 (100 - x38.2.1))))))))))))
 else
 some (.stop ((s5.1,s5.2.2.1,s5.2.2.2)))
def F64 (F:Nat) (t0:(List ((List UInt8) × Int × Int)) × (List ((List UInt8) × (List UInt8) × Int))) (t1:List UInt8):Option (((List UInt8) × Int) × ((List ((List UInt8) × Int × Int)) × (List ((List UInt8) × (List UInt8) × Int)))):=
 (iter (F64_l0 F t1) F (0,(wrapA .i64 ((t0.2.length:Int) - 1)),t0.1,t0.2)).bind fun b69=>
 some (((((t1,b69.1)).1,((t1,b69.1)).2),(b69.2.1,b69.2.2)))
def F40_l0 (F:Nat) (t0:(List ((List UInt8) × Int × Int)) × (List ((List UInt8) × (List UInt8) × Int))) (s41:(List Int) × Int):Option (Stp ((List Int) × Int) ((List Int))):=
 if (decide (s41.2 < (t0.1.length:Int))) then
 ((at? t0.1 s41.2).bind fun x51=>
 (app? s41.1 ([((x51.1,x51.2.1,x51.2.2)).2.2])).bind fun L63=>
 some (.more ((L63,(wrapA .i64 (s41.2 + 1))))))
 else
 some (.stop s41.1)
def F40 (F:Nat) (t0:(List ((List UInt8) × Int × Int)) × (List ((List UInt8) × (List UInt8) × Int))) (t1:Int × Int × (List UInt8) × (List UInt8)):Option (((List UInt8) × Int) × Int × ((List ((List UInt8) × Int × Int)) × (List ((List UInt8) × (List UInt8) × Int)))):=
 if (((t1.1,t1.2.1,t1.2.2.1,t1.2.2.2)).1 == 5) then
 ((F57 F ((t0.1,t0.2))).bind fun r16=>
 (F56 F r16 (((t1.1,t1.2.1,t1.2.2.1,t1.2.2.2)).2.1)).bind fun r22=>
 (F55 F ((t0.1,t0.2)) r22.1 r22.2).bind fun r26=>
 some (((((r26.1.1,r26.1.2)).1,((r26.1.1,r26.1.2)).2),r26.2.1,(r26.2.2.1,r26.2.2.2))))
 else
 if (((t1.1,t1.2.1,t1.2.2.1,t1.2.2.2)).1 == 7) then
 ((iter (F40_l0 F t0) F ([],0)).bind fun b69=>
 (F57 F ((t0.1,t0.2))).bind fun r74=>
 (F58 F r74 b69).bind fun r80=>
 (F55 F ((t0.1,t0.2)) r80.1 r80.2).bind fun r84=>
 some (((((r84.1.1,r84.1.2)).1,((r84.1.1,r84.1.2)).2),r84.2.1,(r84.2.2.1,r84.2.2.2))))
 else
 (show Option (Bool) from (if (((t1.1,t1.2.1,t1.2.2.1,t1.2.2.2)).1 == 1) then
 (some ((((t1.1,t1.2.1,t1.2.2.1,t1.2.2.2)).1 == 1)))
 else
 if (((t1.1,t1.2.1,t1.2.2.1,t1.2.2.2)).1 == 2) then
 (some ((((t1.1,t1.2.1,t1.2.2.1,t1.2.2.2)).1 == 2)))
 else
 if (((t1.1,t1.2.1,t1.2.2.1,t1.2.2.2)).1 == 3) then
 (some ((((t1.1,t1.2.1,t1.2.2.1,t1.2.2.2)).1 == 3)))
 else
 if (((t1.1,t1.2.1,t1.2.2.1,t1.2.2.2)).1 == 4) then
 (some ((((t1.1,t1.2.1,t1.2.2.1,t1.2.2.2)).1 == 4)))
 else
 some ((((t1.1,t1.2.1,t1.2.2.1,t1.2.2.2)).1 == 6)))).bind fun b102=>
 if b102 then
 ((F59 F (((t1.1,t1.2.1,t1.2.2.1,t1.2.2.2)).2.2.1)).bind fun r108=>
 if (!r108) then
 (some ((((((((([],0):(List UInt8) × Int)).1,((([],0):(List UInt8) × Int)).2):(List UInt8) × Int)).1,(((((([],0):(List UInt8) × Int)).1,((([],0):(List UInt8) × Int)).2):(List UInt8) × Int)).2),3,(t0.1,t0.2))))
 else
 (F60 F ((t0.1,t0.2)) (((t1.1,t1.2.1,t1.2.2.1,t1.2.2.2)).2.2.1)).bind fun r116=>
 if (((t1.1,t1.2.1,t1.2.2.1,t1.2.2.2)).1 == 1) then
 ((F61 F ((t0.1,t0.2)) r116 ((((t1.1,t1.2.1,t1.2.2.1,t1.2.2.2)).1,((t1.1,t1.2.1,t1.2.2.1,t1.2.2.2)).2.1,((t1.1,t1.2.1,t1.2.2.1,t1.2.2.2)).2.2.1,((t1.1,t1.2.1,t1.2.2.1,t1.2.2.2)).2.2.2))).bind fun r123=>
 some ((((((((([],0):(List UInt8) × Int)).1,((([],0):(List UInt8) × Int)).2):(List UInt8) × Int)).1,(((((([],0):(List UInt8) × Int)).1,((([],0):(List UInt8) × Int)).2):(List UInt8) × Int)).2),r123.1,(r123.2.1,r123.2.2))))
 else
 if (decide (r116 < 0)) then
 (some ((((((((([],0):(List UInt8) × Int)).1,((([],0):(List UInt8) × Int)).2):(List UInt8) × Int)).1,(((((([],0):(List UInt8) × Int)).1,((([],0):(List UInt8) × Int)).2):(List UInt8) × Int)).2),4,(t0.1,t0.2))))
 else
 if (((t1.1,t1.2.1,t1.2.2.1,t1.2.2.2)).1 == 2) then
 ((F62 F ((t0.1,t0.2)) r116).bind fun r143=>
 some ((((((((([],0):(List UInt8) × Int)).1,((([],0):(List UInt8) × Int)).2):(List UInt8) × Int)).1,(((((([],0):(List UInt8) × Int)).1,((([],0):(List UInt8) × Int)).2):(List UInt8) × Int)).2),r143.1,(r143.2.1,r143.2.2))))
 else
 if (((t1.1,t1.2.1,t1.2.2.1,t1.2.2.2)).1 == 3) then
 ((F63 F ((t0.1,t0.2)) r116 ((((t1.1,t1.2.1,t1.2.2.1,t1.2.2.2)).1,((t1.1,t1.2.1,t1.2.2.1,t1.2.2.2)).2.1,((t1.1,t1.2.1,t1.2.2.1,t1.2.2.2)).2.2.1,((t1.1,t1.2.1,t1.2.2.1,t1.2.2.2)).2.2.2))).bind fun r160=>
 some ((((((((([],0):(List UInt8) × Int)).1,((([],0):(List UInt8) × Int)).2):(List UInt8) × Int)).1,(((((([],0):(List UInt8) × Int)).1,((([],0):(List UInt8) × Int)).2):(List UInt8) × Int)).2),r160.1,(r160.2.1,r160.2.2))))
 else
 if (((t1.1,t1.2.1,t1.2.2.1,t1.2.2.2)).1 == 4) then
 ((F64 F ((t0.1,t0.2)) (((t1.1,t1.2.1,t1.2.2.1,t1.2.2.2)).2.2.1)).bind fun r175=>
 some (((((r175.1.1,r175.1.2)).1,((r175.1.1,r175.1.2)).2),0,(r175.2.1,r175.2.2))))
 else
 (at? t0.1 r116).bind fun x189=>
 some (((((((t1.1,t1.2.1,t1.2.2.1,t1.2.2.2)).2.2.1,x189.2.2)).1,((((t1.1,t1.2.1,t1.2.2.1,t1.2.2.2)).2.2.1,x189.2.2)).2),0,(t0.1,t0.2))))
 else
 some ((((((((([],0):(List UInt8) × Int)).1,((([],0):(List UInt8) × Int)).2):(List UInt8) × Int)).1,(((((([],0):(List UInt8) × Int)).1,((([],0):(List UInt8) × Int)).2):(List UInt8) × Int)).2),1,(t0.1,t0.2)))
def F10_l0 (F:Nat) (t0:List (Int × Int × (List UInt8) × (List UInt8))) (s22:Int × (List ((List UInt8) × Int)) × (List Int)):Option (Stp (Int × (List ((List UInt8) × Int)) × (List Int)) ((List ((List UInt8) × Int)) × (List Int))):=
 if (decide (s22.1 < (t0.length:Int))) then
 ((at? t0 s22.1).bind fun x36=>
 none)
 else
 some (.stop ((s22.2.1,s22.2.2)))
def F10_l1 (F:Nat) (t0:List (Int × Int × (List UInt8) × (List UInt8))) (s57:Int × (List ((List UInt8) × Int × Int)) × (List ((List UInt8) × (List UInt8) × Int)) × (List ((List UInt8) × Int)) × (List Int)):Option (Stp (Int × (List ((List UInt8) × Int × Int)) × (List ((List UInt8) × (List UInt8) × Int)) × (List ((List UInt8) × Int)) × (List Int)) ((List ((List UInt8) × Int)) × (List Int))):=
 if (decide (s57.1 < (t0.length:Int))) then
 ((at? t0 s57.1).bind fun x77=>
 (F40 F ((s57.2.1,s57.2.2.1)) ((((x77.1,x77.2.1,x77.2.2.1,x77.2.2.2)).1,((x77.1,x77.2.1,x77.2.2.1,x77.2.2.2)).2.1,((x77.1,x77.2.1,x77.2.2.1,x77.2.2.2)).2.2.1,((x77.1,x77.2.1,x77.2.2.1,x77.2.2.2)).2.2.2))).bind fun r85=>
 (appB? 5864062014805 s57.2.2.2.1 ([(((r85.1.1,r85.1.2)).1,((r85.1.1,r85.1.2)).2)])).bind fun L129=>
 (appB? 17592186044416 s57.2.2.2.2 ([r85.2.1])).bind fun L165=>
 some (.more (((wrapA .i64 (s57.1 + 1)),r85.2.2.1,r85.2.2.2,L129,L165))))
 else
 some (.stop ((s57.2.2.2.1,s57.2.2.2.2)))
def F10 (F:Nat) (t0:List (Int × Int × (List UInt8) × (List UInt8))):Option (((List ((List UInt8) × Int)) × (List Int))):=
 (F39 F).bind fun r5=>
 match r5 with
 | none=>((iter (F10_l0 F t0) F (0,[],[])).bind fun b44=>
 some ((b44.1,b44.2)))
 | some x11=>((iter (F10_l1 F t0) F (0,x11.1,x11.2,[],[])).bind fun b302=>
 some ((b302.1,b302.2)))
end Go.Proofs.YtkhokgkgloligaaDoor
namespace Go.Proofs.YtkhokgkgloligaaDoor
open Go.Am
abbrev fi (n:Nat) (f:Func) (l:List Nat):Fi:=⟨n,f.body.getD .skip,f.results.toList,l⟩
theorem fk {i n:Nat} {f:Func} {l:List Nat} (h:Tryd.prog.funcs[i]? = some f) (hb:f.body = some (f.body.getD .skip)) (hn:f.ntmps = n) (hk:((!(f.name == "runtime.NumGoroutine")) && codeOk l (f.body.getD .skip) && dstOk n (f.body.getD .skip)) = true):FnOk Tryd.prog i (fi n f l):=by
 simp only [Bool.and_eq_true,Bool.not_eq_true'] at hk
 exact ⟨f,h,hb,hn,rfl,hk.1.1,hk.1.2,hk.2⟩
noncomputable def E.tyTr:Tr Ty:=(.node none (.node (some ⟨0,1,8,[.nilf],0,0,[],.i64⟩) (.node (some ⟨1,1,8,[(.int .i64 0)],0,0,[],.i64⟩) (.node none (.node none (.node (some ⟨6,2,48,[.nils,.nils],0,0,[(0,28,1),(1,29,1)],.i64⟩) (.node (some ⟨6,3,40,[(.str []),(.str []),(.int .i64 0)],0,0,[(0,9,1),(1,9,1),(2,3,1)],.i64⟩) .nil .nil) .nil) (.node none (.node (some ⟨0,1,8,[.nilf],0,0,[],.i64⟩) .nil .nil) .nil)) (.node (some ⟨4,1,24,[.nils],42,0,[],.i64⟩) (.node none (.node none (.node (some ⟨0,1,8,[.nilf],0,0,[],.i64⟩) .nil .nil) .nil) .nil) .nil)) (.node none (.node none (.node (some ⟨6,4,48,[(.int .i64 0),(.int .i64 0),(.str []),(.str [])],0,0,[(0,3,1),(1,3,1),(2,9,1),(3,9,1)],.i64⟩) (.node none (.node (some ⟨0,1,8,[.nilf],0,0,[],.i64⟩) .nil .nil) .nil) .nil) .nil) (.node (some ⟨4,1,24,[.nils],35,0,[],.i64⟩) (.node none (.node (some ⟨0,1,8,[.nilf],0,0,[],.i64⟩) .nil .nil) (.node (some ⟨4,1,24,[.nils],114,0,[],.i64⟩) .nil .nil)) .nil))) (.node (some ⟨1,1,1,[(.int .u8 0)],0,0,[],.u8⟩) (.node (some ⟨3,1,16,[(.str [])],0,0,[],.i64⟩) (.node none (.node (some ⟨4,1,24,[.nils],24,0,[],.i64⟩) (.node none (.node (some ⟨4,1,24,[.nils],5,0,[],.i64⟩) .nil .nil) .nil) .nil) (.node (some ⟨6,0,0,[],0,0,[],.i64⟩) .nil .nil)) .nil) (.node none (.node none (.node (some ⟨6,2,24,[(.str []),(.int .i64 0)],0,0,[(0,9,1),(1,3,1)],.i64⟩) .nil .nil) .nil) (.node (some ⟨4,1,24,[.nils],63,0,[],.i64⟩) (.node none (.node (some ⟨0,1,8,[.nilf],0,0,[],.i64⟩) .nil .nil) .nil) .nil)))) (.node (some ⟨1,1,8,[(.int .i64 0)],0,0,[],.i64⟩) (.node (some ⟨2,1,1,[(.bool false)],0,0,[],.i64⟩) (.node none (.node none (.node (some ⟨4,1,24,[.nils],37,0,[],.i64⟩) (.node (some ⟨4,1,24,[.nils],3,0,[],.i64⟩) .nil .nil) .nil) .nil) (.node (some ⟨1,1,8,[(.int .i64 0)],0,0,[],.i64⟩) .nil .nil)) (.node none (.node none (.node none .nil (.node (some ⟨0,1,8,[.nilf],0,0,[],.i64⟩) .nil .nil)) .nil) (.node (some ⟨4,1,24,[.nils],60,0,[],.i64⟩) (.node none .nil (.node (some ⟨4,1,24,[.nils],134,0,[],.i64⟩) .nil .nil)) (.node (some ⟨6,3,32,[(.str []),(.int .i64 0),(.int .i64 0)],0,0,[(0,9,1),(1,3,1),(2,3,1)],.i64⟩) .nil .nil)))) (.node none (.node none (.node none .nil (.node none .nil (.node (some ⟨6,3,32,[(.str []),(.int .i64 0),(.int .i64 0)],0,0,[(0,9,1),(1,3,1),(2,3,1)],.i64⟩) .nil .nil))) (.node none (.node (some ⟨6,2,48,[.nils,.nils],0,0,[(0,32,1),(1,33,1)],.i64⟩) .nil .nil) (.node none (.node (some ⟨7,1,8,[.nilp],110,0,[],.i64⟩) .nil .nil) (.node (some ⟨5,256,256,(List.replicate 256 (.bool false)),4,256,[],.i64⟩) .nil .nil)))) (.node none (.node (some ⟨4,1,24,[.nils],27,0,[],.i64⟩) (.node none (.node (some ⟨0,1,8,[.nilf],0,0,[],.i64⟩) (.node (some ⟨6,3,40,[(.str []),(.str []),(.int .i64 0)],0,0,[(0,9,1),(1,9,1),(2,3,1)],.i64⟩) .nil .nil) .nil) .nil) .nil) (.node none (.node none .nil (.node (some ⟨6,2,48,[.nils,.nils],0,0,[(0,107,1),(1,108,1)],.i64⟩) .nil .nil)) (.node none .nil (.node (some ⟨7,1,8,[.nilp],122,0,[],.i64⟩) .nil .nil)))))))
noncomputable def E.fnTr:Tr Fi:=(.node none (.node none (.node none (.node (some (fi 8 Tryd.f7 [])) (.node (some (fi 28 Tryd.f15 [1000005])) (.node none (.node (some (fi 75 Tryd.f63 [6,2000060])) .nil .nil) .nil) (.node (some (fi 43 Tryd.f47 [])) (.node (some (fi 14 Tryd.f79 [])) .nil .nil) .nil)) (.node (some (fi 6 Tryd.f23 [])) (.node (some (fi 3 Tryd.f39 [])) .nil .nil) (.node (some (fi 40 Tryd.f55 [])) (.node (some (fi 19 Tryd.f87 [])) .nil .nil) .nil))) (.node none (.node (some (fi 79 Tryd.f19 [])) (.node none (.node (some (fi 23 Tryd.f67 [])) .nil .nil) .nil) (.node none (.node (some (fi 10 Tryd.f83 [])) .nil .nil) .nil)) (.node none (.node none (.node (some (fi 42 Tryd.f75 [])) .nil .nil) .nil) (.node (some (fi 27 Tryd.f59 [])) .nil .nil)))) (.node (some (fi 364 Tryd.f5 [1,1000004,1000016,1000018,1000020,1000024,1000026,1000028,1000030,1000032,1000039,1000045,1000047,1000049,1000051,1000068,1000070,1000071])) (.node none (.node (some (fi 9 Tryd.f17 [])) .nil (.node (some (fi 8 Tryd.f49 [])) (.node (some (fi 68 Tryd.f81 [])) .nil .nil) .nil)) (.node (some (fi 26 Tryd.f25 [])) (.node none (.node (some (fi 24 Tryd.f73 [])) .nil .nil) .nil) (.node (some (fi 22 Tryd.f57 [])) .nil .nil))) (.node (some (fi 8 Tryd.f13 [])) (.node (some (fi 9 Tryd.f21 [])) (.node none (.node (some (fi 16 Tryd.f69 [])) .nil .nil) .nil) .nil) (.node none (.node none (.node (some (fi 8 Tryd.f77 [])) .nil .nil) .nil) (.node (some (fi 37 Tryd.f61 [])) .nil .nil))))) (.node none (.node none (.node none (.node (some (fi 40 Tryd.f16 [])) (.node none (.node (some (fi 122 Tryd.f64 [7])) .nil .nil) .nil) (.node (some (fi 19 Tryd.f48 [])) (.node (some (fi 33 Tryd.f80 [])) .nil .nil) .nil)) (.node (some (fi 26 Tryd.f24 [])) (.node (some (fi 113 Tryd.f40 [5,3000023,3000028,3000030,2000055,2000060,2000064])) .nil .nil) (.node (some (fi 41 Tryd.f56 [])) .nil .nil))) (.node none (.node (some (fi 15 Tryd.f20 [])) (.node none (.node (some (fi 21 Tryd.f68 [])) .nil .nil) .nil) .nil) (.node none (.node none (.node (some (fi 19 Tryd.f76 [])) .nil .nil) .nil) (.node (some (fi 11 Tryd.f60 [])) .nil .nil)))) (.node (some (fi 8 Tryd.f6 [])) (.node (some (fi 36 Tryd.f10 [1000007,2000040])) (.node (some (fi 5 Tryd.f18 [])) (.node none (.node (some (fi 17 Tryd.f66 [])) .nil .nil) .nil) (.node (some (fi 19 Tryd.f50 [])) (.node (some (fi 33 Tryd.f82 [])) .nil .nil) .nil)) (.node none (.node none (.node (some (fi 21 Tryd.f74 [])) .nil .nil) .nil) (.node (some (fi 39 Tryd.f58 [])) .nil .nil))) (.node (some (fi 8 Tryd.f14 [])) (.node (some (fi 42 Tryd.f22 [])) (.node none (.node (some (fi 22 Tryd.f70 [])) .nil .nil) .nil) .nil) (.node none (.node (some (fi 19 Tryd.f46 [])) (.node (some (fi 9 Tryd.f78 [])) .nil .nil) .nil) (.node (some (fi 31 Tryd.f62 [])) .nil .nil))))))
noncomputable def E.mpTr:Tr Mt:=.nil
noncomputable def E:Env:={ ty:=E.tyTr.get,fn:=E.fnTr.get,mp:=E.mpTr.get }
theorem E.to1:TyOk Tryd.prog 1 ⟨0,1,8,[.nilf],0,0,[],.i64⟩:=tyOk_of_mkTy (by kernel_rfl)
theorem E.to2:TyOk Tryd.prog 2 ⟨1,1,8,[(.int .i64 0)],0,0,[],.i64⟩:=tyOk_of_mkTy (by kernel_rfl)
theorem E.to3:TyOk Tryd.prog 3 ⟨1,1,8,[(.int .i64 0)],0,0,[],.i64⟩:=tyOk_of_mkTy (by kernel_rfl)
theorem E.to4:TyOk Tryd.prog 4 ⟨2,1,1,[(.bool false)],0,0,[],.i64⟩:=tyOk_of_mkTy (by kernel_rfl)
theorem E.to5:TyOk Tryd.prog 5 ⟨1,1,1,[(.int .u8 0)],0,0,[],.u8⟩:=tyOk_of_mkTy (by kernel_rfl)
theorem E.to9:TyOk Tryd.prog 9 ⟨3,1,16,[(.str [])],0,0,[],.i64⟩:=tyOk_of_mkTy (by kernel_rfl)
theorem E.to22:TyOk Tryd.prog 22 ⟨4,1,24,[.nils],27,0,[],.i64⟩:=tyOk_of_mkTy (by kernel_rfl)
theorem E.to23:TyOk Tryd.prog 23 ⟨4,1,24,[.nils],42,0,[],.i64⟩:=tyOk_of_mkTy (by kernel_rfl)
theorem E.to24:TyOk Tryd.prog 24 ⟨1,1,8,[(.int .i64 0)],0,0,[],.i64⟩:=tyOk_of_mkTy (by kernel_rfl)
theorem E.to27:TyOk Tryd.prog 27 ⟨4,1,24,[.nils],35,0,[],.i64⟩:=tyOk_of_mkTy (by kernel_rfl)
theorem E.to28:TyOk Tryd.prog 28 ⟨4,1,24,[.nils],60,0,[],.i64⟩:=tyOk_of_mkTy (by kernel_rfl)
theorem E.to29:TyOk Tryd.prog 29 ⟨4,1,24,[.nils],63,0,[],.i64⟩:=tyOk_of_mkTy (by kernel_rfl)
theorem E.to31:TyOk Tryd.prog 31 ⟨6,2,48,[.nils,.nils],0,0,[(0,28,1),(1,29,1)],.i64⟩:=tyOk_of_mkTy (by kernel_rfl)
theorem E.to32:TyOk Tryd.prog 32 ⟨4,1,24,[.nils],37,0,[],.i64⟩:=tyOk_of_mkTy (by kernel_rfl)
theorem E.to33:TyOk Tryd.prog 33 ⟨4,1,24,[.nils],24,0,[],.i64⟩:=tyOk_of_mkTy (by kernel_rfl)
theorem E.to35:TyOk Tryd.prog 35 ⟨6,4,48,[(.int .i64 0),(.int .i64 0),(.str []),(.str [])],0,0,[(0,3,1),(1,3,1),(2,9,1),(3,9,1)],.i64⟩:=tyOk_of_mkTy (by kernel_rfl)
theorem E.to37:TyOk Tryd.prog 37 ⟨6,2,24,[(.str []),(.int .i64 0)],0,0,[(0,9,1),(1,3,1)],.i64⟩:=tyOk_of_mkTy (by kernel_rfl)
theorem E.to42:TyOk Tryd.prog 42 ⟨6,2,48,[.nils,.nils],0,0,[(0,32,1),(1,33,1)],.i64⟩:=tyOk_of_mkTy (by kernel_rfl)
theorem E.to49:TyOk Tryd.prog 49 ⟨6,0,0,[],0,0,[],.i64⟩:=tyOk_of_mkTy (by kernel_rfl)
theorem E.to60:TyOk Tryd.prog 60 ⟨6,3,32,[(.str []),(.int .i64 0),(.int .i64 0)],0,0,[(0,9,1),(1,3,1),(2,3,1)],.i64⟩:=tyOk_of_mkTy (by kernel_rfl)
theorem E.to63:TyOk Tryd.prog 63 ⟨6,3,40,[(.str []),(.str []),(.int .i64 0)],0,0,[(0,9,1),(1,9,1),(2,3,1)],.i64⟩:=tyOk_of_mkTy (by kernel_rfl)
theorem E.to64:TyOk Tryd.prog 64 ⟨4,1,24,[.nils],3,0,[],.i64⟩:=tyOk_of_mkTy (by kernel_rfl)
theorem E.to70:TyOk Tryd.prog 70 ⟨0,1,8,[.nilf],0,0,[],.i64⟩:=tyOk_of_mkTy (by kernel_rfl)
theorem E.to75:TyOk Tryd.prog 75 ⟨0,1,8,[.nilf],0,0,[],.i64⟩:=tyOk_of_mkTy (by kernel_rfl)
theorem E.to77:TyOk Tryd.prog 77 ⟨0,1,8,[.nilf],0,0,[],.i64⟩:=tyOk_of_mkTy (by kernel_rfl)
theorem E.to79:TyOk Tryd.prog 79 ⟨0,1,8,[.nilf],0,0,[],.i64⟩:=tyOk_of_mkTy (by kernel_rfl)
theorem E.to90:TyOk Tryd.prog 90 ⟨7,1,8,[.nilp],110,0,[],.i64⟩:=tyOk_of_mkTy (by kernel_rfl)
theorem E.to100:TyOk Tryd.prog 100 ⟨0,1,8,[.nilf],0,0,[],.i64⟩:=tyOk_of_mkTy (by kernel_rfl)
theorem E.to107:TyOk Tryd.prog 107 ⟨4,1,24,[.nils],114,0,[],.i64⟩:=tyOk_of_mkTy (by kernel_rfl)
theorem E.to108:TyOk Tryd.prog 108 ⟨4,1,24,[.nils],134,0,[],.i64⟩:=tyOk_of_mkTy (by kernel_rfl)
theorem E.to110:TyOk Tryd.prog 110 ⟨6,2,48,[.nils,.nils],0,0,[(0,107,1),(1,108,1)],.i64⟩:=tyOk_of_mkTy (by kernel_rfl)
theorem E.to114:TyOk Tryd.prog 114 ⟨6,3,32,[(.str []),(.int .i64 0),(.int .i64 0)],0,0,[(0,9,1),(1,3,1),(2,3,1)],.i64⟩:=tyOk_of_mkTy (by kernel_rfl)
theorem E.to122:TyOk Tryd.prog 122 ⟨5,256,256,(List.replicate 256 (.bool false)),4,256,[],.i64⟩:=tyOk_of_mkTy (by kernel_rfl)
theorem E.to126:TyOk Tryd.prog 126 ⟨7,1,8,[.nilp],122,0,[],.i64⟩:=tyOk_of_mkTy (by kernel_rfl)
theorem E.to129:TyOk Tryd.prog 129 ⟨4,1,24,[.nils],5,0,[],.i64⟩:=tyOk_of_mkTy (by kernel_rfl)
theorem E.to131:TyOk Tryd.prog 131 ⟨0,1,8,[.nilf],0,0,[],.i64⟩:=tyOk_of_mkTy (by kernel_rfl)
theorem E.to134:TyOk Tryd.prog 134 ⟨6,3,40,[(.str []),(.str []),(.int .i64 0)],0,0,[(0,9,1),(1,9,1),(2,3,1)],.i64⟩:=tyOk_of_mkTy (by kernel_rfl)
theorem E.to135:TyOk Tryd.prog 135 ⟨0,1,8,[.nilf],0,0,[],.i64⟩:=tyOk_of_mkTy (by kernel_rfl)
theorem E.fo5:FnOk Tryd.prog 5 (fi 364 Tryd.f5 [1,1000004,1000016,1000018,1000020,1000024,1000026,1000028,1000030,1000032,1000039,1000045,1000047,1000049,1000051,1000068,1000070,1000071]):=fk Tryd.func5 rfl rfl (by kernel_rfl)
theorem E.fo6:FnOk Tryd.prog 6 (fi 8 Tryd.f6 []):=fk Tryd.func6 rfl rfl (by kernel_rfl)
theorem E.fo7:FnOk Tryd.prog 7 (fi 8 Tryd.f7 []):=fk Tryd.func7 rfl rfl (by kernel_rfl)
theorem E.fo10:FnOk Tryd.prog 10 (fi 36 Tryd.f10 [1000007,2000040]):=fk Tryd.func10 rfl rfl (by kernel_rfl)
theorem E.fo13:FnOk Tryd.prog 13 (fi 8 Tryd.f13 []):=fk Tryd.func13 rfl rfl (by kernel_rfl)
theorem E.fo14:FnOk Tryd.prog 14 (fi 8 Tryd.f14 []):=fk Tryd.func14 rfl rfl (by kernel_rfl)
theorem E.fo15:FnOk Tryd.prog 15 (fi 28 Tryd.f15 [1000005]):=fk Tryd.func15 rfl rfl (by kernel_rfl)
theorem E.fo16:FnOk Tryd.prog 16 (fi 40 Tryd.f16 []):=fk Tryd.func16 rfl rfl (by kernel_rfl)
theorem E.fo17:FnOk Tryd.prog 17 (fi 9 Tryd.f17 []):=fk Tryd.func17 rfl rfl (by kernel_rfl)
theorem E.fo18:FnOk Tryd.prog 18 (fi 5 Tryd.f18 []):=fk Tryd.func18 rfl rfl (by kernel_rfl)
theorem E.fo19:FnOk Tryd.prog 19 (fi 79 Tryd.f19 []):=fk Tryd.func19 rfl rfl (by kernel_rfl)
theorem E.fo20:FnOk Tryd.prog 20 (fi 15 Tryd.f20 []):=fk Tryd.func20 rfl rfl (by kernel_rfl)
theorem E.fo21:FnOk Tryd.prog 21 (fi 9 Tryd.f21 []):=fk Tryd.func21 rfl rfl (by kernel_rfl)
theorem E.fo22:FnOk Tryd.prog 22 (fi 42 Tryd.f22 []):=fk Tryd.func22 rfl rfl (by kernel_rfl)
theorem E.fo23:FnOk Tryd.prog 23 (fi 6 Tryd.f23 []):=fk Tryd.func23 rfl rfl (by kernel_rfl)
theorem E.fo24:FnOk Tryd.prog 24 (fi 26 Tryd.f24 []):=fk Tryd.func24 rfl rfl (by kernel_rfl)
theorem E.fo25:FnOk Tryd.prog 25 (fi 26 Tryd.f25 []):=fk Tryd.func25 rfl rfl (by kernel_rfl)
theorem E.fo39:FnOk Tryd.prog 39 (fi 3 Tryd.f39 []):=fk Tryd.func39 rfl rfl (by kernel_rfl)
theorem E.fo40:FnOk Tryd.prog 40 (fi 113 Tryd.f40 [5,3000023,3000028,3000030,2000055,2000060,2000064]):=fk Tryd.func40 rfl rfl (by kernel_rfl)
theorem E.fo46:FnOk Tryd.prog 46 (fi 19 Tryd.f46 []):=fk Tryd.func46 rfl rfl (by kernel_rfl)
theorem E.fo47:FnOk Tryd.prog 47 (fi 43 Tryd.f47 []):=fk Tryd.func47 rfl rfl (by kernel_rfl)
theorem E.fo48:FnOk Tryd.prog 48 (fi 19 Tryd.f48 []):=fk Tryd.func48 rfl rfl (by kernel_rfl)
theorem E.fo49:FnOk Tryd.prog 49 (fi 8 Tryd.f49 []):=fk Tryd.func49 rfl rfl (by kernel_rfl)
theorem E.fo50:FnOk Tryd.prog 50 (fi 19 Tryd.f50 []):=fk Tryd.func50 rfl rfl (by kernel_rfl)
theorem E.fo55:FnOk Tryd.prog 55 (fi 40 Tryd.f55 []):=fk Tryd.func55 rfl rfl (by kernel_rfl)
theorem E.fo56:FnOk Tryd.prog 56 (fi 41 Tryd.f56 []):=fk Tryd.func56 rfl rfl (by kernel_rfl)
theorem E.fo57:FnOk Tryd.prog 57 (fi 22 Tryd.f57 []):=fk Tryd.func57 rfl rfl (by kernel_rfl)
theorem E.fo58:FnOk Tryd.prog 58 (fi 39 Tryd.f58 []):=fk Tryd.func58 rfl rfl (by kernel_rfl)
theorem E.fo59:FnOk Tryd.prog 59 (fi 27 Tryd.f59 []):=fk Tryd.func59 rfl rfl (by kernel_rfl)
theorem E.fo60:FnOk Tryd.prog 60 (fi 11 Tryd.f60 []):=fk Tryd.func60 rfl rfl (by kernel_rfl)
theorem E.fo61:FnOk Tryd.prog 61 (fi 37 Tryd.f61 []):=fk Tryd.func61 rfl rfl (by kernel_rfl)
theorem E.fo62:FnOk Tryd.prog 62 (fi 31 Tryd.f62 []):=fk Tryd.func62 rfl rfl (by kernel_rfl)
theorem E.fo63:FnOk Tryd.prog 63 (fi 75 Tryd.f63 [6,2000060]):=fk Tryd.func63 rfl rfl (by kernel_rfl)
theorem E.fo64:FnOk Tryd.prog 64 (fi 122 Tryd.f64 [7]):=fk Tryd.func64 rfl rfl (by kernel_rfl)
theorem E.fo66:FnOk Tryd.prog 66 (fi 17 Tryd.f66 []):=fk Tryd.func66 rfl rfl (by kernel_rfl)
theorem E.fo67:FnOk Tryd.prog 67 (fi 23 Tryd.f67 []):=fk Tryd.func67 rfl rfl (by kernel_rfl)
theorem E.fo68:FnOk Tryd.prog 68 (fi 21 Tryd.f68 []):=fk Tryd.func68 rfl rfl (by kernel_rfl)
theorem E.fo69:FnOk Tryd.prog 69 (fi 16 Tryd.f69 []):=fk Tryd.func69 rfl rfl (by kernel_rfl)
theorem E.fo70:FnOk Tryd.prog 70 (fi 22 Tryd.f70 []):=fk Tryd.func70 rfl rfl (by kernel_rfl)
theorem E.fo73:FnOk Tryd.prog 73 (fi 24 Tryd.f73 []):=fk Tryd.func73 rfl rfl (by kernel_rfl)
theorem E.fo74:FnOk Tryd.prog 74 (fi 21 Tryd.f74 []):=fk Tryd.func74 rfl rfl (by kernel_rfl)
theorem E.fo75:FnOk Tryd.prog 75 (fi 42 Tryd.f75 []):=fk Tryd.func75 rfl rfl (by kernel_rfl)
theorem E.fo76:FnOk Tryd.prog 76 (fi 19 Tryd.f76 []):=fk Tryd.func76 rfl rfl (by kernel_rfl)
theorem E.fo77:FnOk Tryd.prog 77 (fi 8 Tryd.f77 []):=fk Tryd.func77 rfl rfl (by kernel_rfl)
theorem E.fo78:FnOk Tryd.prog 78 (fi 9 Tryd.f78 []):=fk Tryd.func78 rfl rfl (by kernel_rfl)
theorem E.fo79:FnOk Tryd.prog 79 (fi 14 Tryd.f79 []):=fk Tryd.func79 rfl rfl (by kernel_rfl)
theorem E.fo80:FnOk Tryd.prog 80 (fi 33 Tryd.f80 []):=fk Tryd.func80 rfl rfl (by kernel_rfl)
theorem E.fo81:FnOk Tryd.prog 81 (fi 68 Tryd.f81 []):=fk Tryd.func81 rfl rfl (by kernel_rfl)
theorem E.fo82:FnOk Tryd.prog 82 (fi 33 Tryd.f82 []):=fk Tryd.func82 rfl rfl (by kernel_rfl)
theorem E.fo83:FnOk Tryd.prog 83 (fi 10 Tryd.f83 []):=fk Tryd.func83 rfl rfl (by kernel_rfl)
theorem E.fo87:FnOk Tryd.prog 87 (fi 19 Tryd.f87 []):=fk Tryd.func87 rfl rfl (by kernel_rfl)
theorem E.mpAll:TrAll (MtOk Tryd.prog) E.mpTr id:=.nil
theorem E.tyAll:TrAll (TyOk Tryd.prog) E.tyTr id:=(.none (.some E.to1 (.some E.to3 (.none (.none (.some E.to31 (.some E.to63 .nil .nil) .nil) (.none (.some E.to79 .nil .nil) .nil)) (.some E.to23 (.none (.none (.some E.to135 .nil .nil) .nil) .nil) .nil)) (.none (.none (.some E.to35 (.none (.some E.to131 .nil .nil) .nil) .nil) .nil) (.some E.to27 (.none (.some E.to75 .nil .nil) (.some E.to107 .nil .nil)) .nil))) (.some E.to5 (.some E.to9 (.none (.some E.to33 (.none (.some E.to129 .nil .nil) .nil) .nil) (.some E.to49 .nil .nil)) .nil) (.none (.none (.some E.to37 .nil .nil) .nil) (.some E.to29 (.none (.some E.to77 .nil .nil) .nil) .nil)))) (.some E.to2 (.some E.to4 (.none (.none (.some E.to32 (.some E.to64 .nil .nil) .nil) .nil) (.some E.to24 .nil .nil)) (.none (.none (.none .nil (.some E.to100 .nil .nil)) .nil) (.some E.to28 (.none .nil (.some E.to108 .nil .nil)) (.some E.to60 .nil .nil)))) (.none (.none (.none .nil (.none .nil (.some E.to114 .nil .nil))) (.none (.some E.to42 .nil .nil) (.none (.some E.to90 .nil .nil) (.some E.to122 .nil .nil)))) (.none (.some E.to22 (.none (.some E.to70 (.some E.to134 .nil .nil) .nil) .nil) .nil) (.none (.none .nil (.some E.to110 .nil .nil)) (.none .nil (.some E.to126 .nil .nil)))))))
theorem E.fnAll:TrAll (FnOk Tryd.prog) E.fnTr id:=(.none (.none (.none (.some E.fo7 (.some E.fo15 (.none (.some E.fo63 .nil .nil) .nil) (.some E.fo47 (.some E.fo79 .nil .nil) .nil)) (.some E.fo23 (.some E.fo39 .nil .nil) (.some E.fo55 (.some E.fo87 .nil .nil) .nil))) (.none (.some E.fo19 (.none (.some E.fo67 .nil .nil) .nil) (.none (.some E.fo83 .nil .nil) .nil)) (.none (.none (.some E.fo75 .nil .nil) .nil) (.some E.fo59 .nil .nil)))) (.some E.fo5 (.none (.some E.fo17 .nil (.some E.fo49 (.some E.fo81 .nil .nil) .nil)) (.some E.fo25 (.none (.some E.fo73 .nil .nil) .nil) (.some E.fo57 .nil .nil))) (.some E.fo13 (.some E.fo21 (.none (.some E.fo69 .nil .nil) .nil) .nil) (.none (.none (.some E.fo77 .nil .nil) .nil) (.some E.fo61 .nil .nil))))) (.none (.none (.none (.some E.fo16 (.none (.some E.fo64 .nil .nil) .nil) (.some E.fo48 (.some E.fo80 .nil .nil) .nil)) (.some E.fo24 (.some E.fo40 .nil .nil) (.some E.fo56 .nil .nil))) (.none (.some E.fo20 (.none (.some E.fo68 .nil .nil) .nil) .nil) (.none (.none (.some E.fo76 .nil .nil) .nil) (.some E.fo60 .nil .nil)))) (.some E.fo6 (.some E.fo10 (.some E.fo18 (.none (.some E.fo66 .nil .nil) .nil) (.some E.fo50 (.some E.fo82 .nil .nil) .nil)) (.none (.none (.some E.fo74 .nil .nil) .nil) (.some E.fo58 .nil .nil))) (.some E.fo14 (.some E.fo22 (.none (.some E.fo70 .nil .nil) .nil) .nil) (.none (.some E.fo46 (.some E.fo78 .nil .nil) .nil) (.some E.fo62 .nil .nil))))))
theorem E.ok:EnvOk Tryd.prog E:=⟨fun t y h=>TrAll.get E.tyAll t y h,by kernel_rfl,fun t y h=>TrAll.get E.mpAll t y h,fun _ _ _ _ _ _ _ _ _ _ _ _ _ h=>(by cases h)⟩
theorem E.fns:∀ f fi,E.fn f = some fi->FnOk Tryd.prog f fi:=fun f fi h=>TrAll.get E.fnAll f fi h
end Go.Proofs.YtkhokgkgloligaaDoor
namespace Go.Proofs.YtkhokgkgloligaaDoor
open Go.Am
theorem F39.fn:E.fn 39 = some (fi 3 Tryd.f39 []):=rfl
theorem F39_ok {F:Nat} {fl:Nat} {S0:Cx fl} {r:(Option ((List ((List UInt8) × Int × Int)) × (List ((List UInt8) × (List UInt8) × Int))))}  (h:F39 F = some r) :Ret E fl 39 [] S0.m S0.n (fun v m' n'=>∃ S':Cx fl,S'.m = m'/\S'.n = n'/\ChM S0 S'/\(∃ w5:SV,v = .sc w5/\(match (generalizing:=false) r with | none=>w5 = .nilp | some x=>∃ b:Nat,∃ w6 w7:SV,w5 = .ptr b 0/\Bw S' 902 (.ptr b 0) [w6,w7]/\Ow Y114 S' 904 w6 x.1/\Ow Y134 S' 906 w7 x.2))):=by
 unfold F39 at h
 refine Ret.walk F39.fn ?_
 have hM:=ChM.refl S0
 refine WC.sq (WC.rg (WO.as rfl (WO.ni (tN (WC.sq (WC.rg (WO.do rfl rfl ?_)))))))
 refine WO.bxW (S:=S0) (cs:=[.nils,.nils]) 2 rfl rfl rfl (fun b1 S2 c3 ho4=>?_)
 have hM:=hM.to c3
 refine WO.as rfl (WO.ni (tN (WC.ret ?_)))
 have hM:=hM.renO 2 902
 have ho4:=ho4.ren (j:=902)
 obtain rfl:=someI h
 exact ⟨.inr rfl,_,_,rfl,rfl,⟨(S2.ren 2 902),rfl,rfl,hM,(.ptr b1 0),rfl,⟨_,.nils,.nils,rfl,ho4,Ow.nil,Ow.nil⟩⟩⟩
open Go.Am
theorem F55.fn:E.fn 55 = some (fi 40 Tryd.f55 []):=rfl
theorem F55_ok {F:Nat} {fl:Nat} {S0:Cx fl} {r:((List UInt8) × Int) × Int × ((List ((List UInt8) × Int × Int)) × (List ((List UInt8) × (List UInt8) × Int)))} {t0:(List ((List UInt8) × Int × Int)) × (List ((List UInt8) × (List UInt8) × Int))} {t1:Int} {t2:Int} {bt0:Nat} {vt0_0:SV} {vt0_1:SV} (h:F55 F t0 t1 t2 = some r) (hot0:Bw S0 2 (.ptr bt0 0) [vt0_0,vt0_1]) (hot0_0:Ow Y114 S0 3 vt0_0 t0.1) (hot0_1:Ow Y134 S0 4 vt0_1 t0.2):Ret E fl 55 [.sc (.ptr bt0 0),.sc (.int .i64 t1),.sc (.int .i64 t2)] S0.m S0.n (fun v m' n'=>∃ S':Cx fl,S'.m = m'/\S'.n = n'/\ChM S0 S'/\(∃ w22 w23:SV,v = .tup [.agg [.str r.1.1,.int .i64 r.1.2],.sc (.int .i64 r.2.1)]/\Bw S' 2 (.ptr bt0 0) [w22,w23]/\Ow Y114 S' 3 w22 r.2.2.1/\Ow Y134 S' 4 w23 r.2.2.2)):=by
 unfold F55 at h
 refine Ret.walk F55.fn ?_
 have hM:=ChM.refl S0
 refine WC.sq (WC.rg ?_)
 refine WO.alS (A:=Y37) (S:=S0) (z0:=(([],0):(List UInt8) × Int)) 5 rfl rfl rfl (fun v1 S2 c3 ho4=>?_)
 have hot0_0:=hot0_0.to c3
 have hot0_1:=hot0_1.to c3
 have hot0:=hot0.to c3
 have hM:=hM.to c3
 refine WO.as rfl (WO.ni (tN (WC.sq (WC.sq (WC.rg (WO.mv rfl ?_))))))
 refine WO.bi rfl rfl rfl ?_
 refine WO.ni (tN ?_)
 refine WC.cond rfl (fun q5=>?_) (fun q5=>?_)
 ·have h:=iteT q5 h
  refine WC.sq (WC.rg (WO.do rfl rfl (WO.mv rfl ?_)))
  refine WO.stBA (u':=(([],0):(List UInt8) × Int)) rfl ho4.at0 rfl ho4 rfl rfl (fun S6 c7 ho4=>?_)
  have hot0_0:=hot0_0.to c7
  have hot0_1:=hot0_1.to c7
  have hot0:=hot0.to c7
  have hM:=hM.to c7
  refine WO.as rfl (WO.ni (tN (WC.ret (tR ?_))))
  have hcell8:=ho4
  obtain rfl:=someI h
  exact ⟨.inr rfl,_,_,(resK_b hcell8 (Cov.refl _) rfl rfl (resK_t (Cov.refl _) rfl rfl)),rfl,⟨S6,rfl,rfl,hM,vt0_0,vt0_1,rfl,hot0,hot0_0,hot0_1⟩⟩
 ·have h:=iteF q5 h
  refine WC.skip (tN (WC.sq (WC.rg (WO.mv rfl ?_))))
  refine WO.nck rfl hot0.isp ?_
  refine WO.fldS (j:=0) (q:=0) rfl hot0.at0 hot0.ptr rfl rfl rfl (by decide) ?_
  refine WO.ldW rfl rfl hot0 rfl rfl hot0.lt rfl ?_
  refine WO.mv rfl ?_
  obtain ⟨x9,e10,h⟩:=bindS h
  refine WO.ixS rfl rfl hot0_0.slv (at?_lt e10) rfl ?_
  refine WO.fldS rfl rfl (SlV.ptr hot0_0.slv (at?_nat e10)) rfl rfl rfl (by decide) ?_
  refine WO.ldF rfl hot0_0.ro (fun _ hi=>hi) (at?_get e10) rfl rfl rfl ?_
  refine WO.bi rfl rfl rfl ?_
  obtain ⟨x11,e12,h⟩:=bindS h
  refine WO.ixS rfl rfl hot0_0.slv (at?_lt e12) rfl ?_
  refine WO.fldS rfl rfl (SlV.ptr hot0_0.slv (at?_nat e12)) rfl rfl rfl (by decide) ?_
  refine WO.stF (q:=2) (u':=(x11.1,x11.2.1,(wrapA .i64 (x9.2.2 + 1)))) rfl rfl hot0_0 (at?_get e12) rfl (by decide) rfl rfl (fun S13 c14 hot0_0=>?_)
  have hot0_1:=hot0_1.to c14
  have hot0:=hot0.to c14
  have hM:=hM.to c14
  have ho4:=ho4.to c14
  refine WO.ni (tN (WC.sq ?_))
  refine WC.drawN rfl rfl ?_
  have hot0_0z:=hot0_0.oz
  have hot0z:=hot0.lt
  refine WO.mv rfl ?_
  refine WO.nck rfl hot0.isp ?_
  refine WO.fldS (j:=0) (q:=0) rfl hot0.at0 hot0.ptr rfl rfl rfl (by decide) ?_
  refine WO.ldW rfl rfl hot0 rfl rfl hot0z (limLe_self _) ?_
  refine WO.mv rfl ?_
  obtain ⟨x15,e16,h⟩:=bindS h
  refine WO.ixS rfl rfl hot0_0.slv (at?_lt e16) rfl ?_
  refine WO.fldS rfl rfl (SlV.ptr hot0_0.slv (at?_nat e16)) rfl rfl rfl (by decide) ?_
  refine WO.ldF rfl hot0_0z (fun _ hi=>hi.1) (at?_get e16) rfl rfl (limLe_self _) ?_
  refine WO.mv rfl ?_
  refine WO.nck rfl hot0.isp ?_
  refine WO.fldS (j:=0) (q:=0) rfl hot0.at0 hot0.ptr rfl rfl rfl (by decide) ?_
  refine WO.ldW rfl rfl hot0 rfl rfl hot0z (limLe_self _) ?_
  refine WO.mv rfl ?_
  obtain ⟨x17,e18,h⟩:=bindS h
  refine WO.ixS rfl rfl hot0_0.slv (at?_lt e18) rfl ?_
  refine WO.fldS rfl rfl (SlV.ptr hot0_0.slv (at?_nat e18)) rfl rfl rfl (by decide) ?_
  refine WO.ldF rfl hot0_0z (fun _ hi=>hi.1) (at?_get e18) rfl rfl (limLe_self _) ?_
  refine WO.do rfl rfl ?_
  refine WO.stBA (u':=(x15.1,x17.2.2)) rfl ho4.at0 rfl ho4 rfl rfl (fun S19 c20 ho4=>?_)
  have hot0_0:=hot0_0.to c20
  have hot0_1:=hot0_1.to c20
  have hot0:=hot0.to c20
  have hM:=hM.to c20
  refine WO.as rfl (WO.ni (tN (WC.ret ?_)))
  have hcell21:=ho4
  obtain rfl:=someI h
  exact ⟨.inr rfl,_,_,(resK_b hcell21 (Cov.refl _) rfl rfl (resK_t (Cov.refl _) rfl rfl)),rfl,⟨S19,rfl,rfl,hM,vt0_0,vt0_1,rfl,hot0,hot0_0,hot0_1⟩⟩
open Go.Am
theorem F74.fn:E.fn 74 = some (fi 21 Tryd.f74 []):=rfl
theorem F74_ok {F:Nat} {m:Mem} {n:Nat} {r:Int} {t0:List Int} {vt0:SV} (h:F74 F t0 = some r) (kt0:Vw Y3 n m vt0 t0):Ret E n 74 [.sc vt0] m n (fun v m' n'=>v = .sc (.int .i64 r)):=by
 unfold F74 at h
 refine Ret.walk F74.fn ?_
 refine WC.start fun S0 em en hz=>?_
 have hot0:=kt0.rdS em hz
 refine WC.sq (WC.rg (WO.as rfl (WO.ni (tN (WC.sq (WC.sq (WC.rg (WO.mv rfl ?_))))))))
 refine WO.lenS rfl hot0.slv rfl ?_
 refine WO.bi rfl rfl rfl ?_
 refine WO.ni (tN ?_)
 refine WC.cond rfl (fun q1=>?_) (fun q1=>?_)
 ·have h:=iteT q1 h
  refine WC.sq (WC.rg (WO.as rfl (WO.ni (tN (WC.ret (tR ?_))))))
  obtain rfl:=someI h
  exact ⟨.inr rfl,_,_,rfl,rfl,rfl⟩
 ·have h:=iteF q1 h
  refine WC.skip (tN (WC.sq (WC.sq (WC.rg (WO.mv rfl ?_)))))
  refine WO.lenS rfl hot0.slv rfl ?_
  refine WO.mv rfl (WO.ni (tN (WC.block ?_)))
  obtain ⟨b14,e15,h⟩:=bindS h
  refine WC.loopD e15 (fun s2 l' m' n'=>∃ S3:Cx n,S3.m = m'/\S3.n = n'/\Cov l' [(8,.sc vt0),(9,.sc (.int .i64 ((t0.length:Int)))),(10,.sc (.int .i64 s2))]/\Rd Y3 S3 vt0 t0) (fun b e l' m' n'=>(match b with | .inl b4=>e = .exit 0/\∃ S5:Cx n,S5.m = m'/\S5.n = n'/\Cov l' [] | .inr b4=>e = .ret/\∃ S6:Cx n,S6.m = m'/\S6.n = n'/\Cov l' [(2,.sc (.int .i64 b4))])) (by exact ⟨S0,rfl,rfl,(Kc (Kc (Kc (Cov.nil _)))),hot0⟩) ?_ ?_
  ·clear h
   rintro s2 q _ _ _ ⟨S7,rfl,rfl,hc8,hot0⟩ h
   unfold F74_l0 at h
   refine WC.cov hc8 ?_
   refine WC.sq (WC.rg ?_)
   refine WO.bi rfl rfl rfl ?_
   refine WO.ni (tN (WC.sq ?_))
   refine WC.cond rfl (fun q9=>?_) (fun q9=>?_)
   ·have h:=iteT q9 h
    refine WC.skip (tN (WC.sq (WC.block (WC.sq (WC.rg ?_)))))
    obtain ⟨x10,e11,h⟩:=bindS h
    refine WO.ixS rfl rfl hot0.slv (at?_lt e11) rfl ?_
    refine WO.ldF rfl hot0.ro (fun _ hi=>hi) (at?_get e11) rfl rfl rfl ?_
    refine WO.as rfl (WO.ni (tN (WC.sq (WC.rg (WO.mv rfl ?_)))))
    refine WO.bi rfl rfl rfl ?_
    refine WO.mv rfl ?_
    refine WO.cutB (d:=19) 3 ((decide (x10 < 0)) || (decide (x10 > 100))) (fun q12=>?_) (fun q12=>?_) ?_
    ·refine WO.gno rfl rfl (WO.gno rfl rfl ?_)
     refine WO.pickT rfl rfl ?_
     refine WO.ni ?_
     exact ⟨rfl,rfl,(Cov.any rfl (orT q12) (Ks (Ks (Ks (Ks (Cov.refl _))))))⟩
    ·skip
     refine WO.gyes rfl rfl (WO.mv rfl (WO.gyes rfl rfl ?_))
     refine WO.bi rfl rfl rfl ?_
     refine WO.pickF rfl rfl ?_
     refine WO.ni ?_
     exact ⟨rfl,rfl,(Cov.any rfl (orF q12) (Ks (Ks (Ks (Ks (Cov.refl _))))))⟩
    refine WO.ni (tN ?_)
    refine WC.cond rfl (fun q13=>?_) (fun q13=>?_)
    ·have h:=iteT q13 h
     refine WC.sq (WC.rg (WO.as rfl (WO.ni (tN (WC.ret (bR (tR (tR ?_))))))))
     obtain rfl:=someI h
     exact ⟨_,rfl,rfl,⟨S7,rfl,rfl,(Kc (Cov.nil _))⟩⟩
    ·have h:=iteF q13 h
     refine WC.skip (bN (tN (WC.rg ?_)))
     refine WO.bi rfl rfl rfl ?_
     refine WO.mv rfl (WO.ni (tN ?_))
     obtain rfl:=someI h
     exact ⟨_,rfl,⟨S7,rfl,rfl,(Kc (Kc (Kc (Cov.nil _)))),hot0⟩⟩
   ·have h:=iteF q9 h
    refine WC.exit (tE (tE ?_))
    obtain rfl:=someI h
    exact ⟨_,rfl,rfl,⟨S7,rfl,rfl,(Cov.nil _)⟩⟩
  cases b14 with
  | inl b16=>
   simp only at h
   rintro _ _ _ _ ⟨rfl,⟨S17,rfl,rfl,hc18⟩⟩
   refine bS (tN ?_)
   refine WC.cov hc18 ?_
   refine WC.sq (WC.rg (WO.as rfl (WO.ni (tN (WC.ret ?_)))))
   obtain rfl:=someI h
   exact ⟨.inr rfl,_,_,rfl,rfl,rfl⟩
  | inr b16=>
   simp only at h
   rintro _ _ _ _ ⟨rfl,⟨S19,rfl,rfl,hc20⟩⟩
   refine bR (tR ?_)
   obtain rfl:=someI h
   exact ⟨.inr rfl,_,_,(resK_cov hc20 rfl),rfl,rfl⟩
open Go.Am
theorem F73.fn:E.fn 73 = some (fi 24 Tryd.f73 []):=rfl
theorem F73_ok {F:Nat} {m:Mem} {n:Nat} {r:Int × Int} {t0:List Int} {vt0:SV} (h:F73 F t0 = some r) (kt0:Vw Y3 n m vt0 t0):Ret E n 73 [.sc vt0] m n (fun v m' n'=>v = .tup [.sc (.int .i64 r.1),.sc (.int .i64 r.2)]):=by
 unfold F73 at h
 refine Ret.walk F73.fn ?_
 refine WC.start fun S0 em en hz=>?_
 have hot0:=kt0.rdS em hz
 refine WC.sq (WC.rg (WO.as rfl (WO.as rfl (WO.ni (tN (WC.sq (WC.sq (WC.rg (WO.mv rfl ?_)))))))))
 obtain ⟨r1,e2,h⟩:=bindS h
 refine WO.callE (S:=S0) rfl rfl (F74_ok e2 hot0.vw) (fun S3 c4=>?_)
 have hot0:=hot0.to c4
 refine WO.as rfl (WO.ni (tN (WC.sq (WC.rg (WO.mv rfl ?_)))))
 refine WO.bi rfl rfl rfl ?_
 refine WO.ni (tN ?_)
 refine WC.cond rfl (fun q5=>?_) (fun q5=>?_)
 ·have h:=iteT q5 h
  refine WC.sq (WC.rg (WO.mv rfl (WO.as rfl (WO.as rfl (WO.ni (tN (WC.ret (tR ?_))))))))
  obtain rfl:=someI h
  exact ⟨.inr rfl,_,_,rfl,rfl,rfl⟩
 ·have h:=iteF q5 h
  refine WC.skip (tN (WC.sq (WC.rg (WO.as rfl (WO.ni (tN (WC.sq (WC.sq (WC.rg (WO.mv rfl ?_))))))))))
  refine WO.lenS rfl hot0.slv rfl ?_
  refine WO.mv rfl (WO.ni (tN (WC.block ?_)))
  obtain ⟨b14,e15,h⟩:=bindS h
  refine WC.loopD e15 (fun s6 l' m' n'=>∃ S7:Cx n,S7.m = m'/\S7.n = n'/\Cov l' [(5,.sc (.int .i64 s6.1)),(13,.sc vt0),(14,.sc (.int .i64 ((t0.length:Int)))),(15,.sc (.int .i64 s6.2))]/\Rd Y3 S7 vt0 t0) (fun b e l' m' n'=>e = .exit 0/\∃ S8:Cx n,S8.m = m'/\S8.n = n'/\Cov l' [(5,.sc (.int .i64 b))]) (by exact ⟨S3,rfl,rfl,(Kc (Kc (Kc (Kc (Cov.nil _))))),hot0⟩) ?_ ?_
  ·clear h
   rintro s6 q _ _ _ ⟨S9,rfl,rfl,hc10,hot0⟩ h
   unfold F73_l0 at h
   refine WC.cov hc10 ?_
   refine WC.sq (WC.rg ?_)
   refine WO.bi rfl rfl rfl ?_
   refine WO.ni (tN (WC.sq ?_))
   refine WC.cond rfl (fun q11=>?_) (fun q11=>?_)
   ·have h:=iteT q11 h
    refine WC.skip (tN (WC.sq (WC.block (WC.sq (WC.rg ?_)))))
    obtain ⟨x12,e13,h⟩:=bindS h
    refine WO.ixS rfl rfl hot0.slv (at?_lt e13) rfl ?_
    refine WO.ldF rfl hot0.ro (fun _ hi=>hi) (at?_get e13) rfl rfl rfl ?_
    refine WO.as rfl (WO.ni (tN (WC.rg (WO.mv rfl (WO.mv rfl ?_)))))
    refine WO.bi rfl rfl rfl ?_
    refine WO.as rfl (WO.ni (bN (tN (WC.rg ?_))))
    refine WO.bi rfl rfl rfl ?_
    refine WO.mv rfl (WO.ni (tN ?_))
    obtain rfl:=someI h
    exact ⟨_,rfl,⟨S9,rfl,rfl,(Kc (Kc (Kc (Kc (Cov.nil _))))),hot0⟩⟩
   ·have h:=iteF q11 h
    refine WC.exit (tE (tE ?_))
    obtain rfl:=someI h
    exact ⟨_,rfl,rfl,⟨S9,rfl,rfl,(Kc (Cov.nil _))⟩⟩
  rintro _ _ _ _ ⟨rfl,⟨S16,rfl,rfl,hc17⟩⟩
  refine bS (tN ?_)
  refine WC.cov hc17 ?_
  refine WC.sq (WC.rg (WO.mv rfl (WO.as rfl (WO.as rfl (WO.ni (tN (WC.ret ?_)))))))
  obtain rfl:=someI h
  exact ⟨.inr rfl,_,_,rfl,rfl,rfl⟩
open Go.Am
theorem F56.fn:E.fn 56 = some (fi 41 Tryd.f56 []):=rfl
theorem F56_ok {F:Nat} {m:Mem} {n:Nat} {r:Int × Int} {t0:List Int} {t1:Int} {vt0:SV} (h:F56 F t0 t1 = some r) (kt0:Vw Y3 n m vt0 t0):Ret E n 56 [.sc vt0,.sc (.int .i64 t1)] m n (fun v m' n'=>v = .tup [.sc (.int .i64 r.1),.sc (.int .i64 r.2)]):=by
 unfold F56 at h
 refine Ret.walk F56.fn ?_
 refine WC.start fun S0 em en hz=>?_
 have hot0:=kt0.rdS em hz
 refine WC.sq (WC.rg (WO.as rfl (WO.as rfl (WO.ni (tN (WC.sq (WC.rg (WO.mv rfl ?_))))))))
 obtain ⟨r1,e2,h⟩:=bindS h
 refine WO.callE (S:=S0) rfl rfl (F73_ok e2 hot0.vw) (fun S3 c4=>?_)
 have hot0:=hot0.to c4
 refine WO.mv rfl (WO.do rfl rfl (WO.do rfl rfl (WO.as rfl (WO.as rfl (WO.ni (tN (WC.sq (WC.sq (WC.rg (WO.mv rfl ?_))))))))))
 refine WO.bi rfl rfl rfl ?_
 refine WO.ni (tN ?_)
 refine WC.cond rfl (fun q5=>?_) (fun q5=>?_)
 ·have h:=iteT q5 h
  refine WC.sq (WC.rg (WO.mv rfl (WO.as rfl (WO.as rfl (WO.ni (tN (WC.ret (tR ?_))))))))
  obtain rfl:=someI h
  exact ⟨.inr rfl,_,_,rfl,rfl,rfl⟩
 ·have h:=iteF q5 h
  refine WC.skip (tN (WC.sq (WC.sq (WC.rg (WO.mv rfl ?_)))))
  refine WO.bi rfl rfl rfl ?_
  refine WO.ni (tN ?_)
  refine WC.cond rfl (fun q6=>?_) (fun q6=>?_)
  ·have h:=iteT q6 h
   refine WC.sq (WC.rg (WO.as rfl (WO.as rfl (WO.ni (tN (WC.ret (tR ?_)))))))
   obtain rfl:=someI h
   exact ⟨.inr rfl,_,_,rfl,rfl,rfl⟩
  ·have h:=iteF q6 h
   refine WC.skip (tN (WC.sq (WC.sq (WC.rg (WO.mv rfl ?_)))))
   refine WO.bi rfl rfl rfl ?_
   refine WO.mv rfl ?_
   refine WO.cutB (d:=25) 4 ((decide (t1 < 0)) || (decide (t1 ≥ r1.1))) (fun q7=>?_) (fun q7=>?_) ?_
   ·refine WO.gno rfl rfl (WO.gno rfl rfl (WO.gno rfl rfl ?_))
    refine WO.pickT rfl rfl ?_
    refine WO.ni ?_
    exact ⟨rfl,rfl,(Cov.any rfl (orT q7) (Ks (Ks (Ks (Ks (Ks (Cov.refl _)))))))⟩
   ·skip
    refine WO.gyes rfl rfl (WO.mv rfl (WO.gyes rfl rfl (WO.mv rfl (WO.gyes rfl rfl ?_))))
    refine WO.bi rfl rfl rfl ?_
    refine WO.pickF rfl rfl ?_
    refine WO.ni ?_
    exact ⟨rfl,rfl,(Cov.any rfl (orF q7) (Ks (Ks (Ks (Ks (Ks (Cov.refl _)))))))⟩
   refine WO.ni (tN ?_)
   refine WC.cond rfl (fun q8=>?_) (fun q8=>?_)
   ·have h:=iteT q8 h
    refine WC.sq (WC.rg (WO.as rfl (WO.as rfl (WO.ni (tN (WC.ret (tR ?_)))))))
    obtain rfl:=someI h
    exact ⟨.inr rfl,_,_,rfl,rfl,rfl⟩
   ·have h:=iteF q8 h
    refine WC.skip (tN (WC.sq (WC.rg (WO.as rfl (WO.ni (tN (WC.sq (WC.block ?_))))))))
    obtain ⟨b19,e20,h⟩:=bindS h
    refine WC.loopD e20 (fun s9 l' m' n'=>∃ S10:Cx n,S10.m = m'/\S10.n = n'/\Cov l' [(0,.sc vt0),(1,.sc (.int .i64 s9.1)),(8,.sc (.int .i64 s9.2))]/\Rd Y3 S10 vt0 t0) (fun b e l' m' n'=>e = .exit 0/\∃ S11:Cx n,S11.m = m'/\S11.n = n'/\Cov l' [(8,.sc (.int .i64 b))]) (by exact ⟨S3,rfl,rfl,(Kc (Kc (Kc (Cov.nil _)))),hot0⟩) ?_ ?_
    ·clear h
     rintro s9 q _ _ _ ⟨S12,rfl,rfl,hc13,hot0⟩ h
     unfold F56_l0 at h
     refine WC.cov hc13 ?_
     refine WC.sq (WC.sq (WC.rg (WO.mv rfl (WO.mv rfl (WO.mv rfl ?_)))))
     obtain ⟨x14,e15,h⟩:=bindS h
     refine WO.ixS rfl rfl hot0.slv (at?_lt e15) rfl ?_
     refine WO.ldF rfl hot0.ro (fun _ hi=>hi) (at?_get e15) rfl rfl rfl ?_
     refine WO.bi rfl rfl rfl ?_
     refine WO.ni (tN ?_)
     refine WC.cond rfl (fun q16=>?_) (fun q16=>?_)
     ·have h:=iteT q16 h
      refine WC.skip (tN (WC.block (WC.sq (WC.rg (WO.mv rfl (WO.mv rfl (WO.mv rfl ?_)))))))
      obtain ⟨x17,e18,h⟩:=bindS h
      refine WO.ixS rfl rfl hot0.slv (at?_lt e18) rfl ?_
      refine WO.ldF rfl hot0.ro (fun _ hi=>hi) (at?_get e18) rfl rfl rfl ?_
      refine WO.bi rfl rfl rfl ?_
      refine WO.as rfl (WO.ni (tN (WC.rg (WO.mv rfl ?_))))
      refine WO.bi rfl rfl rfl ?_
      refine WO.as rfl (WO.ni (bN (tN ?_)))
      obtain rfl:=someI h
      exact ⟨_,rfl,⟨S12,rfl,rfl,(Kc (Kc (Kc (Cov.nil _)))),hot0⟩⟩
     ·have h:=iteF q16 h
      refine WC.exit (tE (tE ?_))
      obtain rfl:=someI h
      exact ⟨_,rfl,rfl,⟨S12,rfl,rfl,(Kc (Cov.nil _))⟩⟩
    rintro _ _ _ _ ⟨rfl,⟨S21,rfl,rfl,hc22⟩⟩
    refine bS (tN ?_)
    refine WC.cov hc22 ?_
    refine WC.sq (WC.rg (WO.mv rfl (WO.as rfl (WO.as rfl (WO.ni (tN (WC.ret ?_)))))))
    obtain rfl:=someI h
    exact ⟨.inr rfl,_,_,rfl,rfl,rfl⟩
open Go.Am
theorem F57.fn:E.fn 57 = some (fi 22 Tryd.f57 []):=rfl
theorem F57_ok {F:Nat} {m:Mem} {n:Nat} {r:(List Int)} {t0:(List ((List UInt8) × Int × Int)) × (List ((List UInt8) × (List UInt8) × Int))} {bt0:Nat} {vt0_0:SV} {vt0_1:SV} (h:F57 F t0 = some r) (kt0:Pw n m (.ptr bt0 0) [vt0_0,vt0_1]) (kt0_0:Vw Y114 n m vt0_0 t0.1) (kt0_1:Vw Y134 n m vt0_1 t0.2):Ret E n 57 [.sc (.ptr bt0 0)] m n (fun v m' n'=>∃ w,v = .sc w/\Fr Y3 n m' n' w r):=by
 unfold F57 at h
 refine Ret.walk F57.fn ?_
 refine WC.start fun S0 em en hz=>?_
 have hot0_0:=kt0_0.rdS em hz
 have hot0:=kt0.rwS em hz
 refine WC.sq (WC.rg (WO.as rfl (WO.ni (tN (WC.sq (WC.rg (WO.as rfl (WO.ni (tN (WC.sq (WC.sq (WC.rg (WO.mv rfl ?_)))))))))))))
 refine WO.nck rfl hot0.isp ?_
 refine WO.fldS (j:=0) (q:=0) rfl hot0.at0 hot0.ptr rfl rfl rfl (by decide) ?_
 refine WO.ldRw rfl rfl hot0 rfl rfl hot0.lt rfl ?_
 refine WO.lenS rfl hot0_0.slv rfl ?_
 refine WO.mv rfl (WO.ni (tN (WC.block ?_)))
 obtain ⟨b29,e30,h⟩:=bindS h
 refine WC.loopD e30 (fun s1 l' m' n'=>∃ S3:Cx n,∃ v4:SV,S3.m = m'/\S3.n = n'/\Cov l' [(3,.sc v4),(9,.sc vt0_0),(10,.sc (.int .i64 ((t0.1.length:Int)))),(11,.sc (.int .i64 s1.2))]/\Rd Y114 S3 vt0_0 t0.1/\Ow Y3 S3 2 v4 s1.1) (fun b e l' m' n'=>e = .exit 0/\∃ S5:Cx n,∃ v6:SV,S5.m = m'/\S5.n = n'/\Cov l' [(3,.sc v6)]/\Ow Y3 S5 2 v6 b) (by exact ⟨S0,.nils,rfl,rfl,(Kc (Kc (Kc (Kc (Cov.nil _))))),hot0_0,Ow.nil⟩) ?_ ?_
 ·clear h
  rintro s1 q _ _ _ ⟨S7,v8,rfl,rfl,hc9,hot0_0,ho3⟩ h
  unfold F57_l0 at h
  refine WC.cov hc9 ?_
  refine WC.sq (WC.rg ?_)
  refine WO.bi rfl rfl rfl ?_
  refine WO.ni (tN (WC.sq ?_))
  refine WC.cond rfl (fun q10=>?_) (fun q10=>?_)
  ·have h:=iteT q10 h
   refine WC.skip (tN (WC.sq (WC.block (WC.sq (WC.rg ?_)))))
   obtain ⟨x11,e12,h⟩:=bindS h
   refine WO.ixS rfl rfl hot0_0.slv (at?_lt e12) rfl ?_
   refine WO.ldA rfl hot0_0.ro (fun _ hi=>hi) (at?_get e12) rfl rfl ?_
   refine WO.alS (A:=Y114) (S:=S7) (z0:=(([],0,0):(List UInt8) × Int × Int)) 3 rfl rfl rfl (fun v13 S14 c15 ho16=>?_)
   have hot0_0:=hot0_0.to c15
   have ho3:=ho3.to c15
   refine WO.stBA (u':=(x11.1,x11.2.1,x11.2.2)) rfl ho16.at0 rfl ho16 rfl rfl (fun S17 c18 ho16=>?_)
   have hot0_0:=hot0_0.to c18
   have ho3:=ho3.to c18
   refine WO.ni (tN (WC.rg (WO.mv rfl ?_)))
   refine WO.fldS (j:=0) (q:=0) rfl ho16.at0 ho16.ptr rfl rfl rfl (by decide) ?_
   refine WO.ldB (j:=0) (q:=1) rfl rfl ho16 rfl rfl rfl ?_
   refine WO.bsS (A:=Y3) (S:=S17) (M:=[((x11.1,x11.2.1,x11.2.2)).2.1]) (cs:=[.int .i64 (((x11.1,x11.2.1,x11.2.2)).2.1)]) 4 rfl rfl rfl ⟨[.int .i64 (((x11.1,x11.2.1,x11.2.2)).2.1)],_,rfl,rfl,rfl⟩ rfl (fun v19 S20 c21 ho22=>?_)
   have hot0_0:=hot0_0.to c21
   have ho3:=ho3.to c21
   obtain ⟨L23,e24,h⟩:=bindS h
   refine WO.appS rfl rfl ho3 ho22.ro e24 rfl rfl (fun v25 S26 c27 ho28=>?_)
   have hot0_0:=hot0_0.to c27
   refine WO.as rfl (WO.ni (bN (tN (WC.rg ?_))))
   refine WO.bi rfl rfl rfl ?_
   refine WO.mv rfl (WO.ni (tN ?_))
   obtain rfl:=someI h
   exact ⟨_,rfl,⟨S26,v25,rfl,rfl,(Kc (Kc (Kc (Kc (Cov.nil _))))),hot0_0,ho28⟩⟩
  ·have h:=iteF q10 h
   refine WC.exit (tE (tE ?_))
   obtain rfl:=someI h
   exact ⟨_,rfl,rfl,⟨S7,v8,rfl,rfl,(Kc (Cov.nil _)),ho3⟩⟩
 rintro _ _ _ _ ⟨rfl,⟨S31,v32,rfl,rfl,hc33,ho3⟩⟩
 refine bS (tN ?_)
 refine WC.cov hc33 ?_
 refine WC.sq (WC.rg (WO.mv rfl (WO.as rfl (WO.ni (tN (WC.ret ?_))))))
 obtain rfl:=someI h
 exact ⟨.inr rfl,_,_,rfl,rfl,⟨v32,rfl,(ho3.fr Lay.flat_fl)⟩⟩
open Go.Am
theorem F75.fn:E.fn 75 = some (fi 42 Tryd.f75 []):=rfl
theorem F75_ok {F:Nat} {m:Mem} {n:Nat} {r:Int} {t0:List Int} {t1:List Int} {vt0:SV} {vt1:SV} (h:F75 F t0 t1 = some r) (kt0:Vw Y3 n m vt0 t0) (kt1:Vw Y3 n m vt1 t1):Ret E n 75 [.sc vt0,.sc vt1] m n (fun v m' n'=>v = .sc (.int .i64 r)):=by
 unfold F75 at h
 refine Ret.walk F75.fn ?_
 refine WC.start fun S0 em en hz=>?_
 have hot0:=kt0.rdS em hz
 have hot1:=kt1.rdS em hz
 refine WC.sq (WC.rg (WO.as rfl (WO.ni (tN (WC.sq (WC.rg (WO.as rfl (WO.ni (tN (WC.sq (WC.sq (WC.rg (WO.mv rfl ?_)))))))))))))
 refine WO.lenS rfl hot0.slv rfl ?_
 refine WO.mv rfl (WO.ni (tN (WC.block ?_)))
 obtain ⟨b22,e23,h⟩:=bindS h
 refine WC.loopD e23 (fun s1 l' m' n'=>∃ S2:Cx n,S2.m = m'/\S2.n = n'/\Cov l' [(0,.sc vt0),(1,.sc vt1),(5,.sc (.int .i64 s1.1)),(8,.sc vt0),(9,.sc (.int .i64 ((t0.length:Int)))),(10,.sc (.int .i64 s1.2))]/\Rd Y3 S2 vt0 t0/\Rd Y3 S2 vt1 t1) (fun b e l' m' n'=>e = .exit 0/\∃ S3:Cx n,S3.m = m'/\S3.n = n'/\Cov l' [(5,.sc (.int .i64 b))]) (by exact ⟨S0,rfl,rfl,(Kc (Kc (Kc (Kc (Kc (Kc (Cov.nil _))))))),hot0,hot1⟩) ?_ ?_
 ·clear h
  rintro s1 q _ _ _ ⟨S4,rfl,rfl,hc5,hot0,hot1⟩ h
  unfold F75_l0 at h
  refine WC.cov hc5 ?_
  refine WC.sq (WC.rg ?_)
  refine WO.bi rfl rfl rfl ?_
  refine WO.ni (tN (WC.sq ?_))
  refine WC.cond rfl (fun q6=>?_) (fun q6=>?_)
  ·have h:=iteT q6 h
   refine WC.skip (tN (WC.sq (WC.block (WC.sq (WC.rg (WO.mv rfl ?_))))))
   obtain ⟨x7,e8,h⟩:=bindS h
   refine WO.ixS rfl rfl hot0.slv (at?_lt e8) rfl ?_
   refine WO.ldF rfl hot0.ro (fun _ hi=>hi) (at?_get e8) rfl rfl rfl ?_
   refine WO.as rfl (WO.as rfl (WO.ni (tN (WC.sq ?_))))
   refine WC.drawP rfl rfl ?_
   refine WO.mv rfl ?_
   refine WO.bi rfl rfl rfl ?_
   refine WO.mv rfl ?_
   obtain ⟨y19,e20,h⟩:=bindS h
   refine WO.cutB (d:=38) 21 y19 (fun q18=>?_) (fun q18=>?_) ?_
   ·have h:=e20
    have h:=iteT q18 h
    refine WO.gyes rfl rfl (WO.mv rfl (WO.gyes rfl rfl ?_))
    refine WO.bi rfl rfl rfl ?_
    refine WO.gyes rfl rfl (WO.mv rfl ?_)
    obtain ⟨y16,e17,h⟩:=bindS h
    refine WO.cutB (d:=37) 17 y16 (fun q15=>?_) (fun q15=>?_) ?_
    ·have h:=e17
     have h:=iteT q15 h
     obtain rfl:=someI h
     refine WO.gno rfl rfl (WO.gno rfl rfl (WO.gno rfl rfl (WO.gno rfl rfl (WO.gno rfl rfl (WO.gno rfl rfl (WO.gno rfl rfl (WO.gno rfl rfl (WO.gno rfl rfl (WO.gno rfl rfl (WO.gno rfl rfl (WO.gno rfl rfl (WO.gno rfl rfl (WO.gno rfl rfl (WO.gno rfl rfl (WO.gno rfl rfl ?_)))))))))))))))
     refine WO.gyes rfl rfl ?_
     refine WO.pickT rfl rfl ?_
     refine WO.ni ?_
     exact ⟨rfl,rfl,(Kc (Ks (Ks (Ks (Ks (Ks (Ks (Ks (Ks (Ks (Ks (Ks (Ks (Ks (Ks (Ks (Ks (Ks (Ks (Cov.refl _))))))))))))))))))))⟩
    ·have h:=e17
     have h:=iteF q15 h
     refine WO.gyes rfl rfl (WO.mv rfl (WO.gyes rfl rfl (WO.mv rfl (WO.gyes rfl rfl ?_))))
     obtain ⟨x9,e10,h⟩:=bindS h
     refine WO.ixS rfl rfl hot1.slv (at?_lt e10) rfl ?_
     refine WO.gyes rfl rfl ?_
     refine WO.ldF rfl hot1.ro (fun _ hi=>hi) (at?_get e10) rfl rfl (limLe_self _) ?_
     refine WO.gyes rfl rfl (WO.mv rfl (WO.gyes rfl rfl (WO.mv rfl (WO.gyes rfl rfl ?_))))
     obtain ⟨x11,e12,h⟩:=bindS h
     refine WO.ixS rfl rfl hot0.slv (at?_lt e12) rfl ?_
     refine WO.gyes rfl rfl ?_
     refine WO.ldF rfl hot0.ro (fun _ hi=>hi) (at?_get e12) rfl rfl (limLe_self _) ?_
     refine WO.gyes rfl rfl ?_
     refine WO.bi rfl rfl rfl ?_
     refine WO.gyes rfl rfl (WO.mv rfl (WO.gyes rfl rfl (WO.mv rfl (WO.gyes rfl rfl ?_))))
     obtain ⟨x13,e14,h⟩:=bindS h
     refine WO.ixS rfl rfl hot1.slv (at?_lt e14) rfl ?_
     refine WO.gyes rfl rfl ?_
     refine WO.ldF rfl hot1.ro (fun _ hi=>hi) (at?_get e14) rfl rfl (limLe_self _) ?_
     refine WO.gyes rfl rfl (WO.mv rfl (WO.gyes rfl rfl ?_))
     refine WO.bi rfl rfl rfl ?_
     refine WO.gyes rfl rfl ?_
     refine WO.bi rfl rfl rfl ?_
     obtain rfl:=someI h
     refine WO.gyes rfl rfl ?_
     refine WO.pickF rfl rfl ?_
     refine WO.ni ?_
     exact ⟨rfl,rfl,(Kc (Ks (Ks (Ks (Ks (Ks (Ks (Ks (Ks (Ks (Ks (Ks (Ks (Ks (Ks (Ks (Ks (Ks (Ks (Cov.refl _))))))))))))))))))))⟩
    obtain rfl:=someI h
    refine WO.pickT rfl rfl ?_
    refine WO.ni ?_
    exact ⟨rfl,rfl,(Kc (Ks (Ks (Ks (Ks (Ks (Cov.refl _)))))))⟩
   ·have h:=e20
    have h:=iteF q18 h
    obtain rfl:=someI h
    refine WO.gno rfl rfl (WO.gno rfl rfl (WO.gno rfl rfl (WO.gskip rfl rfl (WO.gskip rfl rfl (WO.gskip rfl rfl (WO.gskip rfl rfl (WO.gskip rfl rfl (WO.gskip rfl rfl (WO.gskip rfl rfl (WO.gskip rfl rfl (WO.gskip rfl rfl (WO.gskip rfl rfl (WO.gskip rfl rfl (WO.gskip rfl rfl (WO.gskip rfl rfl ?_)))))))))))))))
    refine WO.gskip rfl rfl (WO.gskip rfl rfl (WO.gskip rfl rfl (WO.gno rfl rfl ?_)))
    refine WO.pickF rfl rfl ?_
    refine WO.ni ?_
    exact ⟨rfl,rfl,(Kc (Ks (Ks (Ks (Ks (Ks (Ks (Ks (Ks (Ks (Ks (Ks (Ks (Ks (Ks (Ks (Ks (Ks (Ks (Ks (Ks (Ks (Ks (Cov.refl _))))))))))))))))))))))))⟩
   refine WO.ni (tN ?_)
   refine WC.cond rfl (fun q21=>?_) (fun q21=>?_)
   ·have h:=iteT q21 h
    refine WC.rg (WO.mv rfl (WO.as rfl (WO.ni (bN (tN (WC.rg ?_))))))
    refine WO.bi rfl rfl rfl ?_
    refine WO.mv rfl (WO.ni (tN ?_))
    obtain rfl:=someI h
    exact ⟨_,rfl,⟨S4,rfl,rfl,(Kc (Kc (Kc (Kc (Kc (Kc (Cov.nil _))))))),hot0,hot1⟩⟩
   ·have h:=iteF q21 h
    refine WC.skip (bN (tN (WC.rg ?_)))
    refine WO.bi rfl rfl rfl ?_
    refine WO.mv rfl (WO.ni (tN ?_))
    obtain rfl:=someI h
    exact ⟨_,rfl,⟨S4,rfl,rfl,(Kc (Kc (Kc (Kc (Kc (Kc (Cov.nil _))))))),hot0,hot1⟩⟩
  ·have h:=iteF q6 h
   refine WC.exit (tE (tE ?_))
   obtain rfl:=someI h
   exact ⟨_,rfl,rfl,⟨S4,rfl,rfl,(Kc (Cov.nil _))⟩⟩
 rintro _ _ _ _ ⟨rfl,⟨S24,rfl,rfl,hc25⟩⟩
 refine bS (tN ?_)
 refine WC.cov hc25 ?_
 refine WC.sq (WC.rg (WO.mv rfl (WO.as rfl (WO.ni (tN (WC.ret ?_))))))
 obtain rfl:=someI h
 exact ⟨.inr rfl,_,_,rfl,rfl,rfl⟩
open Go.Am
theorem F58.fn:E.fn 58 = some (fi 39 Tryd.f58 []):=rfl
theorem F58_ok {F:Nat} {m:Mem} {n:Nat} {r:Int × Int} {t0:List Int} {t1:List Int} {vt0:SV} {vt1:SV} (h:F58 F t0 t1 = some r) (kt0:Vw Y3 n m vt0 t0) (kt1:Vw Y3 n m vt1 t1):Ret E n 58 [.sc vt0,.sc vt1] m n (fun v m' n'=>v = .tup [.sc (.int .i64 r.1),.sc (.int .i64 r.2)]):=by
 unfold F58 at h
 refine Ret.walk F58.fn ?_
 refine WC.start fun S0 em en hz=>?_
 have hot0:=kt0.rdS em hz
 have hot1:=kt1.rdS em hz
 refine WC.sq (WC.rg (WO.as rfl (WO.as rfl (WO.ni (tN (WC.sq (WC.sq (WC.rg (WO.mv rfl ?_)))))))))
 obtain ⟨r1,e2,h⟩:=bindS h
 refine WO.callE (S:=S0) rfl rfl (F74_ok e2 hot0.vw) (fun S3 c4=>?_)
 have hot0:=hot0.to c4
 have hot1:=hot1.to c4
 refine WO.as rfl (WO.ni (tN (WC.sq (WC.rg (WO.mv rfl ?_)))))
 refine WO.bi rfl rfl rfl ?_
 refine WO.ni (tN ?_)
 refine WC.cond rfl (fun q5=>?_) (fun q5=>?_)
 ·have h:=iteT q5 h
  refine WC.sq (WC.rg (WO.mv rfl (WO.as rfl (WO.as rfl (WO.ni (tN (WC.ret (tR ?_))))))))
  obtain rfl:=someI h
  exact ⟨.inr rfl,_,_,rfl,rfl,rfl⟩
 ·have h:=iteF q5 h
  refine WC.skip (tN (WC.sq (WC.sq (WC.rg (WO.mv rfl ?_)))))
  refine WO.lenS rfl hot1.slv rfl ?_
  refine WO.mv rfl ?_
  refine WO.lenS rfl hot0.slv rfl ?_
  refine WO.bi rfl rfl rfl ?_
  refine WO.ni (tN ?_)
  refine WC.cond rfl (fun q6=>?_) (fun q6=>?_)
  ·have h:=iteT q6 h
   refine WC.sq (WC.rg (WO.as rfl (WO.as rfl (WO.ni (tN (WC.ret (tR ?_)))))))
   obtain rfl:=someI h
   exact ⟨.inr rfl,_,_,rfl,rfl,rfl⟩
  ·have h:=iteF q6 h
   refine WC.skip (tN (WC.sq (WC.sq (WC.rg (WO.mv rfl ?_)))))
   refine WO.lenS rfl hot1.slv rfl ?_
   refine WO.mv rfl (WO.ni (tN (WC.block ?_)))
   obtain ⟨b19,e20,h⟩:=bindS h
   refine WC.loopD e20 (fun s7 l' m' n'=>∃ S8:Cx n,S8.m = m'/\S8.n = n'/\Cov l' [(0,.sc vt0),(1,.sc vt1),(20,.sc vt1),(21,.sc (.int .i64 ((t1.length:Int)))),(22,.sc (.int .i64 s7))]/\Rd Y3 S8 vt0 t0/\Rd Y3 S8 vt1 t1) (fun b e l' m' n'=>(match b with | .inl b9=>e = .exit 0/\∃ S10:Cx n,S10.m = m'/\S10.n = n'/\Cov l' [(0,.sc vt0),(1,.sc vt1)]/\Rd Y3 S10 vt0 t0/\Rd Y3 S10 vt1 t1 | .inr b9=>e = .ret/\∃ S11:Cx n,S11.m = m'/\S11.n = n'/\Cov l' [(4,.sc (.int .i64 b9.1)),(5,.sc (.int .i64 b9.2))])) (by exact ⟨S3,rfl,rfl,(Kc (Kc (Kc (Kc (Kc (Cov.nil _)))))),hot0,hot1⟩) ?_ ?_
   ·clear h
    rintro s7 q _ _ _ ⟨S12,rfl,rfl,hc13,hot0,hot1⟩ h
    unfold F58_l0 at h
    refine WC.cov hc13 ?_
    refine WC.sq (WC.rg ?_)
    refine WO.bi rfl rfl rfl ?_
    refine WO.ni (tN (WC.sq ?_))
    refine WC.cond rfl (fun q14=>?_) (fun q14=>?_)
    ·have h:=iteT q14 h
     refine WC.skip (tN (WC.sq (WC.block (WC.sq (WC.rg ?_)))))
     obtain ⟨x15,e16,h⟩:=bindS h
     refine WO.ixS rfl rfl hot1.slv (at?_lt e16) rfl ?_
     refine WO.ldF rfl hot1.ro (fun _ hi=>hi) (at?_get e16) rfl rfl rfl ?_
     refine WO.as rfl (WO.ni (tN (WC.sq (WC.rg (WO.mv rfl ?_)))))
     refine WO.bi rfl rfl rfl ?_
     refine WO.mv rfl ?_
     refine WO.cutB (d:=31) 3 ((decide (x15 < 0)) || (decide (x15 > 1000000000))) (fun q17=>?_) (fun q17=>?_) ?_
     ·refine WO.gno rfl rfl (WO.gno rfl rfl ?_)
      refine WO.pickT rfl rfl ?_
      refine WO.ni ?_
      exact ⟨rfl,rfl,(Cov.any rfl (orT q17) (Ks (Ks (Ks (Ks (Cov.refl _))))))⟩
     ·skip
      refine WO.gyes rfl rfl (WO.mv rfl (WO.gyes rfl rfl ?_))
      refine WO.bi rfl rfl rfl ?_
      refine WO.pickF rfl rfl ?_
      refine WO.ni ?_
      exact ⟨rfl,rfl,(Cov.any rfl (orF q17) (Ks (Ks (Ks (Ks (Cov.refl _))))))⟩
     refine WO.ni (tN ?_)
     refine WC.cond rfl (fun q18=>?_) (fun q18=>?_)
     ·have h:=iteT q18 h
      refine WC.sq (WC.rg (WO.as rfl (WO.as rfl (WO.ni (tN (WC.ret (bR (tR (tR ?_)))))))))
      obtain rfl:=someI h
      exact ⟨_,rfl,rfl,⟨S12,rfl,rfl,(Kc (Kc (Cov.nil _)))⟩⟩
     ·have h:=iteF q18 h
      refine WC.skip (bN (tN (WC.rg ?_)))
      refine WO.bi rfl rfl rfl ?_
      refine WO.mv rfl (WO.ni (tN ?_))
      obtain rfl:=someI h
      exact ⟨_,rfl,⟨S12,rfl,rfl,(Kc (Kc (Kc (Kc (Kc (Cov.nil _)))))),hot0,hot1⟩⟩
    ·have h:=iteF q14 h
     refine WC.exit (tE (tE ?_))
     obtain rfl:=someI h
     exact ⟨_,rfl,rfl,⟨S12,rfl,rfl,(Kc (Kc (Cov.nil _))),hot0,hot1⟩⟩
   cases b19 with
   | inl b21=>
    simp only at h
    rintro _ _ _ _ ⟨rfl,⟨S22,rfl,rfl,hc23,hot0,hot1⟩⟩
    refine bS (tN ?_)
    refine WC.cov hc23 ?_
    refine WC.sq (WC.rg (WO.mv rfl (WO.mv rfl ?_)))
    obtain ⟨r24,e25,h⟩:=bindS h
    refine WO.callE (S:=S22) rfl rfl (F75_ok e25 hot0.vw hot1.vw) (fun S26 c27=>?_)
    refine WO.as rfl (WO.ni (tN (WC.sq (WC.sq (WC.rg (WO.mv rfl ?_))))))
    refine WO.bi rfl rfl rfl ?_
    refine WO.ni (tN ?_)
    refine WC.cond rfl (fun q28=>?_) (fun q28=>?_)
    ·have h:=iteT q28 h
     refine WC.sq (WC.rg (WO.as rfl (WO.as rfl (WO.ni (tN (WC.ret (tR ?_)))))))
     obtain rfl:=someI h
     exact ⟨.inr rfl,_,_,rfl,rfl,rfl⟩
    ·have h:=iteF q28 h
     refine WC.skip (tN (WC.sq (WC.rg (WO.mv rfl (WO.as rfl (WO.as rfl (WO.ni (tN (WC.ret ?_)))))))))
     obtain rfl:=someI h
     exact ⟨.inr rfl,_,_,rfl,rfl,rfl⟩
   | inr b21=>
    simp only at h
    rintro _ _ _ _ ⟨rfl,⟨S29,rfl,rfl,hc30⟩⟩
    refine bR (tR ?_)
    obtain rfl:=someI h
    exact ⟨.inr rfl,_,_,(resK_cov hc30 rfl),rfl,rfl⟩
open Go.Am
theorem F59.fn:E.fn 59 = some (fi 27 Tryd.f59 []):=rfl
theorem F59_ok {F:Nat} {m:Mem} {n:Nat} {r:Bool} {t0:List UInt8} (h:F59 F t0 = some r) :Ret E n 59 [.sc (.str t0)] m n (fun v m' n'=>v = .sc (.bool r)):=by
 unfold F59 at h
 refine Ret.walk F59.fn ?_
 refine WC.start fun S0 em en hz=>?_
 refine WC.sq (WC.rg (WO.as rfl (WO.ni (tN (WC.sq (WC.sq (WC.rg (WO.mv rfl ?_))))))))
 obtain ⟨L1,e2,h⟩:=bindS h
 refine WO.cvB (S:=S0) 2 rfl e2 rfl rfl rfl rfl rfl rfl rfl rfl rfl (fun v3 S4 c5 ho6=>?_)
 refine WO.lenS rfl ho6.slv rfl ?_
 refine WO.mv rfl (WO.ni (tN (WC.block ?_)))
 obtain ⟨b19,e20,h⟩:=bindS h
 refine WC.loopD e20 (fun s7 l' m' n'=>∃ S8:Cx n,S8.m = m'/\S8.n = n'/\Cov l' [(0,.sc (.str t0)),(6,.sc v3),(7,.sc (.int .i64 ((L1.length:Int)))),(8,.sc (.int .i64 s7))]/\Ow Y5 S8 2 v3 L1) (fun b e l' m' n'=>(match b with | .inl b9=>e = .exit 0/\∃ S10:Cx n,S10.m = m'/\S10.n = n'/\Cov l' [(0,.sc (.str t0))] | .inr b9=>e = .ret/\∃ S11:Cx n,S11.m = m'/\S11.n = n'/\Cov l' [(2,.sc (.bool b9))])) (by exact ⟨S4,rfl,rfl,(Kc (Kc (Kc (Kc (Cov.nil _))))),ho6⟩) ?_ ?_
 ·clear h
  rintro s7 q _ _ _ ⟨S12,rfl,rfl,hc13,ho6⟩ h
  unfold F59_l0 at h
  refine WC.cov hc13 ?_
  refine WC.sq (WC.rg ?_)
  refine WO.bi rfl rfl rfl ?_
  refine WO.ni (tN (WC.sq ?_))
  refine WC.cond rfl (fun q14=>?_) (fun q14=>?_)
  ·have h:=iteT q14 h
   refine WC.skip (tN (WC.sq (WC.block (WC.sq (WC.rg ?_)))))
   obtain ⟨x15,e16,h⟩:=bindS h
   refine WO.ixS rfl rfl ho6.slv (at?_lt e16) rfl ?_
   refine WO.ldF rfl ho6.ro (fun _ hi=>hi) (at?_get e16) rfl rfl rfl ?_
   refine WO.as rfl (WO.ni (tN (WC.sq (WC.rg (WO.mv rfl ?_)))))
   refine WO.bi rfl rfl rfl ?_
   refine WO.mv rfl ?_
   refine WO.cutB (d:=17) 3 ((decide (x15 < 97)) || (decide (x15 > 122))) (fun q17=>?_) (fun q17=>?_) ?_
   ·refine WO.gno rfl rfl (WO.gno rfl rfl ?_)
    refine WO.pickT rfl rfl ?_
    refine WO.ni ?_
    exact ⟨rfl,rfl,(Cov.any rfl (orT q17) (Ks (Ks (Ks (Ks (Cov.refl _))))))⟩
   ·skip
    refine WO.gyes rfl rfl (WO.mv rfl (WO.gyes rfl rfl ?_))
    refine WO.bi rfl rfl rfl ?_
    refine WO.pickF rfl rfl ?_
    refine WO.ni ?_
    exact ⟨rfl,rfl,(Cov.any rfl (orF q17) (Ks (Ks (Ks (Ks (Cov.refl _))))))⟩
   refine WO.ni (tN ?_)
   refine WC.cond rfl (fun q18=>?_) (fun q18=>?_)
   ·have h:=iteT q18 h
    refine WC.sq (WC.rg (WO.as rfl (WO.ni (tN (WC.ret (bR (tR (tR ?_))))))))
    obtain rfl:=someI h
    exact ⟨_,rfl,rfl,⟨S12,rfl,rfl,(Kc (Cov.nil _))⟩⟩
   ·have h:=iteF q18 h
    refine WC.skip (bN (tN (WC.rg ?_)))
    refine WO.bi rfl rfl rfl ?_
    refine WO.mv rfl (WO.ni (tN ?_))
    obtain rfl:=someI h
    exact ⟨_,rfl,⟨S12,rfl,rfl,(Kc (Kc (Kc (Kc (Cov.nil _))))),ho6⟩⟩
  ·have h:=iteF q14 h
   refine WC.exit (tE (tE ?_))
   obtain rfl:=someI h
   exact ⟨_,rfl,rfl,⟨S12,rfl,rfl,(Kc (Cov.nil _))⟩⟩
 cases b19 with
 | inl b21=>
  simp only at h
  rintro _ _ _ _ ⟨rfl,⟨S22,rfl,rfl,hc23⟩⟩
  refine bS (tN ?_)
  refine WC.cov hc23 ?_
  refine WC.sq (WC.rg (WO.mv rfl ?_))
  refine WO.lenT rfl rfl rfl ?_
  refine WO.bi rfl rfl rfl ?_
  refine WO.mv rfl ?_
  refine WO.cutB (d:=26) 4 ((decide ((t0.length:Int) > 0)) && (decide ((t0.length:Int)<=12))) (fun q24=>?_) (fun q24=>?_) ?_
  ·skip
   refine WO.gyes rfl rfl (WO.mv rfl (WO.gyes rfl rfl ?_))
   refine WO.lenT rfl rfl rfl ?_
   refine WO.gyes rfl rfl ?_
   refine WO.bi rfl rfl rfl ?_
   refine WO.pickT rfl rfl ?_
   refine WO.ni ?_
   exact ⟨rfl,rfl,(Cov.any rfl (andT q24) (Ks (Ks (Ks (Ks (Ks (Cov.refl _)))))))⟩
  ·refine WO.gno rfl rfl (WO.gno rfl rfl (WO.gno rfl rfl ?_))
   refine WO.pickF rfl rfl ?_
   refine WO.ni ?_
   exact ⟨rfl,rfl,(Cov.any rfl (andF q24) (Ks (Ks (Ks (Ks (Ks (Cov.refl _)))))))⟩
  refine WO.as rfl (WO.ni (tN (WC.ret ?_)))
  obtain rfl:=someI h
  exact ⟨.inr rfl,_,_,rfl,rfl,rfl⟩
 | inr b21=>
  simp only at h
  rintro _ _ _ _ ⟨rfl,⟨S25,rfl,rfl,hc26⟩⟩
  refine bR (tR ?_)
  obtain rfl:=someI h
  exact ⟨.inr rfl,_,_,(resK_cov hc26 rfl),rfl,rfl⟩
open Go.Am
theorem F77.fn:E.fn 77 = some (fi 8 Tryd.f77 []):=rfl
theorem F77_ok {F:Nat} {m:Mem} {n:Nat} {r:Bool} {t0:(List UInt8) × Int × Int} {c0:List UInt8} {bc0:Nat} (h:F77 F t0 c0 = some r) (kc0:Pv Y9 n m bc0 c0):Ret E n 77 [.agg [.str t0.1,.int .i64 t0.2.1,.int .i64 t0.2.2],.sc (.ptr bc0 0)] m n (fun v m' n'=>v = .sc (.bool r)):=by
 unfold F77 at h
 refine Ret.walk F77.fn ?_
 refine WC.start fun S0 em en hz=>?_
 have hoc0:=kc0.rpS em hz
 refine WC.sq (WC.rg ?_)
 refine WO.bxS (A:=Y114) (S:=S0) (u:=(t0.1,t0.2.1,t0.2.2)) 2 rfl rfl rfl rfl (fun v1 S2 c3 ho4=>?_)
 have hoc0:=hoc0.to c3
 refine WO.as rfl (WO.ni (tN (WC.sq (WC.rg ?_))))
 refine WO.fldS (j:=0) (q:=0) rfl ho4.at0 ho4.ptr rfl rfl rfl (by decide) ?_
 refine WO.ldB (j:=0) (q:=0) rfl rfl ho4 rfl rfl rfl ?_
 refine WO.ldP rfl hoc0 rfl rfl rfl ?_
 refine WO.do rfl rfl (WO.as rfl (WO.ni (tN (WC.ret ?_))))
 obtain rfl:=someI h
 exact ⟨.inr rfl,_,_,rfl,rfl,rfl⟩
open Go.Am
theorem F76_77.fn:E.fn 76 = some (fi 19 Tryd.f76 []):=rfl
theorem F76_77_ok {F:Nat} {m:Mem} {n:Nat} {r:Int} {t0:List ((List UInt8) × Int × Int)} {t1c0:List UInt8} {vt0:SV} {bt1c0:Nat} (h:F76_77 F t0 t1c0 = some r) (kt0:Vw Y114 n m vt0 t0) (kt1c0:Pv Y9 n m bt1c0 t1c0):Ret E n 76 [.sc vt0,.sc (.fn 77 [(bt1c0,0)])] m n (fun v m' n'=>v = .sc (.int .i64 r)):=by
 unfold F76_77 at h
 refine Ret.walk F76_77.fn ?_
 refine WC.start fun S0 em en hz=>?_
 have hot0:=kt0.rdS em hz
 have hot1c0:=kt1c0.rpS em hz
 refine WC.sq (WC.rg (WO.as rfl (WO.ni (tN (WC.sq (WC.sq (WC.rg (WO.mv rfl ?_))))))))
 refine WO.lenS rfl hot0.slv rfl ?_
 refine WO.mv rfl (WO.ni (tN (WC.block ?_)))
 obtain ⟨b16,e17,h⟩:=bindS h
 refine WC.loopD e17 (fun s1 l' m' n'=>∃ S2:Cx n,S2.m = m'/\S2.n = n'/\Cov l' [(0,.sc vt0),(1,.sc (.fn 77 [(bt1c0,0)])),(7,.sc (.int .i64 ((t0.length:Int)))),(8,.sc (.int .i64 s1))]/\Rd Y114 S2 vt0 t0/\Rp Y9 S2 (.ptr bt1c0 0) t1c0) (fun b e l' m' n'=>(match b with | .inl b3=>e = .exit 0/\∃ S4:Cx n,S4.m = m'/\S4.n = n'/\Cov l' [] | .inr b3=>e = .ret/\∃ S5:Cx n,S5.m = m'/\S5.n = n'/\Cov l' [(4,.sc (.int .i64 b3))])) (by exact ⟨S0,rfl,rfl,(Kc (Kc (Kc (Kc (Cov.nil _))))),hot0,hot1c0⟩) ?_ ?_
 ·clear h
  rintro s1 q _ _ _ ⟨S6,rfl,rfl,hc7,hot0,hot1c0⟩ h
  unfold F76_77_l0 at h
  refine WC.cov hc7 ?_
  refine WC.sq (WC.rg ?_)
  refine WO.bi rfl rfl rfl ?_
  refine WO.ni (tN (WC.sq ?_))
  refine WC.cond rfl (fun q8=>?_) (fun q8=>?_)
  ·have h:=iteT q8 h
   refine WC.skip (tN (WC.sq (WC.block (WC.sq (WC.rg (WO.mv rfl (WO.as rfl (WO.ni (tN (WC.sq (WC.rg (WO.mv rfl (WO.mv rfl (WO.mv rfl ?_))))))))))))))
   obtain ⟨x9,e10,h⟩:=bindS h
   refine WO.ixS rfl rfl hot0.slv (at?_lt e10) rfl ?_
   refine WO.ldA rfl hot0.ro (fun _ hi=>hi) (at?_get e10) rfl rfl ?_
   obtain ⟨r11,e12,h⟩:=bindS h
   refine WO.callE (S:=S6) rfl rfl (F77_ok e12 hot1c0.pv) (fun S13 c14=>?_)
   have hot0:=hot0.to c14
   have hot1c0:=hot1c0.to c14
   refine WO.ni (tN ?_)
   refine WC.cond rfl (fun q15=>?_) (fun q15=>?_)
   ·have h:=iteT q15 h
    refine WC.sq (WC.rg (WO.mv rfl (WO.as rfl (WO.ni (tN (WC.ret (bR (tR (tR ?_)))))))))
    obtain rfl:=someI h
    exact ⟨_,rfl,rfl,⟨S13,rfl,rfl,(Kc (Cov.nil _))⟩⟩
   ·have h:=iteF q15 h
    refine WC.skip (bN (tN (WC.rg ?_)))
    refine WO.bi rfl rfl rfl ?_
    refine WO.mv rfl (WO.ni (tN ?_))
    obtain rfl:=someI h
    exact ⟨_,rfl,⟨S13,rfl,rfl,(Kc (Kc (Kc (Kc (Cov.nil _))))),hot0,hot1c0⟩⟩
  ·have h:=iteF q8 h
   refine WC.exit (tE (tE ?_))
   obtain rfl:=someI h
   exact ⟨_,rfl,rfl,⟨S6,rfl,rfl,(Cov.nil _)⟩⟩
 cases b16 with
 | inl b18=>
  simp only at h
  rintro _ _ _ _ ⟨rfl,⟨S19,rfl,rfl,hc20⟩⟩
  refine bS (tN ?_)
  refine WC.cov hc20 ?_
  refine WC.sq (WC.rg (WO.as rfl (WO.ni (tN (WC.ret ?_)))))
  obtain rfl:=someI h
  exact ⟨.inr rfl,_,_,rfl,rfl,rfl⟩
 | inr b18=>
  simp only at h
  rintro _ _ _ _ ⟨rfl,⟨S21,rfl,rfl,hc22⟩⟩
  refine bR (tR ?_)
  obtain rfl:=someI h
  exact ⟨.inr rfl,_,_,(resK_cov hc22 rfl),rfl,rfl⟩
open Go.Am
theorem F60.fn:E.fn 60 = some (fi 11 Tryd.f60 []):=rfl
theorem F60_ok {F:Nat} {m:Mem} {n:Nat} {r:Int} {t0:(List ((List UInt8) × Int × Int)) × (List ((List UInt8) × (List UInt8) × Int))} {t1:List UInt8} {bt0:Nat} {vt0_0:SV} {vt0_1:SV} (h:F60 F t0 t1 = some r) (kt0:Pw n m (.ptr bt0 0) [vt0_0,vt0_1]) (kt0_0:Vw Y114 n m vt0_0 t0.1) (kt0_1:Vw Y134 n m vt0_1 t0.2):Ret E n 60 [.sc (.ptr bt0 0),.sc (.str t1)] m n (fun v m' n'=>v = .sc (.int .i64 r)):=by
 unfold F60 at h
 refine Ret.walk F60.fn ?_
 refine WC.start fun S0 em en hz=>?_
 have hot0_0:=kt0_0.rdS em hz
 have hot0:=kt0.rwS em hz
 refine WC.sq (WC.rg ?_)
 refine WO.bxS (A:=Y9) (S:=S0) (u:=t1) 2 rfl rfl rfl rfl (fun v1 S2 c3 ho4=>?_)
 have hot0_0:=hot0_0.to c3
 have hot0:=hot0.to c3
 refine WO.as rfl (WO.ni (tN (WC.sq (WC.rg (WO.mv rfl ?_)))))
 refine WO.nck rfl hot0.isp ?_
 refine WO.fldS (j:=0) (q:=0) rfl hot0.at0 hot0.ptr rfl rfl rfl (by decide) ?_
 refine WO.ldRw rfl rfl hot0 rfl rfl hot0.lt rfl ?_
 obtain ⟨b5,rfl⟩:=ho4.isp
 refine WO.do rfl rfl ?_
 obtain ⟨r6,e7,h⟩:=bindS h
 refine WO.callE (S:=S2) rfl rfl (F76_77_ok e7 hot0_0.vw ho4.pv) (fun S8 c9=>?_)
 refine WO.as rfl (WO.ni (tN (WC.ret ?_)))
 obtain rfl:=someI h
 exact ⟨.inr rfl,_,_,rfl,rfl,rfl⟩
open Go.Am
theorem F61.fn:E.fn 61 = some (fi 37 Tryd.f61 []):=rfl
theorem F61_ok {F:Nat} {fl:Nat} {S0:Cx fl} {r:Int × ((List ((List UInt8) × Int × Int)) × (List ((List UInt8) × (List UInt8) × Int)))} {t0:(List ((List UInt8) × Int × Int)) × (List ((List UInt8) × (List UInt8) × Int))} {t1:Int} {t2:Int × Int × (List UInt8) × (List UInt8)} {bt0:Nat} {vt0_0:SV} {vt0_1:SV} (h:F61 F t0 t1 t2 = some r) (hot0:Bw S0 2 (.ptr bt0 0) [vt0_0,vt0_1]) (hot0_0:Ow Y114 S0 3 vt0_0 t0.1) (hot0_1:Ow Y134 S0 4 vt0_1 t0.2):Ret E fl 61 [.sc (.ptr bt0 0),.sc (.int .i64 t1),.agg [.int .i64 t2.1,.int .i64 t2.2.1,.str t2.2.2.1,.str t2.2.2.2]] S0.m S0.n (fun v m' n'=>∃ S':Cx fl,S'.m = m'/\S'.n = n'/\ChM S0 S'/\(∃ w21 w22:SV,v = .sc (.int .i64 r.1)/\Bw S' 2 (.ptr bt0 0) [w21,w22]/\Ow Y114 S' 3 w21 r.2.1/\Ow Y134 S' 4 w22 r.2.2)):=by
 unfold F61 at h
 refine Ret.walk F61.fn ?_
 have hM:=ChM.refl S0
 refine WC.sq (WC.rg ?_)
 refine WO.bxS (A:=Y35) (S:=S0) (u:=(t2.1,t2.2.1,t2.2.2.1,t2.2.2.2)) 5 rfl rfl rfl rfl (fun v1 S2 c3 ho4=>?_)
 have hot0_0:=hot0_0.to c3
 have hot0_1:=hot0_1.to c3
 have hot0:=hot0.to c3
 have hM:=hM.to c3
 refine WO.as rfl (WO.ni (tN (WC.sq (WC.sq (WC.rg (WO.mv rfl ?_))))))
 refine WO.bi rfl rfl rfl ?_
 refine WO.ni (tN ?_)
 refine WC.cond rfl (fun q5=>?_) (fun q5=>?_)
 ·have h:=iteT q5 h
  refine WC.sq (WC.rg (WO.as rfl (WO.ni (tN (WC.ret (tR ?_))))))
  obtain rfl:=someI h
  exact ⟨.inr rfl,_,_,rfl,rfl,⟨S2,rfl,rfl,hM,vt0_0,vt0_1,rfl,hot0,hot0_0,hot0_1⟩⟩
 ·have h:=iteF q5 h
  refine WC.skip (tN (WC.sq (WC.sq (WC.rg ?_))))
  refine WO.fldS (j:=0) (q:=0) rfl ho4.at0 ho4.ptr rfl rfl rfl (by decide) ?_
  refine WO.ldB (j:=0) (q:=1) rfl rfl ho4 rfl rfl rfl ?_
  refine WO.bi rfl rfl rfl ?_
  refine WO.mv rfl ?_
  refine WO.cutB (d:=16) 4 ((decide (((t2.1,t2.2.1,t2.2.2.1,t2.2.2.2)).2.1 < 0)) || (decide (((t2.1,t2.2.1,t2.2.2.1,t2.2.2.2)).2.1 > 100))) (fun q6=>?_) (fun q6=>?_) ?_
  ·refine WO.gno rfl rfl (WO.gno rfl rfl (WO.gno rfl rfl ?_))
   refine WO.pickT rfl rfl ?_
   refine WO.ni ?_
   exact ⟨rfl,rfl,(Cov.any rfl (orT q6) (Ks (Ks (Ks (Ks (Ks (Cov.refl _)))))))⟩
  ·skip
   refine WO.gyes rfl rfl ?_
   refine WO.fldS (j:=0) (q:=0) rfl ho4.at0 ho4.ptr rfl rfl rfl (by decide) ?_
   refine WO.gyes rfl rfl ?_
   refine WO.ldB (j:=0) (q:=1) rfl rfl ho4 rfl rfl rfl ?_
   refine WO.gyes rfl rfl ?_
   refine WO.bi rfl rfl rfl ?_
   refine WO.pickF rfl rfl ?_
   refine WO.ni ?_
   exact ⟨rfl,rfl,(Cov.any rfl (orF q6) (Ks (Ks (Ks (Ks (Ks (Cov.refl _)))))))⟩
  refine WO.ni (tN ?_)
  refine WC.cond rfl (fun q7=>?_) (fun q7=>?_)
  ·have h:=iteT q7 h
   refine WC.sq (WC.rg (WO.as rfl (WO.ni (tN (WC.ret (tR ?_))))))
   obtain rfl:=someI h
   exact ⟨.inr rfl,_,_,rfl,rfl,⟨S2,rfl,rfl,hM,vt0_0,vt0_1,rfl,hot0,hot0_0,hot0_1⟩⟩
  ·have h:=iteF q7 h
   refine WC.skip (tN (WC.sq (WC.sq (WC.rg (WO.mv rfl ?_)))))
   refine WO.nck rfl hot0.isp ?_
   refine WO.fldS (j:=0) (q:=0) rfl hot0.at0 hot0.ptr rfl rfl rfl (by decide) ?_
   refine WO.ldW rfl rfl hot0 rfl rfl hot0.lt rfl ?_
   refine WO.lenS rfl hot0_0.slv rfl ?_
   refine WO.bi rfl rfl rfl ?_
   refine WO.ni (tN ?_)
   refine WC.cond rfl (fun q8=>?_) (fun q8=>?_)
   ·have h:=iteT q8 h
    refine WC.sq (WC.rg (WO.as rfl (WO.ni (tN (WC.ret (tR ?_))))))
    obtain rfl:=someI h
    exact ⟨.inr rfl,_,_,rfl,rfl,⟨S2,rfl,rfl,hM,vt0_0,vt0_1,rfl,hot0,hot0_0,hot0_1⟩⟩
   ·have h:=iteF q8 h
    refine WC.skip (tN (WC.sq ?_))
    refine WC.drawN rfl rfl ?_
    have hot0z:=hot0.lt
    have ho4z:=ho4.lt
    refine WO.mv rfl (WO.mv rfl ?_)
    refine WO.nck rfl hot0.isp ?_
    refine WO.fldS (j:=0) (q:=0) rfl hot0.at0 hot0.ptr rfl rfl rfl (by decide) ?_
    refine WO.ldW rfl rfl hot0 rfl rfl hot0z (limLe_self _) ?_
    refine WO.fldS (j:=0) (q:=0) rfl ho4.at0 ho4.ptr rfl rfl rfl (by decide) ?_
    refine WO.ldBz (j:=0) (q:=2) rfl rfl ho4 rfl rfl ho4z (limLe_self _) ?_
    refine WO.fldS (j:=0) (q:=0) rfl ho4.at0 ho4.ptr rfl rfl rfl (by decide) ?_
    refine WO.ldBz (j:=0) (q:=1) rfl rfl ho4 rfl rfl ho4z (limLe_self _) ?_
    refine WO.do rfl rfl ?_
    refine WO.bsS (A:=Y114) (S:=S2) (M:=[(((t2.1,t2.2.1,t2.2.2.1,t2.2.2.2)).2.2.1,((t2.1,t2.2.1,t2.2.2.1,t2.2.2.2)).2.1,0)]) (cs:=[.str (((t2.1,t2.2.1,t2.2.2.1,t2.2.2.2)).2.2.1),.int .i64 (((t2.1,t2.2.1,t2.2.2.1,t2.2.2.2)).2.1),.int .i64 0]) 6 rfl rfl rfl ⟨[.str (((t2.1,t2.2.1,t2.2.2.1,t2.2.2.2)).2.2.1),.int .i64 (((t2.1,t2.2.1,t2.2.2.1,t2.2.2.2)).2.1),.int .i64 0],_,rfl,rfl,rfl⟩ rfl (fun v9 S10 c11 ho12=>?_)
    have hot0_0:=hot0_0.to c11
    have hot0_1:=hot0_1.to c11
    have hot0:=hot0.to c11
    have hM:=hM.to c11
    obtain ⟨L13,e14,h⟩:=bindS h
    refine WO.appSB rfl rfl hot0_0 ho12.ro e14 rfl rfl rfl (fun v15 S16 c17 ho18=>?_)
    have hot0_1:=hot0_1.to c17
    have hot0:=hot0.to c17
    have hM:=hM.to c17
    refine WO.nck rfl hot0.isp ?_
    refine WO.fldS (j:=0) (q:=0) rfl hot0.at0 hot0.ptr rfl rfl rfl (by decide) ?_
    refine WO.stW (S:=S16) (r:=[v15,vt0_1]) rfl rfl rfl rfl hot0 rfl rfl rfl rfl rfl (fun S19 c20 hot0=>?_)
    have hot0_1:=hot0_1.to c20
    have hM:=hM.to c20
    have ho18:=ho18.to c20
    refine WO.ni (tN (WC.sq (WC.rg (WO.as rfl (WO.ni (tN (WC.ret ?_)))))))
    obtain rfl:=someI h
    exact ⟨.inr rfl,_,_,rfl,rfl,⟨S19,rfl,rfl,hM,v15,vt0_1,rfl,hot0,ho18,hot0_1⟩⟩
open Go.Am
theorem F79.fn:E.fn 79 = some (fi 14 Tryd.f79 []):=rfl
theorem F79_ok {F:Nat} {m:Mem} {n:Nat} {r:Bool} {t0:(List UInt8) × (List UInt8) × Int} {c0:List UInt8} {bc0:Nat} (h:F79 F t0 c0 = some r) (kc0:Pv Y9 n m bc0 c0):Ret E n 79 [.agg [.str t0.1,.str t0.2.1,.int .i64 t0.2.2],.sc (.ptr bc0 0)] m n (fun v m' n'=>v = .sc (.bool r)):=by
 unfold F79 at h
 refine Ret.walk F79.fn ?_
 refine WC.start fun S0 em en hz=>?_
 have hoc0:=kc0.rpS em hz
 refine WC.sq (WC.rg ?_)
 refine WO.bxS (A:=Y134) (S:=S0) (u:=(t0.1,t0.2.1,t0.2.2)) 2 rfl rfl rfl rfl (fun v1 S2 c3 ho4=>?_)
 have hoc0:=hoc0.to c3
 refine WO.as rfl (WO.ni (tN (WC.sq (WC.rg ?_))))
 refine WO.fldS (j:=0) (q:=0) rfl ho4.at0 ho4.ptr rfl rfl rfl (by decide) ?_
 refine WO.ldB (j:=0) (q:=0) rfl rfl ho4 rfl rfl rfl ?_
 refine WO.ldP rfl hoc0 rfl rfl rfl ?_
 refine WO.do rfl rfl (WO.mv rfl ?_)
 refine WO.cutB (d:=13) 5 ((((t0.1,t0.2.1,t0.2.2)).1 == c0) || (((t0.1,t0.2.1,t0.2.2)).2.1 == c0)) (fun q5=>?_) (fun q5=>?_) ?_
 ·refine WO.gno rfl rfl (WO.gno rfl rfl (WO.gno rfl rfl (WO.gno rfl rfl ?_)))
  refine WO.pickT rfl rfl ?_
  refine WO.ni ?_
  exact ⟨rfl,rfl,(Cov.any rfl (orT q5) (Ks (Ks (Ks (Ks (Ks (Ks (Cov.refl _))))))))⟩
 ·skip
  refine WO.gyes rfl rfl ?_
  refine WO.fldS (j:=0) (q:=0) rfl ho4.at0 ho4.ptr rfl rfl rfl (by decide) ?_
  refine WO.gyes rfl rfl ?_
  refine WO.ldB (j:=0) (q:=1) rfl rfl ho4 rfl rfl rfl ?_
  refine WO.gyes rfl rfl ?_
  refine WO.ldP rfl hoc0 rfl rfl rfl ?_
  refine WO.gyes rfl rfl (WO.do rfl rfl ?_)
  refine WO.pickF rfl rfl ?_
  refine WO.ni ?_
  exact ⟨rfl,rfl,(Cov.any rfl (orF q5) (Ks (Ks (Ks (Ks (Ks (Ks (Cov.refl _))))))))⟩
 refine WO.as rfl (WO.ni (tN (WC.ret ?_)))
 obtain rfl:=someI h
 exact ⟨.inr rfl,_,_,rfl,rfl,rfl⟩
open Go.Am
theorem F87_79.fn:E.fn 87 = some (fi 19 Tryd.f87 []):=rfl
theorem F87_79_ok {F:Nat} {m:Mem} {n:Nat} {r:Int} {t0:List ((List UInt8) × (List UInt8) × Int)} {t1c0:List UInt8} {vt0:SV} {bt1c0:Nat} (h:F87_79 F t0 t1c0 = some r) (kt0:Vw Y134 n m vt0 t0) (kt1c0:Pv Y9 n m bt1c0 t1c0):Ret E n 87 [.sc vt0,.sc (.fn 79 [(bt1c0,0)])] m n (fun v m' n'=>v = .sc (.int .i64 r)):=by
 unfold F87_79 at h
 refine Ret.walk F87_79.fn ?_
 refine WC.start fun S0 em en hz=>?_
 have hot0:=kt0.rdS em hz
 have hot1c0:=kt1c0.rpS em hz
 refine WC.sq (WC.rg (WO.as rfl (WO.ni (tN (WC.sq (WC.sq (WC.rg (WO.mv rfl ?_))))))))
 refine WO.lenS rfl hot0.slv rfl ?_
 refine WO.mv rfl (WO.ni (tN (WC.block ?_)))
 obtain ⟨b16,e17,h⟩:=bindS h
 refine WC.loopD e17 (fun s1 l' m' n'=>∃ S2:Cx n,S2.m = m'/\S2.n = n'/\Cov l' [(0,.sc vt0),(1,.sc (.fn 79 [(bt1c0,0)])),(7,.sc (.int .i64 ((t0.length:Int)))),(8,.sc (.int .i64 s1))]/\Rd Y134 S2 vt0 t0/\Rp Y9 S2 (.ptr bt1c0 0) t1c0) (fun b e l' m' n'=>(match b with | .inl b3=>e = .exit 0/\∃ S4:Cx n,S4.m = m'/\S4.n = n'/\Cov l' [] | .inr b3=>e = .ret/\∃ S5:Cx n,S5.m = m'/\S5.n = n'/\Cov l' [(4,.sc (.int .i64 b3))])) (by exact ⟨S0,rfl,rfl,(Kc (Kc (Kc (Kc (Cov.nil _))))),hot0,hot1c0⟩) ?_ ?_
 ·clear h
  rintro s1 q _ _ _ ⟨S6,rfl,rfl,hc7,hot0,hot1c0⟩ h
  unfold F87_79_l0 at h
  refine WC.cov hc7 ?_
  refine WC.sq (WC.rg ?_)
  refine WO.bi rfl rfl rfl ?_
  refine WO.ni (tN (WC.sq ?_))
  refine WC.cond rfl (fun q8=>?_) (fun q8=>?_)
  ·have h:=iteT q8 h
   refine WC.skip (tN (WC.sq (WC.block (WC.sq (WC.rg (WO.mv rfl (WO.as rfl (WO.ni (tN (WC.sq (WC.rg (WO.mv rfl (WO.mv rfl (WO.mv rfl ?_))))))))))))))
   obtain ⟨x9,e10,h⟩:=bindS h
   refine WO.ixS rfl rfl hot0.slv (at?_lt e10) rfl ?_
   refine WO.ldA rfl hot0.ro (fun _ hi=>hi) (at?_get e10) rfl rfl ?_
   obtain ⟨r11,e12,h⟩:=bindS h
   refine WO.callE (S:=S6) rfl rfl (F79_ok e12 hot1c0.pv) (fun S13 c14=>?_)
   have hot0:=hot0.to c14
   have hot1c0:=hot1c0.to c14
   refine WO.ni (tN ?_)
   refine WC.cond rfl (fun q15=>?_) (fun q15=>?_)
   ·have h:=iteT q15 h
    refine WC.sq (WC.rg (WO.mv rfl (WO.as rfl (WO.ni (tN (WC.ret (bR (tR (tR ?_)))))))))
    obtain rfl:=someI h
    exact ⟨_,rfl,rfl,⟨S13,rfl,rfl,(Kc (Cov.nil _))⟩⟩
   ·have h:=iteF q15 h
    refine WC.skip (bN (tN (WC.rg ?_)))
    refine WO.bi rfl rfl rfl ?_
    refine WO.mv rfl (WO.ni (tN ?_))
    obtain rfl:=someI h
    exact ⟨_,rfl,⟨S13,rfl,rfl,(Kc (Kc (Kc (Kc (Cov.nil _))))),hot0,hot1c0⟩⟩
  ·have h:=iteF q8 h
   refine WC.exit (tE (tE ?_))
   obtain rfl:=someI h
   exact ⟨_,rfl,rfl,⟨S6,rfl,rfl,(Cov.nil _)⟩⟩
 cases b16 with
 | inl b18=>
  simp only at h
  rintro _ _ _ _ ⟨rfl,⟨S19,rfl,rfl,hc20⟩⟩
  refine bS (tN ?_)
  refine WC.cov hc20 ?_
  refine WC.sq (WC.rg (WO.as rfl (WO.ni (tN (WC.ret ?_)))))
  obtain rfl:=someI h
  exact ⟨.inr rfl,_,_,rfl,rfl,rfl⟩
 | inr b18=>
  simp only at h
  rintro _ _ _ _ ⟨rfl,⟨S21,rfl,rfl,hc22⟩⟩
  refine bR (tR ?_)
  obtain rfl:=someI h
  exact ⟨.inr rfl,_,_,(resK_cov hc22 rfl),rfl,rfl⟩
open Go.Am
theorem F78_79.fn:E.fn 78 = some (fi 9 Tryd.f78 []):=rfl
theorem F78_79_ok {F:Nat} {m:Mem} {n:Nat} {r:Bool} {t0:List ((List UInt8) × (List UInt8) × Int)} {t1c0:List UInt8} {vt0:SV} {bt1c0:Nat} (h:F78_79 F t0 t1c0 = some r) (kt0:Vw Y134 n m vt0 t0) (kt1c0:Pv Y9 n m bt1c0 t1c0):Ret E n 78 [.sc vt0,.sc (.fn 79 [(bt1c0,0)])] m n (fun v m' n'=>v = .sc (.bool r)):=by
 unfold F78_79 at h
 refine Ret.walk F78_79.fn ?_
 refine WC.start fun S0 em en hz=>?_
 have hot0:=kt0.rdS em hz
 have hot1c0:=kt1c0.rpS em hz
 refine WC.sq (WC.rg (WO.as rfl (WO.ni (tN (WC.sq (WC.rg (WO.mv rfl (WO.mv rfl ?_))))))))
 obtain ⟨r1,e2,h⟩:=bindS h
 refine WO.callE (S:=S0) rfl rfl (F87_79_ok e2 hot0.vw hot1c0.pv) (fun S3 c4=>?_)
 refine WO.bi rfl rfl rfl ?_
 refine WO.as rfl (WO.ni (tN (WC.ret ?_)))
 obtain rfl:=someI h
 exact ⟨.inr rfl,_,_,rfl,rfl,rfl⟩
open Go.Am
theorem F80.fn:E.fn 80 = some (fi 33 Tryd.f80 []):=rfl
theorem F80_ok {F:Nat} {fl n b:Nat} {m:Mem} {v:SV} {t0 M:(List ((List UInt8) × Int × Int))} {t1 t2:Int} (h:F80 F t0 t1 t2 = some M) (hfl:fl<=n) (kt0:Ov Y114 fl n b m v t0):Ret E fl 80 [.sc v,.sc (.int .i64 t1),.sc (.int .i64 t2)] m n (fun v' m' n'=>∃ w,v' = .sc w/\Oq Y114 n b m m' w M):=by
 unfold F80 at h
 replace h:delB? 4398046511104 t0 t1 t2 = some M:=by split at h;exact h;cases h
 obtain ⟨⟨hq0,hq1,hq2,hq3,hq4⟩,rfl⟩:=delB?_some h
 obtain ⟨c,cs,rfl,h1,h2,h3,h4,h5,h6⟩:=kt0
 have h5:cs.length = c * 3:=h5
 have hsz:Y114.sz = 3:=rfl
 refine Ret.walk F80.fn ?_
 repeat (first | refine WC.sq ?_ | refine tN ?_ | refine tR ?_ | refine WC.rg ?_ | refine WO.ni ?_ | refine WC.skip ?_ | refine WC.ret ?_ | refine WO.as rfl ?_ | refine WO.mv rfl ?_)
 refine WO.lenS rfl (.inr ⟨b,0,c,rfl,h1⟩) rfl ?_
 refine WO.slH3 rfl rfl rfl rfl ⟨hq0,hq1,hq2,by omega⟩ rfl (fun w0=>?_)
 repeat (first | refine WC.sq ?_ | refine tN ?_ | refine tR ?_ | refine WC.rg ?_ | refine WO.ni ?_ | refine WC.skip ?_ | refine WC.ret ?_ | refine WO.as rfl ?_ | refine WO.mv rfl ?_)
 refine WO.bi rfl rfl rfl ?_
 repeat (first | refine WC.sq ?_ | refine tN ?_ | refine tR ?_ | refine WC.rg ?_ | refine WO.ni ?_ | refine WC.skip ?_ | refine WC.ret ?_ | refine WO.as rfl ?_ | refine WO.mv rfl ?_)
 refine WC.cond rfl (fun q=>?_) (fun q=>?_)
 ·repeat (first | refine WC.sq ?_ | refine tN ?_ | refine tR ?_ | refine WC.rg ?_ | refine WO.ni ?_ | refine WC.skip ?_ | refine WC.ret ?_ | refine WO.as rfl ?_ | refine WO.mv rfl ?_)
  have e:t1 = t2:=by simpa using q
  subst e
  have eL:t0.take t1.toNat ++ t0.drop t1.toNat = t0:=List.take_append_drop _ _
  exact ⟨.inr rfl,_,_,rfl,rfl,_,rfl,fun _ _ _=>rfl,c,cs,by rw [eL],by rw [eL];exact h1,h4,h5,by rw [eL];exact h6⟩
 ·have e:¬ t1 = t2:=by simpa using q
  repeat (first | refine WC.sq ?_ | refine tN ?_ | refine tR ?_ | refine WC.rg ?_ | refine WO.ni ?_ | refine WC.skip ?_ | refine WC.ret ?_ | refine WO.as rfl ?_ | refine WO.mv rfl ?_)
  refine WO.lenS rfl (.inr ⟨b,0,c,rfl,h1⟩) rfl ?_
  repeat (first | refine WC.sq ?_ | refine tN ?_ | refine tR ?_ | refine WC.rg ?_ | refine WO.ni ?_ | refine WC.skip ?_ | refine WC.ret ?_ | refine WO.as rfl ?_ | refine WO.mv rfl ?_)
  refine WC.drawN rfl rfl ?_
  repeat (first | refine WC.sq ?_ | refine tN ?_ | refine tR ?_ | refine WC.rg ?_ | refine WO.ni ?_ | refine WC.skip ?_ | refine WC.ret ?_ | refine WO.as rfl ?_ | refine WO.mv rfl ?_)
  refine WO.slHto rfl rfl ⟨by omega,by omega⟩ rfl ?_
  repeat (first | refine WC.sq ?_ | refine tN ?_ | refine tR ?_ | refine WC.rg ?_ | refine WO.ni ?_ | refine WC.skip ?_ | refine WC.ret ?_ | refine WO.as rfl ?_ | refine WO.mv rfl ?_)
  refine WO.slHfrom rfl rfl ⟨by omega,by omega,h1⟩ h4 (by show 0 + t0.length * 3<=cs.length;omega) rfl (fun w1 hw1=>?_)
  refine WO.appHB (bnd:=4398046511104) rfl rfl hw1 h4 (by show 0 + c * 3<=cs.length;omega) (by omega) (by omega) rfl h2 rfl ?_
  repeat (first | refine WC.sq ?_ | refine tN ?_ | refine tR ?_ | refine WC.rg ?_ | refine WO.ni ?_ | refine WC.skip ?_ | refine WC.ret ?_ | refine WO.as rfl ?_ | refine WO.mv rfl ?_)
  refine WO.lenS rfl (.inr ⟨b,0,c,rfl,by omega⟩) rfl ?_
  repeat (first | refine WC.sq ?_ | refine tN ?_ | refine tR ?_ | refine WC.rg ?_ | refine WO.ni ?_ | refine WC.skip ?_ | refine WC.ret ?_ | refine WO.as rfl ?_ | refine WO.mv rfl ?_)
  refine WO.slHmid rfl rfl rfl ⟨by omega,by omega,by omega,by omega⟩ rfl ?_
  refine WO.clrH rfl (Tr.get_set_same _ _ _) ?_ h2 rfl (fun z hz=>?_)
  ·show _<=(splice cs (0 + t1.toNat * 3) _).length
   simp only [splice,List.length_append,List.length_take,List.length_drop,Int.toNat_natCast,hsz,Nat.zero_add]
   omega
  ·repeat (first | refine WC.sq ?_ | refine tN ?_ | refine tR ?_ | refine WC.rg ?_ | refine WO.ni ?_ | refine WC.skip ?_ | refine WC.ret ?_ | refine WO.as rfl ?_ | refine WO.mv rfl ?_)
   have hl:(t0.take t1.toNat ++ t0.drop t2.toNat).length = t1.toNat + (t0.length - t2.toNat):=by simp;omega
   refine ⟨.inr rfl,_,_,rfl,rfl,_,rfl,fun i _ hb=>by rw [Tr.get_set_ne _ _ hb,Tr.get_set_ne _ _ hb],c,_,by rw [hl],by rw [hl];omega,Tr.get_set_same _ _ _,?_,?_⟩
   ·simp only [splice,List.length_append,List.length_take,List.length_drop,Int.toNat_natCast,hz,hsz,Nat.zero_add]
    omega
   ·have hR:RL Y114 (fun i=>i < n/\i≠b) m _ _:=del_RL (zz:=z) (p:=t1.toNat) (r:=t2.toNat) (lo:=t1.toNat + (t0.length - t2.toNat)) h6 (by omega) (by omega) (by rw [hsz];omega) rfl
    exact RL.fl Lay.flat_fl hR
open Go.Am
theorem F62.fn:E.fn 62 = some (fi 31 Tryd.f62 []):=rfl
theorem F62_ok {F:Nat} {fl:Nat} {S0:Cx fl} {r:Int × ((List ((List UInt8) × Int × Int)) × (List ((List UInt8) × (List UInt8) × Int)))} {t0:(List ((List UInt8) × Int × Int)) × (List ((List UInt8) × (List UInt8) × Int))} {t1:Int} {bt0:Nat} {vt0_0:SV} {vt0_1:SV} (h:F62 F t0 t1 = some r) (hot0:Bw S0 2 (.ptr bt0 0) [vt0_0,vt0_1]) (hot0_0:Ow Y114 S0 3 vt0_0 t0.1) (hot0_1:Ow Y134 S0 4 vt0_1 t0.2):Ret E fl 62 [.sc (.ptr bt0 0),.sc (.int .i64 t1)] S0.m S0.n (fun v m' n'=>∃ S':Cx fl,S'.m = m'/\S'.n = n'/\ChM S0 S'/\(∃ w23 w24:SV,v = .sc (.int .i64 r.1)/\Bw S' 2 (.ptr bt0 0) [w23,w24]/\Ow Y114 S' 3 w23 r.2.1/\Ow Y134 S' 4 w24 r.2.2)):=by
 unfold F62 at h
 refine Ret.walk F62.fn ?_
 have hM:=ChM.refl S0
 refine WC.sq (WC.rg (WO.as rfl (WO.ni (tN (WC.sq (WC.rg (WO.mv rfl ?_)))))))
 refine WO.nck rfl hot0.isp ?_
 refine WO.fldS (j:=0) (q:=0) rfl hot0.at0 hot0.ptr rfl rfl rfl (by decide) ?_
 refine WO.ldW rfl rfl hot0 rfl rfl hot0.lt rfl ?_
 refine WO.mv rfl ?_
 obtain ⟨x1,e2,h⟩:=bindS h
 refine WO.ixS rfl rfl hot0_0.slv (at?_lt e2) rfl ?_
 refine WO.fldS rfl rfl (SlV.ptr hot0_0.slv (at?_nat e2)) rfl rfl rfl (by decide) ?_
 refine WO.ldF rfl hot0_0.ro (fun _ hi=>hi) (at?_get e2) rfl rfl rfl ?_
 refine WO.alS (A:=Y9) (S:=S0) (z0:=[]) 5 rfl rfl rfl (fun v3 S4 c5 ho6=>?_)
 have hot0_0:=hot0_0.to c5
 have hot0_1:=hot0_1.to c5
 have hot0:=hot0.to c5
 have hM:=hM.to c5
 refine WO.stB (j:=0) (q:=0) (u':=x1.1) rfl ho6.at0 rfl ho6 rfl (by decide) rfl rfl (fun S7 c8 ho6=>?_)
 have hot0_0:=hot0_0.to c8
 have hot0_1:=hot0_1.to c8
 have hot0:=hot0.to c8
 have hM:=hM.to c8
 refine WO.ni (tN (WC.sq (WC.sq (WC.rg (WO.mv rfl ?_)))))
 refine WO.nck rfl hot0.isp ?_
 refine WO.fldS (j:=0) (q:=0) rfl hot0.at0 hot0.ptr rfl rfl rfl (by decide) ?_
 refine WO.ldW rfl rfl hot0 rfl rfl hot0.lt rfl ?_
 obtain ⟨b9,rfl⟩:=ho6.isp
 refine WO.do rfl rfl ?_
 obtain ⟨r10,e11,h⟩:=bindS h
 refine WO.callE (S:=S7) rfl rfl (F78_79_ok e11 hot0_1.vw ho6.pv) (fun S12 c13=>?_)
 have hot0_0:=hot0_0.to c13
 have hot0_1:=hot0_1.to c13
 have hot0:=hot0.to c13
 have hM:=hM.to c13
 refine WO.ni (tN ?_)
 refine WC.cond rfl (fun q14=>?_) (fun q14=>?_)
 ·have h:=iteT q14 h
  refine WC.sq (WC.rg (WO.as rfl (WO.ni (tN (WC.ret (tR ?_))))))
  obtain rfl:=someI h
  exact ⟨.inr rfl,_,_,rfl,rfl,⟨S12,rfl,rfl,hM,vt0_0,vt0_1,rfl,hot0,hot0_0,hot0_1⟩⟩
 ·have h:=iteF q14 h
  refine WC.skip (tN (WC.sq (WC.rg (WO.mv rfl (WO.mv rfl ?_)))))
  refine WO.nck rfl hot0.isp ?_
  refine WO.fldS (j:=0) (q:=0) rfl hot0.at0 hot0.ptr rfl rfl rfl (by decide) ?_
  refine WO.ldW rfl rfl hot0 rfl rfl hot0.lt rfl ?_
  refine WO.mv rfl (WO.mv rfl ?_)
  refine WO.bi rfl rfl rfl ?_
  obtain ⟨r15,e16,h⟩:=bindS h
  refine WO.callO (S:=S12) hot0_0 (delB?_ne e16) rfl rfl (fun bq hI=>F80_ok e16 S12.le hI) Lay.flat_fl (fun v17 S18 c19 ho20=>?_)
  have hot0_1:=hot0_1.to c19
  have hot0:=hot0.to c19
  have hM:=hM.to c19
  refine WO.nck rfl hot0.isp ?_
  refine WO.fldS (j:=0) (q:=0) rfl hot0.at0 hot0.ptr rfl rfl rfl (by decide) ?_
  refine WO.stW (S:=S18) (r:=[v17,vt0_1]) rfl rfl rfl rfl hot0 rfl rfl rfl rfl rfl (fun S21 c22 hot0=>?_)
  have hot0_1:=hot0_1.to c22
  have hM:=hM.to c22
  have ho20:=ho20.to c22
  refine WO.ni (tN (WC.sq (WC.rg (WO.as rfl (WO.ni (tN (WC.ret ?_)))))))
  obtain rfl:=someI h
  exact ⟨.inr rfl,_,_,rfl,rfl,⟨S21,rfl,rfl,hM,v17,vt0_1,rfl,hot0,ho20,hot0_1⟩⟩
open Go.Am
theorem F81.fn:E.fn 81 = some (fi 68 Tryd.f81 []):=rfl
theorem F81_ok {F:Nat} {m:Mem} {n:Nat} {r:(List Int) × Int} {t0:List Int} {t1:Int} {t2:Int} {t3:Int} {vt0:SV} (h:F81 F t0 t1 t2 t3 = some r) (kt0:Vw Y3 n m vt0 t0):Ret E n 81 [.sc vt0,.sc (.int .i64 t1),.sc (.int .i64 t2),.sc (.int .i64 t3)] m n (fun v m' n'=>∃ w,v = .tup [.sc w,.sc (.int .i64 r.2)]/\Fr Y3 n m' n' w r.1):=by
 unfold F81 at h
 refine Ret.walk F81.fn ?_
 refine WC.start fun S0 em en hz=>?_
 have hot0:=kt0.rdS em hz
 refine WC.sq (WC.rg (WO.as rfl (WO.as rfl (WO.ni (tN (WC.sq (WC.sq (WC.rg (WO.mv rfl ?_)))))))))
 obtain ⟨r1,e2,h⟩:=bindS h
 refine WO.callE (S:=S0) rfl rfl (F74_ok e2 hot0.vw) (fun S3 c4=>?_)
 have hot0:=hot0.to c4
 refine WO.as rfl (WO.ni (tN (WC.sq (WC.rg (WO.mv rfl ?_)))))
 refine WO.bi rfl rfl rfl ?_
 refine WO.ni (tN ?_)
 refine WC.cond rfl (fun q5=>?_) (fun q5=>?_)
 ·have h:=iteT q5 h
  refine WC.sq (WC.rg (WO.mv rfl (WO.as rfl (WO.as rfl (WO.ni (tN (WC.ret (tR ?_))))))))
  obtain rfl:=someI h
  exact ⟨.inr rfl,_,_,rfl,rfl,⟨.nils,rfl,Fr.nil⟩⟩
 ·have h:=iteF q5 h
  refine WC.skip (tN (WC.sq (WC.sq (WC.rg (WO.mv rfl ?_)))))
  refine WO.bi rfl rfl rfl ?_
  refine WO.mv rfl ?_
  refine WO.cutB (d:=24) 5 ((decide (t1 < 0)) || (decide (t1 ≥ (t0.length:Int)))) (fun q6=>?_) (fun q6=>?_) ?_
  ·refine WO.gno rfl rfl (WO.gno rfl rfl (WO.gno rfl rfl (WO.gno rfl rfl ?_)))
   refine WO.pickT rfl rfl ?_
   refine WO.ni ?_
   exact ⟨rfl,rfl,(Cov.any rfl (orT q6) (Ks (Ks (Ks (Ks (Ks (Ks (Cov.refl _))))))))⟩
  ·skip
   refine WO.gyes rfl rfl (WO.mv rfl (WO.gyes rfl rfl (WO.mv rfl (WO.gyes rfl rfl ?_))))
   refine WO.lenS rfl hot0.slv rfl ?_
   refine WO.gyes rfl rfl ?_
   refine WO.bi rfl rfl rfl ?_
   refine WO.pickF rfl rfl ?_
   refine WO.ni ?_
   exact ⟨rfl,rfl,(Cov.any rfl (orF q6) (Ks (Ks (Ks (Ks (Ks (Ks (Cov.refl _))))))))⟩
  refine WO.mv rfl ?_
  refine WO.cutB (d:=28) 3 (((decide (t1 < 0)) || (decide (t1 ≥ (t0.length:Int)))) || (decide (t2 < 0))) (fun q7=>?_) (fun q7=>?_) ?_
  ·refine WO.gno rfl rfl (WO.gno rfl rfl ?_)
   refine WO.pickT rfl rfl ?_
   refine WO.ni ?_
   exact ⟨rfl,rfl,(Cov.any rfl (orT q7) (Ks (Ks (Ks (Ks (Cov.refl _))))))⟩
  ·skip
   refine WO.gyes rfl rfl (WO.mv rfl (WO.gyes rfl rfl ?_))
   refine WO.bi rfl rfl rfl ?_
   refine WO.pickF rfl rfl ?_
   refine WO.ni ?_
   exact ⟨rfl,rfl,(Cov.any rfl (orF q7) (Ks (Ks (Ks (Ks (Cov.refl _))))))⟩
  refine WO.mv rfl ?_
  refine WO.cutB (d:=34) 5 ((((decide (t1 < 0)) || (decide (t1 ≥ (t0.length:Int)))) || (decide (t2 < 0))) || (decide (t2 ≥ (t0.length:Int)))) (fun q8=>?_) (fun q8=>?_) ?_
  ·refine WO.gno rfl rfl (WO.gno rfl rfl (WO.gno rfl rfl (WO.gno rfl rfl ?_)))
   refine WO.pickT rfl rfl ?_
   refine WO.ni ?_
   exact ⟨rfl,rfl,(Cov.any rfl (orT q8) (Ks (Ks (Ks (Ks (Ks (Ks (Cov.refl _))))))))⟩
  ·skip
   refine WO.gyes rfl rfl (WO.mv rfl (WO.gyes rfl rfl (WO.mv rfl (WO.gyes rfl rfl ?_))))
   refine WO.lenS rfl hot0.slv rfl ?_
   refine WO.gyes rfl rfl ?_
   refine WO.bi rfl rfl rfl ?_
   refine WO.pickF rfl rfl ?_
   refine WO.ni ?_
   exact ⟨rfl,rfl,(Cov.any rfl (orF q8) (Ks (Ks (Ks (Ks (Ks (Ks (Cov.refl _))))))))⟩
  refine WO.mv rfl ?_
  refine WO.cutB (d:=38) 3 (((((decide (t1 < 0)) || (decide (t1 ≥ (t0.length:Int)))) || (decide (t2 < 0))) || (decide (t2 ≥ (t0.length:Int)))) || (decide (t3 < 0))) (fun q9=>?_) (fun q9=>?_) ?_
  ·refine WO.gno rfl rfl (WO.gno rfl rfl ?_)
   refine WO.pickT rfl rfl ?_
   refine WO.ni ?_
   exact ⟨rfl,rfl,(Cov.any rfl (orT q9) (Ks (Ks (Ks (Ks (Cov.refl _))))))⟩
  ·skip
   refine WO.gyes rfl rfl (WO.mv rfl (WO.gyes rfl rfl ?_))
   refine WO.bi rfl rfl rfl ?_
   refine WO.pickF rfl rfl ?_
   refine WO.ni ?_
   exact ⟨rfl,rfl,(Cov.any rfl (orF q9) (Ks (Ks (Ks (Ks (Cov.refl _))))))⟩
  refine WO.ni (tN ?_)
  refine WC.cond rfl (fun q10=>?_) (fun q10=>?_)
  ·have h:=iteT q10 h
   refine WC.sq (WC.rg (WO.as rfl (WO.as rfl (WO.ni (tN (WC.ret (tR ?_)))))))
   obtain rfl:=someI h
   exact ⟨.inr rfl,_,_,rfl,rfl,⟨.nils,rfl,Fr.nil⟩⟩
  ·have h:=iteF q10 h
   refine WC.skip (tN (WC.sq (WC.sq (WC.rg (WO.mv rfl (WO.mv rfl (WO.mv rfl ?_)))))))
   obtain ⟨x11,e12,h⟩:=bindS h
   refine WO.ixS rfl rfl hot0.slv (at?_lt e12) rfl ?_
   refine WO.ldF rfl hot0.ro (fun _ hi=>hi) (at?_get e12) rfl rfl rfl ?_
   refine WO.bi rfl rfl rfl ?_
   refine WO.ni (tN ?_)
   refine WC.cond rfl (fun q13=>?_) (fun q13=>?_)
   ·have h:=iteT q13 h
    refine WC.sq (WC.rg (WO.as rfl (WO.as rfl (WO.ni (tN (WC.ret (tR ?_)))))))
    obtain rfl:=someI h
    exact ⟨.inr rfl,_,_,rfl,rfl,⟨.nils,rfl,Fr.nil⟩⟩
   ·have h:=iteF q13 h
    refine WC.skip (tN (WC.sq (WC.rg ?_)))
    refine WO.bsS (A:=Y3) (S:=S3) (M:=[]) (cs:=[]) 2 rfl rfl rfl rfl rfl (fun v14 S15 c16 ho17=>?_)
    have hot0:=hot0.to c16
    refine WO.mv rfl ?_
    obtain ⟨L18,e19,h⟩:=bindS h
    refine WO.appS rfl rfl ho17 hot0.ro e19 rfl rfl (fun v20 S21 c22 ho23=>?_)
    refine WO.as rfl (WO.ni (tN (WC.sq (WC.rg (WO.mv rfl (WO.mv rfl ?_))))))
    obtain ⟨x24,e25,h⟩:=bindS h
    refine WO.ixS rfl rfl ho23.slv (at?_lt e25) rfl ?_
    refine WO.ldF rfl ho23.ro (fun _ hi=>hi) (at?_get e25) rfl rfl rfl ?_
    refine WO.mv rfl ?_
    refine WO.bi rfl rfl rfl ?_
    obtain ⟨u26,e27,h⟩:=bindS h
    refine WO.ixS rfl rfl ho23.slv (ck_some e27) rfl ?_
    refine WO.st1 (u':=(wrapA .i64 (x24 - t3))) rfl rfl ho23 (ck_nat e27) rfl rfl (fun S28 c29 ho23=>?_)
    refine WO.ni (tN (WC.sq (WC.rg (WO.mv rfl (WO.mv rfl ?_)))))
    obtain ⟨x30,e31,h⟩:=bindS h
    refine WO.ixS rfl rfl ho23.slv (at?_lt e31) rfl ?_
    refine WO.ldF rfl ho23.ro (fun _ hi=>hi) (at?_get e31) rfl rfl rfl ?_
    refine WO.mv rfl ?_
    refine WO.bi rfl rfl rfl ?_
    obtain ⟨u32,e33,h⟩:=bindS h
    refine WO.ixS rfl rfl ho23.slv (ck_some e33) rfl ?_
    refine WO.st1 (u':=(wrapA .i64 (x30 + t3))) rfl rfl ho23 (ck_nat e33) rfl rfl (fun S34 c35 ho23=>?_)
    refine WO.ni (tN (WC.sq (WC.sq (WC.rg (WO.mv rfl (WO.mv rfl ?_))))))
    obtain ⟨x36,e37,h⟩:=bindS h
    refine WO.ixS rfl rfl ho23.slv (at?_lt e37) rfl ?_
    refine WO.ldF rfl ho23.ro (fun _ hi=>hi) (at?_get e37) rfl rfl rfl ?_
    refine WO.bi rfl rfl rfl ?_
    refine WO.ni (tN ?_)
    refine WC.cond rfl (fun q38=>?_) (fun q38=>?_)
    ·have h:=iteT q38 h
     refine WC.sq (WC.rg (WO.as rfl (WO.as rfl (WO.ni (tN (WC.ret (tR ?_)))))))
     obtain rfl:=someI h
     exact ⟨.inr rfl,_,_,rfl,rfl,⟨.nils,rfl,Fr.nil⟩⟩
    ·have h:=iteF q38 h
     refine WC.skip (tN (WC.sq (WC.rg (WO.mv rfl (WO.as rfl (WO.as rfl (WO.ni (tN (WC.ret ?_)))))))))
     obtain rfl:=someI h
     exact ⟨.inr rfl,_,_,rfl,rfl,⟨v20,rfl,(ho23.fr Lay.flat_fl)⟩⟩
open Go.Am
theorem F63.fn:E.fn 63 = some (fi 75 Tryd.f63 [6,2000060]):=rfl
theorem F63_ok {F:Nat} {fl:Nat} {S0:Cx fl} {r:Int × ((List ((List UInt8) × Int × Int)) × (List ((List UInt8) × (List UInt8) × Int)))} {t0:(List ((List UInt8) × Int × Int)) × (List ((List UInt8) × (List UInt8) × Int))} {t1:Int} {t2:Int × Int × (List UInt8) × (List UInt8)} {bt0:Nat} {vt0_0:SV} {vt0_1:SV} (h:F63 F t0 t1 t2 = some r) (hot0:Bw S0 2 (.ptr bt0 0) [vt0_0,vt0_1]) (hot0_0:Ow Y114 S0 3 vt0_0 t0.1) (hot0_1:Ow Y134 S0 4 vt0_1 t0.2):Ret E fl 63 [.sc (.ptr bt0 0),.sc (.int .i64 t1),.agg [.int .i64 t2.1,.int .i64 t2.2.1,.str t2.2.2.1,.str t2.2.2.2]] S0.m S0.n (fun v m' n'=>∃ S':Cx fl,S'.m = m'/\S'.n = n'/\ChM S0 S'/\(∃ w49 w50:SV,v = .sc (.int .i64 r.1)/\Bw S' 2 (.ptr bt0 0) [w49,w50]/\Ow Y114 S' 3 w49 r.2.1/\Ow Y134 S' 4 w50 r.2.2)):=by
 unfold F63 at h
 refine Ret.walk F63.fn ?_
 have hM:=ChM.refl S0
 refine WC.sq (WC.rg ?_)
 refine WO.bxS (A:=Y35) (S:=S0) (u:=(t2.1,t2.2.1,t2.2.2.1,t2.2.2.2)) 5 rfl rfl rfl rfl (fun v1 S2 c3 ho4=>?_)
 have hot0_0:=hot0_0.to c3
 have hot0_1:=hot0_1.to c3
 have hot0:=hot0.to c3
 have hM:=hM.to c3
 refine WO.as rfl (WO.ni (tN (WC.sq (WC.rg (WO.mv rfl ?_)))))
 refine WO.fldS (j:=0) (q:=0) rfl ho4.at0 ho4.ptr rfl rfl rfl (by decide) ?_
 refine WO.ldB (j:=0) (q:=3) rfl rfl ho4 rfl rfl rfl ?_
 obtain ⟨r5,e6,h⟩:=bindS h
 refine WO.callE (S:=S2) rfl rfl (F60_ok e6 hot0.pw hot0_0.vw hot0_1.vw) (fun S7 c8=>?_)
 have hot0_0:=hot0_0.to c8
 have hot0_1:=hot0_1.to c8
 have hot0:=hot0.to c8
 have hM:=hM.to c8
 have ho4:=ho4.to c8
 refine WO.as rfl (WO.ni (tN (WC.sq (WC.sq (WC.rg (WO.mv rfl ?_))))))
 refine WO.bi rfl rfl rfl ?_
 refine WO.ni (tN ?_)
 refine WC.cond rfl (fun q9=>?_) (fun q9=>?_)
 ·have h:=iteT q9 h
  refine WC.sq (WC.rg (WO.as rfl (WO.ni (tN (WC.ret (tR ?_))))))
  obtain rfl:=someI h
  exact ⟨.inr rfl,_,_,rfl,rfl,⟨S7,rfl,rfl,hM,vt0_0,vt0_1,rfl,hot0,hot0_0,hot0_1⟩⟩
 ·have h:=iteF q9 h
  refine WC.skip (tN (WC.sq (WC.sq (WC.rg (WO.mv rfl (WO.mv rfl ?_))))))
  refine WO.bi rfl rfl rfl ?_
  refine WO.mv rfl ?_
  refine WO.cutB (d:=23) 4 ((r5 == t1) || (decide (((t2.1,t2.2.1,t2.2.2.1,t2.2.2.2)).2.1 < 1))) (fun q10=>?_) (fun q10=>?_) ?_
  ·refine WO.gno rfl rfl (WO.gno rfl rfl (WO.gno rfl rfl ?_))
   refine WO.pickT rfl rfl ?_
   refine WO.ni ?_
   exact ⟨rfl,rfl,(Cov.any rfl (orT q10) (Ks (Ks (Ks (Ks (Ks (Cov.refl _)))))))⟩
  ·skip
   refine WO.gyes rfl rfl ?_
   refine WO.fldS (j:=0) (q:=0) rfl ho4.at0 ho4.ptr rfl rfl rfl (by decide) ?_
   refine WO.gyes rfl rfl ?_
   refine WO.ldB (j:=0) (q:=1) rfl rfl ho4 rfl rfl rfl ?_
   refine WO.gyes rfl rfl ?_
   refine WO.bi rfl rfl rfl ?_
   refine WO.pickF rfl rfl ?_
   refine WO.ni ?_
   exact ⟨rfl,rfl,(Cov.any rfl (orF q10) (Ks (Ks (Ks (Ks (Ks (Cov.refl _)))))))⟩
  refine WO.ni (tN ?_)
  refine WC.cond rfl (fun q11=>?_) (fun q11=>?_)
  ·have h:=iteT q11 h
   refine WC.sq (WC.rg (WO.as rfl (WO.ni (tN (WC.ret (tR ?_))))))
   obtain rfl:=someI h
   exact ⟨.inr rfl,_,_,rfl,rfl,⟨S7,rfl,rfl,hM,vt0_0,vt0_1,rfl,hot0,hot0_0,hot0_1⟩⟩
  ·have h:=iteF q11 h
   refine WC.skip (tN (WC.sq ?_))
   refine WC.drawN rfl rfl ?_
   have hot0z:=hot0.lt
   have ho4z:=ho4.lt
   refine WO.mv rfl ?_
   obtain ⟨r12,e13,h⟩:=bindS h
   refine WO.callF (S:=S7) 6 rfl rfl (F57_ok e13 hot0.pw hot0_0.vw hot0_1.vw) Lay.flat_fl (fun v14 S16 c17 ho15=>?_)
   have hot0_0:=hot0_0.to c17
   have hot0_1:=hot0_1.to c17
   have hot0:=hot0.to c17
   have hM:=hM.to c17
   have ho4:=ho4.to c17
   refine WO.mv rfl (WO.mv rfl ?_)
   refine WO.fldS (j:=0) (q:=0) rfl ho4.at0 ho4.ptr rfl rfl rfl (by decide) ?_
   refine WO.ldBz (j:=0) (q:=1) rfl rfl ho4 rfl rfl ho4z (limLe_self _) ?_
   obtain ⟨r18,e19,h⟩:=bindS h
   refine WO.callF (S:=S16) 7 rfl rfl (F81_ok e19 ho15.vw) Lay.flat_fl (fun v20 S22 c23 ho21=>?_)
   have hot0_0:=hot0_0.to c23
   have hot0_1:=hot0_1.to c23
   have hot0:=hot0.to c23
   have hM:=hM.to c23
   have ho4:=ho4.to c23
   refine WO.mv rfl (WO.do rfl rfl (WO.do rfl rfl (WO.as rfl (WO.as rfl (WO.ni (tN (WC.sq (WC.sq (WC.rg (WO.mv rfl ?_))))))))))
   refine WO.bi rfl rfl rfl ?_
   refine WO.ni (tN ?_)
   refine WC.cond rfl (fun q24=>?_) (fun q24=>?_)
   ·have h:=iteT q24 h
    refine WC.sq (WC.rg (WO.mv rfl (WO.as rfl (WO.ni (tN (WC.ret (tR ?_)))))))
    obtain rfl:=someI h
    exact ⟨.inr rfl,_,_,rfl,rfl,⟨S22,rfl,rfl,hM,vt0_0,vt0_1,rfl,hot0,hot0_0,hot0_1⟩⟩
   ·have h:=iteF q24 h
    refine WC.skip (tN (WC.sq ?_))
    refine WC.drawN rfl rfl ?_
    have hot0z:=hot0.lt
    have ho21z:=ho21.oz
    refine WO.mv rfl ?_
    refine WO.nck rfl hot0.isp ?_
    refine WO.fldS (j:=0) (q:=0) rfl hot0.at0 hot0.ptr rfl rfl rfl (by decide) ?_
    refine WO.ldW rfl rfl hot0 rfl rfl hot0z (limLe_self _) ?_
    refine WO.mv rfl (WO.mv rfl ?_)
    refine WO.nck rfl hot0.isp ?_
    refine WO.fldS (j:=0) (q:=0) rfl hot0.at0 hot0.ptr rfl rfl rfl (by decide) ?_
    refine WO.ldW rfl rfl hot0 rfl rfl hot0z (limLe_self _) ?_
    refine WO.mv rfl (WO.mv rfl (WO.mv rfl ?_))
    obtain ⟨x25,e26,h⟩:=bindS h
    refine WO.ixS rfl rfl ho21.slv (at?_lt e26) rfl ?_
    refine WO.ldF rfl ho21z (fun _ hi=>hi.1) (at?_get e26) rfl rfl (limLe_self _) ?_
    refine WO.mv rfl (WO.mv rfl ?_)
    obtain ⟨x27,e28,h⟩:=bindS h
    refine WO.ixS rfl rfl ho21.slv (at?_lt e28) rfl ?_
    refine WO.ldF rfl ho21z (fun _ hi=>hi.1) (at?_get e28) rfl rfl (limLe_self _) ?_
    obtain ⟨x29,e30,h⟩:=bindS h
    refine WO.ixS rfl rfl hot0_0.slv (at?_lt e30) rfl ?_
    refine WO.fldS rfl rfl (SlV.ptr hot0_0.slv (at?_nat e30)) rfl rfl rfl (by decide) ?_
    refine WO.stF (q:=1) (u':=(x29.1,x25,x29.2.2)) rfl rfl hot0_0 (at?_get e30) rfl (by decide) rfl rfl (fun S31 c32 hot0_0=>?_)
    have hot0_1:=hot0_1.to c32
    have hot0:=hot0.to c32
    have hM:=hM.to c32
    have ho4:=ho4.to c32
    obtain ⟨x33,e34,h⟩:=bindS h
    refine WO.ixS rfl rfl hot0_0.slv (at?_lt e34) rfl ?_
    refine WO.fldS rfl rfl (SlV.ptr hot0_0.slv (at?_nat e34)) rfl rfl rfl (by decide) ?_
    refine WO.stF (q:=1) (u':=(x33.1,x27,x33.2.2)) rfl rfl hot0_0 (at?_get e34) rfl (by decide) rfl rfl (fun S35 c36 hot0_0=>?_)
    have hot0_1:=hot0_1.to c36
    have hot0:=hot0.to c36
    have hM:=hM.to c36
    have ho4:=ho4.to c36
    refine WO.ni (tN (WC.sq ?_))
    refine WC.drawN rfl rfl ?_
    have hot0z:=hot0.lt
    have ho4z:=ho4.lt
    refine WO.mv rfl (WO.mv rfl ?_)
    refine WO.nck rfl hot0.isp ?_
    refine WO.fldS (j:=0) (q:=0) rfl hot0.at0 hot0.ptr rfl rfl rfl (by decide) ?_
    refine WO.ldW rfl rfl hot0 rfl rfl hot0z (limLe_self _) ?_
    refine WO.fldS (j:=0) (q:=0) rfl ho4.at0 ho4.ptr rfl rfl rfl (by decide) ?_
    refine WO.ldBz (j:=0) (q:=2) rfl rfl ho4 rfl rfl ho4z (limLe_self _) ?_
    refine WO.fldS (j:=0) (q:=0) rfl ho4.at0 ho4.ptr rfl rfl rfl (by decide) ?_
    refine WO.ldBz (j:=0) (q:=3) rfl rfl ho4 rfl rfl ho4z (limLe_self _) ?_
    refine WO.fldS (j:=0) (q:=0) rfl ho4.at0 ho4.ptr rfl rfl rfl (by decide) ?_
    refine WO.ldBz (j:=0) (q:=1) rfl rfl ho4 rfl rfl ho4z (limLe_self _) ?_
    refine WO.do rfl rfl ?_
    refine WO.bsS (A:=Y134) (S:=S35) (M:=[(((t2.1,t2.2.1,t2.2.2.1,t2.2.2.2)).2.2.1,((t2.1,t2.2.1,t2.2.2.1,t2.2.2.2)).2.2.2,((t2.1,t2.2.1,t2.2.2.1,t2.2.2.2)).2.1)]) (cs:=[.str (((t2.1,t2.2.1,t2.2.2.1,t2.2.2.2)).2.2.1),.str (((t2.1,t2.2.1,t2.2.2.1,t2.2.2.2)).2.2.2),.int .i64 (((t2.1,t2.2.1,t2.2.2.1,t2.2.2.2)).2.1)]) 8 rfl rfl rfl ⟨[.str (((t2.1,t2.2.1,t2.2.2.1,t2.2.2.2)).2.2.1),.str (((t2.1,t2.2.1,t2.2.2.1,t2.2.2.2)).2.2.2),.int .i64 (((t2.1,t2.2.1,t2.2.2.1,t2.2.2.2)).2.1)],_,rfl,rfl,rfl⟩ rfl (fun v37 S38 c39 ho40=>?_)
    have hot0_0:=hot0_0.to c39
    have hot0_1:=hot0_1.to c39
    have hot0:=hot0.to c39
    have hM:=hM.to c39
    obtain ⟨L41,e42,h⟩:=bindS h
    refine WO.appSB rfl rfl hot0_1 ho40.ro e42 rfl rfl rfl (fun v43 S44 c45 ho46=>?_)
    have hot0_0:=hot0_0.to c45
    have hot0:=hot0.to c45
    have hM:=hM.to c45
    refine WO.nck rfl hot0.isp ?_
    refine WO.fldS (j:=0) (q:=0) rfl hot0.at0 hot0.ptr rfl rfl rfl (by decide) ?_
    refine WO.stW (S:=S44) (r:=[vt0_0,v43]) rfl rfl rfl rfl hot0 rfl rfl rfl rfl rfl (fun S47 c48 hot0=>?_)
    have hot0_0:=hot0_0.to c48
    have hM:=hM.to c48
    have ho46:=ho46.to c48
    refine WO.ni (tN (WC.sq (WC.rg (WO.as rfl (WO.ni (tN (WC.ret ?_)))))))
    obtain rfl:=someI h
    exact ⟨.inr rfl,_,_,rfl,rfl,⟨S47,rfl,rfl,hM,vt0_0,v43,rfl,hot0,hot0_0,ho46⟩⟩
open Go.Am
theorem F82.fn:E.fn 82 = some (fi 33 Tryd.f82 []):=rfl
theorem F82_ok {F:Nat} {fl n b:Nat} {m:Mem} {v:SV} {t0 M:(List ((List UInt8) × (List UInt8) × Int))} {t1 t2:Int} (h:F82 F t0 t1 t2 = some M) (hfl:fl<=n) (kt0:Ov Y134 fl n b m v t0):Ret E fl 82 [.sc v,.sc (.int .i64 t1),.sc (.int .i64 t2)] m n (fun v' m' n'=>∃ w,v' = .sc w/\Oq Y134 n b m m' w M):=by
 unfold F82 at h
 replace h:delB? 3518437208883 t0 t1 t2 = some M:=by split at h;exact h;cases h
 obtain ⟨⟨hq0,hq1,hq2,hq3,hq4⟩,rfl⟩:=delB?_some h
 obtain ⟨c,cs,rfl,h1,h2,h3,h4,h5,h6⟩:=kt0
 have h5:cs.length = c * 3:=h5
 have hsz:Y134.sz = 3:=rfl
 refine Ret.walk F82.fn ?_
 repeat (first | refine WC.sq ?_ | refine tN ?_ | refine tR ?_ | refine WC.rg ?_ | refine WO.ni ?_ | refine WC.skip ?_ | refine WC.ret ?_ | refine WO.as rfl ?_ | refine WO.mv rfl ?_)
 refine WO.lenS rfl (.inr ⟨b,0,c,rfl,h1⟩) rfl ?_
 refine WO.slH3 rfl rfl rfl rfl ⟨hq0,hq1,hq2,by omega⟩ rfl (fun w0=>?_)
 repeat (first | refine WC.sq ?_ | refine tN ?_ | refine tR ?_ | refine WC.rg ?_ | refine WO.ni ?_ | refine WC.skip ?_ | refine WC.ret ?_ | refine WO.as rfl ?_ | refine WO.mv rfl ?_)
 refine WO.bi rfl rfl rfl ?_
 repeat (first | refine WC.sq ?_ | refine tN ?_ | refine tR ?_ | refine WC.rg ?_ | refine WO.ni ?_ | refine WC.skip ?_ | refine WC.ret ?_ | refine WO.as rfl ?_ | refine WO.mv rfl ?_)
 refine WC.cond rfl (fun q=>?_) (fun q=>?_)
 ·repeat (first | refine WC.sq ?_ | refine tN ?_ | refine tR ?_ | refine WC.rg ?_ | refine WO.ni ?_ | refine WC.skip ?_ | refine WC.ret ?_ | refine WO.as rfl ?_ | refine WO.mv rfl ?_)
  have e:t1 = t2:=by simpa using q
  subst e
  have eL:t0.take t1.toNat ++ t0.drop t1.toNat = t0:=List.take_append_drop _ _
  exact ⟨.inr rfl,_,_,rfl,rfl,_,rfl,fun _ _ _=>rfl,c,cs,by rw [eL],by rw [eL];exact h1,h4,h5,by rw [eL];exact h6⟩
 ·have e:¬ t1 = t2:=by simpa using q
  repeat (first | refine WC.sq ?_ | refine tN ?_ | refine tR ?_ | refine WC.rg ?_ | refine WO.ni ?_ | refine WC.skip ?_ | refine WC.ret ?_ | refine WO.as rfl ?_ | refine WO.mv rfl ?_)
  refine WO.lenS rfl (.inr ⟨b,0,c,rfl,h1⟩) rfl ?_
  repeat (first | refine WC.sq ?_ | refine tN ?_ | refine tR ?_ | refine WC.rg ?_ | refine WO.ni ?_ | refine WC.skip ?_ | refine WC.ret ?_ | refine WO.as rfl ?_ | refine WO.mv rfl ?_)
  refine WC.drawN rfl rfl ?_
  repeat (first | refine WC.sq ?_ | refine tN ?_ | refine tR ?_ | refine WC.rg ?_ | refine WO.ni ?_ | refine WC.skip ?_ | refine WC.ret ?_ | refine WO.as rfl ?_ | refine WO.mv rfl ?_)
  refine WO.slHto rfl rfl ⟨by omega,by omega⟩ rfl ?_
  repeat (first | refine WC.sq ?_ | refine tN ?_ | refine tR ?_ | refine WC.rg ?_ | refine WO.ni ?_ | refine WC.skip ?_ | refine WC.ret ?_ | refine WO.as rfl ?_ | refine WO.mv rfl ?_)
  refine WO.slHfrom rfl rfl ⟨by omega,by omega,h1⟩ h4 (by show 0 + t0.length * 3<=cs.length;omega) rfl (fun w1 hw1=>?_)
  refine WO.appHB (bnd:=3518437208883) rfl rfl hw1 h4 (by show 0 + c * 3<=cs.length;omega) (by omega) (by omega) rfl h2 rfl ?_
  repeat (first | refine WC.sq ?_ | refine tN ?_ | refine tR ?_ | refine WC.rg ?_ | refine WO.ni ?_ | refine WC.skip ?_ | refine WC.ret ?_ | refine WO.as rfl ?_ | refine WO.mv rfl ?_)
  refine WO.lenS rfl (.inr ⟨b,0,c,rfl,by omega⟩) rfl ?_
  repeat (first | refine WC.sq ?_ | refine tN ?_ | refine tR ?_ | refine WC.rg ?_ | refine WO.ni ?_ | refine WC.skip ?_ | refine WC.ret ?_ | refine WO.as rfl ?_ | refine WO.mv rfl ?_)
  refine WO.slHmid rfl rfl rfl ⟨by omega,by omega,by omega,by omega⟩ rfl ?_
  refine WO.clrH rfl (Tr.get_set_same _ _ _) ?_ h2 rfl (fun z hz=>?_)
  ·show _<=(splice cs (0 + t1.toNat * 3) _).length
   simp only [splice,List.length_append,List.length_take,List.length_drop,Int.toNat_natCast,hsz,Nat.zero_add]
   omega
  ·repeat (first | refine WC.sq ?_ | refine tN ?_ | refine tR ?_ | refine WC.rg ?_ | refine WO.ni ?_ | refine WC.skip ?_ | refine WC.ret ?_ | refine WO.as rfl ?_ | refine WO.mv rfl ?_)
   have hl:(t0.take t1.toNat ++ t0.drop t2.toNat).length = t1.toNat + (t0.length - t2.toNat):=by simp;omega
   refine ⟨.inr rfl,_,_,rfl,rfl,_,rfl,fun i _ hb=>by rw [Tr.get_set_ne _ _ hb,Tr.get_set_ne _ _ hb],c,_,by rw [hl],by rw [hl];omega,Tr.get_set_same _ _ _,?_,?_⟩
   ·simp only [splice,List.length_append,List.length_take,List.length_drop,Int.toNat_natCast,hz,hsz,Nat.zero_add]
    omega
   ·have hR:RL Y134 (fun i=>i < n/\i≠b) m _ _:=del_RL (zz:=z) (p:=t1.toNat) (r:=t2.toNat) (lo:=t1.toNat + (t0.length - t2.toNat)) h6 (by omega) (by omega) (by rw [hsz];omega) rfl
    exact RL.fl Lay.flat_fl hR
end Go.Proofs.YtkhokgkgloligaaDoor

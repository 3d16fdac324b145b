/- Towards castlaw.ManyRuns, part 3: joined by a program of ours. -/
import Derived.Test.YtkhokgkgloligaaDoorA2
import Derived.Conc.WgGenN3
import Derived.Test.YtkhokgkgloligaaDoorChecked
set_option linter.unusedVariables false
set_option linter.unusedSimpArgs false
set_option linter.unusedSectionVars false
namespace Go.Co
open Go.Conc Go.ConcN
open Go.ConcR (KK wgBlock WgAt stA smA rd wr mk Payload DC0 again_blocked g_of_ofEvents Bk ofEvent_loc_mark ofEvent_cell bk_of_mute)
variable [Payload]
theorem heap_setCell {w:World} {b o:Nat} {cs:Array Value} {e:TypeId} {z:Nat × Nat} (h:w.heap[b]? = some (.cells cs e z)) (v:Value):(w.setCell ⟨b,o,none⟩ v).heap[b]? = some (.cells (cs.setIfInBounds o v) e z):=by
 simp [World.setCell,Array.getElem?_modify,h]
theorem heap_setCell_ne {w:World} {b b' o:Nat} (h:b'≠b) (v:Value):(w.setCell ⟨b,o,none⟩ v).heap[b']? = w.heap[b']?:=by
 simp [World.setCell,Array.getElem?_modify,Ne.symm h]
theorem size_setCell (w:World) (a:Addr) (v:Value):(w.setCell a v).heap.size = w.heap.size:=by simp [World.setCell]
section
variable {c:Cfg}
theorem jobs_cons {r:Nat} (h:r < c.N):c.jobs r = #[Value.int .i64 (r:Int)] ++ c.jobs (r + 1):=by
 unfold Cfg.jobs
 have e:c.N - r = (c.N - (r + 1)) + 1:=by omega
 rw [e,List.range'_succ]
 simp
theorem jobs_nil:c.jobs c.N = #[]:=by simp [Cfg.jobs]
end
section
variable {c:Cfg} {n:Nat} {Anch:Goroutine->GW->Prop} {AnW:Goroutine->World->Prop} {Post:Value->World->Prop} {j r r':Nat} {gs gs':Array Goroutine} {w w':World} {sl:Option (Nat × Nat)} {t u:Trace} {D D':Nat->Wk c.P}
 {hist got hist' got':Nat->Nat->Prop} {d0 ex:Nat} {tag:CTag} {mt0:Am c.P} {a:Goroutine} {X:Nat->Prop}
theorem no_partners (ha:gs[0]? = some a) (hcs:CSt c n Anch AnW Post tag ex j d0 mt0 a w) (h:Com c Anch j r gs w t D hist got d0) (i ch:Nat) (send:Bool):partners (gs.setIfInBounds i ph) ch send = []:=by
 refine partners_nil fun k g hk=>?_
 rcases getElem?_stand gs i k g hk with ⟨_,rfl⟩ | ⟨_,hk⟩
 ·rfl
 ·cases k with
  | zero=>
   rw [ha] at hk;cases hk
   rcases hcs.status with ⟨hs,_⟩ | ⟨hs,ho,_⟩
   ·exact offersAt_of_not_blocked (by rw [hs];simp) _ _
   ·unfold offersAt;rw [hs,ho]
  | succ k=>
   have hlt:k < j:=by have:=(Array.getElem?_eq_some_iff.1 hk).1;rw [h.size] at this;omega
   obtain ⟨g',hg',hs⟩:=h.wk k hlt
   rw [hk] at hg';cases hg'
   refine offersAt_of_not_blocked ?_ _ _
   rcases hs.status with q | q <;> rw [q] <;> simp
theorem TrI.mute {Wg Ch Out Lz sz:Nat} {RO:Nat->Prop} (G:Geo Wg Ch Out Lz RO) (H:Hist Lz sz j r hist got) (hLz:Lz<=sz) (h:TrI Wg Out RO hist got j r sz t) {i:Nat} (hi:i < j)
 (hu:∀ op∈u,op.g = i + 1/\op.act.touch? = none/\op.act≠.mark (.release (stA Wg))):TrI Wg Out RO hist got j r sz (t ++ u):=
 h.appW G H hLz hi (fun op hop=>⟨(hu op hop).1,fun x hx=>by rw [(hu op hop).2.1] at hx;cases hx⟩) (fun op hop x hx=>by rw [(hu op hop).2.1] at hx;cases hx) fun op hop=>(hu op hop).2.2
theorem takeW (G:Geo c.Wg c.Ch c.Out c.Lz c.RO) (hRes:∀ k v1 v2 fin w w',c.Res k v1 v2 fin w->(∀ b,fin b->w'.heap[b]? = w.heap[b]?)->c.Res k v1 v2 fin w')
 (ha:gs[0]? = some a) (hcs:CSt c n Anch AnW Post tag ex j d0 mt0 a w) (h:Com c Anch j r gs w t D hist got d0) {st sm:Int} (hwg:WgAt c.ty c.Wg w st sm) (hm:ConcN.Mode j (fun i=>wd (D i)) tag st sm) {i:Nat} (hi:i < j) {g:Goroutine}
 (hg:gs[i + 1]? = some g) (hs8:(D i).stage = 8) (hd0:(D i).deaf = 0) (hjob:(D i).job = none) (hat:AtRecv c Anch g ⟨(D i).own,w⟩):
 ∃ m₁ ops μ',runT c.P (crowd gs w sl) (i + 1) = (.next m₁,ops)/\MuLt μ' (rank c n j tag ex r D,j,(fun i=>(D i).mt),mt0)/\Inv1 c n Anch AnW Post μ' m₁ (t ++ ops):=by
 obtain ⟨_,g₂,hcm,hk,hz⟩:=hat
 simp only at hcm hk hz
 have hp:=no_partners ha hcs h (i + 1) c.Ch true
 have hij:∀ {i b},hist i b->i < j:=fun {i b} q=>Nat.lt_of_not_le fun z=>h.H.none i b z q
 have hlz:=h.lz
 have hothers:∀ k,k < r->(∃ i',i' < j/\i'≠i/\(D i').job = some k)\/DoneJ c j (fun i=>(D i).own) w k:=fun k hk=>by
  rcases h.jobs k hk with ⟨i',hi',hk'⟩ | hk'
  ·refine .inl ⟨i',hi',fun e=>?_,hk'⟩
   subst e;rw [hjob] at hk';cases hk'
  ·exact .inr hk'
 rcases Nat.lt_or_ge r c.N with hr | hr
 ·-- a job
  have hcr:=h.ch.2
  have hrun:=crowd_recv_buf (sl:=sl) hg (by simpa using hcm) hcr (by rw [jobs_cons hr];simp;omega) hp
  have e1:(c.jobs r).getD 0 undef = .int .i64 (r:Int):=by rw [jobs_cons hr,Array.getD_eq_getD_getElem?,Array.getElem?_append_left (by simp)];rfl
  have e2:(c.jobs r).extract 1 (c.jobs r).size = c.jobs (r + 1):=by
   rw [jobs_cons hr,Array.extract_append]
   simp
  rw [e1,e2] at hrun
  generalize hw':w.setChan c.Ch c.N (c.jobs (r + 1)) true c.N (r + 1) false = w' at hrun
  have hCh:c.Ch < w.heap.size:=by have:=G.ch;omega
  have T:Turn (· = c.Ch) w w':=by
   subst hw'
   exact ⟨rfl,rfl,rfl,by simp [World.setChan],fun b _ hb=>by simp [World.setChan,Ne.symm hb]⟩
  have hsz:w'.heap.size = w.heap.size:=by subst hw';simp [World.setChan]
  have hwg':WgAt c.ty c.Wg w' st sm:=hwg.of_block (T.block _ (by have:=G.wg;omega) G.wc)
  have hch':ChAt c (r + 1) w':=⟨hr,by subst hw';simp [World.setChan,hCh]⟩
  have hout':OutAt c w':=by
   obtain ⟨cs,h1,h2⟩:=h.out
   exact ⟨cs,(T.block _ (by have:=G.out;omega) (Ne.symm G.co)).trans h1,h2⟩
  have L:Lk c w w':=.of hwg' hch' hout'
  have hX:∀ b,b = c.Ch->hist i b\/b = c.Wg\/b = c.Ch\/b = c.Out:=fun b hb=>.inr (.inr (.inl hb))
  have hself:(Kw c).R ⟨(D i).own,w⟩ w':=by
   refine ⟨T.tape,T.os,T.output,T.size,fun b hb=>?_,L⟩
   have:=G.ch
   rcases hb with hb | hb
   ·have:=h.H.lo i b hi (h.own i hi b hb)
    exact T.block b this.2 (by omega)
   ·have:=G.ro b hb
    exact T.block b (by omega) this.2.2.1
  have hgo:=hk r hr w' hself
  obtain ⟨mt',_,hcs'⟩:=hcs.rely (rely_zero G h T hX L)
  have H':Hist c.Lz w'.heap.size j (r + 1) hist (fun i' q=>got i' q\/(i' = i/\q = r)):=by
   rw [hsz]
   refine ⟨h.H.lo,h.H.one,fun i' q hq=>?_,fun i1 i2 q h1 h2=>?_,h.H.none,fun i' q hi' hq=>?_⟩
   ·rcases hq with hq | ⟨_,rfl⟩
    ·have:=h.H.lt i' q hq;omega
    ·omega
   ·rcases h1 with h1 | ⟨rfl,rfl⟩ <;> rcases h2 with h2 | ⟨rfl,h2⟩
    ·exact h.H.gone _ _ _ h1 h2
    ·have:=h.H.lt _ _ h1;omega
    ·have:=h.H.lt _ _ h2;omega
    ·rfl
   ·rcases hq with hq | ⟨rfl,_⟩
    ·exact h.H.gnone i' q hi' hq
    ·omega
  have hmo:∀ op∈(MemOp.ofEvents (i + 1) g.frame.fn g.frame.place #[] ++ #[({ g:=i + 1,fn:=g₂.frame.fn,pos:=g₂.frame.place,act:=.recv c.Ch r c.N }:MemOp),{ g:=i + 1,fn:=g₂.frame.fn,pos:=g₂.frame.place,act:=.recvDone c.Ch r }]),
   op.g = i + 1/\op.act.touch? = none/\(op.act≠.mark (.release (stA c.Wg))/\op.act≠.mark .disable/\op.act≠.mark .enable):=by
   intro op hop
   rw [ofEvents_eq] at hop
   simp only [Array.mem_append,List.map_toArray,List.map_nil,List.mem_toArray,List.mem_cons,List.not_mem_nil,or_false,false_or] at hop
   rcases hop with rfl | rfl <;> exact ⟨rfl,rfl,by simp,by simp,by simp⟩
  have x':∃ x':Wk c.P,x'.stage = 9/\x'.job = some r/\x'.deaf = 0/\x'.own = noOwn/\WSt c Anch x' (Conc.served g₂ (.tuple #[.int .i64 (r:Int),.bool true])) w':=
   ⟨⟨9,some r,0,noOwn,⟨_,acc_tree (Kw.ok c) kw_det hgo⟩⟩,rfl,rfl,rfl,rfl,.put hgo _⟩
  obtain ⟨x',x1,x2,x3,x4,x5⟩:=x'
  have hrun':=hrun
  rw [finishComm_recv] at hrun
  refine workerStep h hi hrun (a':=a) (by rw [Array.getElem?_setIfInBounds_ne (by omega),ha]) hcs' (.inl rfl) hwg' (mode_same hm (by simp only [wd,x1,hs8];rfl)) (by simp) (Array.getElem?_setIfInBounds_self_of_lt (by rw [h.size];omega))
   (fun i' _ e=>by rw [Array.getElem?_setIfInBounds_ne (by omega)]) (fun i' hi' e=>rely_oth G h hi' e T hX L) x5 H' ?_ (fun op hop=>(hmo op hop).1) ?_ (fun q=>by omega) (by omega) hch' hout' (fun b hb=>by rw [x4] at hb;exact hb.elim) (fun _ _ q=>q)
   (fun k hk=>by rw [x2] at hk;cases hk;exact .inr ⟨rfl,rfl⟩) (fun _ _ q=>.inl q) (fun k hk=>?_) ⟨fun q=>by omega,fun q=>by omega⟩ (.inl ⟨by omega,by simp [cnt,wd,x1,hs8]⟩)
  ·rw [hsz]
   rw [hsz] at H'
   exact TrI.mute G H' hlz h.tr.take hi fun op hop=>⟨(hmo op hop).1,(hmo op hop).2.1,(hmo op hop).2.2.1⟩
  ·rw [Deaf_still t _ _ fun op hop=>(hmo op hop).2.2.2,h.deafW i hi,hd0,x3]
  ·by_cases e:k = r
   ·subst e;exact .inr (.inl x2)
   ·rcases hothers k (by omega) with q | q
    ·exact .inl q
    ·refine .inr (.inr (q.keep hRes T.size (fun b hb=>?_) (fun o v _ hc=>T.cell (Ne.symm G.co) hc) fun i' hi' b hb=>?_))
     ·have:=G.ch
      rcases hb with hb | hb
      ·have:=G.ro b hb;exact T.block b (by omega) this.2.2.1
      ·exact T.block b hb.2.1 (by omega)
     ·by_cases e:i' = i
      ·subst e;simp only [if_true,x4] at hb;exact hb.elim
      ·simp only [if_neg e] at hb;exact .inl hb
 ·-- none left
  have hrN:r = c.N:=Nat.le_antisymm h.ch.1 hr
  have hcr:=h.ch.2
  rw [hrN,jobs_nil] at hcr
  have hrun:=crowd_recv_closed (sl:=sl) hg (by simpa using hcm) hcr hp
  have hmo:∀ op∈(MemOp.ofEvents (i + 1) g.frame.fn g.frame.place #[] ++ #[({ g:=i + 1,fn:=g₂.frame.fn,pos:=g₂.frame.place,act:=.recvClosed c.Ch }:MemOp)]),
   op.g = i + 1/\op.act.touch? = none/\(op.act≠.mark (.release (stA c.Wg))/\op.act≠.mark .disable/\op.act≠.mark .enable):=by
   intro op hop
   rw [ofEvents_eq] at hop
   simp only [Array.mem_append,List.map_toArray,List.map_nil,List.mem_toArray,List.mem_cons,List.not_mem_nil,or_false,false_or] at hop
   rcases hop with rfl;exact ⟨rfl,rfl,by simp,by simp,by simp⟩
  have x':∃ x':Wk c.P,x'.stage = 7/\x'.job = none/\x'.deaf = 0/\x'.own = noOwn/\WSt c Anch x' (Conc.served g₂ (.tuple #[c.zero,.bool false])) w:=
   ⟨⟨7,none,0,noOwn,⟨_,acc_tree (K7.ok c) k7_det hz⟩⟩,rfl,rfl,rfl,rfl,.r0 hz _⟩
  obtain ⟨x',x1,x2,x3,x4,x5⟩:=x'
  have T:Turn (fun _=>False) w w:=.refl _ _
  have L:Lk c w w:=.refl _
  rw [finishComm_recv] at hrun
  refine workerStep h hi hrun (a':=a) (by rw [Array.getElem?_setIfInBounds_ne (by omega),ha]) hcs (.inl rfl) hwg (mode_same hm (by simp only [wd,x1,hs8];rfl)) (by simp) (Array.getElem?_setIfInBounds_self_of_lt (by rw [h.size];omega))
   (fun i' _ e=>by rw [Array.getElem?_setIfInBounds_ne (by omega)]) (fun i' hi' e=>rely_oth G h hi' e T (fun _ q=>q.elim) L) x5 h.H (TrI.mute G h.H hlz h.tr hi fun op hop=>⟨(hmo op hop).1,(hmo op hop).2.1,(hmo op hop).2.2.1⟩) (fun op hop=>(hmo op hop).1) ?_ (fun q=>by omega) hlz h.ch h.out (fun b hb=>by rw [x4] at hb;exact hb.elim) (fun _ _ q=>q)
   (fun k hk=>by rw [x2] at hk;cases hk) (fun _ _ q=>q) (fun k hk=>?_) ⟨fun _=>hrN,fun q=>q⟩ (.inl ⟨by omega,by simp [cnt,wd,x1,hs8]⟩)
  ·rw [Deaf_still t _ _ fun op hop=>(hmo op hop).2.2.2,h.deafW i hi,hd0,x3]
  ·rcases hothers k hk with q | q
   ·exact .inl q
   ·refine .inr (.inr (q.keep hRes (Nat.le_refl _) (fun b hb=>rfl) (fun o v _ hc=>hc) fun i' hi' b hb=>?_))
    by_cases e:i' = i
    ·subst e;simp only [if_true,x4] at hb;exact hb.elim
    ·simp only [if_neg e] at hb;exact .inl hb
theorem putW (G:Geo c.Wg c.Ch c.Out c.Lz c.RO) (hRes:∀ k v1 v2 fin w w',c.Res k v1 v2 fin w->(∀ b,fin b->w'.heap[b]? = w.heap[b]?)->c.Res k v1 v2 fin w') (hAn:∀ g σ,Anch g σ->GoesO c.P false (Kw c) (AtRecv c Anch) g σ)
 (ha:gs[0]? = some a) (hcs:CSt c n Anch AnW Post tag ex j d0 mt0 a w) (h:Com c Anch j r gs w t D hist got d0) {st sm:Int} (hwg:WgAt c.ty c.Wg w st sm) (hm:ConcN.Mode j (fun i=>wd (D i)) tag st sm) {i k:Nat} (hi:i < j) {g:Goroutine}
 (hg:gs[i + 1]? = some g) (hs9:(D i).stage = 9) (hd0:(D i).deaf = 0) (hjob:(D i).job = some k) (hat:AtPut c Anch k g ⟨(D i).own,w⟩):
 ∃ m₁ ops μ',runT c.P (crowd gs w sl) (i + 1) = (.next m₁,ops)/\MuLt μ' (rank c n j tag ex r D,j,(fun i=>(D i).mt),mt0)/\Inv1 c n Anch AnW Post μ' m₁ (t ++ ops):=by
 obtain ⟨_,hkN,v1,v2,fin,hres,hfin,hput⟩:=hat
 obtain ⟨g',hgo,hanch⟩:=hput h.out
 simp only at hres hfin hgo hanch
 have hij:∀ {i b},hist i b->i < j:=fun {i b} q=>Nat.lt_of_not_le fun z=>h.H.none i b z q
 have hlz:=h.lz
 have hOut:c.Out < w.heap.size:=by have:=G.out;omega
 obtain ⟨cs,hc1,hc2⟩:=h.out
 generalize hw':(w.setCell ⟨c.Out,2 * k,none⟩ v1).setCell ⟨c.Out,2 * k + 1,none⟩ v2 = w' at hgo hanch
 have hO:w'.heap[c.Out]? = some (.cells ((cs.setIfInBounds (2 * k) v1).setIfInBounds (2 * k + 1) v2) c.ety):=by
  subst hw';exact heap_setCell (heap_setCell hc1 v1) v2
 have hsz:w'.heap.size = w.heap.size:=by subst hw';rw [size_setCell,size_setCell]
 have T:Turn (· = c.Out) w w':=by
  refine ⟨by subst hw';rfl,by subst hw';rfl,by subst hw';rfl,by omega,fun b _ hb=>?_⟩
  subst hw'
  rw [heap_setCell_ne hb,heap_setCell_ne hb]
 have hcell:∀ o v,(o≠2 * k/\o≠2 * k + 1)->w.cell? ⟨c.Out,o,none⟩ = some v->w'.cell? ⟨c.Out,o,none⟩ = some v:=by
  intro o v ho hv
  simp only [World.cell?,hc1,Option.isSome_none,Bool.false_eq_true,if_false] at hv
  simp only [World.cell?,hO,Option.isSome_none,Bool.false_eq_true,if_false]
  rw [Array.getElem?_setIfInBounds_ne (by omega),Array.getElem?_setIfInBounds_ne (by omega)]
  exact hv
 have hwg':WgAt c.ty c.Wg w' st sm:=hwg.of_block (T.block _ (by have:=G.wg;omega) G.wo)
 have hev:∀ op∈MemOp.ofEvents (i + 1) g.frame.fn g.frame.place #[⟨.cell ⟨c.Out,2 * k,none⟩,true,false⟩,⟨.cell ⟨c.Out,2 * k + 1,none⟩,true,false⟩],
  op.g = i + 1/\(∀ x,op.act.touch? = some x->Slot c.Out k x.loc/\x.kind = .plain/\x.loc.isMemory = true)/\op.act≠.mark (.release (stA c.Wg)):=by
  intro op hop
  rw [ofEvents_eq] at hop
  obtain ⟨e,he,rfl⟩:=Array.mem_map.1 hop
  simp only [List.mem_toArray,List.mem_cons,List.not_mem_nil,or_false] at he
  refine ⟨rfl,fun x hx=>?_,?_⟩
  ·rcases he with rfl | rfl
   ·rw [ofEvent_cell] at hx
    simp only [MemAct.touch?,Option.some.injEq] at hx
    subst hx
    exact ⟨⟨_,rfl,rfl,.inl rfl⟩,rfl,rfl⟩
   ·rw [ofEvent_cell] at hx
    simp only [MemAct.touch?,Option.some.injEq] at hx
    subst hx
    exact ⟨⟨_,rfl,rfl,.inr rfl⟩,rfl,rfl⟩
  ·rcases he with rfl | rfl <;> simp [ofEvent_cell]
 have hgot:got i k:=h.mine i hi k hjob
 have hrec:=hAn _ _ hanch
 have x':∃ x':Wk c.P,x'.stage = 8/\x'.job = none/\x'.deaf = 0/\x'.own = noOwn/\WSt c Anch x' g' w':=
  ⟨⟨8,none,0,noOwn,⟨_,acc_tree (Kw.ok c) kw_det hrec⟩⟩,rfl,rfl,rfl,rfl,.recv hrec _⟩
 obtain ⟨x',x1,x2,x3,x4,x5⟩:=x'
 refine goStepW G ha hcs h hi hg hgo T (fun b hb=>.inr (.inr (.inr hb))) hwg' ⟨h.ch.1,(T.block _ (by have:=G.ch;omega) G.co).trans h.ch.2⟩ ⟨_,hO,by simpa using hc2⟩ x5 (by rw [hsz];exact h.H) ?_ (by rw [hd0,x3];rfl) (fun q=>by omega) (fun b hb=>by rw [x4] at hb;exact hb.elim) (fun _ _ q=>q)
  (fun k hk=>by rw [x2] at hk;cases hk) (fun q hq=>?_) (fun q=>by omega) (fun tag' ht _=>(mode_same hm (by simp only [wd,x1,hs9];rfl)).retag ht) (.inl ⟨by omega,by simp [cnt,wd,x1,hs9]⟩)
 ·rw [hsz]
  refine h.tr.appW G h.H hlz hi (fun op hop=>⟨(hev op hop).1,fun x hx=>.inr (.inl ⟨by omega,.inr ⟨k,by simpa using hgot,((hev op hop).2.1 x hx).1⟩⟩)⟩) (fun op hop x hx _=>((hev op hop).2.1 x hx).2) fun op hop=>(hev op hop).2.2
 ·by_cases e:q = k
  ·subst e
   refine .inr (.inr ⟨v1,v2,fin,?_,?_,hRes q v1 v2 fin w w' hres fun b hb=>?_,fun b hb=>?_⟩)
   ·simp only [World.cell?,hO,Option.isSome_none,Bool.false_eq_true,if_false]
    rw [Array.getElem?_setIfInBounds_ne (by omega),Array.getElem?_setIfInBounds_self_of_lt (by omega)]
   ·simp only [World.cell?,hO,Option.isSome_none,Bool.false_eq_true,if_false]
    rw [Array.getElem?_setIfInBounds_self_of_lt (by simp;omega)]
   ·rcases hfin b hb with q1 | q1
    ·have:=h.H.lo i b hi (h.own i hi b q1)
     have:=G.out
     exact T.block b (by omega) (by omega)
    ·have:=G.ro b q1
     exact T.block b (by omega) this.2.2.2
   ·rcases hfin b hb with q1 | q1
    ·have q2:=h.own i hi b q1
     have:=h.H.lo i b hi q2
     refine .inr ⟨this.1,by omega,fun i' hi' z=>?_⟩
     by_cases e:i' = i
     ·subst e;simp only [if_true,x4] at z;exact z.elim
     ·simp only [if_neg e] at z
      exact e (h.H.one _ _ _ (h.own i' hi' b z) q2)
    ·exact .inl q1
  ·rcases h.jobs q hq with ⟨i',hi',hk'⟩ | hk'
   ·refine .inl ⟨i',hi',fun e'=>?_,hk'⟩
    subst e';rw [hjob] at hk';cases hk';exact e rfl
   ·refine .inr (.inr (hk'.keep hRes T.size (fun b hb=>?_) (fun o v ho hc=>hcell o v (by omega) hc) fun i' hi' b hb=>?_))
    ·have:=G.out
     rcases hb with hb | hb
     ·have:=G.ro b hb;exact T.block b (by omega) this.2.2.2
     ·exact T.block b hb.2.1 (by omega)
    ·by_cases e:i' = i
     ·subst e;simp only [if_true,x4] at hb;exact hb.elim
     ·simp only [if_neg e] at hb;exact .inl hb
end
open Go.Conc Go.ConcN
open Go.ConcR (KK wgBlock WgAt stA smA rd wr mk Payload DC0 again_blocked g_of_ofEvents Bk ofEvent_loc_mark ofEvent_cell ofEvent_mk bk_of_mute)
variable [Payload]
section
variable {P:Program} {main:Bool} {K:Pact} {Stop:Goroutine->GW->Prop} {g g':Goroutine} {σ σ':GW} {es:Array Event}
theorem child_lt (ok:K.Ok) (refl:∀ σ,K.R σ σ.w) (hns:¬ ∀ w₁,K.R σ w₁->Stop g ⟨σ.own,w₁⟩) (hgo:stepG P main g σ.w = .go g' σ'.w es) (hD:K.D σ es σ'):
 Mt.lt P (.tree ⟨main,K,ok,Stop,g',σ'⟩) (.tree ⟨main,K,ok,Stop,g,σ⟩):=⟨rfl,rfl,rfl,hns,σ.w,es,refl σ,hgo,hD⟩
theorem GoesO.here (refl:∀ σ,K.R σ σ.w) (h:GoesO P main K Stop g σ):(Stop g σ/\∀ w₁,K.R σ w₁->Stop g ⟨σ.own,w₁⟩)\/((¬ ∀ w₁,K.R σ w₁->Stop g ⟨σ.own,w₁⟩)/\∃ g' σ' es,stepG P main g σ.w = .go g' σ'.w es/\K.D σ es σ'/\GoesO P main K Stop g' σ'):=by
 by_cases hs:∀ w₁,K.R σ w₁->Stop g ⟨σ.own,w₁⟩
 ·exact .inl ⟨hs σ.w (refl σ),hs⟩
 ·rcases h.elim with h | h
  ·exact absurd h hs
  ·exact .inr ⟨hs,h.2 σ.w (refl σ)⟩
theorem goesO_of_goes {R:World->World->Prop} {D:World->World->Array Event->Prop} {S:Goroutine->World->Prop} (hR:∀ σ w₁,K.R σ w₁->R σ.w w₁) (hD:∀ own w w' es,D w w' es->K.D ⟨own,w⟩ es ⟨own,w'⟩):
 ∀ {n:Nat} {g:Goroutine} {own:Nat->Prop} {w:World},Goes P main R D S n g w->GoesO P main K (fun g σ=>σ.own = own/\S g σ.w) g ⟨own,w⟩
 | 0,g,own,w,h=>.stop fun w₁ hr=>⟨rfl,h w₁ (hR _ _ hr)⟩
 | n + 1,g,own,w,h=>by
  rcases h with h | ⟨hs,h⟩
  ·exact .stop fun w₁ hr=>⟨rfl,h w₁ (hR _ _ hr)⟩
  ·refine .go hs fun w₁ hr=>?_
   obtain ⟨g',w',es,e,hd,hn⟩:=goes_elim (h w₁ (hR _ _ hr))
   exact ⟨g',⟨own,w'⟩,es,e,hD _ _ _ _ hd,goesO_of_goes hR hD hn⟩
end
section
variable {c:Cfg}
theorem rw_of {C n:Nat} (hC:c.RO C) {own:Nat->Prop} {w w₁:World} (h:(Kw c).R ⟨own,w⟩ w₁):RW c.ty c.Wg C n 0 0 w w₁:=by
 obtain ⟨_,_,_,_,h5,h6⟩:=h
 have e:=h5 C (.inr hC)
 exact ⟨fun b hb=>absurd hb (Nat.not_lt_zero _),h6.wg,fun ⟨cs,h1,h2⟩=>⟨cs,e.trans h1,h2⟩,cell_of_block e 0⟩
theorem k7_refl (σ:GW):(K7 c).R σ σ.w:=kw_refl (c:=c) σ
theorem k6_refl (σ:GW):(K6 c).R σ σ.w:=kw_refl (c:=c) σ
theorem k6_of {C n m:Nat} (hC:c.RO C) {S:Goroutine->World->Prop} {g:Goroutine} {w:World} (h:Goes c.P false (RW c.ty c.Wg C n 0 (1 - 1)) DC0 S m g w):GoesO c.P false (K6 c) (fun g σ=>S g σ.w) g ⟨noOwn,w⟩:=
 (goesO_of_goes (K:=K6 c) (fun σ w₁ hr=>rw_of hC hr) (fun own w w' es hd=>by obtain ⟨rfl,rfl⟩:=hd;exact ⟨rfl,rfl,rfl⟩) h).mono fun _ _ x=>x.2
end
section
variable {c:Cfg} {n:Nat} {Anch:Goroutine->GW->Prop} {AnW:Goroutine->World->Prop} {Post:Value->World->Prop} {j r r':Nat} {gs gs':Array Goroutine} {w w':World} {sl:Option (Nat × Nat)} {t u:Trace} {D D':Nat->Wk c.P}
 {hist got hist' got':Nat->Nat->Prop} {d0 ex:Nat} {tag:CTag} {mt0:Am c.P} {a:Goroutine} {X:Nat->Prop}
theorem ev_of_bk {e:Event} (h:Bk c.Wg e):(∀ x,(MemAct.ofEvent e).touch? = some x->ShN c.Wg x.loc/\x.kind≠.plain/\x.kind≠.said)/\e.loc≠.mark (.release (stA c.Wg)):=by
 rcases h with h1 | h1 | ⟨ad,wrt,rfl,hb⟩
 ·exact ⟨fun x hx=>(by rw [ofEvent_loc_mark h1] at hx;cases hx),by rw [h1];simp⟩
 ·exact ⟨fun x hx=>(by rw [ofEvent_loc_mark h1] at hx;cases hx),by rw [h1];simp⟩
 ·refine ⟨fun x hx=>?_,by simp⟩
  rw [ofEvent_cell] at hx
  simp only [MemAct.touch?,Option.some.injEq] at hx
  subst hx
  exact ⟨⟨ad,rfl,hb⟩,by simp,by simp⟩
theorem turn_set (w:World) (Wg o:Nat) (v:Value):Turn (· = Wg) w (w.setCell ⟨Wg,o,none⟩ v):=
 ⟨rfl,rfl,rfl,by rw [size_setCell];exact Nat.le_refl _,fun b _ hb=>heap_setCell_ne hb v⟩
set_option maxHeartbeats 1600000 in
theorem stepWorker (G:Geo c.Wg c.Ch c.Out c.Lz c.RO) (hRes:∀ k v1 v2 fin w w',c.Res k v1 v2 fin w->(∀ b,fin b->w'.heap[b]? = w.heap[b]?)->c.Res k v1 v2 fin w') (hAn:∀ g σ,Anch g σ->GoesO c.P false (Kw c) (AtRecv c Anch) g σ) (hn:n < 2147483648)
 (ha:gs[0]? = some a) (hcs:CSt c n Anch AnW Post tag ex j d0 mt0 a w) (h:Com c Anch j r gs w t D hist got d0) {st sm:Int} (hwg:WgAt c.ty c.Wg w st sm) (hm:ConcN.Mode j (fun i=>wd (D i)) tag st sm) {i:Nat} (hi:i < j) {g:Goroutine}
 (hg:gs[i + 1]? = some g) (hrun:g.status = .running):
 ∃ m₁ ops μ',runT c.P (crowd gs w sl) (i + 1) = (.next m₁,ops)/\MuLt μ' (rank c n j tag ex r D,j,(fun i=>(D i).mt),mt0)/\Inv1 c n Anch AnW Post μ' m₁ (t ++ ops):=by
 obtain ⟨g₁,hg₁,hs⟩:=h.wk i hi
 obtain rfl:g = g₁:=by rw [hg] at hg₁;exact Option.some.inj hg₁
 generalize hx:D i = x at hs
 have hb:=hcs.bound
 have hVj:=Vc_le j fun i=>wd (D i)
 have hwst:(wd (D i)).stage = min x.stage 7:=by rw [hx];rfl
 have hdk:Deaf t (i + 1) = x.deaf:=by rw [h.deafW i hi,hx]
 have book:∀ {g':Goroutine} {w':World} {es:Array Event} {x':Wk c.P} {st' sm':Int},x.stage<=6->x.job = none->stepG c.P false g w = .go g' w' es->Turn (· = c.Wg) w w'->w'.heap.size = w.heap.size->WgAt c.ty c.Wg w' st' sm'->(∀ e∈es,Bk c.Wg e) ->
  (∀ jx e,es[jx]? = some e->(MemAct.ofEvent e).touch? = none\/0 < deafBehind x.deaf (es.extract 0 jx))->x'.job = none->x'.own = noOwn->WSt c Anch x' g' w'->deafBehind x.deaf es = x'.deaf ->
  (∀ tag',(tag' = tag\/(tag = .blk/\tag' = .w3))->(mayWake c.P g = true->g'.status = .running->tag'≠.blk)->ConcN.Mode j (upd (fun i=>wd (D i)) i (wd x')) tag' st' sm') ->
  ((x'.stage < x.stage/\cnt (wd x')<=cnt (wd x))\/(x'.stage = x.stage/\aLt x'.mt x.mt)) ->
  ∃ m₁ ops μ',runT c.P (crowd gs w sl) (i + 1) = (.next m₁,ops)/\MuLt μ' (rank c n j tag ex r D,j,(fun i=>(D i).mt),mt0)/\Inv1 c n Anch AnW Post μ' m₁ (t ++ ops):=by
  intro g' w' es x' st' sm' h6 hj0 hgo T hsz hwg' hbk hdf hxj hxo hsit hde hmode hlt
  refine bookW G hRes ha hcs h hi hg hgo T hsz hwg' (by rw [hx];exact hj0) (by rw [hx];omega) hxj hxo hsit (fun e he=>ev_of_bk (hbk e he)) (by rw [hx];exact hde) (fun _=>?_) hmode (by rw [hx];exact hlt)
  obtain ⟨q,hq⟩:=h.rel i hi (by rw [hx];exact h6)
  exact ⟨q,hq.book hdk _ _ hbk hdf⟩
 have idle:∀ {g':Goroutine} {w':World} {es:Array Event} {x':Wk c.P},x.stage<=6->x.job = none->stepG c.P false g w = .go g' w' es->w' = { w with drawn:=w'.drawn }->es = #[]->x'.stage = x.stage->x'.job = none->x'.deaf = x.deaf->x'.own = noOwn->WSt c Anch x' g' w'->aLt x'.mt x.mt ->
  ∃ m₁ ops μ',runT c.P (crowd gs w sl) (i + 1) = (.next m₁,ops)/\MuLt μ' (rank c n j tag ex r D,j,(fun i=>(D i).mt),mt0)/\Inv1 c n Anch AnW Post μ' m₁ (t ++ ops):=by
  intro g' w' es x' h6 hj0 hgo hw he hst hxj hde hxo hsit hlt
  subst he
  exact book h6 hj0 hgo (.drawn _ hw) (by rw [heap_drawn hw]) (hwg.of_block (by rw [heap_drawn hw])) (by simp) (by simp) hxj hxo hsit (by rw [hde];rfl) (fun tag' ht _=>(mode_same hm (by rw [hwst];simp only [wd,hst])).retag ht) (.inr ⟨hst,hlt⟩)
 have hm':=fun (s' m' dd':Nat) (h5:5<=(wd (D i)).stage) (hs:s' = 6\/s' = 5)=>hm.counted hi h5 hs m' dd'
 cases hs with
 | @recv own _ _ hgo acc=>
  rcases GoesO.here kw_refl hgo with ⟨hstop,_⟩ | ⟨hns,g',σ',es,hst,hD,hg'⟩
  ·exact takeW G hRes ha hcs h hwg hm hi hg (by rw [hx]) (by rw [hx]) (by rw [hx]) (by rw [hx];exact hstop)
  ·exact idleW G hRes ha hcs h hwg hm hi hg (σ':=σ') (x':=⟨8,none,0,σ'.own,⟨_,acc_tree (Kw.ok c) kw_det hg'⟩⟩) hst (by rw [hx];exact hD) (by rw [hx]) (by rw [hx];exact Nat.le_refl _) (by rw [hx]) (by rw [hx]) rfl (.recv hg' _) (by rw [hx];exact child_lt (Kw.ok c) kw_refl hns hst hD)
 | @put k own _ _ hgo acc=>
  rcases GoesO.here kw_refl hgo with ⟨hstop,_⟩ | ⟨hns,g',σ',es,hst,hD,hg'⟩
  ·exact putW G hRes hAn ha hcs h hwg hm hi hg (by rw [hx]) (by rw [hx]) (by rw [hx]) (by rw [hx];exact hstop)
  ·exact idleW G hRes ha hcs h hwg hm hi hg (σ':=σ') (x':=⟨9,some k,0,σ'.own,⟨_,acc_tree (Kw.ok c) kw_det hg'⟩⟩) hst (by rw [hx];exact hD) (by rw [hx]) (by rw [hx];exact Nat.le_succ _) (by rw [hx]) (by rw [hx]) rfl (.put hg' _) (by rw [hx];exact child_lt (Kw.ok c) kw_refl hns hst hD)
 | @r0 _ _ hgo acc=>
  rcases GoesO.here k7_refl hgo with ⟨hstop,_⟩ | ⟨hns,g',σ',es,hst,hD,hg'⟩
  ·obtain ⟨C,nn,v,hC,_,_,g',hst,m₂,hk⟩:=hstop
   simp only at hst hk
   have hk':=k6_of hC hk
   have hk2:GoesO c.P false (K6 c) (AtK c) g' ⟨noOwn,w⟩:=hk'.mono fun _ _ x=>⟨C,nn,hC,x⟩
   refine bookW G hRes ha hcs h hi hg hst (.refl _ _) rfl hwg (by rw [hx]) (by rw [hx];exact Nat.le_refl _) rfl rfl (.k1 hk2 (acc_tree (K6.ok c) k6_det hk2)) (fun e he=>?_) (by rw [hx];rfl) (fun _=>⟨t.size,RelBy.new hdk _ _⟩) (fun tag' ht _=>Mode.retag (hm' 6 0 0 (by rw [hwst];simp) (.inl rfl)) ht) (.inl ⟨by rw [hx];simp,by rw [hx];simp [cnt,wd]⟩)
   simp at he;subst he
   exact ⟨fun x hx'=>by simp [mk,MemAct.ofEvent,MemAct.touch?] at hx',by simp [mk]⟩
  ·obtain ⟨d1,d2,d3⟩:=hD
   obtain ⟨so,sw⟩:=σ'
   simp only at d1 d2 hst
   subst d1
   refine bookW G hRes ha hcs h hi hg hst (.drawn _ d2) (by rw [heap_drawn d2]) (hwg.of_block (by rw [heap_drawn d2])) (by rw [hx]) (by rw [hx];exact Nat.le_refl _) rfl rfl (.r0 hg' (acc_tree (K7.ok c) k7_det hg')) (fun e he=>?_) ?_ (fun q=>absurd q (by simp)) (fun tag' ht _=>(mode_same hm (by rw [hwst];rfl)).retag ht) (.inr ⟨by rw [hx],by rw [hx];exact child_lt (K7.ok c) k7_refl hns hst ⟨rfl,d2,d3⟩⟩)
   ·obtain ⟨q1,q2,q3,q4⟩:=d3 e he
    refine ⟨fun x hx'=>?_,q4⟩
    rcases (q1 0 "").2 x hx' with q | q | q
    ·exact q
    ·exact q.elim
    ·exact q.1.elim
   ·rw [hx];exact deafBehind_idle (fun e he=>⟨(d3 e he).2.1,(d3 e he).2.2.1⟩) 0
 | @k1 _ _ hgo acc=>
  rcases GoesO.here k6_refl hgo with ⟨hstop,_⟩ | ⟨hns,g',σ',es,hst,hD,hg'⟩
  ·obtain ⟨C,nn,hC,_,g',hst,m₂,hk⟩:=hstop
   have hk2:GoesO c.P false (K6 c) (AtDa c) g' ⟨noOwn,w⟩:=(k6_of hC hk).mono fun _ _ x=>⟨C,nn,hC,x⟩
   exact book (by simp) rfl hst (.refl _ _) rfl hwg (by intro e he;simp at he;subst he;exact .inl rfl) (by intro jx e he;exact .inl (by have:=Array.mem_of_getElem? he;simp at this;subst this;rfl)) rfl rfl (.d1 hk2 (acc_tree (K6.ok c) k6_det hk2)) rfl
    (fun tag' ht _=>Mode.retag (hm' 5 0 1 (by rw [hwst];simp) (.inr rfl)) ht) (.inl ⟨by simp,by simp [cnt,wd]⟩)
  ·obtain ⟨d1,d2,d3⟩:=hD
   obtain ⟨so,sw⟩:=σ'
   simp only at d1 d2 hst
   subst d1
   exact idle (x':=⟨6,none,0,noOwn,⟨_,acc_tree (K6.ok c) k6_det hg'⟩⟩) (by simp) rfl hst d2 d3 rfl rfl rfl rfl (.k1 hg' _) (child_lt (K6.ok c) k6_refl hns hst ⟨rfl,d2,d3⟩)
 | @d1 _ _ hgo acc=>
  rcases GoesO.here k6_refl hgo with ⟨hstop,_⟩ | ⟨hns,g',σ',es,hst,hD,hg'⟩
  ·obtain ⟨C,nn,hC,_,hall⟩:=hstop
   simp only at hall
   have hc1:cnt (wd (D i)) = 1:=by simp [cnt,hwst]
   have hV1:1<=Vc j fun i=>wd (D i):=by have:=le_sumTo (f:=fun x=>cnt (wd (D x))) hi;simp only [Vc];omega
   have bk2:∀ e∈#[rd (stA c.Wg),wr (stA c.Wg)],Bk c.Wg e:=by intro e he;simp at he;rcases he with rfl | rfl <;> exact bk_cell _ _ rfl
   have df2:∀ jx e,(#[rd (stA c.Wg),wr (stA c.Wg)]:Array Event)[jx]? = some e->(MemAct.ofEvent e).touch? = none\/0 < deafBehind 1 ((#[rd (stA c.Wg),wr (stA c.Wg)]:Array Event).extract 0 jx):=by
    intro jx e he
    match jx,he with
    | 0,_=>exact .inr (by simp [deafBehind])
    | 1,_=>exact .inr (by simp [deafBehind,rd])
    | jx + 2,he=>simp at he
   have opq:∀ q,OpenSt j (fun i=>wd (D i))->OpenSt j (upd (fun i=>wd (D i)) i ⟨1,q,1⟩):=fun q h b hb=>by
    by_cases e:b = i
    ·subst e;rw [upd_same];simp
    ·rw [upd_ne _ _ e];exact h b hb
   have hVq:∀ q,Vc j (upd (fun i=>wd (D i)) i (⟨1,q,1⟩:WD)) + 1 = Vc j fun i=>wd (D i):=fun q=>by
    have:=Vc_upd (fun i=>wd (D i)) (⟨1,q,1⟩:WD) hi
    have h0:cnt (⟨1,q,1⟩:WD) = 0:=rfl
    omega
   have quit:∀ {g':Goroutine} {v:Int} {q:Nat},stepG c.P false g w = .go g' (w.setCell (stA c.Wg) (.int .u64 v)) #[rd (stA c.Wg),wr (stA c.Wg)]->QuitsD c.P q 1 g'->WgAt c.ty c.Wg (w.setCell (stA c.Wg) (.int .u64 v)) v sm->ConcN.Mode j (upd (fun i=>wd (D i)) i ⟨1,0,1⟩) tag v sm ->
    ∃ m₁ ops μ',runT c.P (crowd gs w sl) (i + 1) = (.next m₁,ops)/\MuLt μ' (rank c n j tag ex r D,j,(fun i=>(D i).mt),mt0)/\Inv1 c n Anch AnW Post μ' m₁ (t ++ ops):=by
    intro g' v q hst hq hwg' hmo
    exact book (by simp) rfl hst (turn_set _ _ _ _) (size_setCell _ _ _) hwg' bk2 df2 rfl rfl (.quit hq) rfl (fun tag' ht _=>hmo.retag ht) (.inl ⟨by simp,by simp [cnt,wd]⟩)
   cases hm with
   | opn h1 h2 h3=>
    obtain ⟨v,hv⟩:∃ v,(Vc j fun i=>wd (D i)) + pend tag = v + 1:=⟨(Vc j fun i=>wd (D i)) + pend tag - 1,by omega⟩
    rw [hv] at hwg
    have hw1:WgAt c.ty c.Wg w (((v:Nat) + 1) * KK + ((0:Nat):Int)) 0:=by simpa using hwg
    obtain ⟨g',hst,_,hq⟩:=hall v 0 (by omega) (by omega) hw1
    obtain ⟨q,hq⟩:=hq (by omega)
    have hv':Vc j (upd (fun i=>wd (D i)) i ⟨1,0,1⟩) + pend tag = v:=by have:=hVq 0;omega
    refine quit hst hq (hwg.setSt _) ?_
    have e:((v:Nat):Int) * KK + ((0:Nat):Int) = ((Vc j (upd (fun i=>wd (D i)) i ⟨1,0,1⟩) + pend tag:Nat):Int) * KK:=by rw [hv'];simp
    rw [e]
    exact .opn h1 (opq 0 h2) (fun vs ev=>by have:=h3 vs ev;omega)
   | reg h1 h2 h3=>
    obtain ⟨v,hv⟩:∃ v,(Vc j fun i=>wd (D i)) = v + 1:=⟨(Vc j fun i=>wd (D i)) - 1,by omega⟩
    rw [hv] at hwg
    have hw1:WgAt c.ty c.Wg w (((v:Nat) + 1) * KK + ((1:Nat):Int)) 0:=by simpa using hwg
    obtain ⟨g',hst,hl,hq⟩:=hall v 1 (by omega) (by omega) hw1
    by_cases hv0:v = 0
    ·subst hv0
     obtain ⟨m₂,hk⟩:=hl ⟨rfl,rfl⟩
     have hk2:GoesO c.P false (K6 c) (AtDb c) g' ⟨noOwn,_⟩:=(k6_of hC hk).mono fun _ _ x=>⟨C,nn,hC,x⟩
     refine book (by simp) rfl hst (turn_set _ _ _ _) (size_setCell _ _ _) (hwg.setSt _) bk2 df2 rfl rfl (.d2 hk2 (acc_tree (K6.ok c) k6_det hk2)) rfl (fun tag' ht _=>Mode.retag ?_ ht) (.inl ⟨by simp,by simp [cnt,wd]⟩)
     have hoth:∀ b,b < j->b≠i->(wd (D b)).stage = 1:=fun b hb e=>by
      have c0:cnt (wd (D b)) = 0:=others_uncounted (D:=fun i=>wd (D i)) hi hv hc1 b hb e
      have:(wd (D b)).stage = 7\/(wd (D b)).stage = 6\/(wd (D b)).stage = 5\/(wd (D b)).stage = 1:=h2 b hb
      simp only [cnt] at c0
      split at c0 <;> omega
     have:=ConcN.Mode.last (j:=j) (D:=upd (fun i=>wd (D i)) i ⟨4,0,1⟩) (tag:=tag) i h1 hi (by rw [upd_same];simp) (fun b hb e=>by rw [upd_ne _ _ e];exact hoth b hb e)
     rw [upd_same] at this
     change ConcN.Mode j (upd (fun i=>wd (D i)) i ⟨4,0,1⟩) tag _ _
     simpa using this
    ·obtain ⟨q,hq⟩:=hq (by omega)
     have hv':Vc j (upd (fun i=>wd (D i)) i ⟨1,0,1⟩) = v:=by have:=hVq 0;omega
     refine quit hst hq (hwg.setSt _) ?_
     have e:((v:Nat):Int) * KK + ((1:Nat):Int) = ((Vc j (upd (fun i=>wd (D i)) i ⟨1,0,1⟩):Nat):Int) * KK + 1:=by rw [hv'];simp
     rw [e]
     exact .reg h1 (opq 0 h2) (by omega)
   | last L _ h2 h3 h4=>
    by_cases e:i = L
    ·subst e;rw [hwst] at h3;simp at h3
    ·have:=h4 i hi e;rw [hwst] at this;simp at this
   | sema h2=>have:=h2 i hi;rw [hwst] at this;simp at this
   | fin _ h2=>have:=h2 i hi;rw [hwst] at this;simp at this
  ·obtain ⟨d1,d2,d3⟩:=hD
   obtain ⟨so,sw⟩:=σ'
   simp only at d1 d2 hst
   subst d1
   exact idle (x':=⟨5,none,1,noOwn,⟨_,acc_tree (K6.ok c) k6_det hg'⟩⟩) (by simp) rfl hst d2 d3 rfl rfl rfl rfl (.d1 hg' _) (child_lt (K6.ok c) k6_refl hns hst ⟨rfl,d2,d3⟩)
 | @d2 _ _ hgo acc=>
  rcases GoesO.here k6_refl hgo with ⟨hstop,_⟩ | ⟨hns,g',σ',es,hst,hD,hg'⟩
  ·obtain ⟨C,nn,hC,_,hall⟩:=hstop
   simp only at hall
   obtain ⟨hW3,hoth,rfl,rfl⟩:=hm.isLast hi (by rw [hwst];simp)
   rw [hwst] at hwg
   obtain ⟨g',hst,m₂,hk⟩:=hall (by simpa using hwg)
   have hk2:GoesO c.P false (K6 c) (AtDc c) g' ⟨noOwn,_⟩:=(k6_of hC hk).mono fun _ _ x=>⟨C,nn,hC,x⟩
   refine book (by simp) rfl hst (.refl _ _) rfl hwg (by intro e he;simp at he;subst he;exact bk_cell _ _ rfl) (by intro jx e he;match jx,he with | 0,_=>exact .inr (by simp [deafBehind]) | jx + 1,he=>simp at he) rfl rfl (.d3 hk2 (acc_tree (K6.ok c) k6_det hk2)) rfl (fun tag' ht _=>Mode.retag ?_ ht) (.inl ⟨by simp,by simp [cnt,wd]⟩)
   have:=ConcN.Mode.last (j:=j) (D:=upd (fun i=>wd (D i)) i ⟨3,0,1⟩) (tag:=tag) i hW3 hi (by rw [upd_same];simp) (fun b hb e=>by rw [upd_ne _ _ e];exact hoth b hb e)
   rw [upd_same] at this
   change ConcN.Mode j (upd (fun i=>wd (D i)) i ⟨3,0,1⟩) tag _ _
   simpa using this
  ·obtain ⟨d1,d2,d3⟩:=hD
   obtain ⟨so,sw⟩:=σ'
   simp only at d1 d2 hst
   subst d1
   exact idle (x':=⟨4,none,1,noOwn,⟨_,acc_tree (K6.ok c) k6_det hg'⟩⟩) (by simp) rfl hst d2 d3 rfl rfl rfl rfl (.d2 hg' _) (child_lt (K6.ok c) k6_refl hns hst ⟨rfl,d2,d3⟩)
 | @d3 _ _ hgo acc=>
  rcases GoesO.here k6_refl hgo with ⟨hstop,_⟩ | ⟨hns,g',σ',es,hst,hD,hg'⟩
  ·obtain ⟨C,nn,hC,_,hall⟩:=hstop
   simp only at hall
   obtain ⟨hW3,hoth,rfl,rfl⟩:=hm.isLast hi (by rw [hwst];simp)
   rw [hwst] at hwg
   obtain ⟨g',hst,m₂,hk⟩:=hall (by simpa using hwg)
   have hk2:GoesO c.P false (K6 c) (AtDd c) g' ⟨noOwn,_⟩:=(k6_of hC hk).mono fun _ _ x=>x
   refine book (by simp) rfl hst (turn_set _ _ _ _) (size_setCell _ _ _) (hwg.setSt 0) (by intro e he;simp at he;subst he;exact bk_cell _ _ rfl) (by intro jx e he;match jx,he with | 0,_=>exact .inr (by simp [deafBehind]) | jx + 1,he=>simp at he) rfl rfl (.d4 hk2 (acc_tree (K6.ok c) k6_det hk2)) rfl (fun tag' ht _=>Mode.retag ?_ ht) (.inl ⟨by simp,by simp [cnt,wd]⟩)
   have:=ConcN.Mode.last (j:=j) (D:=upd (fun i=>wd (D i)) i ⟨2,0,1⟩) (tag:=tag) i hW3 hi (by rw [upd_same];simp) (fun b hb e=>by rw [upd_ne _ _ e];exact hoth b hb e)
   rw [upd_same] at this
   change ConcN.Mode j (upd (fun i=>wd (D i)) i ⟨2,0,1⟩) tag _ _
   simpa using this
  ·obtain ⟨d1,d2,d3⟩:=hD
   obtain ⟨so,sw⟩:=σ'
   simp only at d1 d2 hst
   subst d1
   exact idle (x':=⟨3,none,1,noOwn,⟨_,acc_tree (K6.ok c) k6_det hg'⟩⟩) (by simp) rfl hst d2 d3 rfl rfl rfl rfl (.d3 hg' _) (child_lt (K6.ok c) k6_refl hns hst ⟨rfl,d2,d3⟩)
 | @d4 _ _ hgo acc=>
  rcases GoesO.here k6_refl hgo with ⟨hstop,_⟩ | ⟨hns,g',σ',es,hst,hD,hg'⟩
  ·obtain ⟨_,hmw,hall⟩:=hstop
   simp only at hall
   obtain ⟨hW3,hoth,rfl,rfl⟩:=hm.isLast hi (by rw [hwst];simp)
   rw [hwst] at hwg
   obtain ⟨g',hst,q,hq⟩:=hall (by simpa using hwg)
   have hrun':g'.status = .running:=by
    cases q with
    | zero=>exact absurd hq.2 (by decide)
    | succ q=>exact hq.elim (fun x=>absurd x.2 (by decide)) (fun x=>x.1)
   refine book (by simp) rfl hst (turn_set _ _ _ _) (size_setCell _ _ _) (hwg.setSm 1) ?_ ?_ rfl rfl (.quit hq) (by simp [deafBehind,semEvents]) (fun tag' ht hw=>?_) (.inl ⟨by simp,by simp [cnt,wd]⟩)
   ·intro e he
    simp [semEvents] at he
    rcases he with rfl | rfl | rfl | rfl
    ·exact .inl rfl
    ·exact bk_cell _ _ rfl
    ·exact bk_cell _ _ rfl
    ·exact .inr (.inl rfl)
   ·intro jx e he
    match jx,he with
    | 0,he=>simp [semEvents] at he;subst he;exact .inl rfl
    | 1,_=>exact .inr (by simp [deafBehind,semEvents])
    | 2,_=>exact .inr (by simp [deafBehind,semEvents])
    | 3,he=>simp [semEvents] at he;subst he;exact .inl rfl
    | jx + 4,he=>simp [semEvents] at he
   ·have hnb:=hw hmw hrun'
    have e3:tag' = .w3:=by
     rcases ht with rfl | ⟨_,rfl⟩
     ·cases tag' <;> first | rfl | exact hW3.elim | exact absurd rfl hnb
     ·rfl
    subst e3
    have e2:(wd (D i)).stage = 2:=by rw [hwst];simp
    simp only [e2,if_true]
    exact .sema fun b hb=>by
     by_cases e:b = i
     ·subst e;rw [upd_same];rfl
     ·rw [upd_ne _ _ e];exact hoth b hb e
  ·obtain ⟨d1,d2,d3⟩:=hD
   obtain ⟨so,sw⟩:=σ'
   simp only at d1 d2 hst
   subst d1
   exact idle (x':=⟨2,none,1,noOwn,⟨_,acc_tree (K6.ok c) k6_det hg'⟩⟩) (by simp) rfl hst d2 d3 rfl rfl rfl rfl (.d4 hg' _) (child_lt (K6.ok c) k6_refl hns hst ⟨rfl,d2,d3⟩)
 | @quit q d _ _ hq=>
  cases q with
  | zero=>rw [hq.1] at hrun;cases hrun
  | succ q=>
   rcases hq with ⟨hf,_⟩ | ⟨_,g',es,hmute,hstep,hq⟩
   ·rw [hf] at hrun;cases hrun
   ·have hbk:∀ e∈es,Bk c.Wg e:=fun e he=>bk_of_mute (hmute e he)
    have hno:∀ jx e,es[jx]? = some e->(MemAct.ofEvent e).touch? = none\/0 < deafBehind d (es.extract 0 jx):=fun jx e he=>.inl (by
     rcases bk_of_mute (Wg:=c.Wg) (hmute e (Array.mem_of_getElem? he)) with h1 | h1 | ⟨a,wr,rfl,_⟩
     ·rw [ofEvent_loc_mark h1];rfl
     ·rw [ofEvent_loc_mark h1];rfl
     ·have:=hmute _ (Array.mem_of_getElem? he);simp [Event.mute] at this)
    exact book (by simp) rfl (hstep w) (.refl _ _) rfl hwg hbk hno rfl rfl (.quit hq) rfl (fun tag' ht _=>(mode_same hm (by rw [hwst];rfl)).retag ht) (.inr ⟨rfl,show q < q + 1 by omega⟩)
end
open Go.Conc Go.ConcN
open Go.ConcR (KK wgBlock WgAt stA smA rd wr mk Payload DC0 again_blocked g_of_ofEvents Bk ofEvent_loc_mark ofEvent_cell ofEvent_mk bk_of_mute)
variable [Payload]
section
variable {c:Cfg} {n:Nat} {Anch:Goroutine->GW->Prop} {AnW:Goroutine->World->Prop} {Post:Value->World->Prop} {j r r':Nat} {gs gs':Array Goroutine} {w w':World} {sl:Option (Nat × Nat)} {t u:Trace} {D D':Nat->Wk c.P}
 {hist got hist' got':Nat->Nat->Prop} {d0 ex:Nat} {tag:CTag} {mt0:Am c.P} {a:Goroutine} {X:Nat->Prop}
theorem rely_oth0 (G:Geo c.Wg c.Ch c.Out c.Lz c.RO) (h:Com c Anch j r gs w t D hist got d0) (T:Turn (· = c.Wg) w w') {st sm:Int} (hwg:WgAt c.ty c.Wg w' st sm):∀ i',i' < j->(Kw c).R ⟨(D i').own,w⟩ w':=by
 have hlz:=h.lz
 intro i' hi'
 refine rely_oth G h (i:=j) hi' (by omega) T (fun b hb=>.inr (.inl hb)) (.of (r:=r) hwg ⟨h.ch.1,(T.block _ (by have:=G.ch;omega) (Ne.symm G.wc)).trans h.ch.2⟩ ?_)
 obtain ⟨cs,h1,h2⟩:=h.out
 exact ⟨cs,(T.block _ (by have:=G.out;omega) (Ne.symm G.wo)).trans h1,h2⟩
theorem bk0 {e:Event} (h:Bk c.Wg e):(∀ x,(MemAct.ofEvent e).touch? = some x->ShN c.Wg x.loc/\x.kind≠.plain)/\e.loc≠.mark (.release (stA c.Wg)):=
 ⟨fun x hx=>let q:=(ev_of_bk h).1 x hx;⟨q.1,q.2.1⟩,(ev_of_bk h).2⟩
theorem GoesO.keep {P:Program} {main:Bool} {K:Pact} {Stop:Goroutine->GW->Prop} {own:Nat->Prop} (hD:∀ σ es σ',K.D σ es σ'->σ'.own = σ.own) {g:Goroutine} {σ:GW} (h:GoesO P main K Stop g σ) (ho:σ.own = own):GoesO P main K (fun g σ'=>σ'.own = own/\Stop g σ') g σ:=by
 induction h with
 | stop h=>exact .stop fun w₁ hr=>⟨ho,h w₁ hr⟩
 | @step g σ nx ns ne hs h hn ih=>exact .step nx ns ne hs h fun w₁ hr=>ih w₁ hr ((hD _ _ _ (h w₁ hr).2).trans ho)
theorem anchored (hAnW:∀ g w,AnW g w->GP c (AtW10 c AnW Post) g w) {g:Goroutine} {w:World} (h:GP c AnW g w):GP c (AtW10 c AnW Post) g w:=by
 refine (GoesO.keep (own:=noOwn) (fun σ es σ' (q:(K0 c).D σ es σ')=>q.1) h rfl).bind k0_refl fun g σ q=>?_
 obtain ⟨so,sw⟩:=σ
 obtain ⟨rfl,q⟩:=q
 exact hAnW g sw q
def Joined (c:Cfg) (n:Nat) (Post:Value->World->Prop) (gs:Array Goroutine) (w:World) (t:Trace) (a:Goroutine):Prop:=
 ∃ a',stepG c.P true a w = .go a' w #[mk (.acquire (stA c.Wg))]/\GoesO c.P true (Kt c w.heap.size) (AtRet c Post w.heap.size) a' ⟨noOwn,w⟩/\gs.size = n + 1/\(∀ i,i < n->∃ g q,gs[i + 1]? = some g/\QuitsD c.P q (Deaf t (i + 1)) g) /\
  CT (ShN c.Wg) (fun _ _=>False) (fun _ _=>False) (t ++ MemOp.ofEvents 0 a.frame.fn a.frame.place #[mk (.acquire (stA c.Wg))]) n /\
  AcqAll c.Wg n (t ++ MemOp.ofEvents 0 a.frame.fn a.frame.place #[mk (.acquire (stA c.Wg))])/\NoRelease (stA c.Wg) (t ++ MemOp.ofEvents 0 a.frame.fn a.frame.place #[mk (.acquire (stA c.Wg))])
set_option maxHeartbeats 1600000 in
theorem stepStarter (G:Geo c.Wg c.Ch c.Out c.Lz c.RO) (hRes:∀ k v1 v2 fin w w',c.Res k v1 v2 fin w->(∀ b,fin b->w'.heap[b]? = w.heap[b]?)->c.Res k v1 v2 fin w') (hAnW:∀ g w,AnW g w->GP c (AtW10 c AnW Post) g w) (hn:n < 2147483648) (hn1:1<=n)
 (ha:gs[0]? = some a) (hcs:CSt c n Anch AnW Post tag ex j d0 mt0 a w) (h:Com c Anch j r gs w t D hist got d0) {st sm:Int} (hwg:WgAt c.ty c.Wg w st sm) (hm:ConcN.Mode j (fun i=>wd (D i)) tag st sm) (hrun:a.status = .running):
 (∃ m₁ ops μ',runT c.P (crowd gs w sl) 0 = (.next m₁,ops)/\MuLt μ' (rank c n j tag ex r D,j,(fun i=>(D i).mt),mt0)/\Inv1 c n Anch AnW Post μ' m₁ (t ++ ops))\/(0 < rank c n j tag ex r D/\Joined c n Post gs w t a):=by
 have hVj:=Vc_le j fun i=>wd (D i)
 have hbound:=hcs.bound
 have book:∀ {a':Goroutine} {w':World} {es:Array Event} {tag':CTag} {ex' d':Nat} {S:Goroutine->World->Prop} {st' sm':Int},stepG c.P true a w = .go a' w' es->Turn (· = c.Wg) w w'->w'.heap.size = w.heap.size->WgAt c.ty c.Wg w' st' sm' ->
  (∀ e∈es,(∀ x,(MemAct.ofEvent e).touch? = some x->ShN c.Wg x.loc/\x.kind≠.plain)/\e.loc≠.mark (.release (stA c.Wg)))->deafBehind d0 es = d'->IsStop c n Anch AnW Post tag' ex' j d' S->GP c S a' w'->ConcN.Mode j (fun i=>wd (D i)) tag' st' sm' ->
  phi n (Vc j fun i=>wd (D i)) tag' + ex' < phi n (Vc j fun i=>wd (D i)) tag + ex ->
  ∃ m₁ ops μ',runT c.P (crowd gs w sl) 0 = (.next m₁,ops)/\MuLt μ' (rank c n j tag ex r D,j,(fun i=>(D i).mt),mt0)/\Inv1 c n Anch AnW Post μ' m₁ (t ++ ops):=by
  intro a' w' es tag' ex' d' S st' sm' hgo T hsz hwg' hev hd hs hg hmo hlt
  obtain ⟨mt',hcs'⟩:=CSt.mk hs hg
  have hbl:∀ b,b≠c.Wg->w'.heap[b]? = w.heap[b]?:=fun b hb=>by
   rcases Nat.lt_or_ge b w.heap.size with q | q
   ·exact T.block b q hb
   ·rw [Array.getElem?_eq_none q,Array.getElem?_eq_none (by omega)]
  exact starterStep G hRes ha h hgo (rely_oth0 G h T hwg') hsz hbl hev hd hcs' hwg' hmo (.inl hlt)
 cases hcs with
 | blk _=>simp at hrun
 | @go _ _ _ _ S _ _ hs hg acc=>
  rcases GoesO.here k0_refl hg with ⟨hstop,hall⟩ | ⟨hns,a',σ',es,hst,hD,hg'⟩
  ·simp only at hstop
   cases hs with
   | @dis r' hr=>
    obtain ⟨_,a',hgo,hk⟩:=hstop
    exact .inl (book hgo (.refl _ _) rfl hwg (fun e he=>bk0 (bk_dis e he)) rfl (.add hr) hk (hm.reopen trivial trivial rfl (by simp)) (by simp only [phi];omega))
   | @add r' hr=>
    obtain ⟨_,hall⟩:=hstop
    obtain ⟨ho,rfl,rfl,_⟩:=hm.open_inv trivial
    obtain ⟨a',hgo,h0,h1⟩:=hall (Vc (n - (r' + 1)) fun i=>wd (D i)) (by omega) (by simpa [pend] using hwg)
    have e:∀ s,pend (.sp r' s) = 1->(((Vc (n - (r' + 1)) fun i=>wd (D i):Nat):Int) + 1) * KK = (((Vc (n - (r' + 1)) fun i=>wd (D i)) + pend (.sp r' s):Nat):Int) * KK:=fun s hs=>by rw [hs];simp
    have hwg':=hwg.setSt ((((Vc (n - (r' + 1)) fun i=>wd (D i):Nat):Int) + 1) * KK)
    by_cases hv:(Vc (n - (r' + 1)) fun i=>wd (D i)) = 0
    ·refine .inl (book hgo (turn_set _ _ _ _) (size_setCell _ _ _) hwg' (fun e he=>bk0 (bk_rw e he)) rfl (.rm hr) (h0 hv) ?_ (by simp only [phi];omega))
     rw [e 3 rfl];exact .opn trivial ho (by simp)
    ·refine .inl (book hgo (turn_set _ _ _ _) (size_setCell _ _ _) hwg' (fun e he=>bk0 (bk_rw e he)) rfl (.en hr) (h1 hv) ?_ (by simp only [phi];omega))
     rw [e 2 rfl];exact .opn trivial ho (by simp)
   | @rm r' hr=>
    obtain ⟨_,a',hgo,hk⟩:=hstop
    refine .inl (book hgo (.refl _ _) rfl hwg (fun e he=>?_) rfl (.en hr) hk (hm.reopen trivial trivial rfl (by simp)) (by simp only [phi];omega))
    simp at he;subst he
    refine ⟨fun x hx=>?_,by simp [mk]⟩
    simp only [mk,MemAct.ofEvent,MemAct.touch?,Option.some.injEq] at hx
    subst hx
    exact ⟨⟨_,rfl,rfl⟩,by simp⟩
   | @en r' hr=>
    obtain ⟨_,a',hgo,hk⟩:=hstop
    exact .inl (book hgo (.refl _ _) rfl hwg (fun e he=>bk0 (bk_en e he)) rfl (.go hr) hk (hm.reopen trivial trivial rfl (by simp)) (by simp only [phi];omega))
   | @go r' hr=>
    obtain ⟨_,a',child,hsp,_,hchild,hnext⟩:=hstop
    obtain ⟨ho,rfl,rfl,_⟩:=hm.open_inv trivial
    have hrun':=runT_crowd_spawn (P:=c.P) (sl:=sl) (i:=0) ha (by simpa using hsp)
    rw [h.size] at hrun'
    obtain ⟨x',x8,hcom'⟩:=h.spawn G (a':=a') (x:={ g:=0,fn:=a.frame.fn,pos:=a.frame.place,act:=.go (n - (r' + 1) + 1) }) (y:={ g:=n - (r' + 1) + 1,fn:=child.frame.fn,pos:=a.frame.place,act:=.start }) ⟨rfl,rfl⟩ ⟨rfl,rfl⟩ hchild
    have ew:(fun i=>wd (upd D (n - (r' + 1)) x' i)) = upd (fun i=>wd (D i)) (n - (r' + 1)) (wd x'):=by
     funext i
     by_cases e:i = n - (r' + 1)
     ·subst e;rw [upd_same,upd_same]
     ·rw [upd_ne _ _ e,upd_ne _ _ e]
    have c1:cnt (wd x') = 1:=by simp [cnt,wd,x8]
    have eV:(Vc (n - (r' + 1) + 1) fun i=>wd (upd D (n - (r' + 1)) x' i)) = (Vc (n - (r' + 1)) fun i=>wd (D i)) + 1:=by
     rw [ew]
     simp only [Vc,sumTo,upd_same,c1]
     rw [sumTo_upd_out (fun i=>wd (D i)) _ cnt (Nat.le_refl _)]
    have eS:(sumTo (n - (r' + 1) + 1) fun i=>(upd D (n - (r' + 1)) x' i).stage) = (sumTo (n - (r' + 1)) fun i=>(D i).stage) + 8:=by
     simp only [sumTo,upd_same,x8]
     rw [sumTo_upd_out D _ Wk.stage (Nat.le_refl _)]
    have ho':OpenSt (n - (r' + 1) + 1) fun i=>wd (upd D (n - (r' + 1)) x' i):=fun i hi=>by
     by_cases e:i = n - (r' + 1)
     ·subst e;simp [upd_same,wd,x8]
     ·have:=ho i (by omega)
      simp only [upd_ne D _ e];exact this
    have ha':((gs.setIfInBounds 0 a').push child)[0]? = some a':=by
     rw [Array.getElem?_push_lt (by simp [h.size]),<- Array.getElem?_eq_getElem]
     simp [h.size]
    have ej:n - (r' + 1) + 1 = n - r':=by omega
    have hops:((MemOp.ofEvents 0 a.frame.fn a.frame.place #[]).push { g:=0,fn:=a.frame.fn,pos:=a.frame.place,act:=.go (n - (r' + 1) + 1) }).push { g:=n - (r' + 1) + 1,fn:=child.frame.fn,pos:=a.frame.place,act:=.start } = #[{ g:=0,fn:=a.frame.fn,pos:=a.frame.place,act:=.go (n - (r' + 1) + 1) },{ g:=n - (r' + 1) + 1,fn:=child.frame.fn,pos:=a.frame.place,act:=.start }]:=by simp [ofEvents_eq]
    rw [hops] at hrun'
    have est:∀ tag',pend tag' = 0->((((Vc (n - (r' + 1)) fun i=>wd (D i)) + pend (.sp r' 1):Nat):Int)) * KK = (((Vc (n - (r' + 1) + 1) fun i=>wd (upd D (n - (r' + 1)) x' i)) + pend tag':Nat):Int) * KK:=fun tag' hp=>by rw [eV,hp];simp [pend]
    left
    cases r' with
    | zero=>
     have hs':IsStop c n Anch AnW Post .kd 0 (n - (0 + 1) + 1) 0 (AtKd0 c AnW):=by rw [ej];exact .kd
     obtain ⟨mt',hcs'⟩:=CSt.mk hs' hnext
     refine ⟨_,_,(rank c n (n - (0 + 1) + 1) .kd 0 r (upd D (n - (0 + 1)) x'),n - (0 + 1) + 1,(fun i=>(upd D (n - (0 + 1)) x' i).mt),mt'),hrun',.inl ?_,_,w,sl,n - (0 + 1) + 1,r,_,hist,got,.kd,0,0,mt',a',_,_,rfl,ha',hcs',hcom',hwg,?_,rfl⟩
     ·simp only [rank,phi,eS];omega
     ·rw [est .kd rfl];exact .opn trivial ho' (by simp)
    | succ r''=>
     have hs':IsStop c n Anch AnW Post (.sp r'' 5) 0 (n - (r'' + 1 + 1) + 1) 0 (AtDis c Anch (AtSp c Anch AnW r'')):=by rw [ej];exact .dis (by omega)
     obtain ⟨mt',hcs'⟩:=CSt.mk hs' hnext
     refine ⟨_,_,(rank c n (n - (r'' + 1 + 1) + 1) (.sp r'' 5) 0 r (upd D (n - (r'' + 1 + 1)) x'),n - (r'' + 1 + 1) + 1,(fun i=>(upd D (n - (r'' + 1 + 1)) x' i).mt),mt'),hrun',.inl ?_,_,w,sl,n - (r'' + 1 + 1) + 1,r,_,hist,got,.sp r'' 5,0,0,mt',a',_,_,rfl,ha',hcs',hcom',hwg,?_,rfl⟩
     ·simp only [rank,phi,eS];omega
     ·rw [est (.sp r'' 5) rfl];exact .opn trivial ho' (by simp)
   | kd=>
    obtain ⟨_,a',hgo,hk⟩:=hstop
    exact .inl (book hgo (.refl _ _) rfl hwg (fun e he=>bk0 (bk_dis e he)) rfl .w1 (anchored hAnW hk) (hm.reopen trivial trivial rfl (by simp)) (by simp only [phi];omega))
   | w1=>
    obtain ⟨_,hall⟩:=hstop
    obtain ⟨ho,rfl,rfl,_⟩:=hm.open_inv trivial
    obtain ⟨a',hgo,h0,h1⟩:=hall (Vc n fun i=>wd (D i)) (by omega) (by simpa [pend] using hwg)
    by_cases hv:(Vc n fun i=>wd (D i)) = 0
    ·refine .inl (book hgo (.refl _ _) rfl hwg (fun e he=>bk0 (bk_rd e he)) rfl .ke (h0 hv) ?_ (by simp only [phi];omega))
     have e:(((Vc n fun i=>wd (D i)) + pend .w1:Nat):Int) * KK = 0:=by rw [hv];simp [pend]
     rw [e]
     exact .fin trivial (allQuit_of ho hv)
    ·exact .inl (book hgo (.refl _ _) rfl hwg (fun e he=>bk0 (bk_rd e he)) rfl .w2 (h1 hv) (hm.reopen trivial trivial rfl (fun vs e=>by cases e;omega)) (by simp only [phi];omega))
   | @w2 vs=>
    obtain ⟨_,hall⟩:=hstop
    obtain ⟨ho,rfl,rfl,hw2⟩:=hm.open_inv trivial
    obtain ⟨hle,h1⟩:=hw2 vs rfl
    obtain ⟨hhit,hmiss⟩:=hall (Vc n fun i=>wd (D i)) (by omega) (by simpa [pend] using hwg)
    by_cases e:(Vc n fun i=>wd (D i)) = vs
    ·obtain ⟨a',hgo,hk⟩:=hhit e
     exact .inl (book hgo (turn_set _ _ _ _) (size_setCell _ _ _) (hwg.setSt _) (fun e he=>bk0 (bk_rw e he)) rfl .wm hk (.reg trivial ho (by omega)) (by simp only [phi];omega))
    ·obtain ⟨a',hgo,hk⟩:=hmiss e
     exact .inl (book hgo (.refl _ _) rfl hwg (fun e he=>bk0 (bk_rd e he)) rfl .w1 (anchored hAnW hk) (hm.reopen trivial trivial rfl (by simp)) (by simp only [phi];omega))
   | wm=>
    obtain ⟨_,a',hgo,hk⟩:=hstop
    refine .inl (book hgo (.refl _ _) rfl hwg (fun e he=>?_) rfl .w3 hk hm (by simp only [phi];omega))
    simp at he;subst he
    refine ⟨fun x hx=>?_,by simp [mk]⟩
    simp only [mk,MemAct.ofEvent,MemAct.touch?,Option.some.injEq] at hx
    subst hx
    exact ⟨⟨_,rfl,rfl⟩,by simp⟩
   | w3=>
    obtain ⟨_,hoff,hblk,htake⟩:=hstop
    have blocks:(∃ st,WgAt c.ty c.Wg w st 0)->(∀ tag',isW3 tag'->ConcN.Mode n (fun i=>wd (D i)) tag' st sm)->∃ m₁ ops μ',runT c.P (crowd gs w sl) 0 = (.next m₁,ops)/\MuLt μ' (rank c n n .w3 0 r D,n,(fun i=>(D i).mt),⟨_,acc⟩)/\Inv1 c n Anch AnW Post μ' m₁ (t ++ ops):=by
     intro hst hmo
     have hcs':CSt c n Anch AnW Post .blk 0 n 1 ⟨.num 0,acc_num 0⟩ { a with status:=.blocked } w:=.blk fun w₁ h₁=>hall w₁ h₁
     exact starterStep G hRes ha h (hblk hst) (rely_oth0 G h (.refl _ _) hwg) rfl (fun _ _=>rfl) (by simp) rfl hcs' hwg (hmo .blk trivial) (.inr ⟨rfl,trivial⟩)
    cases hm with
    | opn h1 _ _=>exact h1.elim
    | reg h1 h2 h3=>exact .inl (blocks ⟨_,hwg⟩ fun tag' ht=>.reg ht h2 h3)
    | last L h1 h2 h3 h4=>exact .inl (blocks ⟨_,hwg⟩ fun tag' ht=>.last L ht h2 h3 h4)
    | sema h2=>
     obtain ⟨a',hgo,hk⟩:=htake hwg
     exact .inl (book hgo (turn_set _ _ _ _) (size_setCell _ _ _) (hwg.setSm 0) (fun e he=>bk0 (bk_sem e he)) (by simp [deafBehind,semEvents]) .w4 hk (.fin trivial h2) (by simp only [phi];omega))
    | fin h1 _=>exact h1.elim
   | w4=>
    obtain ⟨_,hx⟩:=hstop
    obtain ⟨hq,rfl,rfl⟩:=hm.fin_inv trivial
    obtain ⟨a',hgo,hk⟩:=hx hwg
    exact .inl (book hgo (.refl _ _) rfl hwg (fun e he=>bk0 (bk_rd e he)) rfl .ke hk (.fin trivial hq) (by simp only [phi];omega))
   | ke=>
    obtain ⟨_,a',hgo,hk⟩:=hstop
    obtain ⟨hq,rfl,rfl⟩:=hm.fin_inv trivial
    exact .inl (book hgo (.refl _ _) rfl hwg (fun e he=>bk0 (bk_en e he)) rfl .acq hk (.fin trivial hq) (by simp only [phi];omega))
   | acq=>
    obtain ⟨_,a',hgo,hk⟩:=hstop
    obtain ⟨hq,rfl,rfl⟩:=hm.fin_inv trivial
    have hq1:∀ i,i < n->(D i).stage = 1:=fun i hi=>by
     have h1:(wd (D i)).stage = 1:=hq i hi
     simp only [wd] at h1
     omega
    have hrN:r = c.N:=h.last 0 (by omega) (by rw [hq1 0 (by omega)];omega)
    have hdone:AllDone c w:=by
     refine ⟨hwg,h.lz,h.out,fun k hk=>?_⟩
     rcases h.jobs k (by omega) with ⟨i',hi',hk'⟩ | ⟨v1,v2,fin,h1,h2,h3,_⟩
     ·obtain ⟨g,_,hs⟩:=h.wk i' hi'
      obtain ⟨_,_,_,_,hnj⟩:=hs.stage1 (hq1 i' hi')
      rw [hnj] at hk';cases hk'
     ·exact ⟨v1,v2,fin,h1,h2,h3⟩
    have hacq:AcqAll c.Wg n (t ++ MemOp.ofEvents 0 a.frame.fn a.frame.place #[mk (.acquire (stA c.Wg))]):=by
     have e1:MemOp.ofEvents 0 a.frame.fn a.frame.place #[mk (.acquire (stA c.Wg))] = #[{ g:=0,fn:=a.frame.fn,pos:=a.frame.place,act:=.mark (.acquire (stA c.Wg)) }]:=by rw [ofEvents_eq];simp [ofEvent_mk]
     have hy:(t ++ #[({ g:=0,fn:=a.frame.fn,pos:=a.frame.place,act:=.mark (.acquire (stA c.Wg)) }:MemOp)])[t.size]? = some { g:=0,fn:=a.frame.fn,pos:=a.frame.place,act:=.mark (.acquire (stA c.Wg)) }:=by simp
     refine ⟨t.size,by rw [e1,act?_of hy],by rw [e1];simp [Trace.g?],by rw [e1];exact ⟨0,by simp [Trace.g?],by rw [deaf_old (Nat.le_refl _)];exact h.deaf0⟩,fun i hi=>?_⟩
     obtain ⟨q,hq⟩:=h.rel i hi (by rw [hq1 i hi];omega)
     exact ⟨q,hq.appOther g_of_ofEvents (by omega),lt_of_act? hq.act⟩
    have htr:TrI c.Wg c.Out c.RO hist got n r w.heap.size (t ++ MemOp.ofEvents 0 a.frame.fn a.frame.place #[mk (.acquire (stA c.Wg))]):=by
     refine h.tr.app0 G h.H h.lz (fun op hop=>?_) (fun op hop=>?_)
     ·rw [ofEvents_eq] at hop
      obtain ⟨e,he,rfl⟩:=Array.mem_map.1 hop
      simp at he;subst he
      exact ⟨rfl,fun x hx=>by simp [ofEvent_mk,MemAct.touch?] at hx⟩
     ·rw [ofEvents_eq] at hop
      obtain ⟨e,he,rfl⟩:=Array.mem_map.1 hop
      simp at he;subst he
      simp [ofEvent_mk]
    refine .inr ⟨by simp only [rank,phi];omega,a',hgo,hk hdone,h.size,fun i hi=>?_,htr.joined hacq,hacq,htr.norel⟩
    obtain ⟨g,hg,hs⟩:=h.wk i hi
    obtain ⟨q,hq',_⟩:=hs.stage1 (hq1 i hi)
    exact ⟨g,q,hg,by rw [h.deafW i hi];exact hq'⟩
  ·-- an idle step
   obtain ⟨d1,d2,d3⟩:=hD
   obtain ⟨so,sw⟩:=σ'
   simp only at d1 d2 hst
   subst d1;subst d3
   have hcs':CSt c n Anch AnW Post tag ex j d0 ⟨_,acc_tree (K0.ok c) k0_det hg'⟩ a' sw:=.go hs hg' _
   exact .inl (starterStep G hRes ha h hst (rely_oth0 G h (.drawn _ d2) (hwg.of_block (by rw [heap_drawn d2]))) (by rw [heap_drawn d2]) (fun _ _=>by rw [heap_drawn d2]) (by simp) rfl hcs' (hwg.of_block (by rw [heap_drawn d2])) hm (.inr ⟨rfl,child_lt (K0.ok c) k0_refl hns hst ⟨rfl,d2,rfl⟩⟩))
end
open Go.Conc Go.ConcN
open Go.ConcR (KK wgBlock WgAt stA smA rd wr mk Payload DC0 again_blocked g_of_ofEvents Bk ofEvent_loc_mark ofEvent_cell ofEvent_mk bk_of_mute)
variable [Payload]
theorem MuLt.turn {P:Program} {S j:Nat} {f' f:Nat->Am P} {c' c:Am P} {y:Mu P} (hf:∀ i,i < j->aLe (f' i) (f i)) (hc:aLe c' c) (h:MuLt y (S,j,f',c')):MuLt y (S,j,f,c):=by
 rcases h with h | ⟨h1,h2,h3⟩ | ⟨h1,h2,h3,h4⟩
 ·exact .inl h
 ·exact .inr (.inl ⟨h1,h2,LtP.turn (fun x y c=>Mt.abs x.1 y.1 c.1) (fun x y c=>Mt.tr x.1 y.1 c.1) h3 hf⟩)
 ·exact .inr (.inr ⟨h1,h2,fun i hi=>Mt.tr _ _ _ (h3 i hi) (hf i hi),Mt.abs _ _ _ h4 hc⟩)
section
variable {c:Cfg} {n:Nat} {Anch:Goroutine->GW->Prop} {AnW:Goroutine->World->Prop} {Post:Value->World->Prop} {j r:Nat} {gs:Array Goroutine} {w:World} {sl:Option (Nat × Nat)} {t:Trace} {D:Nat->Wk c.P}
 {hist got:Nat->Nat->Prop} {d0 ex:Nat} {tag:CTag} {mt0:Am c.P} {a:Goroutine}
variable (c n Post) in
def Inv2 (μ:Mu c.P) (m:Machine) (t:Trace):Prop:=
 ∃ (gs:Array Goroutine) (w:World) (sl:Option (Nat × Nat)) (B:Nat) (q:Nat->Nat) (a:Goroutine) (own:Nat->Prop) (acc:Acc (Mt.lt c.P) (.tree ⟨true,Kt c B,Kt.ok c B,AtRet c Post B,a,⟨own,w⟩⟩)),
  m = crowd gs w sl/\gs[0]? = some a/\gs.size = n + 1/\(∀ i,i < n->∃ g,gs[i + 1]? = some g/\QuitsD c.P (q i) (Deaf t (i + 1)) g)/\GoesO c.P true (Kt c B) (AtRet c Post B) a ⟨own,w⟩ /\
  CT (ShN c.Wg) (fun _ _=>False) (fun _ _=>False) t n/\AcqAll c.Wg n t/\NoRelease (stA c.Wg) t/\c.Wg < B/\B<=w.heap.size/\(∀ b,own b->B<=b)/\μ = (0,n,(fun i=>⟨.num (q i),acc_num (q i)⟩),⟨_,acc⟩)
theorem apart0:Apart (ShN c.Wg) (fun _ _=>False) (fun _ _=>False):=⟨fun _ _ _ h=>h.elim,fun _ _ _ h=>h.elim,fun _ _ h=>h.elim,fun _ _ h=>h.elim⟩
set_option maxHeartbeats 800000 in
theorem step2 {μ:Mu c.P} {m:Machine} {t:Trace} (h:Inv2 c n Post μ m t):
 (∃ o w ops,stepT c.P m = (.ended o w,ops)/\Conc.Good c.P Post m o w (t ++ ops))\/(∃ m' ops μ',stepT c.P m = (.next m',ops)/\MuLt μ' μ/\Inv2 c n Post μ' m' (t ++ ops)):=by
 obtain ⟨gs,w,sl,B,q,a,own,acc,rfl,ha,hsz,hq,hg,hct,hacq,hnr,hWB,hB,hown,rfl⟩:=h
 have hrun0:a.status = .running:=GoesO.running hg (kt_refl B) fun _ _ x=>x.1
 have awk:∀ g∈gs,awake g:=by
  intro g hgm tm
  obtain ⟨i,hi⟩:=Array.mem_iff_getElem?.1 hgm
  cases i with
  | zero=>rw [ha] at hi;cases hi;rw [hrun0];simp
  | succ i=>
   have hlt:i < n:=by have:=(Array.getElem?_eq_some_iff.1 hi).1;omega
   obtain ⟨g',hg',hs⟩:=hq i hlt
   rw [hi] at hg';cases hg'
   rcases hs.status with h | h <;> rw [h] <;> simp
 obtain ⟨i,g,d,sl',hgi,hrun,hstep⟩:=crowd_pick (P:=c.P) (w:=w) (sl:=sl) awk ⟨0,a,ha,hrun0⟩
 rw [hstep]
 have hR:(Kt c B).R ⟨own,w⟩ (w.at d):=⟨rfl,rfl,rfl,Nat.le_refl _,fun _ _=>rfl,rfl⟩
 have hg1:=hg.rely (Kt.ok c B) hR
 have acc1:=acc_tree (P:=c.P) (Kt.ok c B) (kt_det B) hg1
 have le1:Mt.le (.tree ⟨true,Kt c B,Kt.ok c B,AtRet c Post B,a,⟨own,w.at d⟩⟩) (.tree ⟨true,Kt c B,Kt.ok c B,AtRet c Post B,a,⟨own,w⟩⟩):=⟨rfl,rfl,rfl,rfl,rfl,hR⟩
 cases i with
 | zero=>
  rw [ha] at hgi;cases hgi
  have ok0:∀ {es:Array Event} {own':Nat->Prop},(∀ b,own' b->B<=b)->(∀ e∈es,EvO own' (fun b=>b < B/\b≠c.Wg) e)->(∀ op∈MemOp.ofEvents 0 a.frame.fn a.frame.place es,Ok0 (ShN c.Wg) (fun _ _=>False) (fun _ _=>False) n op)/\(∀ op∈MemOp.ofEvents 0 a.frame.fn a.frame.place es,op.act≠.mark (.release (stA c.Wg))):=by
   intro es own' ho hev
   have hops:∀ op∈MemOp.ofEvents 0 a.frame.fn a.frame.place es,∃ e∈es,op.g = 0/\op.act = .ofEvent e:=by
    intro op hop
    rw [ofEvents_eq] at hop
    obtain ⟨e,he,rfl⟩:=Array.mem_map.1 hop
    exact ⟨e,he,rfl,rfl⟩
   refine ⟨fun op hop=>?_,fun op hop hm=>?_⟩
   ·obtain ⟨e,he,h1,h2⟩:=hops op hop
    refine ⟨h1,fun x hx=>.inr ⟨?_,fun _ _ _ z=>z,fun _ _ _ _ z=>z⟩⟩
    rw [h2] at hx
    rcases hev e he with ⟨ad,h3,h4,h5⟩ | rfl
    ·obtain ⟨loc,wrt,syn⟩:=e
     simp only at h3 h4 h5
     subst h3;subst h4
     rw [ofEvent_cell] at hx
     simp only [MemAct.touch?,Option.some.injEq] at hx
     subst hx
     rintro ⟨ad',e',hb⟩
     cases e'
     rcases h5 with h5 | h5
     ·have:=ho _ h5;omega
     ·exact h5.1.2 hb
    ·simp [MemAct.ofEvent,MemAct.touch?] at hx
   ·obtain ⟨e,he,h1,h2⟩:=hops op hop
    have:=Go.ConcR.loc_of_ofEvent (h2 ▸ hm)
    rcases hev e he with ⟨ad,h3,_⟩ | rfl
    ·rw [h3] at this;cases this
    ·cases this
  rcases GoesO.here (kt_refl B) hg1 with ⟨hstop,_⟩ | ⟨hns,a',σ',es,hst,hD,hg'⟩
  ·-- the return
   obtain ⟨_,v,es,hend,hev,hpost⟩:=hstop
   simp only at hend hev hpost
   obtain ⟨o1,o2⟩:=ok0 hown hev
   have hct':=hct.app0 apart0 o1
   have wkq:∀ i g,gs[i]? = some g->i≠0->∃ i',i = i' + 1/\i' < n/\QuitsD c.P (q i') (Deaf t (i' + 1)) g:=by
    intro i g hg hi0
    obtain ⟨i',rfl⟩:∃ i',i = i' + 1:=⟨i - 1,by omega⟩
    have hlt:i' < n:=by have:=(Array.getElem?_eq_some_iff.1 hg).1;omega
    obtain ⟨g',hg',hs'⟩:=hq i' hlt
    rw [hg] at hg'
    cases hg'
    exact ⟨i',rfl,hlt,hs'⟩
   refine .inl ⟨_,_,_,runT_crowd_ended ha (by simpa using hend),v,rfl,hpost,hct'.nr,?_,⟨fun g hg=>?_,rfl⟩,fun i g hg hi0=>?_⟩
   ·obtain ⟨q,h1,h2,h3,h4⟩:=hacq.app (u:=MemOp.ofEvents 0 a.frame.fn a.frame.place es) fun i r _ hr=>hr.appOther g_of_ofEvents (by omega)
    refine handedOver_all (fun i g hgi hne=>?_) (hnr.app o2) h1 h2 h3
    obtain ⟨op,ho,rfl⟩:=Option.map_eq_some_iff.1 hgi
    have:=hct'.gs i op ho
    have:=h4 (op.g - 1) (by omega)
    rwa [show op.g - 1 + 1 = op.g by omega] at this
   ·obtain ⟨i,hi⟩:=List.mem_iff_getElem?.1 hg
    rw [List.getElem?_drop] at hi
    obtain ⟨i',_,_,hqq⟩:=wkq (1 + i) g (by simpa [crowd] using hi) (by omega)
    exact ⟨_,hqq.leaves⟩
   ·obtain ⟨i',rfl,hlt,hqq⟩:=wkq i g hg hi0
    refine ⟨q i',?_⟩
    have:(t ++ MemOp.ofEvents 0 a.frame.fn a.frame.place es).deaf (i' + 1) (t ++ MemOp.ofEvents 0 a.frame.fn a.frame.place es).size = Deaf t (i' + 1):=
     Deaf_other t (g:=i' + 1) (g':=0) (by omega) _ (g_of_ofEvents (fn:=a.frame.fn) (pos:=a.frame.place) (es:=es))
    rw [this]
    exact hqq.hears _
  ·obtain ⟨d1,d2,d3,d4,d5,d6,d7⟩:=hD
   have hD:(Kt c B).D ⟨own,w.at d⟩ es σ':=⟨d1,d2,d3,d4,d5,d6,d7⟩
   simp only at d4 d6 d7 hst
   have hown':∀ b,σ'.own b->B<=b:=fun b hb=>by
    rcases (d6 b).1 hb with z | z
    ·exact hown b z
    ·exact Nat.le_trans hB z.1
   obtain ⟨o1,o2⟩:=ok0 hown' (d7 trivial)
   obtain ⟨so,sw⟩:=σ'
   refine .inr ⟨_,_,_,runT_crowd_go (P:=c.P) (i:=0) ha (by simpa using hst),?_,_,sw,sl',B,q,a',so,acc_tree (Kt.ok c B) (kt_det B) hg',rfl,get_map_set_same _ _ _ (by omega),by simpa using hsz,fun i hi=>?_,hg',hct.app0 apart0 o1,hacq.app (u:=MemOp.ofEvents 0 a.frame.fn a.frame.place es) fun i r _ hr=>hr.appOther g_of_ofEvents (by omega),hnr.app o2,hWB,Nat.le_trans hB d4,hown',rfl⟩
   ·exact .inr (.inr ⟨rfl,rfl,fun _ _=>rfl,Mt.abs _ _ _ (child_lt (Kt.ok c B) (kt_refl B) hns hst hD) le1⟩)
   ·obtain ⟨g',hg',hs⟩:=hq i hi
    exact ⟨g',by rw [get_map_set _ _ _ _ (by omega),hg',Option.map_some,woken_quitsD hs],by rw [Deaf_other t (by omega) _ g_of_ofEvents];exact hs⟩
 | succ i=>
  have hlt:i < n:=by have:=(Array.getElem?_eq_some_iff.1 hgi).1;omega
  obtain ⟨g',hg',hs⟩:=hq i hlt
  rw [hgi] at hg';cases hg'
  generalize hqi:q i = qi at hs
  cases qi with
  | zero=>rw [hs.1] at hrun;cases hrun
  | succ qi=>
   rcases hs with ⟨hf,_⟩ | ⟨_,g',es,hmute,hst,hq'⟩
   ·rw [hf] at hrun;cases hrun
   ·have hbk:∀ e∈es,Bk c.Wg e:=fun e he=>bk_of_mute (hmute e he)
    have hops:∀ op∈MemOp.ofEvents (i + 1) g.frame.fn g.frame.place es,∃ e∈es,op.g = i + 1/\op.act = .ofEvent e:=by
     intro op hop
     rw [ofEvents_eq] at hop
     obtain ⟨e,he,rfl⟩:=Array.mem_map.1 hop
     exact ⟨e,he,rfl,rfl⟩
    have hno:∀ jx e,es[jx]? = some e->(MemAct.ofEvent e).touch? = none\/0 < deafBehind (Deaf t (i + 1)) (es.extract 0 jx):=fun jx e he=>.inl (by
     rcases bk_of_mute (Wg:=c.Wg) (hmute e (Array.mem_of_getElem? he)) with h1 | h1 | ⟨a,wr,rfl,_⟩
     ·rw [ofEvent_loc_mark h1];rfl
     ·rw [ofEvent_loc_mark h1];rfl
     ·have:=hmute _ (Array.mem_of_getElem? he);simp [Event.mute] at this)
    have hwk:woken c.P g g' (w.at d) a = a:=by
     unfold Go.Conc.woken
     split
     ·exact again_running _ (.inl hrun0)
     ·rfl
    refine .inr ⟨_,_,_,runT_crowd_go (P:=c.P) (i:=i + 1) hgi (by simpa using hst (w.at d)),?_,_,w.at d,sl',B,upd q i qi,a,own,acc1,rfl,by rw [get_map_set _ _ _ _ (by omega),ha,Option.map_some,hwk],by simpa using hsz,fun i' hi'=>?_,hg1,
     hct.appW apart0 (k:=i + 1) (by omega) (by omega) (fun op hop=>?_),hacq.app (u:=MemOp.ofEvents (i + 1) g.frame.fn g.frame.place es) fun i' r _ hr=>?_,hnr.app (fun op hop hm=>?_),hWB,hB,hown,rfl⟩
    ·refine .inr (.inl ⟨rfl,rfl,i,hlt,?_,fun i' _ e=>?_⟩)
     ·show (upd q i qi i) < q i
      rw [upd_same,hqi];omega
     ·show (upd q i qi i') = q i'
      rw [upd_ne _ _ e]
    ·by_cases e:i' = i
     ·subst e
      exact ⟨g',get_map_set_same _ _ _ (by omega),by rw [Deaf_own,upd_same];exact hq'⟩
     ·obtain ⟨x,hx,hsx⟩:=hq i' hi'
      exact ⟨x,by rw [get_map_set _ _ _ _ (by omega),hx,Option.map_some,woken_quitsD hsx],by rw [Deaf_other t (by omega) _ g_of_ofEvents,upd_ne _ _ e];exact hsx⟩
    ·obtain ⟨e,he,h1,h2⟩:=hops op hop
     exact ⟨h1,fun x hx=>.inl ((ev_of_bk (hbk e he)).1 x (by rw [<- h2];exact hx))⟩
    ·by_cases e':i' = i
     ·subst e';exact hr.book rfl _ _ hbk hno
     ·exact hr.appOther g_of_ofEvents (by omega)
    ·obtain ⟨e,he,h1,h2⟩:=hops op hop
     exact (ev_of_bk (hbk e he)).2 (Go.ConcR.loc_of_ofEvent (h2 ▸ hm))
theorem Com.at (G:Geo c.Wg c.Ch c.Out c.Lz c.RO) (hRes:∀ k v1 v2 fin w w',c.Res k v1 v2 fin w->(∀ b,fin b->w'.heap[b]? = w.heap[b]?)->c.Res k v1 v2 fin w') (h:Com c Anch j r gs w t D hist got d0) (d:Nat):
 ∃ D':Nat->Wk c.P,(∀ i',(D' i').stage = (D i').stage/\(D' i').job = (D i').job/\(D' i').deaf = (D i').deaf/\(D' i').own = (D i').own/\(i' < j->aLe (D' i').mt (D i').mt))/\Com c Anch j r gs (w.at d) t D' hist got d0:=by
 have hR:∀ i',i' < j->(Kw c).R ⟨(D i').own,w⟩ (w.at d):=fun _ _=>⟨rfl,rfl,rfl,Nat.le_refl _,fun _ _=>rfl,⟨id,id,id⟩⟩
 have:=h.step0 G (gs':=gs) (w':=w.at d) (u:=#[]) (d':=d0) rfl (fun _ _=>rfl) hR rfl (fun _ _=>rfl) hRes (by simp) (by simp) (by simpa using h.deaf0)
 simpa using this
theorem exists_counted' {D:Nat->WD}:∀ {j:Nat},1<=Vc j D->∃ i,i < j/\5<=(D i).stage:=exists_counted
theorem someone (ha:gs[0]? = some a) (hcs:CSt c n Anch AnW Post tag ex j d0 mt0 a w) (h:Com c Anch j r gs w t D hist got d0) {st sm:Int} (hm:ConcN.Mode j (fun i=>wd (D i)) tag st sm):∃ (i:Nat) (g:Goroutine),gs[i]? = some g/\g.status = .running:=by
 rcases hcs.status with ⟨hs,_⟩ | ⟨_,_,rfl⟩
 ·exact ⟨0,a,ha,hs⟩
 ·cases hm with
  | opn h1 _ _=>exact h1.elim
  | reg _ _ h3=>
   obtain ⟨i,hi,h5⟩:=exists_counted' h3
   obtain ⟨g,hg,hs⟩:=h.wk i hi
   exact ⟨i + 1,g,hg,hs.running_of (by simp only [wd] at h5;omega)⟩
  | last L _ h2 h3 _=>
   obtain ⟨g,hg,hs⟩:=h.wk L h2
   exact ⟨L + 1,g,hg,hs.running_of (by simp only [wd] at h3;omega)⟩
  | fin h1 _=>exact h1.elim
theorem allAwake (ha:gs[0]? = some a) (hcs:CSt c n Anch AnW Post tag ex j d0 mt0 a w) (h:Com c Anch j r gs w t D hist got d0):∀ g∈gs,awake g:=by
 intro g hg tm
 obtain ⟨i,hi⟩:=Array.mem_iff_getElem?.1 hg
 cases i with
 | zero=>
  rw [ha] at hi;cases hi
  rcases hcs.status with ⟨hs,_⟩ | ⟨hs,_⟩ <;> rw [hs] <;> simp
 | succ i=>
  have hlt:i < j:=by have:=(Array.getElem?_eq_some_iff.1 hi).1;rw [h.size] at this;omega
  obtain ⟨g',hg',hs⟩:=h.wk i hlt
  rw [hi] at hg';cases hg'
  rcases hs.status with h | h <;> rw [h] <;> simp
theorem step1 (G:Geo c.Wg c.Ch c.Out c.Lz c.RO) (hRes:∀ k v1 v2 fin w w',c.Res k v1 v2 fin w->(∀ b,fin b->w'.heap[b]? = w.heap[b]?)->c.Res k v1 v2 fin w') (hAn:∀ g σ,Anch g σ->GoesO c.P false (Kw c) (AtRecv c Anch) g σ)
 (hAnW:∀ g w,AnW g w->GP c (AtW10 c AnW Post) g w) (hn:n < 2147483648) (hn1:1<=n) {μ:Mu c.P} {m:Machine} {t:Trace} (h:Inv1 c n Anch AnW Post μ m t):
 ∃ m' ops μ',stepT c.P m = (.next m',ops)/\MuLt μ' μ/\(Inv1 c n Anch AnW Post μ' m' (t ++ ops)\/Inv2 c n Post μ' m' (t ++ ops)):=by
 obtain ⟨gs,w,sl,j,r,D,hist,got,tag,ex,d0,mt0,a,st,sm,rfl,ha,hcs,hcom,hwg,hm,rfl⟩:=h
 obtain ⟨i,g,d,sl',hg,hrun,hstep⟩:=crowd_pick (P:=c.P) (w:=w) (sl:=sl) (allAwake ha hcs hcom) (someone ha hcs hcom hm)
 rw [hstep]
 obtain ⟨D',hD,hcom'⟩:=hcom.at G hRes d
 obtain ⟨mt',hle,hcs'⟩:=hcs.rely (w':=w.at d) ⟨rfl,rfl,rfl,Nat.le_refl _,fun _ _=>rfl,⟨id,id,id⟩⟩
 have hwg':WgAt c.ty c.Wg (w.at d) st sm:=hwg
 have ew:(fun i=>wd (D' i)) = fun i=>wd (D i):=by funext i;simp only [wd,(hD i).1,(hD i).2.2.1]
 have es':(fun i=>(D' i).stage) = fun i=>(D i).stage:=by funext i;exact (hD i).1
 have hm':ConcN.Mode j (fun i=>wd (D' i)) tag st sm:=by rw [ew];exact hm
 have er:rank c n j tag ex r D' = rank c n j tag ex r D:=by simp only [rank,ew,es']
 have turn:∀ {y:Mu c.P},MuLt y (rank c n j tag ex r D',j,(fun i=>(D' i).mt),mt')->MuLt y (rank c n j tag ex r D,j,(fun i=>(D i).mt),mt0):=by
  intro y hy
  rw [er] at hy
  exact hy.turn (fun i hi=>(hD i).2.2.2.2 hi) hle
 cases i with
 | zero=>
  rw [ha] at hg;cases hg
  rcases stepStarter (sl:=sl') G hRes hAnW hn hn1 ha hcs' hcom' hwg' hm' hrun with ⟨m₁,ops,μ',h1,h2,h3⟩ | ⟨hr0,a',hgo,hk,hsz,hq,hct,hacq,hnr⟩
  ·exact ⟨m₁,ops,μ',h1,turn h2,.inl h3⟩
  ·have hrun':=runT_crowd_go (P:=c.P) (sl:=sl') (i:=0) ha (by simpa using hgo)
   have hq':∀ i,∃ q,i < n->∃ g,gs[i + 1]? = some g/\QuitsD c.P q (Deaf t (i + 1)) g:=by
    intro i
    by_cases hi:i < n
    ·obtain ⟨g,q,h1,h2⟩:=hq i hi
     exact ⟨q,fun _=>⟨g,h1,h2⟩⟩
    ·exact ⟨0,fun h=>absurd h hi⟩
   obtain ⟨q,hq⟩:=Classical.axiomOfChoice hq'
   refine ⟨_,_,_,hrun',turn (.inl hr0),.inr ⟨_,w.at d,sl',(w.at d).heap.size,q,a',noOwn,acc_tree (Kt.ok c _) (kt_det _) hk,rfl,get_map_set_same _ _ _ (by omega),by simpa using hsz,fun i hi=>?_,hk,hct,hacq,hnr,?_,Nat.le_refl _,fun b hb=>hb.elim,rfl⟩⟩
   ·obtain ⟨g',hg',hs⟩:=hq i hi
    exact ⟨g',by rw [get_map_set _ _ _ _ (by omega),hg',Option.map_some,woken_quitsD hs],by rw [Deaf_other t (by omega) _ g_of_ofEvents];exact hs⟩
   ·have:=hcom'.lz;have:=G.wg;omega
 | succ i=>
  have hi:i < j:=by have:=(Array.getElem?_eq_some_iff.1 hg).1;rw [hcom.size] at this;omega
  obtain ⟨m₁,ops,μ',h1,h2,h3⟩:=stepWorker (sl:=sl') G hRes hAn hn ha hcs' hcom' hwg' hm' hi hg hrun
  exact ⟨m₁,ops,μ',h1,turn h2,.inl h3⟩
theorem crowd_ends (G:Geo c.Wg c.Ch c.Out c.Lz c.RO) (hRes:∀ k v1 v2 fin w w',c.Res k v1 v2 fin w->(∀ b,fin b->w'.heap[b]? = w.heap[b]?)->c.Res k v1 v2 fin w') (hAn:∀ g σ,Anch g σ->GoesO c.P false (Kw c) (AtRecv c Anch) g σ)
 (hAnW:∀ g w,AnW g w->GP c (AtW10 c AnW Post) g w) (hn:n < 2147483648) (hn1:1<=n) {a:Goroutine} {w:World} {t:Trace} (hg:GP c (AtSp c Anch AnW n) a w) (hwg:WgAt c.ty c.Wg w 0 0) (hch:ChAt c 0 w) (hout:OutAt c w) (hlz:c.Lz<=w.heap.size)
 (h0:∀ op∈t,op.g = 0) (hsh:∀ op∈t,∀ x,op.act.touch? = some x->¬ ShN c.Wg x.loc/\∀ ad,x.loc = .cell ad->ad.block < w.heap.size) (hmk:∀ op∈t,op.act≠.mark .disable/\op.act≠.mark .enable/\op.act≠.mark (.release (stA c.Wg))):
 ∃ N last o w' t',runNT c.P (N + 1) (solo a w) t = (.ended o w',t')/\runN c.P N (solo a w) = .next last/\step c.P last = .ended o w'/\Conc.Good c.P Post last o w' t':=by
 have hcom:Com c Anch 0 0 #[a] w t (fun _=>⟨0,none,0,noOwn,⟨.num 0,acc_num 0⟩⟩) (fun _ _=>False) (fun _ _=>False) 0:=by
  refine ⟨rfl,fun i hi=>by omega,⟨fun _ _ hi=>by omega,fun _ _ _ h=>h.elim,fun _ _ h=>h.elim,fun _ _ _ h=>h.elim,fun _ _ _ h=>h,fun _ _ _ h=>h⟩,⟨CT.lone h0 fun op hop x hx=>(hsh op hop x hx).1,fun i x hx ad e=>?_,fun k k1 k0=>by omega,fun i op x hi hg=>absurd (h0 op (Array.mem_of_getElem? hi)) hg,fun i hi=>?_⟩,?_,fun i hi=>by omega,fun i hi=>by omega,hlz,hch,hout,fun i hi=>by omega,fun i hi=>by omega,fun k hk=>by omega,fun i hi=>by omega⟩
  ·obtain ⟨op,ho,hot⟩:=touch_of hx
   exact (hsh op (Array.mem_of_getElem? ho) x hot).2 ad e
  ·obtain ⟨op,ho,hoa⟩:=Option.map_eq_some_iff.1 hi
   exact (hmk op (Array.mem_of_getElem? ho)).2.2 hoa
  ·have:=Deaf_still #[] 0 t fun op hop=>⟨(hmk op hop).1,(hmk op hop).2.1⟩
   simpa [Deaf,Trace.deaf] using this
 have hInv:∃ μ,Inv1 c n Anch AnW Post μ (solo a w) t:=by
  obtain ⟨n',rfl⟩:∃ n',n = n' + 1:=⟨n - 1,by omega⟩
  have hs:IsStop c (n' + 1) Anch AnW Post (.sp n' 5) 0 0 0 (AtDis c Anch (AtSp c Anch AnW n')):=by
   have:=IsStop.dis (c:=c) (n:=n' + 1) (Anch:=Anch) (AnW:=AnW) (Post:=Post) (r:=n') (by omega)
   rwa [Nat.sub_self] at this
  obtain ⟨mt,hcs⟩:=CSt.mk hs hg
  refine ⟨_,#[a],w,none,0,0,_,_,_,.sp n' 5,0,0,mt,a,0,0,rfl,rfl,hcs,hcom,hwg,?_,rfl⟩
  have:=ConcN.Mode.opn (j:=0) (D:=fun i=>wd (⟨0,none,0,noOwn,⟨.num 0,acc_num 0⟩⟩:Wk c.P)) (tag:=.sp n' 5) trivial (fun i hi=>by omega) (by simp)
  simpa [Vc,sumTo,pend] using this
 obtain ⟨μ,hI⟩:=hInv
 refine run_of_inv (r:=MuLt) muLt_wf (fun μ m t=>Inv1 c n Anch AnW Post μ m t\/Inv2 c n Post μ m t) (Conc.Good c.P Post) (fun μ m t h=>?_) μ _ t (.inl hI)
 rcases h with h | h
 ·obtain ⟨m',ops,μ',h1,h2,h3⟩:=step1 G hRes hAn hAnW hn hn1 h
  exact .inr ⟨m',ops,μ',h1,h2,h3⟩
 ·rcases step2 h with ⟨o,w,ops,h1,h2⟩ | ⟨m',ops,μ',h1,h2,h3⟩
  ·exact .inl ⟨o,w,ops,h1,h2⟩
  ·exact .inr ⟨m',ops,μ',h1,h2,.inr h3⟩
end
open Go.Conc Go.Am
section
variable {P:Program} {main:Bool} {K:Pact} {ops:Array Oper} {a:Act} {σ:GW} {b:Frame} {k:List Item} {cs:List Frame} {Stop:Goroutine->GW->Prop}
theorem opG_cons (T:K.Ok) (hk:b.kind≠.early) {i:Nat} {rest:List Nat} (h:opO P main K b.fn ops i (fun a' σ'=>GoesO P main K Stop (G (b.at a' (.inRegion ops rest :: k)) cs) σ') a σ):
 GoesO P main K Stop (G (b.at a (.inRegion ops (i :: rest) :: k)) cs) σ:=by
 unfold opO at h
 split at h
 ·exact h.elim
 ·rename_i o ho
  have hfin:∀ v,(b.at a (.inRegion ops (i :: rest) :: k)).finish v = b.at (a.put o.dst v) (.inRegion ops rest :: k):=fun v=>by rw [Frame.finish_at,ho];rfl
  split at h
  ·rename_i hw
   refine .go rfl fun w₁ hr=>?_
   have h:=h w₁ hr
   generalize hx:(execOp a.eval o).run P w₁ = r at h
   match r,h with
   | .ok (.value v) w',⟨own',h1,h2⟩=>exact ⟨_,⟨own',w'⟩,_,stepG_value ho hw hk hx,h1,h2⟩
   | .ok .skip w',⟨own',h1,h2⟩=>exact ⟨_,⟨own',w'⟩,_,stepG_none ho hw hk hx,h1,h2⟩
   | .ok (.enter f args) w',⟨own',h1,h2⟩=>
    exact ⟨_,⟨own',w'⟩,_,stepG_enter ho hw hk hx,h1,h2.enter T fun v σ' h3=>by rw [hfin];exact h3⟩
  ·rename_i hw
   exact .ctl T rfl (fun _=>stepG_unwanted ho (by simpa using hw)) h
theorem any_last (T:K.Ok) (hk:b.kind≠.early) {last:Nat} (Inv:Nat->Array Bool->Act->GW->Prop) (h0:∀ l a σ,¬ Inv 0 l a σ)
 (hne:∀ n l a σ,Inv n l a σ->Region.ready .any ops l≠[])
 (hop:∀ n l a σ i,Inv (n + 1) l a σ->i∈Region.ready .any ops l->(i = last/\Region.ready .any ops (l.setIfInBounds i true) = []/\GoesO P main K Stop (G (b.at a (.inRegion ops [last] :: k)) cs) σ)\/opO P main K b.fn ops i (Inv n (l.setIfInBounds i true)) a σ):
 ∀ (n t:Nat) (l:Array Bool) (a:Act) (σ:GW),Inv n l a σ->GoesO P main K Stop (G (b.at a (.inRegion ops (Region.linearise.go .any ops n t l []) :: k)) cs) σ:=by
 intro n
 induction n with
 | zero=>intro t l a σ h;exact (h0 _ _ _ h).elim
 | succ n ih=>
  intro t l a σ h
  have hn:=hne _ _ _ _ h
  simp only [Region.linearise.go]
  change GoesO P main K Stop (G (b.at a (.inRegion ops (match (Region.ready .any ops l)[t % (Region.ready .any ops l).length]? with
   | some i=>Region.linearise.go .any ops n (t / (Region.ready .any ops l).length) (l.setIfInBounds i true) [i]
   | none=>[].reverse) :: k)) cs) σ
  have hlt:t % (Region.ready .any ops l).length < (Region.ready .any ops l).length:=Nat.mod_lt _ (by
   cases e:Region.ready .any ops l with
   | nil=>exact absurd e hn
   | cons x xs=>simp)
  rw [List.getElem?_eq_getElem hlt]
  simp only []
  rw [linearise_go_acc,List.reverse_singleton,List.singleton_append]
  have hm:=List.getElem_mem hlt
  generalize (Region.ready .any ops l)[t % (Region.ready .any ops l).length] = i at hm
  rcases hop n l a σ i h hm with ⟨rfl,h1,h2⟩ | h1
  ·have:∀ m t',Region.linearise.go .any ops m t' (l.setIfInBounds i true) [] = []:=by
    intro m t'
    cases m with
    | zero=>rfl
    | succ m=>
     simp only [Region.linearise.go]
     change (match (Region.ready .any ops (l.setIfInBounds i true))[t' % (Region.ready .any ops (l.setIfInBounds i true)).length]? with
      | some j=>Region.linearise.go .any ops m (t' / (Region.ready .any ops (l.setIfInBounds i true)).length) ((l.setIfInBounds i true).setIfInBounds j true) [j]
      | none=>[].reverse) = []
     rw [h1]
     rfl
   rw [this]
   exact h2
  ·exact opG_cons T hk (opO_mono (fun a' σ' x=>ih _ _ a' σ' x) h1)
end
open Go.Conc Go.ConcN Go.RowKit Go.Conc.Lib Go.ConcR.Gen Go.ConcN.Gen
open Go.ConcR (KK wgBlock WgAt stA smA rd wr mk Payload DC0)
variable [Payload] {L:WgLink}
abbrev noL:Nat->Loc->Prop:=fun _ _=>False
set_option maxRecDepth 100000 in
theorem doneP {P:Program} (H:WgLib P L) {Wg C n:Nat} {val:Value} {b₀:Frame} {a₀:Act} {ops₀:Array Oper} {i₀:Nat} {rest₀:List Nat} {k₀:List Item} {cs:List Frame} {qt:Nat}
 (hT:QuitsD P qt 0 (G (b₀.at (a₀.put ((ops₀[i₀]?).bind (·.dst)) (.tuple #[])) (.inRegion ops₀ rest₀ :: k₀)) cs)) (w:World) (hK:WgLive L.tWg Wg w/\Has C (1 - 1) val w):
 Goes P false (RW L.tWg Wg C n 0 (1 - 1)) (DWs Wg noL noL C n 1) (AtR0 P L.tWg Wg C n 0 1 val) 23 (G ((base L.done).at ⟨#[.pointer (some ⟨Wg,0,none⟩),undef,undef,undef],[]⟩ [.code (body_done L)]) (b₀.at a₀ (.inRegion ops₀ (i₀ :: rest₀) :: k₀) :: cs)) w:=by
 lib_facts
 have hA:=@addNegN _ L P H noL noL Wg C n 0 1 val
 simp only [body_done,body_add,doneFn,addFn,Option.getD_some] at hA ⊢
 u_reg kn_rely hK
 u_op kn_rely hK
 u_in kn_rely hK
 refine goes_call rfl rfl (by k_ne) rfl H.f_add (nm_add L) rfl ⟨by u_nil,?_⟩
 walk_nrmf addFn
 refine hA (qt:=qt + 3) ?_ _ hK
 q_c stepG_region_end
 q_c stepG_end
 q_leave0 H.f_done
 exact hT
theorem goes_both {P:Program} {main:Bool} {K:Pact} {R1 R2:World->World->Prop} {D1 D2:World->World->Array Event->Prop} {S1 S2:Goroutine->World->Prop} (hR1:∀ σ w₁,K.R σ w₁->R1 σ.w w₁) (hR2:∀ σ w₁,K.R σ w₁->R2 σ.w w₁)
 (hD:∀ own w w' es,D1 w w' es->D2 w w' es->K.D ⟨own,w⟩ es ⟨own,w'⟩):∀ {n m:Nat} {g:Goroutine} {own:Nat->Prop} {w:World},Goes P main R1 D1 S1 n g w->Goes P main R2 D2 S2 m g w->GoesO P main K (fun g σ=>σ.own = own/\(S1 g σ.w\/S2 g σ.w)) g ⟨own,w⟩
 | 0,m,g,own,w,h1,_=>.stop fun w₁ hr=>⟨rfl,.inl (h1 w₁ (hR1 _ _ hr))⟩
 | n + 1,0,g,own,w,_,h2=>.stop fun w₁ hr=>⟨rfl,.inr (h2 w₁ (hR2 _ _ hr))⟩
 | n + 1,m + 1,g,own,w,h1,h2=>by
  rcases h1 with h1 | ⟨hs,h1⟩
  ·exact .stop fun w₁ hr=>⟨rfl,.inl (h1 w₁ (hR1 _ _ hr))⟩
  ·rcases h2 with h2 | ⟨_,h2⟩
   ·exact .stop fun w₁ hr=>⟨rfl,.inr (h2 w₁ (hR2 _ _ hr))⟩
   ·refine .go hs fun w₁ hr=>?_
    obtain ⟨g',w',es,e,hd,hn⟩:=goes_elim (h1 w₁ (hR1 _ _ hr))
    obtain ⟨g2,w2,es2,e2,hd2,hn2⟩:=goes_elim (h2 w₁ (hR2 _ _ hr))
    rw [e] at e2
    cases e2
    exact ⟨g',⟨own,w'⟩,es,e,hD _ _ _ _ hd hd2,goes_both hR1 hR2 hD hn hn2⟩
theorem doneK {c:Cfg} (H:WgLib c.P L) (hty:c.ty = L.tWg) {C1 C2:Nat} (hne:C1≠C2) (hC1:c.RO C1) (hC2:c.RO C2) {v1 v2:Value} {b₀:Frame} {a₀:Act} {ops₀:Array Oper} {i₀:Nat} {rest₀:List Nat} {k₀:List Item} {cs:List Frame} {qt:Nat}
 (hT:QuitsD c.P qt 0 (G (b₀.at (a₀.put ((ops₀[i₀]?).bind (·.dst)) (.tuple #[])) (.inRegion ops₀ rest₀ :: k₀)) cs)) (w:World) (hK:WgLive c.ty c.Wg w) (h1:w.cell? ⟨C1,0,none⟩ = some v1) (h2:w.cell? ⟨C2,0,none⟩ = some v2):
 GoesO c.P false (K7 c) (AtR c) (G ((base L.done).at ⟨#[.pointer (some ⟨c.Wg,0,none⟩),undef,undef,undef],[]⟩ [.code (body_done L)]) (b₀.at a₀ (.inRegion ops₀ (i₀ :: rest₀) :: k₀) :: cs)) ⟨noOwn,w⟩:=by
 have d1:=doneP H (Wg:=c.Wg) (C:=C1) (n:=0) (val:=v1) hT w ⟨by rw [<- hty];exact hK,h1⟩
 have d2:=doneP H (Wg:=c.Wg) (C:=C2) (n:=0) (val:=v2) hT w ⟨by rw [<- hty];exact hK,h2⟩
 rw [<- hty] at d1 d2
 refine (goes_both (K:=K7 c) (fun σ w₁ hr=>rw_of hC1 hr) (fun σ w₁ hr=>rw_of hC2 hr) (fun own w w' es q1 q2=>?_) d1 d2).mono fun g σ q=>?_
 ·obtain ⟨a1,ev⟩:=q1
  obtain ⟨a2,_⟩:=q2
  refine ⟨rfl,?_,ev⟩
  have hh:w'.heap = w.heap:=by
   apply Array.ext_getElem?
   intro b
   by_cases e:b = C1
   ·exact a2.block b (by omega)
   ·exact a1.block b e
  obtain ⟨h,t,d,o,u⟩:=w
  obtain ⟨h',t',d',o',u'⟩:=w'
  have e1:=a1.tape;have e2:=a1.os;have e3:=a1.output
  simp only at hh e1 e2 e3 ⊢
  rw [hh,e1,e2,e3]
 ·rcases q.2 with q | q
  ·exact ⟨C1,0,v1,hC1,q⟩
  ·exact ⟨C2,0,v2,hC2,q⟩
open Go.Conc.Lib Go.Proofs
abbrev lnk:WgLink:={ add:=8,done:=11,wait:=12,relMerge:=26,disable:=27,enable:=28,inBubble:=29,associate:=30,fatal:=31,uOr:=32,uAdd:=33,raceRead:=34,uLoad:=35,uStore:=36,disassociate:=37,semrelease:=38,acquire:=41,isAssociated:=42,uCas:=43,raceWrite:=44,semacquire:=45,orU64:=51,addU64:=52,loadU64:=53,storeU64:=54,casU64:=65,tWgP:=76,tUP:=78,tAssoc:=80,tWg:=55,tAU:=52,tU64:=50,tUint:=84,tU32:=53,tPU32:=85,tPAU:=102,tPU64:=104,tNoCopy:=47,tANoCopy:=48,tAlign64:=49 }
theorem wgLib:WgLib Tryd.prog lnk:=
 ⟨Tryd.func8,Tryd.func11,Tryd.func12,Tryd.func26,Tryd.func27,Tryd.func28,Tryd.func29,Tryd.func30,Tryd.func31,Tryd.func32,Tryd.func33,Tryd.func34,Tryd.func35,Tryd.func36,Tryd.func37,Tryd.func38,Tryd.func41,Tryd.func42,Tryd.func43,Tryd.func44,Tryd.func45,Tryd.func51,Tryd.func52,Tryd.func53,Tryd.func54,Tryd.func65,Tryd.underlying76,Tryd.runUnderlying76,Tryd.sizeOf76,Tryd.isAgg76,Tryd.zeroValue76,Tryd.underlying78,Tryd.runUnderlying78,Tryd.sizeOf78,Tryd.isAgg78,Tryd.zeroValue78,Tryd.underlying80,Tryd.runUnderlying80,Tryd.sizeOf80,Tryd.isAgg80,Tryd.zeroValue80,Tryd.underlying55,Tryd.runUnderlying55,Tryd.sizeOf55,Tryd.isAgg55,Tryd.zeroValue55,Tryd.underlying52,Tryd.runUnderlying52,Tryd.sizeOf52,Tryd.isAgg52,Tryd.zeroValue52,Tryd.underlying50,Tryd.runUnderlying50,Tryd.sizeOf50,Tryd.isAgg50,Tryd.zeroValue50,Tryd.underlying84,Tryd.runUnderlying84,Tryd.sizeOf84,Tryd.isAgg84,Tryd.zeroValue84,Tryd.underlying53,Tryd.runUnderlying53,Tryd.sizeOf53,Tryd.isAgg53,Tryd.zeroValue53,Tryd.underlying85,Tryd.runUnderlying85,Tryd.sizeOf85,Tryd.isAgg85,Tryd.zeroValue85,Tryd.underlying102,Tryd.runUnderlying102,Tryd.sizeOf102,Tryd.isAgg102,Tryd.zeroValue102,Tryd.underlying104,Tryd.runUnderlying104,Tryd.sizeOf104,Tryd.isAgg104,Tryd.zeroValue104,Tryd.underlying0,Tryd.runUnderlying0,Tryd.sizeOf0,Tryd.isAgg0,Tryd.zeroValue0,Tryd.underlying3,Tryd.runUnderlying3,Tryd.sizeOf3,Tryd.isAgg3,Tryd.zeroValue3,Tryd.underlying4,Tryd.runUnderlying4,Tryd.sizeOf4,Tryd.isAgg4,Tryd.zeroValue4,Tryd.underlying9,Tryd.runUnderlying9,Tryd.sizeOf9,Tryd.isAgg9,Tryd.zeroValue9,Tryd.underlying20,Tryd.runUnderlying20,Tryd.sizeOf20,Tryd.isAgg20,Tryd.zeroValue20,Tryd.underlying21,Tryd.runUnderlying21,Tryd.sizeOf21,Tryd.isAgg21,Tryd.zeroValue21,(by kernel_rfl),(by kernel_rfl)⟩
instance:Go.ConcR.Payload:=⟨3⟩
open Go.Conc Go.ConcN Go.RowKit Go.Conc.Lib Go.ConcR.Gen Go.ConcN.Gen Go.Proofs
open Go.ConcR (KK wgBlock WgAt stA smA rd wr mk Payload DC0)
@[reducible] noncomputable def cfg (Wg Ch Out Lz N:Nat) (RO:Nat->Prop) (Res:Nat->Value->Value->(Nat->Prop)->World->Prop):Cfg:=⟨Tryd.prog,lnk.tWg,Wg,Ch,Out,Lz,N,RO,.int .i64 0,42,Res⟩
noncomputable def loop9:Code:=match Tryd.f9.body with | some (.seq (.seq _ (.block _ (.loop c))) _)=>c | _=>.skip
noncomputable def ops9a:Array Oper:=match Tryd.f9.body with | some (.seq (.seq (.region _ o _) _) _)=>o | _=>#[]
noncomputable def ops9e:Array Oper:=match Tryd.f9.body with | some (.seq _ (.region _ o _))=>o | _=>#[]
noncomputable def ops9b:Array Oper:=match loop9 with | .seq (.region _ o _) _=>o | _=>#[]
noncomputable def ops9c:Array Oper:=match loop9 with | .seq _ (.seq _ (.block _ (.seq (.region _ o _) _)))=>o | _=>#[]
noncomputable def ops9d:Array Oper:=match loop9 with | .seq _ (.seq _ (.block _ (.seq _ (.region _ o _))))=>o | _=>#[]
theorem loop9_eq:loop9 = .seq (.region 1 ops9b false) (.seq (.cond (.tmp 7) .skip (.exit 0)) (.block 1 (.seq (.region 2 ops9c false) (.region 3 ops9d true)))):=rfl
theorem body9_eq:Tryd.f9.body = some (.seq (.seq (.region 0 ops9a false) (.block 0 (.loop loop9))) (.region 4 ops9e false)):=rfl
theorem wanted_none {o:Oper} {y:Nat->Option Bool} (h:o.guard = none):Region.wanted o y = true:=by simp [Region.wanted,h]
theorem put_eval {a:Act} {d:Nat} {v:Value} (hd:d < a.tmps.size) (j:Nat):(a.put (some d) v).eval (.tmp j) = if j = d then v else a.eval (.tmp j):=by
 show (a.tmps.setIfInBounds d v).getD j undef = _
 rw [Array.getD_eq_getD_getElem?,Array.getElem?_setIfInBounds]
 by_cases e:d = j
 ·subst e;simp [hd]
 ·rw [if_neg e,if_neg (fun q=>e q.symm)]
  show _ = a.tmps.getD j undef
  rw [Array.getD_eq_getD_getElem?]
theorem put_size {a:Act} {d:Option Nat} {v:Value}:(a.put d v).tmps.size = a.tmps.size:=by cases d <;> simp [Act.put]
theorem put_defers {a:Act} {d:Option Nat} {v:Value}:(a.put d v).defers = a.defers:=by cases d <;> rfl
theorem add_none (b o k:Nat):(⟨b,o,none⟩:Addr).add k = ⟨b,o + k,none⟩:=by unfold Addr.add;split <;> simp_all
section
variable {a:Act} {o:Oper} {w:World} {x y:Operand} {ad:Addr} {v:Value}
theorem run_load45 (hop:o.op = .load 45 x) (hx:a.eval x = .pointer (some ad)) (hc:w.cell? ad = some v):(execOp a.eval o).run Tryd.prog w = .ok (.value v) w/\(execOp a.eval o).events Tryd.prog w #[] = #[⟨.cell ad,false,false⟩]:=by
 unfold execOp;simp only [hop,hx];simp [go_sem,hc]
theorem run_load23 (hop:o.op = .load 23 x) (hx:a.eval x = .pointer (some ad)) (hc:w.cell? ad = some v):(execOp a.eval o).run Tryd.prog w = .ok (.value v) w/\(execOp a.eval o).events Tryd.prog w #[] = #[⟨.cell ad,false,false⟩]:=by
 unfold execOp;simp only [hop,hx];simp [go_sem,hc]
theorem run_load22 (hop:o.op = .load 22 x) (hx:a.eval x = .pointer (some ad)) (hc:w.cell? ad = some v):(execOp a.eval o).run Tryd.prog w = .ok (.value v) w/\(execOp a.eval o).events Tryd.prog w #[] = #[⟨.cell ad,false,false⟩]:=by
 unfold execOp;simp only [hop,hx];simp [go_sem,hc]
theorem run_load27 (hop:o.op = .load 27 x) (hx:a.eval x = .pointer (some ad)) (hc:w.cell? ad = some v):(execOp a.eval o).run Tryd.prog w = .ok (.value v) w/\(execOp a.eval o).events Tryd.prog w #[] = #[⟨.cell ad,false,false⟩]:=by
 unfold execOp;simp only [hop,hx];simp [go_sem,hc]
theorem run_idx22 {b:Nat} {f n cap k:Nat} (hop:o.op = .indexAddr 22 x y) (hx:a.eval x = .slice (some ⟨b,f,none⟩) n cap) (hy:a.eval y = .int .i64 (k:Int)) (hk:k < n):
 (execOp a.eval o).run Tryd.prog w = .ok (.value (.pointer (some ⟨b,f + k,none⟩))) w/\(execOp a.eval o).events Tryd.prog w #[] = #[]:=by
 have h0:(0:Int)<=(k:Int):=by omega
 have h1:(k:Int) < (n:Int):=by omega
 unfold execOp;simp only [hop,hx,hy];simp [go_sem,h0,h1,hk,add_none]
theorem run_idx23 {b:Nat} {f n cap k:Nat} (hop:o.op = .indexAddr 23 x y) (hx:a.eval x = .slice (some ⟨b,f,none⟩) n cap) (hy:a.eval y = .int .i64 (k:Int)) (hk:k < n):
 (execOp a.eval o).run Tryd.prog w = .ok (.value (.pointer (some ⟨b,f + k * 2,none⟩))) w/\(execOp a.eval o).events Tryd.prog w #[] = #[]:=by
 have h0:(0:Int)<=(k:Int):=by omega
 have h1:(k:Int) < (n:Int):=by omega
 unfold execOp;simp only [hop,hx,hy];simp [go_sem,h0,h1,hk,add_none]
theorem ev_store {P:Program} {b:Option Addr} {n c:Nat} {u:Value} {es:Array Event} (hc:w.cell? ad = some u) (hz:w.frozen? ad = false):(store ad (.slice b n c)).events P w es = es.push ⟨.cell ad,true,false⟩:=by
 simp [Sem.events,store,Sem.runT,hc,hz,-Sem.runT_eq]
 rfl
theorem run_store42 {b f:Nat} {cs:Array Value} {T:TypeId} {b1 b2:Option Addr} {n1 c1 n2 c2:Nat} {v1 v2:Value} (e1:v1 = .slice b1 n1 c1) (e2:v2 = .slice b2 n2 c2) (hop:o.op = .store 42 x y) (hx:a.eval x = .pointer (some ⟨b,f,none⟩)) (hy:a.eval y = .agg #[v1,v2]) (hb:w.heap[b]? = some (.cells cs T)) (hf:f + 1 < cs.size):
 (execOp a.eval o).run Tryd.prog w = .ok .skip ((w.setCell ⟨b,f,none⟩ v1).setCell ⟨b,f + 1,none⟩ v2)/\(execOp a.eval o).events Tryd.prog w #[] = #[⟨.cell ⟨b,f,none⟩,true,false⟩,⟨.cell ⟨b,f + 1,none⟩,true,false⟩]:=by
 subst e1 e2
 have hc1:w.cell? ⟨b,f,none⟩ = some cs[f]:=by simp [World.cell?,hb]
 have hz1:w.frozen? ⟨b,f,none⟩ = false:=by simp [World.frozen?,hb]
 have hb2:(w.setCell ⟨b,f,none⟩ (.slice b1 n1 c1)).heap[b]? = some (.cells (cs.setIfInBounds f (.slice b1 n1 c1)) T):=by rw [setCell_eq_setRow w b f cs _ (0,0) _ hb,setRow_heap w b _ _ _ _ hb]
 have hc2:(w.setCell ⟨b,f,none⟩ (.slice b1 n1 c1)).cell? ⟨b,f + 1,none⟩ = some cs[f + 1]:=by simp [World.cell?,hb2,hf,Array.getElem_setIfInBounds_ne]
 have hz2:(w.setCell ⟨b,f,none⟩ (.slice b1 n1 c1)).frozen? ⟨b,f + 1,none⟩ = false:=by simp [World.frozen?,hb2]
 unfold execOp;simp only [hop,hx,hy]
 simp [go_sem,stored,storedEv,add_none,hc1,hz1,hc2,hz2,ev_store hc1 hz1,ev_store hc2 hz2]
end
open Go.Conc Go.ConcN Go.RowKit Go.Conc.Lib Go.ConcR.Gen Go.ConcN.Gen Go.Proofs
open Go.ConcR (KK wgBlock WgAt stA smA rd wr mk Payload DC0)
def bb:List Bool:=[false,true]
noncomputable def chkF (b0 b1 b2 b3 b4 b5 b6 b7:Bool):Bool:=
 let l:Array Bool:=#[b0,b1,b2,b3,b4,b5,b6,b7,false]
 let r:=Region.ready .any ops9d l
 !r.isEmpty && (r.all fun i=>match i with
  | 0=>!b0 | 1=>!b1 | 2=>!b2 | 3=>!b3 | 4=>!b4 && b2 && b3 | 5=>!b5 && b4 | 6=>!b6 && b5 | 7=>!b7 && b0 && b1 && b6
  | 8=>b0 && b1 && b2 && b3 && b4 && b5 && b6 && b7 | _=>false) && (Region.ready .any ops9d (l.setIfInBounds 8 true) == [] || !(b0 && b1 && b2 && b3 && b4 && b5 && b6 && b7))
theorem chk_all:(bb.all fun b0=>bb.all fun b1=>bb.all fun b2=>bb.all fun b3=>bb.all fun b4=>bb.all fun b5=>bb.all fun b6=>bb.all fun b7=>chkF b0 b1 b2 b3 b4 b5 b6 b7) = true:=by kernel_rfl
theorem bb_mem (b:Bool):b∈bb:=by cases b <;> simp [bb]
theorem chk (b0 b1 b2 b3 b4 b5 b6 b7:Bool):chkF b0 b1 b2 b3 b4 b5 b6 b7 = true:=by
 have h:=chk_all
 simp only [List.all_eq_true] at h
 exact h b0 (bb_mem _) b1 (bb_mem _) b2 (bb_mem _) b3 (bb_mem _) b4 (bb_mem _) b5 (bb_mem _) b6 (bb_mem _) b7 (bb_mem _)
theorem next9 {b0 b1 b2 b3 b4 b5 b6 b7:Bool}:Region.ready .any ops9d #[b0,b1,b2,b3,b4,b5,b6,b7,false]≠[]/\∀ i∈Region.ready .any ops9d #[b0,b1,b2,b3,b4,b5,b6,b7,false],
 (i = 0/\b0 = false)\/(i = 1/\b1 = false)\/(i = 2/\b2 = false)\/(i = 3/\b3 = false)\/(i = 4/\b4 = false/\b2 = true/\b3 = true)\/(i = 5/\b5 = false/\b4 = true)\/(i = 6/\b6 = false/\b5 = true) \/
 (i = 7/\b7 = false/\b0 = true/\b1 = true/\b6 = true) \/
 (i = 8/\(b0 = true/\b1 = true/\b2 = true/\b3 = true/\b4 = true/\b5 = true/\b6 = true/\b7 = true)/\Region.ready .any ops9d #[b0,b1,b2,b3,b4,b5,b6,b7,true] = []):=by
 have h:=chk b0 b1 b2 b3 b4 b5 b6 b7
 unfold chkF at h
 simp only [Bool.and_eq_true,List.all_eq_true] at h
 obtain ⟨⟨h1,h2⟩,h3⟩:=h
 refine ⟨fun e=>(by rw [e] at h1;cases h1),fun i hi=>?_⟩
 have h2:=h2 i hi
 have h3':(b0 = true/\b1 = true/\b2 = true/\b3 = true/\b4 = true/\b5 = true/\b6 = true/\b7 = true)->Region.ready .any ops9d #[b0,b1,b2,b3,b4,b5,b6,b7,true] = []:=by
  rintro ⟨rfl,rfl,rfl,rfl,rfl,rfl,rfl,rfl⟩
  simpa using h3
 split at h2 <;> (try simp only [Bool.and_eq_true,Bool.not_eq_true'] at h2) <;> (try simp only [Nat.reduceEqDiff,false_and,true_and,or_false,false_or]) <;> first
  | exact h2
  | (obtain ⟨⟨q1,q2⟩,q3⟩:=h2;exact ⟨q1,q2,q3⟩)
  | (obtain ⟨⟨⟨q1,q2⟩,q3⟩,q4⟩:=h2;exact ⟨q1,q2,q3,q4⟩)
  | (obtain ⟨⟨⟨⟨⟨⟨⟨q1,q2⟩,q3⟩,q4⟩,q5⟩,q6⟩,q7⟩,q8⟩:=h2;exact ⟨⟨q1,q2,q3,q4,q5,q6,q7,q8⟩,h3' ⟨q1,q2,q3,q4,q5,q6,q7,q8⟩⟩)
  | cases h2
theorem GoesO.inv {P:Program} {main:Bool} {K:Pact} {S1 Stop:Goroutine->GW->Prop} {I:GW->Prop} (refl:∀ σ,K.R σ σ.w) (hR:∀ σ w₁,I σ->K.R σ w₁->I ⟨σ.own,w₁⟩) (hD:∀ σ es σ',I σ->K.D σ es σ'->I σ')
 (hS:∀ g σ,S1 g σ->I σ->GoesO P main K Stop g σ) {g:Goroutine} {σ:GW} (h:GoesO P main K S1 g σ) (hI:I σ):GoesO P main K Stop g σ:=by
 induction h with
 | @stop g σ h=>exact hS g σ (h σ.w (refl σ)) hI
 | @step g σ nx ns ne hs h hn ih=>exact .step nx ns ne hs h fun w₁ hr=>ih w₁ hr (hD _ _ _ (hR _ _ hI hr) (h w₁ hr).2)
theorem CallsO.inv {P:Program} {main:Bool} {K:Pact} {I:GW->Prop} (T:K.Ok) (refl:∀ σ,K.R σ σ.w) (hR:∀ σ w₁,I σ->K.R σ w₁->I ⟨σ.own,w₁⟩) (hD:∀ σ es σ',I σ->K.D σ es σ'->I σ')
 {f:FuncId} {args:Array Value} {σ:GW} {Post:Value->GW->Prop} (h:CallsO P main K f args σ Post) (hI:I σ):CallsO P main K f args σ fun v σ'=>Post v σ'/\I σ':=by
 obtain ⟨fn,c,h1,h2,h3,h4⟩:=h
 refine ⟨fn,c,h1,h2,h3,fun b k cs Stop hb hk hc=>?_⟩
 have hB:∀ {a':Act} {σ':GW},bodyO P K f fn Post .ret a' σ'->I σ'->bodyO P K f fn (fun v σ'=>Post v σ'/\I σ') .ret a' σ':=fun q hI'=>⟨q.1,fun w₁ hr=>let ⟨v,k1,k2,k3⟩:=q.2 w₁ hr;⟨v,k1,k2,k3,hR _ _ hI' hr⟩⟩
 have hBr:∀ {a':Act} {σ':GW} {w₁:World},bodyO P K f fn Post .ret a' σ'->K.R σ' w₁->bodyO P K f fn Post .ret a' ⟨σ'.own,w₁⟩:=fun q hr=>⟨q.1,fun w₂ hr₂=>q.2 w₂ (T.trans _ _ _ hr hr₂)⟩
 have key:=h4 b k cs (fun g σ1=>(∃ a',g = G (b.at a' k) cs/\bodyO P K f fn Post .ret a' σ1)\/∃ a' todo,g = G { b.at a' todo with mode:=.returning } cs/\bodyO P K f fn Post .ret a' σ1) hb hk fun e a' σ' q=>by
  cases e with
  | normal=>exact .stop fun w₁ hr=>.inl ⟨a',rfl,hBr q hr⟩
  | ret=>exact fun todo=>.stop fun w₁ hr=>.inr ⟨a',todo,rfl,hBr q hr⟩
  | exit id=>exact q.elim
  | goto l=>exact q.elim
  | panic ch=>exact q.elim
  | outgrown=>exact q.elim
 refine key.inv refl hR hD ?_ hI
 rintro g σ1 (⟨a',rfl,q⟩ | ⟨a',todo,rfl,q⟩) hI1
 ·exact hc .normal a' σ1 (hB q hI1)
 ·exact hc .ret a' σ1 (hB q hI1) todo
variable [Payload]
structure WF (c:Cfg) (W0:World) (bj bo:Nat) (vj:Value) (El:Nat->Value) (w:World):Prop where
 jb:w.cell? ⟨bj,0,none⟩ = some vj
 ob:w.cell? ⟨bo,0,none⟩ = some (.slice (some ⟨c.Out,0,none⟩) c.N c.N)
 el:∀ k,k < c.N->∃ J o cap,vj = .slice (some ⟨J,o,none⟩) c.N cap/\J < W0.heap.size/\w.cell? ⟨J,o + k,none⟩ = some (El k)
 live:WgLive c.ty c.Wg w
 below:Below W0.heap.size W0 w
structure Wh (c:Cfg) (W0:World) (bj bo:Nat):Prop where
 low:∀ b,b < W0.heap.size->c.RO b
 rj:c.RO bj
 ro:c.RO bo
section
variable {c:Cfg} {W0:World} {bj bo:Nat} {vj:Value} {El:Nat->Value} {w w₁:World} {own:Nat->Prop}
theorem WF.rely (hW:Wh c W0 bj bo) (h:WF c W0 bj bo vj El w) (r:(Kw c).R ⟨own,w⟩ w₁):WF c W0 bj bo vj El w₁:=by
 obtain ⟨r1,r2,r3,r4,r5,r6⟩:=r
 refine ⟨(cell_of_block (r5 _ (.inr hW.rj)) 0).trans h.jb,(cell_of_block (r5 _ (.inr hW.ro)) 0).trans h.ob,fun k hk=>?_,r6.wg h.live,h.below.trans ⟨r2,r1,r3,r4,fun b hb=>r5 b (.inr (hW.low b hb))⟩⟩
 obtain ⟨J,o,cap,e,hJ,hc⟩:=h.el k hk
 exact ⟨J,o,cap,e,hJ,(cell_of_block (r5 _ (.inr (hW.low J hJ))) _).trans hc⟩
theorem WF.keep (h:WF c W0 bj bo vj El w) {M:Nat} (hb:bj < M/\bo < M/\c.Wg < M/\W0.heap.size<=M) (ht:w₁.tape = w.tape) (ho:w₁.os = w.os) (hp:w₁.output = w.output) (hs:w.heap.size<=w₁.heap.size) (hh:∀ b,b < M->w₁.heap[b]? = w.heap[b]?):WF c W0 bj bo vj El w₁:=by
 refine ⟨(cell_of_block (hh _ hb.1) 0).trans h.jb,(cell_of_block (hh _ hb.2.1) 0).trans h.ob,fun k hk=>?_,let ⟨st,sm,q⟩:=h.live;⟨st,sm,q.of_block (hh _ hb.2.2.1)⟩,h.below.trans ⟨ho,ht,hp,hs,fun b hb'=>hh b (by omega)⟩⟩
 obtain ⟨J,o,cap,e,hJ,hc⟩:=h.el k hk
 exact ⟨J,o,cap,e,hJ,(cell_of_block (hh _ (by omega)) _).trans hc⟩
end
open Go.Conc Go.ConcN Go.RowKit Go.Conc.Lib Go.ConcR.Gen Go.ConcN.Gen Go.Proofs
open Go.ConcR (KK wgBlock WgAt stA smA rd wr mk Payload DC0)
variable [Payload]
structure A9 (c:Cfg) (bj bo:Nat) (E:Nat->Value):Prop where
 t1:E 1 = .pointer (some ⟨bj,0,none⟩)
 t2:E 2 = .pointer (some ⟨bo,0,none⟩)
 t3:E 3 = .pointer (some ⟨c.Wg,0,none⟩)
 t5:E 5 = .chan (some c.Ch)
def upd9 (E:Nat->Value) (d:Nat) (v:Value):Nat->Value:=fun j=>if j = d then v else E j
structure J3 (c:Cfg) (W0:World) (bj bo:Nat) (vj:Value) (El:Nat->Value) (k:Nat) (b0 b1 b2 b3 b4 b5 b6 b7:Bool) (E:Nat->Value) (σ:GW):Prop where
 a9:A9 c bj bo E
 t4:E 4 = .int .i64 (k:Int)
 wf:WF c W0 bj bo vj El σ.w
 e0:b0 = true->E 9 = .slice (some ⟨c.Out,0,none⟩) c.N c.N
 e1:b1 = true->E 10 = .int .i64 (k:Int)
 e2:b2 = true->E 11 = vj
 e3:b3 = true->E 12 = .int .i64 (k:Int)
 e4:b4 = true->∃ J o cap,vj = .slice (some ⟨J,o,none⟩) c.N cap/\E 13 = .pointer (some ⟨J,o + k,none⟩)
 e5:b5 = true->E 14 = El k
 ow:b6 = false->σ.own = noOwn
 e6:b6 = true->∃ x1 n1 c1 x2 n2 c2,E 15 = .agg #[.slice x1 n1 c1,.slice x2 n2 c2]/\∃ fin,c.Res k (.slice x1 n1 c1) (.slice x2 n2 c2) fin σ.w/\∀ b,fin b->σ.own b\/c.RO b
 e7:b7 = true->E 16 = .pointer (some ⟨c.Out,2 * k,none⟩)
section
variable {c:Cfg} {W0:World} {bj bo:Nat} {vj:Value} {El:Nat->Value} {k:Nat} {b0 b1 b2 b3 b4 b5 b6 b7:Bool} {E:Nat->Value} {σ:GW} {w₁:World}
theorem J3.rely (hW:Wh c W0 bj bo) (hRes:∀ k v1 v2 fin w w',c.Res k v1 v2 fin w->(∀ b,fin b->w'.heap[b]? = w.heap[b]?)->c.Res k v1 v2 fin w') (h:J3 c W0 bj bo vj El k b0 b1 b2 b3 b4 b5 b6 b7 E σ) (r:(Kw c).R σ w₁):J3 c W0 bj bo vj El k b0 b1 b2 b3 b4 b5 b6 b7 E ⟨σ.own,w₁⟩:=
 ⟨h.a9,h.t4,h.wf.rely hW r,h.e0,h.e1,h.e2,h.e3,h.e4,h.e5,h.ow,fun q=>by
  obtain ⟨x1,n1,c1,x2,n2,c2,e,fin,h1,h2⟩:=h.e6 q
  exact ⟨x1,n1,c1,x2,n2,c2,e,fin,hRes _ _ _ _ _ _ h1 fun b hb=>r.2.2.2.2.1 b (h2 b hb),h2⟩,h.e7⟩
theorem A9.upd (h:A9 c bj bo E) {d:Nat} {v:Value} (h1:d≠1/\d≠2/\d≠3/\d≠5):A9 c bj bo (upd9 E d v):=by
 obtain ⟨q1,q2,q3,q5⟩:=h1
 exact ⟨by simp only [upd9];rw [if_neg (Ne.symm q1)];exact h.t1,by simp only [upd9];rw [if_neg (Ne.symm q2)];exact h.t2,by simp only [upd9];rw [if_neg (Ne.symm q3)];exact h.t3,by simp only [upd9];rw [if_neg (Ne.symm q5)];exact h.t5⟩
def Sh9 (E:Nat->Value) (a:Act):Prop:=a.defers = []/\a.tmps.size = 18/\∀ j,a.eval (.tmp j) = E j
theorem Sh9.put {a:Act} (h:Sh9 E a) {d:Nat} (hd:d < 18) (v:Value):Sh9 (upd9 E d v) (a.put (some d) v):=
 ⟨by rw [put_defers];exact h.1,by rw [put_size];exact h.2.1,fun j=>by rw [put_eval (by rw [h.2.1];exact hd)];simp only [upd9,h.2.2 j]⟩
theorem opO_read {main:Bool} {fn:FuncId} {ops:Array Oper} {i:Nat} {o:Oper} {a:Act} {v:Value} {ad:Addr} {C:Act->GW->Prop} (ho:ops[i]? = some o) (hg:o.guard = none) (hro:c.RO ad.block)
 (hx:∀ w,w.cell? ad = some v->(execOp a.eval o).run c.P w = .ok (.value v) w/\(execOp a.eval o).events c.P w #[] = #[⟨.cell ad,false,false⟩]) (hc:σ.w.cell? ad = some v) (h:∀ w₁,(Kw c).R σ w₁->C (a.put o.dst v) ⟨σ.own,w₁⟩):opO c.P main (Kw c) fn ops i C a σ:=by
 unfold opO
 rw [ho]
 simp only [wanted_none hg,if_true]
 intro w₁ hr
 have hc1:w₁.cell? ad = some v:=(World.cell?_of_block (hr.2.2.2.2.1 _ (.inr hro))).trans hc
 obtain ⟨h1,h2⟩:=hx w₁ hc1
 rw [h1]
 refine ⟨σ.own,⟨rfl,rfl,rfl,Nat.le_refl _,fun _ _ _=>rfl,fun b=>⟨.inl,fun q=>q.elim id fun q=>absurd q.2 (Nat.not_lt.2 q.1)⟩,fun _ e he=>?_⟩,h w₁ hr⟩
 have hm:=mem_listed he
 rw [h2,Array.mem_singleton] at hm
 subst hm
 exact .inl ⟨ad,rfl,rfl,.inr ⟨hro,rfl⟩⟩
theorem opO_calc {main:Bool} {fn:FuncId} {ops:Array Oper} {i:Nat} {o:Oper} {a:Act} {v:Value} {C:Act->GW->Prop} (ho:ops[i]? = some o) (hg:o.guard = none)
 (hx:∀ w,(execOp a.eval o).run c.P w = .ok (.value v) w/\(execOp a.eval o).events c.P w #[] = #[]) (h:∀ w₁,(Kw c).R σ w₁->C (a.put o.dst v) ⟨σ.own,w₁⟩):opO c.P main (Kw c) fn ops i C a σ:=by
 unfold opO
 rw [ho]
 simp only [wanted_none hg,if_true]
 intro w₁ hr
 obtain ⟨h1,h2⟩:=hx w₁
 rw [h1]
 exact ⟨σ.own,by rw [listed_nil h2];exact pact_idle _,h w₁ hr⟩
theorem opO_call {main:Bool} {fn f:FuncId} {ops:Array Oper} {i:Nat} {o:Oper} {a:Act} {args:Array Value} {C:Act->GW->Prop} (ho:ops[i]? = some o) (hg:o.guard = none)
 (hx:∀ w,(execOp a.eval o).run c.P w = .ok (.enter f args) w/\(execOp a.eval o).events c.P w #[] = #[]) (h:∀ w₁,(Kw c).R σ w₁->CallsO c.P main (Kw c) f args ⟨σ.own,w₁⟩ fun v σ'=>C (a.put o.dst v) σ'):opO c.P main (Kw c) fn ops i C a σ:=by
 unfold opO
 rw [ho]
 simp only [wanted_none hg,if_true]
 intro w₁ hr
 obtain ⟨h1,h2⟩:=hx w₁
 rw [h1]
 exact ⟨σ.own,by rw [listed_nil h2];exact pact_idle _,h w₁ hr⟩
def cntF (b0 b1 b2 b3 b4 b5 b6 b7:Bool):Nat:=(!b0).toNat + (!b1).toNat + (!b2).toNat + (!b3).toNat + (!b4).toNat + (!b5).toNat + (!b6).toNat + (!b7).toNat + 1
end
section
variable {Wg Ch Out Lz N:Nat} {RO:Nat->Prop} {Res:Nat->Value->Value->(Nat->Prop)->World->Prop} {W0:World} {bj bo:Nat} {vj:Value} {El:Nat->Value} {k:Nat}
def Inv3 (c:Cfg) (W0:World) (bj bo:Nat) (vj:Value) (El:Nat->Value) (k n:Nat) (l:Array Bool) (a:Act) (σ:GW):Prop:=
 ∃ b0 b1 b2 b3 b4 b5 b6 b7 E,l = #[b0,b1,b2,b3,b4,b5,b6,b7,false]/\n = cntF b0 b1 b2 b3 b4 b5 b6 b7/\Sh9 E a/\J3 c W0 bj bo vj El k b0 b1 b2 b3 b4 b5 b6 b7 E σ
theorem run_call10 {a:Act} {o:Oper} {w:World} {ts:Array TypeId} {x:Operand} {v:Value} (hop:o.op = .call ⟨.value (.func 10),#[x],ts⟩) (hx:a.eval x = v):(execOp a.eval o).run Tryd.prog w = .ok (.enter 10 #[v]) w/\(execOp a.eval o).events Tryd.prog w #[] = #[]:=by
 have h10:Tryd.prog.funcs[10]? = some Tryd.f10:=Tryd.func10
 have hn:(Tryd.f10.name == "runtime.NumGoroutine") = false:=by kernel_rfl
 have hb:Tryd.f10.body.isNone = false:=by kernel_rfl
 have hf:a.eval (.func 10) = .func (.func 10) #[] #[]:=rfl
 have hn':Tryd.f10.name≠ "runtime.NumGoroutine":=by simpa using hn
 have hb':Tryd.f10.body≠none:=by intro e;simp [e] at hb
 subst hx
 obtain ⟨dst,op,typ,pos,after,guard⟩:=o
 simp only at hop
 subst hop
 constructor <;> simp [execOp,resolve,Deferred.ofValue,hf,invoke,callFunc,h10,hn',hb']
set_option maxHeartbeats 1600000 in
theorem step3 (hW:Wh (cfg Wg Ch Out Lz N RO Res) W0 bj bo) (hRes:∀ k v1 v2 fin w w',Res k v1 v2 fin w->(∀ b,fin b->w'.heap[b]? = w.heap[b]?)->Res k v1 v2 fin w') (hk:k < N)
 (hDo:∀ w,WF (cfg Wg Ch Out Lz N RO Res) W0 bj bo vj El w->CallsO Tryd.prog false (Kw (cfg Wg Ch Out Lz N RO Res)) 10 #[El k] ⟨noOwn,w⟩ fun v σ'=>(∃ x1 n1 c1 x2 n2 c2,v = .agg #[.slice x1 n1 c1,.slice x2 n2 c2]/\∃ fin,Res k (.slice x1 n1 c1) (.slice x2 n2 c2) fin σ'.w/\∀ b,fin b->σ'.own b\/RO b)/\WF (cfg Wg Ch Out Lz N RO Res) W0 bj bo vj El σ'.w)
 {fn:FuncId} {b0 b1 b2 b3 b4 b5 b6 b7:Bool} {E:Nat->Value} {a:Act} {σ:GW} {i:Nat} (hi:i∈Region.ready .any ops9d #[b0,b1,b2,b3,b4,b5,b6,b7,false]) (hs:Sh9 E a) (hJ:J3 (cfg Wg Ch Out Lz N RO Res) W0 bj bo vj El k b0 b1 b2 b3 b4 b5 b6 b7 E σ) (h8:i≠8) {n:Nat} (hn:n + 1 = cntF b0 b1 b2 b3 b4 b5 b6 b7):
 opO Tryd.prog false (Kw (cfg Wg Ch Out Lz N RO Res)) fn ops9d i (Inv3 (cfg Wg Ch Out Lz N RO Res) W0 bj bo vj El k n (#[b0,b1,b2,b3,b4,b5,b6,b7,false].setIfInBounds i true)) a σ:=by
 rcases (next9.2 i hi) with ⟨rfl,rfl⟩ | ⟨rfl,rfl⟩ | ⟨rfl,rfl⟩ | ⟨rfl,rfl⟩ | ⟨rfl,rfl,rfl,rfl⟩ | ⟨rfl,rfl,rfl⟩ | ⟨rfl,rfl,rfl⟩ | ⟨rfl,rfl,rfl,rfl,rfl⟩ | ⟨rfl,_⟩
 ·refine opO_read (c:=(cfg Wg Ch Out Lz N RO Res)) (ad:=⟨bo,0,none⟩) rfl rfl hW.ro (fun w hc=>run_load23 rfl ((hs.2.2 2).trans hJ.a9.t2) hc) hJ.wf.ob fun w₁ hr=>?_
  have hJ:=hJ.rely hW hRes hr
  exact ⟨true,b1,b2,b3,b4,b5,b6,b7,_,rfl,by simp [cntF] at hn ⊢;omega,hs.put (by decide) _,⟨hJ.a9.upd (by decide),hJ.t4,hJ.wf,fun _=>rfl,hJ.e1,hJ.e2,hJ.e3,hJ.e4,hJ.e5,hJ.ow,hJ.e6,hJ.e7⟩⟩
 ·refine opO_calc (c:=(cfg Wg Ch Out Lz N RO Res)) (v:=.int .i64 (k:Int)) rfl rfl (fun w=>?_) fun w₁ hr=>?_
  ·have e:a.eval (.tmp 4) = .int .i64 (k:Int):=(hs.2.2 4).trans hJ.t4
   exact ⟨by show Result.ok (Next.value (a.eval (.tmp 4))) w = _;rw [e],rfl⟩
  have hJ:=hJ.rely hW hRes hr
  exact ⟨b0,true,b2,b3,b4,b5,b6,b7,_,rfl,by simp [cntF] at hn ⊢;omega,hs.put (by decide) _,⟨hJ.a9.upd (by decide),hJ.t4,hJ.wf,hJ.e0,fun _=>rfl,hJ.e2,hJ.e3,hJ.e4,hJ.e5,hJ.ow,hJ.e6,hJ.e7⟩⟩
 ·refine opO_read (c:=(cfg Wg Ch Out Lz N RO Res)) (ad:=⟨bj,0,none⟩) rfl rfl hW.rj (fun w hc=>run_load22 rfl ((hs.2.2 1).trans hJ.a9.t1) hc) hJ.wf.jb fun w₁ hr=>?_
  have hJ:=hJ.rely hW hRes hr
  exact ⟨b0,b1,true,b3,b4,b5,b6,b7,_,rfl,by simp [cntF] at hn ⊢;omega,hs.put (by decide) _,⟨hJ.a9.upd (by decide),hJ.t4,hJ.wf,hJ.e0,hJ.e1,fun _=>rfl,hJ.e3,hJ.e4,hJ.e5,hJ.ow,hJ.e6,hJ.e7⟩⟩
 ·refine opO_calc (c:=(cfg Wg Ch Out Lz N RO Res)) (v:=.int .i64 (k:Int)) rfl rfl (fun w=>?_) fun w₁ hr=>?_
  ·have e:a.eval (.tmp 4) = .int .i64 (k:Int):=(hs.2.2 4).trans hJ.t4
   exact ⟨by show Result.ok (Next.value (a.eval (.tmp 4))) w = _;rw [e],rfl⟩
  have hJ:=hJ.rely hW hRes hr
  exact ⟨b0,b1,b2,true,b4,b5,b6,b7,_,rfl,by simp [cntF] at hn ⊢;omega,hs.put (by decide) _,⟨hJ.a9.upd (by decide),hJ.t4,hJ.wf,hJ.e0,hJ.e1,hJ.e2,fun _=>rfl,hJ.e4,hJ.e5,hJ.ow,hJ.e6,hJ.e7⟩⟩
 ·obtain ⟨J,o,cap,e,hJ0,hcell⟩:=hJ.wf.el k hk
  refine opO_calc (c:=(cfg Wg Ch Out Lz N RO Res)) (v:=.pointer (some ⟨J,o + k,none⟩)) rfl rfl (fun w=>run_idx22 rfl (((hs.2.2 11).trans (hJ.e2 rfl)).trans e) ((hs.2.2 12).trans (hJ.e3 rfl)) hk) fun w₁ hr=>?_
  have hJ:=hJ.rely hW hRes hr
  exact ⟨b0,b1,true,true,true,b5,b6,b7,_,rfl,by simp [cntF] at hn ⊢;omega,hs.put (by decide) _,⟨hJ.a9.upd (by decide),hJ.t4,hJ.wf,hJ.e0,hJ.e1,hJ.e2,hJ.e3,fun _=>⟨J,o,cap,e,rfl⟩,hJ.e5,hJ.ow,hJ.e6,hJ.e7⟩⟩
 ·obtain ⟨J,o,cap,e,hJ0,hcell⟩:=hJ.wf.el k hk
  obtain ⟨J',o',cap',e',e13⟩:=hJ.e4 rfl
  rw [e] at e';cases e'
  refine opO_read (c:=(cfg Wg Ch Out Lz N RO Res)) (ad:=⟨J,o + k,none⟩) rfl rfl (hW.low J hJ0) (fun w hc=>run_load27 rfl ((hs.2.2 13).trans e13) hc) hcell fun w₁ hr=>?_
  have hJ:=hJ.rely hW hRes hr
  exact ⟨b0,b1,b2,b3,true,true,b6,b7,_,rfl,by simp [cntF] at hn ⊢;omega,hs.put (by decide) _,⟨hJ.a9.upd (by decide),hJ.t4,hJ.wf,hJ.e0,hJ.e1,hJ.e2,hJ.e3,hJ.e4,fun _=>rfl,hJ.ow,hJ.e6,hJ.e7⟩⟩
 ·refine opO_call (c:=(cfg Wg Ch Out Lz N RO Res)) (f:=10) (args:=#[El k]) rfl rfl (fun w=>run_call10 rfl ((hs.2.2 14).trans (hJ.e5 rfl))) fun w₁ hr=>?_
  have hJ:=hJ.rely hW hRes hr
  rw [hJ.ow rfl]
  refine (hDo w₁ hJ.wf).mono fun v σ' hv=>?_
  obtain ⟨⟨x1,n1,c1,x2,n2,c2,rfl,fin,h1,h2⟩,hwf⟩:=hv
  exact ⟨b0,b1,b2,b3,b4,true,true,b7,_,rfl,by simp [cntF] at hn ⊢;omega,hs.put (by decide) _,⟨hJ.a9.upd (by decide),hJ.t4,hwf,hJ.e0,hJ.e1,hJ.e2,hJ.e3,hJ.e4,hJ.e5,fun q=>(by cases q),fun _=>⟨x1,n1,c1,x2,n2,c2,rfl,fin,h1,h2⟩,hJ.e7⟩⟩
 ·refine opO_calc (c:=(cfg Wg Ch Out Lz N RO Res)) (v:=.pointer (some ⟨Out,0 + k * 2,none⟩)) rfl rfl (fun w=>run_idx23 rfl ((hs.2.2 9).trans (hJ.e0 rfl)) ((hs.2.2 10).trans (hJ.e1 rfl)) hk) fun w₁ hr=>?_
  have hJ:=hJ.rely hW hRes hr
  exact ⟨true,true,b2,b3,b4,b5,true,true,_,rfl,by simp [cntF] at hn ⊢;omega,hs.put (by decide) _,⟨hJ.a9.upd (by decide),hJ.t4,hJ.wf,hJ.e0,hJ.e1,hJ.e2,hJ.e3,hJ.e4,hJ.e5,hJ.ow,hJ.e6,fun _=>by show Value.pointer _ = _;rw [Nat.zero_add,Nat.mul_comm]⟩⟩
 ·exact absurd rfl h8
end
open Go.Conc Go.ConcN Go.RowKit Go.Conc.Lib Go.ConcR.Gen Go.ConcN.Gen Go.Proofs
open Go.ConcR (KK wgBlock WgAt stA smA rd wr mk Payload DC0)
variable [Payload]
noncomputable def b9:Frame:=baseD 9
noncomputable def bot:Frame:={ (default:Frame) with fn:=Tryd.prog.funcs.size,defers:=[],mode:=.panicking [goexitEntry] }
noncomputable def k9:List Item:=[.inBlock 1,.inLoop loop9,.inBlock 0,.code (.region 4 ops9e false)]
theorem loud9:(Tryd.prog.funcs[b9.fn]?).any (·.norace) = false:=by kernel_rfl
theorem early9:b9.kind≠.early:=by simp [b9,baseD]
section
variable {Wg Ch Out Lz N:Nat} {RO:Nat->Prop} {Res:Nat->Value->Value->(Nat->Prop)->World->Prop} {W0:World} {bj bo:Nat} {vj:Value} {El:Nat->Value} {k:Nat}
def Anch9 (c:Cfg) (W0:World) (bj bo:Nat) (vj:Value) (El:Nat->Value) (g:Goroutine) (σ:GW):Prop:=
 ∃ a E,g = G (b9.at a (.inRegion ops9d [] :: k9)) [bot]/\Sh9 E a/\A9 c bj bo E/\WF c W0 bj bo vj El σ.w/\σ.own = noOwn
theorem stopPut (hW:Wh (cfg Wg Ch Out Lz N RO Res) W0 bj bo) (hRes:∀ k v1 v2 fin w w',Res k v1 v2 fin w->(∀ b,fin b->w'.heap[b]? = w.heap[b]?)->Res k v1 v2 fin w') (hk:k < N) (hOut:¬ RO Out) (hOW:Out≠Wg)
 {a:Act} {σ:GW} {E:Nat->Value} {b0 b1 b2 b3 b4 b5:Bool} (hs:Sh9 E a) (hJ:J3 (cfg Wg Ch Out Lz N RO Res) W0 bj bo vj El k b0 b1 b2 b3 b4 b5 true true E σ):
 GoesO Tryd.prog false (Kw (cfg Wg Ch Out Lz N RO Res)) (AtPut (cfg Wg Ch Out Lz N RO Res) (Anch9 (cfg Wg Ch Out Lz N RO Res) W0 bj bo vj El) k) (G (b9.at a (.inRegion ops9d [8] :: k9)) [bot]) σ:=by
 refine .stop fun w₁ hr=>?_
 have hJ:=hJ.rely hW hRes hr
 obtain ⟨x1,n1,c1,x2,n2,c2,e15,fin,h1,h2⟩:=hJ.e6 rfl
 refine ⟨rfl,hk,_,_,fin,h1,h2,fun hO=>?_⟩
 obtain ⟨cs,hb,hsz⟩:=hO
 have hsz:cs.size = 2 * N:=hsz
 obtain ⟨r1,r2⟩:=run_store42 (a:=a) (o:=(ops9d[8]?).getD default) (w:=w₁) (b:=Out) (f:=2 * k) (x:=.tmp 16) (y:=.tmp 15) rfl rfl rfl ((hs.2.2 16).trans (hJ.e7 rfl)) ((hs.2.2 15).trans e15) hb (by omega)
 have hst:=stepG_none (P:=Tryd.prog) (main:=false) (b:=b9) (k:=k9) (cs:=[bot]) (ops:=ops9d) (i:=8) (rest:=[]) (o:=(ops9d[8]?).getD default) rfl (wanted_none rfl) early9 r1
 unfold listed at hst
 rw [r2,seen_eq loud9 (by simp)] at hst
 refine ⟨_,hst,a,E,rfl,hs,hJ.a9,?_,rfl⟩
 have hne:∀ b,b≠Out->(((w₁.setCell ⟨Out,2 * k,none⟩ (.slice x1 n1 c1)).setCell ⟨Out,2 * k + 1,none⟩ (.slice x2 n2 c2))).heap[b]? = w₁.heap[b]?:=fun b hb=>(heap_setCell_ne hb _).trans (heap_setCell_ne hb _)
 have hro:∀ b,RO b->b≠Out:=fun b hb e=>hOut (e ▸ hb)
 obtain ⟨q1,q2,q3,q4,q5⟩:=hJ.wf
 refine ⟨(World.cell?_of_block (hne _ (hro _ hW.rj))).trans q1,(World.cell?_of_block (hne _ (hro _ hW.ro))).trans q2,fun k hk=>?_,?_,?_⟩
 ·obtain ⟨J,o,cap,e,hJ,hc⟩:=q3 k hk
  exact ⟨J,o,cap,e,hJ,(World.cell?_of_block (hne _ (hro _ (hW.low J hJ)))).trans hc⟩
 ·obtain ⟨st,sm,q⟩:=q4
  exact ⟨st,sm,q.of_block (hne _ (Ne.symm hOW))⟩
 ·exact q5.trans ⟨rfl,rfl,rfl,by rw [size_setCell,size_setCell];exact Nat.le_refl _,fun b hb=>hne b (hro b (hW.low b hb))⟩
theorem walk3 (hW:Wh (cfg Wg Ch Out Lz N RO Res) W0 bj bo) (hRes:∀ k v1 v2 fin w w',Res k v1 v2 fin w->(∀ b,fin b->w'.heap[b]? = w.heap[b]?)->Res k v1 v2 fin w') (hk:k < N) (hOut:¬ RO Out) (hOW:Out≠Wg)
 (hDo:∀ w,WF (cfg Wg Ch Out Lz N RO Res) W0 bj bo vj El w->CallsO Tryd.prog false (Kw (cfg Wg Ch Out Lz N RO Res)) 10 #[El k] ⟨noOwn,w⟩ fun v σ'=>(∃ x1 n1 c1 x2 n2 c2,v = .agg #[.slice x1 n1 c1,.slice x2 n2 c2]/\∃ fin,Res k (.slice x1 n1 c1) (.slice x2 n2 c2) fin σ'.w/\∀ b,fin b->σ'.own b\/RO b)/\WF (cfg Wg Ch Out Lz N RO Res) W0 bj bo vj El σ'.w)
 {a:Act} {w:World} {E:Nat->Value} (hs:Sh9 E a) (hA:A9 (cfg Wg Ch Out Lz N RO Res) bj bo E) (h4:E 4 = .int .i64 (k:Int)) (hF:WF (cfg Wg Ch Out Lz N RO Res) W0 bj bo vj El w):
 GoesO Tryd.prog false (Kw (cfg Wg Ch Out Lz N RO Res)) (AtPut (cfg Wg Ch Out Lz N RO Res) (Anch9 (cfg Wg Ch Out Lz N RO Res) W0 bj bo vj El) k) (G (b9.at a (.code (.region 3 ops9d true) :: k9)) [bot]) ⟨noOwn,w⟩:=by
 refine .go rfl fun w₁ hr=>⟨_,⟨noOwn,{ w₁ with drawn:=w₁.drawn + 1 }⟩,#[],stepG_region_draw,(Kw.ok (cfg Wg Ch Out Lz N RO Res)).draw _,?_⟩
 have hF:=hF.rely hW hr
 have hmix:Tryd.prog.follows .mixedOrders = true:=by kernel_rfl
 simp only [Region.schedule,hmix,Bool.true_or,if_true]
 refine any_last (P:=Tryd.prog) (K:=Kw (cfg Wg Ch Out Lz N RO Res)) (Kw.ok (cfg Wg Ch Out Lz N RO Res)) early9 (last:=8) (Inv3 (cfg Wg Ch Out Lz N RO Res) W0 bj bo vj El k) (fun l a σ h=>?_) (fun n l a σ h=>?_) (fun n l a σ i h hi=>?_) 9 _ _ a _ ?_
 ·obtain ⟨b0,b1,b2,b3,b4,b5,b6,b7,E,_,hn,_⟩:=h
  simp [cntF] at hn
 ·obtain ⟨b0,b1,b2,b3,b4,b5,b6,b7,E,rfl,_⟩:=h
  exact next9.1
 ·obtain ⟨b0,b1,b2,b3,b4,b5,b6,b7,E,rfl,hn,hs,hJ⟩:=h
  by_cases h8:i = 8
  ·subst h8
   left
   have:=next9.2 8 hi
   simp only [Nat.reduceEqDiff,false_and,true_and,false_or] at this
   obtain ⟨⟨q0,q1,q2,q3,q4,q5,q6,q7⟩,q8⟩:=this
   subst q6 q7
   exact ⟨rfl,q8,stopPut hW hRes hk hOut hOW hs hJ⟩
  ·exact .inr (step3 hW hRes hk hDo hi hs hJ h8 hn)
 ·exact ⟨false,false,false,false,false,false,false,false,E,rfl,rfl,hs,⟨hA,h4,⟨hF.jb,hF.ob,hF.el,hF.live,hF.below.trans ⟨rfl,rfl,rfl,Nat.le_refl _,fun _ _=>rfl⟩⟩,fun q=>(by cases q),fun q=>(by cases q),fun q=>(by cases q),fun q=>(by cases q),fun q=>(by cases q),fun q=>(by cases q),fun _=>rfl,fun q=>(by cases q),fun q=>(by cases q)⟩⟩
end
open Go.Conc Go.ConcN Go.RowKit Go.Conc.Lib Go.ConcR.Gen Go.ConcN.Gen Go.Proofs
open Go.ConcR (KK wgBlock WgAt stA smA rd wr mk Payload DC0)
variable [Payload]
noncomputable def rest9:Code:=.seq (.cond (.tmp 7) .skip (.exit 0)) (.block 1 (.seq (.region 2 ops9c false) (.region 3 ops9d true)))
noncomputable def k9b:List Item:=[.inLoop loop9,.inBlock 0,.code (.region 4 ops9e false)]
theorem opO_calcK {P:Program} {main:Bool} {K:Pact} (T:K.Ok) {fn:FuncId} {ops:Array Oper} {i:Nat} {o:Oper} {a:Act} {v:Value} {C:Act->GW->Prop} {σ:GW} (ho:ops[i]? = some o) (hg:o.guard = none)
 (hx:∀ w,(execOp a.eval o).run P w = .ok (.value v) w/\(execOp a.eval o).events P w #[] = #[]) (h:∀ w₁,K.R σ w₁->C (a.put o.dst v) ⟨σ.own,w₁⟩):opO P main K fn ops i C a σ:=by
 unfold opO
 rw [ho]
 simp only [wanted_none hg,if_true]
 intro w₁ hr
 obtain ⟨h1,h2⟩:=hx w₁
 rw [h1]
 exact ⟨σ.own,by rw [listed_nil h2];exact T.idle _,h w₁ hr⟩
theorem run_extract {P:Program} {a:Act} {o:Oper} {w:World} {x:Operand} {i:Nat} {xs:Array Value} {v:Value} (hop:o.op = .extract x i) (hx:a.eval x = .tuple xs) (hv:xs[i]? = some v):(execOp a.eval o).run P w = .ok (.value v) w/\(execOp a.eval o).events P w #[] = #[]:=by
 unfold execOp;simp only [hop,hx];simp [go_sem,hv]
theorem run_assign {P:Program} {a:Act} {o:Oper} {w:World} {x:Operand} {v:Value} (hop:o.op = .assign x) (hx:a.eval x = v):(execOp a.eval o).run P w = .ok (.value v) w/\(execOp a.eval o).events P w #[] = #[]:=by
 unfold execOp;simp only [hop,hx];simp [go_sem]
theorem run_recv {a:Act} {o:Oper} {w:World} {x:Operand} {b:Nat} (hop:o.op = .recv 45 x true) (hx:a.eval x = .chan (some b)):(execOp a.eval o).run Tryd.prog w = .ok (.comm #[rcase b (.int .i64 0)] true (.recv true)) w/\(execOp a.eval o).events Tryd.prog w #[] = #[]:=by
 unfold execOp;simp only [hop,hx];simp [go_sem,rcase]
theorem run_call11 {a:Act} {o:Oper} {w:World} {ts:Array TypeId} {x:Operand} {v:Value} (hop:o.op = .call ⟨.value (.func 11),#[x],ts⟩) (hx:a.eval x = v):(execOp a.eval o).run Tryd.prog w = .ok (.enter 11 #[v]) w/\(execOp a.eval o).events Tryd.prog w #[] = #[]:=by
 have h10:Tryd.prog.funcs[11]? = some Tryd.f11:=Tryd.func11
 have hn:(Tryd.f11.name == "runtime.NumGoroutine") = false:=by kernel_rfl
 have hb:Tryd.f11.body.isNone = false:=by kernel_rfl
 have hf:a.eval (.func 11) = .func (.func 11) #[] #[]:=rfl
 have hn':Tryd.f11.name≠ "runtime.NumGoroutine":=by simpa using hn
 have hb':Tryd.f11.body≠none:=by intro e;simp [e] at hb
 subst hx
 obtain ⟨dst,op,typ,pos,after,guard⟩:=o
 simp only at hop
 subst hop
 constructor <;> simp [execOp,resolve,Deferred.ofValue,hf,invoke,callFunc,h10,hn',hb']
theorem quits9 {a:Act} (ha:a.defers = []):QuitsD Tryd.prog 4 0 (G (b9.at a [.inRegion ops9e []]) [bot]):=by
 obtain ⟨T,D⟩:=a
 obtain rfl:D = []:=ha
 refine QuitsD.ctl rfl (fun w=>stepG_region_end) ?_
 refine QuitsD.ctl rfl (fun w=>stepG_end) ?_
 refine QuitsD.ctl (g':=G bot []) rfl (fun w=>?_) ?_
 ·have h9:Tryd.prog.funcs[9]? = some Tryd.f9:=Tryd.func9
  have hr:Tryd.f9.results = #[]:=rfl
  simp [G,stepG,unwind,doReturn,results,Frame.at,b9,baseD,bot,h9,hr,seen,GStep.after,goexitEntry]
 refine QuitsD.ctl (g':={ G bot [] with status:=.finished }) rfl (fun w=>?_) ⟨rfl,rfl⟩
 simp [G,stepG,unwind,bot,goexitEntry,Frame.catches]
 rfl
section
variable {Wg Ch Out Lz N:Nat} {RO:Nat->Prop} {Res:Nat->Value->Value->(Nat->Prop)->World->Prop} {W0:World} {bc bj bo:Nat} {vj:Value} {El:Nat->Value}
theorem leave9 (hW:Wh (cfg Wg Ch Out Lz N RO Res) W0 bj bo) (hjo:bj≠bo) {a:Act} {w:World} {E:Nat->Value} (hs:Sh9 E a) (hA:A9 (cfg Wg Ch Out Lz N RO Res) bj bo E) (hF:WF (cfg Wg Ch Out Lz N RO Res) W0 bj bo vj El w):
 GoesO Tryd.prog false (K7 (cfg Wg Ch Out Lz N RO Res)) (AtR (cfg Wg Ch Out Lz N RO Res)) (G (b9.at (a.put (some 6) (.tuple #[.int .i64 0,.bool false])) (.inRegion ops9b [1] :: .code rest9 :: k9b)) [bot]) ⟨noOwn,w⟩:=by
 have T:=K7.ok (cfg Wg Ch Out Lz N RO Res)
 have h0:a.defers = []:=hs.1
 have hs:=hs.put (d:=6) (by decide) (.tuple #[.int .i64 0,.bool false])
 have hA:=hA.upd (d:=6) (v:=.tuple #[.int .i64 0,.bool false]) (by decide)
 refine opG_cons T early9 (opO_calcK T (v:=.bool false) rfl rfl (fun w=>run_extract rfl ((hs.2.2 6).trans rfl) rfl) fun w₁ hr=>?_)
 have hF:=hF.rely hW hr
 have hs:=hs.put (d:=7) (by decide) (.bool false)
 have hA:=hA.upd (d:=7) (v:=.bool false) (by decide)
 refine .ctl T rfl (fun _=>stepG_region_end) (.ctl T rfl (fun _=>stepG_seq) (.ctl T rfl (fun _=>stepG_cond ((hs.2.2 7).trans rfl)) (.ctl T rfl (fun _=>stepG_exit rfl) (.ctl T rfl (fun _=>stepG_region) ?_))))
 refine .go rfl fun w₂ hr₂=>?_
 have hF:=hF.rely hW hr₂
 obtain ⟨r1,r2⟩:=run_call11 (w:=w₂) (o:=(ops9e[0]?).getD default) rfl ((hs.2.2 3).trans hA.t3)
 refine ⟨_,⟨noOwn,w₂⟩,_,stepG_enter (ops:=ops9e) (i:=0) rfl (wanted_none rfl) early9 r1,(by
  have hl:=T.idle (⟨noOwn,w₂⟩:GW)
  rw [<- listed_nil (fn:=b9.fn) r2] at hl
  exact hl),?_⟩
 rw [enter_at _ wgLib.f_done (c:=body_done lnk) rfl]
 exact doneK (c:=(cfg Wg Ch Out Lz N RO Res)) wgLib rfl hjo hW.rj hW.ro (qt:=4) (quits9 (by rw [put_defers,put_defers,put_defers];exact h0)) w₂ hF.live hF.jb hF.ob
theorem recv9 (hW:Wh (cfg Wg Ch Out Lz N RO Res) W0 bj bo) (hjo:bj≠bo) (hRes:∀ k v1 v2 fin w w',Res k v1 v2 fin w->(∀ b,fin b->w'.heap[b]? = w.heap[b]?)->Res k v1 v2 fin w') (hOut:¬ RO Out) (hOW:Out≠Wg)
 (hDo:∀ k,k < N->∀ w,WF (cfg Wg Ch Out Lz N RO Res) W0 bj bo vj El w->CallsO Tryd.prog false (Kw (cfg Wg Ch Out Lz N RO Res)) 10 #[El k] ⟨noOwn,w⟩ fun v σ'=>(∃ x1 n1 c1 x2 n2 c2,v = .agg #[.slice x1 n1 c1,.slice x2 n2 c2]/\∃ fin,Res k (.slice x1 n1 c1) (.slice x2 n2 c2) fin σ'.w/\∀ b,fin b->σ'.own b\/RO b)/\WF (cfg Wg Ch Out Lz N RO Res) W0 bj bo vj El σ'.w)
 {a:Act} {w:World} {E:Nat->Value} (hs:Sh9 E a) (hA:A9 (cfg Wg Ch Out Lz N RO Res) bj bo E) (hF:WF (cfg Wg Ch Out Lz N RO Res) W0 bj bo vj El w):
 GoesO Tryd.prog false (Kw (cfg Wg Ch Out Lz N RO Res)) (AtRecv (cfg Wg Ch Out Lz N RO Res) (Anch9 (cfg Wg Ch Out Lz N RO Res) W0 bj bo vj El)) (G (b9.at a (.code loop9 :: k9b)) [bot]) ⟨noOwn,w⟩:=by
 have T:=Kw.ok (cfg Wg Ch Out Lz N RO Res)
 rw [loop9_eq]
 refine .ctl T rfl (fun _=>stepG_seq) (.ctl T rfl (fun _=>stepG_region) ?_)
 refine .stop fun w₁ hr=>?_
 have hF:=hF.rely hW hr
 obtain ⟨r1,r2⟩:=run_recv (w:=w₁) (o:=(ops9b[0]?).getD default) rfl ((hs.2.2 5).trans hA.t5)
 refine ⟨rfl,G (b9.at a (.inRegion ops9b [0,1] :: .code rest9 :: k9b)) [bot],?_,fun k hk w hr₁=>?_,?_⟩
 ·have hst:=stepG_comm (P:=Tryd.prog) (main:=false) (b:=b9) (k:=.code rest9 :: k9b) (cs:=[bot]) (ops:=ops9b) (i:=0) (rest:=[1]) (o:=(ops9b[0]?).getD default) rfl (wanted_none rfl) early9 r1
  rw [listed_nil r2] at hst
  exact hst
 ·rw [served_G]
  have hF:WF (cfg Wg Ch Out Lz N RO Res) W0 bj bo vj El w:=hF.rely hW hr₁
  have hs:=hs.put (d:=6) (by decide) (.tuple #[.int .i64 (k:Int),.bool true])
  have hA:=hA.upd (d:=6) (v:=.tuple #[.int .i64 (k:Int),.bool true]) (by decide)
  refine opG_cons T early9 (opO_calcK T (v:=.bool true) rfl rfl (fun w=>run_extract rfl ((hs.2.2 6).trans rfl) rfl) fun w₁ hr=>?_)
  have hF:=hF.rely hW hr
  have hs:=hs.put (d:=7) (by decide) (.bool true)
  have hA:=hA.upd (d:=7) (v:=.bool true) (by decide)
  refine .ctl T rfl (fun _=>stepG_region_end) (.ctl T rfl (fun _=>stepG_seq) (.ctl T rfl (fun _=>stepG_cond ((hs.2.2 7).trans rfl)) (.ctl T rfl (fun _=>stepG_skip) (.ctl T rfl (fun _=>stepG_block) (.ctl T rfl (fun _=>stepG_seq) (.ctl T rfl (fun _=>stepG_region) ?_))))))
  refine opG_cons T early9 (opO_calcK T (v:=.int .i64 (k:Int)) rfl rfl (fun w=>run_extract rfl ((hs.2.2 6).trans rfl) rfl) fun w₂ hr₂=>?_)
  have hF:=hF.rely hW hr₂
  have hs:=hs.put (d:=8) (by decide) (.int .i64 (k:Int))
  have hA:=hA.upd (d:=8) (v:=.int .i64 (k:Int)) (by decide)
  refine opG_cons T early9 (opO_calcK T (v:=.int .i64 (k:Int)) rfl rfl (fun w=>run_assign rfl ((hs.2.2 8).trans rfl)) fun w₃ hr₃=>?_)
  have hF:=hF.rely hW hr₃
  have hs:=hs.put (d:=4) (by decide) (.int .i64 (k:Int))
  have hA:=hA.upd (d:=4) (v:=.int .i64 (k:Int)) (by decide)
  refine .ctl T rfl (fun _=>stepG_region_end) ?_
  exact walk3 hW hRes hk hOut hOW (hDo k hk) hs hA rfl hF
 ·rw [served_G]
  exact leave9 hW hjo hs hA hF
theorem anch9 (hW:Wh (cfg Wg Ch Out Lz N RO Res) W0 bj bo) (hjo:bj≠bo) (hRes:∀ k v1 v2 fin w w',Res k v1 v2 fin w->(∀ b,fin b->w'.heap[b]? = w.heap[b]?)->Res k v1 v2 fin w') (hOut:¬ RO Out) (hOW:Out≠Wg)
 (hDo:∀ k,k < N->∀ w,WF (cfg Wg Ch Out Lz N RO Res) W0 bj bo vj El w->CallsO Tryd.prog false (Kw (cfg Wg Ch Out Lz N RO Res)) 10 #[El k] ⟨noOwn,w⟩ fun v σ'=>(∃ x1 n1 c1 x2 n2 c2,v = .agg #[.slice x1 n1 c1,.slice x2 n2 c2]/\∃ fin,Res k (.slice x1 n1 c1) (.slice x2 n2 c2) fin σ'.w/\∀ b,fin b->σ'.own b\/RO b)/\WF (cfg Wg Ch Out Lz N RO Res) W0 bj bo vj El σ'.w)
 (g:Goroutine) (σ:GW) (h:Anch9 (cfg Wg Ch Out Lz N RO Res) W0 bj bo vj El g σ):GoesO Tryd.prog false (Kw (cfg Wg Ch Out Lz N RO Res)) (AtRecv (cfg Wg Ch Out Lz N RO Res) (Anch9 (cfg Wg Ch Out Lz N RO Res) W0 bj bo vj El)) g σ:=by
 obtain ⟨a,E,rfl,hs,hA,hF,ho⟩:=h
 obtain ⟨own,w⟩:=σ
 obtain rfl:own = noOwn:=ho
 have T:=Kw.ok (cfg Wg Ch Out Lz N RO Res)
 exact .ctl T rfl (fun _=>stepG_region_end) (.ctl T rfl (fun _=>stepG_inBlock) (.ctl T rfl (fun _=>stepG_inLoop) (recv9 hW hjo hRes hOut hOW hDo hs hA hF)))
noncomputable def call9 (bc bj bo Wg:Nat):Deferred:={ target:=.fn (.func 9) #[.pointer (some ⟨bc,0,none⟩),.pointer (some ⟨bj,0,none⟩),.pointer (some ⟨bo,0,none⟩),.pointer (some ⟨Wg,0,none⟩)],args:=#[] }
noncomputable def act9 (bc bj bo Wg:Nat):Act:=⟨#[.pointer (some ⟨bc,0,none⟩),.pointer (some ⟨bj,0,none⟩),.pointer (some ⟨bo,0,none⟩),.pointer (some ⟨Wg,0,none⟩),undef,undef,undef,undef,undef,undef,undef,undef,undef,undef,undef,undef,undef,undef],[]⟩
theorem born9 (w:World):stepG Tryd.prog false (born Tryd.prog (call9 bc bj bo Wg)) w = .go (G (b9.at (act9 bc bj bo Wg) [.code (.seq (.seq (.region 0 ops9a false) (.block 0 (.loop loop9))) (.region 4 ops9e false))]) [bot]) w #[]:=by
 have h9:Tryd.prog.funcs[9]? = some Tryd.f9:=Tryd.func9
 have hb:=body9_eq
 have hn:Tryd.f9.ntmps = 18:=rfl
 have hnm:(Tryd.f9.name == "runtime.NumGoroutine") = false:=by kernel_rfl
 have hn':Tryd.f9.name≠ "runtime.NumGoroutine":=by simpa using hnm
 simp [born,call9,act9,stepG,unwind,callDeferred,invoke,callFunc,h9,hb,hn,hn',seen,GStep.after,G,Frame.enter,Frame.at,b9,baseD,bot]
set_option maxRecDepth 100000 in
theorem work9 (hW:Wh (cfg Wg Ch Out Lz N RO Res) W0 bj bo) (hjo:bj≠bo) (hRes:∀ k v1 v2 fin w w',Res k v1 v2 fin w->(∀ b,fin b->w'.heap[b]? = w.heap[b]?)->Res k v1 v2 fin w') (hOut:¬ RO Out) (hOW:Out≠Wg)
 (hDo:∀ k,k < N->∀ w,WF (cfg Wg Ch Out Lz N RO Res) W0 bj bo vj El w->CallsO Tryd.prog false (Kw (cfg Wg Ch Out Lz N RO Res)) 10 #[El k] ⟨noOwn,w⟩ fun v σ'=>(∃ x1 n1 c1 x2 n2 c2,v = .agg #[.slice x1 n1 c1,.slice x2 n2 c2]/\∃ fin,Res k (.slice x1 n1 c1) (.slice x2 n2 c2) fin σ'.w/\∀ b,fin b->σ'.own b\/RO b)/\WF (cfg Wg Ch Out Lz N RO Res) W0 bj bo vj El σ'.w)
 {w:World} (hF:WF (cfg Wg Ch Out Lz N RO Res) W0 bj bo vj El w) (hbc:RO bc) (hc:w.cell? ⟨bc,0,none⟩ = some (.chan (some Ch))):
 GoesO Tryd.prog false (Kw (cfg Wg Ch Out Lz N RO Res)) (AtRecv (cfg Wg Ch Out Lz N RO Res) (Anch9 (cfg Wg Ch Out Lz N RO Res) W0 bj bo vj El)) (born Tryd.prog (call9 bc bj bo Wg)) ⟨noOwn,w⟩:=by
 have T:=Kw.ok (cfg Wg Ch Out Lz N RO Res)
 refine .ctl T rfl born9 (.ctl T rfl (fun _=>stepG_seq) (.ctl T rfl (fun _=>stepG_seq) (.ctl T rfl (fun _=>stepG_region) ?_)))
 refine opG_cons T early9 (opO_read (c:=(cfg Wg Ch Out Lz N RO Res)) (ad:=⟨bc,0,none⟩) rfl rfl hbc (fun w hc=>run_load45 rfl rfl hc) hc fun w₁ hr=>?_)
 have hF:=hF.rely hW hr
 refine .ctl T rfl (fun _=>stepG_region_end) (.ctl T rfl (fun _=>stepG_block) (.ctl T rfl (fun _=>stepG_loop) ?_))
 have hs0:Sh9 (fun j=>(act9 bc bj bo Wg).eval (.tmp j)) (act9 bc bj bo Wg):=⟨rfl,rfl,fun _=>rfl⟩
 exact recv9 hW hjo hRes hOut hOW hDo (hs0.put (d:=5) (by decide) (.chan (some Ch))) ⟨rfl,rfl,rfl,rfl⟩ hF
end
open Go.Conc Go.ConcN
open Go.ConcR (KK wgBlock WgAt stA smA rd wr mk Payload DC0 g_of_ofEvents)
variable [Payload]
def Ends (P:Program) (Post:Value->World->Prop) (g:Goroutine) (w:World) (t:Trace):Prop:=
 ∃ N last o w' t',runNT P (N + 1) (solo g w) t = (.ended o w',t')/\runN P N (solo g w) = .next last/\step P last = .ended o w'/\Conc.Good P Post last o w' t'
structure Tq (B:Nat) (t:Trace):Prop where
 g0:∀ op∈t,op.g = 0
 low:∀ op∈t,∀ x,op.act.touch? = some x->∀ ad,x.loc = .cell ad->ad.block < B
 still:∀ op∈t,op.act≠.mark .disable/\op.act≠.mark .enable/\∀ a,op.act≠.mark (.release a)
def LW (P:Program) (Post:Value->World->Prop) (g:Goroutine) (w:World):Prop:=∀ t,Tq w.heap.size t->Ends P Post g w t
def EvL (B:Nat) (e:Event):Prop:=(∃ a wr,e = ⟨.cell a,wr,false⟩/\a.block < B)\/e = ⟨.mark .noRoom,false,true⟩\/∃ b wr,e = ⟨.obj b,wr,true⟩
section
variable {P:Program} {Post:Value->World->Prop} {g g':Goroutine} {w w':World} {es:Array Event} {t:Trace}
theorem Ends.step {ops:Array MemOp} (h:stepT P (solo g w) = (.next (solo g' w'),ops)) (hn:Ends P Post g' w' (t ++ ops)):Ends P Post g w t:=by
 obtain ⟨N,last,o,w'',t',h1,h2,h3,h4⟩:=hn
 exact ⟨N + 1,last,o,w'',t',by rw [runNT_succ_next h];exact h1,by rw [runN_succ_next h];exact h2,h3,h4⟩
theorem Tq.app {B B':Nat} (h:Tq B t) (hB:B<=B') {u:Trace} (hu:Tq B' u):Tq B' (t ++ u):=by
 refine ⟨fun op hop=>?_,fun op hop=>?_,fun op hop=>?_⟩ <;> rcases Array.mem_append.1 hop with q | q
 ·exact h.g0 op q
 ·exact hu.g0 op q
 ·exact fun x hx ad e=>Nat.lt_of_lt_of_le (h.low op q x hx ad e) hB
 ·exact hu.low op q
 ·exact h.still op q
 ·exact hu.still op q
theorem Tq.events {B:Nat} (he:∀ e∈es,EvL B e) (fn:FuncId) (pos:String):Tq B (MemOp.ofEvents 0 fn pos es):=by
 have hops:∀ op∈MemOp.ofEvents 0 fn pos es,∃ e∈es,op.g = 0/\op.act = .ofEvent e:=by
  intro op hop
  rw [ofEvents_eq] at hop
  obtain ⟨e,he,rfl⟩:=Array.mem_map.1 hop
  exact ⟨e,he,rfl,rfl⟩
 refine ⟨fun op hop=>let ⟨_,_,h,_⟩:=hops op hop;h,fun op hop x hx ad e=>?_,fun op hop=>?_⟩
 ·obtain ⟨ev,hev,_,h2⟩:=hops op hop
  rw [h2] at hx
  rcases he ev hev with ⟨a,wr,rfl,hb⟩ | rfl | ⟨b,wr,rfl⟩
  ·simp [MemAct.ofEvent,MemAct.touch?] at hx
   subst hx
   simp at e
   subst e
   exact hb
  ·simp [MemAct.ofEvent,MemAct.touch?] at hx
  ·cases wr <;> simp [MemAct.ofEvent,MemAct.touch?] at hx
   subst hx
   cases e
 ·obtain ⟨ev,hev,_,h2⟩:=hops op hop
  rw [h2]
  rcases he ev hev with ⟨a,wr,rfl,hb⟩ | rfl | ⟨b,wr,rfl⟩
  ·refine ⟨?_,?_,fun a=>?_⟩ <;> simp [MemAct.ofEvent]
  ·refine ⟨?_,?_,fun a=>?_⟩ <;> simp [MemAct.ofEvent]
  ·cases wr <;> refine ⟨?_,?_,fun a=>?_⟩ <;> simp [MemAct.ofEvent]
theorem LW.go (hs:g.status = .running) (h:stepG P true g w = .go g' w' es) (hsz:w.heap.size<=w'.heap.size) (he:∀ e∈es,EvL w'.heap.size e) (hn:LW P Post g' w'):LW P Post g w:=
 fun _ ht=>.step ((stepT_solo hs).trans (runT_solo_go h)) (hn _ (ht.app hsz (Tq.events he _ _)))
theorem LW.ctl (hs:g.status = .running) (h:stepG P true g w = .go g' w #[]) (hn:LW P Post g' w):LW P Post g w:=.go hs h (Nat.le_refl _) (by simp) hn
theorem LW.send {g₂:Goroutine} {c cap s r:Nat} {buf:Array Value} {tm:Bool} {v z:Value} (hs:g.status = .running) (h:stepG P true g w = .comm g₂ #[scase c v z] true .send w #[]) (hc:w.heap[c]? = some (.chan cap buf false s r tm)) (hroom:buf.size < cap)
 (hn:LW P Post (Conc.served g₂ undef) (w.setChan c cap (buf.push v) false (s + 1) r tm)):LW P Post g w:=by
 intro t ht
 have h1:=crowd_send_room (P:=P) (gs:=#[g]) (sl:=none) (i:=0) rfl (by simpa using h) hc hroom (by rfl)
 rw [finishComm_send] at h1
 refine .step ((stepT_solo hs).trans h1) (hn _ (ht.app (by simp [World.setChan]) ?_))
 refine ⟨fun op hop=>?_,fun op hop x hx=>?_,fun op hop=>?_⟩ <;> simp [MemOp.ofEvents] at hop <;> rcases hop with rfl | rfl
 ·rfl
 ·rfl
 ·simp [MemAct.touch?] at hx
 ·simp [MemAct.touch?] at hx
 ·exact ⟨by simp,by simp,fun a=>by simp⟩
 ·exact ⟨by simp,by simp,fun a=>by simp⟩
end
section
variable {c:Cfg} {Post:Value->World->Prop} {a:Goroutine} {w:World}
theorem LW.lone {B:Nat} {σ:GW} (h:GoesO c.P true (Kt c B) (AtRet c Post B) a σ):∀ t:Trace,(∀ op∈t,op.g = 0)->Ends c.P Post a σ.w t:=by
 have refl:∀ σ:GW,(Kt c B).R σ σ.w:=kt_refl B
 induction h with
 | @stop g σ h=>
  intro t h0
  obtain ⟨hr,v,es,hst,_,hp⟩:=h σ.w (refl σ)
  have hst:=stepT_solo (P:=c.P) (w:=σ.w) hr |>.trans (runT_crowd_ended (P:=c.P) (gs:=#[g]) (w:=σ.w) (sl:=none) (i:=0) rfl (by simpa using hst))
  have h0':∀ op∈t ++ MemOp.ofEvents 0 g.frame.fn g.frame.place es,op.g = 0:=by
   intro op hop
   rcases Array.mem_append.1 hop with q | q
   ·exact h0 op q
   ·rw [ofEvents_eq] at q
    obtain ⟨e,he,rfl⟩:=Array.mem_map.1 q
    rfl
  refine ⟨0,solo g σ.w,_,σ.w,t ++ MemOp.ofEvents 0 g.frame.fn g.frame.place es,by simp [runNT,hst],rfl,by rw [step,hst],v,rfl,hp,?_,?_,⟨fun g' hg'=>?_,rfl⟩,fun i g' hg' hi=>?_⟩
  ·exact (CT.lone (Sh:=fun _=>False) (Own:=fun _ _=>False) (Rd:=fun _ _=>False) h0' fun op hop x hx h=>h).nr
  ·exact handedOver_of_allBy (Trace.allBy_of_forall fun o ho=>.inr (h0' o ho))
  ·simp [solo] at hg'
  ·cases i with
   | zero=>exact absurd rfl hi
   | succ i=>simp [solo] at hg'
 | @step g σ nx ns ne hs h hn ih=>
  intro t h0
  obtain ⟨h1,_⟩:=h σ.w (refl σ)
  refine .step ((stepT_solo hs).trans (runT_solo_go h1)) (ih σ.w (refl σ) _ fun op hop=>?_)
  rcases Array.mem_append.1 hop with q | q
  ·exact h0 op q
  ·rw [ofEvents_eq] at q
   obtain ⟨e,he,rfl⟩:=Array.mem_map.1 q
   rfl
theorem LW.crowd {n:Nat} {Anch:Goroutine->GW->Prop} {AnW:Goroutine->World->Prop} (G:Geo c.Wg c.Ch c.Out c.Lz c.RO) (hRes:∀ k v1 v2 fin w w',c.Res k v1 v2 fin w->(∀ b,fin b->w'.heap[b]? = w.heap[b]?)->c.Res k v1 v2 fin w') (hAn:∀ g σ,Anch g σ->GoesO c.P false (Kw c) (AtRecv c Anch) g σ)
 (hAnW:∀ g w,AnW g w->GP c (AtW10 c AnW Post) g w) (hn:n < 2147483648) (hn1:1<=n) (hg:GP c (AtSp c Anch AnW n) a w) (hwg:WgAt c.ty c.Wg w 0 0) (hch:ChAt c 0 w) (hout:OutAt c w) (hlz:c.Lz<=w.heap.size) {t:Trace} (ht:Tq c.Wg t) (hW:c.Wg < w.heap.size):Ends c.P Post a w t:=by
 refine crowd_ends G hRes hAn hAnW hn hn1 hg hwg hch hout hlz ht.g0 (fun op hop x hx=>⟨?_,fun ad e=>Nat.lt_trans (ht.low op hop x hx ad e) hW⟩) fun op hop=>⟨(ht.still op hop).1,(ht.still op hop).2.1,(ht.still op hop).2.2 _⟩
 rintro ⟨ad,e,hb⟩
 have:=ht.low op hop x hx ad e
 omega
end
open Go.Conc Go.ConcN Go.Proofs Go.RowKit
open Go.ConcR (KK wgBlock WgAt stA smA rd wr mk Payload DC0)
section
variable {a:Act} {o:Oper} {w:World} {x y:Operand} {ad:Addr} {v:Value}
theorem run_box22 {b:Option Addr} {n c:Nat} (hop:o.op = .box 22 x) (hx:a.eval x = .slice b n c):(execOp a.eval o).run Tryd.prog w = .ok (.value (.pointer (some ⟨w.heap.size,0,none⟩))) { w with heap:=w.heap.push (.cells #[.slice b n c] 22) }/\(execOp a.eval o).events Tryd.prog w #[] = #[]:=by
 unfold execOp;simp only [hop,hx];simp [go_sem]
theorem run_alloc23 (hop:o.op = .alloc 23):(execOp a.eval o).run Tryd.prog w = .ok (.value (.pointer (some ⟨w.heap.size,0,none⟩))) { w with heap:=w.heap.push (.cells #[.slice none 0 0] 23) }/\(execOp a.eval o).events Tryd.prog w #[] = #[]:=by
 unfold execOp;simp only [hop];simp [go_sem]
theorem run_alloc45 (hop:o.op = .alloc 45):(execOp a.eval o).run Tryd.prog w = .ok (.value (.pointer (some ⟨w.heap.size,0,none⟩))) { w with heap:=w.heap.push (.cells #[.chan none] 45) }/\(execOp a.eval o).events Tryd.prog w #[] = #[]:=by
 unfold execOp;simp only [hop];simp [go_sem]
theorem run_alloc55 (hop:o.op = .alloc 55):(execOp a.eval o).run Tryd.prog w = .ok (.value (.pointer (some ⟨w.heap.size,0,none⟩))) { w with heap:=w.heap.push (.cells #[.int .u64 0,.int .u32 0] 55) }/\(execOp a.eval o).events Tryd.prog w #[] = #[]:=by
 unfold execOp;simp only [hop];simp [go_sem]
theorem run_send {b:Nat} {v:Value} (hop:o.op = .send x y) (hx:a.eval x = .chan (some b)) (hy:a.eval y = v):(execOp a.eval o).run Tryd.prog w = .ok (.comm #[scase b v (.tuple #[])] true .send) w/\(execOp a.eval o).events Tryd.prog w #[] = #[]:=by
 unfold execOp;simp only [hop,hx,hy];simp [go_sem,scase]
theorem run_len22 {b:Option Addr} {n c:Nat} (hop:o.op = .call ⟨.builtin .len,#[x],#[22]⟩) (hx:a.eval x = .slice b n c):(execOp a.eval o).run Tryd.prog w = .ok (.value (.int .i64 n)) w/\(execOp a.eval o).events Tryd.prog w #[] = #[]:=by
 have hm:(#[x].map a.eval) = #[.slice b n c]:=by simp only [List.map_toArray,List.map_cons,List.map_nil,hx]
 unfold execOp resolve;simp only [hop,hm];simp [go_sem,invoke]
theorem run_makeChan {n:Nat} (hop:o.op = .makeChan 45 x) (hx:a.eval x = .int .i64 n) (hn:8 * n<=2 ^ 48 - 112):(execOp a.eval o).run Tryd.prog w = .ok (.value (.chan (some w.heap.size))) { w with heap:=w.heap.push (.chan n #[] false 0 0 false) }/\(execOp a.eval o).events Tryd.prog w #[] = #[]:=by
 have h1:(n:Int)<=9223372036854775807:=by omega
 have hb:Tryd.t3.bytes = 8:=by kernel_rfl
 have h3:((8:Nat):Int) * n<=281474976710544:=by omega
 unfold execOp;simp only [hop,hx];simp [go_sem,Instr.makeChan,hb,h1]
 omega
theorem run_getObj {P:Program} {b n s r:Nat} {buf:Array Value} {c t:Bool} (hb:w.heap[b]? = some (.chan n buf c s r t)):(getObj b).run P w = .ok (.chan n buf c s r t) w:=by
 simp [getObj,Sem.run,hb]
theorem ev_getObj {P:Program} {b n s r:Nat} {buf:Array Value} {c t:Bool} {es:Array Event} (hb:w.heap[b]? = some (.chan n buf c s r t)):(getObj b).events P w es = es.push ⟨.obj b,false,true⟩:=by
 simp [getObj,Sem.events,Sem.runT,hb,-Sem.runT_eq]
 rfl
theorem run_setObj {P:Program} {b n s r:Nat} {buf:Array Value} {c t:Bool} {ob':Obj} (hb:w.heap[b]? = some (.chan n buf c s r t)):(setObj b ob').run P w = .ok () { w with heap:=w.heap.setIfInBounds b ob' }:=by
 simp [setObj,Sem.run,hb]
theorem ev_setObj {P:Program} {b n s r n' s' r':Nat} {buf buf':Array Value} {c t c' t':Bool} {es:Array Event} (hb:w.heap[b]? = some (.chan n buf c s r t)):(setObj b (.chan n' buf' c' s' r' t')).events P w es = es.push ⟨.obj b,true,true⟩:=by
 simp [setObj,Sem.events,Sem.runT,hb,-Sem.runT_eq]
 rfl
theorem ev_askRoom {P:Program} {n:Nat}:∀ e∈(askRoom n).events P w #[],e = ⟨.mark .noRoom,false,true⟩:=by
 unfold askRoom
 split
 ·simp [mark,Sem.events,Sem.runT,-Sem.runT_eq]
 ·simp [Sem.events,Sem.runT,-Sem.runT_eq,pure]
theorem run_close {b n s r:Nat} {buf:Array Value} {t:Bool} (hop:o.op = .call ⟨.builtin .close,#[x],#[45]⟩) (hx:a.eval x = .chan (some b)) (hb:w.heap[b]? = some (.chan n buf false s r t)):(execOp a.eval o).run Tryd.prog w = .ok (.value (.tuple #[])) (w.setChan b n buf true s r t)/\(execOp a.eval o).events Tryd.prog w #[] = #[⟨.obj b,false,true⟩,⟨.obj b,true,true⟩]:=by
 have hm:(#[x].map a.eval) = #[.chan (some b)]:=by simp only [List.map_toArray,List.map_cons,List.map_nil,hx]
 have e:Builtin.close_ #[45] o.type #[.chan (some b)] = (do
  let .chan room buf closed sent received timer <- getObj b | stuck "close: no channel in this block"
  if closed then runtimePanic (.plain "close of closed channel")
  setObj b (.chan room buf true sent received timer)
  pure (.tuple #[])):=rfl
 unfold execOp resolve;simp only [hop,hm];simp [go_sem,invoke,e,World.setChan,run_getObj hb,ev_getObj hb,run_setObj hb,ev_setObj hb]
theorem run_makeSlice {n:Nat} (hop:o.op = .makeSlice 23 x x) (hx:a.eval x = .int .i64 n) (hn:48 * n<=2 ^ 48):∃ cs:Array Value,cs.size = 2 * n/\(execOp a.eval o).run Tryd.prog w = .ok (.value (.slice (some ⟨w.heap.size,0,none⟩) n n)) { w with heap:=w.heap.push (.cells cs 42) }/\∀ e∈(execOp a.eval o).events Tryd.prog w #[],e = ⟨.mark .noRoom,false,true⟩:=by
 have h1:IntKind.i64.wrap (n:Int) = n:=by rw [IntKind.wrap_i64];omega
 have h2:¬ ((n:Int) < 0):=by omega
 have hb:Tryd.t42.bytes = 48:=by kernel_rfl
 have h3:¬ ((281474976710656:Int) < 48 * (n:Int)):=by omega
 have h4:¬ ((281474976710656:Int) < ((48:Nat):Int) * (n:Int)):=by omega
 by_cases hz:n * 2 = 0
 ·refine ⟨(Array.range (n * 2)).map fun _=>default,by simp;omega,?_,?_⟩
  ·unfold execOp;simp only [hop,hx];simp [go_sem,Instr.makeSlice,h1,h2,hb,h3,hz]
  ·unfold execOp;simp only [hop,hx];simp [go_sem,Instr.makeSlice,h1,h2,hb,h3,hz]
   exact ev_askRoom
 ·refine ⟨(Array.range (n * 2)).map fun i=>[Value.slice none 0 0,Value.slice none 0 0][i % 2]?.getD default,by simp;omega,?_,?_⟩
  ·unfold execOp;simp only [hop,hx];simp [go_sem,Instr.makeSlice,h1,h2,hb,h3,hz]
  ·unfold execOp;simp only [hop,hx];simp [go_sem,Instr.makeSlice,h1,h2,hb,h3,hz]
   exact ev_askRoom
theorem run_store23 {b:Option Addr} {n c:Nat} {u:Value} (hop:o.op = .store 23 x y) (hx:a.eval x = .pointer (some ad)) (hy:a.eval y = .slice b n c) (hc:w.cell? ad = some u) (hz:w.frozen? ad = false):
 (execOp a.eval o).run Tryd.prog w = .ok .skip (w.setCell ad (.slice b n c))/\(execOp a.eval o).events Tryd.prog w #[] = #[⟨.cell ad,true,false⟩]:=by
 unfold execOp;simp only [hop,hx,hy];simp [go_sem,stored,storedEv,hc,hz,ev_store hc hz]
theorem run_store45 {b:Option Nat} {u:Value} (hop:o.op = .store 45 x y) (hx:a.eval x = .pointer (some ad)) (hy:a.eval y = .chan b) (hc:w.cell? ad = some u) (hz:w.frozen? ad = false):
 (execOp a.eval o).run Tryd.prog w = .ok .skip (w.setCell ad (.chan b))/\(execOp a.eval o).events Tryd.prog w #[] = #[⟨.cell ad,true,false⟩]:=by
 unfold execOp;simp only [hop,hx,hy];simp [go_sem,stored,storedEv,hc,hz]
theorem run_move {P:Program} {v:Value} (hop:o.op = .move x\/o.op = .assign x) (hx:a.eval x = v):(execOp a.eval o).run P w = .ok (.value v) w/\(execOp a.eval o).events P w #[] = #[]:=by
 rcases hop with hop | hop <;> (unfold execOp;simp only [hop,hx];simp [go_sem])
theorem run_lss {m n:Int} {e:TypeId} (hop:o.op = .binOp .lss 3 x y e) (hx:a.eval x = .int .i64 m) (hy:a.eval y = .int .i64 n):(execOp a.eval o).run Tryd.prog w = .ok (.value (.bool (decide (m < n)))) w/\(execOp a.eval o).events Tryd.prog w #[] = #[]:=by
 unfold execOp;simp only [hop,hx,hy];simp [go_sem,eqGuard]
theorem run_gtr {m n:Int} {e:TypeId} (hop:o.op = .binOp .gtr 3 x y e) (hx:a.eval x = .int .i64 m) (hy:a.eval y = .int .i64 n):(execOp a.eval o).run Tryd.prog w = .ok (.value (.bool (decide (n < m)))) w/\(execOp a.eval o).events Tryd.prog w #[] = #[]:=by
 unfold execOp;simp only [hop,hx,hy];simp [go_sem,eqGuard]
theorem run_add {m n:Int} {e:TypeId} (hop:o.op = .binOp .add 3 x y e) (hx:a.eval x = .int .i64 m) (hy:a.eval y = .int .i64 n):(execOp a.eval o).run Tryd.prog w = .ok (.value (.int .i64 (IntKind.i64.wrap (m + n)))) w/\(execOp a.eval o).events Tryd.prog w #[] = #[]:=by
 unfold execOp;simp only [hop,hx,hy];simp [go_sem,eqGuard]
theorem run_pick {P:Program} {c:Operand} {t:Bool} (hop:o.op = .pick c x y) (hc:a.eval c = .bool t):(execOp a.eval o).run P w = .ok (.value (if t then a.eval x else a.eval y)) w/\(execOp a.eval o).events P w #[] = #[]:=by
 unfold execOp;simp only [hop,hc];cases t <;> simp [go_sem]
theorem run_makeFunc {P:Program} {f:FuncId} {ys:Array Operand} (hop:o.op = .makeFunc (.func f) #[] ys):(execOp a.eval o).run P w = .ok (.value (.func (.func f) #[] (ys.map a.eval))) w/\(execOp a.eval o).events P w #[] = #[]:=by
 unfold execOp;simp only [hop];simp [go_sem,Instr.makeFunc]
end
structure Hp (W:World) (N:Nat) (vj:Value) (n:Nat) (w:World):Prop where
 sz:w.heap.size = W.heap.size + n
 bl:Below W.heap.size W w
 h0:0 < n->w.heap[W.heap.size]? = some (.cells #[vj] 22)
 h1:1 < n->∃ cs:Array Value,cs.size = 2 * N/\w.heap[W.heap.size + 1]? = some (.cells cs 42)
 h2:2 < n->w.heap[W.heap.size + 2]? = some (.cells #[.slice (some ⟨W.heap.size + 1,0,none⟩) N N] 23)
 h4:4 < n->w.heap[W.heap.size + 4]? = some (.cells #[.chan (some (W.heap.size + 3))] 45)
section
variable {W w w':World} {N n:Nat} {vj:Value}
theorem Hp.push (h:Hp W N vj n w) {o:Obj} (e:w'.heap = w.heap.push o) (et:w'.tape = w.tape) (eo:w'.os = w.os) (ep:w'.output = w.output) (q0:n = 0->o = .cells #[vj] 22) (q1:n = 1->∃ cs:Array Value,cs.size = 2 * N/\o = .cells cs 42)
 (q2:n = 2->o = .cells #[.slice (some ⟨W.heap.size + 1,0,none⟩) N N] 23) (q4:n = 4->o = .cells #[.chan (some (W.heap.size + 3))] 45):Hp W N vj (n + 1) w':=by
 have hs:=h.sz
 have hg:∀ b,w'.heap[b]? = if b = W.heap.size + n then some o else w.heap[b]?:=fun b=>by rw [e,Array.getElem?_push,hs]
 refine ⟨by rw [e,Array.size_push,hs];omega,h.bl.trans ⟨eo,et,ep,by rw [e,Array.size_push];omega,fun b hb=>by rw [hg,if_neg (by omega)]⟩,fun hn=>?_,fun hn=>?_,fun hn=>?_,fun hn=>?_⟩
 ·rw [hg]
  by_cases hz:n = 0
  ·rw [if_pos (by omega),q0 hz]
  ·rw [if_neg (by omega)];exact h.h0 (by omega)
 ·by_cases hz:n = 1
  ·obtain ⟨cs,h1,h2⟩:=q1 hz
   exact ⟨cs,h1,by rw [hg,if_pos (by omega),h2]⟩
  ·obtain ⟨cs,h1,h2⟩:=h.h1 (by omega)
   exact ⟨cs,h1,by rw [hg,if_neg (by omega)];exact h2⟩
 ·rw [hg]
  by_cases hz:n = 2
  ·rw [if_pos (by omega),q2 hz]
  ·rw [if_neg (by omega)];exact h.h2 (by omega)
 ·rw [hg]
  by_cases hz:n = 4
  ·rw [if_pos (by omega),q4 hz]
  ·rw [if_neg (by omega)];exact h.h4 (by omega)
theorem Hp.chan (h:Hp W N vj n w) (cap:Nat) (buf:Array Value) (cl:Bool) (s r:Nat) (tm:Bool):Hp W N vj n (w.setChan (W.heap.size + 3) cap buf cl s r tm):=by
 have hg:∀ b,b≠W.heap.size + 3->(w.setChan (W.heap.size + 3) cap buf cl s r tm).heap[b]? = w.heap[b]?:=fun b hb=>by simp only [World.setChan];rw [Array.getElem?_setIfInBounds_ne (Ne.symm hb)]
 refine ⟨by simp [World.setChan,h.sz],h.bl.trans ⟨rfl,rfl,rfl,by simp [World.setChan],fun b hb=>hg b (by omega)⟩,fun hn=>(hg _ (by omega)).trans (h.h0 hn),fun hn=>?_,fun hn=>(hg _ (by omega)).trans (h.h2 hn),fun hn=>(hg _ (by omega)).trans (h.h4 hn)⟩
 obtain ⟨cs,h1,h2⟩:=h.h1 hn
 exact ⟨cs,h1,(hg _ (by omega)).trans h2⟩
theorem push_set (w:World) (u v:Value) (T:TypeId):({ w with heap:=w.heap.push (.cells #[u] T) }:World).setCell ⟨w.heap.size,0,none⟩ v = { w with heap:=w.heap.push (.cells #[v] T) }:=by
 simp only [World.setCell]
 congr 1
 apply Array.ext_getElem?
 intro b
 rw [Array.getElem?_modify,Array.getElem?_push,Array.getElem?_push]
 by_cases e:b = w.heap.size
 ·subst e;simp
 ·rw [if_neg (Ne.symm e),if_neg e,if_neg e]
end
open Go.Conc Go.ConcN Go.Proofs Go.RowKit
open Go.ConcR (KK wgBlock WgAt stA smA rd wr mk Payload DC0)
section
variable {P:Program} {Post:Value->World->Prop} {b:Frame} {a:Act} {k:List Item} {cs:List Frame} {ops:Array Oper} {i:Nat} {rest:List Nat} {o:Oper} {v:Value} {w w':World} {es:Array Event}
theorem LW.opw (hk:b.kind≠.early) (ho:ops[i]? = some o) (hw:Region.wanted o (yielded ops a.tmps) = true) (hx:(execOp a.eval o).run P w = .ok (.value v) w'/\(execOp a.eval o).events P w #[] = es) (hsz:w.heap.size<=w'.heap.size) (he:∀ e∈es,EvL w'.heap.size e)
 (hn:LW P Post (G (b.at (a.put o.dst v) (.inRegion ops rest :: k)) cs) w'):LW P Post (G (b.at a (.inRegion ops (i :: rest) :: k)) cs) w:=
 .go rfl (stepG_value ho hw hk hx.1) hsz (fun e h=>he e (hx.2 ▸ mem_listed h)) hn
theorem LW.op (hk:b.kind≠.early) (ho:ops[i]? = some o) (hg:o.guard = none) (hx:(execOp a.eval o).run P w = .ok (.value v) w'/\(execOp a.eval o).events P w #[] = es) (hsz:w.heap.size<=w'.heap.size) (he:∀ e∈es,EvL w'.heap.size e)
 (hn:LW P Post (G (b.at (a.put o.dst v) (.inRegion ops rest :: k)) cs) w'):LW P Post (G (b.at a (.inRegion ops (i :: rest) :: k)) cs) w:=.opw hk ho (wanted_none hg) hx hsz he hn
theorem LW.op0 (hk:b.kind≠.early) (ho:ops[i]? = some o) (hg:o.guard = none) (hx:(execOp a.eval o).run P w = .ok (.value v) w/\(execOp a.eval o).events P w #[] = #[])
 (hn:LW P Post (G (b.at (a.put o.dst v) (.inRegion ops rest :: k)) cs) w):LW P Post (G (b.at a (.inRegion ops (i :: rest) :: k)) cs) w:=.op hk ho hg hx (Nat.le_refl _) (by simp) hn
theorem LW.ld {ad:Addr} {wr:Bool} {u:Value} (hk:b.kind≠.early) (ho:ops[i]? = some o) (hg:o.guard = none) (hc:w.cell? ad = some u) (hx:(execOp a.eval o).run P w = .ok (.value v) w/\(execOp a.eval o).events P w #[] = #[⟨.cell ad,wr,false⟩])
 (hn:LW P Post (G (b.at (a.put o.dst v) (.inRegion ops rest :: k)) cs) w):LW P Post (G (b.at a (.inRegion ops (i :: rest) :: k)) cs) w:=
 .op hk ho hg hx (Nat.le_refl _) (fun e he=>by rw [Array.mem_singleton] at he;subst he;exact .inl ⟨ad,wr,rfl,cell_lt hc⟩) hn
theorem LW.none (hk:b.kind≠.early) (ho:ops[i]? = some o) (hg:o.guard = none) (hx:(execOp a.eval o).run P w = .ok .skip w'/\(execOp a.eval o).events P w #[] = es) (hsz:w.heap.size<=w'.heap.size) (he:∀ e∈es,EvL w'.heap.size e)
 (hn:LW P Post (G (b.at (a.put o.dst undef) (.inRegion ops rest :: k)) cs) w'):LW P Post (G (b.at a (.inRegion ops (i :: rest) :: k)) cs) w:=
 .go rfl (stepG_none ho (wanted_none hg) hk hx.1) hsz (fun e h=>he e (hx.2 ▸ mem_listed h)) hn
theorem LW.skip (ho:ops[i]? = some o) (hw:Region.wanted o (yielded ops a.tmps) = false) (hn:LW P Post (G (b.at (a.put o.dst undef) (.inRegion ops rest :: k)) cs) w):LW P Post (G (b.at a (.inRegion ops (i :: rest) :: k)) cs) w:=
 .ctl rfl (stepG_unwanted ho hw) hn
end
def ShA (n:Nat) (E:Nat->Value) (a:Act):Prop:=a.defers = []/\a.tmps.size = n/\∀ j,a.eval (.tmp j) = E j
theorem ShA.put {n:Nat} {E:Nat->Value} {a:Act} (h:ShA n E a) {d:Nat} (hd:d < n) (v:Value):ShA n (upd9 E d v) (a.put (some d) v):=
 ⟨by rw [put_defers];exact h.1,by rw [put_size];exact h.2.1,fun j=>by rw [put_eval (by rw [h.2.1];exact hd)];simp only [upd9,h.2.2 j]⟩
theorem ShA.none {n:Nat} {E:Nat->Value} {a:Act} (h:ShA n E a):ShA n E (a.put Option.none undef):=h
noncomputable def sndc:Code->Code | .seq _ c=>c | _=>.skip
noncomputable def fstc:Code->Code | .seq c _=>c | _=>.skip
noncomputable def regc:Code->Array Oper | .region _ o _=>o | _=>#[]
noncomputable def inc:Code->Code | .block _ c=>c | .loop c=>c | .cond _ c _=>c | _=>.skip
noncomputable def c4:Code:=Tryd.f4.body.getD .skip
noncomputable def c4a:Code:=sndc c4
noncomputable def c4b:Code:=sndc c4a
noncomputable def c4c:Code:=sndc c4b
noncomputable def c4d:Code:=sndc c4c
noncomputable def c4e:Code:=sndc c4d
noncomputable def c4f:Code:=sndc c4e
noncomputable def c4g:Code:=sndc c4f
noncomputable def c4h:Code:=sndc c4g
noncomputable def c4i:Code:=sndc c4h
noncomputable def lp1:Code:=inc (inc (sndc (fstc c4d)))
noncomputable def lp2:Code:=inc (inc (sndc (fstc c4g)))
noncomputable def o4a:Array Oper:=regc (fstc c4)
noncomputable def o4b:Array Oper:=regc (fstc (fstc c4a))
noncomputable def o4c:Array Oper:=regc (fstc (inc (sndc (fstc c4a))))
noncomputable def o4d:Array Oper:=regc (fstc c4b)
noncomputable def o4e:Array Oper:=regc (fstc c4c)
noncomputable def o4f:Array Oper:=regc (fstc (fstc c4d))
noncomputable def o4g:Array Oper:=regc (fstc lp1)
noncomputable def o4h:Array Oper:=regc (fstc (inc (fstc (sndc (sndc lp1)))))
noncomputable def o4i:Array Oper:=regc (sndc (inc (fstc (sndc (sndc lp1)))))
noncomputable def o4j:Array Oper:=regc (sndc (sndc (sndc lp1)))
noncomputable def o4k:Array Oper:=regc (fstc c4e)
noncomputable def o4l:Array Oper:=regc (fstc c4f)
noncomputable def o4m:Array Oper:=regc (fstc (fstc c4g))
noncomputable def o4n:Array Oper:=regc (fstc lp2)
noncomputable def o4o:Array Oper:=regc (fstc (inc (fstc (sndc (sndc lp2)))))
noncomputable def o4p:Array Oper:=regc (sndc (inc (fstc (sndc (sndc lp2)))))
noncomputable def o4q:Array Oper:=regc (sndc (sndc (sndc lp2)))
noncomputable def o4r:Array Oper:=regc (fstc c4h)
noncomputable def o4s:Array Oper:=regc (fstc c4i)
theorem c4_eq:c4 = .seq (.region 0 o4a false) c4a:=rfl
theorem c4a_eq:c4a = .seq (.seq (.region 1 o4b false) (.cond (.tmp 15) (.seq (.region 2 o4c false) .ret) .skip)) c4b:=rfl
theorem c4b_eq:c4b = .seq (.region 3 o4d false) c4c:=rfl
theorem c4c_eq:c4c = .seq (.region 4 o4e false) c4d:=rfl
theorem c4d_eq:c4d = .seq (.seq (.region 5 o4f false) (.block 0 (.loop lp1))) c4e:=rfl
theorem c4e_eq:c4e = .seq (.region 10 o4k false) c4f:=rfl
theorem c4f_eq:c4f = .seq (.region 11 o4l false) c4g:=rfl
theorem c4g_eq:c4g = .seq (.seq (.region 12 o4m false) (.block 2 (.loop lp2))) c4h:=rfl
theorem c4h_eq:c4h = .seq (.region 17 o4r false) c4i:=rfl
theorem c4i_eq:c4i = .seq (.region 18 o4s false) .ret:=rfl
theorem lp1_eq:lp1 = .seq (.region 6 o4g false) (.seq (.cond (.tmp 25) .skip (.exit 0)) (.seq (.block 1 (.seq (.region 7 o4h false) (.region 8 o4i false))) (.region 9 o4j false))):=rfl
theorem lp2_eq:lp2 = .seq (.region 13 o4n false) (.seq (.cond (.tmp 33) .skip (.exit 2)) (.seq (.block 3 (.seq (.region 14 o4o false) (.region 15 o4p false))) (.region 16 o4q false))):=rfl
theorem f4_body:Tryd.f4.body = some c4:=rfl
noncomputable def b4:Frame:=base 4
theorem early4:b4.kind≠.early:=by simp [b4,base]
variable [Payload]
section
variable {Post:Value->World->Prop} {cs:List Frame} {W:World} {hands:Int} {vj:Value} {j0:Option Addr} {N cap:Nat}
structure A4 (hands:Int) (s0:Nat) (E:Nat->Value):Prop where
 t0:E 0 = .int .i64 hands
 t3:E 3 = .pointer (some ⟨s0,0,none⟩)
 t6:E 6 = .pointer (some ⟨s0 + 2,0,none⟩)
 t7:E 7 = .pointer (some ⟨s0 + 4,0,none⟩)
noncomputable def jobsTo (r:Nat):Array Value:=((List.range r).map fun (k:Nat)=>Value.int .i64 (k:Int)).toArray
theorem jobsTo_succ (r:Nat):(jobsTo r).push (.int .i64 (r:Int)) = jobsTo (r + 1):=by
 simp [jobsTo,List.range_succ]
theorem jobsTo_size (r:Nat):(jobsTo r).size = r:=by simp [jobsTo]
theorem cell0 {w:World} {b:Nat} {v:Value} {T:TypeId} (h:w.heap[b]? = some (.cells #[v] T)):w.cell? ⟨b,0,none⟩ = some v:=by simp [World.cell?,h]
theorem sends (hN:N < 2 ^ 62) (hK:∀ a w E,ShA 39 E a->A4 hands W.heap.size E->Hp W N vj 5 w->w.heap[W.heap.size + 3]? = some (.chan N (jobsTo N) false N 0 false)->LW Tryd.prog Post (G (b4.at a [.code c4e]) cs) w):
 ∀ (m r:Nat) (a:Act) (w:World) (E:Nat->Value),r + m = N->ShA 39 E a->A4 hands W.heap.size E->E 23 = .int .i64 (N:Int)->E 24 = .int .i64 (r:Int)->Hp W N vj 5 w->w.heap[W.heap.size + 3]? = some (.chan N (jobsTo r) false r 0 false) ->
  LW Tryd.prog Post (G (b4.at a [.code lp1,.inLoop lp1,.inBlock 0,.code c4e]) cs) w:=by
 have early4:=early4
 intro m
 induction m with
 | zero=>
  intro r a w E hr hs hA h23 h24 hH hC
  obtain rfl:r = N:=by omega
  rw [lp1_eq]
  refine .ctl rfl stepG_seq (.ctl rfl stepG_region ?_)
  refine .op0 early4 rfl rfl (run_lss rfl ((hs.2.2 24).trans h24) ((hs.2.2 23).trans h23)) ?_
  have hs:=hs.put (d:=25) (by decide) (.bool (decide ((r:Int) < (r:Int))))
  refine .ctl rfl stepG_region_end (.ctl rfl stepG_seq (.ctl rfl (stepG_cond (t:=false) ((hs.2.2 25).trans (by simp [upd9]))) (.ctl rfl (stepG_exit rfl) ?_)))
  exact hK _ w _ hs ⟨hA.t0,hA.t3,hA.t6,hA.t7⟩ hH hC
 | succ m ih=>
  intro r a w E hr hs hA h23 h24 hH hC
  rw [lp1_eq]
  refine .ctl rfl stepG_seq (.ctl rfl stepG_region ?_)
  refine .op0 early4 rfl rfl (run_lss rfl ((hs.2.2 24).trans h24) ((hs.2.2 23).trans h23)) ?_
  have hlt:decide ((r:Int) < (N:Int)) = true:=by simp;omega
  have hs:=hs.put (d:=25) (by decide) (.bool (decide ((r:Int) < (N:Int))))
  refine .ctl rfl stepG_region_end (.ctl rfl stepG_seq (.ctl rfl (stepG_cond (t:=true) ((hs.2.2 25).trans (by simp only [upd9,if_true];rw [hlt]))) (.ctl rfl stepG_skip (.ctl rfl stepG_seq (.ctl rfl stepG_block (.ctl rfl stepG_seq (.ctl rfl stepG_region ?_)))))))
  refine .op0 early4 rfl rfl (run_move (.inl rfl) ((hs.2.2 24).trans h24)) ?_
  have hs:=hs.put (d:=26) (by decide) (.int .i64 (r:Int))
  refine .op0 early4 rfl rfl (run_move (.inr rfl) ((hs.2.2 26).trans rfl)) ?_
  have hs:=hs.put (d:=8) (by decide) (.int .i64 (r:Int))
  refine .ctl rfl stepG_region_end (.ctl rfl stepG_region ?_)
  have hc7:=cell0 (hH.h4 (by omega))
  refine .ld early4 rfl rfl hc7 (run_load45 rfl ((hs.2.2 7).trans hA.t7) hc7) ?_
  have hs:=hs.put (d:=27) (by decide) (.chan (some (W.heap.size + 3)))
  refine .op0 early4 rfl rfl (run_move (.inl rfl) ((hs.2.2 8).trans rfl)) ?_
  have hs:=hs.put (d:=28) (by decide) (.int .i64 (r:Int))
  obtain ⟨r1,r2⟩:=run_send (b:=W.heap.size + 3) (v:=.int .i64 (r:Int)) (w:=w) (o:=(o4i[2]?).getD default) rfl ((hs.2.2 27).trans rfl) ((hs.2.2 28).trans rfl)
  have hst:=stepG_comm (P:=Tryd.prog) (main:=true) (b:=b4) (k:=[.inBlock 1,.code (.region 9 o4j false),.inLoop lp1,.inBlock 0,.code c4e]) (cs:=cs) (ops:=o4i) (i:=2) (rest:=[]) (o:=(o4i[2]?).getD default) rfl (wanted_none rfl) early4 r1
  rw [listed_nil r2] at hst
  refine LW.send rfl hst hC (by rw [jobsTo_size];omega) ?_
  rw [served_G,jobsTo_succ,show ((o4i[2]?).bind fun x=>x.dst) = Option.none from rfl]
  have hs:ShA 39 _ (Act.put _ Option.none undef):=hs.none
  have hC':=hC
  have hlt':W.heap.size + 3 < w.heap.size:=by rw [hH.sz];omega
  have hH:=hH.chan N (jobsTo (r + 1)) false (r + 1) 0 false
  have hC:(w.setChan (W.heap.size + 3) N (jobsTo (r + 1)) false (r + 1) 0 false).heap[W.heap.size + 3]? = some (.chan N (jobsTo (r + 1)) false (r + 1) 0 false):=by
   simp [World.setChan,hlt']
  refine .ctl rfl stepG_region_end (.ctl rfl stepG_inBlock (.ctl rfl stepG_region ?_))
  refine .op0 early4 rfl rfl (run_add (n:=1) rfl ((hs.2.2 24).trans h24) rfl) ?_
  have hw:IntKind.i64.wrap ((r:Int) + 1) = ((r + 1:Nat):Int):=by rw [IntKind.wrap_i64];omega
  rw [hw]
  have hs:=hs.put (d:=29) (by decide) (.int .i64 ((r + 1:Nat):Int))
  refine .op0 early4 rfl rfl (run_move (.inl rfl) ((hs.2.2 29).trans rfl)) ?_
  have hs:=hs.put (d:=24) (by decide) (.int .i64 ((r + 1:Nat):Int))
  refine .ctl rfl stepG_region_end (.ctl rfl stepG_inLoop ?_)
  exact ih (r + 1) _ _ _ (by omega) hs ⟨hA.t0,hA.t3,hA.t6,hA.t7⟩ h23 rfl hH hC
end
open Go.Conc Go.ConcN Go.Proofs Go.RowKit
open Go.ConcR (KK wgBlock WgAt stA smA rd wr mk Payload DC0)
theorem yield_of {n:Nat} {E:Nat->Value} {a:Act} (hs:ShA n E a) {ops:Array Oper} {d j:Nat} {b:Bool} (hd:d < n) (ho:((ops[j]?).bind (·.dst)) = some d) (he:E d = .bool b):yielded ops a.tmps j = some b:=by
 have h1:a.tmps.getD d undef = .bool b:=(hs.2.2 d).trans he
 have h2:a.tmps[d]? = some (.bool b):=by
  rw [Array.getD_eq_getD_getElem?] at h1
  have hlt:d < a.tmps.size:=by rw [hs.2.1];exact hd
  rw [Array.getElem?_eq_getElem hlt] at h1 ⊢
  simpa using h1
 unfold yielded
 rw [ho]
 simp [h2]
variable [Payload]
section
variable {P:Program} {Post:Value->World->Prop} {b:Frame} {a:Act} {k:List Item} {cs:List Frame} {ops:Array Oper} {i:Nat} {rest:List Nat} {w w':World} {es:Array Event}
theorem LW.wk (o:Oper) (d:Option Nat) (v:Value) (hk:b.kind≠.early) (ho:ops[i]? = some o) (hd:o.dst = d) (hw:Region.wanted o (yielded ops a.tmps) = true) (hx:(execOp a.eval o).run P w = .ok (.value v) w'/\(execOp a.eval o).events P w #[] = es) (hsz:w.heap.size<=w'.heap.size) (he:∀ e∈es,EvL w'.heap.size e)
 (hn:LW P Post (G (b.at (a.put d v) (.inRegion ops rest :: k)) cs) w'):LW P Post (G (b.at a (.inRegion ops (i :: rest) :: k)) cs) w:=by
 subst hd
 exact .opw hk ho hw hx hsz he hn
theorem LW.w0 (o:Oper) (d:Option Nat) (v:Value) (hk:b.kind≠.early) (ho:ops[i]? = some o) (hd:o.dst = d) (hg:o.guard = Option.none) (hx:(execOp a.eval o).run P w = .ok (.value v) w/\(execOp a.eval o).events P w #[] = #[])
 (hn:LW P Post (G (b.at (a.put d v) (.inRegion ops rest :: k)) cs) w):LW P Post (G (b.at a (.inRegion ops (i :: rest) :: k)) cs) w:=by
 subst hd
 exact .op0 hk ho hg hx hn
theorem LW.wl {ad:Addr} {wr:Bool} {u:Value} (o:Oper) (d:Option Nat) (v:Value) (hk:b.kind≠.early) (ho:ops[i]? = some o) (hd:o.dst = d) (hg:o.guard = Option.none) (hc:w.cell? ad = some u) (hx:(execOp a.eval o).run P w = .ok (.value v) w/\(execOp a.eval o).events P w #[] = #[⟨.cell ad,wr,false⟩])
 (hn:LW P Post (G (b.at (a.put d v) (.inRegion ops rest :: k)) cs) w):LW P Post (G (b.at a (.inRegion ops (i :: rest) :: k)) cs) w:=by
 subst hd
 exact .ld hk ho hg hc hx hn
theorem LW.wn (o:Oper) (hk:b.kind≠.early) (ho:ops[i]? = some o) (hd:o.dst = Option.none) (hg:o.guard = Option.none) (hx:(execOp a.eval o).run P w = .ok .skip w'/\(execOp a.eval o).events P w #[] = es) (hsz:w.heap.size<=w'.heap.size) (he:∀ e∈es,EvL w'.heap.size e)
 (hn:LW P Post (G (b.at a (.inRegion ops rest :: k)) cs) w'):LW P Post (G (b.at a (.inRegion ops (i :: rest) :: k)) cs) w:=by
 refine .none hk ho hg hx hsz he ?_
 rw [hd]
 exact hn
theorem LW.ws (o:Oper) (d:Option Nat) (ho:ops[i]? = some o) (hd:o.dst = d) (hw:Region.wanted o (yielded ops a.tmps) = false) (hn:LW P Post (G (b.at (a.put d undef) (.inRegion ops rest :: k)) cs) w):LW P Post (G (b.at a (.inRegion ops (i :: rest) :: k)) cs) w:=by
 subst hd
 exact .skip ho hw hn
theorem wanted_of {o:Oper} {j:Nat} {b c:Bool} {y:Nat->Option Bool} (hg:o.guard = some (j,b)) (hy:y j = some c):Region.wanted o y = (c == b):=by simp [Region.wanted,hg,hy]
end
theorem run_pickT {P:Program} {a:Act} {o:Oper} {w:World} {c x y:Operand} {v:Value} (hop:o.op = .pick c x y) (hc:a.eval c = .bool true) (hx:a.eval x = v):(execOp a.eval o).run P w = .ok (.value v) w/\(execOp a.eval o).events P w #[] = #[]:=by
 subst hx;exact run_pick (t:=true) hop hc
theorem run_pickF {P:Program} {a:Act} {o:Oper} {w:World} {c x y:Operand} {v:Value} (hop:o.op = .pick c x y) (hc:a.eval c = .bool false) (hy:a.eval y = v):(execOp a.eval o).run P w = .ok (.value v) w/\(execOp a.eval o).events P w #[] = #[]:=by
 subst hy;exact run_pick (t:=false) hop hc
noncomputable abbrev opn (ops:Array Oper) (i:Nat):Oper:=(ops[i]?).getD default
def LWB (B:Nat) (P:Program) (Post:Value->World->Prop) (g:Goroutine) (w:World):Prop:=∀ t,Tq B t->Ends P Post g w t
section
variable {B:Nat} {P:Program} {Post:Value->World->Prop} {g g':Goroutine} {w w':World}
theorem LWB.go0 (hs:g.status = .running) (h:stepG P true g w = .go g' w' #[]) (hn:LWB B P Post g' w'):LWB B P Post g w:=
 fun t ht=>.step ((stepT_solo hs).trans (runT_solo_go h)) (by
  have:t ++ MemOp.ofEvents 0 g.frame.fn g.frame.place #[] = t:=by rw [ofEvents_eq];simp
  rw [this];exact hn t ht)
theorem LW.of_B (hB:B = w.heap.size) (h:LWB B P Post g w):LW P Post g w:=by subst hB;exact h
end
section
variable {Post:Value->World->Prop} {cs:List Frame} {W:World} {hands:Int} {j0:Option Addr} {N cap:Nat}
structure Made (W:World) (N:Nat) (v:Value) (w:World):Prop where
 hp:Hp W N v 6 w
 ch:w.heap[W.heap.size + 3]? = some (.chan N (jobsTo N) true N 0 false)
 wg:WgAt 55 (W.heap.size + 5) w 0 0
theorem close4 (hK:∀ a w E,ShA 39 E a->A4 hands W.heap.size E->E 9 = .pointer (some ⟨W.heap.size + 5,0,none⟩)->Made W N (Value.slice j0 N cap) w->LWB (W.heap.size + 5) Tryd.prog Post (G (b4.at a [.code c4g]) cs) w)
 {a:Act} {w:World} {E:Nat->Value} (hs:ShA 39 E a) (hA:A4 hands W.heap.size E) (hH:Hp W N (Value.slice j0 N cap) 5 w) (hC:w.heap[W.heap.size + 3]? = some (.chan N (jobsTo N) false N 0 false)):LW Tryd.prog Post (G (b4.at a [.code c4e]) cs) w:=by
 have early4:=early4
 rw [c4e_eq]
 refine .ctl rfl stepG_seq (.ctl rfl stepG_region ?_)
 have hc7:=cell0 (hH.h4 (by omega))
 refine .wl (opn o4k 0) (some 30) (.chan (some (W.heap.size + 3))) early4 rfl rfl rfl hc7 (run_load45 rfl ((hs.2.2 7).trans hA.t7) hc7) ?_
 have hs:=hs.put (d:=30) (by decide) (.chan (some (W.heap.size + 3)))
 refine .wk (opn o4k 1) Option.none (.tuple #[]) early4 rfl rfl (wanted_none rfl) (run_close rfl ((hs.2.2 30).trans rfl) hC) (by simp [World.setChan]) (fun e he=>by
  simp at he
  rcases he with rfl | rfl
  ·exact .inr (.inr ⟨_,_,rfl⟩)
  ·exact .inr (.inr ⟨_,_,rfl⟩)) ?_
 change LW _ _ (G (b4.at (a.put (some 30) (.chan (some (W.heap.size + 3)))) _) _) _
 have hlt:W.heap.size + 3 < w.heap.size:=by rw [hH.sz];omega
 have hH:=hH.chan N (jobsTo N) true N 0 false
 have hC:(w.setChan (W.heap.size + 3) N (jobsTo N) true N 0 false).heap[W.heap.size + 3]? = some (.chan N (jobsTo N) true N 0 false):=by simp [World.setChan,hlt]
 generalize w.setChan (W.heap.size + 3) N (jobsTo N) true N 0 false = w₁ at hH hC ⊢
 refine .ctl rfl stepG_region_end ?_
 rw [c4f_eq]
 refine LW.of_B (B:=W.heap.size + 5) hH.sz.symm (.go0 rfl stepG_seq (.go0 rfl stepG_region ?_))
 obtain ⟨r1,r2⟩:=run_alloc55 (a:=a.put (some 30) (.chan (some (W.heap.size + 3)))) (w:=w₁) (o:=(o4l[0]?).getD default) rfl
 have hst:=stepG_value (P:=Tryd.prog) (main:=true) (b:=b4) (k:=[.code c4g]) (cs:=cs) (ops:=o4l) (i:=0) (rest:=[]) (o:=(o4l[0]?).getD default) rfl (wanted_none rfl) early4 r1
 rw [listed_nil r2] at hst
 refine .go0 rfl hst ?_
 have hs:=hs.put (d:=9) (by decide) (.pointer (some ⟨w₁.heap.size,0,none⟩))
 refine .go0 rfl stepG_region_end ?_
 have e5:w₁.heap.size = W.heap.size + 5:=hH.sz
 refine hK _ _ _ hs ⟨hA.t0,hA.t3,hA.t6,hA.t7⟩ (by show Value.pointer _ = _;rw [e5]) ⟨hH.push rfl rfl rfl rfl (by omega) (by omega) (by omega) (by omega),?_,?_⟩
 ·show (w₁.heap.push _)[W.heap.size + 3]? = _
  rw [Array.getElem?_push,if_neg (by omega)]
  exact hC
 ·show (w₁.heap.push _)[W.heap.size + 5]? = _
  rw [Array.getElem?_push,if_pos e5.symm]
  rfl
theorem head4 {a0:Act} {E0:Nat->Value} (hs:ShA 39 E0 a0) (h00:E0 0 = .int .i64 hands) (h01:E0 1 = (Value.slice j0 N cap)) (hOk:1<=hands/\hands<=8->∀ a w E,ShA 39 E a->E 0 = .int .i64 hands->E 3 = .pointer (some ⟨W.heap.size,0,none⟩)->Hp W N (Value.slice j0 N cap) 1 w->LW Tryd.prog Post (G (b4.at a [.code c4b]) cs) w)
 (hBad:¬ (1<=hands/\hands<=8)->∀ a w E,ShA 39 E a->E 4 = .slice Option.none 0 0->E 5 = .int .i64 1->Hp W N (Value.slice j0 N cap) 1 w->∀ todo,LW Tryd.prog Post (G { b4.at a todo with mode:=.returning } cs) w):
 LW Tryd.prog Post (G (b4.at a0 [.code c4]) cs) W:=by
 have early4:=early4
 rw [c4_eq]
 refine .ctl rfl stepG_seq (.ctl rfl stepG_region ?_)
 refine .wk (opn o4a 0) (some 3) (.pointer (some ⟨W.heap.size,0,none⟩)) early4 rfl rfl (wanted_none rfl) (run_box22 (b:=j0) (n:=N) (c:=cap) rfl ((hs.2.2 1).trans h01)) (by simp) (by simp) ?_
 have hs:=hs.put (d:=3) (by decide) (.pointer (some ⟨W.heap.size,0,none⟩))
 have hH:Hp W N (Value.slice j0 N cap) 1 { W with heap:=W.heap.push (.cells #[(Value.slice j0 N cap)] 22) }:=by
  have h0:Hp W N (Value.slice j0 N cap) 0 W:=⟨rfl,.refl _ _,by omega,by omega,by omega,by omega⟩
  exact h0.push rfl rfl rfl rfl (fun _=>rfl) (by omega) (by omega) (by omega)
 generalize ({ W with heap:=W.heap.push (.cells #[(Value.slice j0 N cap)] 22) }:World) = w at hH ⊢
 refine .w0 (opn o4a 1) (some 4) (.slice Option.none 0 0) early4 rfl rfl rfl (run_move (.inr rfl) rfl) ?_
 have hs:=hs.put (d:=4) (by decide) (.slice Option.none 0 0)
 refine .w0 (opn o4a 2) (some 5) (.int .i64 0) early4 rfl rfl rfl (run_move (.inr rfl) rfl) ?_
 have hs:=hs.put (d:=5) (by decide) (.int .i64 0)
 refine .ctl rfl stepG_region_end ?_
 rw [c4a_eq]
 refine .ctl rfl stepG_seq (.ctl rfl stepG_seq (.ctl rfl stepG_region ?_))
 refine .w0 (opn o4b 0) (some 10) (.int .i64 hands) early4 rfl rfl rfl (run_move (.inl rfl) ((hs.2.2 0).trans h00)) ?_
 have hs:=hs.put (d:=10) (by decide) (.int .i64 hands)
 refine .w0 (opn o4b 1) (some 11) (.bool (decide (hands < 1))) early4 rfl rfl rfl (run_lss (n:=1) rfl ((hs.2.2 10).trans rfl) rfl) ?_
 have hs:=hs.put (d:=11) (by decide) (.bool (decide (hands < 1)))
 refine .w0 (opn o4b 2) (some 12) (.bool (decide (hands < 1))) early4 rfl rfl rfl (run_move (.inl rfl) ((hs.2.2 11).trans rfl)) ?_
 have hs:=hs.put (d:=12) (by decide) (.bool (decide (hands < 1)))
 by_cases h1:hands < 1
 ·have e1:decide (hands < 1) = true:=by simpa using h1
  rw [e1] at hs ⊢
  have y1:=yield_of hs (ops:=o4b) (j:=2) (b:=true) (d:=12) (by decide) rfl rfl
  refine .ws (opn o4b 3) (some 13) rfl rfl (wanted_of (j:=2) (b:=false) rfl y1) ?_
  have hs:=hs.put (d:=13) (by decide) undef
  have y1:=yield_of hs (ops:=o4b) (j:=2) (b:=true) (d:=12) (by decide) rfl rfl
  refine .ws (opn o4b 4) (some 14) rfl rfl (wanted_of (j:=2) (b:=false) rfl y1) ?_
  have hs:=hs.put (d:=14) (by decide) undef
  refine .w0 (opn o4b 5) (some 15) (.bool true) early4 rfl rfl rfl (run_pickT rfl ((hs.2.2 12).trans rfl) rfl) ?_
  have hs:=hs.put (d:=15) (by decide) (.bool true)
  refine .ctl rfl stepG_region_end (.ctl rfl (stepG_cond (t:=true) ((hs.2.2 15).trans rfl)) (.ctl rfl stepG_seq (.ctl rfl stepG_region ?_)))
  refine .w0 (opn o4c 0) (some 4) (.slice Option.none 0 0) early4 rfl rfl rfl (run_move (.inr rfl) rfl) ?_
  have hs:=hs.put (d:=4) (by decide) (.slice Option.none 0 0)
  refine .w0 (opn o4c 1) (some 5) (.int .i64 1) early4 rfl rfl rfl (run_move (.inr rfl) rfl) ?_
  have hs:=hs.put (d:=5) (by decide) (.int .i64 1)
  refine .ctl rfl stepG_region_end (.ctl rfl stepG_ret' ?_)
  exact hBad (by omega) _ _ _ hs rfl rfl hH _
 ·have e1:decide (hands < 1) = false:=by simpa using h1
  rw [e1] at hs ⊢
  have y1:=yield_of hs (ops:=o4b) (j:=2) (b:=false) (d:=12) (by decide) rfl rfl
  refine .wk (opn o4b 3) (some 13) (.int .i64 hands) early4 rfl rfl (wanted_of (j:=2) (b:=false) rfl y1) (run_move (.inl rfl) ((hs.2.2 0).trans h00)) (Nat.le_refl _) (by simp) ?_
  have hs:=hs.put (d:=13) (by decide) (.int .i64 hands)
  have y1:=yield_of hs (ops:=o4b) (j:=2) (b:=false) (d:=12) (by decide) rfl rfl
  refine .wk (opn o4b 4) (some 14) (.bool (decide (8 < hands))) early4 rfl rfl (wanted_of (j:=2) (b:=false) rfl y1) (run_gtr (n:=8) rfl ((hs.2.2 13).trans rfl) rfl) (Nat.le_refl _) (by simp) ?_
  have hs:=hs.put (d:=14) (by decide) (.bool (decide (8 < hands)))
  refine .w0 (opn o4b 5) (some 15) (.bool (decide (8 < hands))) early4 rfl rfl rfl (run_pickF rfl ((hs.2.2 12).trans rfl) ((hs.2.2 14).trans rfl)) ?_
  have hs:=hs.put (d:=15) (by decide) (.bool (decide (8 < hands)))
  refine .ctl rfl stepG_region_end (.ctl rfl (stepG_cond (t:=decide (8 < hands)) ((hs.2.2 15).trans rfl)) ?_)
  by_cases h2:8 < hands
  ·have e2:decide (8 < hands) = true:=by simpa using h2
   rw [e2] at hs ⊢
   refine .ctl rfl stepG_seq (.ctl rfl stepG_region ?_)
   refine .w0 (opn o4c 0) (some 4) (.slice Option.none 0 0) early4 rfl rfl rfl (run_move (.inr rfl) rfl) ?_
   have hs:=hs.put (d:=4) (by decide) (.slice Option.none 0 0)
   refine .w0 (opn o4c 1) (some 5) (.int .i64 1) early4 rfl rfl rfl (run_move (.inr rfl) rfl) ?_
   have hs:=hs.put (d:=5) (by decide) (.int .i64 1)
   refine .ctl rfl stepG_region_end (.ctl rfl stepG_ret' ?_)
   exact hBad (by omega) _ _ _ hs rfl rfl hH _
  ·have e2:decide (8 < hands) = false:=by simpa using h2
   rw [e2] at hs ⊢
   refine .ctl rfl stepG_skip ?_
   exact hOk (by omega) _ _ _ hs h00 rfl hH
end
open Go.Conc Go.ConcN Go.Proofs Go.RowKit
open Go.ConcR (KK wgBlock WgAt stA smA rd wr mk Payload DC0)
variable [Payload]
section
variable {Post:Value->World->Prop} {cs:List Frame} {W:World} {hands:Int} {j0:Option Addr} {N cap:Nat}
theorem mid4 (hN:48 * N<=2 ^ 48) (hK:∀ a w E,ShA 39 E a->A4 hands W.heap.size E->E 9 = .pointer (some ⟨W.heap.size + 5,0,none⟩)->Made W N (Value.slice j0 N cap) w->LWB (W.heap.size + 5) Tryd.prog Post (G (b4.at a [.code c4g]) cs) w)
 {a:Act} {w:World} {E:Nat->Value} (hs:ShA 39 E a) (h0:E 0 = .int .i64 hands) (h3:E 3 = .pointer (some ⟨W.heap.size,0,none⟩)) (hH:Hp W N (Value.slice j0 N cap) 1 w):LW Tryd.prog Post (G (b4.at a [.code c4b]) cs) w:=by
 have early4:=early4
 rw [c4b_eq]
 refine .ctl rfl stepG_seq (.ctl rfl stepG_region ?_)
 have hc:=cell0 (hH.h0 (by omega))
 refine .wl (opn o4d 0) (some 16) (Value.slice j0 N cap) early4 rfl rfl rfl hc (run_load22 rfl ((hs.2.2 3).trans h3) hc) ?_
 have hs:=hs.put (d:=16) (by decide) (Value.slice j0 N cap)
 refine .w0 (opn o4d 1) (some 17) (.int .i64 (N:Int)) early4 rfl rfl rfl (run_len22 rfl ((hs.2.2 16).trans rfl)) ?_
 have hs:=hs.put (d:=17) (by decide) (.int .i64 (N:Int))
 obtain ⟨cs1,z1,r1,r2⟩:=run_makeSlice (w:=w) (o:=opn o4d 2) rfl ((hs.2.2 17).trans rfl) hN
 refine .wk (opn o4d 2) (some 18) _ early4 rfl rfl (wanted_none rfl) ⟨r1,rfl⟩ (by simp) (fun e he=>.inr (.inl (r2 e he))) ?_
 rw [hH.sz]
 have hs:=hs.put (d:=18) (by decide) (.slice (some ⟨W.heap.size + 1,0,none⟩) N N)
 have hH:Hp W N (Value.slice j0 N cap) 2 { w with heap:=w.heap.push (.cells cs1 42) }:=hH.push rfl rfl rfl rfl (by omega) (fun _=>⟨cs1,z1,rfl⟩) (by omega) (by omega)
 generalize ({ w with heap:=w.heap.push (.cells cs1 42) }:World) = w at hH ⊢
 clear r1 r2 hc
 refine .wk (opn o4d 3) (some 6) _ early4 rfl rfl (wanted_none rfl) (run_alloc23 rfl) (by simp) (by simp) ?_
 have e2:w.heap.size = W.heap.size + 2:=hH.sz
 have hs:=hs.put (d:=6) (by decide) (.pointer (some ⟨w.heap.size,0,none⟩))
 have q1:({ w with heap:=w.heap.push (.cells #[.slice none 0 0] 23) }:World).heap[w.heap.size]? = some (.cells #[.slice none 0 0] 23):=by show (w.heap.push _)[w.heap.size]? = _;rw [Array.getElem?_push,if_pos rfl]
 refine .wn (opn o4d 4) early4 rfl rfl rfl (run_store23 rfl ((hs.2.2 6).trans rfl) ((hs.2.2 18).trans rfl) (cell0 q1) (by simp [World.frozen?])) (by rw [size_setCell];exact Nat.le_refl _) (fun e he=>by
  rw [Array.mem_singleton] at he
  subst he
  exact .inl ⟨_,_,rfl,by rw [size_setCell];simp⟩) ?_
 rw [push_set]
 have hH:Hp W N (Value.slice j0 N cap) 3 { w with heap:=w.heap.push (.cells #[.slice (some ⟨W.heap.size + 1,0,none⟩) N N] 23) }:=hH.push rfl rfl rfl rfl (by omega) (by omega) (fun _=>rfl) (by omega)
 rw [e2] at hs ⊢
 generalize ({ w with heap:=w.heap.push (.cells #[.slice (some ⟨W.heap.size + 1,0,none⟩) N N] 23) }:World) = w at hH ⊢
 refine .ctl rfl stepG_region_end ?_
 rw [c4c_eq]
 refine .ctl rfl stepG_seq (.ctl rfl stepG_region ?_)
 have hc:=cell0 (hH.h0 (by omega))
 refine .wl (opn o4e 0) (some 19) (Value.slice j0 N cap) early4 rfl rfl rfl hc (run_load22 rfl ((hs.2.2 3).trans h3) hc) ?_
 have hs:=hs.put (d:=19) (by decide) (Value.slice j0 N cap)
 refine .w0 (opn o4e 1) (some 20) (.int .i64 (N:Int)) early4 rfl rfl rfl (run_len22 rfl ((hs.2.2 19).trans rfl)) ?_
 have hs:=hs.put (d:=20) (by decide) (.int .i64 (N:Int))
 refine .wk (opn o4e 2) (some 21) _ early4 rfl rfl (wanted_none rfl) (run_makeChan rfl ((hs.2.2 20).trans rfl) (by omega)) (by simp) (by simp) ?_
 have e3:w.heap.size = W.heap.size + 3:=hH.sz
 rw [e3]
 have hs:=hs.put (d:=21) (by decide) (.chan (some (W.heap.size + 3)))
 have hC:({ w with heap:=w.heap.push (.chan N #[] false 0 0 false) }:World).heap[W.heap.size + 3]? = some (.chan N #[] false 0 0 false):=by show (w.heap.push _)[_]? = _;rw [Array.getElem?_push,if_pos e3.symm]
 have hH:Hp W N (Value.slice j0 N cap) 4 { w with heap:=w.heap.push (.chan N #[] false 0 0 false) }:=hH.push rfl rfl rfl rfl (by omega) (by omega) (by omega) (by omega)
 clear hc
 generalize ({ w with heap:=w.heap.push (.chan N #[] false 0 0 false) }:World) = w at hH hC ⊢
 refine .wk (opn o4e 3) (some 7) _ early4 rfl rfl (wanted_none rfl) (run_alloc45 rfl) (by simp) (by simp) ?_
 have e4:w.heap.size = W.heap.size + 4:=hH.sz
 have hs:=hs.put (d:=7) (by decide) (.pointer (some ⟨w.heap.size,0,none⟩))
 have q1:({ w with heap:=w.heap.push (.cells #[.chan none] 45) }:World).heap[w.heap.size]? = some (.cells #[.chan none] 45):=by show (w.heap.push _)[w.heap.size]? = _;rw [Array.getElem?_push,if_pos rfl]
 refine .wn (opn o4e 4) early4 rfl rfl rfl (run_store45 rfl ((hs.2.2 7).trans rfl) ((hs.2.2 21).trans rfl) (cell0 q1) (by simp [World.frozen?])) (by rw [size_setCell];exact Nat.le_refl _) (fun e he=>by
  rw [Array.mem_singleton] at he
  subst he
  exact .inl ⟨_,_,rfl,by rw [size_setCell];simp⟩) ?_
 rw [push_set]
 have hC:({ w with heap:=w.heap.push (.cells #[.chan (some (W.heap.size + 3))] 45) }:World).heap[W.heap.size + 3]? = some (.chan N #[] false 0 0 false):=by show (w.heap.push _)[_]? = _;rw [Array.getElem?_push,if_neg (by omega)];exact hC
 have hH:Hp W N (Value.slice j0 N cap) 5 { w with heap:=w.heap.push (.cells #[.chan (some (W.heap.size + 3))] 45) }:=hH.push rfl rfl rfl rfl (by omega) (by omega) (by omega) (fun _=>rfl)
 rw [e4] at hs ⊢
 generalize ({ w with heap:=w.heap.push (.cells #[.chan (some (W.heap.size + 3))] 45) }:World) = w at hH hC ⊢
 refine .ctl rfl stepG_region_end ?_
 rw [c4d_eq]
 refine .ctl rfl stepG_seq (.ctl rfl stepG_seq (.ctl rfl stepG_region ?_))
 have hc:=cell0 (hH.h0 (by omega))
 refine .wl (opn o4f 0) (some 22) (Value.slice j0 N cap) early4 rfl rfl rfl hc (run_load22 rfl ((hs.2.2 3).trans h3) hc) ?_
 have hs:=hs.put (d:=22) (by decide) (Value.slice j0 N cap)
 refine .w0 (opn o4f 1) (some 23) (.int .i64 (N:Int)) early4 rfl rfl rfl (run_len22 rfl ((hs.2.2 22).trans rfl)) ?_
 have hs:=hs.put (d:=23) (by decide) (.int .i64 (N:Int))
 refine .w0 (opn o4f 2) (some 24) (.int .i64 (0:Nat)) early4 rfl rfl rfl (run_move (.inl rfl) rfl) ?_
 have hs:=hs.put (d:=24) (by decide) (.int .i64 (0:Nat))
 refine .ctl rfl stepG_region_end (.ctl rfl stepG_block (.ctl rfl stepG_loop ?_))
 exact sends (by omega) (fun a w E hs hA hH hC=>close4 hK hs hA hH hC) N 0 _ w _ (by omega) hs ⟨h0,h3,rfl,rfl⟩ rfl rfl hH hC
end
open Go.Conc Go.ConcN Go.RowKit Go.Conc.Lib Go.ConcR.Gen Go.ConcN.Gen
open Go.ConcR (KK wgBlock WgAt stA smA rd wr mk Payload DC0)
variable [Payload]
theorem gp_in {c:Cfg} {S:Goroutine->World->Prop} {n:Nat} {g:Goroutine} {w:World} (h:Goes c.P true (R0 c) DC0 (GP c S) n g w):GP c S g w:=by
 have h1:=goesO_of_goes (K:=K0 c) (own:=noOwn) (fun _ _ h=>h) (fun own w w' es hd=>by obtain ⟨rfl,rfl⟩:=hd;exact ⟨rfl,rfl,rfl⟩) h
 refine h1.bind k0_refl fun g σ q=>?_
 obtain ⟨so,sw⟩:=σ
 obtain ⟨rfl,q⟩:=q
 exact q
theorem flr {c:Cfg} {F:World->Prop} (hF2:∀ w w',R0 c w w'->F w->F w') {w w₁:World} (h:F w/\WgLive c.ty c.Wg w) (r:R0 c w w₁):F w₁/\WgLive c.ty c.Wg w₁:=⟨hF2 _ _ r h.1,r.lk.wg h.2⟩
section
variable {c:Cfg} {L:WgLink} {Anch:Goroutine->GW->Prop} {AnW:Goroutine->World->Prop} {Post:Value->World->Prop} {Next:Goroutine->World->Prop} {F:World->Prop}
 {b₀:Frame} {a₀:Act} {ops₀:Array Oper} {i₀:Nat} {rest₀:List Nat} {k₀:List Item} {cs:List Frame}
set_option maxRecDepth 100000 in
set_option maxHeartbeats 8000000 in
theorem addW (H:WgLib c.P L) (hF2:∀ w w',R0 c w w'->F w->F w') (hF3:∀ w a v,a.block = c.Wg->F w->F (w.setCell a v))
 (hT:∀ w,F w->WgLive c.ty c.Wg w->GP c (AtGo c Anch Next) (G (b₀.at (a₀.put ((ops₀[i₀]?).bind (·.dst)) (.tuple #[])) (.inRegion ops₀ rest₀ :: k₀)) cs) w) (w:World) (hF:F w/\WgLive c.ty c.Wg w):
 GP c (AtDis c Anch Next) (G ((base L.add).at ⟨#[.pointer (some ⟨c.Wg,0,none⟩),.int .i64 1,undef,undef,undef,undef,undef,undef,undef,undef,undef,undef,undef,undef,undef,undef,undef,undef,undef,undef,undef,undef,undef,undef,undef,undef,undef,undef,undef,undef,undef,undef,undef,undef,undef,undef,undef,undef,undef,undef,undef,undef,undef,undef,undef,undef,undef,undef,undef,undef,undef,undef,undef,undef,undef,undef,undef,undef,undef,undef,undef,undef,undef,undef,undef,undef,undef,undef,undef,undef,undef,undef,undef,undef,undef,undef,undef,undef,undef,undef,undef,undef,undef,undef,undef,undef,undef,undef,undef,undef,undef,undef,undef,undef,undef,undef,undef,undef,undef,undef,undef,undef,undef,undef,undef,undef,undef,undef,undef,undef,undef,undef,undef,undef,undef,undef,undef],[]⟩ [.code (body_add L)]) ((b₀.at a₀ (.inRegion ops₀ (i₀ :: rest₀) :: k₀)) :: cs)) w:=by
 lib_facts
 have fq:∀ {w w₁:World},(F w/\WgLive c.ty c.Wg w)->R0 c w w₁->(F w₁/\WgLive c.ty c.Wg w₁):=fun h r=>flr hF2 h r
 simp only [body_add,addFn,Option.getD_some]
 refine gp_in (n:=60) ?_
 u_c stepG_seq fq hF
 u_cond true fq hF
 u_c stepG_seq fq hF
 u_c stepG_seq fq hF
 u_reg fq hF
 u_op fq hF
 u_op fq hF
 u_c stepG_region_end fq hF
 first | (u_cond false fq hF) | (u_cnd false fq hF)
 u_c stepG_skip fq hF
 u_c stepG_seq fq hF
 u_reg fq hF
 refine Goes.stop (fun w₁ h₁=>.stop fun w₂ h₂=>?_)
 replace hF:=flr hF2 (flr hF2 hF h₁) h₂
 clear h₁ h₂
 refine ⟨rfl,_,stepG_mark0 .disable (by simp) rfl rfl (by k_ne) rfl H.f_disable (x_disable_n L) (x_disable_b L) (x_disable_x L) (x_disable_f L),gp_in (n:=80) ?_⟩
 walk_nrm
 u_c stepG_region_end fq hF
 u_reg fq hF
 u_defer fq hF
 u_c stepG_region_end fq hF
 u_c stepG_seq fq hF
 u_reg fq hF
 u_op fq hF
 u_c stepG_region_end fq hF
 u_c stepG_seq fq hF
 u_c stepG_seq fq hF
 u_reg fq hF
 u_bub fq hF
 u_c stepG_region_end fq hF
 first | (u_cond false fq hF) | (u_cnd false fq hF)
 u_c stepG_skip fq hF
 u_c stepG_seq fq hF
 u_reg fq hF
 u_op fq hF
 u_op fq hF
 u_op fq hF
 u_op fq hF
 u_op fq hF
 u_op fq hF
 u_call H.f_uAdd (nm_uAdd L) uAddFn fq hF
 u_c stepG_seq fq hF
 u_reg fq hF
 u_op fq hF
 u_c stepG_region_end fq hF
 u_c stepG_seq fq hF
 u_reg fq hF
 u_op fq hF
 u_op fq hF
 u_op fq hF
 u_op fq hF
 refine Goes.stop (fun w₁ h₁=>.stop fun w₂ h₂=>?_)
 replace hF:=flr hF2 (flr hF2 hF h₁) h₂
 clear h₁ h₂
 refine ⟨rfl,fun v hv hw=>?_⟩
 rcases Nat.eq_zero_or_pos v with rfl | hvp
 ·replace hw:WgAt c.ty c.Wg w₂ 0 0:=by simpa using hw
  have z:(((0:Nat):Int) + 1) * KK = KK:=by simp
  rw [z]
  have e0:IntKind.u64.wrap (0 + 4294967296) = KK:=by decide
  refine ⟨_,(stepG_add_atomic rfl rfl (by k_ne) rfl H.f_addU64 (x_addU64_n L) (x_addU64_b L) (x_addU64_x L) .u64 (x_addU64_f L) rfl rfl hw.cellSt (hw.thaw 0)).trans (by rw [e0];rfl),fun _=>gp_in (n:=110) ?_,fun q=>absurd rfl q⟩
  replace hF:F (w₂.setCell (stA c.Wg) (.int .u64 KK))/\WgLive c.ty c.Wg (w₂.setCell (stA c.Wg) (.int .u64 KK)):=⟨hF3 _ _ _ rfl hF.1,⟨_,_,hw.setSt _⟩⟩
  clear hw
  simp only [KK] at hF ⊢
  walk_nrm
  u_op fq hF
  u_c stepG_region_end fq hF
  u_c stepG_ret' fq hF
  u_leave1 H.f_uAdd fq hF
  u_op fq hF
  u_c stepG_region_end fq hF
  u_c stepG_seq fq hF
  u_c stepG_seq fq hF
  u_reg fq hF
  u_op fq hF
  u_op fq hF
  u_op fq hF
  u_op fq hF
  u_skip fq hF
  u_skip fq hF
  u_op fq hF
  u_c stepG_region_end fq hF
  first | (u_cond false fq hF) | (u_cnd false fq hF)
  u_c stepG_skip fq hF
  u_c stepG_seq fq hF
  u_reg fq hF
  u_op fq hF
  u_op fq hF
  u_op fq hF
  u_op fq hF
  u_c stepG_region_end fq hF
  u_c stepG_seq fq hF
  u_reg fq hF
  u_op fq hF
  u_op fq hF
  u_op fq hF
  u_op fq hF
  u_c stepG_region_end fq hF
  u_c stepG_seq fq hF
  u_c stepG_seq fq hF
  u_reg fq hF
  u_op fq hF
  u_op fq hF
  u_op fq hF
  u_op fq hF
  u_op fq hF
  u_op fq hF
  u_op fq hF
  u_op fq hF
  u_op fq hF
  u_op fq hF
  u_c stepG_region_end fq hF
  first | (u_cond true fq hF) | (u_cnd true fq hF)
  u_reg fq hF
  u_op fq hF
  u_op fq hF
  u_op fq hF
  u_in fq hF
  refine goes_oper_k rfl rfl (by k_ne) (fun Kx hKx=>?_)
  have hcv:=run_convert_to_unsafe (P:=c.P) H.underlying_tPU32 H.underlying_tUP H.room_tU32 (WgLive.cell1 hF.2).choose_spec
  have hce:=fun es=>events_convert_to_unsafe (P:=c.P) H.underlying_tPU32 H.underlying_tUP H.room_tU32 (WgLive.cell1 hF.2).choose_spec es
  go_simp
  refine hKx _ _ ⟨?_,?_⟩
  ·u_none
   intro ex hex
   have hmx:=mem_listed hex
   simp [go_sem,hce] at hmx
  clear hKx Kx hcv hce
  refine Goes.stop (fun w₁ h₁=>.stop fun w₂ h₂=>?_)
  replace hF:=flr hF2 (flr hF2 hF h₁) h₂
  clear h₁ h₂
  refine ⟨rfl,_,stepG_markAt .read (by simp) rfl rfl (by k_ne) rfl H.f_raceRead (x_raceRead_n L) (x_raceRead_b L) (x_raceRead_x L) (x_raceRead_f L) (ad:=⟨c.Wg,1,none⟩) (by simp [Act.eval]),gp_in (n:=110) ?_⟩
  walk_nrm
  u_c stepG_region_end fq hF
  u_c stepG_seq fq hF
  u_c stepG_seq fq hF
  u_reg fq hF
  u_op fq hF
  u_op fq hF
  u_c stepG_region_end fq hF
  first | (u_cond false fq hF) | (u_cnd false fq hF)
  u_c stepG_skip fq hF
  u_c stepG_seq fq hF
  u_c stepG_seq fq hF
  u_reg fq hF
  u_op fq hF
  u_op fq hF
  u_op fq hF
  u_skip fq hF
  u_skip fq hF
  u_op fq hF
  u_op fq hF
  u_skip fq hF
  u_skip fq hF
  u_skip fq hF
  u_skip fq hF
  u_op fq hF
  u_c stepG_region_end fq hF
  first | (u_cond false fq hF) | (u_cnd false fq hF)
  u_c stepG_skip fq hF
  u_c stepG_seq fq hF
  u_c stepG_seq fq hF
  u_reg fq hF
  u_op fq hF
  u_op fq hF
  u_op fq hF
  u_skip fq hF
  u_skip fq hF
  u_op fq hF
  u_c stepG_region_end fq hF
  first | (u_cond true fq hF) | (u_cnd true fq hF)
  u_c stepG_ret' fq hF
  refine Goes.stop (fun w₁ h₁=>.stop fun w₂ h₂=>?_)
  replace hF:=flr hF2 (flr hF2 hF h₁) h₂
  clear h₁ h₂
  refine ⟨rfl,_,stepG_unwind_entry (v:=.tuple #[]) (evs:=#[mk .enable]) rfl H.f_enable (x_enable_n L) (x_enable_b L) (x_enable_x L) (x_enable_f L) (by simp [Extern.Race.none_]) (by simp [mk]) (by simp [mk]),gp_in (n:=10) ?_⟩
  u_leave0 H.f_add fq hF
  exact Goes.stop (fun w₁ h₁=>hT w₁ (flr hF2 hF h₁).1 (flr hF2 hF h₁).2)
 ·obtain ⟨V,hV⟩:∃ V:Int,V = (v:Int) + 1:=⟨_,rfl⟩
  obtain ⟨S,hS⟩:∃ S:Int,S = V * KK:=⟨_,rfl⟩
  have eS:IntKind.u64.wrap ((v:Int) * KK + 4294967296) = S:=by rw [IntKind.wrap_u64,hS,hV];simp only [KK];omega
  rw [<- hV,<- hS]
  have a1:S / 4294967296 = V:=by rw [hS];simp only [KK];omega
  have b1:bits .and .u64 S 2147483648 = 0:=by rw [hS,hV];have:=st_flag (v + 1) 0 (by omega) (by omega);simpa [KK] using this
  have b2:bits .and .u64 S 2147483647 = 0:=by rw [hS,hV];have:=st_waiters (v + 1) 0 (by omega) (by omega);simpa [KK] using this
  have c1:IntKind.i32.wrap V = V:=by rw [IntKind.wrap_i32];omega
  have hV1:1 < V:=by omega
  have hV2:V < 2147483648:=by omega
  have q1:(V == 1) = false:=by simp;omega
  have q2:decide (V = 1) = false:=decide_eq_false (by omega)
  have q3:decide (V < 0) = false:=decide_eq_false (by omega)
  have q4:decide (0 < V) = true:=decide_eq_true (by omega)
  have q5:(V == 0) = false:=by simp;omega
  have q6:decide (V = 0) = false:=decide_eq_false (by omega)
  refine ⟨_,(stepG_add_atomic rfl rfl (by k_ne) rfl H.f_addU64 (x_addU64_n L) (x_addU64_b L) (x_addU64_x L) .u64 (x_addU64_f L) rfl rfl hw.cellSt (hw.thaw 0)).trans (by rw [eS];rfl),fun q=>by omega,fun _=>gp_in (n:=110) ?_⟩
  replace hF:F (w₂.setCell (stA c.Wg) (.int .u64 S))/\WgLive c.ty c.Wg (w₂.setCell (stA c.Wg) (.int .u64 S)):=⟨hF3 _ _ _ rfl hF.1,⟨_,_,hw.setSt _⟩⟩
  clear hw hS hV eS
  walk_nrm
  u_op fq hF
  u_c stepG_region_end fq hF
  u_c stepG_ret' fq hF
  u_leave1 H.f_uAdd fq hF
  u_op fq hF
  u_c stepG_region_end fq hF
  u_c stepG_seq fq hF
  u_c stepG_seq fq hF
  u_reg fq hF
  u_op fq hF
  u_op fq hF
  u_op fq hF
  u_op fq hF
  u_skip fq hF
  u_skip fq hF
  u_op fq hF
  u_c stepG_region_end fq hF
  first | (u_cond false fq hF) | (u_cnd false fq hF)
  u_c stepG_skip fq hF
  u_c stepG_seq fq hF
  u_reg fq hF
  u_op fq hF
  u_op fq hF
  u_op fq hF
  u_op fq hF
  u_c stepG_region_end fq hF
  u_c stepG_seq fq hF
  u_reg fq hF
  u_op fq hF
  u_op fq hF
  u_op fq hF
  u_op fq hF
  u_c stepG_region_end fq hF
  u_c stepG_seq fq hF
  u_c stepG_seq fq hF
  u_reg fq hF
  u_op fq hF
  u_op fq hF
  u_op fq hF
  u_op fq hF
  u_op fq hF
  u_op fq hF
  u_op fq hF
  u_op fq hF
  u_op fq hF
  u_op fq hF
  u_c stepG_region_end fq hF
  first | (u_cond false fq hF) | (u_cnd false fq hF)
  u_c stepG_skip fq hF
  u_c stepG_seq fq hF
  u_c stepG_seq fq hF
  u_reg fq hF
  u_op fq hF
  u_op fq hF
  u_c stepG_region_end fq hF
  first | (u_cond false fq hF) | (u_cnd false fq hF)
  u_c stepG_skip fq hF
  u_c stepG_seq fq hF
  u_c stepG_seq fq hF
  u_reg fq hF
  u_op fq hF
  u_op fq hF
  u_op fq hF
  u_skip fq hF
  u_skip fq hF
  u_op fq hF
  u_op fq hF
  u_skip fq hF
  u_skip fq hF
  u_skip fq hF
  u_skip fq hF
  u_op fq hF
  u_c stepG_region_end fq hF
  first | (u_cond false fq hF) | (u_cnd false fq hF)
  u_c stepG_skip fq hF
  u_c stepG_seq fq hF
  u_c stepG_seq fq hF
  u_reg fq hF
  u_op fq hF
  u_op fq hF
  u_op fq hF
  u_skip fq hF
  u_skip fq hF
  u_op fq hF
  u_c stepG_region_end fq hF
  first | (u_cond true fq hF) | (u_cnd true fq hF)
  u_c stepG_ret' fq hF
  refine Goes.stop (fun w₁ h₁=>.stop fun w₂ h₂=>?_)
  replace hF:=flr hF2 (flr hF2 hF h₁) h₂
  clear h₁ h₂
  refine ⟨rfl,_,stepG_unwind_entry (v:=.tuple #[]) (evs:=#[mk .enable]) rfl H.f_enable (x_enable_n L) (x_enable_b L) (x_enable_x L) (x_enable_f L) (by simp [Extern.Race.none_]) (by simp [mk]) (by simp [mk]),gp_in (n:=10) ?_⟩
  u_leave0 H.f_add fq hF
  exact Goes.stop (fun w₁ h₁=>hT w₁ (flr hF2 hF h₁).1 (flr hF2 hF h₁).2)
structure FT (c:Cfg) (F:World->Prop) (B:Nat) (w:World):Prop where
 f:F w
 live:WgLive c.ty c.Wg w
 done:AllDone c w
 size:w.heap.size = B
theorem r0_of_heap {w w₁:World} {B:Nat} (r:(Kt c B).R ⟨noOwn,w⟩ w₁):R0 c w w₁:=by
 obtain ⟨h1,h2,h3,h4,_,h6⟩:=r
 have h6:w₁.heap = w.heap:=h6
 refine ⟨h1,h2,h3,h4,fun _ _=>by rw [h6],⟨fun ⟨a,b,h⟩=>⟨a,b,h.of_block (by rw [h6])⟩,fun ⟨r,h⟩=>⟨r,h.1,by rw [h6];exact h.2⟩,fun ⟨cs,h⟩=>⟨cs,by rw [h6];exact h⟩⟩⟩
theorem ftr (hRes:∀ k v1 v2 fin w w',c.Res k v1 v2 fin w->(∀ b,fin b->w'.heap[b]? = w.heap[b]?)->c.Res k v1 v2 fin w') (hF2:∀ w w',R0 c w w'->F w->F w') {B:Nat} {w w₁:World} (h:FT c F B w) (r:(Kt c B).R ⟨noOwn,w⟩ w₁):FT c F B w₁:=by
 have r0:=r0_of_heap r
 obtain ⟨_,_,_,_,_,h6⟩:=r
 have h6:w₁.heap = w.heap:=h6
 obtain ⟨d1,d2,d3,d4⟩:=h.done
 refine ⟨hF2 _ _ r0 h.f,r0.lk.wg h.live,⟨d1.of_block (by rw [h6]),by rw [h6];exact d2,r0.lk.out d3,fun k hk=>?_⟩,by rw [h6];exact h.size⟩
 obtain ⟨v1,v2,fin,e1,e2,e3⟩:=d4 k hk
 exact ⟨v1,v2,fin,by simpa [World.cell?,h6] using e1,by simpa [World.cell?,h6] using e2,hRes k v1 v2 fin w w₁ e3 fun b _=>by rw [h6]⟩
theorem kt_in {B n:Nat} {g:Goroutine} {w:World} (h:Goes c.P true (fun w w₁=>(Kt c B).R ⟨noOwn,w⟩ w₁) DC0 (fun g w=>GoesO c.P true (Kt c B) (AtRet c Post B) g ⟨noOwn,w⟩) n g w):GoesO c.P true (Kt c B) (AtRet c Post B) g ⟨noOwn,w⟩:=by
 have h1:=goesO_of_goes (K:=Kt c B) (own:=noOwn) (R:=fun w w₁=>(Kt c B).R ⟨noOwn,w⟩ w₁) (fun σ w₁ r=>⟨r.1,r.2.1,r.2.2.1,r.2.2.2.1,fun b hb=>by have h6:w₁.heap = σ.w.heap:=r.2.2.2.2.2;rw [h6],r.2.2.2.2.2⟩) (fun own w w' es hd=>by
  obtain ⟨rfl,rfl⟩:=hd
  exact pact_idle _) h
 refine h1.bind (kt_refl B) fun g σ q=>?_
 obtain ⟨so,sw⟩:=σ
 obtain ⟨rfl,q⟩:=q
 exact q
set_option maxRecDepth 100000 in
set_option maxHeartbeats 8000000 in
theorem waitW (H:WgLib c.P L) (hF2:∀ w w',R0 c w w'->F w->F w') (hF3:∀ w a v,a.block = c.Wg->F w->F (w.setCell a v)) (hty:c.ty = L.tWg)
 (hW:∀ g w,AnchWN L F c.Wg (b₀.at a₀ (.inRegion ops₀ (i₀ :: rest₀) :: k₀)) cs g w->AnW g w) (w:World) (hF:F w/\WgLive c.ty c.Wg w):
 GP c (AtKd0 c AnW) (G ((base L.wait).at ⟨#[.pointer (some ⟨c.Wg,0,none⟩),undef,undef,undef,undef,undef,undef,undef,undef,undef,undef,undef,undef,undef,undef,undef,undef,undef,undef,undef,undef,undef,undef,undef,undef,undef,undef,undef,undef,undef,undef,undef,undef,undef,undef,undef,undef,undef,undef,undef,undef,undef,undef,undef,undef,undef,undef,undef,undef,undef,undef,undef,undef,undef,undef,undef,undef,undef,undef,undef,undef,undef,undef,undef,undef,undef,undef,undef,undef,undef,undef,undef,undef,undef,undef,undef,undef,undef,undef,undef,undef,undef,undef,undef],[]⟩ [.code (body_wait L)]) ((b₀.at a₀ (.inRegion ops₀ (i₀ :: rest₀) :: k₀)) :: cs)) w:=by
 lib_facts
 have fq:∀ {w w₁:World},(F w/\WgLive c.ty c.Wg w)->R0 c w w₁->(F w₁/\WgLive c.ty c.Wg w₁):=fun h r=>flr hF2 h r
 simp only [body_wait,waitFn,Option.getD_some]
 refine gp_in (n:=20) ?_
 u_c stepG_seq fq hF
 u_cond true fq hF
 u_reg fq hF
 refine Goes.stop (fun w₁ h₁=>.stop fun w₂ h₂=>?_)
 replace hF:=flr hF2 (flr hF2 hF h₁) h₂
 clear h₁ h₂
 refine ⟨rfl,_,stepG_mark0 .disable (by simp) rfl rfl (by k_ne) rfl H.f_disable (x_disable_n L) (x_disable_b L) (x_disable_x L) (x_disable_f L),gp_in (n:=20) ?_⟩
 walk_nrm
 u_c stepG_region_end fq hF
 u_c stepG_block fq hF
 u_c stepG_loop fq hF
 exact Goes.stop (fun w₁ h₁=>.stop fun w₂ h₂=>hW _ _ ⟨_,rfl,by simp,by simp,by rw [<- hty];exact flr hF2 (flr hF2 hF h₁) h₂⟩)
set_option maxRecDepth 100000 in
set_option maxHeartbeats 8000000 in
theorem waitRoundW (H:WgLib c.P L) (hF2:∀ w w',R0 c w w'->F w->F w') (hF3:∀ w a v,a.block = c.Wg->F w->F (w.setCell a v)) (hty:c.ty = L.tWg) (hRes:∀ k v1 v2 fin w w',c.Res k v1 v2 fin w->(∀ b,fin b->w'.heap[b]? = w.heap[b]?)->c.Res k v1 v2 fin w')
 (hT:∀ w,F w->WgLive c.ty c.Wg w->AllDone c w->GoesO c.P true (Kt c w.heap.size) (AtRet c Post w.heap.size) (G (b₀.at (a₀.put ((ops₀[i₀]?).bind (·.dst)) (.tuple #[])) (.inRegion ops₀ rest₀ :: k₀)) cs) ⟨noOwn,w⟩)
 (hW:∀ g w,AnchWN L F c.Wg (b₀.at a₀ (.inRegion ops₀ (i₀ :: rest₀) :: k₀)) cs g w->AnW g w)
 (g:Goroutine) (w:World) (h:AnchWN L F c.Wg (b₀.at a₀ (.inRegion ops₀ (i₀ :: rest₀) :: k₀)) cs g w):GP c (AtW10 c AnW Post) g w:=by
 lib_facts
 have fq:∀ {w w₁:World},(F w/\WgLive c.ty c.Wg w)->R0 c w w₁->(F w₁/\WgLive c.ty c.Wg w₁):=fun h r=>flr hF2 h r
 obtain ⟨T,rfl,hT84,t0,hF⟩:=h
 rw [<- hty] at hF
 obtain ⟨v0,v1,v2,v3,v4,v5,v6,v7,v8,v9,v10,v11,v12,v13,v14,v15,v16,v17,v18,v19,v20,v21,v22,v23,v24,v25,v26,v27,v28,v29,v30,v31,v32,v33,v34,v35,v36,v37,v38,v39,v40,v41,v42,v43,v44,v45,v46,v47,v48,v49,v50,v51,v52,v53,v54,v55,v56,v57,v58,v59,v60,v61,v62,v63,v64,v65,v66,v67,v68,v69,v70,v71,v72,v73,v74,v75,v76,v77,v78,v79,v80,v81,v82,v83,rfl⟩:=array84 T hT84
 simp only [List.getElem?_toArray,List.getElem?_cons_zero,Option.some.injEq] at t0
 subst t0
 refine gp_in (n:=40) ?_
 simp only [L7,body_wait,waitFn,Option.getD_some]
 u_c stepG_block fq hF
 u_c stepG_seq fq hF
 u_reg fq hF
 u_op fq hF
 u_op fq hF
 u_op fq hF
 u_call H.f_uLoad (nm_uLoad L) uLoadFn fq hF
 u_c stepG_seq fq hF
 u_reg fq hF
 u_op fq hF
 u_c stepG_region_end fq hF
 u_c stepG_seq fq hF
 u_reg fq hF
 u_op fq hF
 u_op fq hF
 u_op fq hF
 refine Goes.stop (fun w₁ h₁=>.stop fun w₂ h₂=>?_)
 replace hF:=flr hF2 (flr hF2 hF h₁) h₂
 clear h₁ h₂
 refine ⟨rfl,fun v hv hw=>?_⟩
 rcases Nat.eq_zero_or_pos v with rfl | hvp
 ·replace hw:WgAt c.ty c.Wg w₂ 0 0:=by simpa using hw
  refine ⟨_,stepG_load_atomic (v:=0) rfl rfl (by k_ne) rfl H.f_loadU64 (x_loadU64_n L) (x_loadU64_b L) (x_loadU64_x L) .u64 (x_loadU64_f L) rfl hw.cellSt,fun _=>gp_in (n:=80) ?_,fun h=>absurd rfl h⟩
  clear hw
  walk_nrm
  u_op fq hF
  u_c stepG_region_end fq hF
  u_c stepG_ret' fq hF
  u_leave1 H.f_uLoad fq hF
  u_op fq hF
  u_c stepG_region_end fq hF
  u_c stepG_seq fq hF
  u_reg fq hF
  u_op fq hF
  u_op fq hF
  u_op fq hF
  u_op fq hF
  u_c stepG_region_end fq hF
  u_c stepG_seq fq hF
  u_reg fq hF
  u_op fq hF
  u_op fq hF
  u_op fq hF
  u_op fq hF
  u_c stepG_region_end fq hF
  u_c stepG_seq fq hF
  u_c stepG_seq fq hF
  u_reg fq hF
  u_op fq hF
  u_op fq hF
  u_c stepG_region_end fq hF
  first | (u_cond true fq hF) | (u_cnd true fq hF)
  u_c stepG_seq fq hF
  u_cond true fq hF
  u_c stepG_seq fq hF
  u_reg fq hF
  refine Goes.stop (fun w₁ h₁=>.stop fun w₂ h₂=>?_)
  replace hF:=flr hF2 (flr hF2 hF h₁) h₂
  clear h₁ h₂
  refine ⟨rfl,_,stepG_mark0 .enable (by simp) rfl rfl (by k_ne) rfl H.f_enable (x_enable_n L) (x_enable_b L) (x_enable_x L) (x_enable_f L),gp_in (n:=30) ?_⟩
  walk_nrm
  u_c stepG_region_end fq hF
  u_reg fq hF
  u_op fq hF
  u_in fq hF
  refine goes_oper_k rfl rfl (by k_ne) (fun Kx hKx=>?_)
  have hcv:=run_convert_to_unsafe (P:=c.P) H.underlying_tWgP H.underlying_tUP H.room_tWg (WgLive.cell0 hF.2).choose_spec
  have hce:=fun es=>events_convert_to_unsafe (P:=c.P) H.underlying_tWgP H.underlying_tUP H.room_tWg (WgLive.cell0 hF.2).choose_spec es
  go_simp
  refine hKx _ _ ⟨?_,?_⟩
  ·u_none
   intro ex hex
   have hmx:=mem_listed hex
   simp [go_sem,hce] at hmx
  clear hKx Kx hcv hce
  refine Goes.stop (fun w₁ h₁=>.stop fun w₂ h₂=>?_)
  replace hF:=flr hF2 (flr hF2 hF h₁) h₂
  clear h₁ h₂
  refine ⟨rfl,_,stepG_markAt .acquire (by simp) rfl rfl (by k_ne) rfl H.f_acquire (x_acquire_n L) (x_acquire_b L) (x_acquire_x L) (x_acquire_f L) (ad:=stA c.Wg) (by simp [Act.eval,stA]),fun hd=>kt_in (n:=40) ?_⟩
  obtain ⟨B,hB⟩:∃ B,w₂.heap.size = B:=⟨_,rfl⟩
  replace hF:FT c F B w₂:=⟨hF.1,hF.2,hd,hB⟩
  rw [hB]
  clear hB hd
  walk_nrm
  u_c stepG_region_end (ftr hRes hF2) hF
  u_c stepG_seq (ftr hRes hF2) hF
  u_c stepG_seq (ftr hRes hF2) hF
  u_reg (ftr hRes hF2) hF
  u_op (ftr hRes hF2) hF
  u_op (ftr hRes hF2) hF
  u_op (ftr hRes hF2) hF
  u_op (ftr hRes hF2) hF
  u_op (ftr hRes hF2) hF
  u_op (ftr hRes hF2) hF
  u_op (ftr hRes hF2) hF
  u_op (ftr hRes hF2) hF
  u_skip (ftr hRes hF2) hF
  u_skip (ftr hRes hF2) hF
  u_op (ftr hRes hF2) hF
  u_c stepG_region_end (ftr hRes hF2) hF
  first | (u_cond false (ftr hRes hF2) hF) | (u_cnd false (ftr hRes hF2) hF)
  u_c stepG_skip (ftr hRes hF2) hF
  u_c stepG_ret' (ftr hRes hF2) hF
  u_leave0 H.f_wait (ftr hRes hF2) hF
  refine Goes.stop (fun w₁ h₁=>?_)
  have hx:=ftr hRes hF2 hF h₁
  have:=hT w₁ hx.f hx.live hx.done
  rw [hx.size] at this
  exact this
 ·obtain ⟨S,hS⟩:∃ S:Int,(v:Int) * KK = S:=⟨_,rfl⟩
  have a1:S / 4294967296 = (v:Int):=by rw [<- hS];simp only [KK];omega
  have b1:bits .and .u64 S 2147483648 = 0:=by rw [<- hS];have:=st_flag v 0 (by omega) (by omega);simpa [KK] using this
  have b2:bits .and .u64 S 2147483647 = 0:=by rw [<- hS];have:=st_waiters v 0 (by omega) (by omega);simpa [KK] using this
  have c1:IntKind.i32.wrap (v:Int) = (v:Int):=by rw [IntKind.wrap_i32];omega
  have w1:IntKind.u64.wrap (S + 1) = S + 1:=by rw [IntKind.wrap_u64,<- hS];simp only [KK];omega
  have q3:decide ((v:Int) < 0) = false:=decide_eq_false (by omega)
  have q4:decide (0 < (v:Int)) = true:=decide_eq_true (by omega)
  have q5:((v:Int) == 0) = false:=by simp;omega
  have q6:decide ((v:Int) = 0) = false:=decide_eq_false (by omega)
  rw [hS] at hw
  refine ⟨_,stepG_load_atomic (v:=S) rfl rfl (by k_ne) rfl H.f_loadU64 (x_loadU64_n L) (x_loadU64_b L) (x_loadU64_x L) .u64 (x_loadU64_f L) rfl hw.cellSt,fun h0=>absurd h0 (by omega),fun _=>gp_in (n:=80) ?_⟩
  clear hw
  walk_nrm
  u_op fq hF
  u_c stepG_region_end fq hF
  u_c stepG_ret' fq hF
  u_leave1 H.f_uLoad fq hF
  u_op fq hF
  u_c stepG_region_end fq hF
  u_c stepG_seq fq hF
  u_reg fq hF
  u_op fq hF
  u_op fq hF
  u_op fq hF
  u_op fq hF
  u_c stepG_region_end fq hF
  u_c stepG_seq fq hF
  u_reg fq hF
  u_op fq hF
  u_op fq hF
  u_op fq hF
  u_op fq hF
  u_c stepG_region_end fq hF
  u_c stepG_seq fq hF
  u_c stepG_seq fq hF
  u_reg fq hF
  u_op fq hF
  u_op fq hF
  u_c stepG_region_end fq hF
  first | (u_cond false fq hF) | (u_cnd false fq hF)
  u_c stepG_skip fq hF
  u_c stepG_seq fq hF
  u_reg fq hF
  u_op fq hF
  u_op fq hF
  u_op fq hF
  u_op fq hF
  u_op fq hF
  u_op fq hF
  u_call H.f_uCas (nm_uCas L) uCasFn fq hF
  u_c stepG_seq fq hF
  u_reg fq hF
  u_op fq hF
  u_c stepG_region_end fq hF
  u_c stepG_seq fq hF
  u_reg fq hF
  u_op fq hF
  u_op fq hF
  u_op fq hF
  u_op fq hF
  u_op fq hF
  refine Goes.stop (fun w₁ h₁=>.stop fun w₂ h₂=>?_)
  replace hF:=flr hF2 (flr hF2 hF h₁) h₂
  clear h₁ h₂
  refine ⟨rfl,fun v' hv' hw=>⟨fun e=>?_,fun e=>?_⟩⟩
  ·subst e
   rw [hS] at hw ⊢
   refine ⟨_,(stepG_cas_hit (v:=S) (n:=S + 1) rfl rfl (by k_ne) rfl H.f_casU64 (x_casU64_n L) (x_casU64_b L) (x_casU64_x L) .u64 (x_casU64_f L) rfl rfl rfl hw.cellSt (hw.thaw 0)).trans (by rfl),gp_in (n:=70) ?_⟩
   replace hF:F (w₂.setCell (stA c.Wg) (.int .u64 (S + 1)))/\WgLive c.ty c.Wg (w₂.setCell (stA c.Wg) (.int .u64 (S + 1))):=⟨hF3 _ _ _ rfl hF.1,⟨_,_,hw.setSt _⟩⟩
   clear hw
   walk_nrm
   u_op fq hF
   u_c stepG_region_end fq hF
   u_c stepG_ret' fq hF
   u_leave1 H.f_uCas fq hF
   u_c stepG_region_end fq hF
   first | (u_cond true fq hF) | (u_cnd true fq hF)
   u_c stepG_seq fq hF
   u_c stepG_seq fq hF
   u_reg fq hF
   u_op fq hF
   u_op fq hF
   u_op fq hF
   u_op fq hF
   u_c stepG_region_end fq hF
   first | (u_cond true fq hF) | (u_cnd true fq hF)
   u_reg fq hF
   u_op fq hF
   u_op fq hF
   u_op fq hF
   u_in fq hF
   refine goes_oper_k rfl rfl (by k_ne) (fun Kx hKx=>?_)
   have hcv:=run_convert_to_unsafe (P:=c.P) H.underlying_tPU32 H.underlying_tUP H.room_tU32 (WgLive.cell1 hF.2).choose_spec
   have hce:=fun es=>events_convert_to_unsafe (P:=c.P) H.underlying_tPU32 H.underlying_tUP H.room_tU32 (WgLive.cell1 hF.2).choose_spec es
   go_simp
   refine hKx _ _ ⟨?_,?_⟩
   ·u_none
    intro ex hex
    have hmx:=mem_listed hex
    simp [go_sem,hce] at hmx
   clear hKx Kx hcv hce
   refine Goes.stop (fun w₁ h₁=>.stop fun w₂ h₂=>?_)
   replace hF:=flr hF2 (flr hF2 hF h₁) h₂
   clear h₁ h₂
   refine ⟨rfl,_,stepG_markAt .write (by simp) rfl rfl (by k_ne) rfl H.f_raceWrite (x_raceWrite_n L) (x_raceWrite_b L) (x_raceWrite_x L) (x_raceWrite_f L) (ad:=⟨c.Wg,1,none⟩) (by simp [Act.eval]),gp_in (n:=60) ?_⟩
   walk_nrm
   u_c stepG_region_end fq hF
   u_c stepG_seq fq hF
   u_reg fq hF
   u_op fq hF
   u_c stepG_region_end fq hF
   u_c stepG_seq fq hF
   u_c stepG_seq fq hF
   u_reg fq hF
   u_op fq hF
   u_op fq hF
   u_op fq hF
   u_op fq hF
   u_skip fq hF
   u_op fq hF
   u_c stepG_region_end fq hF
   first | (u_cond false fq hF) | (u_cnd false fq hF)
   u_c stepG_skip fq hF
   u_c stepG_seq fq hF
   u_reg fq hF
   u_op fq hF
   u_op fq hF
   u_op fq hF
   u_op fq hF
   refine Goes.stop (fun w₁ h₁=>.stop fun w₂ h₂=>?_)
   replace hF:=flr hF2 (flr hF2 hF h₁) h₂
   clear h₁ h₂
   refine ⟨rfl,rfl,fun ⟨st,hw⟩=>stepG_semacquire_wait rfl rfl rfl H.f_semacquire (x_semacquire_n L) (x_semacquire_b L) (x_semacquire_x L) (x_semacquire_f L) (by simp [Act.eval,smA]) hw.cellSm,fun hf=>?_⟩
   refine ⟨_,(stepG_semacquire (n:=1) rfl rfl (by k_ne) rfl H.f_semacquire (x_semacquire_n L) (x_semacquire_b L) (x_semacquire_x L) (x_semacquire_f L) (by simp [Act.eval,smA]) hf.cellSm (by k_ne) (hf.thaw 1)).trans (by rfl),gp_in (n:=40) ?_⟩
   replace hF:F (w₂.setCell (smA c.Wg) (.int .u32 0))/\WgLive c.ty c.Wg (w₂.setCell (smA c.Wg) (.int .u32 0)):=⟨hF3 _ _ _ rfl hF.1,⟨_,_,hf.setSm 0⟩⟩
   clear hf
   walk_nrm
   u_c stepG_region_end fq hF
   u_c stepG_seq fq hF
   u_reg fq hF
   u_op fq hF
   u_op fq hF
   u_op fq hF
   u_call H.f_uLoad (nm_uLoad L) uLoadFn fq hF
   u_c stepG_seq fq hF
   u_reg fq hF
   u_op fq hF
   u_c stepG_region_end fq hF
   u_c stepG_seq fq hF
   u_reg fq hF
   u_op fq hF
   u_op fq hF
   u_op fq hF
   refine Goes.stop (fun w₁ h₁=>.stop fun w₂ h₂=>?_)
   replace hF:=flr hF2 (flr hF2 hF h₁) h₂
   clear h₁ h₂
   refine ⟨rfl,fun hw=>⟨_,stepG_load_atomic (v:=0) rfl rfl (by k_ne) rfl H.f_loadU64 (x_loadU64_n L) (x_loadU64_b L) (x_loadU64_x L) .u64 (x_loadU64_f L) rfl hw.cellSt,gp_in (n:=40) ?_⟩⟩
   clear hw
   walk_nrm
   u_op fq hF
   u_c stepG_region_end fq hF
   u_c stepG_ret' fq hF
   u_leave1 H.f_uLoad fq hF
   u_op fq hF
   u_op fq hF
   u_c stepG_region_end fq hF
   u_c stepG_seq fq hF
   u_cond true fq hF
   u_c stepG_seq fq hF
   u_reg fq hF
   refine Goes.stop (fun w₁ h₁=>.stop fun w₂ h₂=>?_)
   replace hF:=flr hF2 (flr hF2 hF h₁) h₂
   clear h₁ h₂
   refine ⟨rfl,_,stepG_mark0 .enable (by simp) rfl rfl (by k_ne) rfl H.f_enable (x_enable_n L) (x_enable_b L) (x_enable_x L) (x_enable_f L),gp_in (n:=30) ?_⟩
   walk_nrm
   u_c stepG_region_end fq hF
   u_reg fq hF
   u_op fq hF
   u_in fq hF
   refine goes_oper_k rfl rfl (by k_ne) (fun Kx hKx=>?_)
   have hcv:=run_convert_to_unsafe (P:=c.P) H.underlying_tWgP H.underlying_tUP H.room_tWg (WgLive.cell0 hF.2).choose_spec
   have hce:=fun es=>events_convert_to_unsafe (P:=c.P) H.underlying_tWgP H.underlying_tUP H.room_tWg (WgLive.cell0 hF.2).choose_spec es
   go_simp
   refine hKx _ _ ⟨?_,?_⟩
   ·u_none
    intro ex hex
    have hmx:=mem_listed hex
    simp [go_sem,hce] at hmx
   clear hKx Kx hcv hce
   refine Goes.stop (fun w₁ h₁=>.stop fun w₂ h₂=>?_)
   replace hF:=flr hF2 (flr hF2 hF h₁) h₂
   clear h₁ h₂
   refine ⟨rfl,_,stepG_markAt .acquire (by simp) rfl rfl (by k_ne) rfl H.f_acquire (x_acquire_n L) (x_acquire_b L) (x_acquire_x L) (x_acquire_f L) (ad:=stA c.Wg) (by simp [Act.eval,stA]),fun hd=>kt_in (n:=40) ?_⟩
   obtain ⟨B,hB⟩:∃ B,w₂.heap.size = B:=⟨_,rfl⟩
   replace hF:FT c F B w₂:=⟨hF.1,hF.2,hd,hB⟩
   rw [hB]
   clear hB hd
   walk_nrm
   u_c stepG_region_end (ftr hRes hF2) hF
   u_c stepG_seq (ftr hRes hF2) hF
   u_c stepG_seq (ftr hRes hF2) hF
   u_reg (ftr hRes hF2) hF
   u_op (ftr hRes hF2) hF
   u_c stepG_region_end (ftr hRes hF2) hF
   first | (u_cond false (ftr hRes hF2) hF) | (u_cnd false (ftr hRes hF2) hF)
   u_c stepG_skip (ftr hRes hF2) hF
   u_c stepG_ret' (ftr hRes hF2) hF
   u_leave0 H.f_wait (ftr hRes hF2) hF
   refine Goes.stop (fun w₁ h₁=>?_)
   have hx:=ftr hRes hF2 hF h₁
   have:=hT w₁ hx.f hx.live hx.done
   rw [hx.size] at this
   exact this
  ·refine ⟨_,stepG_cas_miss (v:=(v':Int) * KK) (old:=S) (n:=S + 1) rfl rfl (by k_ne) rfl H.f_casU64 (x_casU64_n L) (x_casU64_b L) (x_casU64_x L) .u64 (x_casU64_f L) rfl rfl rfl hw.cellSt (hw.thaw 0) (by rw [<- hS];simp only [KK];omega),gp_in (n:=20) ?_⟩
   clear hw
   walk_nrm
   u_op fq hF
   u_c stepG_region_end fq hF
   u_c stepG_ret' fq hF
   u_leave1 H.f_uCas fq hF
   u_c stepG_region_end fq hF
   first | (u_cond false fq hF) | (u_cnd false fq hF)
   u_c stepG_skip fq hF
   u_c stepG_inBlock fq hF
   u_c stepG_inLoop fq hF
   exact Goes.stop (fun w₁ h₁=>.stop fun w₂ h₂=>hW _ _ ⟨_,rfl,by simp,by simp,by rw [<- hty];exact flr hF2 (flr hF2 hF h₁) h₂⟩)
end
open Go.Conc Go.ConcN Go.RowKit Go.Conc.Lib Go.ConcR.Gen Go.ConcN.Gen Go.Proofs
open Go.ConcR (KK wgBlock WgAt stA smA rd wr mk Payload DC0)
variable [Payload]
structure SF (c:Cfg) (W:World) (bj bo bc:Nat) (vj:Value) (El:Nat->Value) (w:World):Prop where
 jb:w.cell? ⟨bj,0,none⟩ = some vj
 ob:w.cell? ⟨bo,0,none⟩ = some (.slice (some ⟨c.Out,0,none⟩) c.N c.N)
 el:∀ k,k < c.N->∃ J o cap,vj = .slice (some ⟨J,o,none⟩) c.N cap/\J < W.heap.size/\w.cell? ⟨J,o + k,none⟩ = some (El k)
 below:Below W.heap.size W w
 cb:w.cell? ⟨bc,0,none⟩ = some (.chan (some c.Ch))
section
variable {c:Cfg} {W:World} {bj bo bc:Nat} {vj:Value} {El:Nat->Value} {w w₁:World}
theorem SF.wf (h:SF c W bj bo bc vj El w) (hl:WgLive c.ty c.Wg w):WF c W bj bo vj El w:=⟨h.jb,h.ob,h.el,hl,h.below⟩
theorem SF.rely (hW:Wh c W bj bo) (hbc:c.RO bc) (r:R0 c w w₁) (h:SF c W bj bo bc vj El w):SF c W bj bo bc vj El w₁:=by
 refine ⟨(cell_of_block (r.low _ hW.rj) 0).trans h.jb,(cell_of_block (r.low _ hW.ro) 0).trans h.ob,fun k hk=>?_,h.below.trans ⟨r.os,r.tape,r.output,r.size,fun b hb=>r.low b (hW.low b hb)⟩,(cell_of_block (r.low _ hbc) 0).trans h.cb⟩
 obtain ⟨J,o,cap,e,hJ,hc⟩:=h.el k hk
 exact ⟨J,o,cap,e,hJ,(cell_of_block (r.low _ (hW.low J hJ)) _).trans hc⟩
theorem SF.set (hn:bj≠c.Wg/\bo≠c.Wg/\bc≠c.Wg/\W.heap.size<=c.Wg) {a:Addr} (v:Value) (ha:a.block = c.Wg) (h:SF c W bj bo bc vj El w):SF c W bj bo bc vj El (w.setCell a v):=by
 have hb:∀ b,b≠c.Wg->(w.setCell a v).heap[b]? = w.heap[b]?:=fun b hb=>by
  have hb':a.block≠b:=by rw [ha];exact Ne.symm hb
  simp only [World.setCell,Array.getElem?_modify]
  rw [if_neg hb']
 refine ⟨(World.cell?_of_block (hb _ hn.1)).trans h.jb,(World.cell?_of_block (hb _ hn.2.1)).trans h.ob,fun k hk=>?_,h.below.trans ⟨rfl,rfl,rfl,by rw [size_setCell];exact Nat.le_refl _,fun b hb'=>hb b (by omega)⟩,(World.cell?_of_block (hb _ hn.2.2.1)).trans h.cb⟩
 obtain ⟨J,o,cap,e,hJ,hc⟩:=h.el k hk
 exact ⟨J,o,cap,e,hJ,(World.cell?_of_block (hb J (by have:=hn.2.2.2;omega))).trans hc⟩
end
theorem ent12 (v:Value):(#[v]:Array Value) ++ Array.replicate ((waitFn lnk).ntmps - (#[v]:Array Value).size) undef = #[v,undef,undef,undef,undef,undef,undef,undef,undef,undef,undef,undef,undef,undef,undef,undef,undef,undef,undef,undef,undef,undef,undef,undef,undef,undef,undef,undef,undef,undef,undef,undef,undef,undef,undef,undef,undef,undef,undef,undef,undef,undef,undef,undef,undef,undef,undef,undef,undef,undef,undef,undef,undef,undef,undef,undef,undef,undef,undef,undef,undef,undef,undef,undef,undef,undef,undef,undef,undef,undef,undef,undef,undef,undef,undef,undef,undef,undef,undef,undef,undef,undef,undef,undef]:=by kernel_rfl
theorem ent8 (v u:Value):(#[v,u]:Array Value) ++ Array.replicate ((addFn lnk).ntmps - (#[v,u]:Array Value).size) undef = #[v,u,undef,undef,undef,undef,undef,undef,undef,undef,undef,undef,undef,undef,undef,undef,undef,undef,undef,undef,undef,undef,undef,undef,undef,undef,undef,undef,undef,undef,undef,undef,undef,undef,undef,undef,undef,undef,undef,undef,undef,undef,undef,undef,undef,undef,undef,undef,undef,undef,undef,undef,undef,undef,undef,undef,undef,undef,undef,undef,undef,undef,undef,undef,undef,undef,undef,undef,undef,undef,undef,undef,undef,undef,undef,undef,undef,undef,undef,undef,undef,undef,undef,undef,undef,undef,undef,undef,undef,undef,undef,undef,undef,undef,undef,undef,undef,undef,undef,undef,undef,undef,undef,undef,undef,undef,undef,undef,undef,undef,undef,undef,undef,undef,undef,undef,undef]:=by kernel_rfl
theorem run_callF {f:FuncId} {fn:Func} {a:Act} {o:Oper} {w:World} {ts:Array TypeId} {xs:Array Operand} {vs:Array Value} (hf:Tryd.prog.funcs[f]? = some fn) (hn:(fn.name == "runtime.NumGoroutine") = false) (hb:fn.body.isNone = false)
 (hop:o.op = .call ⟨.value (.func f),xs,ts⟩) (hx:xs.map a.eval = vs):(execOp a.eval o).run Tryd.prog w = .ok (.enter f vs) w/\(execOp a.eval o).events Tryd.prog w #[] = #[]:=by
 have hF:a.eval (.func f) = .func (.func f) #[] #[]:=rfl
 have hn':fn.name≠ "runtime.NumGoroutine":=by simpa using hn
 have hb':fn.body≠none:=by intro e;simp [e] at hb
 obtain ⟨dst,op,typ,pos,after,guard⟩:=o
 simp only at hop
 subst hop
 subst hx
 constructor <;> simp [execOp,resolve,Deferred.ofValue,hF,invoke,callFunc,hf,hn',hb']
theorem run_go {a:Act} {o:Oper} {w:World} {x:Operand} {f:FuncId} {cs:Array Value} (hop:o.op = .go ⟨.value x,#[],#[]⟩) (hx:a.eval x = .func (.func f) #[] cs):(execOp a.eval o).run Tryd.prog w = .ok (.spawn { target:=.fn (.func f) cs,args:=#[] }) w/\(execOp a.eval o).events Tryd.prog w #[] = #[]:=by
 obtain ⟨dst,op,typ,pos,after,guard⟩:=o
 simp only at hop
 subst hop
 constructor
 ·simp only [execOp,resolve]
  rw [hx]
  simp [Deferred.ofValue]
 ·simp only [execOp,resolve]
  rw [hx]
  simp [Deferred.ofValue]
section
variable {Lz N:Nat} {RO:Nat->Prop} {Res:Nat->Value->Value->(Nat->Prop)->World->Prop} {Post:Value->World->Prop} {cs:List Frame} {W:World} {n:Nat} {vj:Value} {El:Nat->Value}
def AnW4 (c:Cfg) (W:World) (bj bo bc:Nat) (vj:Value) (El:Nat->Value) (cs:List Frame) (g:Goroutine) (w:World):Prop:=
 ∃ a E,ShA 39 E a/\E 6 = .pointer (some ⟨bo,0,none⟩)/\AnchWN lnk (SF c W bj bo bc vj El) c.Wg (b4.at a (.inRegion o4r [0] :: [.code c4i])) cs g w
set_option maxRecDepth 100000 in
set_option maxHeartbeats 800000 in
theorem spawn4 (hW:Wh (cfg (W.heap.size + 5) (W.heap.size + 3) (W.heap.size + 1) Lz N RO Res) W W.heap.size (W.heap.size + 2)) (hbc:RO (W.heap.size + 4)) (hRes:∀ k v1 v2 fin w w',Res k v1 v2 fin w->(∀ b,fin b->w'.heap[b]? = w.heap[b]?)->Res k v1 v2 fin w') (hOut:¬ RO (W.heap.size + 1))
 (hDo:∀ k,k < N->∀ w,WF (cfg (W.heap.size + 5) (W.heap.size + 3) (W.heap.size + 1) Lz N RO Res) W W.heap.size (W.heap.size + 2) vj El w->CallsO Tryd.prog false (Kw (cfg (W.heap.size + 5) (W.heap.size + 3) (W.heap.size + 1) Lz N RO Res)) 10 #[El k] ⟨noOwn,w⟩ fun v σ'=>(∃ x1 n1 c1 x2 n2 c2,v = .agg #[.slice x1 n1 c1,.slice x2 n2 c2]/\∃ fin,Res k (.slice x1 n1 c1) (.slice x2 n2 c2) fin σ'.w/\∀ b,fin b->σ'.own b\/RO b)/\WF (cfg (W.heap.size + 5) (W.heap.size + 3) (W.heap.size + 1) Lz N RO Res) W W.heap.size (W.heap.size + 2) vj El σ'.w)
 (hn:n<=8):∀ (m h:Nat) (a:Act) (w:World) (E:Nat->Value),h + m = n->ShA 39 E a->A4 (n:Int) W.heap.size E->E 9 = .pointer (some ⟨W.heap.size + 5,0,none⟩)->E 31 = .int .i64 (n:Int)->E 32 = .int .i64 (h:Int)->(SF (cfg (W.heap.size + 5) (W.heap.size + 3) (W.heap.size + 1) Lz N RO Res) W W.heap.size (W.heap.size + 2) (W.heap.size + 4) vj El) w->WgLive lnk.tWg (W.heap.size + 5) w ->
   GP (cfg (W.heap.size + 5) (W.heap.size + 3) (W.heap.size + 1) Lz N RO Res) (AtSp (cfg (W.heap.size + 5) (W.heap.size + 3) (W.heap.size + 1) Lz N RO Res) (Anch9 (cfg (W.heap.size + 5) (W.heap.size + 3) (W.heap.size + 1) Lz N RO Res) W W.heap.size (W.heap.size + 2) vj El) (AnW4 (cfg (W.heap.size + 5) (W.heap.size + 3) (W.heap.size + 1) Lz N RO Res) W W.heap.size (W.heap.size + 2) (W.heap.size + 4) vj El cs) m) (G (b4.at a [.code lp2,.inLoop lp2,.inBlock 2,.code c4h]) cs) w:=by
 have early4:=early4
 have T:=K0.ok (cfg (W.heap.size + 5) (W.heap.size + 3) (W.heap.size + 1) Lz N RO Res)
 have hne:W.heap.size≠W.heap.size + 5/\W.heap.size + 2≠W.heap.size + 5/\W.heap.size + 4≠W.heap.size + 5/\W.heap.size<=W.heap.size + 5:=by omega
 intro m
 induction m with
 | zero=>
  intro h a w E hr hs hA h9 h31 h32 hF hl
  obtain rfl:h = n:=by omega
  rw [lp2_eq]
  refine .ctl T rfl (fun _=>stepG_seq) (.ctl T rfl (fun _=>stepG_region) ?_)
  refine opG_cons T early4 (opO_calcK T (v:=.bool (decide ((h:Int) < (h:Int)))) rfl rfl (fun w=>run_lss rfl ((hs.2.2 32).trans h32) ((hs.2.2 31).trans h31)) fun w₁ r=>?_)
  have hF:=hF.rely hW hbc r
  have hl:=r.lk.wg hl
  have hs:=hs.put (d:=33) (by decide) (.bool (decide ((h:Int) < (h:Int))))
  refine .ctl T rfl (fun _=>stepG_region_end) (.ctl T rfl (fun _=>stepG_seq) (.ctl T rfl (fun _=>stepG_cond (t:=false) ((hs.2.2 33).trans (by simp [upd9]))) (.ctl T rfl (fun _=>stepG_exit rfl) ?_)))
  rw [c4h_eq]
  refine .ctl T rfl (fun _=>stepG_seq) (.ctl T rfl (fun _=>stepG_region) ?_)
  refine .go rfl fun w₂ r₂=>?_
  have hF:=hF.rely hW hbc r₂
  have hl:=r₂.lk.wg hl
  obtain ⟨r1,r2⟩:=run_callF (f:=12) (w:=w₂) (a:=a.put (some 33) (.bool (decide ((h:Int) < (h:Int))))) (o:=opn o4r 0) (xs:=#[.tmp 9]) (vs:=#[.pointer (some ⟨W.heap.size + 5,0,none⟩)]) wgLib.f_wait (by kernel_rfl) (by kernel_rfl) rfl (by
   simp only [List.map_toArray,List.map_cons,List.map_nil]
   rw [hs.2.2 9,show upd9 E 33 _ 9 = E 9 from rfl,h9])
  have hst:=stepG_enter (P:=Tryd.prog) (main:=true) (b:=b4) (k:=[.code c4i]) (cs:=cs) (ops:=o4r) (i:=0) (rest:=[]) (o:=opn o4r 0) rfl (wanted_none rfl) early4 r1
  rw [listed_nil r2] at hst
  refine ⟨_,⟨noOwn,w₂⟩,#[],hst,T.idle _,?_⟩
  ·rw [enter_at _ wgLib.f_wait (c:=body_wait lnk) rfl,ent12]
   exact waitW (c:=(cfg (W.heap.size + 5) (W.heap.size + 3) (W.heap.size + 1) Lz N RO Res)) wgLib (fun _ _ r h=>h.rely hW hbc r) (fun _ _ v ha h=>h.set hne v ha) rfl (fun g w hA'=>⟨_,_,hs,hA.t6,hA'⟩) w₂ ⟨hF,hl⟩
 | succ m ih=>
  intro h a w E hr hs hA h9 h31 h32 hF hl
  rw [lp2_eq]
  refine .ctl T rfl (fun _=>stepG_seq) (.ctl T rfl (fun _=>stepG_region) ?_)
  refine opG_cons T early4 (opO_calcK T (v:=.bool (decide ((h:Int) < (n:Int)))) rfl rfl (fun w=>run_lss rfl ((hs.2.2 32).trans h32) ((hs.2.2 31).trans h31)) fun w₁ r=>?_)
  have hF:=hF.rely hW hbc r
  have hl:=r.lk.wg hl
  have hlt:decide ((h:Int) < (n:Int)) = true:=by simp;omega
  have hs:=hs.put (d:=33) (by decide) (.bool (decide ((h:Int) < (n:Int))))
  refine .ctl T rfl (fun _=>stepG_region_end) (.ctl T rfl (fun _=>stepG_seq) (.ctl T rfl (fun _=>stepG_cond (t:=true) ((hs.2.2 33).trans (by simp only [upd9,if_true];rw [hlt]))) (.ctl T rfl (fun _=>stepG_skip) (.ctl T rfl (fun _=>stepG_seq) (.ctl T rfl (fun _=>stepG_block) (.ctl T rfl (fun _=>stepG_seq) (.ctl T rfl (fun _=>stepG_region) ?_)))))))
  refine .go rfl fun w₂ r₂=>?_
  have hF:=hF.rely hW hbc r₂
  have hl:=r₂.lk.wg hl
  obtain ⟨r1,r2⟩:=run_callF (f:=8) (w:=w₂) (a:=a.put (some 33) (.bool (decide ((h:Int) < (n:Int))))) (o:=opn o4o 0) (xs:=#[.tmp 9,.const (.int .i64 1)]) (vs:=#[.pointer (some ⟨W.heap.size + 5,0,none⟩),.int .i64 1]) wgLib.f_add (by kernel_rfl) (by kernel_rfl) rfl (by
   simp only [List.map_toArray,List.map_cons,List.map_nil]
   rw [hs.2.2 9,show upd9 E 33 _ 9 = E 9 from rfl,h9]
   rfl)
  have hst:=stepG_enter (P:=Tryd.prog) (main:=true) (b:=b4) (k:=[.code (.region 15 o4p false),.inBlock 3,.code (.region 16 o4q false),.inLoop lp2,.inBlock 2,.code c4h]) (cs:=cs) (ops:=o4o) (i:=0) (rest:=[]) (o:=opn o4o 0) rfl (wanted_none rfl) early4 r1
  rw [listed_nil r2] at hst
  refine ⟨_,⟨noOwn,w₂⟩,#[],hst,T.idle _,?_⟩
  ·rw [enter_at _ wgLib.f_add (c:=body_add lnk) rfl,ent8]
   refine addW (c:=(cfg (W.heap.size + 5) (W.heap.size + 3) (W.heap.size + 1) Lz N RO Res)) (Next:=AtSp (cfg (W.heap.size + 5) (W.heap.size + 3) (W.heap.size + 1) Lz N RO Res) (Anch9 (cfg (W.heap.size + 5) (W.heap.size + 3) (W.heap.size + 1) Lz N RO Res) W W.heap.size (W.heap.size + 2) vj El) (AnW4 (cfg (W.heap.size + 5) (W.heap.size + 3) (W.heap.size + 1) Lz N RO Res) W W.heap.size (W.heap.size + 2) (W.heap.size + 4) vj El cs) m) wgLib (fun _ _ r h=>SF.rely hW hbc r h) (fun _ _ v ha h=>h.set hne v ha) (fun w₃ hF hl=>?_) w₂ ⟨hF,hl⟩
   have hs:=hs.put (d:=34) (by decide) (.tuple #[])
   refine .ctl T rfl (fun _=>stepG_region_end) (.ctl T rfl (fun _=>stepG_region) ?_)
   refine opG_cons T early4 (opO_calcK (o:=opn o4p 0) T (v:=.func (.func 9) #[] #[.pointer (some ⟨W.heap.size + 4,0,none⟩),.pointer (some ⟨W.heap.size,0,none⟩),.pointer (some ⟨W.heap.size + 2,0,none⟩),.pointer (some ⟨W.heap.size + 5,0,none⟩)]) rfl rfl (fun w=>?_) fun w₄ r₄=>?_)
   ·have:=run_makeFunc (P:=Tryd.prog) (w:=w) (o:=opn o4p 0) (f:=9) (ys:=#[.tmp 7,.tmp 3,.tmp 6,.tmp 9]) (a:=(a.put (some 33) (.bool (decide ((h:Int) < (n:Int))))).put (some 34) (.tuple #[])) rfl
    simp only [List.map_toArray,List.map_cons,List.map_nil] at this
    rw [hs.2.2 7,hs.2.2 3,hs.2.2 6,hs.2.2 9,show upd9 (upd9 E 33 _) 34 _ 7 = E 7 from rfl,show upd9 (upd9 E 33 _) 34 _ 3 = E 3 from rfl,show upd9 (upd9 E 33 _) 34 _ 6 = E 6 from rfl,show upd9 (upd9 E 33 _) 34 _ 9 = E 9 from rfl,hA.t7,hA.t3,hA.t6,h9] at this
    exact this
   have hF:=hF.rely hW hbc r₄
   have hl:=r₄.lk.wg hl
   have hs:=hs.put (d:=35) (by decide) (.func (.func 9) #[] #[.pointer (some ⟨W.heap.size + 4,0,none⟩),.pointer (some ⟨W.heap.size,0,none⟩),.pointer (some ⟨W.heap.size + 2,0,none⟩),.pointer (some ⟨W.heap.size + 5,0,none⟩)])
   refine .stop fun w₅ r₅=>?_
   have hF:=hF.rely hW hbc r₅
   have hl:=r₅.lk.wg hl
   obtain ⟨s1,s2⟩:=run_go (w:=w₅) (o:=opn o4p 1) rfl ((hs.2.2 35).trans rfl)
   have hst:=stepG_spawn (P:=Tryd.prog) (main:=true) (b:=b4) (k:=[.inBlock 3,.code (.region 16 o4q false),.inLoop lp2,.inBlock 2,.code c4h]) (cs:=cs) (ops:=o4p) (i:=1) (rest:=[]) (o:=opn o4p 1) rfl (wanted_none rfl) early4 s1 rfl
   rw [listed_nil s2] at hst
   refine ⟨rfl,_,_,hst,rfl,work9 (bc:=W.heap.size + 4) hW (by omega) hRes hOut (by omega) hDo (hF.wf hl) hbc hF.cb,?_⟩
   refine .ctl T rfl (fun _=>stepG_region_end) (.ctl T rfl (fun _=>stepG_inBlock) (.ctl T rfl (fun _=>stepG_region) ?_))
   have hw:IntKind.i64.wrap ((h:Int) + 1) = ((h + 1:Nat):Int):=by rw [IntKind.wrap_i64];omega
   have hs:ShA 39 _ (Act.put _ Option.none undef):=hs.none
   refine opG_cons T early4 (opO_calcK (o:=opn o4q 0) T (v:=.int .i64 ((h + 1:Nat):Int)) rfl rfl (fun w=>by rw [<- hw];exact run_add (n:=1) rfl ((hs.2.2 32).trans h32) rfl) fun w₆ r₆=>?_)
   have hF:=hF.rely hW hbc r₆
   have hl:=r₆.lk.wg hl
   have hs:=hs.put (d:=36) (by decide) (.int .i64 ((h + 1:Nat):Int))
   refine opG_cons T early4 (opO_calcK (o:=opn o4q 1) T (v:=.int .i64 ((h + 1:Nat):Int)) rfl rfl (fun w=>run_move (.inl rfl) ((hs.2.2 36).trans rfl)) fun w₇ r₇=>?_)
   have hF:=hF.rely hW hbc r₇
   have hl:=r₇.lk.wg hl
   have hs:=hs.put (d:=32) (by decide) (.int .i64 ((h + 1:Nat):Int))
   refine .ctl T rfl (fun _=>stepG_region_end) (.ctl T rfl (fun _=>stepG_inLoop) ?_)
   exact ih (h + 1) _ _ _ (by omega) hs ⟨hA.t0,hA.t3,hA.t6,hA.t7⟩ h9 h31 rfl hF hl
end
end Go.Co
namespace Go.Am
inductive Stp (σ β:Type) where
 | more (s:σ)
 | stop (b:β)
def iter {σ β:Type} (step:σ->Option (Stp σ β)):Nat->σ->Option β
 | 0,_=>none
 | f + 1,s=>
  match step s with
  | none=>none
  | some (.more s')=>iter step f s'
  | some (.stop b)=>some b
def at? {α:Type} (L:List α) (i:Int):Option α:=if 0<=i then L[i.toNat]? else none
def ck {α:Type} (L:List α) (i:Int):Option Unit:=if 0<=i/\i < L.length then some () else none
def app? {α:Type} (L L':List α):Option (List α):=if L.length + L'.length<=549755813888 then some (L ++ L') else none
def sub? {α:Type} (L:List α) (lo hi:Int):Option (List α):=if 0<=lo/\lo<=hi/\hi<=L.length then some ((L.take hi.toNat).drop lo.toNat) else none
def minI (a b:Int):Int:=if b < a then b else a
def bytes? (s:List UInt8):Option (List Int):=if s.length<=9223372036854775807 then some (s.map fun b=>(b.toNat:Int)) else none
theorem andT {q b:Bool} (h:q = true):AV.sc (.bool b) = .sc (.bool (q && b)):=by subst h;rfl
theorem andF {q b:Bool} (h:q = false):AV.sc (.bool false) = .sc (.bool (q && b)):=by subst h;rfl
theorem orT {q b:Bool} (h:q = true):AV.sc (.bool true) = .sc (.bool (q || b)):=by subst h;rfl
theorem orF {q b:Bool} (h:q = false):AV.sc (.bool b) = .sc (.bool (q || b)):=by subst h;rfl
theorem at?_some {α:Type} {L:List α} {i:Int} {x:α} (h:at? L i = some x):0<=i/\i < L.length/\L[i.toNat]? = some x:=by
 unfold at? at h
 split at h
 ·rename_i h0
  have:=(List.getElem?_eq_some_iff.1 h).1
  exact ⟨h0,by omega,h⟩
 ·cases h
theorem at?_lt {α:Type} {L:List α} {i:Int} {x:α} (h:at? L i = some x):0<=i/\i < L.length:=⟨(at?_some h).1,(at?_some h).2.1⟩
theorem at?_nat {α:Type} {L:List α} {i:Int} {x:α} (h:at? L i = some x):i.toNat < L.length:=by have:=at?_lt h;omega
theorem at?_get {α:Type} {L:List α} {i:Int} {x:α} (h:at? L i = some x):L[i.toNat]? = some x:=(at?_some h).2.2
theorem ck_some {α:Type} {L:List α} {i:Int} {u:Unit} (h:ck L i = some u):0<=i/\i < L.length:=by
 unfold ck at h
 split at h
 ·assumption
 ·cases h
theorem ck_nat {α:Type} {L:List α} {i:Int} {u:Unit} (h:ck L i = some u):i.toNat < L.length:=by have:=ck_some h;omega
theorem app?_some {α:Type} {L L' M:List α} (h:app? L L' = some M):L.length + L'.length<=549755813888/\M = L ++ L':=by
 unfold app? at h
 split at h
 ·cases h;exact ⟨by assumption,rfl⟩
 ·cases h
theorem sub?_some {α:Type} {L M:List α} {lo hi:Int} (h:sub? L lo hi = some M):(0<=lo/\lo<=hi/\hi<=L.length)/\M = (L.take hi.toNat).drop lo.toNat:=by
 unfold sub? at h
 split at h
 ·cases h;exact ⟨by assumption,rfl⟩
 ·cases h
theorem bindS {α β:Type} {o:Option α} {f:α->Option β} {r:β} (h:o.bind f = some r):∃ x,o = some x/\f x = some r:=by
 cases o with
 | none=>cases h
 | some x=>exact ⟨x,rfl,h⟩
theorem iteT {α:Type} {q:Bool} {a b r:α} (hq:q = true) (h:(if q then a else b) = r):a = r:=by subst hq;exact h
theorem iteF {α:Type} {q:Bool} {a b r:α} (hq:q = false) (h:(if q then a else b) = r):b = r:=by subst hq;exact h
theorem someI {α:Type} {a b:α} (h:some a = some b):a = b:=by cases h;rfl
structure Lay (α:Type) where
 sz:Nat
 R:(Nat->Prop)->Mem->α->List SV->Prop
 len:∀ {z m a cs},R z m a cs->cs.length = sz
 frame:∀ {z z':Nat->Prop} {m m':Mem} {a cs},R z m a cs->(∀ i,z i->z' i/\m'.get i = m.get i)->R z' m' a cs
def Lay.flat {α:Type} (sz:Nat) (f:α->List SV) (hf:∀ a,(f a).length = sz):Lay α where
 sz:=sz
 R _ _ a cs:=cs = f a
 len h:=by subst h;exact hf _
 frame h _:=h
abbrev Lay.one {α:Type} (g:α->SV):Lay α:=Lay.flat 1 (fun a=>[g a]) fun _=>rfl
def RL {α:Type} (A:Lay α) (z:Nat->Prop) (m:Mem):List α->List SV->Prop
 | [],cs=>cs = []
 | a :: L,cs=>∃ c r,cs = c ++ r/\A.R z m a c/\RL A z m L r
section rl
variable {α:Type} {A:Lay α} {z z':Nat->Prop} {m m':Mem} {L L':List α} {cs cs':List SV}
theorem RL.length:∀ {L:List α} {cs:List SV},RL A z m L cs->cs.length = L.length * A.sz
 | [],cs,h=>by rw [show cs = [] from h];simp
 | a :: L,cs,h=>by
  obtain ⟨c,r,rfl,h1,h2⟩:=h
  rw [List.length_append,A.len h1,RL.length h2,List.length_cons,Nat.add_mul,Nat.one_mul,Nat.add_comm]
theorem RL.frame:∀ {L:List α} {cs:List SV},RL A z m L cs->(∀ i,z i->z' i/\m'.get i = m.get i)->RL A z' m' L cs
 | [],_,h,_=>h
 | _ :: _,_,⟨c,r,e,h1,h2⟩,k=>⟨c,r,e,A.frame h1 k,RL.frame h2 k⟩
theorem RL.get:∀ {L:List α} {cs:List SV} (_:RL A z m L cs) {j:Nat} {a:α},L[j]? = some a->A.R z m a ((cs.drop (j * A.sz)).take A.sz)
 | [],_,_,j,a,h=>by simp at h
 | x :: L,cs,⟨c,r,e,h1,h2⟩,0,a,h=>by
  simp at h;subst h;subst e
  rw [Nat.zero_mul,List.drop_zero,List.take_append_of_le_length (by rw [A.len h1];exact Nat.le_refl _),List.take_of_length_le (by rw [A.len h1];exact Nat.le_refl _)]
  exact h1
 | x :: L,cs,⟨c,r,e,h1,h2⟩,j + 1,a,h=>by
  subst e
  have:=RL.get h2 (j:=j) (a:=a) (by simpa using h)
  rwa [Nat.add_mul,Nat.one_mul,Nat.add_comm,<- List.drop_drop,List.drop_append_of_le_length (by rw [A.len h1];exact Nat.le_refl _),List.drop_of_length_le (l:=c) (by rw [A.len h1];exact Nat.le_refl _),List.nil_append]
theorem RL.append:∀ {L L':List α} {cs cs':List SV},RL A z m L cs->RL A z m L' cs'->RL A z m (L ++ L') (cs ++ cs')
 | [],_,cs,_,h,h'=>by rw [show cs = [] from h];exact h'
 | _ :: _,_,_,_,⟨c,r,e,h1,h2⟩,h'=>⟨c,r ++ _,by rw [e,List.append_assoc],h1,RL.append h2 h'⟩
theorem RL.take:∀ (k:Nat) {L:List α} {cs:List SV},RL A z m L cs->RL A z m (L.take k) (cs.take (k * A.sz))
 | 0,_,_,_=>by simp [RL]
 | k + 1,[],cs,h=>by rw [show cs = [] from h];simp [RL]
 | k + 1,x :: L,cs,⟨c,r,e,h1,h2⟩=>by
  subst e
  refine ⟨c,r.take (k * A.sz),?_,h1,RL.take k h2⟩
  rw [Nat.add_mul,Nat.one_mul,Nat.add_comm,List.take_append,A.len h1,List.take_of_length_le (l:=c) (by rw [A.len h1];omega),Nat.add_sub_cancel_left]
theorem RL.drop:∀ (k:Nat) {L:List α} {cs:List SV},RL A z m L cs->RL A z m (L.drop k) (cs.drop (k * A.sz))
 | 0,_,_,h=>by simpa using h
 | k + 1,[],cs,h=>by rw [show cs = [] from h];simp [RL]
 | k + 1,x :: L,cs,⟨c,r,e,h1,h2⟩=>by
  subst e
  have:=RL.drop k h2
  have e1:(k + 1) * A.sz = A.sz + k * A.sz:=by rw [Nat.add_mul,Nat.one_mul,Nat.add_comm]
  rw [e1,List.drop_append,A.len h1,List.drop_of_length_le (l:=c) (by rw [A.len h1];omega),List.nil_append,Nat.add_sub_cancel_left]
  exact this
theorem RL.set:∀ {L:List α} {cs:List SV} (_:RL A z m L cs) {j:Nat} {a:α} {c:List SV},j < L.length->A.R z m a c->RL A z m (L.set j a) (splice cs (j * A.sz) c)
 | [],_,_,j,_,_,h,_=>by simp at h
 | x :: L,cs,⟨c,r,e,h1,h2⟩,0,a,c',_,h'=>by
  subst e
  refine ⟨c',r,?_,h',h2⟩
  unfold splice
  rw [Nat.zero_mul,List.take_zero,List.nil_append,Nat.zero_add,A.len h',List.drop_append_of_le_length (by rw [A.len h1];exact Nat.le_refl _),List.drop_of_length_le (l:=c) (by rw [A.len h1];exact Nat.le_refl _),List.nil_append]
 | x :: L,cs,⟨c,r,e,h1,h2⟩,j + 1,a,c',hj,h'=>by
  subst e
  refine ⟨c,splice r (j * A.sz) c',?_,h1,RL.set h2 (by simpa using hj) h'⟩
  unfold splice
  have e1:(j + 1) * A.sz = A.sz + j * A.sz:=by rw [Nat.add_mul,Nat.one_mul,Nat.add_comm]
  have e2:A.sz + j * A.sz + c'.length - A.sz = j * A.sz + c'.length:=by omega
  rw [e1,List.take_append,A.len h1,List.take_of_length_le (l:=c) (by rw [A.len h1];omega),Nat.add_sub_cancel_left,List.drop_append,A.len h1,List.drop_of_length_le (l:=c) (by rw [A.len h1];omega),e2,List.nil_append,List.append_assoc,List.append_assoc,List.append_assoc]
theorem RL.replicate {a:α} {c:List SV} (h:A.R z m a c):∀ n,RL A z m (List.replicate n a) (List.replicate n c).flatten
 | 0=>by simp [RL]
 | n + 1=>by rw [List.replicate_succ,List.replicate_succ,List.flatten_cons];exact ⟨c,_,rfl,h,RL.replicate h n⟩
theorem RL.one {a:α} {c:List SV} (h:A.R z m a c):RL A z m [a] c:=⟨c,[],by simp,h,rfl⟩
theorem RL.ofMap {g:α->SV}:∀ (L:List α),RL (Lay.one g) z m L (L.map g)
 | []=>rfl
 | a :: L=>⟨[g a],L.map g,rfl,rfl,RL.ofMap L⟩
end rl
def RO {α:Type} (A:Lay α) (zo zi:Nat->Prop) (m:Mem) (v:SV) (L:List α):Prop:=
 ((v = .nils\/v = .emp)/\L = [])\/∃ i o c cs,v = .sl i o L.length c A.sz/\L.length<=c/\zo i/\m.get i = some cs/\o + L.length * A.sz<=cs.length/\RL A zi m L ((cs.drop o).take (L.length * A.sz))
def Lay.sl {α:Type} (A:Lay α):Lay (List α) where
 sz:=1
 R z m L cs:=∃ v,cs = [v]/\RO A z z m v L
 len:=by rintro z m a cs ⟨v,rfl,_⟩;rfl
 frame:=by
  rintro z z' m m' a cs ⟨v,rfl,h⟩ k
  refine ⟨v,rfl,?_⟩
  rcases h with h | ⟨i,o,c,cs,h1,h2,h3,h4,h5,h6⟩
  ·exact .inl h
  ·exact .inr ⟨i,o,c,cs,h1,h2,(k i h3).1,by rw [(k i h3).2];exact h4,h5,h6.frame k⟩
structure Cx (fl:Nat) where
 m:Mem
 n:Nat
 ow:Nat->Nat     -- 0: nobody's,never written
 le:fl<=n
def Cx.fz {fl:Nat} (S:Cx fl) (i:Nat):Prop:=i < S.n/\S.ow i = 0
structure Ch {fl:Nat} (k:Nat) (S S':Cx fl):Prop where
 n:S.n<=S'.n
 ow:∀ i,i < S.n->S.ow i≠k->S'.ow i = S.ow i/\S'.m.get i = S.m.get i
theorem Ch.refl {fl:Nat} (k:Nat) (S:Cx fl):Ch k S S:=⟨Nat.le_refl _,fun _ _ _=>⟨rfl,rfl⟩⟩
def Ow {α:Type} {fl:Nat} (A:Lay α) (S:Cx fl) (k:Nat) (v:SV) (L:List α):Prop:=
 (v = .nils/\L = [])\/∃ b c cs,v = .sl b 0 L.length c A.sz/\fl<=b/\b < S.n/\S.ow b = k/\L.length<=c/\S.m.get b = some cs/\cs.length = c * A.sz/\RL A S.fz S.m L (cs.take (L.length * A.sz))
def Bk {α:Type} {fl:Nat} (A:Lay α) (S:Cx fl) (k:Nat) (v:SV) (a:α):Prop:=
 ∃ b cs,v = .ptr b 0/\fl<=b/\b < S.n/\S.ow b = k/\S.m.get b = some cs/\A.R S.fz S.m a cs
def Rd {α:Type} {fl:Nat} (A:Lay α) (S:Cx fl) (v:SV) (L:List α):Prop:=RO A S.fz S.fz S.m v L
def SlV (v:SV) (sz len:Nat):Prop:=((v = .nils\/v = .emp)/\len = 0)\/∃ i o c,v = .sl i o len c sz/\len<=c
section cx
variable {α:Type} {A:Lay α} {fl k j:Nat} {S S':Cx fl} {v:SV} {L:List α} {zo zi zo' zi':Nat->Prop} {m m':Mem}
theorem RO.slv (h:RO A zo zi m v L):SlV v A.sz L.length:=by
 rcases h with ⟨h1,rfl⟩ | ⟨i,o,c,cs,h1,h2,_⟩
 ·exact .inl ⟨h1,rfl⟩
 ·exact .inr ⟨i,o,c,h1,h2⟩
theorem Rd.slv (h:Rd A S v L):SlV v A.sz L.length:=RO.slv h
theorem Ow.slv (h:Ow A S k v L):SlV v A.sz L.length:=by
 rcases h with ⟨h1,rfl⟩ | ⟨b,c,cs,h1,_,_,_,h2,_⟩
 ·exact .inl ⟨.inl h1,rfl⟩
 ·exact .inr ⟨b,0,c,h1,h2⟩
theorem fz_ch (h:Ch k S S') (hk:k≠0):∀ i,S.fz i->S'.fz i/\S'.m.get i = S.m.get i:=fun i ⟨h1,h2⟩=>by
 obtain ⟨h3,h4⟩:=h.ow i h1 (by omega)
 exact ⟨⟨Nat.lt_of_lt_of_le h1 h.n,by rw [h3];exact h2⟩,h4⟩
theorem RO.to (h:RO A zo zi m v L) (ho:∀ i,zo i->zo' i/\m'.get i = m.get i) (hi:∀ i,zi i->zi' i/\m'.get i = m.get i):RO A zo' zi' m' v L:=by
 rcases h with h | ⟨i,o,c,cs,h1,h2,h3,h4,h5,h6⟩
 ·exact .inl h
 ·exact .inr ⟨i,o,c,cs,h1,h2,(ho i h3).1,by rw [(ho i h3).2];exact h4,h5,h6.frame hi⟩
theorem Rd.to (h:Rd A S v L) (c:Ch k S S') (hk:Nat.beq k 0 = false:=by rfl):Rd A S' v L:=by
 have hk:k≠0:=fun e=>by subst e;cases hk
 exact RO.to h (fz_ch c hk) (fz_ch c hk)
theorem Ow.to (h:Ow A S j v L) (c:Ch k S S') (hk:Nat.beq k 0 = false:=by rfl) (hj:Nat.beq j k = false:=by rfl):Ow A S' j v L:=by
 have hk:k≠0:=fun e=>by subst e;cases hk
 have hj:j≠k:=fun e=>by subst e;rw [show Nat.beq j j = true by simp] at hj;cases hj
 rcases h with h | ⟨b,c',cs,h1,h2,h3,h4,h5,h6,h7,h8⟩
 ·exact .inl h
 ·obtain ⟨h9,h10⟩:=c.ow b h3 (by omega)
  exact .inr ⟨b,c',cs,h1,h2,Nat.lt_of_lt_of_le h3 c.n,by omega,h5,by rw [h10];exact h6,h7,h8.frame (fz_ch c hk)⟩
theorem Bk.to {a:α} (h:Bk A S j v a) (c:Ch k S S') (hk:Nat.beq k 0 = false:=by rfl) (hj:Nat.beq j k = false:=by rfl):Bk A S' j v a:=by
 have hk:k≠0:=fun e=>by subst e;cases hk
 have hj:j≠k:=fun e=>by subst e;rw [show Nat.beq j j = true by simp] at hj;cases hj
 obtain ⟨b,cs,h1,h2,h3,h4,h6,h8⟩:=h
 obtain ⟨h9,h10⟩:=c.ow b h3 (by omega)
 exact ⟨b,cs,h1,h2,Nat.lt_of_lt_of_le h3 c.n,by omega,by rw [h10];exact h6,A.frame h8 (fz_ch c hk)⟩
def Vw {α:Type} (A:Lay α) (n:Nat) (m:Mem) (v:SV) (L:List α):Prop:=RO A (fun i=>i < n) (fun i=>i < n) m v L
theorem Rd.vw (h:Rd A S v L):Vw A S.n S.m v L:=RO.to h (fun _ h=>⟨h.1,rfl⟩) (fun _ h=>⟨h.1,rfl⟩)
theorem Ow.ro (h:Ow A S k v L):RO A (fun i=>i < S.n) S.fz S.m v L:=by
 rcases h with ⟨h1,h2⟩ | ⟨b,c,cs,h1,h2,h3,h4,h5,h6,h7,h8⟩
 ·exact .inl ⟨.inl h1,h2⟩
 ·exact .inr ⟨b,0,c,cs,h1,h5,h3,h6,by rw [h7];simpa using Nat.mul_le_mul_right _ h5,by simpa using h8⟩
theorem Rd.ro (h:Rd A S v L):RO A (fun i=>i < S.n) S.fz S.m v L:=RO.to h (fun _ h=>⟨h.1,rfl⟩) (fun _ h=>⟨h,rfl⟩)
theorem Ow.vw (h:Ow A S k v L):Vw A S.n S.m v L:=RO.to h.ro (fun _ h=>⟨h,rfl⟩) (fun _ h=>⟨h.1,rfl⟩)
theorem Vw.rdS {n:Nat} {S:Cx n} (h:Vw A n m v L) (em:S.m = m) (hz:∀ i,i < n->S.fz i):Rd A S v L:=by
 subst em
 exact RO.to h (fun i hi=>⟨hz i hi,rfl⟩) (fun i hi=>⟨hz i hi,rfl⟩)
theorem Ow.nil:Ow A S k .nils ([]:List α):=.inl ⟨rfl,rfl⟩
theorem Rd.nil:Rd A S .nils ([]:List α):=.inl ⟨.inl rfl,rfl⟩
theorem Rd.oz (h:Rd A S v L):RO A (fun i=>i < S.n/\S.fz i) S.fz S.m v L:=RO.to h (fun _ h=>⟨⟨h.1,h⟩,rfl⟩) (fun _ h=>⟨h,rfl⟩)
theorem RO.toz {n0:Nat} (h:RO A (fun i=>i < n0/\S.fz i) S.fz S.m v L) (c:Ch k S S') (hk:Nat.beq k 0 = false:=by rfl):RO A (fun i=>i < n0/\S'.fz i) S'.fz S'.m v L:=by
 have hk:k≠0:=fun e=>by subst e;cases hk
 exact RO.to h (fun i hi=>⟨⟨hi.1,(fz_ch c hk i hi.2).1⟩,(fz_ch c hk i hi.2).2⟩) (fz_ch c hk)
theorem Ow.oz (h:Ow A S j v L):RO A (fun i=>i < S.n/\i < S.n/\S.ow i = j) S.fz S.m v L:=by
 rcases h with ⟨h1,h2⟩ | ⟨b,c,cs,h1,h2,h3,h4,h5,h6,h7,h8⟩
 ·exact .inl ⟨.inl h1,h2⟩
 ·exact .inr ⟨b,0,c,cs,h1,h5,⟨h3,h3,h4⟩,h6,by rw [h7];simpa using Nat.mul_le_mul_right _ h5,by simpa using h8⟩
theorem RO.tow {n0:Nat} (h:RO A (fun i=>i < n0/\i < S.n/\S.ow i = j) S.fz S.m v L) (c:Ch k S S') (hk:Nat.beq k 0 = false:=by rfl) (hj:Nat.beq j k = false:=by rfl):RO A (fun i=>i < n0/\i < S'.n/\S'.ow i = j) S'.fz S'.m v L:=by
 have hk:k≠0:=fun e=>by subst e;cases hk
 have hj:j≠k:=fun e=>by subst e;rw [show Nat.beq j j = true by simp] at hj;cases hj
 refine RO.to h (fun i hi=>?_) (fz_ch c hk)
 obtain ⟨h1,h2⟩:=c.ow i hi.2.1 (by omega)
 exact ⟨⟨hi.1,Nat.lt_of_lt_of_le hi.2.1 c.n,by rw [h1];exact hi.2.2⟩,h2⟩
def Cx.drop {fl:Nat} (S:Cx fl) (k:Nat):Cx fl:=⟨S.m,S.n,fun i=>if S.ow i = k then 0 else S.ow i,S.le⟩
theorem Rd.drop (h:Rd A S v L) (k:Nat):Rd A (S.drop k) v L:=by
 have:∀ i,S.fz i->(S.drop k).fz i/\(S.drop k).m.get i = S.m.get i:=fun i ⟨h1,h2⟩=>⟨⟨h1,by simp only [Cx.drop];split;rfl;exact h2⟩,rfl⟩
 exact RO.to h this this
theorem Ow.drop (h:Ow A S j v L) (k:Nat) (hj:Nat.beq j k = false:=by rfl):Ow A (S.drop k) j v L:=by
 have hj:j≠k:=fun e=>by subst e;rw [show Nat.beq j j = true by simp] at hj;cases hj
 rcases h with h | ⟨b,c',cs,h1,h2,h3,h4,h5,h6,h7,h8⟩
 ·exact .inl h
 ·refine .inr ⟨b,c',cs,h1,h2,h3,by simp only [Cx.drop];rw [if_neg (by omega)];exact h4,h5,h6,h7,h8.frame fun i ⟨h1,h2⟩=>⟨⟨h1,?_⟩,rfl⟩⟩
  simp only [Cx.drop];split;rfl;exact h2
theorem Bk.drop {a:α} (h:Bk A S j v a) (k:Nat) (hj:Nat.beq j k = false:=by rfl):Bk A (S.drop k) j v a:=by
 have hj:j≠k:=fun e=>by subst e;rw [show Nat.beq j j = true by simp] at hj;cases hj
 obtain ⟨b,cs,h1,h2,h3,h4,h6,h8⟩:=h
 refine ⟨b,cs,h1,h2,h3,by simp only [Cx.drop];rw [if_neg (by omega)];exact h4,h6,A.frame h8 fun i ⟨h1,h2⟩=>⟨⟨h1,?_⟩,rfl⟩⟩
 simp only [Cx.drop];split;rfl;exact h2
theorem Ow.freeze (h:Ow A S k v L):Rd A (S.drop k) v L:=by
 rcases h with ⟨h1,h2⟩ | ⟨b,c,cs,h1,h2,h3,h4,h5,h6,h7,h8⟩
 ·exact .inl ⟨.inl h1,h2⟩
 ·refine .inr ⟨b,0,c,cs,h1,h5,⟨h3,by simp only [Cx.drop];rw [if_pos h4]⟩,h6,by rw [h7];simpa using Nat.mul_le_mul_right _ h5,?_⟩
  have h8:RL A S.fz S.m L ((cs.drop 0).take (L.length * A.sz)):=by simpa using h8
  refine h8.frame fun i ⟨h1,h2⟩=>⟨⟨h1,?_⟩,rfl⟩
  simp only [Cx.drop];split;rfl;exact h2
def Cx.ren {fl:Nat} (S:Cx fl) (k j:Nat):Cx fl:=⟨S.m,S.n,fun i=>if S.ow i = k then j else if S.ow i = j then 1 else S.ow i,S.le⟩
theorem fz_ren (k j:Nat) (hk:k≠0) (hj:j≠0):∀ i,S.fz i->(S.ren k j).fz i/\(S.ren k j).m.get i = S.m.get i:=fun i ⟨h1,h2⟩=>⟨⟨h1,by simp only [Cx.ren];rw [if_neg (by omega),if_neg (by omega)];exact h2⟩,rfl⟩
theorem Ow.ren (h:Ow A S k v L) (j:Nat) (hk:Nat.beq k 0 = false:=by rfl) (hj:Nat.beq j 0 = false:=by rfl):Ow A (S.ren k j) j v L:=by
 have hk:k≠0:=fun e=>by subst e;cases hk
 have hj:j≠0:=fun e=>by subst e;cases hj
 rcases h with h | ⟨b,c',cs,h1,h2,h3,h4,h5,h6,h7,h8⟩
 ·exact .inl h
 ·exact .inr ⟨b,c',cs,h1,h2,h3,by simp only [Cx.ren];rw [if_pos h4],h5,h6,h7,h8.frame (fz_ren k j hk hj)⟩
theorem Ow.renO {i:Nat} (h:Ow A S i v L) (k j:Nat) (hk:Nat.beq k 0 = false:=by rfl) (hj:Nat.beq j 0 = false:=by rfl) (hik:Nat.beq i k = false:=by rfl) (hij:Nat.beq i j = false:=by rfl):Ow A (S.ren k j) i v L:=by
 have hk:k≠0:=fun e=>by subst e;cases hk
 have hj:j≠0:=fun e=>by subst e;cases hj
 have hik:i≠k:=fun e=>by subst e;rw [show Nat.beq i i = true by simp] at hik;cases hik
 have hij:i≠j:=fun e=>by subst e;rw [show Nat.beq i i = true by simp] at hij;cases hij
 rcases h with h | ⟨b,c',cs,h1,h2,h3,h4,h5,h6,h7,h8⟩
 ·exact .inl h
 ·exact .inr ⟨b,c',cs,h1,h2,h3,by simp only [Cx.ren];rw [if_neg (by omega),if_neg (by omega)];exact h4,h5,h6,h7,h8.frame (fz_ren k j hk hj)⟩
end cx
def Lay.Fl {α:Type} (A:Lay α):Prop:=∀ z z' m m' a cs,A.R z m a cs->A.R z' m' a cs
theorem Lay.flat_fl {α:Type} {sz:Nat} {f:α->List SV} {hf:∀ a,(f a).length = sz}:(Lay.flat sz f hf).Fl:=fun _ _ _ _ _ _ h=>h
theorem RL.fl {α:Type} {A:Lay α} (hA:A.Fl) {z z':Nat->Prop} {m m':Mem}:∀ {L:List α} {cs:List SV},RL A z m L cs->RL A z' m' L cs
 | [],_,h=>h
 | _ :: _,_,⟨c,r,e,h1,h2⟩=>⟨c,r,e,hA _ _ _ _ _ _ h1,RL.fl hA h2⟩
def Fr {α:Type} (A:Lay α) (n:Nat) (m':Mem) (n':Nat) (v:SV) (L:List α):Prop:=
 (v = .nils/\L = [])\/∃ b c cs,v = .sl b 0 L.length c A.sz/\n<=b/\b < n'/\L.length<=c/\m'.get b = some cs/\cs.length = c * A.sz/\RL A (fun _=>False) m' L (cs.take (L.length * A.sz))
theorem Fr.nil {α:Type} {A:Lay α} {n:Nat} {m':Mem} {n':Nat}:Fr A n m' n' .nils ([]:List α):=.inl ⟨rfl,rfl⟩
theorem Ow.fr {α:Type} {A:Lay α} {n:Nat} {S:Cx n} {k:Nat} {v:SV} {L:List α} (h:Ow A S k v L) (hA:A.Fl):Fr A n S.m S.n v L:=by
 rcases h with h | ⟨b,c',cs,h1,h2,h3,h4,h5,h6,h7,h8⟩
 ·exact .inl h
 ·exact .inr ⟨b,c',cs,h1,h2,h3,h5,h6,h7,h8.fl hA⟩
def ptrAt:SV->Nat->Nat->SV
 | .sl b o _ _ es,j,q=>.ptr b (o + j * es + q)
 | .ptr b o,_,q=>.ptr b (o + q)
 | _,_,_=>.undef
def slTs (E:Env) (t sz:Nat):Bool:=match E.ty t with
 | some y=>y.kind == 4 && (match E.ty y.elem with
  | some e=>e.size == sz && e.zero.length == sz && sz != 0 && decide (e.bytes<=256)
  | none=>false)
 | none=>false
theorem slTs_ok {E:Env} {t sz:Nat} (h:slTs E t sz = true):∃ y e,E.ty t = some y/\y.kind = 4/\E.ty y.elem = some e/\e.size = sz/\e.zero.length = sz/\sz≠0/\e.bytes<=256:=by
 unfold slTs at h
 split at h
 ·rename_i y hy
  simp only [Bool.and_eq_true,beq_iff_eq] at h
  obtain ⟨h1,h2⟩:=h
  split at h2
  ·rename_i e he
   simp only [Bool.and_eq_true,beq_iff_eq,decide_eq_true_eq,bne_iff_ne] at h2
   exact ⟨y,e,hy,h1,he,h2.1.1.1,h2.1.1.2,h2.1.2,h2.2⟩
  ·cases h2
 ·cases h
def slZ (E:Env) (t:Nat):List SV:=match E.ty t with
 | some y=>(match E.ty y.elem with
  | some e=>e.zero
  | none=>[])
 | none=>[]
def oneT (E:Env) (t:Nat):Bool:=match E.ty t with
 | some y=>y.kind != 5 && y.kind != 6 && y.size == 1
 | none=>false
theorem oneT_ok {E:Env} {t:Nat} (h:oneT E t = true):∃ y,E.ty t = some y/\y.kind≠5/\y.kind≠6/\y.size = 1:=by
 unfold oneT at h
 split at h
 ·rename_i y hy
  simp only [Bool.and_eq_true,beq_iff_eq,bne_iff_ne] at h
  exact ⟨y,hy,h.1.1,h.1.2,h.2⟩
 ·cases h
def aggT (E:Env) (t sz:Nat):Bool:=match E.ty t with
 | some y=>(y.kind == 5 || y.kind == 6) && y.size == sz && y.zero.length == sz
 | none=>false
theorem aggT_ok {E:Env} {t sz:Nat} (h:aggT E t sz = true):∃ y,E.ty t = some y/\(y.kind = 5\/y.kind = 6)/\y.size = sz/\y.zero.length = sz:=by
 unfold aggT at h
 split at h
 ·rename_i y hy
  simp only [Bool.and_eq_true,beq_iff_eq,Bool.or_eq_true] at h
  exact ⟨y,hy,h.1.1,h.1.2,h.2⟩
 ·cases h
def arTs (E:Env) (t k sz:Nat):Bool:=match E.ty t with
 | some y=>y.kind == 5 && y.len == k && (match E.ty y.elem with
  | some e=>e.size == sz
  | none=>false)
 | none=>false
theorem arTs_ok {E:Env} {t k sz:Nat} (h:arTs E t k sz = true):∃ y e,E.ty t = some y/\y.kind = 5/\y.len = k/\E.ty y.elem = some e/\e.size = sz:=by
 unfold arTs at h
 split at h
 ·rename_i y hy
  simp only [Bool.and_eq_true,beq_iff_eq] at h
  obtain ⟨h1,h2⟩:=h
  split at h2
  ·rename_i e he
   simp only [beq_iff_eq] at h2
   exact ⟨y,e,hy,h1.1,h1.2,he,h2⟩
  ·cases h2
 ·cases h
def limLe (lim:Option Nat) (n:Nat):Bool:=match lim with
 | some q=>decide (n<=q)
 | none=>true
theorem limLe_self (n:Nat):limLe (some n) n = true:=by simp [limLe]
theorem limOk_of {lim:Option Nat} {b n0:Nat} (h:limLe lim n0 = true) (hb:b < n0):limOk lim b = true:=by
 cases lim with
 | none=>rfl
 | some q=>simp [limLe] at h;simp [limOk];omega
theorem RO.cell {α:Type} {A:Lay α} {zo zi:Nat->Prop} {m:Mem} {v:SV} {L:List α} (h:RO A zo zi m v L) {j:Nat} {a:α} (ha:L[j]? = some a):
 ∃ i o c cs p,v = .sl i o L.length c A.sz/\zo i/\m.get i = some cs/\A.R zi m a p/\p.length = A.sz/\o + j * A.sz + A.sz<=cs.length/\(cs.drop (o + j * A.sz)).take A.sz = p:=by
 have hj:=(List.getElem?_eq_some_iff.1 ha).1
 rcases h with ⟨_,rfl⟩ | ⟨i,o,c,cs,h1,h2,h3,h4,h5,h6⟩
 ·simp at hj
 ·have hR:=h6.get ha
  have hle:j * A.sz + A.sz<=L.length * A.sz:=by
   have:(j + 1) * A.sz<=L.length * A.sz:=Nat.mul_le_mul_right _ hj
   rwa [Nat.add_mul,Nat.one_mul] at this
  refine ⟨i,o,c,cs,_,h1,h3,h4,hR,A.len hR,by omega,?_⟩
  rw [List.drop_take,List.take_take,List.drop_drop,Nat.min_eq_left (by omega)]
theorem cell_at {cs p:List SV} {o q sz:Nat} {s:SV} (h:(cs.drop o).take sz = p) (hs:p[q]? = some s):cs[o + q]? = some s:=by
 subst h
 have hq:=(List.getElem?_eq_some_iff.1 hs).1
 rw [List.length_take] at hq
 rw [List.getElem?_take_of_lt (by omega),List.getElem?_drop] at hs
 exact hs
section rules
variable {E:Env} {lo:List Nat} {fl:Nat} {loose:Nat->Bool} {lim:Option Nat} {ops:Array Oper} {os:List Oper}
variable {l:LE} {m:Mem} {n:Nat} {K:LE->Mem->Nat->Prop} {Q:AE->LE->Mem->Nat->Prop}
variable {d:Nat} {ty t t1:TypeId} {pos:String} {af:Array Edge} {x y i:Operand} {v w:SV} {k k':IntKind} {a b:Int}
theorem WC.drawP {id:Nat} (hd:dynId lo id = false) (hp:plainOps ops = true) (h:WO E (tgt lo id) fl (some n) ops ops.toList l m n (Q .normal)) (hg:gId lo id = false:=by rfl):WC E lo fl (.region id ops true) l m n Q:=WC.draw hd h hg
theorem WC.drawN {id:Nat} (hd:dynId lo id = false) (hp:plainOps ops = false) (h:WO E (tgt lo id) fl (some n) ops ops.toList l m n (Q .normal)) (hg:gId lo id = false:=by rfl):WC E lo fl (.region id ops true) l m n Q:=WC.draw hd h hg
theorem resK_cov {l l':LE} (h:Cov l l'):∀ {rs:List ResultVar} {vs:List AV},resK E l' m rs = some vs->resK E l m rs = some vs
 | [],_,hv=>hv
 | .tmp t :: rs,vs,hv=>by
  simp only [resK] at hv ⊢
  split at hv
  ·rename_i v ws h1 h2
   rw [h _ _ h1,resK_cov h h2];exact hv
  ·cases hv
 | .cell a t :: rs,vs,hv=>by
  simp only [resK] at hv ⊢
  split at hv
  ·rename_i v ws h1 h2
   rw [h _ _ h1,resK_cov h h2];exact hv
  ·cases hv
theorem WC.start {n:Nat} {c:Code} (h:∀ S:Cx n,S.m = m->S.n = n->(∀ i,i < n->S.fz i)->WC E lo n c l S.m S.n Q):WC E lo n c l m n Q:=
 h ⟨m,n,fun _=>0,Nat.le_refl n⟩ rfl rfl fun _ hi=>⟨hi,rfl⟩
theorem WC.loopD {σ β:Type} {body:Code} {step:σ->Option (Stp σ β)} {F:Nat} {s:σ} {b:β} (h:iter step F s = some b) (I:σ->LE->Mem->Nat->Prop) (P:β->AE->LE->Mem->Nat->Prop) (h0:I s l m n)
 (round:∀ s q l m n,I s l m n->step s = some q->WC E lo fl body l m n (thenL (fun l' m' n'=>∃ s',q = .more s'/\I s' l' m' n') (fun e l' m' n'=>∃ b',q = .stop b'/\P b' e l' m' n')))
 (fin:∀ e l m n,P b e l m n->Q e l m n):WC E lo fl (.loop body) l m n Q:=by
 constructor
 intro t ht
 refine Runs.loop (fun (i:Nat × σ) st=>∃ l,Sees st.t l/\I i.2 l st.m st.n/\iter step i.1 i.2 = some b) (fun i=>i.1) ?_ (F,s) ⟨t,m,n⟩ ⟨l,ht,h0,h⟩
 rintro ⟨f,s1⟩ ⟨t1,m1,n1⟩ ⟨l1,h1,h2,h3⟩
 cases f with
 | zero=>cases h3
 | succ f=>
  simp only [iter] at h3
  split at h3
  ·cases h3
  ·rename_i s2 hq
   refine ((round s1 _ l1 m1 n1 h2 hq).ok t1 h1).mono ?_
   rintro e st ⟨l2,h4,h5⟩
   cases e with
   | normal=>
    obtain ⟨s3,e3,h6⟩:=h5
    cases e3
    exact ⟨(f,s2),⟨l2,h4,h6,h3⟩,Nat.lt_succ_self f⟩
   | exit id=>obtain ⟨b',e3,_⟩:=h5;cases e3
   | ret=>obtain ⟨b',e3,_⟩:=h5;cases e3
  ·rename_i b2 hq
   cases h3
   refine ((round s1 _ l1 m1 n1 h2 hq).ok t1 h1).mono ?_
   rintro e st ⟨l2,h4,h5⟩
   cases e with
   | normal=>obtain ⟨s3,e3,_⟩:=h5;cases e3
   | exit id=>obtain ⟨b',e3,h6⟩:=h5;cases e3;exact ⟨l2,h4,fin _ _ _ _ h6⟩
   | ret=>obtain ⟨b',e3,h6⟩:=h5;cases e3;exact ⟨l2,h4,fin _ _ _ _ h6⟩
theorem Ops.app {loose:Nat->Bool} {lim:Option Nat} {ops:Array Oper} {o1 o2:List Oper} {s:St} {Q':St->Prop} (h:Ops E loose fl lim ops o1 s (fun s'=>Ops E loose fl lim ops o2 s' Q')):Ops E loose fl lim ops (o1 ++ o2) s Q':=by
 obtain ⟨k1,s1,h1,k2,s2,h2,h3⟩:=h
 refine ⟨k1 + k2,s2,?_,h3⟩
 have e1:opsA E (callD (callF E (k1 + k2)) loose) fl lim ops o1 s = some s1:=opsA_le (callD_le (callLe_more k1 k2) _) _ _ _ h1
 have e2:opsA E (callD (callF E (k1 + k2)) loose) fl lim ops o2 s1 = some s2:=by rw [Nat.add_comm];exact opsA_le (callD_le (callLe_more k2 k1) _) _ _ _ h2
 clear h1 h2
 generalize callD (callF E (k1 + k2)) loose = call at e1 e2
 revert s
 induction o1 with
 | nil=>intro s e1;simp only [opsA] at e1;cases e1;exact e2
 | cons o r ih=>
  intro s e1
  simp only [opsA,List.cons_append] at e1 ⊢
  split at e1
  ·rename_i s' e;exact ih e1
  ·cases e1
theorem WO.cut (j:Nat) (J:LE->Mem->Nat->Prop) (h:WO E loose fl lim ops (os.take j) l m n J) (h':∀ l' m' n',J l' m' n'->WO E loose fl lim ops (os.drop j) l' m' n' K):WO E loose fl lim ops os l m n K:=by
 constructor
 intro tt ht
 have h1:=h.ok tt ht
 have:WOps E loose fl lim ops (os.take j ++ os.drop j) ⟨tt,m,n⟩ fun s=>∃ l',Sees s.t l'/\K l' s.m s.n:=by
  refine Ops.app ?_
  obtain ⟨k1,s',h2,l',h3,h4⟩:=h1
  exact ⟨k1,s',h2,(h' l' s'.m s'.n h4).ok s'.t h3⟩
 rwa [List.take_append_drop] at this
theorem Cov.skip {l l':LE} {d:Nat} {v:AV} (h:lk l' d = none) (c:Cov l l'):Cov ((d,v) :: l) l':=by
 intro j w hj
 simp only [lk]
 by_cases e:d = j
 ·subst e;rw [h] at hj;cases hj
 ·rw [show Nat.beq d j = false from beq_ne e];exact c _ _ hj
theorem Ks {l l':LE} {d:Nat} {v:AV} (c:Cov l l') (h:lk l' d=none:=by rfl):Cov ((d,v)::l) l':=Cov.skip h c
theorem WO.sp {q:Bool} (h:q = true->WO E loose fl lim ops os ((d,.sc (.bool true)) :: l) m n K) (h':q = false->WO E loose fl lim ops os ((d,.sc (.bool false)) :: l) m n K):WO E loose fl lim ops os ((d,.sc (.bool q)) :: l) m n K:=by
 cases q with
 | true=>exact h rfl
 | false=>exact h' rfl
theorem WO.lenS {sz len:Nat} (hx:evK l x = some (.sc v)) (hs:SlV v sz len) (hT:slTs E t sz = true) (h:WO E loose fl lim ops os ((d,.sc (.int .i64 (len:Int))) :: l) m n K):
 WO E loose fl lim ops (⟨some d,.call ⟨.builtin .len,#[x],#[t]⟩,ty,pos,af,none⟩ :: os) l m n K:=⟨fun tt ht=>by
 obtain ⟨y,e,h1,h2,_⟩:=slTs_ok hT
 refine W_op2 ?_ (h.put ht)
 rcases hs with ⟨h3 | h3,rfl⟩ | ⟨i,o,c,rfl,_⟩
 ·subst h3;simp [opA,callA,builtinA,evK_ev ht hx,lenA,h1,h2]
 ·subst h3;simp [opA,callA,builtinA,evK_ev ht hx,lenA,h1,h2]
 ·simp [opA,callA,builtinA,evK_ev ht hx,lenA,h1,h2]⟩
theorem WO.lenT {s:List UInt8} {yt:Ty} (hx:evK l x = some (.sc (.str s))) (hT:E.ty t = some yt) (hk:yt.kind = 3) (h:WO E loose fl lim ops os ((d,.sc (.int .i64 (s.length:Int))) :: l) m n K):
 WO E loose fl lim ops (⟨some d,.call ⟨.builtin .len,#[x],#[t]⟩,ty,pos,af,none⟩ :: os) l m n K:=⟨fun tt ht=>
 W_op2 (by simp [opA,callA,builtinA,evK_ev ht hx,lenA,hT,hk]) (h.put ht)⟩
theorem WO.ixS {sz len:Nat} (hx:evK l x = some (.sc v)) (hi:evK l i = some (.sc (.int k a))) (hs:SlV v sz len) (ha:0<=a/\a < len) (hT:slTs E t sz = true) (h:WO E loose fl lim ops os ((d,.sc (ptrAt v a.toNat 0)) :: l) m n K):
 WO E loose fl lim ops (⟨some d,.indexAddr t x i,ty,pos,af,none⟩ :: os) l m n K:=⟨fun tt ht=>by
 obtain ⟨y,e,h1,h2,h3,h4,_⟩:=slTs_ok hT
 refine W_op2 ?_ (h.put ht)
 rcases hs with ⟨_,rfl⟩ | ⟨b,o,c,rfl,_⟩
 ·omega
 simp only [opA,evK_ev ht hx,evK_ev ht hi,indexAddrA,h1,h2,h3,h4,Option.map_some]
 simp [ha,ptrAt]⟩
theorem WO.ixB {len sz:Nat} (hx:evK l x = some (.sc v)) (hv:∃ b0,v = .ptr b0 0) (hi:evK l i = some (.sc (.int k a))) (ha:0<=a/\a < (len:Int)) (hT:arTs E t len sz = true) (h:WO E loose fl lim ops os ((d,.sc (ptrAt v 0 (a.toNat * sz))) :: l) m n K):
 WO E loose fl lim ops (⟨some d,.indexAddr t x i,ty,pos,af,none⟩ :: os) l m n K:=⟨fun tt ht=>by
 obtain ⟨y,e,h1,h2,h3,h4,h5⟩:=arTs_ok hT
 refine W_op2 ?_ (h.put ht)
 obtain ⟨b0,rfl⟩:=hv
 simp only [opA,evK_ev ht hx,evK_ev ht hi,indexAddrA,h1,h2,h3,h4,h5]
 simp [ha,ptrAt]⟩
theorem WO.fldS {j q f off ft s:Nat} {yt:Ty} {p:SV} (hx:evK l x = some (.sc p)) (hp:p = ptrAt v j q) (hv:∃ b o,ptrAt v j 0 = .ptr b o) (hT:E.ty t = some yt) (hk:yt.kind = 6) (hf:yt.fields[f]? = some (off,ft,s)) (hs:s≠0) (h:WO E loose fl lim ops os ((d,.sc (ptrAt v j (q + off))) :: l) m n K):
 WO E loose fl lim ops (⟨some d,.fieldAddr t x f,ty,pos,af,none⟩ :: os) l m n K:=⟨fun tt ht=>by
 subst hp
 refine W_op2 ?_ (h.put ht)
 obtain ⟨b,o,hv⟩:=hv
 cases v with
 | sl i o n c es=>
  simp only [ptrAt] at hx ⊢
  simp [opA,evK_ev ht hx,hT,hk,hf,hs,Nat.add_assoc]
 | ptr i o=>
  simp only [ptrAt] at hx ⊢
  simp [opA,evK_ev ht hx,hT,hk,hf,hs,Nat.add_assoc]
 | _=>simp [ptrAt] at hv⟩
section sl
variable {α:Type} {A:Lay α} {S:Cx fl} {L L' M:List α} {j q:Nat} {u:α} {s:SV} {id:Nat}
theorem SlV.ptr {sz len:Nat} (hs:SlV v sz len) {j:Nat} (hj:j < len):∃ b o,ptrAt v j 0 = .ptr b o:=by
 rcases hs with ⟨_,rfl⟩ | ⟨b,o,c,rfl,_⟩
 ·omega
 ·exact ⟨_,_,rfl⟩
theorem WO.ldF {sz:Nat} {f:α->List SV} {hf:∀ a,(f a).length = sz} {zo zi:Nat->Prop} {n0:Nat} (hx:evK l x = some (.sc (ptrAt v j q))) (hs:RO (Lay.flat sz f hf) zo zi m v L) (hz:∀ i,zo i->i < n0) (hu:L[j]? = some u) (hc:(f u)[q]? = some s) (hT:oneT E t = true) (hl:limLe lim n0 = true)
 (h:WO E loose fl lim ops os ((d,.sc s) :: l) m n K):WO E loose fl lim ops (⟨some d,.load t x,ty,pos,af,none⟩ :: os) l m n K:=⟨fun tt ht=>by
 obtain ⟨y,h1,h2,h3,_⟩:=oneT_ok hT
 refine W_op2 ?_ (h.put ht)
 obtain ⟨b,o,c,cs,p,rfl,h4,h5,h6,_,_,h7⟩:=hs.cell hu
 have h6:p = f u:=h6
 subst h6
 have hcell:=cell_at h7 hc
 simp only [Lay.flat] at hcell
 simp only [opA,evK_ev ht hx,ptrAt,loadA,limOk_of hl (hz _ h4),if_true,h5,part,h1,h2,h3,or_self,if_false,Lay.flat,hcell,Option.map_some]⟩
theorem WO.ldA {sz:Nat} {f:α->List SV} {hf:∀ a,(f a).length = sz} {zo zi:Nat->Prop} {n0:Nat} (hx:evK l x = some (.sc (ptrAt v j 0))) (hs:RO (Lay.flat sz f hf) zo zi m v L) (hz:∀ i,zo i->i < n0) (hu:L[j]? = some u) (hT:aggT E t sz = true) (hl:limLe lim n0 = true)
 (h:WO E loose fl lim ops os ((d,.agg (f u)) :: l) m n K):WO E loose fl lim ops (⟨some d,.load t x,ty,pos,af,none⟩ :: os) l m n K:=⟨fun tt ht=>by
 obtain ⟨y,h1,h2,h3,_⟩:=aggT_ok hT
 refine W_op2 ?_ (h.put ht)
 obtain ⟨b,o,c,cs,p,rfl,h4,h5,h6,_,h8,h7⟩:=hs.cell hu
 have h6:p = f u:=h6
 subst h6
 have h8:o + j * sz + sz<=cs.length:=h8
 have h7:(cs.drop (o + j * sz)).take sz = f u:=h7
 simp only [opA,evK_ev ht hx,ptrAt,loadA,limOk_of hl (hz _ h4),if_true,h5,part,h1,h2,h3,Lay.flat,Nat.add_zero,h8,h7,Option.map_some]⟩
theorem WO.ldS {α:Type} {A:Lay α} {LL:List (List α)} {L:List α} {zo zi:Nat->Prop} {n0:Nat} (hx:evK l x = some (.sc (ptrAt v j 0))) (hs:RO (Lay.sl A) zo zi m v LL) (hz:∀ i,zo i->i < n0) (hu:LL[j]? = some L) (hT:oneT E t = true) (hl:limLe lim n0 = true)
 (h:∀ w,RO A zi zi m w L->WO E loose fl lim ops os ((d,.sc w) :: l) m n K):WO E loose fl lim ops (⟨some d,.load t x,ty,pos,af,none⟩ :: os) l m n K:=⟨fun tt ht=>by
 obtain ⟨y,h1,h2,h3,_⟩:=oneT_ok hT
 obtain ⟨b,o,c,cs,p,rfl,h4,h5,⟨w,rfl,hw⟩,_,_,h7⟩:=hs.cell hu
 refine W_op2 ?_ ((h w hw).put ht)
 have hcell:=cell_at (q:=0) h7 rfl
 simp only [Lay.sl,Nat.add_zero] at hcell
 simp only [opA,evK_ev ht hx,ptrAt,loadA,limOk_of hl (hz _ h4),if_true,h5,part,h1,h2,h3,or_self,if_false,Lay.sl,Nat.add_zero,hcell,Option.map_some]⟩
theorem Ow.put {id:Nat} (h:Ow A S id v L) {j:Nat} {c:List SV} (hj:j < L.length) (hc:A.R S.fz S.m u c) (hid:id≠0):
 ∃ b cap cs,v = .sl b 0 L.length cap A.sz/\fl<=b/\S.m.get b = some cs/\j * A.sz + c.length<=cs.length/\∃ S':Cx fl,S'.m = S.m.set b (splice cs (j * A.sz) c)/\S'.n = S.n/\Ch id S S'/\Ow A S' id v (L.set j u):=by
 rcases h with ⟨_,rfl⟩ | ⟨b,cap,cs,h1,h2,h3,h4,h5,h6,h7,h8⟩
 ·simp at hj
 ·have hcl:=A.len hc
  have hle:j * A.sz + A.sz<=L.length * A.sz:=by
   have:(j + 1) * A.sz<=L.length * A.sz:=Nat.mul_le_mul_right _ hj
   rwa [Nat.add_mul,Nat.one_mul] at this
  have hle2:L.length * A.sz<=cap * A.sz:=Nat.mul_le_mul_right _ h5
  have hch:Ch id S (⟨S.m.set b (splice cs (j * A.sz) c),S.n,S.ow,S.le⟩:Cx fl):=⟨Nat.le_refl _,fun i hi hk=>⟨rfl,Tr.get_set_ne _ _ (fun e=>hk (by rw [e];exact h4))⟩⟩
  refine ⟨b,cap,cs,h1,h2,h6,by omega,⟨S.m.set b (splice cs (j * A.sz) c),S.n,S.ow,S.le⟩,rfl,rfl,hch,?_⟩
  refine .inr ⟨b,cap,_,by rw [List.length_set];exact h1,h2,h3,h4,by rw [List.length_set];exact h5,Tr.get_set_same _ _ _,?_,?_⟩
  ·simp only [splice,List.length_append,List.length_take,List.length_drop];omega
  ·have:=(h8.set hj hc).frame (fz_ch hch hid)
   rw [List.length_set]
   have e:(splice cs (j * A.sz) c).take (L.length * A.sz) = splice (cs.take (L.length * A.sz)) (j * A.sz) c:=by
    simp only [splice,List.append_assoc]
    rw [List.take_append,List.take_append,List.take_take,List.take_take,List.length_take,Nat.min_eq_left (by omega:j * A.sz<=cs.length),List.drop_take,Nat.min_eq_right (by omega),Nat.min_eq_left (by omega),List.take_of_length_le (l:=c) (by omega)]
    congr 3;omega
   rw [e];exact this
theorem WO.stF {sz:Nat} {f:α->List SV} {hf:∀ a,(f a).length = sz} (hx:evK l x = some (.sc (ptrAt v j q))) (hy:evK l y = some (.sc s)) (hs:Ow (Lay.flat sz f hf) S id v L) (hu:L[j]? = some u) {u':α} (hu':(f u).set q s = f u') (hq:q < sz) (hT:oneT E t = true) (hid:Nat.beq id 0 = false)
 (h:∀ S',Ch id S S'->Ow (Lay.flat sz f hf) S' id v (L.set j u')->WO E loose fl lim ops os l S'.m S'.n K):WO E loose fl lim ops (⟨none,.store t x y,ty,pos,af,none⟩ :: os) l S.m S.n K:=⟨fun tt ht=>by
 have hid:id≠0:=fun e=>by subst e;cases hid
 obtain ⟨z,h1,h2,h3,h4⟩:=oneT_ok hT
 have hj:=(List.getElem?_eq_some_iff.1 hu).1
 obtain ⟨b,cap,cs,rfl,h5,h6,h7,S',e1,e2,h8,h9⟩:=hs.put (u:=u') (c:=f u') hj rfl hid
 refine W_op2 (v:=.tup []) (m':=S'.m) (n':=S'.n) ?_ ((h S' h8 h9).ok tt ht)
 have h7:j * sz + (f u').length<=cs.length:=h7
 rw [hf] at h7
 obtain ⟨b',o',c',cs',p,e3,_,h10,h11,_,h12,h13⟩:=hs.ro.cell hu
 cases e3
 rw [h6] at h10;cases h10
 have h11:p = f u:=h11
 subst h11
 have h13:(cs.drop (0 + j * sz)).take sz = f u:=h13
 rw [Nat.zero_add] at h13
 have e4:splice cs (j * sz) (f u') = splice cs (j * sz + q) [s]:=by
  rw [<- hu',<- h13]
  simp only [splice,List.length_set,List.length_take,List.length_drop,List.append_assoc,List.length_cons,List.length_nil]
  rw [Nat.min_eq_left (by omega)]
  apply List.ext_getElem?
  intro r
  by_cases r1:r < j * sz
  ·rw [List.getElem?_append_left (by simp;omega),List.getElem?_append_left (by simp;omega),List.getElem?_take_of_lt r1,List.getElem?_take_of_lt (by omega)]
  ·rw [List.getElem?_append_right (by simp;omega),List.length_take,Nat.min_eq_left (by omega)]
   by_cases r2:r < j * sz + sz
   ·rw [List.getElem?_append_left (by simp;omega),List.getElem?_set,List.getElem?_take_of_lt (by omega),List.getElem?_drop,List.length_take,List.length_drop]
    by_cases r3:q = r - j * sz
    ·rw [if_pos r3,if_pos (by omega),List.getElem?_append_right (by simp;omega),List.length_take,Nat.min_eq_left (by omega)]
     rw [show r - (j * sz + q) = 0 from by omega];rfl
    ·rw [if_neg r3]
     by_cases r4:r < j * sz + q
     ·rw [List.getElem?_append_left (by simp;omega),List.getElem?_take_of_lt (by omega)];congr 1;omega
     ·rw [List.getElem?_append_right (by simp;omega),List.length_take,Nat.min_eq_left (by omega),List.getElem?_append_right (by simp;omega),List.getElem?_drop];congr 1;simp;omega
   ·rw [List.getElem?_append_right (by simp;omega),List.length_set,List.length_take,List.length_drop,Nat.min_eq_left (by omega),List.getElem?_drop,List.getElem?_append_right (by simp;omega),List.length_take,Nat.min_eq_left (by omega),List.getElem?_append_right (by simp;omega),List.getElem?_drop]
    congr 1;simp;omega
 simp only [opA,evK_ev ht hx,evK_ev ht hy,ptrAt,storeA,AV.cells?,h1,List.length_cons,List.length_nil,h4,h5,h6,true_and,Nat.zero_add,if_true]
 have hcond:j * sz + q + 1<=cs.length:=by omega
 simp only [Lay.flat] at e1 ⊢
 simp only [hcond,if_true]
 rw [<- e4,<- e1,e2];rfl⟩
theorem WO.st1 {g:α->SV} {u':α} (hx:evK l x = some (.sc (ptrAt v j 0))) (hy:evK l y = some (.sc (g u'))) (hs:Ow (Lay.one g) S id v L) (hj:j < L.length) (hT:oneT E t = true) (hid:Nat.beq id 0 = false)
 (h:∀ S',Ch id S S'->Ow (Lay.one g) S' id v (L.set j u')->WO E loose fl lim ops os l S'.m S'.n K):WO E loose fl lim ops (⟨none,.store t x y,ty,pos,af,none⟩ :: os) l S.m S.n K:=
 WO.stF (q:=0) (u:=L[j]) (u':=u') hx hy hs (List.getElem?_eq_getElem hj) rfl (by decide) hT hid h
theorem WO.stA {sz:Nat} {f:α->List SV} {hf:∀ a,(f a).length = sz} {u':α} (hx:evK l x = some (.sc (ptrAt v j 0))) (hy:evK l y = some (.agg (f u'))) (hs:Ow (Lay.flat sz f hf) S id v L) (hj:j < L.length) (hT:aggT E t sz = true) (hid:Nat.beq id 0 = false)
 (h:∀ S',Ch id S S'->Ow (Lay.flat sz f hf) S' id v (L.set j u')->WO E loose fl lim ops os l S'.m S'.n K):WO E loose fl lim ops (⟨none,.store t x y,ty,pos,af,none⟩ :: os) l S.m S.n K:=⟨fun tt ht=>by
 have hid:id≠0:=fun e=>by subst e;cases hid
 obtain ⟨z,h1,h2,h3,h4⟩:=aggT_ok hT
 obtain ⟨b,cap,cs,rfl,h5,h6,h7,S',e1,e2,h8,h9⟩:=hs.put (u:=u') (c:=f u') hj rfl hid
 refine W_op2 (v:=.tup []) (m':=S'.m) (n':=S'.n) ?_ ((h S' h8 h9).ok tt ht)
 have h7:j * sz + (f u').length<=cs.length:=h7
 simp only [opA,evK_ev ht hx,evK_ev ht hy,ptrAt,storeA,AV.cells?,h1,h3,hf,h5,h6,true_and,Nat.zero_add,Nat.add_zero,if_true,Lay.flat] at e1 ⊢
 rw [hf] at h7
 rw [if_pos h7,<- e1,e2];rfl⟩
theorem RO.elems {zo zi:Nat->Prop} (h:RO A zo zi m v L):∃ cs,elemsA m (.sc v) A.sz = some (cs,L.length)/\RL A zi m L cs:=by
 rcases h with ⟨h | h,rfl⟩ | ⟨i,o,c,cs,rfl,h2,h3,h4,h5,h6⟩
 ·subst h;exact ⟨[],rfl,rfl⟩
 ·subst h;exact ⟨[],rfl,rfl⟩
 ·exact ⟨_,by simp only [elemsA,h4];rw [if_neg (by simp),if_pos h5],h6⟩
theorem Ow.app0 {e:Ty} {new:List SV} (hs:Ow A S id v L) (hid:id≠0) (hn:RL A S.fz S.m L' new) (he:e.size = A.sz) (hby:(L.length + L'.length) * e.bytes<=140737488355328) (hlen:L.length + L'.length<=9223372036854775807) {old:List SV} (hold:RL A S.fz S.m L old) (holdc:∀ b c,v = .sl b 0 L.length c A.sz->∀ cs,S.m.get b = some cs->old = cs.take (L.length * A.sz)):
 ∃ v' S',appendTo fl e (.sc v) old new L.length L'.length S.m S.n = some (.sc v',S'.m,S'.n)/\Ch id S S'/\Ow A S' id v' (L ++ L'):=by
 have hnl:=hn.length
 have hS:=S.le
 unfold appendTo
 rw [if_neg (by omega)]
 rcases hs with ⟨rfl,rfl⟩ | ⟨b,c,cs,rfl,h2,h3,h4,h5,h6,h7,h8⟩
 ·simp only
  by_cases h0:L'.length = 0
  ·rw [if_pos h0]
   have:L' = []:=List.eq_nil_of_length_eq_zero h0
   subst this
   exact ⟨_,S,rfl,Ch.refl _ _,.inl ⟨rfl,rfl⟩⟩
  ·rw [if_neg h0]
   have hch:Ch id S (⟨S.m.set S.n new,S.n + 1,fun i=>if i = S.n then id else S.ow i,by omega⟩:Cx fl):=⟨by simp,fun i hi hk=>⟨by simp only;rw [if_neg (by omega)],Tr.get_set_ne _ _ (by omega)⟩⟩
   refine ⟨_,⟨S.m.set S.n new,S.n + 1,fun i=>if i = S.n then id else S.ow i,by omega⟩,rfl,hch,?_⟩
   refine .inr ⟨S.n,L'.length,new,by rw [List.nil_append,he],by omega,by simp,by simp,by simp,Tr.get_set_same _ _ _,hnl,?_⟩
   rw [List.nil_append,<- hnl,List.take_length]
   exact hn.frame (fz_ch hch hid)
 ·simp only
  rw [if_neg (by omega)]
  have hle2:L.length * A.sz<=c * A.sz:=Nat.mul_le_mul_right _ h5
  have holde:=holdc b c rfl cs h6
  by_cases hc:L.length + L'.length<=c
  ·rw [if_pos hc,h6]
   simp only
   rw [if_pos (by rw [h7];simp)]
   have hle3:(L.length + L'.length) * A.sz<=c * A.sz:=Nat.mul_le_mul_right _ hc
   rw [Nat.add_mul] at hle3
   have hch:Ch id S (⟨S.m.set b (splice cs (0 + L.length * A.sz) new),S.n,S.ow,S.le⟩:Cx fl):=⟨Nat.le_refl _,fun i hi hk=>⟨rfl,Tr.get_set_ne _ _ (fun e=>hk (by rw [e];exact h4))⟩⟩
   refine ⟨_,⟨S.m.set b (splice cs (0 + L.length * A.sz) new),S.n,S.ow,S.le⟩,rfl,hch,.inr ⟨b,c,_,by rw [List.length_append],h2,h3,h4,by rw [List.length_append];exact hc,Tr.get_set_same _ _ _,?_,?_⟩⟩
   ·simp only [splice,List.length_append,List.length_take,List.length_drop];omega
   ·have:=(RL.append h8 hn).frame (fz_ch hch hid)
    have e:(splice cs (0 + L.length * A.sz) new).take ((L ++ L').length * A.sz) = cs.take (L.length * A.sz) ++ new:=by
     simp only [splice,Nat.zero_add]
     rw [List.take_append_of_le_length (by simp only [List.length_append,List.length_take,Nat.add_mul];omega),List.take_of_length_le (by simp only [List.length_append,List.length_take,Nat.add_mul];omega)]
    rw [e];exact this
  ·rw [if_neg hc,if_neg (by decide)]
   have hch:Ch id S (⟨(S.m.upd b none).set S.n (old ++ new),S.n + 1,fun i=>if i = S.n then id else if i = b then 1 else S.ow i,by omega⟩:Cx fl):=⟨by simp,fun i hi hk=>by
    have hib:i≠b:=fun e=>hk (by rw [e];exact h4)
    exact ⟨by simp only;rw [if_neg (by omega),if_neg hib],by rw [Tr.get_set_ne _ _ (by omega),Tr.get_upd_ne _ _ hib]⟩⟩
   refine ⟨_,⟨(S.m.upd b none).set S.n (old ++ new),S.n + 1,fun i=>if i = S.n then id else if i = b then 1 else S.ow i,by omega⟩,rfl,hch,.inr ⟨S.n,L.length + L'.length,old ++ new,by rw [List.length_append,<- he,he],by omega,by simp,by simp,by rw [List.length_append];exact Nat.le_refl _,Tr.get_set_same _ _ _,?_,?_⟩⟩
   ·rw [List.length_append,hold.length,hnl,Nat.add_mul]
   ·have hRR:=RL.append hold hn
    rw [<- hRR.length,List.take_length]
    exact hRR.frame (fz_ch hch hid)
theorem Ow.app {e:Ty} {new:List SV} (hs:Ow A S id v L) (hid:id≠0) (hn:RL A S.fz S.m L' new) (he:e.size = A.sz) (hb:e.bytes<=256) (hlen:L.length + L'.length<=549755813888) {old:List SV} (hold:RL A S.fz S.m L old) (holdc:∀ b c,v = .sl b 0 L.length c A.sz->∀ cs,S.m.get b = some cs->old = cs.take (L.length * A.sz)):
 ∃ v' S',appendTo fl e (.sc v) old new L.length L'.length S.m S.n = some (.sc v',S'.m,S'.n)/\Ch id S S'/\Ow A S' id v' (L ++ L'):=by
 exact hs.app0 hid hn he (Nat.le_trans (Nat.mul_le_mul hlen hb) (by decide)) (by omega) hold holdc
theorem WO.appS {y2:Operand} {zo:Nat->Prop} (hx:evK l x = some (.sc v)) (hy:evK l y2 = some (.sc w)) (hs:Ow A S id v L) (hs2:RO A zo S.fz S.m w L') (hM:app? L L' = some M) (hT:slTs E t A.sz = true) (hid:Nat.beq id 0 = false)
 (h:∀ v' S',Ch id S S'->Ow A S' id v' M->WO E loose fl lim ops os ((d,.sc v') :: l) S'.m S'.n K):
 WO E loose fl lim ops (⟨some d,.call ⟨.builtin .append,#[x,y2],#[t,t]⟩,ty,pos,af,none⟩ :: os) l S.m S.n K:=⟨fun tt ht=>by
 have hid:id≠0:=fun e=>by subst e;cases hid
 obtain ⟨z,e,h1,h2,h3,h4,h5,h5',h6⟩:=slTs_ok hT
 obtain ⟨hlen,rfl⟩:=app?_some hM
 obtain ⟨new,q1,q2⟩:=hs2.elems
 obtain ⟨old,q3,q4⟩:=hs.ro.elems
 have holdc:∀ b c,v = .sl b 0 L.length c A.sz->∀ cs,S.m.get b = some cs->old = cs.take (L.length * A.sz):=by
  intro b c e cs hcs
  subst e
  simp only [elemsA,hcs] at q3
  rw [if_neg (by simp)] at q3
  split at q3
  ·cases q3;rfl
  ·cases q3
 obtain ⟨v',S',q5,q6,q7⟩:=hs.app hid q2 h4 h6 hlen q4 holdc
 refine W_op2 (m':=S'.m) (n':=S'.n) ?_ ((h v' S' q6 q7).put ht)
 simp only [opA,callA,builtinA,List.map_cons,List.map_nil,evK_ev ht hx,evK_ev ht hy]
 simp only [List.getElem?_toArray,List.getElem?_cons_zero,List.getElem?_cons_succ,if_true,appendA,h1,h2,h3,h4,h5]
 rw [q3,q1]
 simpa [h5'] using q5⟩
theorem Ow.fresh {cs:List SV} {c:Nat} (hR:RL A S.fz S.m L (cs.take (L.length * A.sz))) (hid:id≠0) (hc:L.length<=c) (hcs:cs.length = c * A.sz):
 ∃ S':Cx fl,S'.m = S.m.set S.n cs/\S'.n = S.n + 1/\Ch id S S'/\Ow A S' id (.sl S.n 0 L.length c A.sz) L:=by
 have hS:=S.le
 have hch:Ch id S (⟨S.m.set S.n cs,S.n + 1,fun i=>if i = S.n then id else S.ow i,by omega⟩:Cx fl):=⟨by simp,fun i hi hk=>⟨by simp only;rw [if_neg (by omega)],Tr.get_set_ne _ _ (by omega)⟩⟩
 exact ⟨_,rfl,rfl,hch,.inr ⟨S.n,c,cs,rfl,hS,by simp,by simp,hc,Tr.get_set_same _ _ _,hcs,hR.frame (fz_ch hch hid)⟩⟩
theorem Bk.fresh {cs:List SV} {u:α} (hR:A.R S.fz S.m u cs) (hid:id≠0):
 ∃ S':Cx fl,S'.m = S.m.set S.n cs/\S'.n = S.n + 1/\Ch id S S'/\Bk A S' id (.ptr S.n 0) u:=by
 have hS:=S.le
 have hch:Ch id S (⟨S.m.set S.n cs,S.n + 1,fun i=>if i = S.n then id else S.ow i,by omega⟩:Cx fl):=⟨by simp,fun i hi hk=>⟨by simp only;rw [if_neg (by omega)],Tr.get_set_ne _ _ (by omega)⟩⟩
 exact ⟨_,rfl,rfl,hch,S.n,cs,rfl,hS,by simp,by simp,Tr.get_set_same _ _ _,A.frame hR (fz_ch hch hid)⟩
theorem WO.bsS {len:Nat} {ps:Array (Nat × Operand)} {cs:List SV} (id:Nat) (hin:allK l (.buildSlice t len ps) = true) (hop:opA E (fun _ _ _ _ _=>none) fl lim (evL l) S.m S.n (.buildSlice t len ps) = some (.sc (.sl S.n 0 len len A.sz),S.m.set S.n cs,S.n + 1)) (hL:M.length = len)
 (hR:RL A S.fz S.m M cs) (hid:Nat.beq id 0 = false)
 (h:∀ v' S',Ch id S S'->Ow A S' id v' M->WO E loose fl lim ops os ((d,.sc v') :: l) S'.m S'.n K):WO E loose fl lim ops (⟨some d,.buildSlice t len ps,ty,pos,af,none⟩ :: os) l S.m S.n K:=by
 have hid:id≠0:=fun e=>by subst e;cases hid
 subst hL
 have hl:=hR.length
 obtain ⟨S',e1,e2,h7,h8⟩:=Ow.fresh (S:=S) (cs:=cs) (c:=M.length) (by rw [<- hl,List.take_length];exact hR) hid (by simp) hl
 refine WO.do hin hop ?_
 rw [<- e1,<- e2]
 exact h _ S' h7 h8
theorem WO.cvB {tq:TypeId} {st:List UInt8} {N:List Int} {yt yq ye:Ty} (id:Nat) (hx:evK l x = some (.sc (.str st))) (hN:bytes? st = some N) (h1:E.ty t = some yt) (h2:yt.kind = 3) (h3:E.ty tq = some yq) (h4:yq.kind = 4) (h5:E.ty yq.elem = some ye) (h6:ye.kind = 1) (h7:ye.ik = .u8) (h8:ye.size = 1) (hid:Nat.beq id 0 = false)
 (h:∀ v' S',Ch id S S'->Ow (Lay.one (SV.int .u8)) S' id v' N->WO E loose fl lim ops os ((d,.sc v') :: l) S'.m S'.n K):WO E loose fl lim ops (⟨some d,.convert t tq x,ty,pos,af,none⟩ :: os) l S.m S.n K:=⟨fun tt ht=>by
 have hid:id≠0:=fun e=>by subst e;cases hid
 unfold bytes? at hN
 split at hN
 ·rename_i hl
  cases hN
  have hR:RL (Lay.one (SV.int .u8)) S.fz S.m (st.map fun b=>(b.toNat:Int)) (byteCells st):=by
   have:=RL.ofMap (g:=SV.int .u8) (z:=S.fz) (m:=S.m) (st.map fun b=>(b.toNat:Int))
   rwa [List.map_map] at this
  have hlen:=hR.length
  obtain ⟨S',e1,e2,h9,h10⟩:=Ow.fresh (S:=S) (cs:=byteCells st) (c:=st.length) (by rw [<- hlen,List.take_length];exact hR) hid (by simp) (by rw [hlen];simp)
  refine W_op2 (m':=S'.m) (n':=S'.n) ?_ ((h _ S' h9 h10).put ht)
  simp only [opA,evK_ev ht hx,convA,h1,h3,h2,h4,h5,h6,h7,h8,hl,and_self,if_true,e1,e2,List.length_map,Lay.flat]
 ·cases hN⟩
theorem WO.alS {z0:α} {yt:Ty} (id:Nat) (hT:E.ty t = some yt) (hz:A.R S.fz S.m z0 yt.zero) (hid:Nat.beq id 0 = false)
 (h:∀ v' S',Ch id S S'->Bk A S' id v' z0->WO E loose fl lim ops os ((d,.sc v') :: l) S'.m S'.n K):WO E loose fl lim ops (⟨some d,.alloc t,ty,pos,af,none⟩ :: os) l S.m S.n K:=⟨fun tt ht=>by
 have hid:id≠0:=fun e=>by subst e;cases hid
 obtain ⟨S',e1,e2,h7,h8⟩:=Bk.fresh (S:=S) hz hid
 exact W_op2 (m':=S'.m) (n':=S'.n) (by simp only [opA,hT,e1,e2]) ((h _ S' h7 h8).put ht)⟩
theorem WO.bxS {u:α} {av:AV} {cs:List SV} (id:Nat) (hx:evK l x = some av) (hc:av.cells? = some cs) (hz:A.R S.fz S.m u cs) (hid:Nat.beq id 0 = false)
 (h:∀ v' S',Ch id S S'->Bk A S' id v' u->WO E loose fl lim ops os ((d,.sc v') :: l) S'.m S'.n K):WO E loose fl lim ops (⟨some d,.box t x,ty,pos,af,none⟩ :: os) l S.m S.n K:=⟨fun tt ht=>by
 have hid:id≠0:=fun e=>by subst e;cases hid
 obtain ⟨S',e1,e2,h7,h8⟩:=Bk.fresh (S:=S) hz hid
 exact W_op2 (m':=S'.m) (n':=S'.n) (by simp only [opA,evK_ev ht hx,hc,e1,e2]) ((h _ S' h7 h8).put ht)⟩
theorem Bk.ptr {u:α} (h:Bk A S id v u):∃ b o,ptrAt v j 0 = .ptr b o:=by
 obtain ⟨b,cs,rfl,_⟩:=h
 exact ⟨_,_,rfl⟩
theorem Bk.at0 {u:α} (h:Bk A S id v u):v = ptrAt v 0 0:=by
 obtain ⟨b,cs,rfl,_⟩:=h
 rfl
theorem Bk.isp {u:α} (h:Bk A S id v u):∃ b,v = .ptr b 0:=by
 obtain ⟨b,cs,rfl,_⟩:=h
 exact ⟨b,rfl⟩
theorem WO.ldB {sz:Nat} {f:α->List SV} {hf:∀ a,(f a).length = sz} {p:SV} (hx:evK l x = some (.sc p)) (hp:p = ptrAt v j q) (hs:Bk (Lay.flat sz f hf) S id v u) (hc:(f u)[q]? = some s) (hT:oneT E t = true) (hl:limLe lim S.n = true)
 (h:WO E loose fl lim ops os ((d,.sc s) :: l) S.m S.n K):WO E loose fl lim ops (⟨some d,.load t x,ty,pos,af,none⟩ :: os) l S.m S.n K:=⟨fun tt ht=>by
 subst hp
 obtain ⟨y,h1,h2,h3,_⟩:=oneT_ok hT
 refine W_op2 ?_ (h.put ht)
 obtain ⟨b,cs,rfl,_,h4,_,h5,h6⟩:=hs
 have h6:cs = f u:=h6
 subst h6
 simp only [opA,evK_ev ht hx,ptrAt,loadA,limOk_of hl h4,if_true,h5,part,h1,h2,h3,or_self,if_false,Nat.zero_add,hc,Option.map_some]⟩
theorem WO.ldBA {sz:Nat} {f:α->List SV} {hf:∀ a,(f a).length = sz} {p:SV} (hx:evK l x = some (.sc p)) (hp:p = ptrAt v j 0) (hs:Bk (Lay.flat sz f hf) S id v u) (hT:aggT E t sz = true) (hl:limLe lim S.n = true)
 (h:WO E loose fl lim ops os ((d,.agg (f u)) :: l) S.m S.n K):WO E loose fl lim ops (⟨some d,.load t x,ty,pos,af,none⟩ :: os) l S.m S.n K:=⟨fun tt ht=>by
 subst hp
 obtain ⟨y,h1,h2,h3,_⟩:=aggT_ok hT
 refine W_op2 ?_ (h.put ht)
 obtain ⟨b,cs,rfl,_,h4,_,h5,h6⟩:=hs
 have h6:cs = f u:=h6
 subst h6
 have:=hf u
 simp only [opA,evK_ev ht hx,ptrAt,loadA,limOk_of hl h4,if_true,h5,part,h1,h2,h3,Nat.zero_add,this,Nat.le_refl,List.drop_zero,Option.map_some]
 rw [List.take_of_length_le (by omega)]⟩
theorem Bk.put {u':α} {c:List SV} {u:α} (h:Bk A S id v u) (hc:A.R S.fz S.m u' c) (hid:id≠0):
 ∃ b cs,v = .ptr b 0/\fl<=b/\S.m.get b = some cs/\A.R S.fz S.m u cs/\∃ S':Cx fl,S'.m = S.m.set b c/\S'.n = S.n/\Ch id S S'/\Bk A S' id v u':=by
 obtain ⟨b,cs,h1,h2,h3,h4,h6,h8⟩:=h
 have hch:Ch id S (⟨S.m.set b c,S.n,S.ow,S.le⟩:Cx fl):=⟨Nat.le_refl _,fun i hi hk=>⟨rfl,Tr.get_set_ne _ _ (fun e=>hk (by rw [e];exact h4))⟩⟩
 exact ⟨b,cs,h1,h2,h6,h8,⟨S.m.set b c,S.n,S.ow,S.le⟩,rfl,rfl,hch,b,c,h1,h2,h3,h4,Tr.get_set_same _ _ _,A.frame hc (fz_ch hch hid)⟩
theorem splice_set {cs:List SV} {o:Nat} (ho:o < cs.length):splice cs o [v] = cs.set o v:=by
 unfold splice
 apply List.ext_getElem?
 intro q
 rw [List.getElem?_set]
 by_cases h:q < o
 ·rw [List.append_assoc,List.getElem?_append_left (by simp;omega),List.getElem?_take_of_lt h,if_neg (by omega)]
 ·by_cases h2:o = q
  ·subst h2
   rw [List.append_assoc,List.getElem?_append_right (by simp;omega)]
   simp [ho,Nat.min_eq_left (Nat.le_of_lt ho)]
  ·rw [if_neg h2,List.getElem?_append_right (by simp;omega)]
   simp only [List.length_append,List.length_take,List.length_cons,List.length_nil,List.getElem?_drop]
   congr 1;omega
theorem WO.stB {sz:Nat} {f:α->List SV} {hf:∀ a,(f a).length = sz} {p:SV} {u':α} (hx:evK l x = some (.sc p)) (hp:p = ptrAt v j q) (hy:evK l y = some (.sc s)) (hs:Bk (Lay.flat sz f hf) S id v u) (hu':(f u).set q s = f u') (hq:q < sz) (hT:oneT E t = true) (hid:Nat.beq id 0 = false)
 (h:∀ S',Ch id S S'->Bk (Lay.flat sz f hf) S' id v u'->WO E loose fl lim ops os l S'.m S'.n K):WO E loose fl lim ops (⟨none,.store t x y,ty,pos,af,none⟩ :: os) l S.m S.n K:=⟨fun tt ht=>by
 have hid:id≠0:=fun e=>by subst e;cases hid
 subst hp
 obtain ⟨z,h1,h2,h3,h4⟩:=oneT_ok hT
 obtain ⟨b,cs,rfl,h5,h6,h7,S',e1,e2,h8,h9⟩:=hs.put (u':=u') (c:=f u') rfl hid
 have h7:cs = f u:=h7
 subst h7
 refine W_op2 (v:=.tup []) (m':=S'.m) (n':=S'.n) ?_ ((h S' h8 h9).ok tt ht)
 have hl:=hf u
 simp only [opA,evK_ev ht hx,evK_ev ht hy,ptrAt,storeA,AV.cells?,h1,List.length_cons,List.length_nil,h4,h5,h6,true_and,Nat.zero_add,if_true]
 rw [if_pos (by omega),splice_set (by omega),hu',<- e1,e2];rfl⟩
theorem WO.stBA {sz:Nat} {f:α->List SV} {hf:∀ a,(f a).length = sz} {p:SV} {u':α} (hx:evK l x = some (.sc p)) (hp:p = ptrAt v j 0) (hy:evK l y = some (.agg (f u'))) (hs:Bk (Lay.flat sz f hf) S id v u) (hT:aggT E t sz = true) (hid:Nat.beq id 0 = false)
 (h:∀ S',Ch id S S'->Bk (Lay.flat sz f hf) S' id v u'->WO E loose fl lim ops os l S'.m S'.n K):WO E loose fl lim ops (⟨none,.store t x y,ty,pos,af,none⟩ :: os) l S.m S.n K:=⟨fun tt ht=>by
 have hid:id≠0:=fun e=>by subst e;cases hid
 subst hp
 obtain ⟨z,h1,h2,h3,h4⟩:=aggT_ok hT
 obtain ⟨b,cs,rfl,h5,h6,h7,S',e1,e2,h8,h9⟩:=hs.put (u':=u') (c:=f u') rfl hid
 have h7:cs = f u:=h7
 subst h7
 refine W_op2 (v:=.tup []) (m':=S'.m) (n':=S'.n) ?_ ((h S' h8 h9).ok tt ht)
 have hl:=hf u
 have hl':=hf u'
 simp only [opA,evK_ev ht hx,evK_ev ht hy,ptrAt,storeA,AV.cells?,h1,h3,hl',h5,h6,true_and,Nat.zero_add,if_true]
 rw [if_pos (by omega)]
 have:splice (f u) 0 (f u') = f u':=by unfold splice;simp [hl',<- hl]
 rw [this,<- e1,e2];rfl⟩
theorem RO.sub {zo zi:Nat->Prop} {lo' hi':Int} (hs:RO A zo zi m v L) (hM:sub? L lo' hi' = some M) {yt:Ty} {e:Ty} (h1:E.ty t = some yt) (h2:yt.kind = 4) (h3:E.ty yt.elem = some e) (h4:e.size = A.sz) (lo1 hi1:Option AV) (hlo:lo1 = some (.sc (.int k lo'))\/lo1 = none/\lo' = 0) (hhi:hi1 = some (.sc (.int k' hi'))\/hi1 = none/\hi' = L.length):
 ∃ w,sliceA E t (.sc v) lo1 hi1 none = some (.sc w)/\RO A zo zi m w M:=by
 obtain ⟨⟨b1,b2,b3⟩,rfl⟩:=sub?_some hM
 have hb:∀ (o:Option AV) (k:IntKind),(o = some (.sc (.int k 0))\/o = none)->boundA o 0 0 = some 0:=by
  rintro o k (rfl | rfl) <;> simp [boundA]
 rcases hs with ⟨h | h,rfl⟩ | ⟨i,o,c,cs,rfl,q2,q3,q4,q5,q6⟩
 ·subst h
  simp at b3
  have e1:lo' = 0:=by omega
  have e2:hi' = 0:=by omega
  subst e1;subst e2
  refine ⟨.nils,?_,.inl ⟨.inl rfl,by simp⟩⟩
  simp only [sliceA,h1,h2,h3]
  rw [hb hi1 k' (hhi.imp id (·.1)),hb lo1 k (hlo.imp id (·.1))]
  simp
 ·subst h
  simp at b3
  have e1:lo' = 0:=by omega
  have e2:hi' = 0:=by omega
  subst e1;subst e2
  refine ⟨.emp,?_,.inl ⟨.inr rfl,by simp⟩⟩
  simp only [sliceA,h1,h2,h3]
  rw [hb hi1 k' (hhi.imp id (·.1)),hb lo1 k (hlo.imp id (·.1))]
  simp
 ·have hb1:boundA hi1 L.length c = some hi'.toNat:=by
   rcases hhi with rfl | ⟨rfl,rfl⟩
   ·simp only [boundA];rw [if_pos (by omega)]
   ·simp [boundA]
  have hb2:boundA lo1 0 hi'.toNat = some lo'.toNat:=by
   rcases hlo with rfl | ⟨rfl,rfl⟩
   ·simp only [boundA];rw [if_pos (by omega)]
   ·simp [boundA]
  have hml:((L.take hi'.toNat).drop lo'.toNat).length = hi'.toNat - lo'.toNat:=by rw [List.length_drop,List.length_take];omega
  have hle:hi'.toNat * A.sz<=L.length * A.sz:=Nat.mul_le_mul_right _ (by omega)
  have hle2:lo'.toNat * A.sz<=hi'.toNat * A.sz:=Nat.mul_le_mul_right _ (by omega)
  have hR:=RL.drop lo'.toNat (RL.take hi'.toNat q6)
  simp only [sliceA,h1,h2,h3,h4,Option.map_some]
  have hb0:boundA none c c = some c:=rfl
  simp only [hb0]
  by_cases hlt:lo'.toNat < c\/lo'.toNat = 0
  ·refine ⟨.sl i (o + lo'.toNat * A.sz) (hi'.toNat - lo'.toNat) (c - lo'.toNat) A.sz,by simp only [hb1,hb2];rw [if_pos hlt];simp,.inr ⟨i,_,_,cs,by rw [hml],by rw [hml];omega,q3,q4,?_,?_⟩⟩
   ·rw [hml,Nat.sub_mul];omega
   ·rw [hml]
    have e:(List.drop (o + lo'.toNat * A.sz) cs).take ((hi'.toNat - lo'.toNat) * A.sz) = (List.take (hi'.toNat * A.sz) (List.take (L.length * A.sz) (List.drop o cs))).drop (lo'.toNat * A.sz):=by
     rw [List.take_take,Nat.min_eq_left hle,List.drop_take,List.drop_drop,Nat.sub_mul]
    rw [e];exact hR
  ·refine ⟨.emp,by simp only [hb1,hb2];rw [if_neg hlt];simp,.inl ⟨.inr rfl,?_⟩⟩
   ·apply List.eq_nil_of_length_eq_zero;rw [hml];omega
theorem WO.slc {zo zi:Nat->Prop} {lo' hi':Int} {lo1 hi1:Option Operand} (hx:evK l x = some (.sc v)) (hlo:(∃ y,lo1 = some y/\evK l y = some (.sc (.int k lo')))\/lo1 = none/\lo' = 0) (hhi:(∃ y,hi1 = some y/\evK l y = some (.sc (.int k' hi')))\/hi1 = none/\hi' = L.length)
 (hs:RO A zo zi m v L) (hM:sub? L lo' hi' = some M) (hT:slTs E t A.sz = true)
 (h:∀ w,RO A zo zi m w M->WO E loose fl lim ops os ((d,.sc w) :: l) m n K):WO E loose fl lim ops (⟨some d,.slice t x lo1 hi1 none,ty,pos,af,none⟩ :: os) l m n K:=⟨fun tt ht=>by
 obtain ⟨yt,e,h1,h2,h3,h4,_⟩:=slTs_ok hT
 have hlo':lo1.map (St.ev ⟨tt,m,n⟩) = some (.sc (.int k lo'))\/lo1.map (St.ev ⟨tt,m,n⟩) = none/\lo' = 0:=by
  rcases hlo with ⟨y,rfl,hy⟩ | ⟨rfl,h0⟩
  ·exact .inl (by rw [Option.map_some,evK_ev ht hy])
  ·exact .inr ⟨rfl,h0⟩
 have hhi':hi1.map (St.ev ⟨tt,m,n⟩) = some (.sc (.int k' hi'))\/hi1.map (St.ev ⟨tt,m,n⟩) = none/\hi' = L.length:=by
  rcases hhi with ⟨y,rfl,hy⟩ | ⟨rfl,h0⟩
  ·exact .inl (by rw [Option.map_some,evK_ev ht hy])
  ·exact .inr ⟨rfl,h0⟩
 obtain ⟨w,q1,q2⟩:=RO.sub (t:=t) hs hM h1 h2 h3 h4 _ _ hlo' hhi'
 refine W_op2 ?_ ((h w q2).put ht)
 simp only [opA,evK_ev ht hx,Option.map_none,q1,Option.map_some,orA]⟩
theorem WO.cutB (N:Nat) {tj:Nat} {q:Bool} (B:Bool) {l0:LE} (h1:q = true->WO E loose fl lim ops (os.take N) ((tj,.sc (.bool true)) :: l0) m n (fun l' m' n'=>m' = m/\n' = n/\Cov l' ((d,.sc (.bool B)) :: l0)))
 (h2:q = false->WO E loose fl lim ops (os.take N) ((tj,.sc (.bool false)) :: l0) m n (fun l' m' n'=>m' = m/\n' = n/\Cov l' ((d,.sc (.bool B)) :: l0)))
 (h:WO E loose fl lim ops (os.drop N) ((d,.sc (.bool B)) :: l0) m n K):WO E loose fl lim ops os ((tj,.sc (.bool q)) :: l0) m n K:=by
 refine WO.cut N (fun l' m' n'=>m' = m/\n' = n/\Cov l' ((d,.sc (.bool B)) :: l0)) (WO.sp h1 h2) ?_
 rintro l' m' n' ⟨rfl,rfl,hc⟩
 exact WO.cov hc h
theorem WO.cutS (N:Nat) {tj:Nat} {q:Bool} (B:Bool) {l0:LE} {S:Cx fl} (h1:q = true->WO E loose fl lim ops (os.take N) ((tj,.sc (.bool true)) :: l0) S.m S.n (fun l' m' n'=>∃ S':Cx fl,S'.m = m'/\S'.n = n'/\Ch 1 S S'/\Cov l' ((d,.sc (.bool B)) :: l0)))
 (h2:q = false->WO E loose fl lim ops (os.take N) ((tj,.sc (.bool false)) :: l0) S.m S.n (fun l' m' n'=>∃ S':Cx fl,S'.m = m'/\S'.n = n'/\Ch 1 S S'/\Cov l' ((d,.sc (.bool B)) :: l0)))
 (h:∀ S',Ch 1 S S'->WO E loose fl lim (ops) (os.drop N) ((d,.sc (.bool B)) :: l0) S'.m S'.n K):WO E loose fl lim ops os ((tj,.sc (.bool q)) :: l0) S.m S.n K:=by
 refine WO.cut N (fun l' m' n'=>∃ S':Cx fl,S'.m = m'/\S'.n = n'/\Ch 1 S S'/\Cov l' ((d,.sc (.bool B)) :: l0)) (WO.sp h1 h2) ?_
 rintro l' m' n' ⟨S',rfl,rfl,hch,hc⟩
 exact WO.cov hc (h S' hch)
theorem Cx.next (S:Cx fl) {m':Mem} {n':Nat} (hk:Keeps S.n S.n S.m m' n') (id b:Nat) (hb:S.n<=b):∃ S':Cx fl,S'.m = m'/\S'.n = n'/\Ch id S S'/\S'.ow b = id/\∀ i,S.n<=i->i≠b->S'.ow i = 0:=by
 have hS:=S.le
 have h1:=hk.1
 exact ⟨⟨m',n',fun i=>if i < S.n then S.ow i else if i = b then id else 0,by omega⟩,rfl,rfl,
  ⟨h1,fun i hi _=>⟨by simp only;rw [if_pos hi],hk.2 i hi hi⟩⟩,by simp only;rw [if_neg (by omega)];simp,fun i hi hb=>by simp only;rw [if_neg (by omega),if_neg hb]⟩
theorem WO.callC {f:Operand} {xs:Array Operand} {ats:Array TypeId} {g:Nat} {caps:List (Nat × Nat)} {args:List AV} {R:AV->Mem->Nat->Prop} (hf:evK l f = some (.sc (.fn g caps))) (ha:xs.toList.mapM (evK l) = some args)
 (hr:Ret E S.n g (args ++ caps.map fun p=>.sc (.ptr p.1 p.2)) S.m S.n R) (h:∀ v S',Ch 1 S S'->R v S'.m S'.n->WO E loose fl lim ops os ((d,v) :: l) S'.m S'.n K):
 WO E loose fl lim ops (⟨some d,.call ⟨.value f,xs,ats⟩,ty,pos,af,none⟩ :: os) l S.m S.n K:=by
 have hS:=S.le
 refine WO.call hf ha (Ret.use (by cases loose g <;> simp <;> omega) hr fun v m' n' hR hk=>?_)
 obtain ⟨S',rfl,rfl,hc,_⟩:=S.next hk 1 S.n (Nat.le_refl _)
 exact h v S' hc hR
theorem WO.callE {f:Operand} {xs:Array Operand} {ats:Array TypeId} {g:Nat} {caps:List (Nat × Nat)} {args:List AV} {r:AV} (hf:evK l f = some (.sc (.fn g caps))) (ha:xs.toList.mapM (evK l) = some args)
 (hr:Ret E S.n g (args ++ caps.map fun p=>.sc (.ptr p.1 p.2)) S.m S.n (fun v _ _=>v = r)) (h:∀ S',Ch 1 S S'->WO E loose fl lim ops os ((d,r) :: l) S'.m S'.n K):
 WO E loose fl lim ops (⟨some d,.call ⟨.value f,xs,ats⟩,ty,pos,af,none⟩ :: os) l S.m S.n K:=
 WO.callC hf ha hr fun v S' hc e=>by subst e;exact h S' hc
theorem Fr.own {n':Nat} (h:Fr A S.n m n' v L) (hA:A.Fl) (hk:Keeps S.n S.n S.m m n') (id:Nat):∃ S':Cx fl,S'.m = m/\S'.n = n'/\Ch id S S'/\Ow A S' id v L:=by
 have hS:=S.le
 rcases h with ⟨rfl,rfl⟩ | ⟨b,c,cs,h1,h2,h3,h5,h6,h7,h8⟩
 ·obtain ⟨S',e1,e2,hc,_⟩:=S.next hk id S.n (Nat.le_refl _)
  exact ⟨S',e1,e2,hc,.inl ⟨rfl,rfl⟩⟩
 ·obtain ⟨S',rfl,rfl,hc,hb,_⟩:=S.next hk id b h2
  exact ⟨S',rfl,rfl,hc,.inr ⟨b,c,cs,h1,by omega,h3,hb,h5,h6,h7,h8.fl hA⟩⟩
theorem WO.callF {f:Operand} {xs:Array Operand} {ats:Array TypeId} {g:Nat} {caps:List (Nat × Nat)} {args:List AV} {G:SV->AV} (id:Nat) (hf:evK l f = some (.sc (.fn g caps))) (ha:xs.toList.mapM (evK l) = some args)
 (hr:Ret E S.n g (args ++ caps.map fun p=>.sc (.ptr p.1 p.2)) S.m S.n (fun v m' n'=>∃ w,v = G w/\Fr A S.n m' n' w L)) (hA:A.Fl)
 (h:∀ w S',Ch id S S'->Ow A S' id w L->WO E loose fl lim ops os ((d,G w) :: l) S'.m S'.n K):
 WO E loose fl lim ops (⟨some d,.call ⟨.value f,xs,ats⟩,ty,pos,af,none⟩ :: os) l S.m S.n K:=by
 have hS:=S.le
 refine WO.call hf ha (Ret.use (by cases loose g <;> simp <;> omega) hr fun v m' n' hR hk=>?_)
 obtain ⟨w,rfl,hw⟩:=hR
 obtain ⟨S',rfl,rfl,hc,ho⟩:=hw.own hA hk id
 exact h w S' hc ho
theorem WO.ixT {s:List UInt8} {c:UInt8} {yt:Ty} (hx:evK l x = some (.sc (.str s))) (hi:evK l i = some (.sc (.int k a))) (hc:at? s a = some c) (hT:E.ty t = some yt) (hk:yt.kind = 3) (h:WO E loose fl lim ops os ((d,.sc (.int .u8 (c.toNat:Int))) :: l) m n K):
 WO E loose fl lim ops (⟨some d,.index t x i,ty,pos,af,none⟩ :: os) l m n K:=⟨fun tt ht=>by
 obtain ⟨h1,_,h2⟩:=at?_some hc
 exact W_op2 (by simp [opA,evK_ev ht hx,evK_ev ht hi,indexA,hT,hk,h1,h2]) (h.put ht)⟩
theorem WO.slcT {s r:List UInt8} {lo' hi':Int} {lo1 hi1:Option Operand} {yt:Ty} (hx:evK l x = some (.sc (.str s))) (hlo:(∃ y,lo1 = some y/\evK l y = some (.sc (.int k lo')))\/lo1 = none/\lo' = 0) (hhi:(∃ y,hi1 = some y/\evK l y = some (.sc (.int k' hi')))\/hi1 = none/\hi' = s.length)
 (hM:sub? s lo' hi' = some r) (hT:E.ty t = some yt) (hk:yt.kind = 3) (h:WO E loose fl lim ops os ((d,.sc (.str r)) :: l) m n K):WO E loose fl lim ops (⟨some d,.slice t x lo1 hi1 none,ty,pos,af,none⟩ :: os) l m n K:=⟨fun tt ht=>by
 obtain ⟨⟨b1,b2,b3⟩,rfl⟩:=sub?_some hM
 have hb1:boundA (hi1.map (St.ev ⟨tt,m,n⟩)) s.length s.length = some hi'.toNat:=by
  rcases hhi with ⟨y,rfl,hy⟩ | ⟨rfl,rfl⟩
  ·rw [Option.map_some,evK_ev ht hy];simp only [boundA];rw [if_pos (by omega)]
  ·simp [boundA]
 have hb2:boundA (lo1.map (St.ev ⟨tt,m,n⟩)) 0 hi'.toNat = some lo'.toNat:=by
  rcases hlo with ⟨y,rfl,hy⟩ | ⟨rfl,rfl⟩
  ·rw [Option.map_some,evK_ev ht hy];simp only [boundA];rw [if_pos (by omega)]
  ·simp [boundA]
 exact W_op2 (by simp [opA,evK_ev ht hx,sliceA,hT,hk,hb1,hb2,orA]) (h.put ht)⟩
theorem WO.nck (hx:evK l x = some (.sc v)) (hv:∃ b,v = .ptr b 0) (h:WO E loose fl lim ops os ((d,.sc v) :: l) m n K):WO E loose fl lim ops (⟨some d,.nilCheck x,ty,pos,af,none⟩ :: os) l m n K:=⟨fun tt ht=>by
 obtain ⟨b,rfl⟩:=hv
 exact W_op2 (by simp only [opA,evK_ev ht hx]) (h.put ht)⟩
theorem eqFields_cons {o t1 s1:Nat} {y1:Ty} {fs:List (Nat × Nat × Nat)} {ca cb:List SV} {p q:SV} {r r':Bool} (hy:E.ty t1 = some y1) (ha:ca[o]? = some p) (hb:cb[o]? = some q) (hc:eqC y1.kind p q = some r) (ht:eqFields E fs ca cb = some r'):
 eqFields E ((o,t1,s1) :: fs) ca cb = some (r && r'):=by
 simp only [eqFields,hy,ha,hb,hc]
 cases r with
 | true=>simpa using ht
 | false=>rfl
theorem eqC_int {p q:Int}:eqC 1 (.int k p) (.int k q) = some (p == q):=by simp [eqC]
theorem WO.neA {ty2:TypeId} {yt:Ty} {ca cb:List SV} {r:Bool} (hx:evK l x = some (.agg ca)) (hy:evK l y = some (.agg cb)) (hT:E.ty t = some yt) (hk:yt.kind = 6) (he:eqFields E yt.fields ca cb = some r)
 (h:WO E loose fl lim ops os ((d,.sc (.bool (!r))) :: l) m n K):WO E loose fl lim ops (⟨some d,.binOp .neq t x y ty2,ty,pos,af,none⟩ :: os) l m n K:=⟨fun tt ht=>
 W_op2 (by simp only [opA,evK_ev ht hx,evK_ev ht hy,binA,eqOp,hT,hk,if_true,he,notO,Option.map_some]) (h.put ht)⟩
def Lay.arr {α:Type} (N:Nat) (g:α->SV):Lay (List α) where
 sz:=N
 R _ _ L cs:=L.length = N/\cs = L.map g
 len:=by rintro z m a cs ⟨h,rfl⟩;simpa using h
 frame h _:=h
theorem WO.ixR {α:Type} {N:Nat} {g:α->SV} {L:List α} (hx:evK l x = some (.sc v)) (hs:Bk (Lay.arr N g) S id v L) (hi:evK l i = some (.sc (.int k a))) (ha:0<=a/\a < L.length) (hT:arTs E t N 1 = true) (h:WO E loose fl lim ops os ((d,.sc (ptrAt v 0 a.toNat)) :: l) m n K):
 WO E loose fl lim ops (⟨some d,.indexAddr t x i,ty,pos,af,none⟩ :: os) l m n K:=by
 have hl:L.length = N:=by obtain ⟨_,_,_,_,_,_,_,h,_⟩:=hs;exact h
 refine WO.ixB hx hs.isp hi (by omega) hT ?_
 rw [Nat.mul_one];exact h
theorem WO.stR {α:Type} {N:Nat} {g:α->SV} {L:List α} {u:α} {p:SV} (hx:evK l x = some (.sc p)) (hp:p = ptrAt v 0 q) (hy:evK l y = some (.sc (g u))) (hs:Bk (Lay.arr N g) S id v L) (hq:q < L.length) (hT:oneT E t = true) (hid:Nat.beq id 0 = false)
 (h:∀ S',Ch id S S'->Bk (Lay.arr N g) S' id v (L.set q u)->WO E loose fl lim ops os l S'.m S'.n K):WO E loose fl lim ops (⟨none,.store t x y,ty,pos,af,none⟩ :: os) l S.m S.n K:=⟨fun tt ht=>by
 have hid:id≠0:=fun e=>by subst e;cases hid
 subst hp
 obtain ⟨z,h1,h2,h3,h4⟩:=oneT_ok hT
 obtain ⟨b,cs,rfl,h5,h6,⟨h7,rfl⟩,S',e1,e2,h8,h9⟩:=hs.put (u':=L.set q u) (c:=(L.set q u).map g) ⟨by simpa using (by obtain ⟨_,_,_,_,_,_,_,h,_⟩:=hs;exact h),rfl⟩ hid
 refine W_op2 (v:=.tup []) (m':=S'.m) (n':=S'.n) ?_ ((h S' h8 h9).ok tt ht)
 simp only [opA,evK_ev ht hx,evK_ev ht hy,ptrAt,storeA,AV.cells?,h1,List.length_cons,List.length_nil,h4,h5,h6,true_and,Nat.zero_add,if_true,List.length_map]
 rw [if_pos (by omega),splice_set (by simpa using hq),<- List.map_set,<- e1,e2];rfl⟩
end sl
end rules
end Go.Am

/- Towards castlaw.ManyRuns, part 2: joined by a program of ours. -/
import Derived.Test.YtkhokgkgloligaaDoorA1
import Derived.ProofKit
import Derived.OpenShut
import Derived.Test.YtkhokgkgloligaaDoorRows
import Derived.Conc.Neutral
import Derived.Conc.Listed
import Derived.Below
import GoSem.Dispatch
import Derived.Conc.Company
import Derived.Conc.CompanyDraw
import Derived.Conc.CrowdStepC2
import Derived.Conc.CrowdRun
import Derived.Conc.CrowdComm
set_option linter.unusedVariables false
set_option linter.unusedSimpArgs false
set_option linter.unusedSectionVars false
namespace Go.Am
open Go.RowKit
section swap
variable {E:Env} {call:CallF}
def opW (E:Env) (call:CallF) (fl:Nat) (lim:Option Nat) (ops:Array Oper) (o:Oper) (s:St):Out:=
 match wantedA ops s o with
 | some true=>opA E call fl lim s.ev s.m s.n o.op
 | some false=>some (.tup [],s.m,s.n)
 | none=>none
theorem stepA_eq (fl:Nat) (lim:Option Nat) (ops:Array Oper) (o:Oper) (s:St):stepA E call fl lim ops o s = (opW E call fl lim ops o s).map fun r=>s.put o.dst r.1 r.2.1 r.2.2:=by
 unfold stepA opW
 cases wantedA ops s o with
 | none=>rfl
 | some b=>cases b with
  | false=>rfl
  | true=>
   simp only
   cases opA E call fl lim s.ev s.m s.n o.op with
   | none=>rfl
   | some r=>obtain ⟨v,m,n⟩:=r;rfl
def putT (t:Tr AV) (d:Option Nat) (v:AV):Tr AV:=
 match d with
 | some d=>t.set d v
 | none=>t
theorem put_eq (s:St) (d:Option Nat) (v:AV) (m:Mem) (n:Nat):s.put d v m n = ⟨putT s.t d v,m,n⟩:=by cases d <;> rfl
theorem wanted_congr {ops:Array Oper} {o:Oper} {t t':Tr AV} {m m':Mem} {n n':Nat} (h:∀ d∈looksAt ops o,t.get d = t'.get d):wantedA ops ⟨t,m,n⟩ o = wantedA ops ⟨t',m',n'⟩ o:=by
 unfold wantedA
 cases hg:o.guard with
 | none=>rfl
 | some g=>
  obtain ⟨j,want⟩:=g
  simp only
  cases hd:(ops[j]?).bind (·.dst) with
  | none=>rfl
  | some d=>
   have:d∈looksAt ops o:=by unfold looksAt;rw [hg];simp [hd]
   simp only [h d this]
theorem opW_congr {fl n:Nat} {lim:Option Nat} {ops:Array Oper} {o:Oper} {t t':Tr AV} {m:Mem} (h:∀ d∈looksAt ops o,t.get d = t'.get d):opW E call fl lim ops o ⟨t,m,n⟩ = opW E call fl lim ops o ⟨t',m,n⟩:=by
 unfold opW
 rw [wanted_congr (m':=m) (n':=n) h]
 have:opA E call fl lim (St.ev ⟨t,m,n⟩) m n o.op = opA E call fl lim (St.ev ⟨t',m,n⟩) m n o.op:=by
  refine opA_congr fun x hx=>?_
  cases x with
  | tmp d=>
   have hd:d∈looksAt ops o:=by
    unfold looksAt tmpsOf
    refine List.mem_append_left _ (List.mem_filterMap.2 ⟨.tmp d,by simpa using hx,rfl⟩)
   simp only [St.ev,h d hd]
  | const v=>rfl
  | global g=>rfl
  | func f=>rfl
 simp only [this]
theorem opW_pure2 {fl n n':Nat} {lim:Option Nat} {ops:Array Oper} {o:Oper} {t:Tr AV} {m m':Mem} {v:AV} (hln:lim.isSome = true) (hc:cls o.op<=2) (h:opW E call fl lim ops o ⟨t,m,n⟩ = some (v,m',n')):
 ∃ g:Mem->Mem,m' = g m/\(∀ m2:Mem,(cls o.op = 1->∀ i,limOk lim i = true->m2.get i = m.get i)->opW E call fl lim ops o ⟨t,m2,n⟩ = some (v,g m2,n')) /\
  (cls o.op<=1->∀ (k:Nat) (m2:Mem),(cls o.op = 1->∀ i,limOk lim i = true->m2.get i = m.get i)->opW E call fl lim ops o ⟨t,m2,k⟩ = some (v,m2,k)) /\
  (g = id\/(∃ b,g = fun q=>q.set n b)/\n' = n + 1)/\(cls o.op<=1->g = id/\n' = n):=by
 unfold opW at h
 have hw:∀ (m2:Mem) (k:Nat),wantedA ops ⟨t,m2,k⟩ o = wantedA ops ⟨t,m,n⟩ o:=fun m2 k=>wanted_congr fun _ _=>rfl
 cases e:wantedA ops ⟨t,m,n⟩ o with
 | none=>rw [e] at h;cases h
 | some b=>
  rw [e] at h
  cases b with
  | false=>
   simp only [Option.some.injEq,Prod.mk.injEq] at h
   obtain ⟨rfl,rfl,rfl⟩:=h
   exact ⟨id,rfl,fun m2 _=>by unfold opW;rw [hw,e];rfl,fun _ k m2 _=>by unfold opW;rw [hw,e],.inl rfl,fun _=>⟨rfl,rfl⟩⟩
  | true=>
   simp only at h
   obtain ⟨g,hg,h1,h2,h3,h4⟩:=opA_pure2 (by rw [hln];rfl) hc h
   refine ⟨g,hg,fun m2 hm2=>?_,fun hc1 k m2 hm2=>?_,h3,h4⟩
   ·unfold opW;rw [hw,e];exact h1 m2 hm2
   ·unfold opW;rw [hw,e];exact h2 hc1 k m2 hm2
theorem opW_fra (hcf:CallFra call) {fl n n':Nat} {lim:Option Nat} {ops:Array Oper} {o:Oper} {t:Tr AV} {m m':Mem} {v:AV} (h:opW E call fl lim ops o ⟨t,m,n⟩ = some (v,m',n')):Fra (fun m=>opW E call fl lim ops o ⟨t,m,n⟩) m n v m' n':=by
 unfold opW at h
 have hw:∀ (m2:Mem),wantedA ops ⟨t,m2,n⟩ o = wantedA ops ⟨t,m,n⟩ o:=fun m2=>wanted_congr fun _ _=>rfl
 split at h
 ·rename_i e
  have:=opA_fra hcf h
  intro q x hq hn
  obtain ⟨r1,r2⟩:=this q x hq hn
  refine ⟨r1,?_⟩
  unfold opW
  simp only [hw,e]
  exact r2
 ·rename_i e
  simp only [Option.some.injEq,Prod.mk.injEq] at h
  obtain ⟨rfl,rfl,rfl⟩:=h
  exact Fra.same fun q x _=>by unfold opW;simp only [hw,e]
 ·cases h
def CallTight (call:CallF):Prop:=∀ fl f args m n v m' n',call fl f args m n = some (v,m',n')->n<=n'/\∀ i,i < n->m'.get i = m.get i
theorem opW_call {fl n n':Nat} {lim:Option Nat} {ops:Array Oper} {o:Oper} {t:Tr AV} {m m':Mem} {v:AV} (ht:CallTight call) (hc:cls o.op = 3) (h:opW E call fl lim ops o ⟨t,m,n⟩ = some (v,m',n')):∀ i,i < n->m'.get i = m.get i:=by
 unfold opW at h
 split at h
 ·rename_i hw
  clear hw
  obtain ⟨dst,op,typ,pos,after,guard⟩:=o
  simp only at hc h
  cases op <;> try (simp [cls] at hc;done)
  rename_i c
  obtain ⟨callee,xs,ats⟩:=c
  cases callee with
  | value f=>
   simp only [opA,callA] at h
   split at h
   ·exact (ht _ _ _ _ _ _ _ _ h).2
   ·cases h
  | invoke r mm=>simp [cls] at hc
  | builtin b=>cases b <;> simp [cls] at hc
 ·simp only [Option.some.injEq,Prod.mk.injEq] at h
  obtain ⟨_,rfl,_⟩:=h
  intro _ _;rfl
 ·cases h
theorem swap {fl:Nat} {lim:Option Nat} (hln:lim.isSome = true) {ops:Array Oper} {loose:Bool} {a b:Oper} (hp:pairOk ops loose a b = true) (ht:loose = true->CallTight call) (hcf:CallFra call) {t:Tr AV} {m ma mb:Mem} {ka ka' kb kb':Nat} {va vb:AV} (hnone:∀ q,kb<=q->q < kb'->m.get q = none)
 (ha:opW E call fl lim ops a ⟨t,m,ka⟩ = some (va,ma,ka')) (hb:opW E call fl lim ops b ⟨putT t a.dst va,ma,kb⟩ = some (vb,mb,kb')) (hk:ka<=ka') (hk2:ka'<=kb)
 (hlim:(∃ l,lim = some l/\l<=ka)\/(cls a.op<=1/\cls b.op<=1)):
 ∃ m1,opW E call fl lim ops b ⟨t,m,kb⟩ = some (vb,m1,kb')/\opW E call fl lim ops a ⟨putT t b.dst vb,m1,ka⟩ = some (va,mb,ka')/\putT (putT t a.dst va) b.dst vb = putT (putT t b.dst vb) a.dst va:=by
 unfold pairOk at hp
 simp only [Bool.and_eq_true] at hp
 obtain ⟨hap,hcl⟩:=hp
 unfold apartA at hap
 simp only [Bool.and_eq_true] at hap
 obtain ⟨hap1,hap2⟩:=hap
 have hb1:∀ d∈looksAt ops b,(putT t a.dst va).get d = t.get d:=by
  intro d hd
  cases e:a.dst with
  | none=>rfl
  | some q=>
   rw [e] at hap1
   simp only [Bool.and_eq_true,Bool.not_eq_true',List.contains_eq_mem,decide_eq_false_iff_not] at hap1
   exact Tr.get_set_ne _ _ (fun e'=>hap1.1 (e' ▸ hd))
 have ha1:∀ d∈looksAt ops a,(putT t b.dst vb).get d = t.get d:=by
  intro d hd
  cases e:b.dst with
  | none=>rfl
  | some q=>
   rw [e] at hap2
   simp only [Bool.not_eq_true',List.contains_eq_mem,decide_eq_false_iff_not] at hap2
   exact Tr.get_set_ne _ _ (fun e'=>hap2 (e' ▸ hd))
 have hput:putT (putT t a.dst va) b.dst vb = putT (putT t b.dst vb) a.dst va:=by
  cases ea:a.dst with
  | none=>rfl
  | some qa=>
   cases eb:b.dst with
   | none=>rfl
   | some qb=>
    rw [ea] at hap1
    simp only [eb,Bool.and_eq_true] at hap1
    have hne:qa≠qb:=by
     intro e
     have:=hap1.2
     simp [e] at this
    exact Tr.set_comm _ _ _ hne
 rw [opW_congr hb1] at hb
 have hac:∀ (m1:Mem),opW E call fl lim ops a ⟨putT t b.dst vb,m1,ka⟩ = opW E call fl lim ops a ⟨t,m1,ka⟩:=fun m1=>opW_congr ha1
 suffices hs:∃ m1,opW E call fl lim ops b ⟨t,m,kb⟩ = some (vb,m1,kb')/\opW E call fl lim ops a ⟨t,m1,ka⟩ = some (va,mb,ka') by
  obtain ⟨m1,h1,h2⟩:=hs
  exact ⟨m1,h1,by rw [hac];exact h2,hput⟩
 simp only [Bool.or_eq_true,Bool.and_eq_true,beq_iff_eq,decide_eq_true_eq] at hcl
 rcases hcl with (((h0 | h0) | ⟨hx,hy⟩) | ⟨hx,hy⟩) | ⟨hl,⟨hx,hy⟩ | ⟨hx,hy⟩⟩
 ·obtain ⟨g,rfl,_,h2,_,h4⟩:=opW_pure2 hln (by omega) ha
  obtain ⟨rfl,rfl⟩:=h4 (by omega)
  exact ⟨mb,hb,h2 (by omega) _ mb (fun e=>by omega)⟩
 ·obtain ⟨g,rfl,h1,h2,_,h4⟩:=opW_pure2 hln (by omega) hb
  obtain ⟨rfl,rfl⟩:=h4 (by omega)
  exact ⟨m,h2 (by omega) kb' m (fun e=>by omega),ha⟩
 ·obtain ⟨ga,rfl,a1,_,a3,a4⟩:=opW_pure2 hln hx ha
  obtain ⟨gb,rfl,b1,_,b3,b4⟩:=opW_pure2 hln hy hb
  have hga:∀ i,limOk lim i = true->∀ q:Mem,(ga q).get i = q.get i:=by
   intro i hi q
   rcases a3 with rfl | ⟨⟨bb,rfl⟩,_⟩
   ·rfl
   ·rcases hlim with ⟨l,rfl,hl⟩ | ⟨h1,_⟩
    ·simp only [limOk,decide_eq_true_eq] at hi
     exact Tr.get_set_ne _ _ (by omega)
    ·have:=(a4 h1).2;omega
  have hgb:∀ i,limOk lim i = true->∀ q:Mem,(gb q).get i = q.get i:=by
   intro i hi q
   rcases b3 with rfl | ⟨⟨bb,rfl⟩,_⟩
   ·rfl
   ·rcases hlim with ⟨l,rfl,hl⟩ | ⟨_,h1⟩
    ·simp only [limOk,decide_eq_true_eq] at hi
     exact Tr.get_set_ne _ _ (by omega)
    ·have:=(b4 h1).2;omega
  have hcomm:ga (gb m) = gb (ga m):=by
   rcases a3 with rfl | ⟨⟨ba,rfl⟩,ea⟩
   ·rfl
   ·rcases b3 with rfl | ⟨⟨bb,rfl⟩,_⟩
    ·rfl
    ·exact Tr.set_comm _ _ _ (by omega)
  refine ⟨gb m,b1 m (fun _ i hi=>(hga i hi m).symm),?_⟩
  rw [<- hcomm]
  exact a1 (gb m) (fun _ i hi=>hgb i hi m)
 ·obtain ⟨gb,rfl,b1,_,b3,_⟩:=opW_pure2 hln (by omega) hb
  refine ⟨gb m,b1 m (fun e=>by omega),?_⟩
  rcases b3 with rfl | ⟨⟨bb,rfl⟩,rfl⟩
  ·exact ha
  ·exact (opW_fra hcf ha kb bb (hnone kb (Nat.le_refl _) (by omega)) (.inr hk2)).2
 ·obtain ⟨g,rfl,_,h2,_,h4⟩:=opW_pure2 hln (by omega) ha
  obtain ⟨rfl,rfl⟩:=h4 (by omega)
  have hkeep:=opW_call (ht hl) hy hb
  refine ⟨mb,hb,h2 (by omega) _ mb (fun _ i hi=>?_)⟩
  rcases hlim with ⟨l,rfl,hl'⟩ | ⟨_,h1⟩
  ·simp only [limOk,decide_eq_true_eq] at hi
   exact hkeep i (by omega)
  ·omega
 ·have hkeep:=opW_call (ht hl) hx ha
  obtain ⟨g,rfl,h1,h2,_,h4⟩:=opW_pure2 hln (by omega) hb
  obtain ⟨rfl,rfl⟩:=h4 (by omega)
  refine ⟨m,h2 (by omega) kb' m (fun _ i hi=>?_),ha⟩
  rcases hlim with ⟨l,rfl,hl'⟩ | ⟨h1,_⟩
  ·simp only [limOk,decide_eq_true_eq] at hi
   exact (hkeep i (by omega)).symm
  ·omega
def apU (U:List (Nat × Option (List SV))) (m:Mem):Mem:=U.foldl (fun m p=>m.upd p.1 p.2) m
theorem apU_get:∀ (U:List (Nat × Option (List SV))) (m:Mem) (i:Nat),(∀ p∈U,p.1≠i)->(apU U m).get i = m.get i
 | [],_,_,_=>rfl
 | p :: U,m,i,h=>by
  show (apU U (m.upd p.1 p.2)).get i = _
  rw [apU_get U _ i (fun q hq=>h q (by simp [hq])),Tr.get_upd_ne _ _ (Ne.symm (h p (by simp)))]
theorem apU_upd:∀ (U:List (Nat × Option (List SV))) (m:Mem) (i:Nat) (x:Option (List SV)),(∀ p∈U,p.1≠i)->apU U (m.upd i x) = (apU U m).upd i x
 | [],_,_,_,_=>rfl
 | p :: U,m,i,x,h=>by
  show apU U ((m.upd i x).upd p.1 p.2) = (apU U (m.upd p.1 p.2)).upd i x
  rw [Tr.upd_comm m _ _ (Ne.symm (h p (by simp))),apU_upd U _ i x (fun q hq=>h q (by simp [hq]))]
theorem apU_comm:∀ (U V:List (Nat × Option (List SV))) (m:Mem),(∀ p∈U,∀ q∈V,p.1≠q.1)->apU U (apU V m) = apU V (apU U m)
 | U,[],m,_=>rfl
 | U,q :: V,m,h=>by
  show apU U (apU V (m.upd q.1 q.2)) = apU V ((apU U m).upd q.1 q.2)
  rw [apU_comm U V _ (fun p hp r hr=>h p hp r (by simp [hr])),apU_upd U m _ _ (fun p hp=>h p hp q (by simp))]
theorem readsV_congr {ev ev':Operand->AV} {op:Op} (h:∀ x∈op.operands,ev x = ev' x):readsV ev op = readsV ev' op/\writesV ev op = writesV ev' op:=by
 cases op with
 | load t a=>exact ⟨by simp only [readsV];rw [h a (by simp [Op.operands])],rfl⟩
 | call c=>
  obtain ⟨callee,xs,ats⟩:=c
  cases callee with
  | value f=>exact ⟨rfl,rfl⟩
  | invoke r mm=>exact ⟨rfl,rfl⟩
  | builtin b=>
   cases b <;> try exact ⟨rfl,rfl⟩
   have hx:∀ x∈xs.toList,ev x = ev' x:=fun x hx=>h x (by simpa [Op.operands,Call.operands] using hx)
   refine ⟨?_,?_⟩
   ·simp only [readsV]
    have:xs.toList.map (fun x=>(ev x).blks) = xs.toList.map (fun x=>(ev' x).blks):=List.map_congr_left fun x hm=>by rw [hx x hm]
    rw [List.flatMap_def,List.flatMap_def,this]
   ·simp only [writesV]
    split
    ·rename_i x r e;rw [hx x (by rw [e];simp)]
    ·rfl
 | store t a x=>
  have e:ev a = ev' a:=h a (by simp [Op.operands])
  simp only [readsV,writesV,e,and_self]
 | _=>exact ⟨rfl,rfl⟩
theorem elemsA_blk {m:Mem} {x:AV} {es:Nat} {r:List SV × Nat} (h:elemsA m x es = some r):∀ i∈x.blks,m.get i≠none:=by
 intro i hi
 cases x with
 | sc s=>
  cases s with
  | sl b o n c es'=>
   simp only [AV.blks,SV.blks,List.mem_singleton] at hi
   subst hi
   simp only [elemsA] at h
   split at h
   ·cases h
   ·split at h
    ·rename_i cs hcs;rw [hcs];simp
    ·cases h
  | ptr b o=>simp [elemsA] at h
  | _=>simp [AV.blks,SV.blks] at hi
 | _=>simp [AV.blks] at hi
theorem elemsA_agree {m m2:Mem} {x:AV} {es:Nat} (h:∀ i∈x.blks,m2.get i = m.get i):elemsA m2 x es = elemsA m x es:=by
 cases x with
 | sc s=>
  cases s with
  | sl b o n c es'=>simp only [elemsA];rw [h b (by simp [AV.blks,SV.blks])]
  | _=>rfl
 | _=>rfl
theorem appendTo_eff {fl n n' k j:Nat} {e:Ty} {s v:AV} {old new:List SV} {m m':Mem} (h:appendTo fl e s old new k j m n = some (v,m',n')):
 ∃ U,m' = apU U m/\(∀ p∈U,p.1∈s.blks\/(p.1 = n/\n' = n + 1/\n∈v.blks))/\∀ m2:Mem,(∀ i∈s.blks,m2.get i = m.get i)->appendTo fl e s old new k j m2 n = some (v,apU U m2,n'):=by
 unfold appendTo at h
 split at h
 ·cases h
 ·rename_i h0
  split at h
  ·rename_i i o l c es'
   split at h
   ·cases h
   ·rename_i h1
    split at h
    ·rename_i h2
     split at h
     ·rename_i cs hcs
      split at h
      ·rename_i h3
       cases h
       refine ⟨[(i,some (splice cs (o + k * es') new))],rfl,fun p hp=>.inl (by simp at hp;subst hp;simp [AV.blks,SV.blks]),fun m2 hm2=>?_⟩
       unfold appendTo
       simp only [if_neg h0,if_neg h1,if_pos h2,hm2 i (by simp [AV.blks,SV.blks]),hcs,if_pos h3]
       rfl
      ·cases h
     ·cases h
    ·rename_i h2
     split at h
     ·cases h
     ·rename_i h3
      cases h
      refine ⟨[(i,none),(n,some (old ++ new))],rfl,fun p hp=>?_,fun m2 _=>?_⟩
      ·simp at hp
       rcases hp with rfl | rfl
       ·exact .inl (by simp [AV.blks,SV.blks])
       ·exact .inr ⟨rfl,rfl,by simp [AV.blks,SV.blks]⟩
      ·unfold appendTo
       simp only [if_neg h0,if_neg h1,if_neg h2,if_neg h3]
       rfl
  ·split at h
   ·rename_i h1
    cases h
    refine ⟨[],rfl,fun p hp=>by simp at hp,fun m2 _=>?_⟩
    unfold appendTo
    simp only [if_neg h0,if_pos h1]
    rfl
   ·rename_i h1
    cases h
    refine ⟨[(n,some new)],rfl,fun p hp=>.inr (by simp at hp;subst hp;exact ⟨rfl,rfl,by simp [AV.blks,SV.blks]⟩),fun m2 _=>?_⟩
    unfold appendTo
    simp only [if_neg h0,if_neg h1]
    rfl
  ·cases h
theorem app_eff {fl n n':Nat} {ts:Array TypeId} {args:List AV} {m m':Mem} {v:AV} (h:builtinA E fl .append ts args m n = some (v,m',n')):
 (∀ i∈args.flatMap AV.blks,m.get i≠none)/\∃ U,m' = apU U m/\(∀ p∈U,p.1∈(match args with | x :: _=>x.blks | []=>[])\/(p.1 = n/\n' = n + 1/\n∈v.blks))/\∀ m2:Mem,(∀ i∈args.flatMap AV.blks,m2.get i = m.get i)->builtinA E fl .append ts args m2 n = some (v,apU U m2,n'):=by
 obtain ⟨s,x,t,rfl,ht⟩:∃ s x t,args = [s,x]/\ts[0]? = some t:=by
  cases ht:ts[0]? with
  | none=>rcases args with _ | ⟨s,_ | ⟨x,_ | _⟩⟩ <;> simp [builtinA,ht] at h
  | some t=>
   rcases args with _ | ⟨s,_ | ⟨x,_ | _⟩⟩ <;> first | exact ⟨s,x,t,rfl,rfl⟩ | (simp [builtinA,ht] at h;done)
 ·simp only [builtinA,ht] at h ⊢
  have hs2:∀ m2:Mem,(∀ i∈[s,x].flatMap AV.blks,m2.get i = m.get i)->(∀ i∈s.blks,m2.get i = m.get i)/\∀ i∈x.blks,m2.get i = m.get i:=fun m2 h2=>⟨fun i hi=>h2 i (by simp [hi]),fun i hi=>h2 i (by simp [hi])⟩
  split at h
  ·rename_i h1
   simp only [if_pos h1]
   unfold appendA at h ⊢
   split at h
   ·cases h
   ·rename_i ty hty
    split at h
    ·cases h
    ·rename_i h2
     split at h
     ·cases h
     ·rename_i e he
      split at h
      ·cases h
      ·rename_i h3
       split at h
       ·rename_i old k new j e1 e2
        obtain ⟨U,u1,u2,u3⟩:=appendTo_eff h
        refine ⟨fun i hi=>?_,U,u1,u2,fun m2 hm2=>?_⟩
        ·simp only [List.flatMap_cons,List.flatMap_nil,List.append_nil,List.mem_append] at hi
         rcases hi with hi | hi
         ·exact elemsA_blk e1 i hi
         ·exact elemsA_blk e2 i hi
        ·obtain ⟨a1,a2⟩:=hs2 m2 hm2
         simp only [if_neg h2,he,if_neg h3,elemsA_agree a1,elemsA_agree a2,e1,e2]
         exact u3 m2 a1
       ·cases h
  ·rename_i h1
   simp only [if_neg h1]
   split at h
   ·rename_i u hu
    unfold appendZA at h ⊢
    split at h
    ·rename_i ty tu _ j e1 e2
     split at h
     ·cases h
     ·rename_i h2
      split at h
      ·cases h
      ·rename_i e he
       split at h
       ·cases h
       ·rename_i h3
        split at h
        ·rename_i old k e4
         obtain ⟨U,u1,u2,u3⟩:=appendTo_eff h
         refine ⟨fun i hi=>?_,U,u1,u2,fun m2 hm2=>?_⟩
         ·simp only [List.flatMap_cons,List.flatMap_nil,List.append_nil,List.mem_append] at hi
          rcases hi with hi | hi
          ·exact elemsA_blk e4 i hi
          ·simp [AV.blks,SV.blks] at hi
         ·obtain ⟨a1,a2⟩:=hs2 m2 hm2
          simp only [if_neg h2,he,if_neg h3,elemsA_agree a1,e4]
          exact u3 m2 a1
        ·cases h
    ·cases h
   ·cases h
theorem op_eff {fl n n':Nat} {lim:Option Nat} (hln:lim.isSome = true) {ev:Operand->AV} {op:Op} {v:AV} {m m':Mem} (hc:dynCls op = true) (h:opA E call fl lim ev m n op = some (v,m',n')):
 (∀ i∈readsV ev op,m.get i≠none)/\(∀ i∈writesV ev op,i∈readsV ev op)/\∃ U,m' = apU U m/\(∀ p∈U,p.1∈writesV ev op\/(p.1 = n/\n' = n + 1/\n∈v.blks))/\∀ m2:Mem,(∀ i∈readsV ev op,m2.get i = m.get i)->opA E call fl lim ev m2 n op = some (v,apU U m2,n'):=by
 unfold dynCls at hc
 simp only [Bool.or_eq_true,decide_eq_true_eq] at hc
 by_cases hl:cls op = 1
 ·-- a load
  cases op <;> try (simp [cls] at hl;done)
  case load t a=>
   simp only [opA] at h ⊢
   obtain ⟨v',h1,h2⟩:=Option.map_eq_some_iff.1 h
   simp only [Prod.mk.injEq] at h2
   obtain ⟨rfl,rfl,rfl⟩:=h2
   refine ⟨fun i hi=>?_,fun i hi=>by simp [writesV] at hi,[],rfl,fun p hp=>by simp at hp,fun m2 hm2=>?_⟩
   ·simp only [readsV] at hi
    unfold loadA at h1
    split at h1
    ·rename_i b o e
     rw [e] at hi
     simp only [AV.blks,SV.blks,List.mem_singleton] at hi
     subst hi
     split at h1
     ·split at h1
      ·rename_i cs hcs;rw [hcs];simp
      ·cases h1
     ·cases h1
    ·cases h1
   ·have:loadA E lim t m2 (ev a) = loadA E lim t m (ev a):=by
     unfold loadA
     split
     ·rename_i b o e
      rw [hm2 b (by simp only [readsV,e];simp [AV.blks,SV.blks])]
     ·rfl
    rw [this,h1];rfl
  case call c=>
   obtain ⟨callee,xs,ats⟩:=c
   cases callee with
   | value f=>simp [cls] at hl
   | invoke r mm=>simp [cls] at hl
   | builtin b=>cases b <;> simp [cls] at hl
 by_cases ha:isApp op = true
 ·cases op <;> try (simp [isApp] at ha;done)
  rename_i c
  obtain ⟨callee,xs,ats⟩:=c
  cases callee with
  | value f=>simp [isApp] at ha
  | invoke r mm=>simp [isApp] at ha
  | builtin b=>
   cases b <;> try (simp [isApp] at ha;done)
   simp only [opA,callA] at h ⊢
   obtain ⟨h1,U,u1,u2,u3⟩:=app_eff h
   have er:(xs.toList.map ev).flatMap AV.blks = xs.toList.flatMap fun x=>(ev x).blks:=by rw [List.flatMap_def,List.flatMap_def,List.map_map];rfl
   rw [er] at h1 u3
   refine ⟨h1,fun i hi=>?_,U,u1,fun p hp=>?_,u3⟩
   ·simp only [writesV] at hi
    simp only [readsV]
    split at hi
    ·rename_i x r e;rw [e];simp [hi]
    ·simp at hi
   ·rcases u2 p hp with h2 | h2
    ·left
     simp only [writesV]
     cases e:xs.toList with
     | nil=>rw [e] at h2;simp at h2
     | cons x r=>rw [e] at h2;exact h2
    ·exact .inr h2
 by_cases hst:isSto op = true
 ·cases op <;> try (simp [isSto] at hst;done)
  rename_i t a x
  simp only [opA] at h ⊢
  obtain ⟨u,hu,hh⟩:=Option.map_eq_some_iff.1 h
  simp only [Prod.mk.injEq] at hh;obtain ⟨rfl,rfl,rfl⟩:=hh
  have hu0:=hu
  unfold storeA at hu
  split at hu
  ·rename_i i o vc ty e1 e2 e3
   have er:(ev a).blks = [i]:=by rw [e1];rfl
   split at hu
   ·rename_i h1
    split at hu
    ·rename_i cs hcs
     split at hu
     ·rename_i h2
      cases hu
      refine ⟨fun q hq=>?_,fun q hq=>hq,[(i,some (splice cs o vc))],rfl,fun p hp=>.inl ?_,fun m2 hm2=>?_⟩
      ·simp only [readsV,er,List.mem_singleton] at hq
       subst hq;rw [hcs];simp
      ·simp only [List.mem_singleton] at hp
       subst hp
       simp only [writesV,er,List.mem_singleton]
      ·have e4:m2.get i = some cs:=by rw [hm2 i (by simp only [readsV,er,List.mem_singleton])];exact hcs
       have:storeA E fl t m2 (ev a) (ev x) = some (m2.set i (splice cs o vc)):=by
        unfold storeA
        simp only [e1,e2,e3,if_pos h1,e4,if_pos h2]
       rw [this];rfl
     ·cases hu
    ·cases hu
   ·cases hu
  ·cases hu
 ·have hc2:cls op<=2:=by rcases hc with (hc | hc) | hc;exact hc;exact (ha hc).elim;exact (hst hc).elim
  have hr:readsV ev op = []/\writesV ev op = []:=by
   cases op <;> first | exact ⟨rfl,rfl⟩ | (simp [cls] at hl;done) | (exact (hst rfl).elim) | skip
   rename_i c
   obtain ⟨callee,xs,ats⟩:=c
   cases callee with
   | value f=>exact ⟨rfl,rfl⟩
   | invoke r mm=>exact ⟨rfl,rfl⟩
   | builtin b=>cases b <;> first | exact ⟨rfl,rfl⟩ | (simp [isApp] at ha;done)
  rw [hr.1,hr.2]
  obtain ⟨g,hg,h1,_,h3,h4⟩:=opA_pure2 (by rw [hln];rfl) hc2 h
  refine ⟨fun i hi=>by simp at hi,fun i hi=>by simp at hi,?_⟩
  rcases h3 with rfl | ⟨⟨b,rfl⟩,hn⟩
  ·exact ⟨[],hg,fun p hp=>by simp at hp,fun m2 _=>h1 m2 (fun e=>(hl e).elim)⟩
  ·refine ⟨[(n,some b)],hg,fun p hp=>.inr ?_,fun m2 _=>h1 m2 (fun e=>(hl e).elim)⟩
   simp at hp;subst hp
   refine ⟨rfl,hn,?_⟩
   by_cases hle:cls op<=1
   ·have:=(h4 hle).2;omega
   ·cases op <;> try (simp [cls] at hle hc2;done)
    all_goals simp only [opA] at h
    case alloc e=>split at h <;> cases h;simp [AV.blks,SV.blks]
    case box t x=>split at h <;> cases h;simp [AV.blks,SV.blks]
    case buildSlice t len ps=>
     split at h
     ·split at h
      ·cases h
      ·split at h
       ·split at h
        ·cases h
        ·split at h
         ·cases h;simp [AV.blks,SV.blks]
         ·cases h
       ·cases h
     ·cases h
    case convert s d x=>
     unfold convA at h
     split at h
     ·split at h
      ·cases h;omega
      ·cases h
     ·split at h
      ·split at h
       ·split at h
        ·cases h;simp [AV.blks,SV.blks]
        ·cases h
       ·cases h
      ·cases h
     ·cases h
    case makeSlice t l c=>
     unfold makeSliceA at h
     split at h
     ·split at h
      ·cases h
      ·split at h
       ·cases h
       ·split at h
        ·cases h;simp [AV.blks,SV.blks]
        ·cases h
     ·cases h
    case call=>
     rename_i cc _
     obtain ⟨callee,xs,ats⟩:=cc
     cases callee with
     | value f=>simp [cls] at hc2
     | invoke r mm=>simp [cls] at hc2
     | builtin b=>cases b <;> simp [cls] at hc2 hle
structure DynP (ops:Array Oper) (ev:Operand->AV) (va:AV) (a b:Oper):Prop where
 ap:apartA ops a b = true
 ga:a.guard = none
 gb:b.guard = none
 ca:dynCls a.op = true
 cb:dynCls b.op = true
 rd:∀ i∈readsV ev b.op,i ∉ writesV ev a.op/\i ∉ va.blks
 wr:∀ i∈writesV ev b.op,i ∉ readsV ev a.op
theorem opW_un {fl n:Nat} {lim:Option Nat} {ops:Array Oper} {o:Oper} {t:Tr AV} {m:Mem} (hg:o.guard = none):opW E call fl lim ops o ⟨t,m,n⟩ = opA E call fl lim (St.ev ⟨t,m,n⟩) m n o.op:=by
 unfold opW wantedA;rw [hg]
theorem ev_evT (t:Tr AV) (m:Mem) (n:Nat):St.ev ⟨t,m,n⟩ = evT t:=by
 funext x;cases x <;> rfl
theorem swapD {fl:Nat} {lim:Option Nat} (hln:lim.isSome = true) {ops:Array Oper} {a b:Oper} {t:Tr AV} {m ma mb:Mem} {ka ka' kb kb':Nat} {va vb:AV} (hp:DynP ops (evT t) va a b) (hnone:∀ q,kb<=q->q < kb'->m.get q = none)
 (ha:opW E call fl lim ops a ⟨t,m,ka⟩ = some (va,ma,ka')) (hb:opW E call fl lim ops b ⟨putT t a.dst va,ma,kb⟩ = some (vb,mb,kb')) (hk:ka<=ka') (hk2:ka'<=kb):
 ∃ m1,opW E call fl lim ops b ⟨t,m,kb⟩ = some (vb,m1,kb')/\opW E call fl lim ops a ⟨putT t b.dst vb,m1,ka⟩ = some (va,mb,ka')/\putT (putT t a.dst va) b.dst vb = putT (putT t b.dst vb) a.dst va:=by
 obtain ⟨hap,ga,gb,ca,cb,hrd,hwr⟩:=hp
 unfold apartA at hap
 simp only [Bool.and_eq_true] at hap
 obtain ⟨hap1,hap2⟩:=hap
 have hb1:∀ d∈looksAt ops b,(putT t a.dst va).get d = t.get d:=by
  intro d hd
  cases e:a.dst with
  | none=>rfl
  | some q=>
   rw [e] at hap1
   simp only [Bool.and_eq_true,Bool.not_eq_true',List.contains_eq_mem,decide_eq_false_iff_not] at hap1
   exact Tr.get_set_ne _ _ (fun e'=>hap1.1 (e' ▸ hd))
 have ha1:∀ d∈looksAt ops a,(putT t b.dst vb).get d = t.get d:=by
  intro d hd
  cases e:b.dst with
  | none=>rfl
  | some q=>
   rw [e] at hap2
   simp only [Bool.not_eq_true',List.contains_eq_mem,decide_eq_false_iff_not] at hap2
   exact Tr.get_set_ne _ _ (fun e'=>hap2 (e' ▸ hd))
 have hput:putT (putT t a.dst va) b.dst vb = putT (putT t b.dst vb) a.dst va:=by
  cases ea:a.dst with
  | none=>rfl
  | some qa=>
   cases eb:b.dst with
   | none=>rfl
   | some qb=>
    rw [ea] at hap1
    simp only [eb,Bool.and_eq_true] at hap1
    have hne:qa≠qb:=by
     intro e
     have:=hap1.2
     simp [e] at this
    exact Tr.set_comm _ _ _ hne
 rw [opW_congr hb1] at hb
 have hac:∀ (m1:Mem),opW E call fl lim ops a ⟨putT t b.dst vb,m1,ka⟩ = opW E call fl lim ops a ⟨t,m1,ka⟩:=fun m1=>opW_congr ha1
 rw [opW_un ga,ev_evT] at ha
 rw [opW_un gb,ev_evT] at hb
 obtain ⟨ra,wa,Ua,ua1,ua2,ua3⟩:=op_eff hln ca ha
 obtain ⟨rb,wb,Ub,ub1,ub2,ub3⟩:=op_eff hln cb hb
 have hUa:∀ i∈readsV (evT t) b.op,∀ p∈Ua,p.1≠i:=by
  intro i hi p hp e
  obtain ⟨h1,h2⟩:=hrd i hi
  rcases ua2 p hp with h3 | ⟨h3,_,h4⟩
  ·exact h1 (e ▸ h3)
  ·exact h2 (by rw [<- e,h3];exact h4)
 have hag:∀ i∈readsV (evT t) b.op,m.get i = ma.get i:=fun i hi=>by rw [ua1,apU_get _ _ _ (hUa i hi)]
 have hb2:=ub3 m hag
 have hUb:∀ i∈readsV (evT t) a.op,∀ p∈Ub,p.1≠i:=by
  intro i hi p hp e
  rcases ub2 p hp with h3 | ⟨h3,h5,_⟩
  ·exact hwr p.1 h3 (e ▸ hi)
  ·refine ra i hi ?_
   rw [<- e,h3]
   exact hnone kb (Nat.le_refl _) (by omega)
 have hag2:∀ i∈readsV (evT t) a.op,(apU Ub m).get i = m.get i:=fun i hi=>apU_get _ _ _ (hUb i hi)
 have ha2:=ua3 (apU Ub m) hag2
 refine ⟨apU Ub m,?_,?_,hput⟩
 ·rw [opW_un gb,ev_evT];exact hb2
 ·rw [hac,opW_un ga,ev_evT,ha2,ub1,ua1]
  rw [apU_comm Ua Ub m]
  intro p hp q hq e
  rcases ua2 p hp with h1 | ⟨h1,h2,_⟩
  ·exact hUb p.1 (wa _ h1) q hq e.symm
  ·rcases ub2 q hq with h3 | ⟨h3,h4,_⟩
   ·exact hUa q.1 (wb _ h3) p hp e
   ·omega
structure El where
 i:Nat
 o:Oper
 k:Nat
 k':Nat
def runAsg (E:Env) (call:CallF) (fl:Nat) (lim:Option Nat) (ops:Array Oper):List El->Tr AV->Mem->Option (Tr AV × Mem)
 | [],t,m=>some (t,m)
 | e :: r,t,m=>match opW E call fl lim ops e.o ⟨t,m,e.k⟩ with
  | some (v,m1,k1)=>if k1 = e.k' then runAsg E call fl lim ops r (putT t e.o.dst v) m1 else none
  | none=>none
theorem runAsg_cons {fl:Nat} {lim:Option Nat} {ops:Array Oper} {e:El} {r:List El} {t:Tr AV} {m:Mem} {res:Tr AV × Mem} (h:runAsg E call fl lim ops (e :: r) t m = some res):
 ∃ v m1,opW E call fl lim ops e.o ⟨t,m,e.k⟩ = some (v,m1,e.k')/\runAsg E call fl lim ops r (putT t e.o.dst v) m1 = some res:=by
 unfold runAsg at h
 split at h
 ·rename_i v m1 k1 e1
  split at h
  ·rename_i hk;subst hk;exact ⟨v,m1,e1,h⟩
  ·cases h
 ·cases h
theorem runAsg_mk {fl:Nat} {lim:Option Nat} {ops:Array Oper} {e:El} {r:List El} {t:Tr AV} {m m1:Mem} {v:AV} {res:Tr AV × Mem} (h1:opW E call fl lim ops e.o ⟨t,m,e.k⟩ = some (v,m1,e.k'))
 (h2:runAsg E call fl lim ops r (putT t e.o.dst v) m1 = some res):runAsg E call fl lim ops (e :: r) t m = some res:=by
 unfold runAsg;rw [h1];simp [h2]
theorem runAsg_tmp {fl:Nat} {lim:Option Nat} {ops:Array Oper} {tf:Tr AV} {mf:Mem} {d:Nat}:∀ (l:List El) (t:Tr AV) (m:Mem),(∀ e∈l,e.o.dst≠some d)->runAsg E call fl lim ops l t m = some (tf,mf)->tf.get d = t.get d
 | [],t,m,_,h=>by simp only [runAsg,Option.some.injEq,Prod.mk.injEq] at h;rw [h.1]
 | e :: l,t,m,hn,h=>by
  obtain ⟨v,m1,_,h2⟩:=runAsg_cons h
  rw [runAsg_tmp l _ _ (fun x hx=>hn x (by simp [hx])) h2]
  have:=hn e (by simp)
  cases ed:e.o.dst with
  | none=>rfl
  | some q=>exact Tr.get_set_ne _ _ (fun q'=>this (by rw [ed,q']))
structure DynE (ops:Array Oper) (tf:Tr AV) (L:List El) (x e:El):Prop where
 ap:apartA ops x.o e.o = true
 gx:x.o.guard = none
 ge:e.o.guard = none
 cx:dynCls x.o.op = true
 ce:dynCls e.o.op = true
 dj:djT tf x.o e.o = true
 tx:∀ y∈L,x.i<=y.i->∀ d,y.o.dst = some d->d ∉ tmpsOf x.o
 te:∀ y∈L,∀ d,y.o.dst = some d->d ∉ tmpsOf e.o
 dn:x.o.dst≠none
 dx:∀ y∈L,y.i≠x.i->∀ d,x.o.dst = some d->y.o.dst≠some d
theorem DynE.sub {ops:Array Oper} {tf:Tr AV} {L L':List El} {x e:El} (h:DynE ops tf L x e) (hs:∀ y∈L',y∈L):DynE ops tf L' x e:=
 ⟨h.ap,h.gx,h.ge,h.cx,h.ce,h.dj,fun y hy=>h.tx y (hs y hy),fun y hy=>h.te y (hs y hy),h.dn,fun y hy=>h.dx y (hs y hy)⟩
theorem evT_tmps {t tf:Tr AV} {o:Oper} (h:∀ d∈tmpsOf o,tf.get d = t.get d):∀ x∈o.op.operands,evT tf x = evT t x:=by
 intro x hx
 cases x with
 | tmp d=>simp only [evT,St.ev];rw [h d (List.mem_filterMap.2 ⟨.tmp d,by simpa using hx,rfl⟩)]
 | _=>rfl
def CallKeepR (R:List Nat) (call:CallF):Prop:=∀ fl f args m n v m' n',call fl f args m n = some (v,m',n')->∀ i∈R,m'.get i = m.get i
theorem opW_callR {R:List Nat} {fl n n':Nat} {lim:Option Nat} {ops:Array Oper} {o:Oper} {t:Tr AV} {m m':Mem} {v:AV} (ht:CallKeepR R call) (hc:cls o.op = 3) (h:opW E call fl lim ops o ⟨t,m,n⟩ = some (v,m',n')):∀ i∈R,m'.get i = m.get i:=by
 unfold opW at h
 split at h
 ·rename_i hw
  clear hw
  obtain ⟨dst,op,typ,pos,after,guard⟩:=o
  simp only at hc h
  cases op <;> try (simp [cls] at hc;done)
  rename_i c
  obtain ⟨callee,xs,ats⟩:=c
  cases callee with
  | value f=>
   simp only [opA,callA] at h
   split at h
   ·exact ht _ _ _ _ _ _ _ _ h
   ·cases h
  | invoke r mm=>simp [cls] at hc
  | builtin b=>cases b <;> simp [cls] at hc
 ·simp only [Option.some.injEq,Prod.mk.injEq] at h
  obtain ⟨_,rfl,_⟩:=h
  intro _ _;rfl
 ·cases h
theorem opW_load {fl n n':Nat} {lim:Option Nat} {ops:Array Oper} {o:Oper} {t:Tr AV} {m m':Mem} {v:AV} (hc:cls o.op = 1) (h:opW E call fl lim ops o ⟨t,m,n⟩ = some (v,m',n')):
 m' = m/\n' = n/\∀ (m2:Mem) (k:Nat),(∀ i∈ldB t o,m2.get i = m.get i)->opW E call fl lim ops o ⟨t,m2,k⟩ = some (v,m2,k):=by
 have hwt:∀ (m2:Mem) (k:Nat),wantedA ops ⟨t,m2,k⟩ o = wantedA ops ⟨t,m,n⟩ o:=fun m2 k=>wanted_congr fun _ _=>rfl
 unfold opW at h
 split at h
 ·rename_i hw
  obtain ⟨dst,op,typ,pos,after,guard⟩:=o
  simp only at hc h
  cases op with
  | load ty a=>
   simp only [opA] at h
   obtain ⟨u,hu,hh⟩:=Option.map_eq_some_iff.1 h
   simp only [Prod.mk.injEq] at hh;obtain ⟨rfl,rfl,rfl⟩:=hh
   refine ⟨rfl,rfl,fun m2 k hm=>?_⟩
   unfold opW
   rw [hwt,hw]
   have hev:∀ (m3:Mem) (k:Nat),St.ev ⟨t,m3,k⟩ a = evT t a:=fun _ _=>by cases a <;> rfl
   simp only [opA]
   rw [hev] at hu ⊢
   simp only [ldB] at hm
   have:loadA E lim ty m2 (evT t a) = some u:=by
    unfold loadA at hu ⊢
    split at hu
    ·rename_i i o he
     split at hu
     ·rename_i hl
      rw [if_pos hl,hm i (by rw [he];simp [AV.blks,SV.blks])]
      exact hu
     ·cases hu
    ·cases hu
   rw [this];rfl
  | call c=>
   obtain ⟨callee,xs,ats⟩:=c
   cases callee with
   | builtin b=>cases b <;> simp [cls] at hc
   | _=>simp [cls] at hc
  | _=>simp [cls] at hc
 ·rename_i hw
  simp only [Option.some.injEq,Prod.mk.injEq] at h
  obtain ⟨rfl,rfl,rfl⟩:=h
  refine ⟨rfl,rfl,fun m2 k _=>?_⟩
  unfold opW
  rw [hwt,hw]
 ·cases h
structure GPr (ops:Array Oper) (R:List Nat) (tf:Tr AV) (L:List El) (x e:El):Prop where
 ap:apartA ops x.o e.o = true
 cl:(cls x.o.op = 3/\cls e.o.op = 1/\(∀ i∈ldB tf e.o,i∈R)/\∀ y∈L,∀ d,y.o.dst = some d->d ∉ tmpsOf e.o) \/
  (cls x.o.op = 1/\cls e.o.op = 3/\(∀ i∈ldB tf x.o,i∈R)/\∀ y∈L,∀ d,y.o.dst = some d->d ∉ tmpsOf x.o)
theorem GPr.sub {ops:Array Oper} {R:List Nat} {tf:Tr AV} {L L':List El} {x e:El} (h:GPr ops R tf L x e) (hs:∀ y∈L',y∈L):GPr ops R tf L' x e:=
 ⟨h.ap,h.cl.imp (fun ⟨a,b,c,d⟩=>⟨a,b,c,fun y hy=>d y (hs y hy)⟩) fun ⟨a,b,c,d⟩=>⟨a,b,c,fun y hy=>d y (hs y hy)⟩⟩
theorem ldB_congr {t tf:Tr AV} {o:Oper} (h:∀ d∈tmpsOf o,tf.get d = t.get d):ldB tf o = ldB t o:=by
 unfold ldB
 split
 ·rename_i ty a ho
  have:=evT_tmps h a (by rw [ho];simp [Op.operands])
  rw [this]
 ·rfl
theorem swapG {fl:Nat} {lim:Option Nat} {ops:Array Oper} {R:List Nat} {tf:Tr AV} {L:List El} {a b:El} (hp:GPr ops R tf L a b) (hR:CallKeepR R call) {t:Tr AV} {m ma mb:Mem} {ka ka' kb kb':Nat} {va vb:AV}
 (he:∀ d,(∀ y∈L,y.o.dst≠some d)->tf.get d = t.get d)
 (ha:opW E call fl lim ops a.o ⟨t,m,ka⟩ = some (va,ma,ka')) (hb:opW E call fl lim ops b.o ⟨putT t a.o.dst va,ma,kb⟩ = some (vb,mb,kb')):
 ∃ m1,opW E call fl lim ops b.o ⟨t,m,kb⟩ = some (vb,m1,kb')/\opW E call fl lim ops a.o ⟨putT t b.o.dst vb,m1,ka⟩ = some (va,mb,ka')/\putT (putT t a.o.dst va) b.o.dst vb = putT (putT t b.o.dst vb) a.o.dst va:=by
 have hap:=hp.ap
 unfold apartA at hap
 simp only [Bool.and_eq_true] at hap
 obtain ⟨hap1,hap2⟩:=hap
 have hb1:∀ d∈looksAt ops b.o,(putT t a.o.dst va).get d = t.get d:=by
  intro d hd
  cases e:a.o.dst with
  | none=>rfl
  | some q=>
   rw [e] at hap1
   simp only [Bool.and_eq_true,Bool.not_eq_true',List.contains_eq_mem,decide_eq_false_iff_not] at hap1
   exact Tr.get_set_ne _ _ (fun e'=>hap1.1 (e' ▸ hd))
 have ha1:∀ d∈looksAt ops a.o,(putT t b.o.dst vb).get d = t.get d:=by
  intro d hd
  cases e:b.o.dst with
  | none=>rfl
  | some q=>
   rw [e] at hap2
   simp only [Bool.not_eq_true',List.contains_eq_mem,decide_eq_false_iff_not] at hap2
   exact Tr.get_set_ne _ _ (fun e'=>hap2 (e' ▸ hd))
 have hput:putT (putT t a.o.dst va) b.o.dst vb = putT (putT t b.o.dst vb) a.o.dst va:=by
  cases ea:a.o.dst with
  | none=>rfl
  | some qa=>
   cases eb:b.o.dst with
   | none=>rfl
   | some qb=>
    rw [ea] at hap1
    simp only [eb,Bool.and_eq_true] at hap1
    have hne:qa≠qb:=by
     intro e
     have:=hap1.2
     simp [e] at this
    exact Tr.set_comm _ _ _ hne
 rw [opW_congr hb1] at hb
 have hac:∀ (m1:Mem),opW E call fl lim ops a.o ⟨putT t b.o.dst vb,m1,ka⟩ = opW E call fl lim ops a.o ⟨t,m1,ka⟩:=fun m1=>opW_congr ha1
 suffices hs:∃ m1,opW E call fl lim ops b.o ⟨t,m,kb⟩ = some (vb,m1,kb')/\opW E call fl lim ops a.o ⟨t,m1,ka⟩ = some (va,mb,ka') by
  obtain ⟨m1,h1,h2⟩:=hs
  exact ⟨m1,h1,by rw [hac];exact h2,hput⟩
 rcases hp.cl with ⟨c1,c2,c3,c4⟩ | ⟨c1,c2,c3,c4⟩
 ·obtain ⟨rfl,rfl,hl⟩:=opW_load c2 hb
  have e1:=ldB_congr (t:=t) (tf:=tf) (o:=b.o) fun d hd=>he d fun y hy q=>c4 y hy d q hd
  rw [e1] at c3
  exact ⟨m,hl m _ (fun i hi=>(opW_callR hR c1 ha i (c3 i hi)).symm),ha⟩
 ·obtain ⟨rfl,rfl,hl⟩:=opW_load c1 ha
  have e1:=ldB_congr (t:=t) (tf:=tf) (o:=a.o) fun d hd=>he d fun y hy q=>c4 y hy d q hd
  rw [e1] at c3
  exact ⟨mb,hb,hl mb _ (fun i hi=>opW_callR hR c2 hb i (c3 i hi))⟩
theorem front {R:List Nat} (hR:CallKeepR R call) {callT:CallF} {lo:List Nat} {fl:Nat} {lim:Option Nat} (hln:lim.isSome = true) {ops:Array Oper} {loose:Bool} (ht:loose = true->CallTight callT/\∀ o,tgO lo o = true->∀ s,opW E call fl lim ops o s = opW E callT fl lim ops o s) (hcfT:CallFra callT) (hcf:CallFra call) {e:El} {l2:List El} {res:Tr AV × Mem}:∀ (l1:List El) (t:Tr AV) (m:Mem),
 (∀ x∈l1,(pairOkL lo ops loose x.o e.o = true\/DynE ops res.1 (l1 ++ e :: l2) x e\/GPr ops R res.1 (l1 ++ e :: l2) x e)/\x.k<=x.k'/\x.k'<=e.k/\((∃ l,lim = some l/\l<=x.k)\/(cls x.o.op<=1/\cls e.o.op<=1)))->(l1 ++ e :: l2).Pairwise (fun x y=>x.i < y.i)->(∀ q,e.k<=q->q < e.k'->m.get q = none) ->
 runAsg E call fl lim ops (l1 ++ e :: l2) t m = some res->runAsg E call fl lim ops (e :: (l1 ++ l2)) t m = some res
 | [],_,_,_,_,_,h=>h
 | x :: l1,t,m,hx,hpw,hn,h=>by
  obtain ⟨va,ma,ha,hr⟩:=runAsg_cons (r:=l1 ++ e :: l2) h
  obtain ⟨hp,h1,h2,h3⟩:=hx x (by simp)
  have hpw2:=List.pairwise_cons.1 hpw
  have:=front hR hln ht hcfT hcf l1 _ ma (fun y hy=>by
   obtain ⟨g1,g2⟩:=hx y (by simp [hy])
   exact ⟨g1.imp id fun g=>g.imp (fun g=>g.sub fun z hz=>by simp only [List.cons_append,List.mem_cons];exact .inr hz) fun g=>g.sub fun z hz=>by simp only [List.cons_append,List.mem_cons];exact .inr hz,g2⟩) hpw2.2 (fun q h4 h5=>(opW_fra hcf ha q [] (hn q h4 h5) (.inr (by omega))).1) hr
  obtain ⟨vb,mb,hb,hr2⟩:=runAsg_cons this
  rcases hp with hp | hp | hp
  rotate_left 2
  ·obtain ⟨m1,s1,s2,s3⟩:=swapG hp hR (t:=t) (fun d hd=>runAsg_tmp (x :: l1 ++ e :: l2) t m hd h) ha hb
   rw [s3] at hr2
   exact runAsg_mk s1 (runAsg_mk (r:=l1 ++ l2) s2 hr2)
  ·cases hq:(loose && tgO lo x.o && tgO lo e.o) with
   | false=>
    unfold pairOkL at hp
    rw [hq] at hp
    obtain ⟨m1,s1,s2,s3⟩:=swap hln (loose:=false) hp (fun h=>by cases h) hcf hn ha hb h1 h2 h3
    rw [s3] at hr2
    exact runAsg_mk s1 (runAsg_mk (r:=l1 ++ l2) s2 hr2)
   | true=>
    unfold pairOkL at hp
    rw [hq] at hp
    simp only [Bool.and_eq_true] at hq
    obtain ⟨ht1,ht2⟩:=ht hq.1.1
    rw [ht2 _ hq.1.2] at ha
    rw [ht2 _ hq.2] at hb
    obtain ⟨m1,s1,s2,s3⟩:=swap hln (loose:=true) hp (fun _=>ht1) hcfT hn ha hb h1 h2 h3
    rw [s3] at hr2
    rw [<- ht2 _ hq.2] at s1
    rw [<- ht2 _ hq.1.2] at s2
    exact runAsg_mk s1 (runAsg_mk (r:=l1 ++ l2) s2 hr2)
  ·obtain ⟨rt,rm⟩:=res
   have ex:∀ d∈tmpsOf x.o,rt.get d = t.get d:=fun d hd=>runAsg_tmp (x :: l1 ++ e :: l2) t m (fun y hy q=>hp.tx y hy (by rcases List.mem_cons.1 hy with h0 | h0;exact Nat.le_of_eq (h0 ▸ rfl);exact Nat.le_of_lt (hpw2.1 y h0)) d q hd) h
   have ee:∀ d∈tmpsOf e.o,rt.get d = t.get d:=fun d hd=>runAsg_tmp (x :: l1 ++ e :: l2) t m (fun y hy q=>hp.te y hy d q hd) h
   have e1:=readsV_congr (evT_tmps ex)
   have e2:=readsV_congr (evT_tmps ee)
   have hva:∀ i∈va.blks,i∈dstB rt x.o\/x.o.dst = none:=by
    intro i hi
    cases ed:x.o.dst with
    | none=>exact .inr rfl
    | some d=>
     left
     have:rt.get d = (putT t x.o.dst va).get d:=runAsg_tmp (l1 ++ e :: l2) _ _ (fun y hy=>hp.dx y (by simp only [List.cons_append,List.mem_cons];exact .inr hy) (fun q=>by have:=hpw2.1 y hy;omega) d ed) hr
     unfold dstB
     rw [ed]
     simp only
     rw [this,ed,putT,Tr.get_set_same]
     exact hi
   have hdj:=hp.dj
   unfold djT at hdj
   rw [e1.1,e1.2,e2.1,e2.2] at hdj
   simp only [Bool.and_eq_true,List.all_eq_true,Bool.not_eq_true',List.contains_eq_mem,decide_eq_false_iff_not] at hdj
   by_cases hxd:x.o.dst = none
   ·-- nothing is given: then nothing new is named
    exact (hp.dn hxd).elim
   ·have hD:DynP ops (evT t) va x.o e.o:=⟨hp.ap,hp.gx,hp.ge,hp.cx,hp.ce,fun i hi=>⟨(hdj.1 i hi).1,fun hv=>by
     rcases hva i hv with h | h
     ·exact (hdj.1 i hi).2 h
     ·exact hxd h⟩,hdj.2⟩
    obtain ⟨m1,s1,s2,s3⟩:=swapD hln hD hn ha hb h1 h2
    rw [s3] at hr2
    exact runAsg_mk s1 (runAsg_mk (r:=l1 ++ l2) s2 hr2)
def Asc:Nat->List El->Nat->Prop
 | k0,[],kf=>k0<=kf
 | k0,e :: r,kf=>k0<=e.k/\e.k<=e.k'/\Asc e.k' r kf
theorem Asc.low {kf:Nat}:∀ {l:List El} {k0 k1:Nat},k1<=k0->Asc k0 l kf->Asc k1 l kf
 | [],_,_,h,ha=>Nat.le_trans h ha
 | _ :: _,_,_,h,ha=>⟨Nat.le_trans h ha.1,ha.2⟩
theorem Asc.le {kf:Nat}:∀ {l:List El} {k0:Nat},Asc k0 l kf->k0<=kf
 | [],_,ha=>ha
 | _ :: _,_,ha=>Nat.le_trans ha.1 (Nat.le_trans ha.2.1 (Asc.le ha.2.2))
theorem Asc.mem {kf:Nat} (l:List El):∀ (k0:Nat),Asc k0 l kf->∀ x∈l,k0<=x.k/\x.k<=x.k'/\x.k'<=kf:=by
 induction l with
 | nil=>intro _ _ x hx;simp at hx
 | cons y l ih=>
  intro k0 ha x hx
  obtain ⟨h1,h2,h3⟩:=ha
  rcases List.mem_cons.1 hx with e | hx
  ·subst e;exact ⟨h1,h2,h3.le⟩
  ·obtain ⟨i1,i2,i3⟩:=ih _ h3 x hx
   exact ⟨by omega,i2,i3⟩
theorem Asc.split {kf:Nat} {e:El} {l2:List El}:∀ {l1:List El} {k0:Nat},Asc k0 (l1 ++ e :: l2) kf->(∀ x∈l1,x.k<=x.k'/\x.k'<=e.k)/\e.k<=e.k'/\(∀ x∈l2,e.k'<=x.k)/\Asc k0 (l1 ++ l2) kf
 | [],_,ha=>⟨by simp,ha.2.1,fun x hx=>(Asc.mem _ _ ha.2.2 x hx).1,Asc.low (Nat.le_trans ha.1 ha.2.1) ha.2.2⟩
 | y :: l1,_,ha=>by
  obtain ⟨h1,h2,h3,h4⟩:=Asc.split ha.2.2
  refine ⟨fun x hx=>?_,h2,h3,ha.1,ha.2.1,h4⟩
  rcases List.mem_cons.1 hx with rfl | hx
  ·exact ⟨ha.2.1,(Asc.mem _ _ ha.2.2 e (by simp)).1⟩
  ·exact h1 x hx
theorem asg_of_opsA {fl:Nat} {lim:Option Nat} {ops:Array Oper} (hck:CallKeeps call):∀ (os:List Oper) (j:Nat) (s s':St),(∀ q o,os[q]? = some o->ops[j + q]? = some o)->opsA E call fl lim ops os s = some s' ->
 ∃ asg:List El,runAsg E call fl lim ops asg s.t s.m = some (s'.t,s'.m)/\asg.map (·.i) = List.range' j os.length/\(∀ e∈asg,ops[e.i]? = some e.o/\e.o∈os)/\Asc s.n asg s'.n
 | [],j,s,s',_,h=>by
  simp only [opsA,Option.some.injEq] at h
  subst h
  exact ⟨[],rfl,rfl,by simp,Nat.le_refl _⟩
 | o :: os,j,s,s',ho,h=>by
  simp only [opsA] at h
  split at h
  ·rename_i s1 h1
   rw [stepA_eq] at h1
   obtain ⟨⟨v,m1,k1⟩,hw,hs1⟩:=Option.map_eq_some_iff.1 h1
   rw [put_eq] at hs1
   subst hs1
   obtain ⟨asg,a1,a2,a3,a4⟩:=asg_of_opsA hck os (j + 1) _ s' (fun q o' hq=>by have:=ho (q + 1) o' (by simpa using hq);rw [<- this];congr 1;omega) h
   have hk:s.n<=k1:=by
    unfold opW at hw
    split at hw
    ·exact (opA_keeps hck hw).1
    ·cases hw;exact Nat.le_refl _
    ·cases hw
   refine ⟨⟨j,o,s.n,k1⟩ :: asg,runAsg_mk (e:=⟨j,o,s.n,k1⟩) hw a1,by simp [a2,List.range'_succ],?_,Nat.le_refl _,hk,a4⟩
   intro e he
   rcases List.mem_cons.1 he with rfl | he
   ·exact ⟨by simpa using ho 0 o rfl,by simp⟩
   ·exact ⟨(a3 e he).1,by simp [(a3 e he).2]⟩
  ·cases h
end swap
open Go.RowKit
section drawn
variable {P:Program} {D:List Deferred} {B fl0:Nat} {w0:World} {E:Env}
theorem ready_iff {ops:Array Oper} {listed:Array Bool} {i:Nat}:i∈Region.ready .any ops listed↔i < ops.size/\listed.getD i true = false/\∀ o,ops[i]? = some o->∀ e∈o.after.toList,Region.binds .any e = true->listed.getD e.on false = true:=by
 unfold Region.ready
 rw [List.mem_filter]
 constructor
 ·rintro ⟨h1,h2⟩
  simp only [Bool.and_eq_true,Bool.not_eq_true'] at h2
  refine ⟨by simpa using h1,h2.1,fun o ho e he hb=>?_⟩
  have h3:=h2.2
  rw [ho] at h3
  simp only [Option.map_some,Option.getD_some,Array.all_eq_true] at h3
  obtain ⟨k,hk,rfl⟩:=List.getElem_of_mem he
  have:=h3 k (by simpa using hk)
  simp only [Array.getElem_toList] at hb ⊢
  simpa [hb] using this
 ·rintro ⟨h1,h2,h3⟩
  refine ⟨by simpa using h1,?_⟩
  simp only [h2,Bool.not_false,Bool.true_and]
  rw [Array.getElem?_eq_getElem h1]
  simp only [Option.map_some,Option.getD_some,Array.all_eq_true]
  intro k hk
  have:=h3 _ (Array.getElem?_eq_getElem h1) (ops[i].after[k]) (by simp)
  cases hb:Region.binds .any ops[i].after[k] with
  | false=>simp
  | true=>simpa using this hb
end drawn
open Go.RowKit
def dstOk (N:Nat):Code->Bool
 | .region _ ops _=>ops.toList.all fun o=>match o.dst with
  | some d=>decide (d < N)
  | none=>true
 | .seq a b=>dstOk N a && dstOk N b
 | .cond _ a b=>dstOk N a && dstOk N b
 | .block _ b=>dstOk N b
 | .loop b=>dstOk N b
 | _=>true
structure FnOk (P:Program) (f:FuncId) (fi:Fi):Prop where
 h:∃ fn,P.funcs[f]? = some fn/\fn.body = some fi.body/\fn.ntmps = fi.ntmps/\fn.results.toList = fi.results/\(fn.name == "runtime.NumGoroutine") = false/\codeOk fi.loose fi.body = true/\dstOk fi.ntmps fi.body = true
def AE.toExit:AE->Exit
 | .normal=>.normal
 | .exit id=>.exit id
 | .ret=>.ret
section code
variable {P:Program} {D:List Deferred} {B fl0:Nat} {w0:World} {E:Env}
theorem opsA_keeps {call:CallF} (hck:CallKeeps call) {fl:Nat} {lim:Option Nat} {ops:Array Oper}:∀ (os:List Oper) (s s':St),opsA E call fl lim ops os s = some s'->Keeps fl s.n s.m s'.m s'.n
 | [],s,s',h=>by simp only [opsA,Option.some.injEq] at h;subst h;exact Keeps.refl _ _ _
 | o :: os,s,s',h=>by
  simp only [opsA] at h
  split at h
  ·rename_i s1 h1
   rw [stepA_eq] at h1
   obtain ⟨⟨v,m1,k1⟩,hw,hs1⟩:=Option.map_eq_some_iff.1 h1
   rw [put_eq] at hs1
   subst hs1
   refine Keeps.trans ?_ (opsA_keeps hck os _ s' h)
   unfold opW at hw
   split at hw
   ·exact opA_keeps hck hw
   ·simp only [Option.some.injEq,Prod.mk.injEq] at hw
    obtain ⟨_,rfl,rfl⟩:=hw
    exact Keeps.refl _ _ _
   ·cases hw
  ·cases h
theorem callF_tight {call:CallF} (hck:CallKeeps call):CallTight (fun fl' f args m n=>call (max fl' n) f args m n):=by
 intro fl f args m n v m' n' h
 have:=hck _ _ _ _ _ _ _ _ h
 exact ⟨this.1,fun i hi=>this.2 i (by omega) hi⟩
theorem chkD_some {lo:List Nat} {id:Nat} {ops:Array Oper} {x:Option St} {s':St} (h:x.bind (chkD lo id ops) = some s'):
 x = some s'/\(dynId lo id = true->dynOk lo ops (lo.contains id) s'.t = true)/\∀ s2:St,s2.t = s'.t->chkD lo id ops s2 = some s2:=by
 obtain ⟨s,rfl,h2⟩:=Option.bind_eq_some_iff.1 h
 unfold chkD at h2 ⊢
 split at h2
 ·rename_i hd
  split at h2
  ·rename_i ho
   cases h2
   exact ⟨rfl,fun _=>ho,fun s2 h=>by rw [if_pos hd,h,if_pos ho]⟩
  ·cases h2
 ·rename_i hd
  cases h2
  exact ⟨rfl,fun h=>(hd h).elim,fun s2 _=>by rw [if_neg hd]⟩
def callD (call:CallF) (loose:Nat->Bool):CallF:=fun fl' f args m n=>call (if loose f then max fl' n else fl') f args m n
theorem callD_keeps {call:CallF} (hck:CallKeeps call) (loose:Nat->Bool):CallKeeps (callD call loose):=by
 intro fl f args m n v m' n' h
 unfold callD at h
 have:=hck _ _ _ _ _ _ _ _ h
 exact this.low (by split <;> omega)
theorem callD_tight {call:CallF} (hck:CallKeeps call):CallTight (callD call fun _=>true):=callF_tight hck
theorem callD_eq {call:CallF} {lo:List Nat} {id:Nat} (hl:lo.contains id = true) {fl:Nat} {lim:Option Nat} {ops:Array Oper} {o:Oper} (ho:tgO lo o = true) (s:St):
 opW E (callD call (tgt lo id)) fl lim ops o s = opW E (callD call fun _=>true) fl lim ops o s:=by
 have key:opA E (callD call (tgt lo id)) fl lim s.ev s.m s.n o.op = opA E (callD call fun _=>true) fl lim s.ev s.m s.n o.op:=by
  unfold tgO at ho
  cases hop:o.op with
  | call c=>
   obtain ⟨callee,xs,ats⟩:=c
   cases callee with
   | builtin b=>rfl
   | invoke a b=>rfl
   | value f=>
    have hc:∀ g,(∀ v,s.ev f = v->∀ caps,v = .sc (.fn g caps)->tgt lo id g = true)->True:=fun _ _=>trivial
    simp only [opA,callA]
    split
    ·rename_i g caps hg
     have:tgt lo id g = true:=by
      unfold tgt
      rw [hl]
      rw [hop] at ho
      cases f with
      | func f=>
       simp only [St.ev] at hg
       cases hg
       simpa using ho
      | _=>
       simp only [Bool.not_eq_true',List.any_eq_false,decide_eq_true_eq] at ho
       simp only [Bool.true_and,Bool.not_eq_true',List.contains_eq_mem,decide_eq_false_iff_not]
       intro hm
       have:=ho _ hm
       omega
     simp only [callD,this,if_true]
    ·rfl
  | _=>rfl
 unfold opW
 rw [key]
theorem callD_fra {call:CallF} (h:CallFra call) (loose:Nat->Bool):CallFra (callD call loose):=by
 intro fl f args m n v m' n' hc
 exact h _ f args m n v m' n' hc
def callR (lo:List Nat) (id:Nat) (ops:Array Oper) (t:Tr AV) (call:CallF):CallF:=if gId lo id then callG (rdB t ops) (callD call (tgt lo id)) else callD call (tgt lo id)
theorem callG_some {R:List Nat} {call:CallF} {fl f n:Nat} {args:List AV} {m:Mem} {r:AV × Mem × Nat} (h:callG R call fl f args m n = some r):call fl f args m n = some r/\∀ q∈R,r.2.1.get q = m.get q:=by
 unfold callG at h
 split at h
 ·rename_i r' e
  split at h
  ·rename_i hr
   cases h
   simp only [List.all_eq_true,decide_eq_true_eq] at hr
   exact ⟨e,hr⟩
  ·cases h
 ·cases h
theorem callG_mk {R:List Nat} {call:CallF} {fl f n:Nat} {args:List AV} {m:Mem} {r:AV × Mem × Nat} (h:call fl f args m n = some r) (hr:∀ q∈R,r.2.1.get q = m.get q):callG R call fl f args m n = some r:=by
 unfold callG
 rw [h]
 simp only
 rw [if_pos (by simp only [List.all_eq_true,decide_eq_true_eq];exact hr)]
theorem callR_keeps {call:CallF} (hck:CallKeeps call) (lo:List Nat) (id:Nat) (ops:Array Oper) (t:Tr AV):CallKeeps (callR lo id ops t call):=by
 unfold callR
 split
 ·exact fun fl f args m n v m' n' h=>callD_keeps hck _ _ _ _ _ _ _ _ _ (callG_some h).1
 ·exact callD_keeps hck _
theorem callR_fra {call:CallF} (hc:CallFra call) (lo:List Nat) (id:Nat) (ops:Array Oper) (t:Tr AV):CallFra (callR lo id ops t call):=by
 unfold callR
 split
 ·intro fl f args m n v m' n' h q x hq hn
  obtain ⟨h1,h2⟩:=callG_some h
  obtain ⟨a1,a2⟩:=callD_fra hc _ fl f args m n v m' n' h1 q x hq hn
  refine ⟨a1,callG_mk a2 fun i hi=>?_⟩
  by_cases e:i = q
  ·subst e;rw [Tr.get_set_same,Tr.get_set_same]
  ·rw [Tr.get_set_ne _ _ e,Tr.get_set_ne _ _ e];exact h2 i hi
 ·exact callD_fra hc _
theorem resA_rel (hE:EnvOk P E) {N:Nat} {ρ:Rho} {s:St} {a:Act} {w:World} (hrel:StRel D B fl0 w0 N ρ s a w):∀ (rs:List ResultVar) (vs:List AV),resultsA E s rs = some vs ->
 ∃ vals:List Value,(rs.mapM fun (r:ResultVar)=>(match r with | .tmp t=>Pure.pure (a.tmps.getD t undef) | .cell q t=>do loadVar t (<- asAddr (a.tmps.getD q undef)):Sem Value)).run P w = .ok vals w/\All2 (AV.rel ρ) vs vals
 | [],vs,h=>by simp only [resultsA,Option.some.injEq] at h;subst h;exact ⟨[],by simp,trivial⟩
 | r :: rs,vs,h=>by
  simp only [resultsA] at h
  split at h
  ·rename_i v vs' h1 h2
   cases h
   obtain ⟨vals,hr,hv⟩:=resA_rel hE hrel rs vs' h2
   have:∃ val,(match r with | .tmp t=>Pure.pure (a.tmps.getD t undef) | .cell q t=>do loadVar t (<- asAddr (a.tmps.getD q undef)):Sem Value).run P w = .ok val w/\v.rel ρ val:=by
    cases r with
    | tmp t=>
     simp only [resA,Option.some.injEq] at h1
     subst h1
     exact ⟨_,by simp,hrel.tmps t⟩
    | cell q t=>
     simp only [resA] at h1
     obtain ⟨val,h3,h4⟩:=run_loadA (P:=P) hE.ty hrel.mem h1 (hrel.tmps q)
     refine ⟨val,?_,h4⟩
     show (do loadVar t (<- asAddr (a.tmps.getD q undef)):Sem Value).run P w = .ok val w
     generalize a.tmps.getD q undef = X at h3 ⊢
     have hX:∃ ad,X = .pointer (some ad):=by
      cases X with
      | pointer p=>cases p with
       | none=>simp [Instr.loadAt,Instr.sureAddr,stuck,Sem.run] at h3
       | some ad=>exact ⟨ad,rfl⟩
      | _=>simp [Instr.loadAt,Instr.sureAddr,stuck,Sem.run] at h3
     obtain ⟨ad,rfl⟩:=hX
     simp only [Instr.loadAt,Instr.sureAddr,Sem.run_bind,Sem.run_pure,Result.andThen_ok] at h3
     simp only [asAddr,Sem.run_bind,Sem.run_pure,Result.andThen_ok]
     exact h3
   obtain ⟨val,h3,h4⟩:=this
   refine ⟨val :: vals,?_,h4,hv⟩
   rw [List.mapM_cons,Sem.run_bind]
   simp only [h3,Result.andThen_ok,Sem.run_bind,hr,Sem.run_pure]
  ·cases h
theorem results_rel (hE:EnvOk P E) {N:Nat} {ρ:Rho} {s:St} {a:Act} {w:World} (hrel:StRel D B fl0 w0 N ρ s a w) {fn:Func} {vs:List AV} {v:AV} (h:resultsA E s fn.results.toList = some vs) (hv:tupA vs = some v):
 ∃ val,(results fn a.tmps).run P w = .ok val w/\v.rel ρ val:=by
 obtain ⟨vals,hr,ha⟩:=resA_rel hE hrel _ _ h
 have hrun:∀ g:ResultVar->Sem Value,(∀ r,g r = (match r with | .tmp t=>Pure.pure (a.tmps.getD t undef) | .cell q t=>do loadVar t (<- asAddr (a.tmps.getD q undef)):Sem Value))->(fn.results.mapM g).run P w = .ok vals.toArray w:=by
  intro g hg
  obtain rfl:g = _:=funext hg
  have key:∀ l:List ResultVar,(l.toArray.mapM fun (r:ResultVar)=>(match r with | .tmp t=>Pure.pure (a.tmps.getD t undef) | .cell q t=>do loadVar t (<- asAddr (a.tmps.getD q undef)):Sem Value)) = List.toArray <$> l.mapM fun (r:ResultVar)=>(match r with | .tmp t=>Pure.pure (a.tmps.getD t undef) | .cell q t=>do loadVar t (<- asAddr (a.tmps.getD q undef)):Sem Value):=fun l=>List.mapM_toArray ..
  have:=key fn.results.toList
  rw [Array.toArray_toList] at this
  rw [this,map_eq_pure_bind,Sem.run_bind,hr]
  rfl
 unfold results
 rw [Sem.run_bind,hrun _ (fun r=>by cases r <;> rfl)]
 simp only [Result.andThen_ok,Sem.run_pure]
 match vs,vals,ha,hv with
 | [x],[y],ha,hv=>simp only [tupA,Option.some.injEq] at hv;subst hv;exact ⟨y,rfl,ha.1⟩
 | [],[],ha,hv=>simp [tupA] at hv;subst hv;exact ⟨.tuple #[],rfl,#[],rfl,trivial⟩
 | x :: x2 :: r,y :: y2 :: r',ha,hv=>
  have hlen:=ha.length
  simp only [tupA] at hv
  split at hv
  ·cases hv
  ·rename_i hnt
   cases hv
   refine ⟨.tuple (y :: y2 :: r').toArray,by simp,_,rfl,?_⟩
   refine All2.of_get hlen fun k p q hp hq=>?_
   obtain ⟨q',hq',hr'⟩:=ha.get k p hp
   rw [show ((y :: y2 :: r').toArray.toList) = y :: y2 :: r' from rfl] at hq
   rw [hq] at hq';cases hq'
   have hpn:isTup p = false:=by
    cases e:isTup p with
    | false=>rfl
    | true=>
     exfalso;apply hnt
     rw [List.any_eq_true]
     exact ⟨p,List.mem_of_getElem? hp,e⟩
   cases p with
   | tup l=>simp [isTup] at hpn
   | _=>exact hr'
 | [],_ :: _,ha,_=>exact ha.elim
 | _ :: _,[],ha,_=>exact ha.elim
 | [_],_ :: _ :: _,ha,_=>exact ha.2.elim
 | _ :: _ :: _,[_],ha,_=>exact ha.2.elim
theorem resultsA_fra {s:St} {q:Nat} {x:List SV} (hq:s.m.get q = none):∀ (rs:List ResultVar) (vs:List AV),resultsA E s rs = some vs->resultsA E ⟨s.t,s.m.set q x,s.n⟩ rs = some vs
 | [],vs,h=>h
 | r :: rs,vs,h=>by
  simp only [resultsA] at h ⊢
  split at h
  ·rename_i v vs' h1 h2
   rw [resultsA_fra hq rs vs' h2]
   have:resA E ⟨s.t,s.m.set q x,s.n⟩ r = some v:=by
    cases r with
    | tmp t=>exact h1
    | cell a t=>
     simp only [resA] at h1 ⊢
     unfold loadA at h1 ⊢
     split at h1
     ·split at h1
      ·rename_i hl
       rw [if_pos hl]
       split at h1
       ·rename_i cs hcs
        rw [Tr.get_set_ne _ _ (ne_of_get hq hcs),hcs]
        exact h1
       ·cases h1
      ·cases h1
     ·cases h1
   rw [this]
   exact h
  ·cases h
theorem opsA_fra {call:CallF} (hck:CallKeeps call) (hcf:CallFra call) {fl:Nat} {lim:Option Nat} {ops:Array Oper}:∀ (os:List Oper) (s s':St),opsA E call fl lim ops os s = some s' ->
 ∀ q x,s.m.get q = none->(q < s.n\/s'.n<=q)->s'.m.get q = none/\opsA E call fl lim ops os ⟨s.t,s.m.set q x,s.n⟩ = some ⟨s'.t,s'.m.set q x,s'.n⟩
 | [],s,s',h,q,x,hq,_=>by simp only [opsA,Option.some.injEq] at h;subst h;exact ⟨hq,rfl⟩
 | o :: os,s,s',h,q,x,hq,hn=>by
  simp only [opsA] at h ⊢
  split at h
  ·rename_i s1 h1
   have k1:Keeps fl s.n s.m s1.m s1.n:=opsA_keeps (E:=E) (call:=call) (lim:=lim) (ops:=ops) hck [o] s s1 (by simp only [opsA,h1])
   have k2:=opsA_keeps hck os s1 s' h
   have:=k1.1
   have:=k2.1
   rw [stepA_eq] at h1
   obtain ⟨⟨v,m1,n1⟩,hw,hs1⟩:=Option.map_eq_some_iff.1 h1
   rw [put_eq] at hs1
   subst hs1
   obtain ⟨r1,r2⟩:=opW_fra hcf (t:=s.t) hw q x hq (by simp only at *;omega)
   simp only at r2
   have r3:stepA E call fl lim ops o ⟨s.t,s.m.set q x,s.n⟩ = some ⟨putT s.t o.dst v,m1.set q x,n1⟩:=by
    rw [stepA_eq,r2];simp [put_eq]
   rw [r3]
   exact opsA_fra hck hcf os _ s' h q x r1 (by simp only at *;omega)
  ·cases h
theorem run_keeps0:∀ (k:Nat),(∀ lo fl c s e s',run E k lo fl c s = some (e,s')->Keeps fl s.n s.m s'.m s'.n)/\CallKeeps (callF E k)
 | 0=>by
  refine ⟨fun _ _ _ _ _ _ h=>by simp [run] at h,fun fl f args m n v m' n' h=>?_⟩
  rcases ite_of h with ⟨_,h⟩ | ⟨_,h⟩
  ·exact E.ext.keeps _ _ _ _ _ _ _ _ h
  unfold callB at h
  split at h
  ·cases h
  ·simp [run] at h
 | k + 1=>by
  obtain ⟨ih,ihc⟩:=run_keeps0 k
  have hr:∀ lo fl c s e s',run E (k + 1) lo fl c s = some (e,s')->Keeps fl s.n s.m s'.m s'.n:=by
   intro lo fl c s e s' h
   cases c with
   | region id ops draw=>
    have hreg:∀ s,run E (k + 1) lo fl (.region id ops draw) s = (if draw then (opsA E (callR lo id ops s.t (callF E k)) fl (some s.n) ops ops.toList s).bind (chkD lo id ops) else opsA E (callF E k) fl none ops ops.toList s).map fun s'=>(.normal,s'):=by
     intro s
     cases draw <;> rfl
    rw [hreg] at h
    obtain ⟨s1,h1,h2⟩:=Option.map_eq_some_iff.1 h
    cases h2
    cases draw with
    | false=>simp only [Bool.false_eq_true,if_false] at h1;exact opsA_keeps ihc _ _ _ h1
    | true=>simp only [if_true] at h1;exact opsA_keeps (callR_keeps ihc _ _ _ _) _ _ _ (chkD_some h1).1
   | seq a b=>
    rw [run] at h
    split at h
    ·rename_i s1 h1;exact (ih _ _ _ _ _ _ h1).trans (ih _ _ _ _ _ _ h)
    ·exact ih _ _ _ _ _ _ h
   | cond q a b=>
    rw [run] at h
    split at h
    ·exact ih _ _ _ _ _ _ h
    ·cases h
   | block id b=>
    rw [run] at h
    split at h
    ·rename_i id' s1 h1
     split at h <;> cases h <;> exact ih _ _ _ _ _ _ h1
    ·exact ih _ _ _ _ _ _ h
   | loop b=>
    rw [run] at h
    split at h
    ·rename_i s1 h1;exact (ih _ _ _ _ _ _ h1).trans (ih _ _ _ _ _ _ h)
    ·exact ih _ _ _ _ _ _ h
   | skip=>cases h;exact Keeps.refl _ _ _
   | label l=>cases h;exact Keeps.refl _ _ _
   | exit l=>cases h;exact Keeps.refl _ _ _
   | ret=>cases h;exact Keeps.refl _ _ _
   | _=>simp [run] at h
  refine ⟨hr,fun fl f args m n v m' n' h=>?_⟩
  rcases ite_of h with ⟨_,h⟩ | ⟨_,h⟩
  ·exact E.ext.keeps _ _ _ _ _ _ _ _ h
  unfold callB at h
  split at h
  ·cases h
  ·split at h
   ·rename_i e s h1
    split at h
    ·split at h
     ·obtain ⟨q,_,hq⟩:=Option.map_eq_some_iff.1 h
      cases hq
      exact hr _ _ _ _ _ _ h1
     ·cases h
    ·cases h
   ·cases h
theorem run_fra0:∀ (k:Nat),(∀ lo fl c s e s',run E k lo fl c s = some (e,s')->s.n<=s'.n/\∀ q x,s.m.get q = none->(q < s.n\/s'.n<=q)->s'.m.get q = none/\run E k lo fl c ⟨s.t,s.m.set q x,s.n⟩ = some (e,⟨s'.t,s'.m.set q x,s'.n⟩))/\CallFra (callF E k)
 | 0=>by
  refine ⟨fun _ _ _ _ _ _ h=>by simp [run] at h,fun fl f args m n v m' n' h=>?_⟩
  ·rcases ite_of h with ⟨hx,h⟩ | ⟨hx,h⟩
   ·intro q x hq hn
    obtain ⟨a1,a2⟩:=E.ext.fra _ _ _ _ _ _ _ _ h q x hq hn
    exact ⟨a1,(if_pos hx).trans a2⟩
   unfold callB at h
   split at h
   ·cases h
   ·simp [run] at h
 | k + 1=>by
  obtain ⟨ih,ihf⟩:=run_fra0 k
  have ihc:CallKeeps (callF E k):=(run_keeps0 k).2
  have hr:∀ lo fl c s e s',run E (k + 1) lo fl c s = some (e,s')->s.n<=s'.n/\∀ q x,s.m.get q = none->(q < s.n\/s'.n<=q)->s'.m.get q = none/\run E (k + 1) lo fl c ⟨s.t,s.m.set q x,s.n⟩ = some (e,⟨s'.t,s'.m.set q x,s'.n⟩):=by
   intro lo fl c s e s' h
   cases c with
   | region id ops draw=>
    have hreg:∀ s,run E (k + 1) lo fl (.region id ops draw) s = (if draw then (opsA E (callR lo id ops s.t (callF E k)) fl (some s.n) ops ops.toList s).bind (chkD lo id ops) else opsA E (callF E k) fl none ops ops.toList s).map fun s'=>(.normal,s'):=by
     intro s
     cases draw <;> rfl
    rw [hreg] at h
    obtain ⟨s1,h1,h2⟩:=Option.map_eq_some_iff.1 h
    cases h2
    refine ⟨?_,fun q x hq hn=>?_⟩
    ·cases draw with
     | false=>simp only [Bool.false_eq_true,if_false] at h1;exact (opsA_keeps ihc _ _ _ h1).1
     | true=>simp only [if_true] at h1;exact (opsA_keeps (callR_keeps ihc _ _ _ _) _ _ _ (chkD_some h1).1).1
    ·rw [hreg]
     cases draw with
     | false=>
      simp only [Bool.false_eq_true,if_false] at h1 ⊢
      obtain ⟨r1,r2⟩:=opsA_fra ihc ihf _ _ _ h1 q x hq hn
      exact ⟨r1,by rw [r2];rfl⟩
     | true=>
      simp only [if_true] at h1 ⊢
      obtain ⟨r1,r2⟩:=opsA_fra (callR_keeps ihc _ _ _ _) (callR_fra ihf _ _ _ _) _ _ _ (chkD_some h1).1 q x hq hn
      exact ⟨r1,by rw [r2,Option.bind_some,(chkD_some h1).2.2 ⟨s'.t,s'.m.set q x,s'.n⟩ rfl];rfl⟩
   | seq a b=>
    rw [run] at h
    split at h
    ·rename_i s1 h1
     obtain ⟨a1,a2⟩:=ih _ _ _ _ _ _ h1
     obtain ⟨b1,b2⟩:=ih _ _ _ _ _ _ h
     refine ⟨Nat.le_trans a1 b1,fun q x hq hn=>?_⟩
     obtain ⟨c1,c2⟩:=a2 q x hq (by omega)
     obtain ⟨d1,d2⟩:=b2 q x c1 (by omega)
     exact ⟨d1,by rw [run,c2];exact d2⟩
    ·rename_i hno
     obtain ⟨a1,a2⟩:=ih _ _ _ _ _ _ h
     refine ⟨a1,fun q x hq hn=>?_⟩
     obtain ⟨c1,c2⟩:=a2 q x hq hn
     refine ⟨c1,?_⟩
     rw [run,c2]
     cases e with
     | normal=>exact (hno _ h).elim
     | _=>rfl
   | cond q a b=>
    have hev:∀ (m:Mem),St.ev ⟨s.t,m,s.n⟩ q = s.ev q:=fun _=>by cases q <;> rfl
    rw [run] at h
    split at h
    ·rename_i bb hb
     obtain ⟨a1,a2⟩:=ih _ _ _ _ _ _ h
     refine ⟨a1,fun q' x hq hn=>?_⟩
     obtain ⟨c1,c2⟩:=a2 q' x hq hn
     refine ⟨c1,?_⟩
     rw [run,hev,hb]
     exact c2
    ·cases h
   | block id b=>
    rw [run] at h
    split at h
    ·rename_i id' s1 h1
     obtain ⟨a1,a2⟩:=ih _ _ _ _ _ _ h1
     have hs:s1 = s':=by split at h <;> (cases h;rfl)
     subst hs
     refine ⟨a1,fun q x hq hn=>?_⟩
     obtain ⟨c1,c2⟩:=a2 q x hq hn
     refine ⟨c1,?_⟩
     rw [run,c2]
     simp only
     split at h
     ·rename_i hi
      cases h
      rw [if_pos hi]
     ·rename_i hi
      cases h
      rw [if_neg hi]
    ·rename_i hno
     obtain ⟨a1,a2⟩:=ih _ _ _ _ _ _ h
     refine ⟨a1,fun q x hq hn=>?_⟩
     obtain ⟨c1,c2⟩:=a2 q x hq hn
     refine ⟨c1,?_⟩
     rw [run,c2]
     cases e with
     | exit id'=>exact (hno _ _ h).elim
     | _=>rfl
   | loop b=>
    rw [run] at h
    split at h
    ·rename_i s1 h1
     obtain ⟨a1,a2⟩:=ih _ _ _ _ _ _ h1
     obtain ⟨b1,b2⟩:=ih _ _ _ _ _ _ h
     refine ⟨Nat.le_trans a1 b1,fun q x hq hn=>?_⟩
     obtain ⟨c1,c2⟩:=a2 q x hq (by omega)
     obtain ⟨d1,d2⟩:=b2 q x c1 (by omega)
     exact ⟨d1,by rw [run,c2];exact d2⟩
    ·rename_i hno
     obtain ⟨a1,a2⟩:=ih _ _ _ _ _ _ h
     refine ⟨a1,fun q x hq hn=>?_⟩
     obtain ⟨c1,c2⟩:=a2 q x hq hn
     refine ⟨c1,?_⟩
     rw [run,c2]
     cases e with
     | normal=>exact (hno _ h).elim
     | _=>rfl
   | skip=>cases h;exact ⟨Nat.le_refl _,fun q x hq _=>⟨hq,rfl⟩⟩
   | label l=>cases h;exact ⟨Nat.le_refl _,fun q x hq _=>⟨hq,rfl⟩⟩
   | exit l=>cases h;exact ⟨Nat.le_refl _,fun q x hq _=>⟨hq,rfl⟩⟩
   | ret=>cases h;exact ⟨Nat.le_refl _,fun q x hq _=>⟨hq,rfl⟩⟩
   | _=>simp [run] at h
  refine ⟨hr,?_⟩
  ·intro fl f args m n v m' n' h q x hq hn
   rcases ite_of h with ⟨hx,h⟩ | ⟨hx,h⟩
   ·obtain ⟨a1,a2⟩:=E.ext.fra _ _ _ _ _ _ _ _ h q x hq hn
    exact ⟨a1,(if_pos hx).trans a2⟩
   refine (fun (y:_/\callB E (k + 1) fl f args (m.set q x) n = _)=>⟨y.1,(if_neg (by rw [hx];decide)).trans y.2⟩) ?_
   unfold callB at h ⊢
   split at h
   ·cases h
   ·rename_i fi hfi
    split at h
    ·rename_i e s h1
     obtain ⟨a1,a2⟩:=hr _ _ _ _ _ _ h1
     simp only at a2
     split at h
     ·rename_i he
      split at h
      ·rename_i vs hvs
       obtain ⟨u,hu,hq'⟩:=Option.map_eq_some_iff.1 h
       cases hq'
       obtain ⟨c1,c2⟩:=a2 q x hq hn
       refine ⟨c1,?_⟩
       simp only [c2,if_pos he,resultsA_fra c1 _ _ hvs,hu,Option.map_some]
      ·cases h
     ·cases h
    ·cases h
theorem callF_fra (k:Nat):CallFra (callF E k):=(run_fra0 k).2
theorem fresh_after {ρ ρ1:Rho} {n n1 n2:Nat} (hf:∀ q,n<=q->q < n2->ρ q = none) (hd:∀ q,ρ1 q≠none->ρ q≠none\/(n<=q/\q < n1)) (h:n<=n1):∀ q,n1<=q->q < n2->ρ1 q = none:=by
 intro q h1 h2
 by_cases hn:ρ1 q = none
 ·exact hn
 ·exfalso
  rcases hd q hn with h3 | h3
  ·exact h3 (hf q (by omega) h2)
  ·omega
theorem dom_after {ρ ρ1 ρ2:Rho} {n n1 n2:Nat} (hd:∀ q,ρ1 q≠none->ρ q≠none\/(n<=q/\q < n1)) (hd2:∀ q,ρ2 q≠none->ρ1 q≠none\/(n1<=q/\q < n2)) (h1:n<=n1) (h2:n1<=n2):
 ∀ q,ρ2 q≠none->ρ q≠none\/(n<=q/\q < n2):=by
 intro q hq
 rcases hd2 q hq with h | h
 ·rcases hd q h with h | h
  ·exact .inl h
  ·exact .inr ⟨h.1,by omega⟩
 ·exact .inr ⟨by omega,h.2⟩
def Post (D:List Deferred) (B fl0:Nat) (w0:World) (N:Nat) (ρ:Rho) (n:Nat) (e:AE) (s':St):Exit->Act->World->Prop:=
 fun ex a' w'=>ex = e.toExit/\∃ ρ',Ext ρ ρ'/\(∀ q,ρ' q≠none->ρ q≠none\/(n<=q/\q < s'.n))/\StRel D B fl0 w0 N ρ' s' a' w'
end code
open Go.RowKit
def TrAll {α:Type} (Q:Nat->α->Prop):Tr α->(Nat->Nat)->Prop
 | .nil,_=>True
 | .node v l r,g=>(∀ x,v = some x->Q (g 0) x)/\TrAll Q l (fun k=>g (2 * k + 1))/\TrAll Q r (fun k=>g (2 * k + 2))
theorem TrAll.get {α:Type} {Q:Nat->α->Prop}:∀ {t:Tr α} {g:Nat->Nat},TrAll Q t g->∀ k x,t.get k = some x->Q (g k) x
 | .nil,_,_,_,_,h=>by simp [Tr.get] at h
 | .node v l r,g,ha,k,x,h=>by
  simp only [Tr.get] at h
  by_cases h0:k = 0
  ·rw [if_pos h0] at h;subst h0;exact ha.1 x h
  ·rw [if_neg h0] at h
   by_cases h1:k % 2 = 1
   ·rw [if_pos h1] at h
    have:=TrAll.get ha.2.1 (k / 2) x h
    rwa [show 2 * (k / 2) + 1 = k from by omega] at this
   ·rw [if_neg h1] at h
    have:=TrAll.get ha.2.2 (k / 2 - 1) x h
    rwa [show 2 * (k / 2 - 1) + 2 = k from by omega] at this
theorem TrAll.none {α:Type} {Q:Nat->α->Prop} {l r:Tr α} {g:Nat->Nat} (h1:TrAll Q l (fun k=>g (2 * k + 1))) (h2:TrAll Q r (fun k=>g (2 * k + 2))):TrAll Q (.node Option.none l r) g:=⟨fun _ h=>(by cases h),h1,h2⟩
theorem TrAll.some {α:Type} {Q:Nat->α->Prop} {x:α} {l r:Tr α} {g:Nat->Nat} (h0:Q (g 0) x) (h1:TrAll Q l (fun k=>g (2 * k + 1))) (h2:TrAll Q r (fun k=>g (2 * k + 2))):TrAll Q (.node (Option.some x) l r) g:=
 ⟨fun _ h=>(by cases h;exact h0),h1,h2⟩
theorem TrAll.nil {α:Type} {Q:Nat->α->Prop} {g:Nat->Nat}:TrAll Q (.nil:Tr α) g:=trivial
section post
open Go.ChangeShapes Go.WideShapes Go.ChangeAt
variable {H:Type} {enc:TypeId × Value->H} {P:Program} {W W':World}
theorem below_trodAll (hl:laidOutB P = true) (hb:Below W.heap.size W W'):∀ (ts:List TypeId) (vs:List Value) (ds:List (DataW H)) (ps:List MemPlace),(ts.all fun t=>P.readableRec t && decide (t < P.types.size)) = true ->
 (∀ x∈ps,x.block < W.heap.size)->DataW.TrodAll enc P W 0 (fun _=>true) true ts vs ds ps->DataW.TrodAll enc P W' 0 (fun b=>decide (b < W.heap.size)) true ts vs ds ps
 | [],[],[],_,_,_,h=>h
 | t :: ts,v :: vs,d :: ds,ps,hr,hlt,h=>by
  obtain ⟨p,q,h1,h2,rfl⟩:=h
  simp only [List.all_cons,Bool.and_eq_true,decide_eq_true_eq] at hr
  exact ⟨p,q,Below.trod hl hr.1.1 hr.1.2 h1 hb (fun x hx=>hlt x (by simp [hx])),below_trodAll hl hb ts vs ds q hr.2 (fun x hx=>hlt x (by simp [hx])) h2,rfl⟩
 | [],_ :: _,_,_,_,_,h=>by cases ‹List (DataW H)› <;> exact h.elim
 | [],[],_ :: _,_,_,_,h=>h.elim
 | _ :: _,[],_,_,_,_,h=>by cases ‹List (DataW H)› <;> exact h.elim
 | _ :: _,_ :: _,[],_,_,_,h=>h.elim
theorem law_post {f:Func} {s:ChangeSpec} {args:Array Value} {ds gs:List (DataW H)} {before:List MemPlace} (hW:DataW.Whole enc P f.params.toList s.vars false W args.toList ds gs before) (hb:Below W.heap.size W W')
 (hvars:s.vars = []) (hres:(s.fn H (ds ++ gs)).results = [.lit (.bool true)]) (harg:(s.fn H (ds ++ gs)).args = ds) (hvs:(s.fn H (ds ++ gs)).vars = gs)
 (hl:laidOutB P = true) (hr:(f.params.toList.all fun t=>P.readableRec t && decide (t < P.types.size)) = true) {tb:TypeId} (hrt:f.resultTypes.toList = [tb]) (htb:P.underlying tb = some .bool):
 s.post enc P f false true false false W args (.bool true) W':=by
 have hlt:=hW.lt
 obtain ⟨p,q,hA,hV,rfl,hfz,hnd⟩:=hW
 have hp:∀ x∈p,x.block < W.heap.size:=fun x hx=>hlt x (by simp [hx])
 have hrs:f.resultTypes.size = 1:=by rw [<- Array.length_toList,hrt];rfl
 refine ⟨ds,gs,p ++ q,[],p,q,⟨p,q,hA,hV,rfl,hfz,hnd⟩,?_,?_,?_,hb.frame _,fun h=>by cases h⟩
 ·rw [hres,hrt,hrs]
  exact trodAll_cons_mk (shut_bool htb _) trodAll_mk0
 ·rw [harg]
  exact below_trodAll hl hb _ _ _ _ hr hp hA
 ·rw [hvs]
  rw [hvars] at hV ⊢
  cases gs with
  | nil=>exact hV
  | cons g gs=>exact hV.elim
end post
def CutHead (P:Program):Prop:=∃ rest,behindMainWord (wordsSigns P.initOrder.toList) = "cut".toList :: rest
theorem cutHead_of {P:Program} {L:List Char} (h:P.initOrder.toList = L) (h2:(behindMainWord (wordsSigns L)).head? = some "cut".toList):CutHead P:=by
 unfold CutHead
 rw [h]
 cases e:behindMainWord (wordsSigns L) with
 | nil=>rw [e] at h2;cases h2
 | cons c r=>rw [e] at h2;simp only [List.head?_cons,Option.some.injEq] at h2;rw [h2];exact ⟨r,rfl⟩
theorem strip_cut (rest:List (List Char)):stripLifts liftWords ("cut".toList :: rest) = ([],"cut".toList :: rest):=by
 have:∀ os:List String,(∀ o∈os,("cut".toList == o.toList) = false)->stripLifts os ("cut".toList :: rest) = ([],"cut".toList :: rest):=by
  intro os
  induction os with
  | nil=>intro _;rfl
  | cons o os ih=>
   intro h
   simp only [stripLifts,h o (by simp),Bool.false_eq_true,if_false]
   exact ih fun o' ho=>h o' (by simp [ho])
 refine this liftWords ?_
 have h:liftWords.all (fun o=>!("cut".toList == o.toList)) = true:=by kernel_rfl
 intro o ho
 simpa using List.all_eq_true.1 h o ho
theorem mayEnter_of {P:Program} (h:CutHead P) (hl:P.laysLater = false) (hr:P.bearsReflect = false) (hd:P.doorFits [] = true):P.mayEnter = true:=by
 obtain ⟨rest,e⟩:=h
 unfold Program.mayEnter
 rw [e]
 simp only [strip_cut,hl,hr,hd]
 simp
theorem liftsFinal_of {P:Program} (h:CutHead P):P.liftsFinal = false:=by
 obtain ⟨rest,e⟩:=h
 have h1:P.headLifts = []:=by
  unfold Program.headLifts
  rw [e,strip_cut]
  simp
 unfold Program.liftsFinal
 rw [e,h1]
 have h2:(("cut".toList :: rest).head? == some "carried".toList) = false:=by
  simp only [List.head?_cons]
  kernel_rfl
 simp only [h2]
 simp
theorem make_of {P:Program} (h:CutHead P):P.make = some .cut:=by
 obtain ⟨rest,e⟩:=h
 unfold Program.make
 rw [e]
 have h1:("cut".toList == "gc".toList) = false:=by kernel_rfl
 have h2:("cut".toList == "spec".toList) = false:=by kernel_rfl
 simp only [h1,h2]
 simp
section mono
variable {E:Env}
def CallLe (c c':CallF):Prop:=∀ fl f args m n r,c fl f args m n = some r->c' fl f args m n = some r
theorem opA_le {c c':CallF} (h:CallLe c c') {fl n:Nat} {lim:Option Nat} {ev:Operand->AV} {m:Mem} {op:Op} {r:AV × Mem × Nat} (ho:opA E c fl lim ev m n op = some r):opA E c' fl lim ev m n op = some r:=by
 cases op with
 | call cl=>
  obtain ⟨callee,xs,ats⟩:=cl
  cases callee with
  | value f=>
   simp only [opA,callA] at ho ⊢
   split at ho
   ·exact h _ _ _ _ _ _ ho
   ·cases ho
  | invoke a b=>exact ho
  | builtin b=>exact ho
 | _=>exact ho
theorem stepA_le {c c':CallF} (h:CallLe c c') {fl:Nat} {lim:Option Nat} {ops:Array Oper} {o:Oper} {s s':St} (ho:stepA E c fl lim ops o s = some s'):stepA E c' fl lim ops o s = some s':=by
 unfold stepA at ho ⊢
 split at ho
 ·rename_i hw
  split at ho
  ·rename_i hop
   rw [opA_le h hop]
   exact ho
  ·cases ho
 ·exact ho
 ·cases ho
theorem opsA_le {c c':CallF} (h:CallLe c c') {fl:Nat} {lim:Option Nat} {ops:Array Oper}:∀ (os:List Oper) (s s':St),opsA E c fl lim ops os s = some s'->opsA E c' fl lim ops os s = some s'
 | [],_,_,ho=>ho
 | o :: os,s,s',ho=>by
  simp only [opsA] at ho ⊢
  split at ho
  ·rename_i s1 h1
   rw [stepA_le h h1]
   exact opsA_le h os s1 s' ho
  ·cases ho
theorem callD_le {c c':CallF} (h:CallLe c c') (loose:Nat->Bool):CallLe (callD c loose) (callD c' loose):=fun _ _ _ _ _ _ hc=>h _ _ _ _ _ _ hc
theorem callR_le {c c':CallF} (h:CallLe c c') (lo:List Nat) (id:Nat) (ops:Array Oper) (t:Tr AV):CallLe (callR lo id ops t c) (callR lo id ops t c'):=by
 unfold callR
 split
 ·intro fl f args m n r hc
  obtain ⟨h1,h2⟩:=callG_some hc
  exact callG_mk (callD_le h _ _ _ _ _ _ _ h1) h2
 ·exact callD_le h _
theorem callR_plain {lo:List Nat} {id:Nat} (hg:gId lo id = false) (ops:Array Oper) (t:Tr AV) (c:CallF):callR lo id ops t c = callD c (tgt lo id):=by unfold callR;rw [hg];rfl
theorem run_region (k:Nat) (lo:List Nat) (fl id:Nat) (ops:Array Oper) (draw:Bool) (s:St):run E (k + 1) lo fl (.region id ops draw) s =
 (if draw then (opsA E (callR lo id ops s.t (callF E k)) fl (some s.n) ops ops.toList s).bind (chkD lo id ops) else opsA E (callF E k) fl none ops ops.toList s).map fun s'=>(.normal,s'):=by
 cases draw <;> rfl
theorem run_le:∀ (k:Nat),(∀ lo fl c s r,run E k lo fl c s = some r->run E (k + 1) lo fl c s = some r)/\CallLe (callF E k) (callF E (k + 1))
 | 0=>by
  have h0:∀ lo fl c s r,run E 0 lo fl c s = some r->run E 1 lo fl c s = some r:=fun _ _ _ _ _ h=>by simp [run] at h
  refine ⟨h0,fun fl f args m n r h=>?_⟩
  rcases ite_of h with ⟨hx,h⟩ | ⟨hx,h⟩
  ·exact (if_pos hx).trans h
  unfold callB at h
  split at h
  ·cases h
  ·simp [run] at h
 | k + 1=>by
  obtain ⟨ih,ihc⟩:=run_le k
  have hr:∀ lo fl c s r,run E (k + 1) lo fl c s = some r->run E (k + 1 + 1) lo fl c s = some r:=by
   intro lo fl c s r h
   cases c with
   | region id ops draw=>
    rw [run_region] at h ⊢
    obtain ⟨s',h1,h2⟩:=Option.map_eq_some_iff.1 h
    rw [<- h2]
    cases draw with
    | false=>simp only [Bool.false_eq_true,if_false] at h1 ⊢;rw [opsA_le ihc _ _ _ h1];rfl
    | true=>simp only [if_true] at h1 ⊢;rw [opsA_le (callR_le ihc _ _ _ _) _ _ _ (chkD_some h1).1,Option.bind_some,(chkD_some h1).2.2 s' rfl];rfl
   | seq a b=>
    rw [run] at h ⊢
    split at h
    ·rename_i s1 h1;rw [ih _ _ _ _ _ h1];exact ih _ _ _ _ _ h
    ·rename_i hno
     rw [ih _ _ _ _ _ h]
     split
     ·rename_i s1 e1;rw [h] at hno;cases e1;exact (hno s1 rfl).elim
     ·rfl
   | cond q a b=>
    rw [run] at h ⊢
    split at h
    ·exact ih _ _ _ _ _ h
    ·cases h
   | block id b=>
    rw [run] at h ⊢
    split at h
    ·rename_i id' s1 h1;rw [ih _ _ _ _ _ h1];exact h
    ·rename_i hno
     rw [ih _ _ _ _ _ h]
     split
     ·rename_i id' s1 e1;rw [h] at hno;cases e1;exact (hno id' s1 rfl).elim
     ·rfl
   | loop b=>
    rw [run] at h ⊢
    split at h
    ·rename_i s1 h1;rw [ih _ _ _ _ _ h1];exact ih _ _ _ _ _ h
    ·rename_i hno
     rw [ih _ _ _ _ _ h]
     split
     ·rename_i s1 e1;rw [h] at hno;cases e1;exact (hno s1 rfl).elim
     ·rfl
   | skip=>exact h
   | label l=>exact h
   | exit l=>exact h
   | ret=>exact h
   | _=>simp [run] at h
  refine ⟨hr,fun fl f args m n r h=>?_⟩
  rcases ite_of h with ⟨hx,h⟩ | ⟨hx,h⟩
  ·exact (if_pos hx).trans h
  refine (if_neg (by rw [hx];decide)).trans (?_:callB E (k + 1 + 1) fl f args m n = _)
  unfold callB at h ⊢
  split at h
  ·cases h
  ·split at h
   ·rename_i e s h1
    rw [hr _ _ _ _ _ h1]
    exact h
   ·cases h
theorem run_more {k lo fl c s r} (j:Nat) (h:run E k lo fl c s = some r):run E (k + j) lo fl c s = some r:=by
 induction j with
 | zero=>exact h
 | succ j ih=>exact (run_le (k + j)).1 _ _ _ _ _ ih
theorem callLe_more (k j:Nat):CallLe (callF E k) (callF E (k + j)):=by
 induction j with
 | zero=>exact fun _ _ _ _ _ _ h=>h
 | succ j ih=>exact fun _ _ _ _ _ _ h=>(run_le (k + j)).2 _ _ _ _ _ _ (ih _ _ _ _ _ _ h)
def Ret (E:Env) (fl f:Nat) (args:List AV) (m:Mem) (n:Nat) (R:AV->Mem->Nat->Prop):Prop:=∃ k v m' n',callF E k fl f args m n = some (v,m',n')/\R v m' n'
def Runs (E:Env) (lo:List Nat) (fl:Nat) (c:Code) (s:St) (Q:AE->St->Prop):Prop:=∃ k e s',run E k lo fl c s = some (e,s')/\Q e s'
abbrev nt:Nat->Bool:=fun _=>false
def Ops (E:Env) (loose:Nat->Bool) (fl:Nat) (lim:Option Nat) (ops:Array Oper) (os:List Oper) (s:St) (Q:St->Prop):Prop:=∃ k s',opsA E (callD (callF E k) loose) fl lim ops os s = some s'/\Q s'
theorem Ret.mono {fl f n:Nat} {args:List AV} {m:Mem} {R R':AV->Mem->Nat->Prop} (h:Ret E fl f args m n R) (hr:∀ v m' n',R v m' n'->R' v m' n'):Ret E fl f args m n R':=
 let ⟨k,v,m',n',h1,h2⟩:=h;⟨k,v,m',n',h1,hr _ _ _ h2⟩
theorem Runs.mono {lo fl c s} {Q Q':AE->St->Prop} (h:Runs E lo fl c s Q) (hq:∀ e s',Q e s'->Q' e s'):Runs E lo fl c s Q':=
 let ⟨k,e,s',h1,h2⟩:=h;⟨k,e,s',h1,hq _ _ h2⟩
theorem Ops.nil {loose fl lim ops s} {Q:St->Prop} (h:Q s):Ops E loose fl lim ops [] s Q:=⟨0,s,rfl,h⟩
theorem callD_false (c:CallF):callD c nt = c:=rfl
theorem Ops.step {loose fl lim ops o os s s1} {Q:St->Prop} (h1:stepA E (fun _ _ _ _ _=>none) fl lim ops o s = some s1) (h:Ops E loose fl lim ops os s1 Q):Ops E loose fl lim ops (o :: os) s Q:=by
 obtain ⟨k,s',h2,h3⟩:=h
 refine ⟨k,s',?_,h3⟩
 have:stepA E (callD (callF E k) loose) fl lim ops o s = some s1:=stepA_le (fun _ _ _ _ _ _ h=>by cases h) h1
 simp only [opsA,this]
 exact h2
theorem Ops.call {loose:Nat->Bool} {fl:Nat} {lim ops o os s} {Q:St->Prop} {f:Operand} {xs:Array Operand} {ats:Array TypeId} {g:Nat} {caps:List (Nat × Nat)} (hop:o.op = .call ⟨.value f,xs,ats⟩) (hw:wantedA ops s o = some true)
 (hf:s.ev f = .sc (.fn g caps)) (h:Ret E (if loose g then max fl s.n else fl) g (xs.toList.map s.ev ++ caps.map fun p=>.sc (.ptr p.1 p.2)) s.m s.n (fun v m' n'=>Ops E loose fl lim ops os (s.put o.dst v m' n') Q)):
 Ops E loose fl lim ops (o :: os) s Q:=by
 obtain ⟨k1,v,m',n',h1,k2,s',h2,h3⟩:=h
 refine ⟨k1 + k2,s',?_,h3⟩
 have hstep:stepA E (callD (callF E (k1 + k2)) loose) fl lim ops o s = some (s.put o.dst v m' n'):=by
  unfold stepA
  rw [hw]
  simp only [hop,opA,callA,hf,callD,callLe_more k1 k2 _ _ _ _ _ _ h1]
 simp only [opsA,hstep]
 rw [Nat.add_comm]
 exact opsA_le (callD_le (callLe_more k2 k1) _) _ _ _ h2
theorem Runs.region {lo:List Nat} {fl id:Nat} {ops:Array Oper} {s:St} {Q:AE->St->Prop} (h:Ops E nt fl none ops ops.toList s (Q .normal)):Runs E lo fl (.region id ops false) s Q:=by
 obtain ⟨k,s',h1,h2⟩:=h
 refine ⟨k + 1,.normal,s',?_,h2⟩
 rw [run_region]
 simp only [Bool.false_eq_true,if_false]
 rw [callD_false] at h1
 rw [h1];rfl
theorem Runs.draw {lo:List Nat} {fl id:Nat} {ops:Array Oper} {s:St} {Q:AE->St->Prop} (hd:dynId lo id = false) (h:Ops E (tgt lo id) fl (some s.n) ops ops.toList s (Q .normal)) (hg:gId lo id = false:=by rfl):Runs E lo fl (.region id ops true) s Q:=by
 obtain ⟨k,s',h1,h2⟩:=h
 refine ⟨k + 1,.normal,s',?_,h2⟩
 rw [run_region]
 simp only [if_true]
 rw [callR_plain hg,h1,Option.bind_some,chkD,hd];rfl
theorem Runs.drawD {lo:List Nat} {fl id:Nat} {ops:Array Oper} {s:St} {Q:AE->St->Prop} (h:Ops E (tgt lo id) fl (some s.n) ops ops.toList s (fun s'=>dynOk lo ops (lo.contains id) s'.t = true/\Q .normal s')) (hg:gId lo id = false:=by rfl):Runs E lo fl (.region id ops true) s Q:=by
 obtain ⟨k,s',h1,h3,h2⟩:=h
 refine ⟨k + 1,.normal,s',?_,h2⟩
 rw [run_region]
 simp only [if_true]
 rw [callR_plain hg,h1,Option.bind_some,chkD,if_pos h3]
 split <;> rfl
theorem Runs.skip {lo fl s} {Q:AE->St->Prop} (h:Q .normal s):Runs E lo fl .skip s Q:=⟨1,.normal,s,rfl,h⟩
theorem Runs.exit {lo fl s id} {Q:AE->St->Prop} (h:Q (.exit id) s):Runs E lo fl (.exit id) s Q:=⟨1,.exit id,s,rfl,h⟩
theorem Runs.ret {lo fl s} {Q:AE->St->Prop} (h:Q .ret s):Runs E lo fl .ret s Q:=⟨1,.ret,s,rfl,h⟩
def AE.then (N:St->Prop) (Q:AE->St->Prop):AE->St->Prop
 | .normal,s=>N s
 | e,s=>Q e s
theorem Runs.seq {lo fl a b s} {Q:AE->St->Prop} (h:Runs E lo fl a s (AE.then (fun s'=>Runs E lo fl b s' Q) Q)):Runs E lo fl (.seq a b) s Q:=by
 obtain ⟨k1,e,s1,h1,h2⟩:=h
 cases e with
 | normal=>
  obtain ⟨k2,e2,s2,h3,h4⟩:=h2
  refine ⟨k1 + k2 + 1,e2,s2,?_,h4⟩
  rw [run]
  simp only [run_more k2 h1]
  rw [Nat.add_comm]
  exact run_more k1 h3
 | exit id=>exact ⟨k1 + 1,_,s1,by rw [run];simp only [h1],h2⟩
 | ret=>exact ⟨k1 + 1,_,s1,by rw [run];simp only [h1],h2⟩
theorem Runs.cond {lo fl c a b s} {t:Bool} {Q:AE->St->Prop} (hc:s.ev c = .sc (.bool t)) (h:Runs E lo fl (if t then a else b) s Q):Runs E lo fl (.cond c a b) s Q:=by
 obtain ⟨k,e,s',h1,h2⟩:=h
 exact ⟨k + 1,e,s',by rw [run];simp only [hc];exact h1,h2⟩
def AE.inBlock (id:Nat) (Q:AE->St->Prop):AE->St->Prop
 | .exit id',s=>if id' = id then Q .normal s else Q (.exit id') s
 | e,s=>Q e s
theorem Runs.block {lo fl id b s} {Q:AE->St->Prop} (h:Runs E lo fl b s (AE.inBlock id Q)):Runs E lo fl (.block id b) s Q:=by
 obtain ⟨k,e,s',h1,h2⟩:=h
 cases e with
 | normal=>exact ⟨k + 1,.normal,s',by rw [run];simp only [h1],h2⟩
 | ret=>exact ⟨k + 1,.ret,s',by rw [run];simp only [h1],h2⟩
 | exit id'=>
  simp only [AE.inBlock] at h2
  by_cases e:id' = id
  ·rw [if_pos e] at h2
   exact ⟨k + 1,.normal,s',by rw [run];simp only [h1,e,if_true],h2⟩
  ·rw [if_neg e] at h2
   exact ⟨k + 1,.exit id',s',by rw [run];simp only [h1,e,if_false],h2⟩
theorem Runs.loop_step {lo fl b s} {Q:AE->St->Prop} (h:Runs E lo fl b s (AE.then (fun s'=>Runs E lo fl (.loop b) s' Q) Q)):Runs E lo fl (.loop b) s Q:=by
 obtain ⟨k1,e,s1,h1,h2⟩:=h
 cases e with
 | normal=>
  obtain ⟨k2,e2,s2,h3,h4⟩:=h2
  refine ⟨k1 + k2 + 1,e2,s2,?_,h4⟩
  rw [run]
  simp only [run_more k2 h1]
  rw [Nat.add_comm]
  exact run_more k1 h3
 | exit id=>exact ⟨k1 + 1,_,s1,by rw [run];simp only [h1],h2⟩
 | ret=>exact ⟨k1 + 1,_,s1,by rw [run];simp only [h1],h2⟩
theorem Runs.loop {lo fl b} {Q:AE->St->Prop} {ι:Type} (I:ι->St->Prop) (μ:ι->Nat) (round:∀ i s,I i s->Runs E lo fl b s (AE.then (fun s'=>∃ j,I j s'/\μ j < μ i) Q)):∀ (i:ι) (s:St),I i s->Runs E lo fl (.loop b) s Q:=by
 have key:∀ (n:Nat) (i:ι) (s:St),μ i = n->I i s->Runs E lo fl (.loop b) s Q:=by
  intro n
  induction n using Nat.strongRecOn with
  | _ n ih=>
   intro i s hn hi
   refine Runs.loop_step ((round i s hi).mono ?_)
   intro e s' h
   cases e with
   | normal=>obtain ⟨j,hj,hlt⟩:=h;exact ih (μ j) (by omega) j s' rfl hj
   | exit id=>exact h
   | ret=>exact h
 exact fun i s hi=>key (μ i) i s rfl hi
theorem Ret.of {fl f n:Nat} {args:List AV} {m:Mem} {R:AV->Mem->Nat->Prop} {fi:Fi} (hf:E.fn f = some fi) (hx:E.ext.is f = false)
 (h:Runs E fi.loose fl fi.body ⟨Tr.ofList 0 args .nil,m,n⟩ fun e s=>(e = .normal\/e = .ret)/\∃ vs v,resultsA E s fi.results = some vs/\tupA vs = some v/\R v s.m s.n):Ret E fl f args m n R:=by
 obtain ⟨k,e,s,h1,he,vs,v,h2,h3,h4⟩:=h
 refine ⟨k,v,s.m,s.n,?_,h4⟩
 refine (if_neg (by rw [hx];decide)).trans (?_:callB E k fl f args m n = _)
 unfold callB
 rw [hf]
 simp only [h1,if_pos he,h2,h3]
 rfl
end mono
section walk
variable {E:Env}
def WOps (E:Env) (loose:Nat->Bool) (fl:Nat) (lim:Option Nat) (ops:Array Oper) (os:List Oper) (s:St) (Q:St->Prop):Prop:=Ops E loose fl lim ops os s Q
def OnO (o:Out) (K:AV->Mem->Nat->Prop):Prop:=∃ v m n,o = some (v,m,n)/\K v m n
variable {loose:Nat->Bool} {fl:Nat} {lim:Option Nat} {ops:Array Oper} {os:List Oper} {t:Tr AV} {m:Mem} {n:Nat} {Q:St->Prop}
theorem W_nil (h:Q ⟨t,m,n⟩):WOps E loose fl lim ops [] ⟨t,m,n⟩ Q:=Ops.nil h
theorem W_op {dst:Option Tmp} {op:Op} {ty:TypeId} {pos:String} {af:Array Edge}
 (h:OnO (opA E (fun _ _ _ _ _=>none) fl lim (St.ev ⟨t,m,n⟩) m n op) (fun v m' n'=>WOps E loose fl lim ops os ⟨putT t dst v,m',n'⟩ Q)):
 WOps E loose fl lim ops (⟨dst,op,ty,pos,af,none⟩ :: os) ⟨t,m,n⟩ Q:=by
 obtain ⟨v,m',n',h1,h2⟩:=h
 refine Ops.step (s1:=⟨putT t dst v,m',n'⟩) ?_ h2
 rw [stepA_eq]
 simp [opW,wantedA,h1,put_eq]
theorem W_op2 {dst:Option Tmp} {op:Op} {ty:TypeId} {pos:String} {af:Array Edge} {v:AV} {m':Mem} {n':Nat}
 (h1:opA E (fun _ _ _ _ _=>none) fl lim (St.ev ⟨t,m,n⟩) m n op = some (v,m',n')) (h2:WOps E loose fl lim ops os ⟨putT t dst v,m',n'⟩ Q):
 WOps E loose fl lim ops (⟨dst,op,ty,pos,af,none⟩ :: os) ⟨t,m,n⟩ Q:=W_op ⟨v,m',n',h1,h2⟩
theorem W_guard_no {dst:Option Tmp} {op:Op} {ty:TypeId} {pos:String} {af:Array Edge} {g:Nat} {want:Bool} {d:Nat} (hd:(ops[g]?).bind (·.dst) = some d) (hb:t.get d = some (.sc (.bool (!want))))
 (h:WOps E loose fl lim ops os ⟨putT t dst (.tup []),m,n⟩ Q):
 WOps E loose fl lim ops (⟨dst,op,ty,pos,af,some (g,want)⟩ :: os) ⟨t,m,n⟩ Q:=by
 refine Ops.step (s1:=⟨putT t dst (.tup []),m,n⟩) ?_ h
 rw [stepA_eq]
 simp [opW,wantedA,hd,hb,put_eq]
theorem W_skip {dst:Option Tmp} {op:Op} {ty:TypeId} {pos:String} {af:Array Edge} {g:Nat} {want:Bool} {d:Nat} (hd:(ops[g]?).bind (·.dst) = some d) (hb:t.get d = some (.tup []))
 (h:WOps E loose fl lim ops os ⟨putT t dst (.tup []),m,n⟩ Q):
 WOps E loose fl lim ops (⟨dst,op,ty,pos,af,some (g,want)⟩ :: os) ⟨t,m,n⟩ Q:=by
 refine Ops.step (s1:=⟨putT t dst (.tup []),m,n⟩) ?_ h
 rw [stepA_eq]
 simp [opW,wantedA,hd,hb,put_eq]
theorem W_call {dst:Option Tmp} {ty:TypeId} {pos:String} {af:Array Edge} {f:Operand} {xs:Array Operand} {ats:Array TypeId} {g:Nat} {caps:List (Nat × Nat)}
 (hf:St.ev ⟨t,m,n⟩ f = .sc (.fn g caps)) (h:Ret E (if loose g then max fl n else fl) g (xs.toList.map (St.ev ⟨t,m,n⟩) ++ caps.map fun p=>.sc (.ptr p.1 p.2)) m n (fun v m' n'=>WOps E loose fl lim ops os ⟨putT t dst v,m',n'⟩ Q)):
 WOps E loose fl lim ops (⟨dst,.call ⟨.value f,xs,ats⟩,ty,pos,af,none⟩ :: os) ⟨t,m,n⟩ Q:=by
 refine Ops.call rfl rfl hf (h.mono fun v m' n' h'=>?_)
 rw [put_eq]
 exact h'
end walk
section keeps
variable {E:Env}
theorem Ret.keeps {fl f n:Nat} {args:List AV} {m:Mem} {R:AV->Mem->Nat->Prop} (h:Ret E fl f args m n R):Ret E fl f args m n (fun v m' n'=>R v m' n'/\Keeps fl n m m' n'):=
 let ⟨k,v,m',n',h1,h2⟩:=h;⟨k,v,m',n',h1,h2,(run_keeps0 k).2 _ _ _ _ _ _ _ _ h1⟩
def CallLow (call:CallF):Prop:=∀ fl fl' f args m n r,fl'<=fl->call fl f args m n = some r->call fl' f args m n = some r
theorem storeA_low {fl fl' t:Nat} {m m':Mem} {x v:AV} (hle:fl'<=fl) (h:storeA E fl t m x v = some m'):storeA E fl' t m x v = some m':=by
 unfold storeA at h ⊢
 split at h
 ·split at h
  ·rename_i hc
   rw [if_pos ⟨by omega,hc.2⟩]
   exact h
  ·cases h
 ·cases h
theorem appendTo_low {fl fl':Nat} {e:Ty} {s:AV} {old new:List SV} {k j:Nat} {m:Mem} {n:Nat} {r:AV × Mem × Nat} (hle:fl'<=fl) (h:appendTo fl e s old new k j m n = some r):appendTo fl' e s old new k j m n = some r:=by
 unfold appendTo at h ⊢
 split at h
 ·cases h
 ·rename_i h0
  rw [if_neg h0]
  split at h
  ·split at h
   ·cases h
   ·rename_i h1
    try simp only
    rw [if_neg (by omega)]
    exact h
  ·exact h
  ·cases h
theorem builtinA_low {fl fl':Nat} {b:Builtin} {ts:Array TypeId} {args:List AV} {m:Mem} {n:Nat} {r:AV × Mem × Nat} (hle:fl'<=fl) (h:builtinA E fl b ts args m n = some r):builtinA E fl' b ts args m n = some r:=by
 unfold builtinA at h ⊢
 split at h
 ·exact h
 ·split at h
  ·rename_i ht
   simp only [if_pos ht]
   unfold appendA at h ⊢
   split at h
   ·cases h
   ·split at h
    ·cases h
    ·rename_i hk
     rw [if_neg hk]
     split at h
     ·cases h
     ·split at h
      ·cases h
      ·rename_i h2
       try simp only
       rw [if_neg h2]
       split at h
       ·exact appendTo_low hle h
       ·cases h
  ·rename_i ht
   simp only [if_neg ht]
   split at h
   ·try simp only
    unfold appendZA at h ⊢
    split at h
    ·split at h
     ·cases h
     ·rename_i hk
      try simp only
      rw [if_neg hk]
      split at h
      ·cases h
      ·split at h
       ·cases h
       ·rename_i h2
        try simp only
        rw [if_neg h2]
        split at h
        ·exact appendTo_low hle h
        ·cases h
    ·cases h
   ·cases h
 ·split at h
  ·rename_i ht
   simp only [if_pos ht]
   unfold copyA at h ⊢
   split at h
   ·cases h
   ·split at h
    ·cases h
    ·rename_i hk
     try simp only
     rw [if_neg hk]
     split at h
     ·cases h
     ·split at h
      ·simp only at h ⊢
       split at h
       ·split at h
        ·cases h
        ·rename_i h3
         try simp only
         rw [if_neg (by omega)]
         exact h
       ·exact h
      ·cases h
  ·cases h
 ·unfold clearA at h ⊢
  split at h
  ·cases h
  ·split at h
   ·cases h
   ·rename_i hk
    try simp only
    rw [if_neg hk]
    split at h
    ·cases h
    ·split at h
     ·cases h
     ·rename_i h2
      try simp only
      rw [if_neg h2]
      split at h
      ·split at h
       ·cases h
       ·rename_i h3
        try simp only
        rw [if_neg (by omega)]
        exact h
      ·exact h
      ·exact h
      ·cases h
 ·exact h
 ·exact h
 ·exact h
 ·cases h
theorem updateA_low {fl fl' t:Nat} {m m':Mem} {x k v:AV} (hle:fl'<=fl) (h:updateA E fl t m x k v = some m'):updateA E fl' t m x k v = some m':=by
 unfold updateA at h ⊢
 split at h
 ·rename_i y b s e1
  split at h
  ·rename_i kc hd l hk hb
   split at h
   ·rename_i h2
    rw [if_pos ⟨by omega,h2.2⟩]
    exact h
   ·cases h
  ·cases h
 ·cases h
theorem opA_low {call:CallF} (hcall:CallLow call) {fl fl' n:Nat} {lim:Option Nat} {ev:Operand->AV} {m:Mem} {op:Op} {r:AV × Mem × Nat} (hle:fl'<=fl) (h:opA E call fl lim ev m n op = some r):opA E call fl' lim ev m n op = some r:=by
 cases op with
 | store t a x=>
  simp only [opA] at h ⊢
  obtain ⟨m',h1,h2⟩:=Option.map_eq_some_iff.1 h
  rw [storeA_low hle h1]
  exact congrArg some h2
 | call c=>
  simp only [opA,callA] at h ⊢
  split at h
  ·exact builtinA_low hle h
  ·split at h
   ·exact hcall _ _ _ _ _ _ _ hle h
   ·cases h
  ·cases h
 | mapUpdate t x k v=>
  simp only [opA] at h ⊢
  obtain ⟨m',h1,h2⟩:=Option.map_eq_some_iff.1 h
  rw [updateA_low hle h1]
  exact congrArg some h2
 | insert t x k v=>
  simp only [opA] at h ⊢
  obtain ⟨m',h1,h2⟩:=Option.map_eq_some_iff.1 h
  rw [updateA_low hle h1]
  exact congrArg some h2
 | _=>exact h
theorem opsA_low {call:CallF} (hcall:CallLow call) {fl fl':Nat} {lim:Option Nat} {ops:Array Oper} (hle:fl'<=fl):∀ (os:List Oper) (s s':St),opsA E call fl lim ops os s = some s'->opsA E call fl' lim ops os s = some s'
 | [],_,_,h=>h
 | o :: os,s,s',h=>by
  simp only [opsA] at h ⊢
  split at h
  ·rename_i s1 h1
   have:stepA E call fl' lim ops o s = some s1:=by
    unfold stepA at h1 ⊢
    split at h1
    ·split at h1
     ·rename_i h2;rw [opA_low hcall hle h2];exact h1
     ·cases h1
    ·exact h1
    ·cases h1
   rw [this]
   exact opsA_low hcall hle os s1 s' h
  ·cases h
theorem callD_low {call:CallF} (h:CallLow call) (loose:Nat->Bool):CallLow (callD call loose):=by
 intro fl fl' f args m n r hle hc
 unfold callD at hc ⊢
 cases hl:loose f with
 | true=>rw [hl] at hc;simp only [if_true] at hc ⊢;exact h _ _ _ _ _ _ _ (by omega) hc
 | false=>rw [hl] at hc;simp only [Bool.false_eq_true,if_false] at hc ⊢;exact h _ _ _ _ _ _ _ hle hc
theorem callR_low {call:CallF} (h:CallLow call) (lo:List Nat) (id:Nat) (ops:Array Oper) (t:Tr AV):CallLow (callR lo id ops t call):=by
 unfold callR
 split
 ·intro fl fl' f args m n r hle hc
  obtain ⟨h1,h2⟩:=callG_some hc
  exact callG_mk (callD_low h _ _ _ _ _ _ _ _ hle h1) h2
 ·exact callD_low h _
theorem run_low:∀ (k:Nat),(∀ lo fl fl' c s r,fl'<=fl->run E k lo fl c s = some r->run E k lo fl' c s = some r)/\CallLow (callF E k)
 | 0=>by
  refine ⟨fun _ _ _ _ _ _ _ h=>by simp [run] at h,fun fl fl' f args m n r _ h=>?_⟩
  rcases ite_of h with ⟨hx,h⟩ | ⟨hx,h⟩
  ·exact (if_pos hx).trans (E.ext.low _ _ _ _ _ _ _ ‹_› h)
  unfold callB at h
  split at h
  ·cases h
  ·simp [run] at h
 | k + 1=>by
  obtain ⟨ih,ihc⟩:=run_low k
  have hr:∀ lo fl fl' c s r,fl'<=fl->run E (k + 1) lo fl c s = some r->run E (k + 1) lo fl' c s = some r:=by
   intro lo fl fl' c s r hle h
   cases c with
   | region id ops draw=>
    rw [run_region] at h ⊢
    obtain ⟨s',h1,h2⟩:=Option.map_eq_some_iff.1 h
    rw [<- h2]
    cases draw with
    | false=>simp only [Bool.false_eq_true,if_false] at h1 ⊢;rw [opsA_low ihc hle _ _ _ h1];rfl
    | true=>simp only [if_true] at h1 ⊢;rw [opsA_low (callR_low ihc _ _ _ _) hle _ _ _ (chkD_some h1).1,Option.bind_some,(chkD_some h1).2.2 _ rfl];rfl
   | seq a b=>
    rw [run] at h ⊢
    split at h
    ·rename_i s1 h1;rw [ih _ _ _ _ _ _ hle h1];exact ih _ _ _ _ _ _ hle h
    ·rename_i hno
     rw [ih _ _ _ _ _ _ hle h]
     split
     ·rename_i s1 e1;rw [h] at hno;cases e1;exact (hno s1 rfl).elim
     ·rfl
   | cond q a b=>
    rw [run] at h ⊢
    split at h
    ·exact ih _ _ _ _ _ _ hle h
    ·cases h
   | block id b=>
    rw [run] at h ⊢
    split at h
    ·rename_i id' s1 h1;rw [ih _ _ _ _ _ _ hle h1];exact h
    ·rename_i hno
     rw [ih _ _ _ _ _ _ hle h]
     split
     ·rename_i id' s1 e1;rw [h] at hno;cases e1;exact (hno id' s1 rfl).elim
     ·rfl
   | loop b=>
    rw [run] at h ⊢
    split at h
    ·rename_i s1 h1;rw [ih _ _ _ _ _ _ hle h1];exact ih _ _ _ _ _ _ hle h
    ·rename_i hno
     rw [ih _ _ _ _ _ _ hle h]
     split
     ·rename_i s1 e1;rw [h] at hno;cases e1;exact (hno s1 rfl).elim
     ·rfl
   | skip=>exact h
   | label l=>exact h
   | exit l=>exact h
   | ret=>exact h
   | _=>simp [run] at h
  refine ⟨hr,fun fl fl' f args m n r hle h=>?_⟩
  rcases ite_of h with ⟨hx,h⟩ | ⟨hx,h⟩
  ·exact (if_pos hx).trans (E.ext.low _ _ _ _ _ _ _ hle h)
  refine (if_neg (by rw [hx];decide)).trans (?_:callB E (k + 1) fl' f args m n = _)
  unfold callB at h ⊢
  split at h
  ·cases h
  ·split at h
   ·rename_i e s h1
    try simp only
    rw [hr _ _ _ _ _ _ hle h1]
    exact h
   ·cases h
theorem Ret.use {fl f n:Nat} {args:List AV} {m:Mem} {R R':AV->Mem->Nat->Prop} (hfl:fl<=n) (h:Ret E n f args m n R) (hr:∀ v m' n',R v m' n'->Keeps n n m m' n'->R' v m' n'):Ret E fl f args m n R':=
 let ⟨k,v,m',n',h1,h2,h3⟩:=h.keeps
 ⟨k,v,m',n',(run_low k).2 _ _ _ _ _ _ _ hfl h1,hr _ _ _ h2 h3⟩
end keeps
abbrev LE:=List (Nat × AV)
def lk:LE->Nat->Option AV
 | [],_=>none
 | (k,v) :: r,d=>bif Nat.beq k d then some v else lk r d
theorem beq_ne {a b:Nat} (h:a≠b):Nat.beq a b = false:=by
 cases hb:Nat.beq a b with
 | false=>rfl
 | true=>exact (h (Nat.eq_of_beq_eq_true hb)).elim
def Sees (t:Tr AV) (l:LE):Prop:=∀ d v,lk l d = some v->t.get d = some v
theorem Sees.nil (t:Tr AV):Sees t []:=fun _ _ h=>by cases h
theorem Sees.set {t:Tr AV} {l:LE} (h:Sees t l) (d:Nat) (v:AV):Sees (t.set d v) ((d,v) :: l):=by
 intro k w hk
 rw [Tr.get_set]
 simp only [lk] at hk
 by_cases e:k = d
 ·subst e;simp at hk;rw [if_pos rfl,hk]
 ·rw [if_neg e]
  have:Nat.beq d k = false:=beq_ne fun h=>e h.symm
  rw [this] at hk
  exact h _ _ hk
def Cov (l l':LE):Prop:=∀ d v,lk l' d = some v->lk l d = some v
theorem Cov.refl (l:LE):Cov l l:=fun _ _ h=>h
theorem Cov.nil (l:LE):Cov l []:=fun _ _ h=>by cases h
theorem Cov.cons {l l':LE} {d:Nat} {v:AV} (h:lk l d = some v) (k:Cov l l'):Cov l ((d,v) :: l'):=by
 intro j w hj
 simp only [lk] at hj
 by_cases e:d = j
 ·subst e;simp at hj;rw [h,hj]
 ·have:Nat.beq d j = false:=beq_ne e
  rw [this] at hj
  exact k _ _ hj
theorem Cov.any {l l':LE} {d:Nat} {a b:AV} (h:lk l d = some a) (e:a = b) (c:Cov l l'):Cov l ((d,b) :: l'):=Cov.cons (e ▸ h) c
theorem Kc {l l':LE} {d:Nat} {v:AV} (k:Cov l l') (h:lk l d=some v:=by rfl):Cov l ((d,v)::l'):=Cov.cons h k
theorem Sees.cov {t:Tr AV} {l l':LE} (h:Sees t l) (c:Cov l l'):Sees t l':=fun d v hv=>h d v (c d v hv)
def evK (l:LE):Operand->Option AV
 | .tmp d=>lk l d
 | .const (.int k i)=>some (.sc (.int k i))
 | .const (.bool b)=>some (.sc (.bool b))
 | .const (.string s)=>some (.sc (.str s.data.toList))
 | .const (.slice none 0 0)=>some (.sc .nils)
 | .const (.pointer none)=>some (.sc .nilp)
 | .const .nilFunc=>some (.sc .nilf)
 | .func f=>some (.sc (.fn f []))
 | _=>none
theorem evK_ev {t:Tr AV} {l:LE} (h:Sees t l) {m:Mem} {n:Nat} {x:Operand} {v:AV} (hx:evK l x = some v):St.ev ⟨t,m,n⟩ x = v:=by
 cases x with
 | tmp d=>simp only [evK] at hx;simp only [St.ev];rw [h _ _ hx];rfl
 | func f=>cases hx;rfl
 | global g=>cases hx
 | const c=>
  unfold evK at hx
  split at hx <;> first | (cases hx;done) | skip
  all_goals (rename_i heq;cases heq)
  all_goals (cases hx;rfl)
def evL (l:LE) (x:Operand):AV:=(evK l x).getD .un
def allK (l:LE) (op:Op):Bool:=op.operands.toList.all fun x=>(evK l x).isSome
theorem evL_ev {t:Tr AV} {l:LE} (h:Sees t l) {m:Mem} {n:Nat} {op:Op} (hin:allK l op = true):∀ x∈op.operands,St.ev ⟨t,m,n⟩ x = evL l x:=by
 intro x hx
 have:=(List.all_eq_true.1 hin) x (by simpa using hx)
 obtain ⟨v,hv⟩:=Option.isSome_iff_exists.1 this
 rw [evK_ev h hv]
 unfold evL
 rw [hv];rfl
section rules
variable {E:Env} {lo:List Nat} {fl:Nat} {loose:Nat->Bool} {lim:Option Nat} {ops:Array Oper} {os:List Oper}
structure WC (E:Env) (lo:List Nat) (fl:Nat) (c:Code) (l:LE) (m:Mem) (n:Nat) (Q:AE->LE->Mem->Nat->Prop):Prop where
 ok:∀ t,Sees t l->Runs E lo fl c ⟨t,m,n⟩ fun e s=>∃ l',Sees s.t l'/\Q e l' s.m s.n
structure WO (E:Env) (loose:Nat->Bool) (fl:Nat) (lim:Option Nat) (ops:Array Oper) (os:List Oper) (l:LE) (m:Mem) (n:Nat) (K:LE->Mem->Nat->Prop):Prop where
 ok:∀ t,Sees t l->WOps E loose fl lim ops os ⟨t,m,n⟩ fun s=>∃ l',Sees s.t l'/\K l' s.m s.n
variable {l:LE} {m:Mem} {n:Nat} {Q:AE->LE->Mem->Nat->Prop} {K:LE->Mem->Nat->Prop}
variable {dst:Option Tmp} {d:Nat} {op:Op} {ty:TypeId} {pos:String} {af:Array Edge}
theorem WC.cov {c:Code} {l':LE} (h:Cov l l') (k:WC E lo fl c l' m n Q):WC E lo fl c l m n Q:=⟨fun t ht=>k.ok t (ht.cov h)⟩
theorem WO.cov {l':LE} (h:Cov l l') (k:WO E loose fl lim ops os l' m n K):WO E loose fl lim ops os l m n K:=⟨fun t ht=>k.ok t (ht.cov h)⟩
theorem WC.mono {c:Code} {Q':AE->LE->Mem->Nat->Prop} (h:WC E lo fl c l m n Q') (k:∀ e l' m' n',Q' e l' m' n'->Q e l' m' n'):WC E lo fl c l m n Q:=
 ⟨fun t ht=>(h.ok t ht).mono fun _ _ ⟨l',h1,h2⟩=>⟨l',h1,k _ _ _ _ h2⟩⟩
theorem WO.ni (h:K l m n):WO E loose fl lim ops [] l m n K:=⟨fun _ ht=>W_nil ⟨l,ht,h⟩⟩
theorem WO.put {v:AV} {m':Mem} {n':Nat} (h:WO E loose fl lim ops os ((d,v) :: l) m' n' K) {t:Tr AV} (ht:Sees t l):WOps E loose fl lim ops os ⟨putT t (some d) v,m',n'⟩ fun s=>∃ l',Sees s.t l'/\K l' s.m s.n:=
 h.ok _ (ht.set d v)
theorem WO.do {v:AV} {m':Mem} {n':Nat} (hin:allK l op = true) (h1:opA E (fun _ _ _ _ _=>none) fl lim (evL l) m n op = some (v,m',n')) (h2:WO E loose fl lim ops os ((d,v) :: l) m' n' K):
 WO E loose fl lim ops (⟨some d,op,ty,pos,af,none⟩ :: os) l m n K:=⟨fun t ht=>
 W_op2 ((opA_congr (evL_ev ht hin)).trans h1) (h2.put ht)⟩
theorem wanted_yes {g q:Nat} {want:Bool} (hd:(ops[g]?).bind (·.dst) = some q) (t:Tr AV) (Q:St->Prop) (h:WOps E loose fl lim ops (⟨dst,op,ty,pos,af,none⟩ :: os) ⟨t,m,n⟩ Q) (hb:t.get q = some (.sc (.bool want))):
 WOps E loose fl lim ops (⟨dst,op,ty,pos,af,some (g,want)⟩ :: os) ⟨t,m,n⟩ Q:=by
 obtain ⟨k,s',h1,h2⟩:=h
 refine ⟨k,s',?_,h2⟩
 rw [<- h1]
 simp only [opsA]
 have:∀ call,stepA E call fl lim ops ⟨dst,op,ty,pos,af,some (g,want)⟩ ⟨t,m,n⟩ = stepA E call fl lim ops ⟨dst,op,ty,pos,af,none⟩ ⟨t,m,n⟩:=by
  intro call
  unfold stepA wantedA
  simp [hd,hb]
 rw [this]
theorem WO.gyes {g q:Nat} {want:Bool} (hd:(ops[g]?).bind (·.dst) = some q) (hb:lk l q = some (.sc (.bool want))) (h:WO E loose fl lim ops (⟨dst,op,ty,pos,af,none⟩ :: os) l m n K):
 WO E loose fl lim ops (⟨dst,op,ty,pos,af,some (g,want)⟩ :: os) l m n K:=⟨fun t ht=>wanted_yes hd t _ (h.ok t ht) (ht _ _ hb)⟩
theorem WO.gno {g q:Nat} {want:Bool} (hd:(ops[g]?).bind (·.dst) = some q) (hb:lk l q = some (.sc (.bool (!want)))) (h:WO E loose fl lim ops os ((d,.tup []) :: l) m n K):
 WO E loose fl lim ops (⟨some d,op,ty,pos,af,some (g,want)⟩ :: os) l m n K:=⟨fun _ ht=>W_guard_no hd (ht _ _ hb) (h.put ht)⟩
theorem WO.gskip {g q:Nat} {want:Bool} (hd:(ops[g]?).bind (·.dst) = some q) (hb:lk l q = some (.tup [])) (h:WO E loose fl lim ops os ((d,.tup []) :: l) m n K):
 WO E loose fl lim ops (⟨some d,op,ty,pos,af,some (g,want)⟩ :: os) l m n K:=⟨fun _ ht=>W_skip hd (ht _ _ hb) (h.put ht)⟩
theorem WO.mv {x:Operand} {v:AV} (hx:evK l x = some v) (h:WO E loose fl lim ops os ((d,v) :: l) m n K):WO E loose fl lim ops (⟨some d,.move x,ty,pos,af,none⟩ :: os) l m n K:=⟨fun _ ht=>
 W_op2 (by simp only [opA,evK_ev ht hx]) (h.put ht)⟩
theorem WO.as {x:Operand} {v:AV} (hx:evK l x = some v) (h:WO E loose fl lim ops os ((d,v) :: l) m n K):WO E loose fl lim ops (⟨some d,.assign x,ty,pos,af,none⟩ :: os) l m n K:=⟨fun _ ht=>
 W_op2 (by simp only [opA,evK_ev ht hx]) (h.put ht)⟩
theorem WO.pickT {c a b:Operand} {v:AV} (hc:evK l c = some (.sc (.bool true))) (hx:evK l a = some v) (h:WO E loose fl lim ops os ((d,v) :: l) m n K):WO E loose fl lim ops (⟨some d,.pick c a b,ty,pos,af,none⟩ :: os) l m n K:=⟨fun _ ht=>
 W_op2 (by simp only [opA,evK_ev ht hc,evK_ev ht hx,if_true]) (h.put ht)⟩
theorem WO.pickF {c a b:Operand} {v:AV} (hc:evK l c = some (.sc (.bool false))) (hx:evK l b = some v) (h:WO E loose fl lim ops os ((d,v) :: l) m n K):WO E loose fl lim ops (⟨some d,.pick c a b,ty,pos,af,none⟩ :: os) l m n K:=⟨fun _ ht=>
 W_op2 (by simp only [opA,evK_ev ht hc,evK_ev ht hx,Bool.false_eq_true,if_false]) (h.put ht)⟩
section ints
variable {x y:Operand} {k k':IntKind} {a b:Int} {t0 ty2:TypeId}
theorem binA_int {o:BinOp} (h1:o≠.shl) (h2:o≠.shr):binA E o t0 (.sc (.int k a)) (.sc (.int k b)) = (intOp o k a b).map .sc:=by
 cases o <;> first | exact (h1 rfl).elim | exact (h2 rfl).elim | simp [binA]
theorem WO.bin {o:BinOp} {r:SV} (hx:evK l x = some (.sc (.int k a))) (hy:evK l y = some (.sc (.int k b))) (h1:o≠.shl) (h2:o≠.shr) (hr:intOp o k a b = some r) (h:WO E loose fl lim ops os ((d,.sc r) :: l) m n K):
 WO E loose fl lim ops (⟨some d,.binOp o t0 x y ty2,ty,pos,af,none⟩ :: os) l m n K:=⟨fun _ ht=>
 W_op2 (by simp only [opA,evK_ev ht hx,evK_ev ht hy,binA_int h1 h2,hr,Option.map_some]) (h.put ht)⟩
theorem WO.bi {o:BinOp} {r:SV} (hx:evK l x=some (.sc (.int k a))) (hy:evK l y=some (.sc (.int k b))) (hr:intOp o k a b=some r) (h:WO E loose fl lim ops os ((d,.sc r)::l) m n K) (h1:o≠.shl:=by decide) (h2:o≠.shr:=by decide):WO E loose fl lim ops (⟨some d,.binOp o t0 x y ty2,ty,pos,af,none⟩::os) l m n K:=WO.bin hx hy h1 h2 hr h
end ints
theorem WO.call {f:Operand} {xs:Array Operand} {ats:Array TypeId} {g:Nat} {caps:List (Nat × Nat)} {args:List AV} (hf:evK l f = some (.sc (.fn g caps))) (ha:xs.toList.mapM (evK l) = some args)
 (h:Ret E (if loose g then max fl n else fl) g (args ++ caps.map fun p=>.sc (.ptr p.1 p.2)) m n (fun v m' n'=>WO E loose fl lim ops os ((d,v) :: l) m' n' K)):
 WO E loose fl lim ops (⟨some d,.call ⟨.value f,xs,ats⟩,ty,pos,af,none⟩ :: os) l m n K:=by
 constructor
 intro t ht
 have hm:∀ (ys:List Operand) (args:List AV),ys.mapM (evK l) = some args->ys.map (St.ev ⟨t,m,n⟩) = args:=by
  intro ys
  induction ys with
  | nil=>intro args h;cases h;rfl
  | cons y ys ih=>
   intro args h
   rw [List.mapM_cons] at h
   obtain ⟨v,h1,h2⟩:=Option.bind_eq_some_iff.1 h
   obtain ⟨vs,h3,h4⟩:=Option.bind_eq_some_iff.1 h2
   cases h4
   rw [List.map_cons,ih vs h3,evK_ev ht h1]
 refine W_call (evK_ev ht hf) ?_
 rw [hm _ _ ha]
 exact h.mono fun v m' n' h'=>h'.put ht
theorem WC.rg {id:Nat} (h:WO E nt fl none ops ops.toList l m n (Q .normal)):WC E lo fl (.region id ops false) l m n Q:=⟨fun t ht=>Runs.region (h.ok t ht)⟩
theorem WC.draw {id:Nat} (hd:dynId lo id = false) (h:WO E (tgt lo id) fl (some n) ops ops.toList l m n (Q .normal)) (hg:gId lo id = false:=by rfl):WC E lo fl (.region id ops true) l m n Q:=⟨fun t ht=>Runs.draw hd (h.ok t ht) hg⟩
theorem WC.drawD {id:Nat} (h:WO E (tgt lo id) fl (some n) ops ops.toList l m n (fun l' m' n'=>(∀ t,Sees t l'->dynOk lo ops (lo.contains id) t = true)/\Q .normal l' m' n')) (hg:gId lo id = false:=by rfl):WC E lo fl (.region id ops true) l m n Q:=⟨fun t ht=>Runs.drawD (let ⟨k,s',h0,l',h1,h2,h3⟩:=h.ok t ht;⟨k,s',h0,h2 _ h1,l',h1,h3⟩) hg⟩
theorem WC.skip (h:Q .normal l m n):WC E lo fl .skip l m n Q:=⟨fun _ ht=>Runs.skip ⟨l,ht,h⟩⟩
theorem WC.exit {b:Nat} (h:Q (.exit b) l m n):WC E lo fl (.exit b) l m n Q:=⟨fun _ ht=>Runs.exit ⟨l,ht,h⟩⟩
theorem WC.ret (h:Q .ret l m n):WC E lo fl .ret l m n Q:=⟨fun _ ht=>Runs.ret ⟨l,ht,h⟩⟩
def thenL (N:LE->Mem->Nat->Prop) (Q:AE->LE->Mem->Nat->Prop):AE->LE->Mem->Nat->Prop
 | .normal,l,m,n=>N l m n
 | e,l,m,n=>Q e l m n
theorem WC.sq {a b:Code} (h:WC E lo fl a l m n (thenL (fun l' m' n'=>WC E lo fl b l' m' n' Q) Q)):WC E lo fl (.seq a b) l m n Q:=⟨fun t ht=>
 Runs.seq ((h.ok t ht).mono fun e s ⟨l',h1,h2⟩=>by
  cases e with
  | normal=>exact h2.ok s.t h1
  | exit id=>exact ⟨l',h1,h2⟩
  | ret=>exact ⟨l',h1,h2⟩)⟩
theorem WC.condT {c:Operand} {a b:Code} (hc:evK l c = some (.sc (.bool true))) (h:WC E lo fl a l m n Q):WC E lo fl (.cond c a b) l m n Q:=⟨fun t ht=>
 Runs.cond (evK_ev ht hc) (by simpa using h.ok t ht)⟩
theorem WC.condF {c:Operand} {a b:Code} (hc:evK l c = some (.sc (.bool false))) (h:WC E lo fl b l m n Q):WC E lo fl (.cond c a b) l m n Q:=⟨fun t ht=>
 Runs.cond (evK_ev ht hc) (by simpa using h.ok t ht)⟩
theorem WC.cond {c:Operand} {a b:Code} {q:Bool} (hc:evK l c = some (.sc (.bool q))) (h:q = true->WC E lo fl a l m n Q) (h':q = false->WC E lo fl b l m n Q):WC E lo fl (.cond c a b) l m n Q:=by
 cases q with
 | true=>exact WC.condT hc (h rfl)
 | false=>exact WC.condF hc (h' rfl)
def blockL (id:Nat) (Q:AE->LE->Mem->Nat->Prop):AE->LE->Mem->Nat->Prop
 | .exit id',l,m,n=>if id' = id then Q .normal l m n else Q (.exit id') l m n
 | e,l,m,n=>Q e l m n
theorem WC.block {id:Nat} {b:Code} (h:WC E lo fl b l m n (blockL id Q)):WC E lo fl (.block id b) l m n Q:=⟨fun t ht=>
 Runs.block ((h.ok t ht).mono fun e s ⟨l',h1,h2⟩=>by
  cases e with
  | normal=>exact ⟨l',h1,h2⟩
  | ret=>exact ⟨l',h1,h2⟩
  | exit id'=>
   simp only [blockL] at h2
   simp only [AE.inBlock]
   split at h2
   ·rename_i e;rw [if_pos e];exact ⟨l',h1,h2⟩
   ·rename_i e;rw [if_neg e];exact ⟨l',h1,h2⟩)⟩
def resK (E:Env) (l:LE) (m:Mem):List ResultVar->Option (List AV)
 | []=>some []
 | .tmp t :: rs=>match lk l t,resK E l m rs with
  | some v,some vs=>some (v :: vs)
  | _,_=>none
 | .cell a t :: rs=>match lk l a,resK E l m rs with
  | some p,some vs=>(loadA E none t m p).map (· :: vs)
  | _,_=>none
theorem resK_ok {t:Tr AV} (ht:Sees t l):∀ {rs:List ResultVar} {vs:List AV},resK E l m rs = some vs->resultsA E ⟨t,m,n⟩ rs = some vs
 | [],vs,h=>h
 | .tmp q :: rs,vs,h=>by
  simp only [resK] at h
  split at h
  ·rename_i v ws h1 h2
   cases h
   simp only [resultsA,resA,ht _ _ h1,resK_ok ht h2,Option.getD_some]
  ·cases h
 | .cell a q :: rs,vs,h=>by
  simp only [resK] at h
  split at h
  ·rename_i p ws h1 h2
   obtain ⟨v,h3,h4⟩:=Option.map_eq_some_iff.1 h
   cases h4
   simp only [resultsA,resA,ht _ _ h1,resK_ok ht h2,Option.getD_some,h3]
  ·cases h
theorem tN {N:LE->Mem->Nat->Prop} (h:N l m n):thenL N Q .normal l m n:=h
theorem tR {N:LE->Mem->Nat->Prop} (h:Q .ret l m n):thenL N Q .ret l m n:=h
theorem tE {N:LE->Mem->Nat->Prop} {id:Nat} (h:Q (.exit id) l m n):thenL N Q (.exit id) l m n:=h
theorem bN {id:Nat} (h:Q .normal l m n):blockL id Q .normal l m n:=h
theorem bR {id:Nat} (h:Q .ret l m n):blockL id Q .ret l m n:=h
theorem bS {id:Nat} (h:Q .normal l m n):blockL id Q (.exit id) l m n:=by simp only [blockL,if_true];exact h
theorem bE {id id':Nat} (e:Nat.beq id' id = false) (h:Q (.exit id') l m n):blockL id Q (.exit id') l m n:=by
 have:id'≠id:=fun q=>by rw [q,show Nat.beq id id = true by simp] at e;cases e
 simp only [blockL];rw [if_neg this];exact h
def argL:Nat->List AV->LE
 | _,[]=>[]
 | k,x :: r=>(k,x) :: argL (k + 1) r
theorem argL_sees:∀ (args:List AV) (k:Nat) (d:Nat) (v:AV),lk (argL k args) d = some v->k<=d/\args[d - k]? = some v
 | [],_,_,_,h=>by cases h
 | x :: r,k,d,v,h=>by
  simp only [argL,lk] at h
  by_cases e:k = d
  ·subst e;simp at h;simp [h]
  ·have:Nat.beq k d = false:=beq_ne e
   rw [this] at h
   obtain ⟨h1,h2⟩:=argL_sees r (k + 1) d v h
   refine ⟨by omega,?_⟩
   obtain ⟨q,hq⟩:∃ q,d - k = q + 1:=⟨d - k - 1,by omega⟩
   rw [hq,List.getElem?_cons_succ,<- h2]
   congr 1;omega
theorem Ret.walk {f:Nat} {args:List AV} {R:AV->Mem->Nat->Prop} {fi:Fi} (hf:E.fn f = some fi)
 (h:WC E fi.loose fl fi.body (argL 0 args) m n fun e l' m' n'=>(e = .normal\/e = .ret)/\∃ vs v,resK E l' m' fi.results = some vs/\tupA vs = some v/\R v m' n') (hx:E.ext.is f = false:=by rfl):Ret E fl f args m n R:=by
 refine Ret.of hf hx ((h.ok _ ?_).mono ?_)
 ·intro d v hd
  obtain ⟨h1,h2⟩:=argL_sees args 0 d v hd
  simp only [Tr.get_ofList]
  have:d < args.length:=by
   have:=(List.getElem?_eq_some_iff.1 h2).1
   omega
  rw [if_pos (by omega)];exact h2
 ·rintro e s ⟨l',h1,he,vs,v,h2,h3,h4⟩
  exact ⟨he,vs,v,resK_ok h1 h2,h3,h4⟩
end rules
end Go.Am
namespace Go.Proofs.YtkhokgkgloligaaDoor.Facts
open Go.Am
set_option maxRecDepth 100000 in
theorem cut:CutHead Tryd.prog:=cutHead_of String.toList_ofList (by kernel_rfl)
theorem laysLater:Tryd.prog.laysLater = false:=by kernel_rfl
theorem bearsReflect:Tryd.prog.bearsReflect = false:=by kernel_rfl
theorem doorFits:Tryd.prog.doorFits [] = true:=by kernel_rfl
theorem mayEnter:Tryd.prog.mayEnter = true:=mayEnter_of cut laysLater bearsReflect doorFits
theorem liftsFinal:Tryd.prog.liftsFinal = false:=liftsFinal_of cut
theorem make:Tryd.prog.make = some .cut:=make_of cut
theorem laid:laidOutB Tryd.prog = true:=by kernel_rfl
theorem mapsRowed:mapsRowed Tryd.prog = true:=by kernel_rfl
theorem stops:(Tryd.prog.stops == []) = true:=by kernel_rfl
theorem stopKnobs:(Tryd.prog.stopKnobs == []) = true:=by kernel_rfl
theorem stopsHeard:Tryd.prog.stopsHeard = true:=by kernel_rfl
theorem own:ownKnob Tryd.prog.godebug = none:=by kernel_rfl
end Go.Proofs.YtkhokgkgloligaaDoor.Facts
namespace Go.Co
open Go.Conc
def Dead {α:Type} (P:Program):Sem α->Prop
 | .pure _=>False
 | .load _ _ k=>∀ v,Dead P (k v)
 | .store _ _ _ k=>Dead P k
 | .new _ k=>∀ r,Dead P (k r)
 | .shape _ k=>∀ s,Dead P (k s)
 | .freeze _ _ k=>Dead P k
 | .frozen _ k=>∀ b,Dead P (k b)
 | .getObj _ k=>∀ o,Dead P (k o)
 | .setObj _ _ k=>Dead P k
 | .choose _ k=>∀ n,Dead P (k n)
 | .sys _ k=>∀ r,Dead P (k r)
 | .program k=>Dead P (k P)
 | .mark _ k=>Dead P k
 | .halt _=>True
def NP {α:Type} (P:Program) (N:Nat):Sem α->Prop
 | .pure _=>True
 | .load m _ k=>∀ v,(m = .plain/\NP P N (k v))\/Dead P (k v)
 | .store m _ _ k=>(m = .plain/\NP P N k)\/Dead P k
 | .new o k=>((∃ c e z,o = .cells c e z)/\∀ r,N<=r->NP P N (k r))\/∀ r,Dead P (k r)
 | .shape r k=>(N<=r/\∀ s,NP P N (k s))\/∀ s,Dead P (k s)
 | .freeze a _ k=>(N<=a.block/\NP P N k)\/Dead P k
 | .frozen a k=>(N<=a.block/\∀ b,NP P N (k b))\/∀ b,Dead P (k b)
 | .getObj _ k=>∀ o,Dead P (k o)
 | .setObj _ _ k=>Dead P k
 | .choose _ k=>∀ n,NP P N (k n)
 | .sys _ k=>∀ r,Dead P (k r)
 | .program k=>NP P N (k P)
 | .mark m k=>(m = .noRoom/\NP P N k)\/Dead P k
 | .halt _=>True
section laws
variable {α β:Type} {P:Program} {N:Nat}
theorem Dead.np:∀ {x:Sem α},Dead P x->NP P N x
 | .pure _,h=>h.elim
 | .load _ _ _,h=>fun v=>.inr (h v)
 | .store _ _ _ _,h=>.inr h
 | .new _ _,h=>.inr h
 | .shape _ _,h=>.inr h
 | .freeze _ _ _,h=>.inr h
 | .frozen _ _,h=>.inr h
 | .getObj _ _,h=>h
 | .setObj _ _ _,h=>h
 | .choose _ k,h=>fun n=>Dead.np (x:=k n) (h n)
 | .sys _ _,h=>h
 | .program k,h=>Dead.np (x:=k P) h
 | .mark _ _,h=>.inr h
 | .halt _,_=>trivial
theorem Dead.run:∀ {x:Sem α},Dead P x->∀ (w:World) (a:α) (w':World),x.run P w≠.ok a w'
 | .pure _,h,_,_,_=>h.elim
 | .load m a k,h,w,_,_=>by
  simp only [Sem.run]
  split
  ·exact Dead.run (h _) _ _ _
  ·split
   ·exact Dead.run (h _) _ _ _
   ·simp
 | .store m a v k,h,w,_,_=>by
  cases v <;> simp only [Sem.run] <;> first
   | (simp;done)
   | (split
      ·split
       ·simp
       ·exact Dead.run (x:=k) h _ _ _
      ·split
       ·exact Dead.run (x:=k) h _ _ _
       ·simp)
 | .new _ k,h,_,_,_=>Dead.run (x:=k _) (h _) _ _ _
 | .shape _ k,h,_,_,_=>Dead.run (x:=k _) (h _) _ _ _
 | .freeze _ _ k,h,_,_,_=>Dead.run (x:=k) h _ _ _
 | .frozen _ k,h,_,_,_=>Dead.run (x:=k _) (h _) _ _ _
 | .getObj r k,h,w,_,_=>by
  simp only [Sem.run]
  split
  ·simp
  ·exact Dead.run (h _) _ _ _
  ·simp
 | .setObj r o k,h,w,_,_=>by
  simp only [Sem.run]
  split
  ·simp
  ·exact Dead.run (x:=k) h _ _ _
  ·simp
 | .choose q k,h,w,_,_=>by
  simp only [Sem.run]
  split
  ·exact Dead.run (h _) _ _ _
  ·exact Dead.run (h _) _ _ _
 | .sys _ k,h,_,_,_=>Dead.run (x:=k _) (h _) _ _ _
 | .program k,h,_,_,_=>Dead.run (x:=k P) h _ _ _
 | .mark _ k,h,_,_,_=>Dead.run (x:=k) h _ _ _
 | .halt _,_,_,_,_=>by simp [Sem.run]
theorem Dead.bindL:∀ {x:Sem α} {f:α->Sem β},Dead P x->Dead P (x.bind f)
 | .pure _,_,h=>h.elim
 | .load _ _ k,_,h=>fun v=>Dead.bindL (x:=k v) (h v)
 | .store _ _ _ k,_,h=>Dead.bindL (x:=k) h
 | .new _ k,_,h=>fun r=>Dead.bindL (x:=k r) (h r)
 | .shape _ k,_,h=>fun r=>Dead.bindL (x:=k r) (h r)
 | .freeze _ _ k,_,h=>Dead.bindL (x:=k) h
 | .frozen _ k,_,h=>fun r=>Dead.bindL (x:=k r) (h r)
 | .getObj _ k,_,h=>fun r=>Dead.bindL (x:=k r) (h r)
 | .setObj _ _ k,_,h=>Dead.bindL (x:=k) h
 | .choose _ k,_,h=>fun n=>Dead.bindL (x:=k n) (h n)
 | .sys _ k,_,h=>fun r=>Dead.bindL (x:=k r) (h r)
 | .program k,_,h=>Dead.bindL (x:=k P) h
 | .mark _ k,_,h=>Dead.bindL (x:=k) h
 | .halt _,_,_=>trivial
theorem Dead.bindR:∀ {x:Sem α} {f:α->Sem β},(∀ a,Dead P (f a))->Dead P (x.bind f)
 | .pure a,_,h=>h a
 | .load _ _ k,_,h=>fun v=>Dead.bindR (x:=k v) h
 | .store _ _ _ k,_,h=>Dead.bindR (x:=k) h
 | .new _ k,_,h=>fun r=>Dead.bindR (x:=k r) h
 | .shape _ k,_,h=>fun r=>Dead.bindR (x:=k r) h
 | .freeze _ _ k,_,h=>Dead.bindR (x:=k) h
 | .frozen _ k,_,h=>fun r=>Dead.bindR (x:=k r) h
 | .getObj _ k,_,h=>fun r=>Dead.bindR (x:=k r) h
 | .setObj _ _ k,_,h=>Dead.bindR (x:=k) h
 | .choose _ k,_,h=>fun n=>Dead.bindR (x:=k n) h
 | .sys _ k,_,h=>fun r=>Dead.bindR (x:=k r) h
 | .program k,_,h=>Dead.bindR (x:=k P) h
 | .mark _ k,_,h=>Dead.bindR (x:=k) h
 | .halt _,_,_=>trivial
theorem NP.bind':∀ {x:Sem α} {f:α->Sem β},NP P N x->(∀ a,NP P N (f a))->NP P N (x.bind f)
 | .pure a,_,_,h=>h a
 | .load _ _ k,_,hx,h=>fun v=>(hx v).imp (fun q=>⟨q.1,NP.bind' (x:=k v) q.2 h⟩) fun q=>Dead.bindL (x:=k v) q
 | .store _ _ _ k,_,hx,h=>Or.imp (fun q=>⟨q.1,NP.bind' (x:=k) q.2 h⟩) (fun q=>Dead.bindL (x:=k) q) hx
 | .new _ k,_,hx,h=>Or.imp (fun q=>⟨q.1,fun r hr=>NP.bind' (x:=k r) (q.2 r hr) h⟩) (fun q r=>Dead.bindL (x:=k r) (q r)) hx
 | .shape _ k,_,hx,h=>Or.imp (fun q=>⟨q.1,fun r=>NP.bind' (x:=k r) (q.2 r) h⟩) (fun q r=>Dead.bindL (x:=k r) (q r)) hx
 | .freeze _ _ k,_,hx,h=>Or.imp (fun q=>⟨q.1,NP.bind' (x:=k) q.2 h⟩) (fun q=>Dead.bindL (x:=k) q) hx
 | .frozen _ k,_,hx,h=>Or.imp (fun q=>⟨q.1,fun r=>NP.bind' (x:=k r) (q.2 r) h⟩) (fun q r=>Dead.bindL (x:=k r) (q r)) hx
 | .getObj _ k,_,hx,_=>fun r=>Dead.bindL (x:=k r) (hx r)
 | .setObj _ _ k,_,hx,_=>Dead.bindL (x:=k) hx
 | .choose _ k,_,hx,h=>fun n=>NP.bind' (x:=k n) (hx n) h
 | .sys _ k,_,hx,_=>fun r=>Dead.bindL (x:=k r) (hx r)
 | .program k,_,hx,h=>NP.bind' (x:=k P) hx h
 | .mark _ k,_,hx,h=>Or.imp (fun q=>⟨q.1,NP.bind' (x:=k) q.2 h⟩) (fun q=>Dead.bindL (x:=k) q) hx
 | .halt _,_,_,_=>trivial
theorem NP.bind {x:Sem α} {f:α->Sem β} (hx:NP P N x) (h:∀ a,NP P N (f a)):NP P N (x >>= f):=NP.bind' hx h
theorem Dead.bind {x:Sem α} {f:α->Sem β} (h:∀ a,Dead P (f a)):Dead P (x >>= f):=Dead.bindR h
theorem Dead.bind₁ {x:Sem α} {f:α->Sem β} (h:Dead P x):Dead P (x >>= f):=Dead.bindL h
theorem NP.pure (a:α):NP P N (Pure.pure a:Sem α):=trivial
end laws
def junk:Obj:=.deferred none
def frz:Obj->Obj
 | .cells c e _=>.cells c e (0,c.size)
 | o=>o
structure Veil (own ro:Nat->Prop) (w v:World):Prop where
 tape:v.tape = w.tape
 drawn:v.drawn = w.drawn
 os:v.os = w.os
 output:v.output = w.output
 size:v.heap.size = w.heap.size
 hown:∀ b,own b->v.heap[b]? = w.heap[b]?
 hro:∀ b,¬ own b->ro b->v.heap[b]? = (w.heap[b]?).map frz
 noview:∀ (b:Nat) (a:Addr) (t:TypeId),v.heap[b]?≠some (Obj.view a t)
 hid:∀ b,¬ own b->¬ ro b->b < w.heap.size->v.heap[b]? = some junk
def EvO (own ro:Nat->Prop) (e:Event):Prop:=
 (∃ a,e.loc = .cell a/\e.sync = false/\(own a.block\/(ro a.block/\e.write = false)))\/e = ⟨.mark .noRoom,false,true⟩
structure Fr (own:Nat->Prop) (w w':World):Prop where
 tape:w'.tape = w.tape
 os:w'.os = w.os
 output:w'.output = w.output
 size:w.heap.size<=w'.heap.size
 block:∀ b,¬ own b->w'.heap[b]? = w.heap[b]?
theorem Fr.refl (own:Nat->Prop) (w:World):Fr own w w:=⟨rfl,rfl,rfl,Nat.le_refl _,fun _ _=>rfl⟩
theorem Fr.trans {own:Nat->Prop} {a b c:World} (h:Fr own a b) (k:Fr own b c):Fr own a c:=
 ⟨k.tape.trans h.tape,k.os.trans h.os,k.output.trans h.output,Nat.le_trans h.size k.size,fun i hi=>(k.block i hi).trans (h.block i hi)⟩
theorem cell_lt {w:World} {a:Addr} {x:Value} (h:w.cell? a = some x):a.block < w.heap.size:=by
 unfold World.cell? at h
 cases e:w.heap[a.block]? with
 | none=>rw [e] at h;cases h
 | some o=>exact (Array.getElem?_eq_some_iff.1 e).1
section veil
variable {P:Program} {own ro:Nat->Prop} {w v:World}
theorem Veil.cases (_:Veil own ro w v) (b:Nat):own b\/(¬ own b/\ro b)\/(¬ own b/\¬ ro b):=by
 by_cases h1:own b
 ·exact .inl h1
 ·by_cases h2:ro b
  ·exact .inr (.inl ⟨h1,h2⟩)
  ·exact .inr (.inr ⟨h1,h2⟩)
theorem Veil.cell {a:Addr} {x:Value} (h:Veil own ro w v) (hc:v.cell? a = some x):w.cell? a = some x/\(own a.block\/(¬ own a.block/\ro a.block)):=by
 rcases h.cases a.block with h1 | ⟨h1,h2⟩ | ⟨h1,h2⟩
 ·refine ⟨?_,.inl h1⟩
  unfold World.cell? at hc ⊢
  rw [<- h.hown _ h1];exact hc
 ·refine ⟨?_,.inr ⟨h1,h2⟩⟩
  unfold World.cell? at hc ⊢
  rw [h.hro _ h1 h2] at hc
  cases hw:w.heap[a.block]? with
  | none=>rw [hw] at hc;simp at hc
  | some o=>
   rw [hw] at hc
   cases o <;> simp only [Option.map_some,frz] at hc ⊢ <;> first | exact hc | cases hc
 ·exfalso
  unfold World.cell? at hc
  by_cases hb:a.block < w.heap.size
  ·rw [h.hid _ h1 h2 hb] at hc
   cases hc
  ·rw [Array.getElem?_eq_none (by have:=h.size;omega)] at hc;cases hc
theorem Veil.far {a:Addr} {t:Bool} {x:Value × List Addr} (h:Veil own ro w v):v.farLoad P a t≠.ok x:=by
 unfold World.farLoad
 split
 ·rename_i hv;exact absurd hv (h.noview _ _ _)
 ·simp
theorem Veil.farS {a:Addr} {u:Value} {t:Bool} {x:World × List Addr} (h:Veil own ro w v):v.farStore P a u t≠.ok x:=by
 unfold World.farStore
 split
 ·rename_i hv;exact absurd hv (h.noview _ _ _)
 ·simp
theorem Veil.free {a:Addr} {x:Value} (h:Veil own ro w v) (hc:v.cell? a = some x) (hf:v.frozen? a = false):own a.block/\w.frozen? a = false:=by
 rcases (h.cell hc).2 with h1 | ⟨h1,h2⟩
 ·refine ⟨h1,?_⟩
  unfold World.frozen? at hf ⊢
  rw [<- h.hown _ h1];exact hf
 ·exfalso
  unfold World.cell? at hc
  unfold World.frozen? at hf
  rw [h.hro _ h1 h2] at hc hf
  cases hw:w.heap[a.block]? with
  | none=>rw [hw] at hc;simp at hc
  | some o=>
   rw [hw] at hc hf
   cases o <;> simp only [Option.map_some,frz] at hc hf <;> try (cases hc;done)
   split at hc
   ·cases hc
   ·have:=(Array.getElem?_eq_some_iff.1 hc).1
    simp [this] at hf
theorem Veil.set {a:Addr} (h:Veil own ro w v) (ho:own a.block) (y:Value):Veil own ro (w.setCell a y) (v.setCell a y):=by
 have hs:∀ u:World,(u.setCell a y).heap.size = u.heap.size:=fun u=>by simp [World.setCell]
 have hne:∀ (u:World) (b:Nat),b≠a.block->(u.setCell a y).heap[b]? = u.heap[b]?:=fun u b hb=>by
  simp only [World.setCell,Array.getElem?_modify]
  rw [if_neg (fun e=>hb e.symm)]
 have heq:(v.setCell a y).heap[a.block]? = (w.setCell a y).heap[a.block]?:=by
  simp only [World.setCell,Array.getElem?_modify,if_true,h.hown _ ho]
 refine ⟨h.tape,h.drawn,h.os,h.output,by rw [hs,hs];exact h.size,fun b hb=>?_,fun b hb hr=>?_,fun b c t=>?_,fun b hb hr hlt=>?_⟩
 ·by_cases e:b = a.block
  ·subst e;exact heq
  ·rw [hne _ _ e,hne _ _ e];exact h.hown _ hb
 ·have e:b≠a.block:=fun e=>hb (e ▸ ho)
  rw [hne _ _ e,hne _ _ e];exact h.hro _ hb hr
 ·by_cases e:b = a.block
  ·subst e
   simp only [World.setCell,Array.getElem?_modify,if_true]
   have:=h.noview a.block c t
   cases hv:v.heap[a.block]? with
   | none=>simp
   | some o=>rw [hv] at this;cases o <;> simp_all
  ·rw [hne _ _ e];exact h.noview _ _ _
 ·have e:b≠a.block:=fun e=>hb (e ▸ ho)
  rw [hne _ _ e];exact h.hid _ hb hr (by rw [hs] at hlt;exact hlt)
theorem Veil.push {c:Array Value} {t:TypeId} {z:Nat × Nat} (h:Veil own ro w v) (hnew:∀ b,w.heap.size<=b->own b):Veil own ro { w with heap:=w.heap.push (.cells c t z) } { v with heap:=v.heap.push (.cells c t z) }:=by
 have hsz:=h.size
 have hg:∀ (u:World) (b:Nat),(u.heap.push (.cells c t z))[b]? = if b = u.heap.size then some (.cells c t z) else u.heap[b]?:=fun u b=>Array.getElem?_push
 refine ⟨h.tape,h.drawn,h.os,h.output,by simp [hsz],fun b hb=>?_,fun b hb hr=>?_,fun b a u=>?_,fun b hb hr hlt=>?_⟩
 ·show (v.heap.push _)[b]? = (w.heap.push _)[b]?
  rw [hg,hg,hsz,h.hown _ hb]
 ·show (v.heap.push _)[b]? = ((w.heap.push _)[b]?).map frz
  have e:b≠w.heap.size:=fun e=>hb (hnew b (by omega))
  rw [hg,hg,hsz,if_neg e,if_neg e];exact h.hro _ hb hr
 ·show (v.heap.push _)[b]?≠_
  rw [hg]
  split
  ·simp
  ·exact h.noview _ _ _
 ·show (v.heap.push _)[b]? = _
  have e:b≠w.heap.size:=fun e=>hb (hnew b (by omega))
  rw [hg,hsz,if_neg e];exact h.hid _ hb hr (by simp at hlt;omega)
theorem Veil.draw (h:Veil own ro w v):Veil own ro { w with drawn:=w.drawn + 1 } { v with drawn:=v.drawn + 1 }:=
 ⟨h.tape,by simp [h.drawn],h.os,h.output,h.size,h.hown,h.hro,h.noview,h.hid⟩
theorem setCell_fr (w:World) {a:Addr} (y:Value) (ho:own a.block):Fr own w (w.setCell a y):=by
 refine ⟨rfl,rfl,rfl,by simp [World.setCell],fun b hb=>?_⟩
 simp only [World.setCell,Array.getElem?_modify]
 rw [if_neg (fun e:a.block = b=>hb (e ▸ ho))]
theorem freeze_size (w:World) (a:Addr) (n:Nat):(w.freeze a n).heap.size = w.heap.size:=by unfold World.freeze;split <;> simp
theorem freeze_ne (w:World) (a:Addr) (n:Nat) {b:Nat} (h:b≠a.block):(w.freeze a n).heap[b]? = w.heap[b]?:=by
 unfold World.freeze
 split
 ·rfl
 ·simp only [Array.getElem?_modify]
  rw [if_neg (fun e=>h e.symm)]
theorem freeze_fr (w:World) {a:Addr} (ho:own a.block) (n:Nat):Fr own w (w.freeze a n):=by
 have e:(w.freeze a n).tape = w.tape/\(w.freeze a n).os = w.os/\(w.freeze a n).output = w.output:=by unfold World.freeze;split <;> exact ⟨rfl,rfl,rfl⟩
 exact ⟨e.1,e.2.1,e.2.2,by rw [freeze_size];exact Nat.le_refl _,fun b hb=>freeze_ne w a n fun q=>hb (q ▸ ho)⟩
theorem Veil.frz {a:Addr} (h:Veil own ro w v) (ho:own a.block) (n:Nat):Veil own ro (w.freeze a n) (v.freeze a n):=by
 have e:∀ u:World,(u.freeze a n).tape = u.tape/\(u.freeze a n).os = u.os/\(u.freeze a n).output = u.output/\(u.freeze a n).drawn = u.drawn:=fun u=>by unfold World.freeze;split <;> exact ⟨rfl,rfl,rfl,rfl⟩
 have heq:(v.freeze a n).heap[a.block]? = (w.freeze a n).heap[a.block]?:=by
  unfold World.freeze
  split
  ·exact h.hown _ ho
  ·simp only [Array.getElem?_modify,if_true,h.hown _ ho]
 refine ⟨by rw [(e v).1,(e w).1];exact h.tape,by rw [(e v).2.2.2,(e w).2.2.2];exact h.drawn,by rw [(e v).2.1,(e w).2.1];exact h.os,by rw [(e v).2.2.1,(e w).2.2.1];exact h.output,by rw [freeze_size,freeze_size];exact h.size,fun b hb=>?_,fun b hb hr=>?_,fun b c t=>?_,fun b hb hr hlt=>?_⟩
 ·by_cases q:b = a.block
  ·subst q;exact heq
  ·rw [freeze_ne _ _ _ q,freeze_ne _ _ _ q];exact h.hown _ hb
 ·have q:b≠a.block:=fun q=>hb (q ▸ ho)
  rw [freeze_ne _ _ _ q,freeze_ne _ _ _ q];exact h.hro _ hb hr
 ·by_cases q:b = a.block
  ·subst q
   unfold World.freeze
   split
   ·exact h.noview _ _ _
   ·simp only [Array.getElem?_modify,if_true]
    have:=h.noview a.block c t
    cases hv:v.heap[a.block]? with
    | none=>simp
    | some o=>rw [hv] at this;cases o <;> simp_all
  ·rw [freeze_ne _ _ _ q];exact h.noview _ _ _
 ·have q:b≠a.block:=fun q=>hb (q ▸ ho)
  rw [freeze_ne _ _ _ q];exact h.hid _ hb hr (by rw [freeze_size] at hlt;exact hlt)
theorem coincide {α:Type} {N:Nat} (hN:∀ b,N<=b->own b):∀ {x:Sem α},NP P N x->∀ {w v:World} (es:Array Event),Veil own ro w v->N<=w.heap.size->∀ {a:α} {v':World},x.run P v = .ok a v' ->
 ∃ w' u,x.runT P w es = (.ok a w',es ++ u)/\Veil own ro w' v'/\(∀ e∈u,EvO (fun b=>own b/\b < w'.heap.size) ro e)/\Fr own w w'
 | .pure a,_,w,v,es,hv,_,b,v',h=>by
  simp only [Sem.run,Result.ok.injEq] at h
  obtain ⟨rfl,rfl⟩:=h
  exact ⟨w,#[],by simp [Sem.runT,-Sem.runT_eq],hv,by simp,Fr.refl _ _⟩
 | .load m a k,hx,w,v,es,hv,hn,b,v',h=>by
  simp only [Sem.run] at h
  split at h
  ·rename_i y hy
   rcases hx y with ⟨rfl,hk⟩ | hk
   ·obtain ⟨c1,c2⟩:=hv.cell hy
    obtain ⟨w',u,h1,h2,h3,h4⟩:=coincide hN (x:=k y) hk (es.push ⟨.cell a,false,false⟩) hv hn h
    refine ⟨w',#[⟨.cell a,false,false⟩] ++ u,?_,h2,fun e he=>?_,h4⟩
    ·simp only [Sem.runT,c1]
     have:(Mode.plain == Mode.atomic) = false:=rfl
     rw [this,h1]
     simp
    ·rcases Array.mem_append.1 he with he | he
     ·rw [Array.mem_singleton] at he;subst he
      exact .inl ⟨a,rfl,rfl,c2.imp (fun q=>⟨q,Nat.lt_of_lt_of_le (cell_lt c1) h4.size⟩) fun q=>⟨q.2,rfl⟩⟩
     ·exact h3 e he
   ·exact absurd h (hk.run _ _ _)
  ·split at h
   ·rename_i hy;exact absurd hy hv.far
   ·cases h
 | .store m a y k,hx,w,v,es,hv,hn,b,v',h=>by
  have key:(match v.cell? a with
   | some _=>if v.frozen? a then .halt (.unsupported (.unsafePointer "a write to bytes that a string shares")) v else k.run P (v.setCell a y)
   | none=>match v.farStore P a y (m == .atomic) with
    | .ok (w,_)=>k.run P w
    | .error h=>.halt h v) = Result.ok b v'/\y.oneCell' = true:=by
   cases y <;> simp only [Sem.run] at h <;> first | exact ⟨h,rfl⟩ | cases h
  obtain ⟨h',hone⟩:=key
  clear h
  have h:=h'
  clear h'
  split at h
  ·rename_i q hq
   split at h
   ·cases h
   ·rename_i hf
    have hf:v.frozen? a = false:=by simpa using hf
    obtain ⟨c1,c2⟩:=hv.free hq hf
    rcases hx with ⟨rfl,hk⟩ | hk
    ·obtain ⟨w',u,h1,h2,h3,h4⟩:=coincide hN (x:=k) hk (es.push ⟨.cell a,true,false⟩) (hv.set c1 y) (by simpa [World.setCell] using hn) h
     refine ⟨w',#[⟨.cell a,true,false⟩] ++ u,?_,h2,fun e he=>?_,(setCell_fr w y c1).trans h4⟩
     ·have hw:=(hv.cell hq).1
      have:(Mode.plain == Mode.atomic) = false:=rfl
      have e:(Sem.store .plain a y k).runT P w es = k.runT P (w.setCell a y) (es.push ⟨.cell a,true,false⟩):=by
       cases y <;> first
        | (simp [Value.oneCell'] at hone;done)
        | (simp only [Sem.runT,hw,c2,this];rfl)
      rw [e,h1]
      simp
     ·rcases Array.mem_append.1 he with he | he
      ·rw [Array.mem_singleton] at he;subst he
       exact .inl ⟨a,rfl,rfl,.inl ⟨c1,Nat.lt_of_lt_of_le (by simpa [World.setCell] using cell_lt (hv.cell hq).1) h4.size⟩⟩
      ·exact h3 e he
    ·exact absurd h (hk.run _ _ _)
  ·split at h
   ·rename_i hy;exact absurd hy hv.farS
   ·cases h
 | .new o k,hx,w,v,es,hv,hn,b,v',h=>by
  simp only [Sem.run] at h
  rcases hx with ⟨⟨c,t,z,rfl⟩,hk⟩ | hk
  ·obtain ⟨w',u,h1,h2,h3,h4⟩:=coincide hN (x:=k v.heap.size) (hk _ (by rw [hv.size];exact hn)) es (hv.push (c:=c) (t:=t) (z:=z) (fun b hb=>hN b (Nat.le_trans hn hb))) (by simp;omega) h
   have f1:Fr own w { w with heap:=w.heap.push (.cells c t z) }:=by
    refine ⟨rfl,rfl,rfl,by simp,fun b hb=>?_⟩
    show (w.heap.push _)[b]? = _
    rw [Array.getElem?_push,if_neg (fun e=>hb (hN b (by omega)))]
   refine ⟨w',u,?_,h2,h3,f1.trans h4⟩
   ·simp only [Sem.runT]
    rw [<- hv.size];rw [hv.size] at h1 ⊢;exact h1
  ·exact absurd h ((hk _).run _ _ _)
 | .shape r k,hx,w,v,es,hv,hn,b,v',h=>by
  have h:(k (v.shape? r)).run P v = .ok b v':=h
  rcases hx with ⟨hr,hk⟩ | hk
  ·have e:v.shape? r = w.shape? r:=by unfold World.shape?;rw [hv.hown r (hN r hr)]
   rw [e] at h
   obtain ⟨w',u,h1,q⟩:=coincide hN (x:=k (w.shape? r)) (hk _) es hv hn h
   exact ⟨w',u,h1,q⟩
  ·exact absurd h ((hk _).run _ _ _)
 | .freeze a n k,hx,w,v,es,hv,hn,b,v',h=>by
  have h:k.run P (v.freeze a n) = .ok b v':=h
  rcases hx with ⟨hr,hk⟩ | hk
  ·have ho:=hN _ hr
   obtain ⟨w',u,h1,h2,h3,h4⟩:=coincide hN (x:=k) hk es (hv.frz ho n) (by rw [freeze_size];exact hn) h
   exact ⟨w',u,h1,h2,h3,(freeze_fr w ho n).trans h4⟩
  ·exact absurd h (Dead.run (x:=k) hk _ _ _)
 | .frozen a k,hx,w,v,es,hv,hn,b,v',h=>by
  have h:(k (v.frozen? a)).run P v = .ok b v':=h
  rcases hx with ⟨hr,hk⟩ | hk
  ·have e:v.frozen? a = w.frozen? a:=by unfold World.frozen?;rw [hv.hown _ (hN _ hr)]
   rw [e] at h
   obtain ⟨w',u,h1,q⟩:=coincide hN (x:=k (w.frozen? a)) (hk _) es hv hn h
   exact ⟨w',u,h1,q⟩
  ·exact absurd h ((hk _).run _ _ _)
 | .getObj r k,hx,w,v,es,hv,hn,b,v',h=>by
  simp only [Sem.run] at h
  split at h
  ·cases h
  ·exact absurd h ((hx _).run _ _ _)
  ·cases h
 | .setObj r o k,hx,w,v,es,hv,hn,b,v',h=>by
  simp only [Sem.run] at h
  split at h
  ·cases h
  ·exact absurd h (Dead.run (x:=k) hx _ _ _)
  ·cases h
 | .choose q k,hx,w,v,es,hv,hn,b,v',h=>by
  simp only [Sem.run] at h
  split at h
  ·rename_i hq
   obtain ⟨w',u,h1,r⟩:=coincide hN (x:=k 0) (hx 0) es hv hn h
   exact ⟨w',u,by simp only [Sem.runT,hq,if_true];exact h1,r⟩
  ·rename_i hq
   obtain ⟨w',u,h1,h2,h3,h4⟩:=coincide hN (x:=k _) (hx _) es hv.draw hn h
   have f1:Fr own w { w with drawn:=w.drawn + 1 }:=⟨rfl,rfl,rfl,Nat.le_refl _,fun _ _=>rfl⟩
   refine ⟨w',u,?_,h2,h3,f1.trans h4⟩
   simp only [Sem.runT,hq]
   rw [hv.tape,hv.drawn] at h1
   exact h1
 | .sys c k,hx,w,v,es,hv,hn,b,v',h=>absurd (show (k (v.sys c).1).run P (v.sys c).2 = .ok b v' from h) ((hx _).run _ _ _)
 | .program k,hx,w,v,es,hv,hn,b,v',h=>by
  obtain ⟨w',u,h1,r⟩:=coincide hN (x:=k P) hx es hv hn h
  exact ⟨w',u,h1,r⟩
 | .mark m k,hx,w,v,es,hv,hn,b,v',h=>by
  rcases hx with ⟨rfl,hk⟩ | hk
  ·obtain ⟨w',u,h1,h2,h3,h4⟩:=coincide hN (x:=k) hk (es.push ⟨.mark .noRoom,false,true⟩) hv hn h
   refine ⟨w',#[⟨.mark .noRoom,false,true⟩] ++ u,?_,h2,fun e he=>?_,h4⟩
   ·simp only [Sem.runT];rw [h1];simp
   ·rcases Array.mem_append.1 he with he | he
    ·rw [Array.mem_singleton] at he;subst he;exact .inr rfl
    ·exact h3 e he
  ·exact absurd (show k.run P v = .ok b v' from h) (Dead.run (x:=k) hk _ _ _)
 | .halt _,_,_,_,_,_,_,_,_,h=>by simp [Sem.run] at h
end veil
theorem viewStore_size {P:Program} {w:World} {a:Addr} {u:TypeId} {k:Addr} {v:Value} {t:Bool} {r:World × List Addr} (h:w.viewStore P a u k v t = .ok r):r.1.heap.size = w.heap.size:=by
 unfold World.viewStore at h
 simp only [bind,Except.bind,Pure.pure,Except.pure] at h
 repeat' split at h
 all_goals first
  | (cases h;done)
  | (simp only [Except.ok.injEq] at h;subst h;simp;done)
theorem ask_heap {α:Type}:∀ (x:Ask α) (w:World),(w.ask x).2.heap = w.heap
 | .done _,_=>rfl
 | .ask what n k,w=>by
  simp only [World.ask]
  split
  ·exact ask_heap (k 0) w
  ·exact (ask_heap (k _) _).trans rfl
theorem sys_heap (w:World) (c:Sys):(w.sys c).2.heap = w.heap:=by
 unfold World.sys
 split
 ·rfl
 ·rename_i r os w' _ e
  have:=ask_heap (Kernel.perform c w.os) w
  rw [e] at this
  exact this
theorem run_size {α:Type} {P:Program}:∀ (x:Sem α) (w:World) (a:α) (w':World),x.run P w = .ok a w'->w.heap.size<=w'.heap.size
 | .pure _,w,_,_,h=>by simp only [Sem.run,Result.ok.injEq] at h;rw [h.2];exact Nat.le_refl _
 | .load m ad k,w,a,w',h=>by
  simp only [Sem.run] at h
  split at h
  ·exact run_size (k _) _ _ _ h
  ·split at h
   ·exact run_size (k _) _ _ _ h
   ·cases h
 | .store m ad v k,w,a,w',h=>by
  cases v <;> simp only [Sem.run] at h <;> first
   | (cases h;done)
   | (split at h
      ·split at h
       ·cases h
       ·have:=run_size k _ _ _ h
        simpa [World.setCell] using this
      ·split at h
       ·rename_i hf
        have:=run_size k _ _ _ h
        unfold World.farStore at hf
        split at hf
        ·split at hf
         ·rename_i hv
          cases hf
          have h2:=viewStore_size hv
          simp only at h2
          omega
         ·cases hf
        ·cases hf
       ·cases h)
 | .new o k,w,a,w',h=>by
  have:=run_size (k _) _ _ _ (show (k w.heap.size).run P { w with heap:=w.heap.push o } = .ok a w' from h)
  simp at this
  omega
 | .shape r k,w,a,w',h=>run_size (k _) _ _ _ (show (k (w.shape? r)).run P w = .ok a w' from h)
 | .freeze ad n k,w,a,w',h=>by
  have:=run_size k _ _ _ (show k.run P (w.freeze ad n) = .ok a w' from h)
  have e:(w.freeze ad n).heap.size = w.heap.size:=by unfold World.freeze;split <;> simp
  omega
 | .frozen ad k,w,a,w',h=>run_size (k _) _ _ _ (show (k (w.frozen? ad)).run P w = .ok a w' from h)
 | .getObj r k,w,a,w',h=>by
  simp only [Sem.run] at h
  split at h
  ·cases h
  ·exact run_size (k _) _ _ _ h
  ·cases h
 | .setObj r o k,w,a,w',h=>by
  simp only [Sem.run] at h
  split at h
  ·cases h
  ·have:=run_size k _ _ _ h
   simpa using this
  ·cases h
 | .choose q k,w,a,w',h=>by
  simp only [Sem.run] at h
  split at h
  ·exact run_size (k _) _ _ _ h
  ·have:=run_size (k _) _ _ _ h
   exact this
 | .sys c k,w,a,w',h=>by
  have:=run_size (k _) _ _ _ (show (k (w.sys c).1).run P (w.sys c).2 = .ok a w' from h)
  rw [sys_heap] at this
  exact this
 | .program k,w,a,w',h=>run_size (k P) _ _ _ (show (k P).run P w = .ok a w' from h)
 | .mark m k,w,a,w',h=>run_size k _ _ _ (show k.run P w = .ok a w' from h)
 | .halt _,_,_,_,h=>by simp [Sem.run] at h
section np
variable {P:Program} {N:Nat}
theorem np_load (a:Addr):NP P N (load a):=fun _=>.inl ⟨rfl,trivial⟩
theorem np_store (a:Addr) (v:Value):NP P N (store a v):=.inl ⟨rfl,trivial⟩
theorem np_cells (c:Array Value) (t:TypeId):NP P N (newObj (.cells c t)):=.inl ⟨⟨c,t,_,rfl⟩,fun _ _=>trivial⟩
theorem np_choose (q:Question):NP P N (choose q):=fun _=>trivial
theorem np_program:NP P N program:=trivial
theorem np_noRoom:NP P N (mark .noRoom):=.inl ⟨rfl,trivial⟩
theorem np_stuck {α:Type} (s:String):NP P N (stuck s:Sem α):=trivial
theorem dead_stuck {α:Type} (s:String):Dead P (stuck s:Sem α):=trivial
theorem dead_unsupported {α:Type} (u:Unsupported):Dead P (unsupported u:Sem α):=trivial
theorem dead_runtimePanic {α:Type} (e:RuntimeError):Dead P (runtimePanic e:Sem α):=by
 unfold runtimePanic
 refine Dead.bind (fun p=>?_)
 cases e <;> first | exact trivial | exact Dead.bind fun _=>Dead.bind fun _=>trivial
theorem np_runtimePanic {α:Type} (e:RuntimeError):NP P N (runtimePanic e:Sem α):=(dead_runtimePanic e).np
theorem np_typeInfo (t:TypeId):NP P N (typeInfo t):=by
 unfold typeInfo
 refine NP.bind np_program (fun p=>?_)
 split <;> exact trivial
theorem np_underlying (t:TypeId):NP P N (underlying t):=by
 unfold underlying
 refine NP.bind np_program (fun p=>?_)
 split <;> exact trivial
theorem np_zeroValue (t:TypeId):NP P N (zeroValue t):=by
 unfold zeroValue
 refine NP.bind (np_typeInfo t) (fun p=>?_)
 split <;> exact trivial
theorem np_sizeOf (t:TypeId):NP P N (sizeOf t):=NP.bind (np_typeInfo t) fun _=>trivial
theorem np_isAgg (t:TypeId):NP P N (isAgg t):=by
 unfold isAgg
 refine NP.bind (np_underlying t) (fun p=>?_)
 split <;> exact trivial
theorem np_askRoom (n:Nat):NP P N (askRoom n):=by
 unfold askRoom
 split
 ·exact np_noRoom
 ·exact trivial
theorem np_loadCellsFrom (a:Addr):∀ (n i:Nat) (acc:Array Value),NP P N (loadCellsFrom a i n acc)
 | 0,_,_=>trivial
 | n + 1,i,acc=>NP.bind (np_load _) fun v=>np_loadCellsFrom a n (i + 1) (acc.push v)
theorem np_loadCells (a:Addr) (n:Nat):NP P N (loadCells a n):=np_loadCellsFrom a n 0 #[]
theorem np_storeCells (a:Addr):∀ (vs:List Value) (i:Nat),NP P N (storeCells a vs i)
 | [],_=>trivial
 | v :: r,i=>NP.bind (np_store _ v) fun _=>np_storeCells a r (i + 1)
theorem np_loadVar (t:TypeId) (a:Addr):NP P N (loadVar t a):=by
 unfold loadVar
 refine NP.bind (np_isAgg t) (fun b=>?_)
 split
 ·exact NP.bind (np_sizeOf t) fun n=>NP.bind (np_loadCells a n) fun _=>trivial
 ·exact np_load a
theorem np_storeVar (t:TypeId) (a:Addr) (v:Value):NP P N (storeVar t a v):=by
 unfold storeVar
 refine NP.bind (np_sizeOf t) (fun n=>?_)
 split
 ·exact np_stuck _
 ·exact np_storeCells a _ 0
theorem np_newRow (t:TypeId) (c:Array Value):NP P N (newRow t c):=NP.bind (np_cells c t) fun _=>trivial
theorem np_newVar (t:TypeId) (v:Value):NP P N (newVar t v):=np_newRow t _
theorem np_asIntOf (v:Value):NP P N (asIntOf v):=by unfold asIntOf;split <;> exact trivial
theorem np_asInt (v:Value):NP P N (asInt v):=NP.bind (np_asIntOf v) fun _=>trivial
theorem np_asBool (v:Value):NP P N (asBool v):=by unfold asBool;split <;> exact trivial
theorem np_asAddr (v:Value):NP P N (asAddr v):=by
 unfold asAddr
 split <;> first | exact trivial | exact np_runtimePanic _
theorem np_sureAddr (v:Value):NP P N (Instr.sureAddr v):=by unfold Instr.sureAddr;split <;> exact trivial
theorem np_asAgg (v:Value):NP P N (asAgg v):=by unfold asAgg;split <;> exact trivial
theorem np_map {α β:Type} {x:Sem α} (f:α->β) (h:NP P N x):NP P N (f <$> x):=NP.bind' h fun _=>trivial
theorem np_boundsPanic {α:Type} (k:IntKind) (x y:Int) (c:BoundsCode):NP P N (boundsPanic k x y c:Sem α):=by
 unfold boundsPanic
 dsimp only
 split <;> exact (Dead.bind fun _=>dead_runtimePanic _).np
theorem np_part (t:TypeId) (cs:Array Value) (o:Nat):NP P N (part t cs o):=by
 unfold part
 refine NP.bind (np_isAgg t) (fun b=>?_)
 split
 ·exact NP.bind (np_sizeOf t) fun _=>trivial
 ·split <;> exact trivial
theorem np_und {β:Type} {t:TypeId} {f:TypeDesc->Sem β} (h:∀ d,P.underlying t = some d->NP P N (f d)):NP P N (underlying t >>= f):=by
 have:NP P N ((match P.underlying t with | some d=>Pure.pure d | none=>stuck "no such type":Sem TypeDesc).bind f):=by
  cases e:P.underlying t with
  | some i=>exact h i e
  | none=>exact trivial
 exact this
theorem np_size {β:Type} {t:TypeId} {f:Nat->Sem β} (h:∀ i,P.info? t = some i->NP P N (f i.size)):NP P N (sizeOf t >>= f):=by
 have:NP P N (((match P.info? t with | some i=>Pure.pure i | none=>stuck "no such type":Sem TypeInfo).bind fun i=>Pure.pure i.size).bind f):=by
  cases e:P.info? t with
  | some i=>exact h i e
  | none=>exact trivial
 exact this
theorem np_alloc (t:TypeId) (o:Value):NP P N (Instr.alloc t true o):=by
 unfold Instr.alloc
 refine NP.bind (np_zeroValue t) (fun z=>?_)
 split
 ·rename_i h;cases h
 ·exact NP.bind (np_newVar t z) fun _=>trivial
theorem np_box (t:TypeId) (v:Value):NP P N (Instr.box t v):=NP.bind (np_newVar t v) fun _=>trivial
theorem np_mapM {α β:Type} {f:α->Sem β} (h:∀ a,NP P N (f a)):∀ l:List α,NP P N (l.mapM f)
 | []=>by rw [List.mapM_nil];exact trivial
 | a :: l=>by
  rw [List.mapM_cons]
  exact NP.bind (h a) fun _=>NP.bind (np_mapM h l) fun _=>trivial
theorem np_amapM {α β:Type} {f:α->Sem β} (h:∀ a,NP P N (f a)) (l:Array α):NP P N (l.mapM f):=by
 rw [Array.mapM_eq_mapM_toList]
 exact np_map _ (np_mapM h _)
theorem np_build (t:TypeId) (ps:Array (Nat × Value)):NP P N (Instr.build t ps):=by
 unfold Instr.build
 refine NP.bind (np_zeroValue t) fun z=>NP.bind (np_underlying t) fun d=>?_
 split
 ·refine NP.bind (np_amapM (fun f=>NP.bind (np_sizeOf _) fun _=>NP.pure _) _) fun pl=>?_
  split <;> exact trivial
 ·refine NP.bind (np_sizeOf _) fun n=>?_
  split <;> exact trivial
 ·exact trivial
theorem np_buildSlice (t:TypeId) (n:Nat) (ps:Array (Nat × Value)):NP P N (Instr.buildSlice t n ps):=by
 unfold Instr.buildSlice
 refine NP.bind (np_underlying t) fun d=>?_
 split
 ·refine NP.bind (np_sizeOf _) fun k=>?_
  dsimp only
  split
  ·exact trivial
  ·split
   ·refine NP.bind (NP.pure _) fun z=>?_
    split
    ·exact NP.bind (np_newRow _ _) fun _=>trivial
    ·exact trivial
   ·refine NP.bind (np_zeroValue _) fun z=>NP.bind (NP.pure _) fun z=>?_
    split
    ·exact NP.bind (np_newRow _ _) fun _=>trivial
    ·exact trivial
 ·exact trivial
theorem np_loadAt (t:TypeId) (v:Value):NP P N (Instr.loadAt t v):=NP.bind (np_sureAddr v) fun a=>np_loadVar t a
theorem np_storeAt (t:TypeId) (v x:Value):NP P N (Instr.storeAt t v x):=NP.bind (np_sureAddr v) fun a=>np_storeVar t a x
theorem np_fieldAt (s:TypeId) (v:Value) (k:Nat) (h:∀ fs f i,P.underlying s = some (.struct fs)->fs[k]? = some f->P.info? f.type = some i->i.size≠0):NP P N (Instr.fieldAt s v k):=by
 unfold Instr.fieldAt
 refine np_und fun d hd=>?_
 split
 ·split
  ·rename_i f hf
   refine NP.bind (np_sureAddr v) fun a=>NP.bind ?_ fun _=>trivial
   unfold fieldPlace
   refine np_size fun i hi=>?_
   rw [if_neg (h _ _ _ hd hf hi)]
   exact trivial
  ·exact trivial
 ·exact trivial
theorem np_field (s:TypeId) (v:Value) (k:Nat):NP P N (Instr.field s v k):=by
 unfold Instr.field
 refine NP.bind (np_underlying s) fun d=>?_
 split
 ·split
  ·exact NP.bind (np_asAgg v) fun _=>np_part _ _ _
  ·exact trivial
 ·exact trivial
theorem np_indexAt (t:TypeId) (x i:Value):NP P N (Instr.indexAt t x i):=by
 unfold Instr.indexAt
 refine NP.bind (np_asIntOf i) fun ki=>NP.bind (np_underlying t) fun d=>?_
 dsimp only
 split
 ·refine NP.bind (np_sureAddr _) fun a=>NP.bind (NP.pure _) fun r=>NP.bind (np_underlying t) fun d=>?_
  (repeat' split) <;> first | exact trivial | exact np_boundsPanic _ _ _ _ | exact NP.bind (np_sizeOf _) fun _=>trivial
 ·refine NP.bind (NP.pure _) fun r=>NP.bind (np_underlying t) fun d=>?_
  (repeat' split) <;> first | exact trivial | exact np_boundsPanic _ _ _ _ | exact NP.bind (np_sizeOf _) fun _=>trivial
 ·exact (Dead.bind₁ (dead_stuck _)).np
theorem np_sliceBound (x:Value) (y:Nat) (c:BoundsCode):NP P N (Instr.sliceBound x y c):=by
 unfold Instr.sliceBound
 refine NP.bind (np_asIntOf x) fun ki=>?_
 dsimp only
 split
 ·exact trivial
 ·exact np_boundsPanic _ _ _ _
theorem np_sliceBounds (b:Bool) (len cap:Nat) (lo hi mx:Option Value):NP P N (Instr.sliceBounds b len cap lo hi mx):=by
 unfold Instr.sliceBounds
 cases mx <;> cases hi <;> cases lo <;> dsimp only <;>
  (repeat' (first | exact NP.pure _ | exact np_sliceBound _ _ _ | exact np_stuck _ | refine NP.bind ?_ fun _=>?_))
theorem np_slice (t:TypeId) (x:Value) (lo hi mx:Option Value):NP P N (Instr.slice t x lo hi mx):=by
 unfold Instr.slice
 refine NP.bind (np_underlying t) fun d=>?_
 split
 ·dsimp only
  split
  ·exact trivial
  ·exact NP.bind (np_sliceBounds _ _ _ _ _ _) fun _=>trivial
 ·exact NP.bind (np_sliceBounds _ _ _ _ _ _) fun _=>NP.bind (np_sizeOf _) fun _=>trivial
 ·refine NP.bind (np_asAddr _) fun a=>NP.bind (np_underlying _) fun d=>?_
  split
  ·exact NP.bind (np_sliceBounds _ _ _ _ _ _) fun _=>NP.bind (np_sizeOf _) fun _=>trivial
  ·exact trivial
 ·exact trivial
theorem np_sliceAt (t:TypeId) (x:Value) (lo hi mx:Option Value):NP P N (Instr.sliceAt t x lo hi mx):=by
 unfold Instr.sliceAt
 refine NP.bind (np_underlying t) fun d=>?_
 split
 ·exact NP.bind (np_sureAddr _) fun a=>NP.bind (np_sliceBounds _ _ _ _ _ _) fun _=>NP.bind (np_sizeOf _) fun _=>trivial
 ·exact np_slice _ _ _ _ _
theorem np_extract (v:Value) (k:Nat):NP P N (Instr.extract v k):=by
 unfold Instr.extract
 split
 ·split <;> exact trivial
 ·exact trivial
theorem np_len (ts:Array TypeId) (ty:TypeId) (xs:Array Value) (h:∀ t,ts[0]? = some t->P.underlying t = some .string\/∃ e,P.underlying t = some (.slice e)):NP P N (Builtin.len_ ts ty xs):=by
 unfold Builtin.len_
 generalize ts[0]? = o1 at h ⊢
 generalize xs[0]? = o2
 cases o1 with
 | none=>cases o2 <;> exact trivial
 | some t=>
  cases o2 with
  | none=>exact trivial
  | some x=>
   refine np_und fun d hd=>?_
   rcases h t rfl with q | ⟨e,q⟩ <;> (rw [q] at hd;cases hd;cases x <;> exact trivial)
theorem np_cap (ts:Array TypeId) (ty:TypeId) (xs:Array Value) (h:∀ t,ts[0]? = some t->∃ e,P.underlying t = some (.slice e)):NP P N (Builtin.cap_ ts ty xs):=by
 unfold Builtin.cap_
 generalize ts[0]? = o1 at h ⊢
 generalize xs[0]? = o2
 cases o1 with
 | none=>cases o2 <;> exact trivial
 | some t=>
  cases o2 with
  | none=>exact trivial
  | some x=>
   refine np_und fun d hd=>?_
   obtain ⟨e,q⟩:=h t rfl
   rw [q] at hd;cases hd;cases x <;> exact trivial
theorem np_clear (ts:Array TypeId) (ty:TypeId) (xs:Array Value) (h:∀ r,xs[0]?≠some (.map r)):NP P N (Builtin.clear_ ts ty xs):=by
 unfold Builtin.clear_
 generalize ts[0]? = o1
 generalize xs[0]? = o2 at h ⊢
 cases o1 with
 | none=>cases o2 <;> exact trivial
 | some t=>
  cases o2 with
  | none=>exact trivial
  | some x=>
   refine NP.bind (np_underlying t) fun d=>?_
   have hd:NP P N (do (stuck "clear: map or slice expected":Sem Unit);Pure.pure (Value.tuple #[]):Sem Value):=(Dead.bind₁ (dead_stuck _)).np
   cases x with
   | map r=>exact absurd rfl (h r)
   | slice b n c=>
    cases b with
    | none=>exact trivial
    | some a=>
     cases n with
     | zero=>exact trivial
     | succ n=>cases d <;> first | exact hd | exact NP.bind (np_zeroValue _) fun z=>NP.bind (np_storeCells _ _ _) fun _=>trivial
   | _=>cases d <;> exact hd
theorem np_lenOf (x:Value):NP P N (Builtin.lenOf x):=by unfold Builtin.lenOf;split <;> exact trivial
theorem np_firstCells (n k:Nat) (x:Value):NP P N (Builtin.firstCells n k x):=by
 unfold Builtin.firstCells
 split
 ·exact np_loadCells _ _
 ·exact trivial
 ·exact trivial
 ·exact trivial
theorem np_copy (ts:Array TypeId) (ty:TypeId) (xs:Array Value):NP P N (Builtin.copy_ ts ty xs):=by
 unfold Builtin.copy_
 split
 ·refine NP.bind (np_underlying _) fun d=>?_
  split
  ·split
   ·refine NP.bind (np_lenOf _) fun n=>NP.bind (np_sizeOf _) fun k=>NP.bind (np_firstCells _ _ _) fun c=>?_
    dsimp only
    split
    ·exact NP.bind (np_storeCells _ _ _) fun _=>trivial
    ·exact trivial
   ·exact trivial
  ·exact trivial
 ·exact trivial
theorem np_min2 (x y:Value):NP P N (Builtin.min2 x y):=by
 unfold Builtin.min2
 split
 ·exact trivial
 ·split
  ·exact NP.bind (np_choose _) fun _=>trivial
  ·exact trivial
  ·exact trivial
  ·exact trivial
 ·refine NP.bind ?_ fun v=>NP.bind (np_asBool v) fun _=>trivial
  unfold Op.stringOp;exact trivial
 ·exact trivial
 ·exact trivial
 ·exact trivial
theorem np_max2 (x y:Value):NP P N (Builtin.max2 x y):=by
 unfold Builtin.max2
 split
 ·exact trivial
 ·split
  ·exact NP.bind (np_choose _) fun _=>trivial
  ·exact trivial
  ·exact trivial
  ·exact trivial
 ·refine NP.bind ?_ fun v=>NP.bind (np_asBool v) fun _=>trivial
  unfold Op.stringOp;exact trivial
 ·exact trivial
 ·exact trivial
 ·exact trivial
theorem np_foldlM {α β:Type} {f:β->α->Sem β} (h:∀ b a,NP P N (f b a)):∀ (l:List α) (b:β),NP P N (l.foldlM f b)
 | [],b=>by rw [List.foldlM_nil];exact trivial
 | a :: l,b=>by rw [List.foldlM_cons];exact NP.bind (h b a) fun c=>np_foldlM h l c
theorem np_min (ts:Array TypeId) (ty:TypeId) (xs:Array Value):NP P N (Builtin.min_ ts ty xs):=by
 unfold Builtin.min_
 split
 ·exact trivial
 ·exact np_foldlM np_min2 _ _
theorem np_max (ts:Array TypeId) (ty:TypeId) (xs:Array Value):NP P N (Builtin.max_ ts ty xs):=by
 unfold Builtin.max_
 split
 ·exact trivial
 ·exact np_foldlM np_max2 _ _
theorem np_stringOp (op:BinOp) (x y:ByteArray):NP P N (Op.stringOp op x y):=by
 unfold Op.stringOp
 dsimp only
 split <;> first | exact trivial | (split <;> exact trivial)
theorem np_intArith (op:BinOp) (k:IntKind) (x y:Int):NP P N (Op.intArith op k x y):=by unfold Op.intArith;split <;> exact trivial
theorem np_intDiv (op:BinOp) (k:IntKind) (x y:Int):NP P N (Op.intDiv op k x y):=by
 unfold Op.intDiv
 split
 ·exact np_runtimePanic _
 ·split <;> exact trivial
theorem np_intBits (op:BinOp) (k:IntKind) (x y:Int):NP P N (Op.intBits op k x y):=by
 unfold Op.intBits
 dsimp only
 split <;> exact trivial
theorem np_intCmp (op:BinOp) (x y:Int):NP P N (Op.intCmp op x y):=by unfold Op.intCmp;split <;> exact trivial
theorem np_shift (op:BinOp) (k:IntKind) (x:Int) (q:IntKind) (y:Int):NP P N (Op.shift op k x q y):=by
 unfold Op.shift
 split
 ·exact np_runtimePanic _
 ·dsimp only;split <;> exact trivial
theorem np_unary (op:UnOp) (x:Value):NP P N (Op.unary op x):=by
 unfold Op.unary
 split <;> first | exact trivial | exact np_intArith _ _ _ _ | exact np_intBits _ _ _ _
theorem np_binInt (op:BinOp) (t:TypeId) (k k':IntKind) (a b:Int):NP P N (binOp op t (.int k a) (.int k' b)):=by
 have h1:NP P N (if k≠k' then stuck "BinOp: operands of different kinds" else
  match op with
  | .add | .sub | .mul=>Op.intArith op k a b
  | .quo | .rem=>Op.intDiv op k a b
  | .and | .or | .xor | .andNot=>Op.intBits op k a b
  | _=>Op.intCmp op a b:Sem Value):=by
  split
  ·exact trivial
  ·split <;> first | exact np_intArith _ _ _ _ | exact np_intDiv _ _ _ _ | exact np_intBits _ _ _ _ | exact np_intCmp _ _ _
 cases op <;> first | exact h1 | (unfold binOp;exact np_shift _ _ _ _ _)
theorem np_binStr (op:BinOp) (t:TypeId) (a b:ByteArray):NP P N (binOp op t (.string a) (.string b)):=by
 cases op <;> (unfold binOp;exact np_stringOp _ _ _)
theorem np_guard (op:BinOp) (t:TypeId) (x y:Operand) (a b:Value) (h:∀ l,a≠.agg l) (h2:a≠.nilIface):NP P N (eqGuard op t x y a b):=by
  unfold eqGuard
  split <;> (split
             · exact trivial
             · split
               · exact absurd rfl h2
               · exact absurd rfl (h _)
               · exact trivial)
theorem np_share {α:Type} {s k n:Nat} {b:Option Addr} {x:Value} {f:Bool->Sem α} (h:∀ c,Dead P (f c)):NP P N (Builtin.mayShare s k n b x >>= f):=(Dead.bind h).np
theorem np_append (ts:Array TypeId) (ty:TypeId) (xs:Array Value):NP P N (Builtin.append_ ts ty xs):=by
 unfold Builtin.append_
 split
 ·refine NP.bind (np_underlying _) fun d=>?_
  split
  ·split
   ·refine NP.bind (np_sizeOf _) fun k=>?_
    extract_lets j0 j1
    have h1:∀ z,NP P N (j1 z):=by
     intro z
     simp -zeta -zetaHave -zetaUnused only [j1]
     extract_lets j2
     have h2:∀ n,NP P N (j2 n):=by
      intro n
      simp -zeta -zetaHave -zetaUnused only [j2]
      extract_lets ap need j7 j4 j3
      have ha:NP P N ap:=by
       simp -zeta -zetaHave only [ap]
       split
       ·exact np_firstCells _ _ _
       ·split
        ·exact trivial
        ·exact NP.bind (np_zeroValue _) fun _=>trivial
      clear_value ap
      split
      ·refine NP.bind ha fun c=>?_
       split
       ·exact NP.bind (np_storeCells _ _ _) fun _=>trivial
       ·exact trivial
      ·refine NP.bind (np_typeInfo _) fun i=>?_
       have h4:∀ u,NP P N (j4 u):=by
        intro u
        simp -zeta -zetaHave -zetaUnused only [j4]
        exact NP.bind (np_choose _) fun c=>NP.bind (np_typeInfo _) fun i=>NP.bind (np_askRoom _) fun _=>NP.bind (np_firstCells _ _ _) fun o=>NP.bind ha fun n=>NP.bind (np_zeroValue _) fun z=>NP.bind (np_newRow _ _) fun _=>trivial
       clear_value j4
       have h3:∀ u,NP P N (j3 u):=by
        intro u
        simp -zeta -zetaHave -zetaUnused only [j3]
        refine NP.bind (np_typeInfo _) fun i=>?_
        split
        ·refine NP.bind ?_ fun u=>h4 u
         split
         ·exact np_runtimePanic _
         ·refine np_share fun c=>?_
          split
          ·exact Dead.bind fun _=>dead_unsupported _
          ·exact dead_unsupported _
        ·exact h4 _
       clear_value j3
       split
       ·exact NP.bind (np_runtimePanic _) fun u=>h3 u
       ·exact h3 _
     clear_value j2
     split
     ·refine NP.bind (np_asInt _) fun l=>?_
      extract_lets l' j6 j5
      have h6:∀ u,NP P N (j6 u):=by
       intro u
       simp -zeta -zetaHave -zetaUnused only [j6]
       exact NP.bind (NP.pure _) fun n=>h2 n
      clear_value j6
      have h5:∀ u,NP P N (j5 u):=by
       intro u
       simp -zeta -zetaHave -zetaUnused only [j5]
       refine NP.bind (np_typeInfo _) fun i=>?_
       split
       ·exact NP.bind (np_choose _) fun c=>NP.bind (np_runtimePanic _) fun u=>h6 u
       ·exact h6 _
      clear_value j5
      split
      ·exact NP.bind (np_runtimePanic _) fun u=>h5 u
      ·exact h5 _
     ·exact NP.bind (np_lenOf _) fun n=>h2 n
    clear_value j1
    split
    ·exact NP.bind (np_underlying _) fun d=>NP.bind (NP.pure _) fun z=>h1 z
    ·exact NP.bind (NP.pure _) fun z=>h1 z
   ·exact trivial
  ·exact trivial
 ·exact trivial
theorem np_index (t:TypeId) (x i:Value):NP P N (Instr.index t x i):=by
 unfold Instr.index
 refine NP.bind (np_asIntOf i) fun ki=>NP.bind (np_underlying t) fun d=>?_
 split
 ·split
  ·exact NP.bind (np_sizeOf _) fun _=>np_part _ _ _
  ·exact np_boundsPanic _ _ _ _
 ·split
  ·exact trivial
  ·exact np_boundsPanic _ _ _ _
 ·exact trivial
theorem np_mark {a:Addr} (h:N<=a.block):NP P N (markStringish a):=by
 unfold markStringish
 refine Or.inl ⟨h,fun s=>?_⟩
 cases s with
 | none=>exact trivial
 | some q=>exact Or.inl ⟨h,trivial⟩
theorem np_stringToBytes (e:TypeId) (s:ByteArray):NP P N (Conv.stringToBytes e s):=by
 unfold Conv.stringToBytes
 refine NP.bind (np_choose _) fun cap=>?_
 refine Or.inl ⟨⟨_,_,_,rfl⟩,fun r hr=>?_⟩
 exact (show NP P N (do markStringish (⟨r,0,none⟩:Addr);Pure.pure (Value.slice (some ⟨r,0,none⟩) s.size cap):Sem Value) from NP.bind (np_mark hr) fun _=>trivial)
theorem np_eqBool (d:Nat) (t:TypeId) (a b:Bool):NP P N (Op.equalIn (d + 1) t (.bool a) (.bool b)):=by
 unfold Op.equalIn
 refine NP.bind (np_underlying t) fun u=>?_
 cases u <;> exact trivial
theorem np_eqNil (d:Nat) (t:TypeId) (a:Option Addr):NP P N (Op.equalIn (d + 1) t (.pointer a) (.pointer none)):=by
 unfold Op.equalIn
 refine NP.bind (np_underlying t) fun u=>?_
 cases u <;> cases a <;> exact trivial
theorem np_eqNils (d:Nat) (t:TypeId) (a:Option Addr) (n c:Nat):NP P N (Op.equalIn (d + 1) t (.slice a n c) (.slice none 0 0)):=by
 unfold Op.equalIn
 refine NP.bind (np_underlying t) fun u=>?_
 cases u <;> cases a <;> exact trivial
theorem np_binBool (op:BinOp) (h:op = .eql\/op = .neq) (t:TypeId) (a b:Bool):NP P N (binOp op t (.bool a) (.bool b)):=by
 rcases h with rfl | rfl <;> (unfold binOp;exact NP.bind (np_eqBool 9999 t a b) fun _=>trivial)
theorem np_binNil (op:BinOp) (h:op = .eql\/op = .neq) (t:TypeId) (a:Option Addr):NP P N (binOp op t (.pointer a) (.pointer none)):=by
 rcases h with rfl | rfl <;> (unfold binOp;exact NP.bind (np_eqNil 9999 t a) fun _=>trivial)
theorem np_binNils (op:BinOp) (h:op = .eql\/op = .neq) (t:TypeId) (a:Option Addr) (n c:Nat):NP P N (binOp op t (.slice a n c) (.slice none 0 0)):=by
 rcases h with rfl | rfl <;> (unfold binOp;exact NP.bind (np_eqNils 9999 t a n c) fun _=>trivial)
end np
open Go.Am
def pev {α:Type} (P:Program):Sem α->Option α
 | .pure a=>some a
 | .program k=>pev P (k P)
 | _=>none
section
variable {P:Program} {M:Nat} {α β:Type}
theorem pev_np:∀ {x:Sem α} {a:α},pev P x = some a->NP P M x
 | .pure _,_,_=>trivial
 | .program k,_,h=>pev_np (x:=k P) h
 | .load ..,_,h=>by simp [pev] at h
 | .store ..,_,h=>by simp [pev] at h
 | .new ..,_,h=>by simp [pev] at h
 | .shape ..,_,h=>by simp [pev] at h
 | .freeze ..,_,h=>by simp [pev] at h
 | .frozen ..,_,h=>by simp [pev] at h
 | .getObj ..,_,h=>by simp [pev] at h
 | .setObj ..,_,h=>by simp [pev] at h
 | .choose ..,_,h=>by simp [pev] at h
 | .sys ..,_,h=>by simp [pev] at h
 | .mark ..,_,h=>by simp [pev] at h
 | .halt ..,_,h=>by simp [pev] at h
theorem pev_bind':∀ (x:Sem α) (f:α->Sem β) {a:α} {b:β},pev P x = some a->pev P (f a) = some b->pev P (x.bind f) = some b
 | .pure _,_,_,_,h,k=>by simp only [pev,Option.some.injEq] at h;subst h;exact k
 | .program q,f,_,_,h,k=>pev_bind' (q P) f h k
 | .load ..,_,_,_,h,_=>by simp [pev] at h
 | .store ..,_,_,_,h,_=>by simp [pev] at h
 | .new ..,_,_,_,h,_=>by simp [pev] at h
 | .shape ..,_,_,_,h,_=>by simp [pev] at h
 | .freeze ..,_,_,_,h,_=>by simp [pev] at h
 | .frozen ..,_,_,_,h,_=>by simp [pev] at h
 | .getObj ..,_,_,_,h,_=>by simp [pev] at h
 | .setObj ..,_,_,_,h,_=>by simp [pev] at h
 | .choose ..,_,_,_,h,_=>by simp [pev] at h
 | .sys ..,_,_,_,h,_=>by simp [pev] at h
 | .mark ..,_,_,_,h,_=>by simp [pev] at h
 | .halt ..,_,_,_,h,_=>by simp [pev] at h
theorem pev_bind {x:Sem α} {f:α->Sem β} {a:α} {b:β} (h:pev P x = some a) (k:pev P (f a) = some b):pev P (x >>= f) = some b:=pev_bind' x f h k
theorem pev_underlying {t:TypeId} {d:TypeDesc} (h:P.underlying t = some d):pev P (underlying t) = some d:=by
 show pev P (match P.underlying t with | some d=>Pure.pure d | none=>stuck "no such type":Sem TypeDesc) = some d
 rw [h];rfl
theorem pev_part {t:TypeId} {d:TypeDesc} {cs:Array Value} {o:Nat} {V:Value} (hd:P.underlying t = some d) (h1:∀ fs,d≠.struct fs) (h2:∀ n e,d≠.array n e) (hc:cs[o]? = some V):pev P (part t cs o) = some V:=by
 unfold part
 refine pev_bind (a:=false) ?_ ?_
 ·unfold isAgg
  refine pev_bind (pev_underlying hd) ?_
  cases d <;> first | rfl | exact absurd rfl (h1 _) | exact absurd rfl (h2 _ _)
 ·simp only [Bool.false_eq_true,if_false,hc]
  rfl
theorem pev_eqC {ρ:Rho} {k:Nat} {u v:SV} {r:Bool} {t:TypeId} {y:Ty} (hy:TyOk P t y) (h:eqC y.kind u v = some r) {U V:Value} (hu:u.rel ρ U) (hv:v.rel ρ V):pev P (Op.equalIn (k + 1) t U V) = some r:=by
 obtain ⟨i,d,z,hi,hd,_,hsz,_,_,_,k1,k2,k3,_⟩:=hy.info
 unfold eqC at h
 unfold Op.equalIn
 split at h
 ·rename_i e
  split at h
  ·rename_i e2
   subst e2
   cases h
   obtain rfl:=hu
   obtain rfl:=hv
   rw [k1 e] at hd
   refine pev_bind (pev_underlying hd) ?_
   simp [pev,Pure.pure]
  ·cases h
 ·rename_i e
  cases h
  obtain rfl:=hu
  obtain rfl:=hv
  rw [k2 e] at hd
  refine pev_bind (pev_underlying hd) ?_
  simp [pev,Pure.pure]
 ·rename_i e
  cases h
  obtain rfl:=hu
  obtain rfl:=hv
  rw [k3 e] at hd
  refine pev_bind (pev_underlying hd) ?_
  show some _ = some _
  rw [beq_toListBytes]
  simp
 ·cases h
theorem pev_inv':∀ (x:Sem α) (f:α->Sem β) {b:β},pev P (x.bind f) = some b->∃ a,pev P x = some a/\pev P (f a) = some b
 | .pure a,_,_,h=>⟨a,rfl,h⟩
 | .program q,f,_,h=>pev_inv' (q P) f h
 | .load ..,_,_,h=>by simp [Sem.bind,pev] at h
 | .store ..,_,_,h=>by simp [Sem.bind,pev] at h
 | .new ..,_,_,h=>by simp [Sem.bind,pev] at h
 | .shape ..,_,_,h=>by simp [Sem.bind,pev] at h
 | .freeze ..,_,_,h=>by simp [Sem.bind,pev] at h
 | .frozen ..,_,_,h=>by simp [Sem.bind,pev] at h
 | .getObj ..,_,_,h=>by simp [Sem.bind,pev] at h
 | .setObj ..,_,_,h=>by simp [Sem.bind,pev] at h
 | .choose ..,_,_,h=>by simp [Sem.bind,pev] at h
 | .sys ..,_,_,h=>by simp [Sem.bind,pev] at h
 | .mark ..,_,_,h=>by simp [Sem.bind,pev] at h
 | .halt ..,_,_,h=>by simp [Sem.bind,pev] at h
theorem pev_inv {x:Sem α} {f:α->Sem β} {b:β} (h:pev P (x >>= f) = some b):∃ a,pev P x = some a/\pev P (f a) = some b:=pev_inv' x f h
theorem pev_struct {d:Nat} {t:TypeId} {xs ys:Array Value} {fs:Array Field} {r:Bool} (ht:P.underlying t = some (.struct fs)) (hp:P.stoodInHeld t = false) (h:pev P (Op.eqFields d xs ys fs.toList) = some r):
 pev P (Op.equalIn (d + 1) t (.agg xs) (.agg ys)) = some r:=by
 unfold Op.equalIn
 refine pev_bind (pev_underlying ht) ?_
 dsimp only
 refine pev_bind (a:=P) rfl ?_
 simp only [hp,Bool.false_eq_true,if_false]
 rw [<- Array.forIn_toList]
 generalize fs.toList = l at h ⊢
 clear ht
 induction l with
 | nil=>
  simp only [Op.eqFields] at h
  simp only [List.forIn_nil]
  exact h
 | cons f l ih=>
  simp only [List.forIn_cons]
  simp only [Op.eqFields] at h
  by_cases hn:f.name≠ "_"
  ·rw [if_pos hn] at h
   obtain ⟨A,hA,h⟩:=pev_inv h
   obtain ⟨B,hB,h⟩:=pev_inv h
   obtain ⟨q,hq,h⟩:=pev_inv h
   cases q with
   | false=>
    simp only [Bool.not_false,if_true] at h
    have hr:r = false:=by simpa [pev,Pure.pure] using h.symm
    subst hr
    refine pev_bind (a:=(some false,())) (pev_bind (a:=(ForInStep.done (some false,()):ForInStep (Option Bool × Unit))) ?_ rfl) rfl
    simp only [if_pos hn]
    exact pev_bind hA (pev_bind hB (pev_bind hq rfl))
   | true=>
    simp only [Bool.not_true,Bool.false_eq_true,if_false] at h
    obtain ⟨st,h1,h2⟩:=pev_inv (ih h)
    refine pev_bind (a:=st) (pev_bind (a:=(ForInStep.yield (none,()):ForInStep (Option Bool × Unit))) ?_ h1) h2
    simp only [if_pos hn]
    exact pev_bind hA (pev_bind hB (pev_bind hq rfl))
  ·rw [if_neg hn] at h
   obtain ⟨st,h1,h2⟩:=pev_inv (ih h)
   refine pev_bind (a:=st) (pev_bind (a:=(ForInStep.yield (none,()):ForInStep (Option Bool × Unit))) ?_ h1) h2
   simp only [if_neg hn]
   rfl
theorem pev_eqFields {E:Env} {ρ:Rho} (hty:∀ t y,E.ty t = some y->TyOk P t y) (d:Nat) {a b:List SV} {xs ys:Array Value} (ha:All2 (SV.rel ρ) a xs.toList) (hb:All2 (SV.rel ρ) b ys.toList):
 ∀ (fs:List Field) (r:Bool),(∀ f∈fs,f.name≠ "_")->eqFields E (fs.map (fieldSz P)) a b = some r->pev P (Op.eqFields (d + 1) xs ys fs) = some r
 | [],r,_,h=>by simp [eqFields] at h;subst h;rfl
 | f :: fs,r,hf,h=>by
  simp only [List.map_cons,eqFields,fieldSz] at h
  split at h
  ·rename_i y u v hy hu hv
   have hne:=hf f (by simp)
   cases e:eqC y.kind u v with
   | none=>simp [e] at h
   | some q=>
    have hk:=eqC_kind e
    obtain ⟨_,dd,_,_,hd,_,_,_,_,_,_,_,_,_,_,_,_,hno⟩:=(hty _ _ hy).info
    have hno:=hno hk.1 hk.2
    obtain ⟨U,hU,rU⟩:=ha.get _ _ hu
    obtain ⟨V,hV,rV⟩:=hb.get _ _ hv
    have pU:pev P (Go.part f.type xs f.offset) = some U:=pev_part hd (fun fs e=>(hno fs 0 0).1 e) (fun n e h=>(hno #[] n e).2 h) (by simpa using hU)
    have pV:pev P (Go.part f.type ys f.offset) = some V:=pev_part hd (fun fs e=>(hno fs 0 0).1 e) (fun n e h=>(hno #[] n e).2 h) (by simpa using hV)
    have hq:=pev_eqC (k:=d) (hty _ _ hy) e rU rV
    simp only [Op.eqFields,if_pos hne]
    refine pev_bind pU (pev_bind pV (pev_bind hq ?_))
    cases q with
    | true=>simp only [e] at h;simpa using pev_eqFields hty d ha hb fs r (fun g hg=>hf g (by simp [hg])) h
    | false=>simp only [e,Option.some.injEq] at h;subst h;rfl
  ·cases h
end
open Go.Am
def kindIn (E:Env) (t:Option Nat) (l:List Nat):Bool:=
 match t with
 | some t=>match E.ty t with
  | some y=>l.contains y.kind
  | none=>false
 | none=>false
def coOp (E:Env) (o:Oper):Bool:=
 match o.op with
 | .move _ | .assign _ | .pick .. | .alloc _ | .box .. | .build .. | .buildSlice .. | .load .. | .store .. | .nilCheck _ | .unOp .. | .makeFunc .. | .slice .. | .fieldAddr .. | .field .. | .indexAddr .. | .index .. | .extract ..=>true
 | .binOp _ t _ _ _=>kindIn E (some t) [1,2,3,4,6,7]
 | .convert _ d _=>kindIn E (some d) [1,4]
 | .call ⟨.builtin b,_,ts⟩=>match b with
  | .append | .copy | .min | .max=>true
  | .clear=>kindIn E ts[0]? [4]
  | .len=>kindIn E ts[0]? [3,4]
  | .cap=>kindIn E ts[0]? [4]
  | _=>false
 | .call ⟨.value _,_,_⟩=>true
 | _=>false
theorem kindIn_some {E:Env} {t:Option Nat} {l:List Nat} (h:kindIn E t l = true):∃ q y,t = some q/\E.ty q = some y/\y.kind∈l:=by
 unfold kindIn at h
 split at h
 ·split at h
  ·rename_i q _ y hy
   exact ⟨q,y,rfl,hy,by simpa using h⟩
  ·cases h
 ·cases h
section
variable {P:Program} {M:Nat} {E:Env} {ρ:Rho}
theorem np_v {x:Sem Value} (h:NP P M x):NP P M (do Pure.pure (Next.value (<- x)):Sem Next):=NP.bind h fun _=>trivial
theorem np_u {x:Sem Unit} (h:NP P M x):NP P M (do x;Pure.pure Next.skip:Sem Next):=NP.bind h fun _=>trivial
theorem np_op (hE:EnvOk P E) {ev:Operand->AV} {a:Act} (hev:∀ x,(ev x).rel ρ (a.eval x)) {o:Oper} (hc:coOp E o = true) {call:CallF} {fl:Nat} {lim:Option Nat} {m m':Mem} {n n':Nat} {v:AV}
 (h:opA E call fl lim ev m n o.op = some (v,m',n')) (hnc:isCall o.op = false):NP P M (execOp a.eval o):=by
 obtain ⟨dst,op,typ,pos,after,guard⟩:=o
 simp only [coOp] at hc
 simp only at h hnc
 cases op with
 | move x=>exact trivial
 | assign x=>exact trivial
 | pick c x y=>exact NP.bind (np_asBool _) fun _=>trivial
 | alloc e=>exact np_v (np_alloc _ _)
 | box e x=>exact np_v (np_box _ _)
 | build t ps=>exact np_v (np_build _ _)
 | buildSlice t l ps=>exact np_v (np_buildSlice _ _ _)
 | load t x=>exact np_v (np_loadAt _ _)
 | store t x y=>exact np_u (np_storeAt _ _ _)
 | unOp op t x=>exact np_v (np_unary _ _)
 | makeFunc f x y=>exact np_v trivial
 | slice t x lo hi mx=>exact np_v (np_sliceAt _ _ _ _ _)
 | field t x k=>exact np_v (np_field _ _ _)
 | indexAddr t x i=>exact np_v (np_indexAt _ _ _)
 | extract x i=>exact np_v (np_extract _ _)
 | index t x i=>exact np_v (np_index _ _ _)
 | nilCheck x=>
  have hx:=hev x
  simp only [opA] at h
  simp only [execOp]
  split at h
  ·rename_i i o e
   rw [e] at hx
   obtain ⟨p,_,hv⟩:=hx
   rw [hv]
   exact trivial
  ·rename_i f c e
   rw [e] at hx
   obtain ⟨cs,hv,_⟩:=hx
   rw [hv]
   exact trivial
  ·cases h
 | fieldAddr t x k=>
  refine np_v (np_fieldAt _ _ _ fun fs f i hu hf hi=>?_)
  simp only [opA] at h
  split at h
  ·rename_i y i o hy hx
   split at h
   ·cases h
   ·rename_i hk
    have hk:y.kind = 6:=by omega
    split at h
    ·rename_i off ft sz hfl
     split at h
     ·cases h
     ·rename_i hs
      obtain ⟨i',d,z,h1,h2,h3,h4,h5,h6,h7,_,_,_,_,_,_,h8,_⟩:=(hE.ty t y hy).info
      obtain ⟨fs',rfl,_,h9,_⟩:=h8 hk
      rw [hu] at h2
      cases h2
      rw [h9,List.getElem?_map] at hfl
      rw [Array.getElem?_toList,hf] at hfl
      simp only [Option.map_some,fieldSz,hi,Option.getD_some,Option.some.injEq,Prod.mk.injEq] at hfl
      rw [hfl.2.2]
      exact hs
    ·cases h
  ·cases h
 | binOp op t x y e=>
  obtain ⟨q,ty,hq,hty,hk⟩:=kindIn_some hc
  cases hq
  simp only [opA] at h
  obtain ⟨r,hr,_⟩:=Option.map_eq_some_iff.1 h
  have hx:=hev x
  have hy:=hev y
  have key:(∃ k p k' q,ev x = .sc (.int k p)/\ev y = .sc (.int k' q))\/(∃ p q,ev x = .sc (.str p)/\ev y = .sc (.str q))\/((op = .eql\/op = .neq)/\∃ neg,eqOp E neg t (ev x) (ev y) = some r):=by
   unfold binA at hr
   split at hr <;> first
    | exact .inl ⟨_,_,_,_,by assumption,by assumption⟩
    | exact .inr (.inl ⟨_,_,by assumption,by assumption⟩)
    | exact .inr (.inr ⟨.inl rfl,_,hr⟩)
    | exact .inr (.inr ⟨.inr rfl,_,hr⟩)
    | cases hr
  have fin:∀ X Y:Value,(∀ l,X≠.agg l)->X≠.nilIface->NP P M (Go.binOp op t X Y)->a.eval x = X->a.eval y = Y->NP P M (do Pure.pure (Next.value (<- (do eqGuard op t x y (a.eval x) (a.eval y);Go.binOp op t (a.eval x) (a.eval y):Sem Value))):Sem Next):=by
   intro X Y h1 h2 h3 e1 e2
   rw [e1,e2]
   exact np_v (NP.bind (np_guard _ _ _ _ _ _ h1 h2) fun _=>h3)
  show NP P M (do Pure.pure (Next.value (<- (do eqGuard op t x y (a.eval x) (a.eval y);Go.binOp op t (a.eval x) (a.eval y):Sem Value))):Sem Next)
  rcases key with ⟨k,p,k',q,h1,h2⟩ | ⟨p,q,h1,h2⟩ | ⟨hop,neg,he⟩
  ·rw [h1] at hx
   rw [h2] at hy
   exact fin (.int k p) (.int k' q) (fun _ h=>by cases h) (fun h=>by cases h) (np_binInt _ _ _ _ _ _) hx hy
  ·rw [h1] at hx
   rw [h2] at hy
   exact fin (.string ⟨p.toArray⟩) (.string ⟨q.toArray⟩) (fun _ h=>by cases h) (fun h=>by cases h) (np_binStr _ _ _ _) hx hy
  ·unfold eqOp at he
   rw [hty] at he
   simp only [Option.map_some,Option.some.injEq] at he
   split at he
   ·rename_i p q h1 h2
    rw [h1] at hx;rw [h2] at hy
    exact fin (.bool p) (.bool q) (fun _ h=>by cases h) (fun h=>by cases h) (np_binBool _ hop _ _ _) hx hy
   ·rename_i h1 h2
    rw [h1] at hx;rw [h2] at hy
    exact fin (.pointer none) (.pointer none) (fun _ h=>by cases h) (fun h=>by cases h) (np_binNil _ hop _ _) hx hy
   ·rename_i i o h1 h2
    rw [h1] at hx;rw [h2] at hy
    obtain ⟨p,_,hv⟩:=hx
    exact fin (.pointer (some _)) (.pointer none) (fun _ h=>by cases h) (fun h=>by cases h) (np_binNil _ hop _ _) hv hy
   ·rename_i h1 h2
    rw [h1] at hx;rw [h2] at hy
    exact fin (.slice none 0 0) (.slice none 0 0) (fun _ h=>by cases h) (fun h=>by cases h) (np_binNils _ hop _ _ _ _) hx hy
   ·rename_i h1 h2
    rw [h1] at hx;rw [h2] at hy
    obtain ⟨_,_,_,_,_,_,_,hv⟩:=hx
    exact fin (.slice (some _) _ _) (.slice none 0 0) (fun _ h=>by cases h) (fun h=>by cases h) (np_binNils _ hop _ _ _ _) hv hy
   ·rename_i h1 h2
    rw [h1] at hx;rw [h2] at hy
    obtain ⟨_,_,hv⟩:=hx
    exact fin (.slice (some _) _ _) (.slice none 0 0) (fun _ h=>by cases h) (fun h=>by cases h) (np_binNils _ hop _ _ _ _) hv hy
   ·rename_i p q h1 h2
    rw [h1] at hx;rw [h2] at hy
    obtain ⟨xs,hX,ha⟩:=hx
    obtain ⟨ys,hY,hb⟩:=hy
    split at he
    ·rename_i h6
     obtain ⟨i,d,z,hi,hd,_,_,_,_,_,_,_,_,_,_,_,k6,_⟩:=(hE.ty t ty hty).info
     obtain ⟨fs,rfl,hf,hfs,hst,hgd⟩:=k6 h6
     rw [hfs] at he
     cases q':eqFields E (fs.toList.map (fieldSz P)) p q with
     | none=>rw [q'] at he;simp [notO] at he
     | some r'=>
      have pe:=pev_struct (d:=9999) hd hst (pev_eqFields hE.ty 9998 ha hb fs.toList r' (fun f hm=>(hf f hm).2) q')
      rw [hX,hY]
      refine np_v (NP.bind ?_ fun _=>?_)
      ·rcases hop with rfl | rfl <;> exact pev_np (a:=()) (by
        unfold eqGuard
        refine pev_bind (a:=P) rfl (pev_bind (a:=P) rfl ?_)
        simp [hgd,pev,Pure.pure])
      ·rcases hop with rfl | rfl <;> (unfold Go.binOp;exact NP.bind (pev_np pe) fun _=>trivial)
    ·cases he
   ·cases he
 | convert s d x=>
  obtain ⟨q,ty,hq,hty,hk⟩:=kindIn_some hc
  cases hq
  have hx:=hev x
  simp only [opA,convA] at h
  simp only [execOp]
  refine np_v ?_
  unfold convert
  split at h
  ·rename_i k n' e e1 e3 e2
   rw [hty] at e3;cases e3
   rw [e2] at hx
   rw [show a.eval x = .int _ _ from hx]
   split at h
   ·rename_i hk1
    obtain ⟨_,dd,_,_,h2,_,_,_,_,_,h3,_⟩:=(hE.ty d ty hty).info
    have h3:=h3 hk1
    subst h3
    refine NP.bind (np_underlying _) fun ds=>np_und fun d2 hd2=>?_
    rw [h2] at hd2;cases hd2
    exact trivial
   ·cases h
  ·rename_i y1 y2 l e1 e2 e3
   rw [hty] at e2;cases e2
   split at h
   ·rename_i hk3
    split at h
    ·rename_i e he
     split at h
     ·rename_i hke
      rw [e3] at hx
      rw [show a.eval x = .string ⟨l.toArray⟩ from hx]
      obtain ⟨_,dd,_,_,h2,_,_,_,_,_,_,_,_,h4,_⟩:=(hE.ty d ty hty).info
      have h4:=h4 hk3.2
      subst h4
      obtain ⟨_,de,_,_,g2,_,_,_,_,_,g3,_⟩:=(hE.ty ty.elem e he).info
      have g3:=g3 hke.1
      rw [hke.2.1] at g3
      subst g3
      obtain ⟨_,dsrc,_,_,s2,_,_,_,_,_,_,_,s3,_⟩:=(hE.ty s y1 e1).info
      have s3:=s3 hk3.1
      subst s3
      refine np_und fun ds hds=>np_und fun d2 hd2=>?_
      rw [s2] at hds;cases hds
      rw [h2] at hd2;cases hd2
      refine np_und fun d3 hd3=>?_
      rw [g2] at hd3;cases hd3
      exact np_stringToBytes _ _
     ·cases h
    ·cases h
   ·cases h
  ·cases h
 | call c=>
  obtain ⟨callee,xs,ts⟩:=c
  cases callee with
  | invoke r nm=>cases hc
  | value f=>simp [isCall] at hnc
  | builtin b=>
   show NP P M (builtin b ts typ _ (xs.map a.eval))
   simp only [opA,callA] at h
   cases b <;> simp only [] at hc <;> try (cases hc;done)
   ·exact np_v (np_append _ _ _)
   ·refine np_v (np_cap _ _ _ fun t ht=>?_)
    obtain ⟨q,ty,hq,hty,hk⟩:=kindIn_some hc
    rw [ht] at hq;cases hq
    obtain ⟨_,dd,_,_,h2,_,_,_,_,_,_,_,_,h4,_⟩:=(hE.ty _ ty hty).info
    exact ⟨_,by rw [h2,h4 (by simpa using hk)]⟩
   ·refine np_v (np_clear _ _ _ fun r hr=>?_)
    cases hxs:xs.toList with
    | nil=>
     have:xs.size = 0:=by rw [<- Array.length_toList,hxs];rfl
     rw [Array.getElem?_eq_none (by simp [this])] at hr;cases hr
    | cons y rest=>
     have hy:=hev y
     have he:a.eval y = .map r:=by
      rw [<- Array.getElem?_toList,Array.toList_map,hxs] at hr
      simpa using hr
     rw [he] at hy
     rw [hxs] at h
     have hsl:∀ i o k c es,ev y≠.sc (.sl i o k c es):=by
      intro i o k c es e
      rw [e] at hy
      obtain ⟨_,_,_,_,_,_,_,q⟩:=hy
      cases q
     have hnil:ev y≠.sc .nils:=by
      intro e
      rw [e] at hy
      have hy:Value.map r = .slice none 0 0:=hy
      cases hy
     have hemp:ev y≠.sc .emp:=by
      intro e
      rw [e] at hy
      obtain ⟨_,_,q⟩:=hy
      cases q
     have hcl:∀ t,clearA E fl t (ev y) m n = none:=by
      intro t
      unfold clearA
      (repeat' split) <;> first
        | rfl
        | exact absurd (by assumption) (hsl _ _ _ _ _)
        | exact absurd (by assumption) hnil
        | exact absurd (by assumption) hemp
     cases hts:ts[0]? with
     | none=>simp [builtinA,hts] at h
     | some t=>
      cases rest with
      | nil=>simp [builtinA,hts,hcl] at h
      | cons z rest=>simp [builtinA,hts] at h
   ·exact np_v (np_copy _ _ _)
   ·refine np_v (np_len _ _ _ fun t ht=>?_)
    obtain ⟨q,ty,hq,hty,hk⟩:=kindIn_some hc
    rw [ht] at hq;cases hq
    obtain ⟨_,dd,_,_,h2,_,_,_,_,_,_,_,h3,h4,_⟩:=(hE.ty _ ty hty).info
    have hk:ty.kind = 3\/ty.kind = 4:=by simpa using hk
    rcases hk with hk | hk
    ·exact .inl (by rw [h2,h3 hk])
    ·exact .inr ⟨_,by rw [h2,h4 hk]⟩
   ·exact np_v (np_max _ _ _)
   ·exact np_v (np_min _ _ _)
 | _=>cases hc
end
open Go.Conc
structure GW where
 own:Nat->Prop
 w:World
structure Pact where
 R:GW->World->Prop
 D:GW->Array Event->GW->Prop
structure Pact.Ok (K:Pact):Prop where
 trans:∀ σ w₁ w₂,K.R σ w₁->K.R ⟨σ.own,w₁⟩ w₂->K.R σ w₂
 idle:∀ σ,K.D σ #[] σ
 draw:∀ σ,K.D σ #[] ⟨σ.own,{ σ.w with drawn:=σ.w.drawn + 1 }⟩
inductive GoesO (P:Program) (main:Bool) (K:Pact) (Stop:Goroutine->GW->Prop):Goroutine->GW->Prop
 | stop {g:Goroutine} {σ:GW} (h:∀ w₁,K.R σ w₁->Stop g ⟨σ.own,w₁⟩):GoesO P main K Stop g σ
 | step {g:Goroutine} {σ:GW} (nx:World->Goroutine) (ns:World->GW) (ne:World->Array Event) (hs:g.status = .running)
  (h:∀ w₁,K.R σ w₁->stepG P main g w₁ = .go (nx w₁) (ns w₁).w (ne w₁)/\K.D ⟨σ.own,w₁⟩ (ne w₁) (ns w₁)) (hn:∀ w₁,K.R σ w₁->GoesO P main K Stop (nx w₁) (ns w₁)):GoesO P main K Stop g σ
section
variable {P:Program} {main:Bool} {K:Pact} {Stop:Goroutine->GW->Prop} {g:Goroutine} {σ:GW}
theorem GoesO.go (hs:g.status = .running) (h:∀ w₁,K.R σ w₁->∃ g' σ' es,stepG P main g w₁ = .go g' σ'.w es/\K.D ⟨σ.own,w₁⟩ es σ'/\GoesO P main K Stop g' σ'):GoesO P main K Stop g σ:=by
 have h':∀ w₁,∃ q:Goroutine × GW × Array Event,K.R σ w₁->stepG P main g w₁ = .go q.1 q.2.1.w q.2.2/\K.D ⟨σ.own,w₁⟩ q.2.2 q.2.1/\GoesO P main K Stop q.1 q.2.1:=by
  intro w₁
  by_cases hr:K.R σ w₁
  ·obtain ⟨g',σ',es,h1,h2,h3⟩:=h w₁ hr
   exact ⟨(g',σ',es),fun _=>⟨h1,h2,h3⟩⟩
  ·exact ⟨(g,σ,#[]),fun q=>absurd q hr⟩
 obtain ⟨f,hf⟩:=Classical.axiomOfChoice h'
 exact .step (fun w₁=>(f w₁).1) (fun w₁=>(f w₁).2.1) (fun w₁=>(f w₁).2.2) hs (fun w₁ hr=>⟨(hf w₁ hr).1,(hf w₁ hr).2.1⟩) fun w₁ hr=>(hf w₁ hr).2.2
theorem GoesO.elim (h:GoesO P main K Stop g σ):(∀ w₁,K.R σ w₁->Stop g ⟨σ.own,w₁⟩) \/
 (g.status = .running/\∀ w₁,K.R σ w₁->∃ g' σ' es,stepG P main g w₁ = .go g' σ'.w es/\K.D ⟨σ.own,w₁⟩ es σ'/\GoesO P main K Stop g' σ'):=by
 cases h with
 | stop h=>exact .inl h
 | step nx ns ne hs h hn=>exact .inr ⟨hs,fun w₁ hr=>⟨_,_,_,(h w₁ hr).1,(h w₁ hr).2,hn w₁ hr⟩⟩
theorem GoesO.rely (T:K.Ok) (h:GoesO P main K Stop g σ) {w₁:World} (hr:K.R σ w₁):GoesO P main K Stop g ⟨σ.own,w₁⟩:=by
 cases h with
 | stop h=>exact .stop fun w₂ h₂=>h w₂ (T.trans _ _ _ hr h₂)
 | step nx ns ne hs h hn=>exact .step nx ns ne hs (fun w₂ h₂=>h w₂ (T.trans _ _ _ hr h₂)) fun w₂ h₂=>hn w₂ (T.trans _ _ _ hr h₂)
theorem GoesO.ctl (T:K.Ok) {g':Goroutine} (hs:g.status = .running) (h:∀ w,stepG P main g w = .go g' w #[]) (hn:GoesO P main K Stop g' σ):GoesO P main K Stop g σ:=
 .go hs fun w₁ hr=>⟨g',⟨σ.own,w₁⟩,#[],h w₁,T.idle _,hn.rely T hr⟩
theorem GoesO.mono {Stop':Goroutine->GW->Prop} (h:GoesO P main K Stop g σ) (hs:∀ g σ,Stop g σ->Stop' g σ):GoesO P main K Stop' g σ:=by
 induction h with
 | stop h=>exact .stop fun w₁ hr=>hs _ _ (h w₁ hr)
 | step nx ns ne hr h _ ih=>exact .step nx ns ne hr h ih
theorem GoesO.bind {Stop':Goroutine->GW->Prop} (refl:∀ σ,K.R σ σ.w) (h:GoesO P main K Stop g σ) (hs:∀ g σ,Stop g σ->GoesO P main K Stop' g σ):GoesO P main K Stop' g σ:=by
 induction h with
 | @stop g σ h=>
  have h0:=hs _ _ (h σ.w (refl σ))
  cases h0 with
  | stop h1=>exact .stop h1
  | step nx ns ne hr h1 hn=>exact .step nx ns ne hr h1 hn
 | step nx ns ne hr h _ ih=>exact .step nx ns ne hr h ih
def AfterO (P:Program) (main:Bool) (K:Pact) (Stop:Goroutine->GW->Prop) (b:Frame) (k:List Item) (cs:List Frame):Exit->Act->GW->Prop
 | .normal,a,σ=>GoesO P main K Stop (G (b.at a k) cs) σ
 | .exit id,a,σ=>∃ k',exitTo id k = some k'/\GoesO P main K Stop (G (b.at a k') cs) σ
 | .ret,a,σ=>∀ todo,GoesO P main K Stop (G { b.at a todo with mode:=.returning } cs) σ
 | _,_,_=>False
theorem AfterO.push {b:Frame} {x:Item} {k:List Item} {cs:List Frame} {e:Exit} {a:Act} {σ:GW} (hx:x.plain = true) (he:e≠.normal)
 (h:AfterO P main K Stop b k cs e a σ):AfterO P main K Stop b (x :: k) cs e a σ:=by
 cases e with
 | normal=>exact absurd rfl he
 | exit id=>obtain ⟨k',hk,hg⟩:=h;exact ⟨k',by cases x <;> simp_all [exitTo,Item.plain],hg⟩
 | ret=>exact h
 | goto l=>exact h
 | panic ch=>exact h
 | outgrown=>exact h
end
def thenO (Q':Act->GW->Prop) (Q:Exit->Act->GW->Prop):Exit->Act->GW->Prop
 | .normal,a,σ=>Q' a σ
 | e,a,σ=>Q e a σ
def blockO (id:Nat) (Q:Exit->Act->GW->Prop):Exit->Act->GW->Prop
 | .exit id',a,σ=>if id' = id then Q .normal a σ else Q (.exit id') a σ
 | e,a,σ=>Q e a σ
def wpO (P:Program) (main:Bool) (K:Pact) (fn:FuncId) (c:Code) (Q:Exit->Act->GW->Prop) (a:Act) (σ:GW):Prop:=
 ∀ (b:Frame) (k:List Item) (cs:List Frame) (Stop:Goroutine->GW->Prop),b.fn = fn->b.kind≠.early ->
  (∀ e a' σ',Q e a' σ'->AfterO P main K Stop b k cs e a' σ')->GoesO P main K Stop (G (b.at a (.code c :: k)) cs) σ
def opsO (P:Program) (main:Bool) (K:Pact) (fn:FuncId) (ops:Array Oper) (todo:List Nat) (Q:Exit->Act->GW->Prop) (a:Act) (σ:GW):Prop:=
 ∀ (b:Frame) (k:List Item) (cs:List Frame) (Stop:Goroutine->GW->Prop),b.fn = fn->b.kind≠.early ->
  (∀ e a' σ',Q e a' σ'->AfterO P main K Stop b k cs e a' σ')->GoesO P main K Stop (G (b.at a (.inRegion ops todo :: k)) cs) σ
section rules
variable {P:Program} {main:Bool} {K:Pact} {fn:FuncId} {Q:Exit->Act->GW->Prop} {a:Act} {σ:GW}
theorem wpO_mono {c:Code} {Q':Exit->Act->GW->Prop} (h:wpO P main K fn c Q a σ) (hq:∀ e a σ,Q e a σ->Q' e a σ):wpO P main K fn c Q' a σ:=
 fun b k cs Stop hb hk hc=>h b k cs Stop hb hk fun e a' σ' q=>hc e a' σ' (hq e a' σ' q)
theorem wpO_skip (T:K.Ok) (h:Q .normal a σ):wpO P main K fn .skip Q a σ:=fun _ _ _ _ _ _ hc=>.ctl T rfl (fun _=>stepG_skip) (hc _ _ _ h)
theorem wpO_label (T:K.Ok) {l:Nat} (h:Q .normal a σ):wpO P main K fn (.label l) Q a σ:=fun _ _ _ _ _ _ hc=>.ctl T rfl (fun _=>stepG_label) (hc _ _ _ h)
theorem wpO_ret (T:K.Ok) (h:Q .ret a σ):wpO P main K fn .ret Q a σ:=fun _ _ _ _ _ _ hc=>.ctl T rfl (fun _=>stepG_ret') (hc _ _ _ h _)
theorem wpO_exit (T:K.Ok) {id:Nat} (h:Q (.exit id) a σ):wpO P main K fn (.exit id) Q a σ:=fun _ _ _ _ _ _ hc=>
 let ⟨_,hk,hg⟩:=hc _ _ _ h
 .ctl T rfl (fun _=>stepG_exit hk) hg
theorem wpO_seq (T:K.Ok) {x y:Code} (h:wpO P main K fn x (thenO (fun a' σ'=>wpO P main K fn y Q a' σ') Q) a σ):wpO P main K fn (.seq x y) Q a σ:=by
 intro b k cs Stop hb hk hc
 refine .ctl T rfl (fun _=>stepG_seq) (h b (.code y :: k) cs Stop hb hk fun e a' σ' q=>?_)
 cases e with
 | normal=>exact q b k cs Stop hb hk hc
 | exit id=>exact (hc _ _ _ q).push rfl (by simp)
 | ret=>exact (hc _ _ _ q).push (x:=.code y) rfl (by simp)
 | goto l=>exact hc _ _ _ q
 | panic ch=>exact hc _ _ _ q
 | outgrown=>exact hc _ _ _ q
theorem wpO_cond (T:K.Ok) {c:Operand} {x y:Code} {t:Bool} (hc:a.eval c = .bool t) (h:wpO P main K fn (if t then x else y) Q a σ):wpO P main K fn (.cond c x y) Q a σ:=
 fun b k cs Stop hb hk hq=>.ctl T rfl (fun _=>stepG_cond hc) (h b k cs Stop hb hk hq)
theorem wpO_block (T:K.Ok) {id:Nat} {c:Code} (h:wpO P main K fn c (blockO id Q) a σ):wpO P main K fn (.block id c) Q a σ:=by
 intro b k cs Stop hb hk hc
 refine .ctl T rfl (fun _=>stepG_block) (h b (.inBlock id :: k) cs Stop hb hk fun e a' σ' q=>?_)
 cases e with
 | normal=>exact .ctl T rfl (fun _=>stepG_inBlock) (hc _ _ _ q)
 | exit id'=>
  by_cases hid:id' = id
  ·simp only [blockO,hid,if_true] at q
   exact ⟨k,by simp [exitTo,hid],hc _ _ _ q⟩
  ·simp only [blockO,hid,if_false] at q
   obtain ⟨k',hk',hg⟩:=hc _ _ _ q
   have:(id == id') = false:=by simp;exact fun h=>hid h.symm
   exact ⟨k',by simp [exitTo,this,hk'],hg⟩
 | ret=>exact fun todo=>hc _ _ _ q todo
 | goto l=>exact hc _ _ _ q
 | panic ch=>exact hc _ _ _ q
 | outgrown=>exact hc _ _ _ q
def roundsO (P:Program) (main:Bool) (K:Pact) (fn:FuncId) (c:Code) (Q:Exit->Act->GW->Prop):Nat->Act->GW->Prop
 | 0,_,_=>False
 | n + 1,a,σ=>wpO P main K fn c (thenO (roundsO P main K fn c Q n) Q) a σ
theorem wpO_loop (T:K.Ok) {c:Code} (n:Nat) (h:roundsO P main K fn c Q n a σ):wpO P main K fn (.loop c) Q a σ:=by
 intro b k cs Stop hb hk hc
 have key:∀ n a σ,roundsO P main K fn c Q n a σ->GoesO P main K Stop (G (b.at a (.code c :: .inLoop c :: k)) cs) σ:=by
  intro n
  induction n with
  | zero=>intro a σ h;exact h.elim
  | succ n ih=>
   intro a σ h
   refine h b (.inLoop c :: k) cs Stop hb hk fun e a' σ' q=>?_
   cases e with
   | normal=>exact .ctl T rfl (fun _=>stepG_inLoop) (ih a' σ' q)
   | exit id=>exact (hc _ _ _ q).push rfl (by simp)
   | ret=>exact (hc _ _ _ q).push (x:=.inLoop c) rfl (by simp)
   | goto l=>exact hc _ _ _ q
   | panic ch=>exact hc _ _ _ q
   | outgrown=>exact hc _ _ _ q
 exact .ctl T rfl (fun _=>stepG_loop) (key n a σ h)
theorem roundsO_mono {c:Code} {Q':Exit->Act->GW->Prop} (hq:∀ e a σ,Q e a σ->Q' e a σ):∀ (n:Nat) (a:Act) (σ:GW),roundsO P main K fn c Q n a σ->roundsO P main K fn c Q' n a σ
 | 0,_,_,h=>h
 | n + 1,a,σ,h=>wpO_mono h fun e a1 σ1 h1=>by
  cases e with
  | normal=>exact roundsO_mono hq n a1 σ1 h1
  | exit id=>exact hq _ _ _ h1
  | goto l=>exact hq _ _ _ h1
  | ret=>exact hq _ _ _ h1
  | panic ch=>exact hq _ _ _ h1
  | outgrown=>exact hq _ _ _ h1
theorem wpO_region (T:K.Ok) {id:Nat} {ops:Array Oper} (h:opsO P main K fn ops (List.range ops.size) Q a σ):wpO P main K fn (.region id ops false) Q a σ:=
 fun b k cs Stop hb hk hc=>.ctl T rfl (fun _=>stepG_region) (h b k cs Stop hb hk hc)
theorem opsO_nil (T:K.Ok) {ops:Array Oper} (h:Q .normal a σ):opsO P main K fn ops [] Q a σ:=fun _ _ _ _ _ _ hc=>.ctl T rfl (fun _=>stepG_region_end) (hc _ _ _ h)
theorem wpO_draw (T:K.Ok) {id:Nat} {ops:Array Oper} (h:∀ w₁,K.R σ w₁->∀ t,opsO P main K fn ops (Region.schedule (P.follows .mixedOrders) ops t) Q a ⟨σ.own,{ w₁ with drawn:=w₁.drawn + 1 }⟩):wpO P main K fn (.region id ops true) Q a σ:=
 fun b k cs Stop hb hk hc=>.go rfl fun w₁ hr=>⟨_,⟨σ.own,{ w₁ with drawn:=w₁.drawn + 1 }⟩,#[],stepG_region_draw,T.draw _,h w₁ hr _ b k cs Stop hb hk hc⟩
end rules
open Go.Am
theorem EvO.mono {own own' ro ro':Nat->Prop} (h1:∀ b,own b->own' b) (h2:∀ b,ro b->ro' b) {e:Event} (h:EvO own ro e):EvO own' ro' e:=by
 rcases h with ⟨a,ha,hs,h⟩ | h
 ·exact .inl ⟨a,ha,hs,h.imp (h1 _) fun q=>⟨h2 _ q.1,q.2⟩⟩
 ·exact .inr h
theorem Fr.mono {own own':Nat->Prop} (h1:∀ b,own b->own' b) {w w':World} (h:Fr own w w'):Fr own' w w':=
 ⟨h.tape,h.os,h.output,h.size,fun b hb=>h.block b fun q=>hb (h1 b q)⟩
open Classical in
noncomputable def veil (own ro:Nat->Prop) (w:World):World:=
 { w with heap:=w.heap.mapIdx fun b o=>if own b then o else if ro b then frz o else junk }
theorem veil_get (own ro:Nat->Prop) (w:World) (b:Nat):(veil own ro w).heap[b]? = (w.heap[b]?).map fun o=>open Classical in if own b then o else if ro b then frz o else junk:=by
 simp [veil]
structure MemO (RO:Nat->Prop) (ev:Bool) (B fl0:Nat) (w0:World) (ρ:Rho) (m:Mem) (σ:GW):Prop where
 rel:MemRel B fl0 w0 ρ m σ.w
 own:∀ i l p,fl0<=i->m.get i = some l->ρ i = some p->σ.own p.b\/(RO p.b/\(p.cs = 0\/p.cs < p.base))
 ro:∀ i l p,i < fl0->m.get i = some l->ρ i = some p->RO p.b
 all:ev = false->∀ b,B<=b->σ.own b
theorem AtP.noview {ρ:Rho} {own:Bool} {l:List SV} {p:Pl} {w:World} (h:AtP ρ own l p w) (a:Addr) (t:TypeId):w.heap[p.b]?≠some (Obj.view a t):=by
 rcases h with h | h
 ·obtain ⟨_,_,_,h1,_⟩:=h.at_
  rw [h1];simp
 ·obtain ⟨_,_,_,_,_,h1,_⟩:=h.at_
  rw [h1];simp
theorem AtP.nojunk {ρ:Rho} {own:Bool} {l:List SV} {p:Pl} {w:World} (h:AtP ρ own l p w):w.heap[p.b]?≠some junk:=by
 rcases h with h | h
 ·obtain ⟨_,_,_,h1,_⟩:=h.at_
  rw [h1];simp [junk]
 ·obtain ⟨_,_,_,_,_,h1,_⟩:=h.at_
  rw [h1];simp [junk]
theorem AtP.frz {ρ:Rho} {own:Bool} {l:List SV} {p:Pl} {w w':World} (h:AtP ρ own l p w) (hq:own = true->p.cs = 0\/p.cs < p.base) (hw:w'.heap[p.b]? = (w.heap[p.b]?).map frz):AtP ρ own l p w':=by
 rcases h with h | h
 ·obtain ⟨arr,T,fz,h1,h2,h3,h4,h5⟩:=h.at_
  exact .inl ⟨arr,T,(0,arr.size),by rw [hw,h1];rfl,h2,h3,h4,fun e o ho=>by rcases hq e with q | q <;> omega⟩
 ·obtain ⟨h0,y,es,clock,ents,h1,r⟩:=h.at_
  exact .inr ⟨h0,y,es,clock,ents,by rw [hw,h1];rfl,r⟩
theorem AtP.unfrz {ρ:Rho} {own:Bool} {l:List SV} {p:Pl} {w w':World} (h:AtP ρ own l p w') (hw:w'.heap[p.b]? = (w.heap[p.b]?).map Co.frz):AtP ρ own l p w/\(own = true->p.cs = 0\/p.cs < p.base):=by
 rcases h with h | h
 ·obtain ⟨arr,T,fz,h1,h2,h3,h4,h5⟩:=h.at_
  rw [hw] at h1
  cases hb:w.heap[p.b]? with
  | none=>rw [hb] at h1;cases h1
  | some o=>
   rw [hb] at h1
   cases o <;> simp only [Option.map_some,Co.frz,Option.some.injEq,Obj.cells.injEq] at h1 <;> try (cases h1;done)
   obtain ⟨rfl,rfl,rfl⟩:=h1
   have hz:own = true->p.cs = 0:=fun e=>by
    rcases Nat.eq_zero_or_pos p.cs with q | q
    ·exact q
    ·exact absurd ⟨Nat.zero_le _,by rw [h2];exact q⟩ (h5 e 0 q)
   exact ⟨.inl ⟨_,_,_,hb,h2,h3,h4,fun e o ho=>by have:=hz e;omega⟩,fun e=>.inl (hz e)⟩
 ·obtain ⟨h0,y,es,clock,ents,h1,r⟩:=h.at_
  rw [hw] at h1
  cases hb:w.heap[p.b]? with
  | none=>rw [hb] at h1;cases h1
  | some o=>
   rw [hb] at h1
   cases o <;> simp only [Option.map_some,Co.frz,Option.some.injEq,Obj.map.injEq] at h1 <;> try (cases h1;done)
   obtain ⟨rfl,rfl⟩:=h1
   exact ⟨.inr ⟨h0,y,_,_,ents,hb,r⟩,fun _=>.inr h0⟩
section
variable {P:Program} {E:Env} {RO:Nat->Prop} {ev:Bool} {B fl0:Nat} {w0:World} {σ:GW} {ρ:Rho} {m:Mem}
def ownV (ρ:Rho) (m:Mem) (σ:GW) (b:Nat):Prop:=(σ.own b/\∃ i l p,m.get i = some l/\ρ i = some p/\p.b = b)\/σ.w.heap.size<=b
def roV (RO:Nat->Prop) (ρ:Rho) (m:Mem) (b:Nat):Prop:=RO b/\∃ i l p,m.get i = some l/\ρ i = some p/\p.b = b
theorem veil_ok (h:MemRel B fl0 w0 ρ m σ.w):Veil (ownV ρ m σ) (roV RO ρ m) σ.w (veil (ownV ρ m σ) (roV RO ρ m) σ.w):=by
 have key:∀ b a t,(∃ i l p,m.get i = some l/\ρ i = some p/\p.b = b)->σ.w.heap[b]?≠some (Obj.view a t):=by
  rintro b a t ⟨i,l,p,h1,h2,rfl⟩
  obtain ⟨p',hp',ha,_⟩:=h.mem i l h1
  rw [h2] at hp';cases hp'
  exact AtP.noview ha a t
 refine ⟨rfl,rfl,rfl,rfl,by simp [veil],fun b hb=>?_,fun b hb hr=>?_,fun b a t=>?_,fun b hb hr hlt=>?_⟩
 ·rw [veil_get];simp [hb]
 ·rw [veil_get];simp [hb,hr]
 ·rw [veil_get]
  intro e
  cases hw:σ.w.heap[b]? with
  | none=>rw [hw] at e;cases e
  | some o=>
   rw [hw] at e
   simp only [Option.map_some,Option.some.injEq] at e
   split at e
   ·rename_i ho
    rcases ho with ⟨_,ho⟩ | ho
    ·exact key b a t ho (by rw [hw,e])
    ·rw [Array.getElem?_eq_none ho] at hw;cases hw
   ·split at e
    ·rename_i ho
     have:=key b a t ho.2
     rw [hw] at this
     cases o <;> simp_all [frz]
    ·cases e
 ·rw [veil_get,Array.getElem?_eq_getElem hlt]
  simp [hb,hr]
theorem veil_rel (h:MemO RO ev B fl0 w0 ρ m σ):
 MemRel B fl0 { veil (ownV ρ m σ) (roV RO ρ m) σ.w with heap:=(veil (ownV ρ m σ) (roV RO ρ m) σ.w).heap.extract 0 B } ρ m (veil (ownV ρ m σ) (roV RO ρ m) σ.w):=by
 have hsz:(veil (ownV ρ m σ) (roV RO ρ m) σ.w).heap.size = σ.w.heap.size:=by simp [veil]
 have hB:B<=σ.w.heap.size:=Nat.le_trans h.rel.big h.rel.below.size
 refine ⟨⟨rfl,rfl,rfl,by simp;omega,fun k hk=>?_⟩,by simp;omega,fun i l hi=>?_,h.rel.sep⟩
 ·show _ = ((veil (ownV ρ m σ) (roV RO ρ m) σ.w).heap.extract 0 B)[k]?
  rw [Array.getElem?_extract]
  simp only [Nat.zero_add,Nat.sub_zero]
  rw [if_pos (by omega)]
 ·obtain ⟨p,hp,ha,hb⟩:=h.rel.mem i l hi
  refine ⟨p,hp,?_,hb⟩
  by_cases hq:ownV ρ m σ p.b
  ·exact AtP.world ha (by rw [veil_get];simp [hq])
  ·have hno:¬ σ.own p.b:=fun q=>hq (.inl ⟨q,i,l,p,hi,hp,rfl⟩)
   have hr:RO p.b/\(fl0<=i->p.cs = 0\/p.cs < p.base):=by
    by_cases hf:fl0<=i
    ·rcases h.own i l p hf hi hp with q | q
     ·exact absurd q hno
     ·exact ⟨q.1,fun _=>q.2⟩
    ·exact ⟨h.ro i l p (by omega) hi hp,fun q=>absurd q hf⟩
   have hrv:roV RO ρ m p.b:=⟨hr.1,i,l,p,hi,hp,rfl⟩
   exact AtP.frz ha (fun e=>hr.2 (by simpa using e)) (by rw [veil_get];simp [hq,hrv])
theorem op_foot (hE:EnvOk P E) {call:CallF} {fl n n':Nat} {lim:Option Nat} {evl:Operand->AV} {a:Act} {o:Oper} {v:AV} {m':Mem} (hm:MemO RO ev B fl0 w0 ρ m σ) (hfl:fl0<=fl) (hn0:fl0<=n)
 (hev:∀ x,(evl x).rel ρ (a.eval x)) (hc:coOp E o = true) (hnc:isCall o.op = false) (h:opA E call fl lim evl m n o.op = some (v,m',n')) (hfresh:∀ q,n<=q->q < n'->ρ q = none)
 (hlow:∀ i l,i < fl0->m'.get i = some l->m.get i = some l):
 ∃ r w' ρ' val,(execOp a.eval o).run P σ.w = .ok r w'/\(r = .value val\/(r = .skip/\val = undef))/\Ext ρ ρ'/\(∀ i,ρ' i≠none->ρ i≠none\/(n<=i/\i < n')) /\
  MemO RO ev B fl0 w0 ρ' m' ⟨fun b=>σ.own b\/(σ.w.heap.size<=b/\b < w'.heap.size),w'⟩/\v.rel ρ' val /\
  (∀ e∈(execOp a.eval o).events P σ.w #[],EvO (fun b=>σ.own b\/(σ.w.heap.size<=b/\b < w'.heap.size)) RO e)/\Fr (fun b=>σ.own b\/σ.w.heap.size<=b) σ.w w':=by
 obtain ⟨r,w',ρ0,val0,hr,_,_,_,hm0,_⟩:=op_gives (P:=P) (a:=a) hE.ty hE.mp hm.rel hfl hn0 hev hnc h hfresh
 obtain ⟨r2,v',ρ',val,hr2,hrv,hext,hdom,hm2,hv⟩:=op_gives (P:=P) (a:=a) hE.ty hE.mp (veil_rel hm) hfl hn0 hev hnc h hfresh
 obtain ⟨w3,u,h1,hveil,h3,h4⟩:=coincide (N:=σ.w.heap.size) (fun b hb=>.inr hb) (np_op hE hev hc h hnc) #[] (veil_ok (RO:=RO) hm.rel) (Nat.le_refl _) hr2
 rw [Sem.runT_eq] at h1
 simp only [Prod.mk.injEq] at h1
 obtain ⟨h1,h2⟩:=h1
 rw [hr] at h1
 simp only [Result.ok.injEq] at h1
 obtain ⟨rfl,rfl⟩:=h1
 have hat:∀ i l p,m'.get i = some l->ρ' i = some p->(ownV ρ m σ p.b/\p.b < w'.heap.size/\AtP ρ' (decide (fl0<=i)) l p w')\/(roV RO ρ m p.b/\AtP ρ' (decide (fl0<=i)) l p w'/\(fl0<=i->p.cs = 0\/p.cs < p.base)):=by
  intro i l p hi hp
  obtain ⟨p',hp',ha,hb⟩:=hm2.mem i l hi
  rw [hp] at hp';cases hp'
  have hlt:p.b < w'.heap.size:=by rw [<- hveil.size];exact ha.lt
  rcases hveil.cases p.b with q | ⟨q1,q2⟩ | ⟨q1,q2⟩
  ·exact .inl ⟨q,hlt,AtP.world ha (hveil.hown _ q).symm⟩
  ·obtain ⟨k1,k2⟩:=AtP.unfrz ha (hveil.hro _ q1 q2)
   exact .inr ⟨q2,k1,fun hf=>k2 (by simpa using hf)⟩
  ·exact absurd (hveil.hid _ q1 q2 hlt) (AtP.nojunk ha)
 refine ⟨r,w',ρ',val,hr,hrv,hext,hdom,⟨⟨hm0.below,hm0.big,fun i l hi=>?_,hm2.sep⟩,fun i l p hf hi hp=>?_,fun i l p hf hi hp=>?_,fun e b hb=>.inl (hm.all e b hb)⟩,hv,fun e he=>?_,h4.mono ?_⟩
 ·obtain ⟨p,hp,_,hb⟩:=hm2.mem i l hi
  exact ⟨p,hp,(hat i l p hi hp).elim (fun q=>q.2.2) fun q=>q.2.1,hb⟩
 ·rcases hat i l p hi hp with ⟨q,hlt,_⟩ | ⟨q,_,hz⟩
  ·rcases q with q | q
   ·exact .inl (.inl q.1)
   ·exact .inl (.inr ⟨q,hlt⟩)
  ·exact .inr ⟨q.1,hz hf⟩
 ·have hi':=hlow i l hf hi
  obtain ⟨p',hp',_⟩:=hm.rel.mem i l hi'
  have:=hext i p' hp'
  rw [hp] at this;cases this
  exact hm.ro i l p hf hi' hp'
 ·rw [h2] at he
  refine (h3 e (by simpa using he)).mono (fun b hb=>?_) (fun b hb=>hb.1)
  rcases hb with ⟨q | q,hlt⟩
  ·exact .inl q.1
  ·exact .inr ⟨q,hlt⟩
 ·rintro b (q | q)
  ·exact .inl q.1
  ·exact .inr q
end
open Go.Conc
def bodyO (P:Program) (K:Pact) (f:FuncId) (fn:Func) (Post:Value->GW->Prop):Exit->Act->GW->Prop
 | .normal,a,σ | .ret,a,σ=>a.defers = []/\∀ w₁,K.R σ w₁->∃ v,(results fn a.tmps).run P w₁ = .ok v w₁/\K.D ⟨σ.own,w₁⟩ (seen P f ((results fn a.tmps).events P w₁ #[])) ⟨σ.own,w₁⟩/\Post v ⟨σ.own,w₁⟩
 | _,_,_=>False
def CallsO (P:Program) (main:Bool) (K:Pact) (f:FuncId) (args:Array Value) (σ:GW) (Post:Value->GW->Prop):Prop:=
 ∃ fn c,P.funcs[f]? = some fn/\(fn.name == "runtime.NumGoroutine") = false/\fn.body = some c /\
  wpO P main K f c (bodyO P K f fn Post) { tmps:=args ++ Array.replicate (fn.ntmps - args.size) undef,defers:=[] } σ
def uponO (P:Program) (main:Bool) (K:Pact) (fn:FuncId) (o:Oper) (a:Act) (own:Nat->Prop) (w₁:World) (C:Act->GW->Prop):Result Next->Prop
 | .ok (.value v) w'=>∃ own',K.D ⟨own,w₁⟩ (listed P fn a o w₁) ⟨own',w'⟩/\C (a.put o.dst v) ⟨own',w'⟩
 | .ok .skip w'=>∃ own',K.D ⟨own,w₁⟩ (listed P fn a o w₁) ⟨own',w'⟩/\C (a.put o.dst undef) ⟨own',w'⟩
 | .ok (.enter f args) w'=>∃ own',K.D ⟨own,w₁⟩ (listed P fn a o w₁) ⟨own',w'⟩/\CallsO P main K f args ⟨own',w'⟩ fun v σ'=>C (a.put o.dst v) σ'
 | _=>False
def opO (P:Program) (main:Bool) (K:Pact) (fn:FuncId) (ops:Array Oper) (i:Nat) (C:Act->GW->Prop) (a:Act) (σ:GW):Prop:=
 match ops[i]? with
 | none=>False
 | some o=>if Region.wanted o (yielded ops a.tmps) then ∀ w₁,K.R σ w₁->uponO P main K fn o a σ.own w₁ C ((execOp a.eval o).run P w₁) else C (a.put o.dst undef) σ
section
variable {P:Program} {main:Bool} {K:Pact} {fn:FuncId} {ops:Array Oper} {Q:Exit->Act->GW->Prop} {a:Act} {σ:GW}
theorem CallsO.mono {f:FuncId} {args:Array Value} {Post Post':Value->GW->Prop} (h:CallsO P main K f args σ Post) (hp:∀ v σ,Post v σ->Post' v σ):CallsO P main K f args σ Post':=by
 obtain ⟨fn,c,hf,hn,hb,hw⟩:=h
 refine ⟨fn,c,hf,hn,hb,wpO_mono hw fun e a σ q=>?_⟩
 cases e <;> first
  | exact ⟨q.1,fun w₁ hr=>let ⟨v,h1,h2,h3⟩:=q.2 w₁ hr;⟨v,h1,h2,hp _ _ h3⟩⟩
  | exact q
theorem uponO_mono {o:Oper} {own:Nat->Prop} {w₁:World} {C C':Act->GW->Prop} (h:∀ a σ,C a σ->C' a σ) {r:Result Next} (hh:uponO P main K fn o a own w₁ C r):uponO P main K fn o a own w₁ C' r:=by
 cases r with
 | ok n w'=>cases n <;> first
  | exact let ⟨q,h1,h2⟩:=hh;⟨q,h1,h _ _ h2⟩
  | exact let ⟨q,h1,h2⟩:=hh;⟨q,h1,h2.mono fun _ _=>h _ _⟩
  | exact hh
 | halt x w'=>exact hh
theorem opO_mono {i:Nat} {C C':Act->GW->Prop} (h:∀ a σ,C a σ->C' a σ) (hh:opO P main K fn ops i C a σ):opO P main K fn ops i C' a σ:=by
 unfold opO at *
 split
 ·simp_all
 ·rename_i o ho
  simp only [ho] at hh
  split
  ·rename_i hw;simp only [hw,if_true] at hh;exact fun w₁ hr=>uponO_mono h (hh w₁ hr)
  ·rename_i hw;simp only [hw] at hh;exact h _ _ hh
theorem stepG_leaveE {b:Frame} {f:Func} {todo:List Item} {c:Frame} {cs:List Frame} {v:Value} {w:World} (hn:b.kind = .normal) (hd:a.defers = []) (hf:P.funcs[b.fn]? = some f) (hr:(results f a.tmps).run P w = .ok v w):
 stepG P main (G { b.at a todo with mode:=.returning } (c :: cs)) w = .go (G (c.finish v) cs) w (seen P b.fn ((results f a.tmps).events P w #[])):=by
 simp [G,stepG,unwind,doReturn,Frame.at,hn,hd,hf,hr,GStep.after]
theorem CallsO.enter (T:K.Ok) {f:FuncId} {args:Array Value} {Post:Value->GW->Prop} (h:CallsO P main K f args σ Post) {c:Frame} {cs:List Frame} {Stop:Goroutine->GW->Prop}
 (hnext:∀ v σ',Post v σ'->GoesO P main K Stop (G (c.finish v) cs) σ'):GoesO P main K Stop (G (Frame.enter P f args .normal) (c :: cs)) σ:=by
 obtain ⟨fn,cd,hf,hname,hbody,hwp⟩:=h
 rw [enter_at args hf hbody]
 have hleave:∀ (a':Act) (σ':GW) (todo:List Item),bodyO P K f fn Post .ret a' σ'->GoesO P main K Stop (G { (base f).at a' todo with mode:=.returning } (c :: cs)) σ':=by
  rintro a' σ' todo ⟨hd,hv⟩
  refine .go rfl fun w₁ hr=>?_
  obtain ⟨v,h1,h2,h3⟩:=hv w₁ hr
  exact ⟨_,⟨σ'.own,w₁⟩,_,stepG_leaveE (b:=base f) rfl hd hf h1,h2,hnext v _ h3⟩
 refine hwp (base f) [] _ Stop rfl (by simp [base]) fun e a' σ' q=>?_
 cases e with
 | normal=>exact .ctl T rfl (fun _=>stepG_end) (hleave a' σ' [] q)
 | ret=>exact fun todo=>hleave a' σ' todo q
 | exit id=>exact q.elim
 | goto l=>exact q.elim
 | panic ch=>exact q.elim
 | outgrown=>exact q.elim
theorem opsO_cons (T:K.Ok) {i:Nat} {rest:List Nat} (h:opO P main K fn ops i (fun a' σ'=>opsO P main K fn ops rest Q a' σ') a σ):opsO P main K fn ops (i :: rest) Q a σ:=by
 intro b k cs Stop hb hk hc
 unfold opO at h
 split at h
 ·exact h.elim
 ·rename_i o ho
  have hfin:∀ v,(b.at a (.inRegion ops (i :: rest) :: k)).finish v = b.at (a.put o.dst v) (.inRegion ops rest :: k):=fun v=>by rw [Frame.finish_at,ho];rfl
  split at h
  ·rename_i hw
   refine .go rfl fun w₁ hr=>?_
   have h:=h w₁ hr
   generalize hx:(execOp a.eval o).run P w₁ = r at h
   subst hb
   match r,h with
   | .ok (.value v) w',⟨own',h1,h2⟩=>exact ⟨_,⟨own',w'⟩,_,stepG_value ho hw hk hx,h1,h2 b k cs Stop rfl hk hc⟩
   | .ok .skip w',⟨own',h1,h2⟩=>exact ⟨_,⟨own',w'⟩,_,stepG_none ho hw hk hx,h1,h2 b k cs Stop rfl hk hc⟩
   | .ok (.enter f args) w',⟨own',h1,h2⟩=>
    exact ⟨_,⟨own',w'⟩,_,stepG_enter ho hw hk hx,h1,h2.enter T fun v σ' h3=>by rw [hfin];exact h3 b k cs Stop rfl hk hc⟩
  ·rename_i hw
   exact .ctl T rfl (fun _=>stepG_unwanted ho (by simpa using hw)) (h b k cs Stop hb hk hc)
def anyO (P:Program) (main:Bool) (K:Pact) (fn:FuncId) (md:Region.Mode) (ops:Array Oper) (Q:Exit->Act->GW->Prop):Nat->Array Bool->Act->GW->Prop
 | 0,listed,a,σ=>Region.ready md ops listed = []/\Q .normal a σ
 | fuel + 1,listed,a,σ=>
  (Region.ready md ops listed = []->Q .normal a σ) /\
  ∀ i∈Region.ready md ops listed,opO P main K fn ops i (anyO P main K fn md ops Q fuel (listed.setIfInBounds i true)) a σ
theorem anyO_sound (T:K.Ok) {md:Region.Mode}:∀ (fuel t:Nat) (listed:Array Bool) (a:Act) (σ:GW),anyO P main K fn md ops Q fuel listed a σ ->
 opsO P main K fn ops (Region.linearise.go md ops fuel t listed []) Q a σ:=by
 intro fuel
 induction fuel with
 | zero=>intro t listed a σ h;simpa [Region.linearise.go] using opsO_nil T h.2
 | succ fuel ih=>
  intro t listed a σ h
  obtain ⟨h₀,h₁⟩:=h
  simp only [Region.linearise.go]
  change opsO P main K fn ops (match (Region.ready md ops listed)[t % (Region.ready md ops listed).length]? with
   | some i=>Region.linearise.go md ops fuel (t / (Region.ready md ops listed).length) (listed.setIfInBounds i true) [i]
   | none=>[].reverse) Q a σ
  cases hi:(Region.ready md ops listed)[t % (Region.ready md ops listed).length]? with
  | none=>
   have hnil:Region.ready md ops listed = []:=by
    cases hr:Region.ready md ops listed with
    | nil=>rfl
    | cons x xs=>
     rw [hr] at hi
     have hlt:t % (x :: xs).length < (x :: xs).length:=Nat.mod_lt _ (by simp)
     simp at hi
     simp at hlt
     omega
   simpa using opsO_nil T (h₀ hnil)
  | some i=>
   simp only []
   rw [linearise_go_acc,List.reverse_singleton,List.singleton_append]
   exact opsO_cons T (opO_mono (fun a' σ' x=>ih _ _ a' σ' x) (h₁ i (List.mem_of_getElem? hi)))
theorem wpO_any (T:K.Ok) {id:Nat} (hm:P.follows .mixedOrders = true) (h:∀ w₁,K.R σ w₁->anyO P main K fn .any ops Q ops.size (Array.replicate ops.size false) a ⟨σ.own,{ w₁ with drawn:=w₁.drawn + 1 }⟩):
 wpO P main K fn (.region id ops true) Q a σ:=
 wpO_draw T fun w₁ hr t=>by
  simp only [Region.schedule,hm,Bool.true_or,if_true]
  exact anyO_sound T ops.size t _ a _ (h w₁ hr)
end
open Go.Am Go.Conc
def pact (RO:Nat->Prop) (L:World->World->Prop) (ev:Bool):Pact where
 R σ w₁:=w₁.tape = σ.w.tape/\w₁.os = σ.w.os/\w₁.output = σ.w.output/\σ.w.heap.size<=w₁.heap.size/\(∀ b,σ.own b\/RO b->w₁.heap[b]? = σ.w.heap[b]?)/\L σ.w w₁
 D σ es σ':=σ'.w.tape = σ.w.tape/\σ'.w.os = σ.w.os/\σ'.w.output = σ.w.output/\σ.w.heap.size<=σ'.w.heap.size/\(∀ b,b < σ.w.heap.size->¬ σ.own b->σ'.w.heap[b]? = σ.w.heap[b]?) /\
  (∀ b,σ'.own b↔σ.own b\/(σ.w.heap.size<=b/\b < σ'.w.heap.size))/\(ev = true->∀ e∈es,EvO σ'.own RO e)
theorem pact_idle {RO:Nat->Prop} {L:World->World->Prop} {ev:Bool} (σ:GW):(pact RO L ev).D σ #[] σ:=
 ⟨rfl,rfl,rfl,Nat.le_refl _,fun _ _ _=>rfl,fun b=>⟨.inl,fun h=>h.elim id fun q=>absurd q.2 (Nat.not_lt.2 q.1)⟩,fun _ e he=>by simp at he⟩
theorem pact_ok {RO:Nat->Prop} {L:World->World->Prop} {ev:Bool} (hL:∀ a b c,L a b->L b c->L a c):(pact RO L ev).Ok:=by
 refine ⟨fun σ w₁ w₂ h k=>?_,fun σ=>?_,fun σ=>?_⟩
 ·obtain ⟨h1,h2,h3,h4,h5,h6⟩:=h
  obtain ⟨k1,k2,k3,k4,k5,k6⟩:=k
  exact ⟨k1.trans h1,k2.trans h2,k3.trans h3,Nat.le_trans h4 k4,fun b hb=>(k5 b hb).trans (h5 b hb),hL _ _ _ h6 k6⟩
 ·exact pact_idle σ
 ·refine ⟨rfl,rfl,rfl,Nat.le_refl _,fun _ _ _=>rfl,fun b=>⟨.inl,fun h=>h.elim id fun q=>?_⟩,fun _ e he=>by simp at he⟩
  exact absurd q.2 (Nat.not_lt.2 q.1)
structure StO (RO:Nat->Prop) (ev:Bool) (D:List Deferred) (B fl0:Nat) (w0:World) (N:Nat) (ρ:Rho) (s:St) (a:Act) (σ:GW):Prop where
 st:StRel D B fl0 w0 N ρ s a σ.w
 own:∀ i l p,fl0<=i->s.m.get i = some l->ρ i = some p->σ.own p.b\/(RO p.b/\(p.cs = 0\/p.cs < p.base))
 ro:∀ i l p,i < fl0->s.m.get i = some l->ρ i = some p->RO p.b
 all:ev = false->∀ b,B<=b->σ.own b
section
variable {P:Program} {main:Bool} {RO:Nat->Prop} {L:World->World->Prop} {ev:Bool} {D:List Deferred} {B fl0:Nat} {w0:World} {E:Env}
theorem StO.mem {N:Nat} {ρ:Rho} {s:St} {a:Act} {σ:GW} (h:StO RO ev D B fl0 w0 N ρ s a σ):MemO RO ev B fl0 w0 ρ s.m σ:=⟨h.st.mem,h.own,h.ro,h.all⟩
theorem MemO.rely (hRO:∀ b,b < B->RO b) {ρ:Rho} {m:Mem} {σ:GW} (h:MemO RO ev B fl0 w0 ρ m σ) {w₁:World} (r:(pact RO L ev).R σ w₁):MemO RO ev B fl0 w0 ρ m ⟨σ.own,w₁⟩:=by
 obtain ⟨r1,r2,r3,r4,r5,_⟩:=r
 refine ⟨⟨h.rel.below.trans ⟨r2,r1,r3,r4,fun k hk=>r5 k (.inr (hRO k hk))⟩,h.rel.big,fun i l hi=>?_,h.rel.sep⟩,h.own,h.ro,h.all⟩
 obtain ⟨p,hp,ha,hb⟩:=h.rel.mem i l hi
 refine ⟨p,hp,AtP.world ha (r5 p.b ?_),hb⟩
 by_cases hf:fl0<=i
 ·exact (h.own i l p hf hi hp).imp id fun q=>q.1
 ·exact .inr (h.ro i l p (by omega) hi hp)
theorem StO.rely (hRO:∀ b,b < B->RO b) {N:Nat} {ρ:Rho} {s:St} {a:Act} {σ:GW} (h:StO RO ev D B fl0 w0 N ρ s a σ) {w₁:World} (r:(pact RO L ev).R σ w₁):StO RO ev D B fl0 w0 N ρ s a ⟨σ.own,w₁⟩:=by
 have:=h.mem.rely hRO r
 exact ⟨⟨this.rel,h.st.tmps,h.st.size,h.st.defers,h.st.low⟩,this.own,this.ro,this.all⟩
theorem StO.put {N:Nat} {ρ ρ':Rho} {s:St} {a:Act} {σ σ':GW} (h:StO RO ev D B fl0 w0 N ρ s a σ) {dst:Option Nat} (hd:∀ d,dst = some d->d < N) {v:AV} {val:Value} {m':Mem} {n':Nat} (hext:Ext ρ ρ')
 (hm:MemO RO ev B fl0 w0 ρ' m' σ') (hv:v.rel ρ' val) (hn:fl0<=n'):StO RO ev D B fl0 w0 N ρ' (s.put dst v m' n') (a.put dst val) σ':=by
 have hp:=h.st.put hd hext hm.rel hv hn
 have hm':(s.put dst v m' n').m = m':=by cases dst <;> rfl
 exact ⟨hp,by rw [hm'];exact hm.own,by rw [hm'];exact hm.ro,hm.all⟩
def CallOkO (P:Program) (main:Bool) (RO:Nat->Prop) (L:World->World->Prop) (ev:Bool) (B fl0:Nat) (w0:World) (call:CallF):Prop:=
 ∀ fl f args m n v m' n',fl0<=fl->fl0<=n->call fl f args m n = some (v,m',n')->∀ ρ σ (vals:Array Value),MemO RO ev B fl0 w0 ρ m σ->All2 (AV.rel ρ) args vals.toList->(∀ i,n<=i->i < n'->ρ i = none) ->
  (∃ fn,P.funcs[f]? = some fn/\(fn.name == "runtime.NumGoroutine") = false/\fn.body.isNone = false) /\
  CallsO P main (pact RO L ev) f vals σ fun val σ'=>∃ ρ',Ext ρ ρ'/\(∀ i,ρ' i≠none->ρ i≠none\/(n<=i/\i < n'))/\MemO RO ev B fl0 w0 ρ' m' σ'/\v.rel ρ' val
theorem step_soundO (hE:EnvOk P E) (hRO:∀ b,b < B->RO b) {call:CallF} (hcall:CallOkO P main RO L ev B fl0 w0 call) {fl N i:Nat} (hfl:fl0<=fl) {lim:Option Nat} {ops:Array Oper} {o:Oper} {s s':St} {ρ:Rho} {a:Act} {σ:GW} {fn:FuncId} {C:Act->GW->Prop}
 (hck:CallKeeps call) (h:StO RO ev D B fl0 w0 N ρ s a σ) (ho:ops[i]? = some o) (hco:coOp E o = true\/ev = false) (hd:∀ d,o.dst = some d->d < N) (hs:stepA E call fl lim ops o s = some s') (hfresh:∀ q,s.n<=q->q < s'.n->ρ q = none)
 (hK:∀ ρ' a' σ',Ext ρ ρ'->(∀ q,ρ' q≠none->ρ q≠none\/(s.n<=q/\q < s'.n))->StO RO ev D B fl0 w0 N ρ' s' a' σ'->C a' σ'):opO P main (pact RO L ev) fn ops i C a σ:=by
 unfold stepA at hs
 unfold opO
 rw [ho]
 simp only
 split at hs
 ·rename_i hw
  rw [wanted_of h.st hw]
  simp only [if_true]
  intro w₁ hr
  have h:=h.rely hRO hr
  clear hr
  split at hs
  ·rename_i v m' n' hop
   simp only [Option.some.injEq] at hs
   subst hs
   have hn':(s.put o.dst v m' n').n = n':=by cases o.dst <;> rfl
   rw [hn'] at hfresh hK
   have hkeep:=opA_keeps hck hop
   have hlow:fl0<=n':=Nat.le_trans h.st.low hkeep.1
   by_cases hc:isCall o.op = false
   ·have key:∃ r w' ρ' val,(execOp a.eval o).run P w₁ = .ok r w'/\(r = .value val\/(r = .skip/\val = undef))/\Ext ρ ρ'/\(∀ i,ρ' i≠none->ρ i≠none\/(s.n<=i/\i < n')) /\
     MemO RO ev B fl0 w0 ρ' m' ⟨fun b=>σ.own b\/(w₁.heap.size<=b/\b < w'.heap.size),w'⟩/\v.rel ρ' val /\
     (pact RO L ev).D ⟨σ.own,w₁⟩ (listed P fn a o w₁) ⟨fun b=>σ.own b\/(w₁.heap.size<=b/\b < w'.heap.size),w'⟩:=by
     rcases hco with hco | rfl
     ·obtain ⟨r,w',ρ',val,h1,h2,h3,h4,h5,h6,h7,h8⟩:=op_foot hE h.mem hfl h.st.low h.st.ev hco hc hop hfresh (fun i l hi hg=>by rw [<- hkeep.2 i (by omega) (by have:=h.st.low;omega)];exact hg)
      refine ⟨r,w',ρ',val,h1,h2,h3,h4,h5,h6,h8.tape,h8.os,h8.output,h8.size,fun b hb hno=>h8.block b (fun q=>q.elim hno (fun q=>absurd hb (Nat.not_lt.2 q))),fun b=>Iff.rfl,fun _ e he=>h7 e (mem_listed he)⟩
     ·obtain ⟨r,w',ρ',val,h1,h2,h3,h4,h5,h6⟩:=op_gives (P:=P) (a:=a) hE.ty hE.mp h.st.mem hfl h.st.low h.st.ev hc hop hfresh
      have hall:=h.all rfl
      have hsz:w₁.heap.size<=w'.heap.size:=run_size _ _ _ _ h1
      refine ⟨r,w',ρ',val,h1,h2,h3,h4,⟨h5,fun i l p hf hi hp=>?_,fun i l p hf hi hp=>?_,fun _ b hb=>.inl (hall b hb)⟩,h6,?_,?_,?_,hsz,fun b hb hno=>?_,fun b=>Iff.rfl,fun e=>by cases e⟩
      ·obtain ⟨p',hp',_,hb⟩:=h5.mem i l hi
       rw [hp] at hp';cases hp'
       exact .inl (.inl (hall _ (hb hf)))
      ·have hi':s.m.get i = some l:=by rw [<- hkeep.2 i (by omega) (by have:=h.st.low;omega)];exact hi
       obtain ⟨p',hp',_⟩:=h.st.mem.mem i l hi'
       have:=h3 i p' hp'
       rw [hp] at this;cases this
       exact h.ro i l p hf hi' hp'
      ·exact h5.below.tape.trans h.st.mem.below.tape.symm
      ·exact h5.below.os.trans h.st.mem.below.os.symm
      ·exact h5.below.output.trans h.st.mem.below.output.symm
      ·have hbB:b < B:=Nat.lt_of_not_le fun q=>hno (hall b q)
       exact (h5.below.block b hbB).trans (h.st.mem.below.block b hbB).symm
    obtain ⟨r,w',ρ',val,h1,hrv,h3,h4,h5,h6,h7⟩:=key
    rw [h1]
    have:=hK ρ' (a.put o.dst val) _ h3 h4 (h.put hd h3 h5 h6 hlow)
    rcases hrv with rfl | ⟨rfl,rfl⟩
    ·exact ⟨_,h7,this⟩
    ·exact ⟨_,h7,this⟩
   ·obtain ⟨dst,op,typ,pos,after,guard⟩:=o
    simp only at hop hc hd hK ⊢
    cases op <;> try (simp [isCall] at hc;done)
    rename_i c
    obtain ⟨callee,xs,ats⟩:=c
    cases callee <;> try (simp [isCall] at hc;done)
    rename_i f
    simp only [opA,callA] at hop
    split at hop
    ·rename_i g caps hg
     have hf:=h.st.ev f
     rw [hg] at hf
     obtain ⟨cs,hF,hcs⟩:=hf
     have hargs:All2 (AV.rel ρ) (xs.toList.map s.ev ++ caps.map fun p=>.sc (.ptr p.1 p.2)) (xs.map a.eval ++ cs).toList:=by
      rw [Array.toList_append,Array.toList_map]
      refine All2.append (All2.map_self _ _ h.st.ev _) ?_
      exact All2.map_left (R:=AV.rel ρ) (fun p:Nat × Nat=>AV.sc (.ptr p.1 p.2)) hcs
     obtain ⟨⟨fn',hfn,hname,hbody⟩,hC⟩:=hcall fl g _ s.m s.n v m' n' hfl h.st.low hop ρ ⟨σ.own,w₁⟩ _ h.mem hargs hfresh
     have hname':fn'.name≠ "runtime.NumGoroutine":=by simpa using hname
     have hbody':fn'.body≠none:=by intro e;simp [e] at hbody
     have hrun:(execOp a.eval ⟨dst,.call ⟨.value f,xs,ats⟩,typ,pos,after,guard⟩).run P w₁ = .ok (.enter g (xs.map a.eval ++ cs)) w₁:=by
      simp [execOp,resolve,Deferred.ofValue,hF,invoke,callFunc,hfn,hname',hbody']
     have hev:listed P fn a ⟨dst,.call ⟨.value f,xs,ats⟩,typ,pos,after,guard⟩ w₁ = #[]:=by
      refine listed_nil ?_
      simp [execOp,resolve,Deferred.ofValue,hF,invoke,callFunc,hfn,hname',hbody']
     rw [hrun]
     refine ⟨σ.own,by rw [hev];exact pact_idle _,hC.mono ?_⟩
     rintro val σ' ⟨ρ',hext,hdom,hm,hv⟩
     exact hK ρ' _ σ' hext hdom (h.put hd hext hm hv hlow)
    ·cases hop
  ·cases hs
 ·rename_i hw
  rw [wanted_of h.st hw]
  simp only [Bool.false_eq_true,if_false]
  simp only [Option.some.injEq] at hs
  subst hs
  have hn':(s.put o.dst (.tup []) s.m s.n).n = s.n:=by cases o.dst <;> rfl
  exact hK ρ _ σ (Ext.refl _) (fun _ hq=>.inl hq) (h.put hd (Ext.refl _) h.mem AV.rel_undef h.st.low)
 ·cases hs
end
open Go.Conc
section
variable {C:Type} {lt le:C->C->Prop}
def LtP (lt le:C->C->Prop) (j:Nat) (f' f:Nat->C):Prop:=∃ i,i < j/\lt (f' i) (f i)/\∀ i',i' < j->i'≠i->le (f' i') (f i')
theorem LtP.turn (abs:∀ x c' c,lt x c'->le c' c->lt x c) (tr:∀ a b c,le a b->le b c->le a c) {j:Nat} {x f' f:Nat->C} (h:LtP lt le j x f') (hl:∀ i,i < j->le (f' i) (f i)):LtP lt le j x f:=
 let ⟨i,hi,h1,h2⟩:=h
 ⟨i,hi,abs _ _ _ h1 (hl i hi),fun i' hi' ne=>tr _ _ _ (h2 i' hi' ne) (hl i' hi')⟩
theorem acc_le (abs:∀ x c' c,lt x c'->le c' c->lt x c) (tr:∀ a b c,le a b->le b c->le a c) {j:Nat} {f' f:Nat->C} (h:Acc (LtP lt le j) f) (hl:∀ i,i < j->le (f' i) (f i)):Acc (LtP lt le j) f':=
 .intro _ fun _ hx=>h.inv (LtP.turn abs tr hx hl)
theorem acc_prod (abs:∀ x c' c,lt x c'->le c' c->lt x c) (tr:∀ a b c,le a b->le b c->le a c):∀ (j:Nat) (f:Nat->C),(∀ i,i < j->Acc lt (f i))->Acc (LtP lt le j) f
 | 0,f,_=>.intro _ fun _ ⟨_,hi,_⟩=>absurd hi (Nat.not_lt_zero _)
 | j + 1,f,h=>by
  have key:∀ c,Acc lt c->∀ f:Nat->C,Acc (LtP lt le j) f->(∀ x,lt x (f j)->lt x c)->Acc (LtP lt le (j + 1)) f:=by
   intro c hc
   induction hc with
   | intro c _ ihc=>
    intro f hf
    induction hf with
    | intro f hf' ihf=>
     intro hcf
     refine .intro _ fun f' hlt=>?_
     obtain ⟨i,hi,h1,h2⟩:=hlt
     by_cases e:i = j
     ·subst e
      exact ihc (f' i) (hcf _ h1) f' (acc_le abs tr (.intro f hf') fun i' hi'=>h2 i' (by omega) (by omega)) fun x hx=>hx
     ·have hlt':LtP lt le j f' f:=⟨i,by omega,h1,fun i' hi' ne=>h2 i' (by omega) ne⟩
      exact ihf f' hlt' fun x hx=>hcf x (abs _ _ _ hx (h2 j (by omega) (fun q=>e q.symm)))
  exact key (f j) (h j (by omega)) f (acc_prod abs tr j f fun i hi=>h i (by omega)) fun x hx=>hx
end
section
variable {P:Program} {main:Bool} {K:Pact} {Stop:Goroutine->GW->Prop}
def Child (P:Program) (main:Bool) (K:Pact) (Stop:Goroutine->GW->Prop) (c' c:Goroutine × GW):Prop:=
 (¬ ∀ w₁,K.R c.2 w₁->Stop c.1 ⟨c.2.own,w₁⟩)/\∃ w₁ es,K.R c.2 w₁/\stepG P main c.1 w₁ = .go c'.1 c'.2.w es/\K.D ⟨c.2.own,w₁⟩ es c'.2
theorem GoesO.acc (det:∀ σ es σ₁ σ₂,K.D σ es σ₁->K.D σ es σ₂->σ₁.w = σ₂.w->σ₁ = σ₂) {g:Goroutine} {σ:GW} (h:GoesO P main K Stop g σ):Acc (Child P main K Stop) (g,σ):=by
 induction h with
 | stop h=>exact .intro _ fun c' hc=>absurd h hc.1
 | @step g σ nx ns ne hs h hn ih=>
  refine .intro _ fun c' hc=>?_
  obtain ⟨_,w₁,es,hr,hg,hd⟩:=hc
  obtain ⟨h1,h2⟩:=h w₁ hr
  simp only at hg hd
  rw [h1] at hg
  simp only [GStep.go.injEq] at hg
  obtain ⟨e1,e2,rfl⟩:=hg
  have e3:=det _ _ _ _ h2 hd e2
  have:c' = (nx w₁,ns w₁):=by
   obtain ⟨g',σ'⟩:=c'
   simp only at e1 e3
   rw [e1,e3]
  rw [this]
  exact ih w₁ hr
end
open Go.Conc
structure Tr0 where
 main:Bool
 K:Pact
 ok:K.Ok
 Stop:Goroutine->GW->Prop
 g:Goroutine
 σ:GW
inductive Mt where
 | tree (c:Tr0)
 | num (n:Nat)
def Mt.lt (P:Program):Mt->Mt->Prop
 | .tree x,.tree c=>x.main = c.main/\x.K = c.K/\x.Stop = c.Stop/\Child P c.main c.K c.Stop (x.g,x.σ) (c.g,c.σ)
 | .num a,.num b=>a < b
 | .num _,.tree _=>True
 | _,_=>False
def Mt.le:Mt->Mt->Prop
 | .tree x,.tree c=>x.main = c.main/\x.K = c.K/\x.Stop = c.Stop/\x.g = c.g/\x.σ.own = c.σ.own/\c.K.R c.σ x.σ.w
 | .num a,.num b=>a = b
 | _,_=>False
variable {P:Program}
theorem Mt.abs:∀ x y c:Mt,Mt.lt P x y->Mt.le y c->Mt.lt P x c:=by
 rintro (x | x) (y | y) (c | c) h k <;> simp only [Mt.lt,Mt.le] at h k ⊢ <;> try contradiction
 ·obtain ⟨h1,h2,h3,h4,w₁,es,h5,h6,h7⟩:=h
  obtain ⟨k1,k2,k3,k4,k5,k6⟩:=k
  simp only at h4 h5 h6 h7
  have tr:∀ w₁,y.K.R y.σ w₁->c.K.R c.σ w₁:=by
   intro w₁ hr
   refine c.ok.trans c.σ y.σ.w w₁ k6 ?_
   rw [<- k2,<- k5];exact hr
  refine ⟨h1.trans k1,h2.trans k2,h3.trans k3,fun hall=>h4 fun w₁ hr=>?_,w₁,es,tr w₁ h5,?_,?_⟩
  ·have:=hall w₁ (tr w₁ hr)
   simp only at this
   rw [k3,k4,k5];exact this
  ·simp only;rw [<- k1,<- k4];exact h6
  ·simp only;rw [<- k2,<- k5];exact h7
 ·omega
theorem Mt.tr:∀ a b c:Mt,Mt.le a b->Mt.le b c->Mt.le a c:=by
 rintro (x | x) (y | y) (c | c) h k <;> simp only [Mt.le] at h k ⊢ <;> try contradiction
 ·obtain ⟨h1,h2,h3,h4,h5,h6⟩:=h
  obtain ⟨k1,k2,k3,k4,k5,k6⟩:=k
  refine ⟨h1.trans k1,h2.trans k2,h3.trans k3,h4.trans k4,h5.trans k5,c.ok.trans c.σ y.σ.w x.σ.w k6 ?_⟩
  rw [<- k2,<- k5];exact h6
 ·omega
theorem acc_num:∀ n:Nat,Acc (Mt.lt P) (.num n):=by
 intro n
 induction n using Nat.strongRecOn with
 | _ n ih=>
  refine .intro _ fun y h=>?_
  cases y with
  | tree x=>exact h.elim
  | num m=>exact ih m h
theorem acc_tree {main:Bool} {K:Pact} (ok:K.Ok) (det:∀ σ es σ₁ σ₂,K.D σ es σ₁->K.D σ es σ₂->σ₁.w = σ₂.w->σ₁ = σ₂) {Stop:Goroutine->GW->Prop} {g:Goroutine} {σ:GW} (h:GoesO P main K Stop g σ):
 Acc (Mt.lt P) (.tree ⟨main,K,ok,Stop,g,σ⟩):=by
 have key:∀ c:Goroutine × GW,Acc (Child P main K Stop) c->∀ ok',Acc (Mt.lt P) (.tree ⟨main,K,ok',Stop,c.1,c.2⟩):=by
  intro c hc
  induction hc with
  | intro c _ ih=>
   intro ok'
   refine .intro _ fun y hy=>?_
   cases y with
   | num m=>exact acc_num m
   | tree x=>
    obtain ⟨xm,xK,xo,xS,xg,xσ⟩:=x
    obtain ⟨h1,h2,h3,h4⟩:=hy
    simp only at h1 h2 h3 h4
    subst h1;subst h2;subst h3
    exact ih (xg,xσ) h4 xo
 exact key (g,σ) (h.acc det) ok
abbrev Am (P:Program):Type:={ c:Mt // Acc (Mt.lt P) c }
abbrev Mu (P:Program):Type:=Nat × Nat × (Nat->Am P) × Am P
def aLt (x c:Am P):Prop:=Mt.lt P x.1 c.1
def aLe (x c:Am P):Prop:=Mt.le x.1 c.1
def MuLt (y x:Mu P):Prop:=
 y.1 < x.1\/(y.1 = x.1/\y.2.1 = x.2.1/\LtP aLt aLe x.2.1 y.2.2.1 x.2.2.1)\/(y.1 = x.1/\y.2.1 = x.2.1/\(∀ i,i < x.2.1->aLe (y.2.2.1 i) (x.2.2.1 i))/\aLt y.2.2.2 x.2.2.2)
theorem acc_am (c:Am P):Acc (aLt (P:=P)) c:=by
 obtain ⟨c,hc⟩:=c
 have key:∀ c,Acc (Mt.lt P) c->∀ hc,Acc (aLt (P:=P)) ⟨c,hc⟩:=by
  intro c h
  induction h with
  | intro c _ ih=>
   intro hc
   exact .intro _ fun y hy=>ih y.1 hy y.2
 exact key c hc hc
theorem muLt_wf:WellFounded (MuLt (P:=P)):=by
 refine ⟨fun ⟨S,j,f,c⟩=>?_⟩
 induction S using Nat.strongRecOn generalizing j f c with
 | _ S ihS=>
  have abs':∀ x y c:Am P,aLt x y->aLe y c->aLt x c:=fun x y c=>Mt.abs x.1 y.1 c.1
  have tr':∀ x y c:Am P,aLe x y->aLe y c->aLe x c:=fun x y c=>Mt.tr x.1 y.1 c.1
  have key:∀ f:Nat->Am P,Acc (LtP aLt aLe j) f->∀ c:Am P,Acc aLt c->∀ g:Nat->Am P,(∀ x,LtP aLt aLe j x g->LtP aLt aLe j x f)->Acc (MuLt (P:=P)) (S,j,g,c):=by
   intro f hf
   induction hf with
   | intro f _ ihf=>
    intro c hc
    induction hc with
    | intro c _ ihc=>
     intro g hg
     refine .intro _ fun y hy=>?_
     obtain ⟨S',j',f',c'⟩:=y
     rcases hy with h | ⟨h1,h2,h3⟩ | ⟨h1,h2,h3,h4⟩
     ·exact ihS S' h j' f' c'
     ·simp only at h1 h2 h3
      subst h1;subst h2
      exact ihf f' (hg f' h3) c' (acc_am c') f' fun x hx=>hx
     ·simp only at h1 h2 h3 h4
      subst h1;subst h2
      exact ihc c' h4 f' fun x hx=>hg x (LtP.turn abs' tr' hx h3)
  exact key f (acc_prod abs' tr' j f fun i _=>acc_am (f i)) c (acc_am c) f fun x hx=>hx
open Go.Conc Go.ConcN
section
variable {Sh:Loc->Prop} {Own Own' Rd:Nat->Loc->Prop} {t u:Trace} {j:Nat}
theorem CT.grow (h:CT Sh Own Rd t j) (hm:∀ k l,Own k l->Own' k l) (hp:∀ k,1<=k->k<=j->∀ l,Own' k l->Own k l\/Perm t k l):CT Sh Own' Rd t j:=
 ⟨h.quiet,fun k k1 kj l hl=>(hp k k1 kj l hl).elim (h.own k k1 kj l) id,h.rd,fun l hs hl=>h.free l hs fun k k1 kj=>⟨fun ho=>(hl k k1 kj).1 (hm k l ho),(hl k k1 kj).2⟩,
  fun l hs hl=>h.mine l hs fun k k1 kj ho=>hl k k1 kj (hm k l ho),h.nr,h.gs⟩
def Untouched (t:Trace) (N:Nat):Prop:=∀ i a,touchAt t i = some a->∀ ad,a.loc = .cell ad->ad.block < N
theorem Untouched.perm {N:Nat} (h:Untouched t N) {ad:Addr} (hN:N<=ad.block) (g:Nat):Perm t g (.cell ad):=fun i a ha hl=>absurd (h i a ha ad hl) (Nat.not_lt.2 hN)
theorem Untouched.mono {N N':Nat} (h:Untouched t N) (hN:N<=N'):Untouched t N':=fun i a ha ad hl=>Nat.lt_of_lt_of_le (h i a ha ad hl) hN
theorem Untouched.app {N:Nat} (h:Untouched t N) (hu:∀ op∈u,∀ b,op.act.touch? = some b->∀ ad,b.loc = .cell ad->ad.block < N):Untouched (t ++ u) N:=by
 intro i a ha ad hl
 obtain ⟨x,hx,hxa⟩:=touch_of ha
 rcases getElem?_append_cases hx with ⟨_,hx'⟩ | ⟨_,hxu⟩
 ·exact h i a (by rw [touchAt_of hx'];exact hxa) ad hl
 ·exact hu x hxu a hxa ad hl
def Pooled (Pool:Loc->Prop) (t:Trace) (j:Nat):Prop:=∀ k,1<=k->k<=j->∀ l,Pool l->Perm t k l
theorem Pooled.app {Pool:Loc->Prop} (h:Pooled Pool t j) (hu:∀ op∈u,∀ b,op.act.touch? = some b->¬ Pool b.loc):Pooled Pool (t ++ u) j:=
 fun k k1 kj l hl=>(h k k1 kj l hl).app fun op hop b hb e=>absurd (e ▸ hl) (hu op hop b hb)
theorem Pooled.less {Pool Pool':Loc->Prop} (h:Pooled Pool t j) (hp:∀ l,Pool' l->Pool l):Pooled Pool' t j:=fun k k1 kj l hl=>h k k1 kj l (hp l hl)
theorem Pooled.fork {Pool:Loc->Prop} (h:Pooled Pool t j) (hc:CT Sh Own Rd t j) (hs:∀ l,Pool l->¬ Sh l) (ho:∀ l,Pool l->∀ k,1<=k->k<=j->¬ Own k l/\¬ Rd k l) {x y:MemOp} (hx:x.g = 0/\x.act = .go (j + 1)) (hy:y.g = j + 1/\y.act = .start) (h0:Deaf t 0 = 0):
 Pooled Pool (t ++ #[x,y]) (j + 1):=by
 have hk:Deaf t (j + 1) = 0:=Deaf_absent fun i op hi e=>by have:=hc.gs i op hi;omega
 have hnt:∀ op∈#[x,y],∀ b,op.act.touch? = some b->False:=by
  intro op hop b hb
  simp only [List.mem_toArray,List.mem_cons,List.not_mem_nil,or_false] at hop
  rcases hop with rfl | rfl
  ·rw [hx.2] at hb;cases hb
  ·rw [hy.2] at hb;cases hb
 intro k k1 kj l hl
 rcases Nat.lt_or_ge j k with hlt | hge
 ·obtain rfl:k = j + 1:=by omega
  intro i a ha e
  obtain ⟨z,hz,hza⟩:=touch_of ha
  rcases getElem?_append_cases hz with ⟨_,hz'⟩ | ⟨_,hzu⟩
  ·exact fork_knows hx hy h0 hk (hc.free l (hs l hl) (ho l hl) i a (by rw [touchAt_of hz'];exact hza) e)
  ·exact (hnt z hzu a hza).elim
 ·exact (h k k1 hge l hl).app fun op hop b hb _=>(hnt op hop b hb).elim
end
open Go.Conc Go.ConcN
open Go.ConcR (stA smA rd wr mk Bk g_of_ofEvents ofEvent_loc_mark ofEvent_cell ofEvent_mk loc_of_ofEvent)
def Slot (Out k:Nat) (l:Loc):Prop:=∃ a:Addr,l = .cell a/\a.block = Out/\(a.off = 2 * k\/a.off = 2 * k + 1)
def OwnF (Out:Nat) (hist got:Nat->Nat->Prop) (k:Nat) (l:Loc):Prop:=(∃ a:Addr,l = .cell a/\hist (k - 1) a.block)\/∃ q,got (k - 1) q/\Slot Out q l
def RdF (RO:Nat->Prop) (_:Nat) (l:Loc):Prop:=∃ a:Addr,l = .cell a/\RO a.block
def PoolF (Out r:Nat) (l:Loc):Prop:=∃ q,r<=q/\Slot Out q l
structure Geo (Wg Ch Out Lz:Nat) (RO:Nat->Prop):Prop where
 wg:Wg < Lz
 ch:Ch < Lz
 out:Out < Lz
 wc:Wg≠Ch
 wo:Wg≠Out
 co:Ch≠Out
 ro:∀ b,RO b->b < Lz/\b≠Wg/\b≠Ch/\b≠Out
structure Hist (Lz sz j r:Nat) (hist got:Nat->Nat->Prop):Prop where
 lo:∀ i b,i < j->hist i b->Lz<=b/\b < sz
 one:∀ i i' b,hist i b->hist i' b->i = i'
 lt:∀ i q,got i q->q < r
 gone:∀ i i' q,got i q->got i' q->i = i'
 none:∀ i b,j<=i->¬ hist i b
 gnone:∀ i q,j<=i->¬ got i q
theorem slot_inj {Out k k':Nat} {l:Loc} (h:Slot Out k l) (h':Slot Out k' l):k = k':=by
 obtain ⟨a,rfl,_,h1⟩:=h
 obtain ⟨a',e,_,h2⟩:=h'
 cases e
 omega
section
variable {Wg Ch Out Lz sz j r:Nat} {RO:Nat->Prop} {hist got:Nat->Nat->Prop} {t u:Trace}
theorem apartF (G:Geo Wg Ch Out Lz RO) (H:Hist Lz sz j r hist got):Apart (ShN Wg) (fun k l=>1<=k/\OwnF Out hist got k l) (RdF RO):=by
 have hi:∀ {i b},hist i b->i < j:=fun {i b} h=>Nat.lt_of_not_le fun q=>H.none i b q h
 refine ⟨?_,?_,?_,?_⟩
 ·rintro k k' l ⟨k1,h⟩ ⟨k1',h'⟩
  rcases h with ⟨a,rfl,h⟩ | ⟨q,h,hs⟩ <;> rcases h' with ⟨a',e,h'⟩ | ⟨q',h',hs'⟩
  ·cases e;have:=H.one _ _ _ h h';omega
  ·obtain ⟨a',e,hb,_⟩:=hs';cases e
   have:=(H.lo _ _ (hi h) h).1;have:=G.out;omega
  ·obtain ⟨a,rfl,hb,_⟩:=hs;cases e
   have:=(H.lo _ _ (hi h') h').1;have:=G.out;omega
  ·have:=slot_inj hs hs';subst this
   have:=H.gone _ _ _ h h';omega
 ·rintro k k' l ⟨_,h⟩ ⟨a',e,hr⟩
  have:=G.ro _ hr
  rcases h with ⟨a,rfl,h⟩ | ⟨q,h,a,rfl,hb,_⟩
  ·cases e;have:=(H.lo _ _ (hi h) h).1;omega
  ·cases e;omega
 ·rintro k l ⟨_,h⟩ ⟨a',e,hr⟩
  rcases h with ⟨a,rfl,h⟩ | ⟨q,h,a,rfl,hb,_⟩
  ·cases e;have:=(H.lo _ _ (hi h) h).1;have:=G.wg;omega
  ·cases e;have:=G.wo;omega
 ·rintro k l ⟨a,rfl,hr⟩ ⟨a',e,hs⟩
  cases e
  exact (G.ro _ hr).2.1 hs
def PlainW (Wg:Nat) (t:Trace):Prop:=∀ (i:Nat) (op:MemOp) (x:Touch),t[i]? = some op->op.g≠0->op.act.touch? = some x->¬ ShN Wg x.loc->x.kind = .plain/\x.loc.isMemory = true
theorem PlainW.app (h:PlainW Wg t) (hu:∀ op∈u,op.g≠0->∀ x,op.act.touch? = some x->¬ ShN Wg x.loc->x.kind = .plain/\x.loc.isMemory = true):PlainW Wg (t ++ u):=by
 intro i op x hi hg hx hn
 rcases getElem?_append_cases hi with ⟨_,hi'⟩ | ⟨_,hiu⟩
 ·exact h i op x hi' hg hx hn
 ·exact hu op hiu hg x hx hn
structure TrI (Wg Out:Nat) (RO:Nat->Prop) (hist got:Nat->Nat->Prop) (j r sz:Nat) (t:Trace):Prop where
 ct:CT (ShN Wg) (fun k l=>1<=k/\OwnF Out hist got k l) (RdF RO) t j
 unt:Untouched t sz
 pool:Pooled (PoolF Out r) t j
 plain:PlainW Wg t
 norel:NoRelease (stA Wg) t
theorem TrI.grow {sz':Nat} (h:TrI Wg Out RO hist got j r sz t) {i:Nat} {own:Nat->Prop} (hs:sz<=sz') (ho:∀ b,own b->hist i b\/sz<=b):
 TrI Wg Out RO (fun i' b=>hist i' b\/(i' = i/\own b)) got j r sz' t:=by
 refine ⟨CT.grow h.ct ?_ ?_,h.unt.mono hs,h.pool,h.plain,h.norel⟩
 ·rintro k l ⟨k1,⟨a,e,hh⟩ | hq⟩
  ·exact ⟨k1,.inl ⟨a,e,.inl hh⟩⟩
  ·exact ⟨k1,.inr hq⟩
 ·rintro k k1 kj l ⟨_,⟨a,e,hh⟩ | hq⟩
  ·rcases hh with hh | ⟨hh,hb⟩
   ·exact .inl ⟨k1,.inl ⟨a,e,hh⟩⟩
   ·rcases ho _ hb with hb | hb
    ·exact .inl ⟨k1,.inl ⟨a,e,by rw [hh];exact hb⟩⟩
    ·right
     subst e
     exact h.unt.perm hb k
  ·exact .inl ⟨k1,.inr hq⟩
theorem TrI.take (h:TrI Wg Out RO hist got j r sz t) {i:Nat}:TrI Wg Out RO hist (fun i' q=>got i' q\/(i' = i/\q = r)) j (r + 1) sz t:=by
 refine ⟨CT.grow h.ct ?_ ?_,h.unt,h.pool.less ?_,h.plain,h.norel⟩
 ·rintro k l ⟨k1,hq | ⟨q,hq,hs⟩⟩
  ·exact ⟨k1,.inl hq⟩
  ·exact ⟨k1,.inr ⟨q,.inl hq,hs⟩⟩
 ·rintro k k1 kj l ⟨_,hq | ⟨q,hq | ⟨hq,rfl⟩,hs⟩⟩
  ·exact .inl ⟨k1,.inl hq⟩
  ·exact .inl ⟨k1,.inr ⟨q,hq,hs⟩⟩
  ·exact .inr (h.pool k k1 kj l ⟨q,Nat.le_refl _,hs⟩)
 ·rintro l ⟨q,hq,hs⟩
  exact ⟨q,by omega,hs⟩
theorem TrI.appW (G:Geo Wg Ch Out Lz RO) (H:Hist Lz sz j r hist got) (hLz:Lz<=sz) (h:TrI Wg Out RO hist got j r sz t) {i:Nat} (hi:i < j)
 (hu:∀ op∈u,OkW (ShN Wg) (fun k l=>1<=k/\OwnF Out hist got k l) (RdF RO) (i + 1) op) (hp:∀ op∈u,∀ x,op.act.touch? = some x->¬ ShN Wg x.loc->x.kind = .plain/\x.loc.isMemory = true) (hr:∀ op∈u,op.act≠.mark (.release (stA Wg))):
 TrI Wg Out RO hist got j r sz (t ++ u):=by
 have key:∀ op∈u,∀ x,op.act.touch? = some x->ShN Wg x.loc\/OwnF Out hist got (i + 1) x.loc\/RdF RO (i + 1) x.loc:=by
  intro op hop x hx
  rcases (hu op hop).2 x hx with h1 | h1 | h1
  ·exact .inl h1.1
  ·exact .inr (.inl h1.2)
  ·exact .inr (.inr h1.1)
 refine ⟨h.ct.appW (apartF G H) (by omega) (by omega) hu,h.unt.app fun op hop x hx ad e=>?_,h.pool.app fun op hop x hx hp=>?_,h.plain.app fun op hop _ x hx=>hp op hop x hx,h.norel.app hr⟩
 ·have:=G.wg;have:=G.out
  rcases key op hop x hx with ⟨a,h1,h2⟩ | (⟨a,h1,h2⟩ | ⟨q,_,a,h1,h2,_⟩) | ⟨a,h1,h2⟩
  ·rw [e] at h1;cases h1;omega
  ·rw [e] at h1;cases h1;exact (H.lo _ _ hi h2).2
  ·rw [e] at h1;cases h1;omega
  ·rw [e] at h1;cases h1;have:=(G.ro _ h2).1;omega
 ·obtain ⟨q,hq,hs⟩:=hp
  rcases key op hop x hx with ⟨a,h1,h2⟩ | (⟨a,h1,h2⟩ | ⟨q',h3,h4⟩) | ⟨a,h1,h2⟩
  ·obtain ⟨a',e,hb,_⟩:=hs;rw [e] at h1;cases h1;have:=G.wo;omega
  ·obtain ⟨a',e,hb,_⟩:=hs;rw [e] at h1;cases h1;have:=(H.lo _ _ hi h2).1;have:=G.out;omega
  ·have:=slot_inj hs h4;subst this;have:=H.lt _ _ h3;omega
  ·obtain ⟨a',e,hb,_⟩:=hs;rw [e] at h1;cases h1;have:=G.ro _ h2;omega
theorem TrI.app0 (G:Geo Wg Ch Out Lz RO) (H:Hist Lz sz j r hist got) (hLz:Lz<=sz) (h:TrI Wg Out RO hist got j r sz t)
 (hu:∀ op∈u,op.g = 0/\∀ x,op.act.touch? = some x->ShN Wg x.loc/\x.kind≠.plain) (hr:∀ op∈u,op.act≠.mark (.release (stA Wg))):
 TrI Wg Out RO hist got j r sz (t ++ u):=by
 refine ⟨h.ct.app0 (apartF G H) fun op hop=>⟨(hu op hop).1,fun x hx=>.inl ((hu op hop).2 x hx)⟩,h.unt.app fun op hop x hx ad e=>?_,h.pool.app fun op hop x hx hp=>?_,h.plain.app fun op hop hg=>absurd (hu op hop).1 hg,h.norel.app hr⟩
 ·obtain ⟨⟨a,h1,h2⟩,_⟩:=(hu op hop).2 x hx
  rw [e] at h1;cases h1;have:=G.wg;omega
 ·obtain ⟨⟨a,h1,h2⟩,_⟩:=(hu op hop).2 x hx
  obtain ⟨q,hq,a',e,hb,_⟩:=hp
  rw [e] at h1;cases h1;have:=G.wo;omega
theorem TrI.fork (G:Geo Wg Ch Out Lz RO) (H:Hist Lz sz j r hist got) (h:TrI Wg Out RO hist got j r sz t) {x y:MemOp} (hx:x.g = 0/\x.act = .go (j + 1)) (hy:y.g = j + 1/\y.act = .start) (h0:Deaf t 0 = 0):
 TrI Wg Out RO hist got (j + 1) r sz (t ++ #[x,y]):=by
 have hnt:∀ op∈#[x,y],op.act.touch? = none/\op.act≠.mark (.release (stA Wg)):=by
  intro op hop
  simp only [List.mem_toArray,List.mem_cons,List.not_mem_nil,or_false] at hop
  rcases hop with rfl | rfl
  ·rw [hx.2];exact ⟨rfl,by simp⟩
  ·rw [hy.2];exact ⟨rfl,by simp⟩
 refine ⟨h.ct.fork (apartF G H) hx hy h0,h.unt.app fun op hop b hb=>?_,h.pool.fork h.ct ?_ ?_ hx hy h0,h.plain.app fun op hop _ b hb=>?_,h.norel.app fun op hop=>(hnt op hop).2⟩
 ·rw [(hnt op hop).1] at hb;cases hb
 ·rintro l ⟨q,_,a,rfl,hb,_⟩ ⟨a',e,hs⟩
  cases e;have:=G.wo;omega
 ·rintro l ⟨q,hq,hs⟩ k k1 kj
  constructor
  ·rintro ⟨_,⟨a',e,h'⟩ | ⟨q',h',hs'⟩⟩
   ·obtain ⟨a,rfl,hb,_⟩:=hs;cases e
    have:=(H.lo _ _ (Nat.lt_of_not_le fun z=>H.none _ _ z h') h').1;have:=G.out;omega
   ·have:=slot_inj hs hs';subst this;have:=H.lt _ _ h';omega
  ·rintro ⟨a',e,h'⟩
   obtain ⟨a,rfl,hb,_⟩:=hs;cases e
   have:=G.ro _ h';omega
 ·rw [(hnt op hop).1] at hb;cases hb
theorem TrI.joined (h:TrI Wg Out RO hist got j r sz t) (ha:AcqAll Wg j t):CT (ShN Wg) (fun _ _=>False) (fun _ _=>False) t j:=by
 obtain ⟨q,h1,h2,h3,h4⟩:=ha
 have free:∀ l,¬ ShN Wg l->Perm t 0 l:=by
  intro l hl i a hia e
  obtain ⟨op,ho,hot⟩:=touch_of hia
  by_cases hg:op.g = 0
  ·have:=knows_own ho;rwa [hg] at this
  ·have hgj:=h.ct.gs i op ho
   obtain ⟨rr,hr,hrq⟩:=h4 (op.g - 1) (by omega)
   rw [show op.g - 1 + 1 = op.g by omega] at hr
   have hk:=h.plain i op a ho hg hot (by rw [e];exact hl)
   have edge:HappensBefore t rr q:=.single (.inr ⟨.marked hrq (.inr hr.act) h1 (fun k _ _=>h.norel k),hr.heard,h3⟩)
   obtain ⟨z,hz,hzg⟩:=Option.map_eq_some_iff.1 h2
   have hcount:t.counts i:=⟨a,hia,hk.2,.inl (by rw [hk.1];simp)⟩
   have hgi:t.g? i = some op.g:=by simp [Trace.g?,ho]
   have hle:i<=rr:=Nat.le_of_not_lt fun hlt=>hr.after i hlt hgi hcount
   have hb:Before t i rr:=by
    rcases Nat.lt_or_ge i rr with hlt | hge
    ·exact .inr (.single (.inl ⟨hlt,op.g,hgi,hr.g⟩))
    ·exact .inl (by omega)
   exact ⟨q,z,hz,hzg,.inr (hb.hb edge)⟩
 exact ⟨h.ct.quiet,fun _ _ _ _ hh=>hh.elim,fun _ _ _ _ hh=>hh.elim,fun l hs _=>free l hs,fun l hs _=>.of (free l hs),h.ct.nr,h.ct.gs⟩
end
open Go.Conc Go.ConcN
open Go.ConcR (KK wgBlock WgAt stA smA rd wr mk Payload DC0)
structure Cfg where
 P:Program
 ty:TypeId
 Wg:Nat
 Ch:Nat
 Out:Nat
 Lz:Nat
 N:Nat
 RO:Nat->Prop
 zero:Value
 ety:TypeId
 Res:Nat->Value->Value->(Nat->Prop)->World->Prop
variable [Payload]
section
variable (c:Cfg)
def Cfg.jobs (r:Nat):Array Value:=((List.range' r (c.N - r)).map fun (k:Nat)=>Value.int .i64 (k:Int)).toArray
def ChAt (r:Nat) (w:World):Prop:=r<=c.N/\w.heap[c.Ch]? = some (.chan c.N (c.jobs r) true c.N r false)
def OutAt (w:World):Prop:=∃ cs:Array Value,w.heap[c.Out]? = some (.cells cs c.ety)/\cs.size = 2 * c.N
structure Lk (w w₁:World):Prop where
 wg:WgLive c.ty c.Wg w->WgLive c.ty c.Wg w₁
 ch:(∃ r,ChAt c r w)->∃ r,ChAt c r w₁
 out:OutAt c w->OutAt c w₁
theorem Lk.trans {a b d:World} (h:Lk c a b) (k:Lk c b d):Lk c a d:=⟨k.wg ∘ h.wg,k.ch ∘ h.ch,k.out ∘ h.out⟩
def Kw:Pact:=pact c.RO (Lk c) true
theorem Kw.ok:(Kw c).Ok:=pact_ok fun _ _ _=>Lk.trans c
def K7:Pact where
 R:=(Kw c).R
 D σ es σ':=σ'.own = σ.own/\σ'.w = { σ.w with drawn:=σ'.w.drawn }/\∀ e∈es,EvW c.Wg (fun _ _=>False) (fun _ _=>False) 1 e
def K6:Pact where
 R:=(Kw c).R
 D σ es σ':=σ'.own = σ.own/\σ'.w = { σ.w with drawn:=σ'.w.drawn }/\es = #[]
theorem K7.ok:(K7 c).Ok:=⟨(Kw.ok c).trans,fun _=>⟨rfl,rfl,by simp⟩,fun _=>⟨rfl,rfl,by simp⟩⟩
theorem K6.ok:(K6 c).Ok:=⟨(Kw.ok c).trans,fun _=>⟨rfl,rfl,rfl⟩,fun _=>⟨rfl,rfl,rfl⟩⟩
structure R0 (w w₁:World):Prop where
 tape:w₁.tape = w.tape
 os:w₁.os = w.os
 output:w₁.output = w.output
 size:w.heap.size<=w₁.heap.size
 low:∀ b,c.RO b->w₁.heap[b]? = w.heap[b]?
 lk:Lk c w w₁
def K0:Pact where
 R σ w₁:=R0 c σ.w w₁
 D σ es σ':=σ'.own = σ.own/\σ'.w = { σ.w with drawn:=σ'.w.drawn }/\es = #[]
theorem R0.trans {a b d:World} (h:R0 c a b) (k:R0 c b d):R0 c a d:=
 ⟨k.tape.trans h.tape,k.os.trans h.os,k.output.trans h.output,Nat.le_trans h.size k.size,fun b hb=>(k.low b hb).trans (h.low b hb),h.lk.trans c k.lk⟩
theorem K0.ok:(K0 c).Ok:=⟨fun _ _ _ h k=>R0.trans c h k,fun _=>⟨rfl,rfl,rfl⟩,fun _=>⟨rfl,rfl,rfl⟩⟩
def Kt (B:Nat):Pact:=pact (fun b=>b < B/\b≠c.Wg) (fun w w₁=>w₁.heap = w.heap) true
theorem Kt.ok (B:Nat):(Kt c B).Ok:=pact_ok fun _ _ _ h k=>k.trans h
abbrev noOwn:Nat->Prop:=fun _=>False
section
variable (Anch:Goroutine->GW->Prop)
def AtPut (k:Nat) (g:Goroutine) (σ:GW):Prop:=
 g.status = .running/\k < c.N/\∃ v1 v2 fin,c.Res k v1 v2 fin σ.w/\(∀ b,fin b->σ.own b\/c.RO b) /\
  (OutAt c σ.w->∃ g',stepG c.P false g σ.w = .go g' ((σ.w.setCell ⟨c.Out,2 * k,none⟩ v1).setCell ⟨c.Out,2 * k + 1,none⟩ v2) #[⟨.cell ⟨c.Out,2 * k,none⟩,true,false⟩,⟨.cell ⟨c.Out,2 * k + 1,none⟩,true,false⟩] /\
    Anch g' ⟨noOwn,(σ.w.setCell ⟨c.Out,2 * k,none⟩ v1).setCell ⟨c.Out,2 * k + 1,none⟩ v2⟩)
def AtR (g:Goroutine) (σ:GW):Prop:=∃ C n v,c.RO C/\AtR0 c.P c.ty c.Wg C n 0 1 v g σ.w
def AtRecv (g:Goroutine) (σ:GW):Prop:=
 g.status = .running/\∃ g₂,stepG c.P false g σ.w = .comm g₂ #[rcase c.Ch c.zero] true (.recv true) σ.w #[] /\
  (∀ k,k < c.N->∀ w,(Kw c).R σ w->GoesO c.P false (Kw c) (AtPut c Anch k) (Conc.served g₂ (.tuple #[.int .i64 (k:Int),.bool true])) ⟨noOwn,w⟩) /\
  GoesO c.P false (K7 c) (AtR c) (Conc.served g₂ (.tuple #[c.zero,.bool false])) ⟨noOwn,σ.w⟩
end
def AtK (g:Goroutine) (σ:GW):Prop:=∃ C n,c.RO C/\AtK1 c.P c.ty c.Wg C n 0 1 g σ.w
def AtDa (g:Goroutine) (σ:GW):Prop:=∃ C n,c.RO C/\AtD1 c.P c.ty c.Wg C n 0 1 g σ.w
def AtDb (g:Goroutine) (σ:GW):Prop:=∃ C n,c.RO C/\AtD2 c.P c.ty c.Wg C n 0 1 g σ.w
def AtDc (g:Goroutine) (σ:GW):Prop:=∃ C n,c.RO C/\AtD3 c.P c.ty c.Wg C n 0 1 g σ.w
def AtDd (g:Goroutine) (σ:GW):Prop:=AtD4 c.P c.ty c.Wg g σ.w
section
variable (Anch:Goroutine->GW->Prop) (AnW:Goroutine->World->Prop) (Post:Value->World->Prop)
def GP (S:Goroutine->World->Prop) (g:Goroutine) (w:World):Prop:=GoesO c.P true (K0 c) (fun g σ=>S g σ.w) g ⟨noOwn,w⟩
def AllDone (w:World):Prop:=WgAt c.ty c.Wg w 0 0/\c.Lz<=w.heap.size/\OutAt c w/\∀ k,k < c.N->∃ v1 v2 fin,w.cell? ⟨c.Out,2 * k,none⟩ = some v1/\w.cell? ⟨c.Out,2 * k + 1,none⟩ = some v2/\c.Res k v1 v2 fin w
def AtRet (B:Nat) (g:Goroutine) (σ:GW):Prop:=
 g.status = .running/\∃ v es,stepG c.P true g σ.w = .ended (.done v) σ.w es/\(∀ e∈es,EvO σ.own (fun b=>b < B/\b≠c.Wg) e)/\Post v σ.w
def AtAcq0 (g:Goroutine) (w:World):Prop:=
 g.status = .running/\∃ g',stepG c.P true g w = .go g' w #[mk (.acquire (stA c.Wg))]/\(AllDone c w->GoesO c.P true (Kt c w.heap.size) (AtRet c Post w.heap.size) g' ⟨noOwn,w⟩)
def AtKe0 (g:Goroutine) (w:World):Prop:=
 g.status = .running/\∃ g',stepG c.P true g w = .go g' w #[mk .enable]/\GP c (AtAcq0 c Post) g' w
def AtW40 (g:Goroutine) (w:World):Prop:=
 g.status = .running/\(WgAt c.ty c.Wg w 0 0->∃ g',stepG c.P true g w = .go g' w #[rd (stA c.Wg)]/\GP c (AtKe0 c Post) g' w)
def AtW30 (g:Goroutine) (w:World):Prop:=
 g.status = .running/\g.offers = none/\((∃ st,WgAt c.ty c.Wg w st 0)->stepG c.P true g w = .go { g with status:=.blocked } w #[]) /\
  (WgAt c.ty c.Wg w 0 1->∃ g',stepG c.P true g w = .go g' (w.setCell (smA c.Wg) (.int .u32 0)) (semEvents (smA c.Wg))/\GP c (AtW40 c Post) g' (w.setCell (smA c.Wg) (.int .u32 0)))
def AtWm (g:Goroutine) (w:World):Prop:=
 g.status = .running/\∃ g',stepG c.P true g w = .go g' w #[mk (.write (smA c.Wg))]/\GP c (AtW30 c Post) g' w
def AtW20 (vs:Nat) (g:Goroutine) (w:World):Prop:=
 g.status = .running/\∀ v:Nat,v < 2147483648->WgAt c.ty c.Wg w (v * KK) 0 ->
  (v = vs->∃ g',stepG c.P true g w = .go g' (w.setCell (stA c.Wg) (.int .u64 (v * KK + 1))) #[rd (stA c.Wg),wr (stA c.Wg)]/\GP c (AtWm c Post) g' (w.setCell (stA c.Wg) (.int .u64 (v * KK + 1)))) /\
  (v≠vs->∃ g',stepG c.P true g w = .go g' w #[rd (stA c.Wg)]/\GP c AnW g' w)
def AtW10 (g:Goroutine) (w:World):Prop:=
 g.status = .running/\∀ v:Nat,v < 2147483648->WgAt c.ty c.Wg w (v * KK) 0->∃ g',stepG c.P true g w = .go g' w #[rd (stA c.Wg)] /\
  (v = 0->GP c (AtKe0 c Post) g' w)/\(v≠0->GP c (AtW20 c AnW Post v) g' w)
def AtKd0 (g:Goroutine) (w:World):Prop:=
 g.status = .running/\∃ g',stepG c.P true g w = .go g' w #[mk .disable]/\GP c AnW g' w
def AtGo (Next:Goroutine->World->Prop) (g:Goroutine) (w:World):Prop:=
 g.status = .running/\∃ g' child,stepG c.P true g w = .spawn g' child w #[]/\child.status = .running/\GoesO c.P false (Kw c) (AtRecv c Anch) child ⟨noOwn,w⟩/\GP c Next g' w
def AtEn (Next:Goroutine->World->Prop) (g:Goroutine) (w:World):Prop:=
 g.status = .running/\∃ g',stepG c.P true g w = .go g' w #[mk .enable]/\GP c (AtGo c Anch Next) g' w
def AtRm (Next:Goroutine->World->Prop) (g:Goroutine) (w:World):Prop:=
 g.status = .running/\∃ g',stepG c.P true g w = .go g' w #[mk (.read (smA c.Wg))]/\GP c (AtEn c Anch Next) g' w
def AtAdd (Next:Goroutine->World->Prop) (g:Goroutine) (w:World):Prop:=
 g.status = .running/\∀ v:Nat,v < 2147483647->WgAt c.ty c.Wg w (v * KK) 0 ->
  ∃ g',stepG c.P true g w = .go g' (w.setCell (stA c.Wg) (.int .u64 ((v + 1) * KK))) #[rd (stA c.Wg),wr (stA c.Wg)] /\
   (v = 0->GP c (AtRm c Anch Next) g' (w.setCell (stA c.Wg) (.int .u64 ((v + 1) * KK))))/\(v≠0->GP c (AtEn c Anch Next) g' (w.setCell (stA c.Wg) (.int .u64 ((v + 1) * KK))))
def AtDis (Next:Goroutine->World->Prop) (g:Goroutine) (w:World):Prop:=
 g.status = .running/\∃ g',stepG c.P true g w = .go g' w #[mk .disable]/\GP c (AtAdd c Anch Next) g' w
def AtSp:Nat->Goroutine->World->Prop
 | 0=>AtKd0 c AnW
 | r + 1=>AtDis c Anch (AtSp r)
end
end
open Go.Conc Go.ConcN
open Go.ConcR (KK wgBlock WgAt stA smA rd wr mk Payload DC0 again_blocked)
variable [Payload]
section
variable {c:Cfg}
theorem Lk.refl (w:World):Lk c w w:=⟨id,id,id⟩
theorem kw_refl (σ:GW):(Kw c).R σ σ.w:=⟨rfl,rfl,rfl,Nat.le_refl _,fun _ _=>rfl,Lk.refl _⟩
theorem R0.refl (w:World):R0 c w w:=⟨rfl,rfl,rfl,Nat.le_refl _,fun _ _=>rfl,Lk.refl _⟩
theorem k0_refl (σ:GW):(K0 c).R σ σ.w:=R0.refl _
theorem kt_refl (B:Nat) (σ:GW):(Kt c B).R σ σ.w:=⟨rfl,rfl,rfl,Nat.le_refl _,fun _ _=>rfl,rfl⟩
theorem gw_ext {a b:GW} (h1:a.own = b.own) (h2:a.w = b.w):a = b:=by
 obtain ⟨ao,aw⟩:=a;obtain ⟨bo,bw⟩:=b;simp only at h1 h2;rw [h1,h2]
theorem pact_det {RO:Nat->Prop} {L:World->World->Prop} {ev:Bool}:∀ σ es σ₁ σ₂,(pact RO L ev).D σ es σ₁->(pact RO L ev).D σ es σ₂->σ₁.w = σ₂.w->σ₁ = σ₂:=by
 intro σ es σ₁ σ₂ h k e
 refine gw_ext (funext fun b=>propext ?_) e
 rw [h.2.2.2.2.2.1 b,k.2.2.2.2.2.1 b,e]
theorem kw_det:∀ σ es σ₁ σ₂,(Kw c).D σ es σ₁->(Kw c).D σ es σ₂->σ₁.w = σ₂.w->σ₁ = σ₂:=pact_det
theorem kt_det (B:Nat):∀ σ es σ₁ σ₂,(Kt c B).D σ es σ₁->(Kt c B).D σ es σ₂->σ₁.w = σ₂.w->σ₁ = σ₂:=pact_det
theorem k7_det:∀ σ es σ₁ σ₂,(K7 c).D σ es σ₁->(K7 c).D σ es σ₂->σ₁.w = σ₂.w->σ₁ = σ₂:=fun _ _ _ _ h k e=>gw_ext (h.1.trans k.1.symm) e
theorem k6_det:∀ σ es σ₁ σ₂,(K6 c).D σ es σ₁->(K6 c).D σ es σ₂->σ₁.w = σ₂.w->σ₁ = σ₂:=fun _ _ _ _ h k e=>gw_ext (h.1.trans k.1.symm) e
theorem k0_det:∀ σ es σ₁ σ₂,(K0 c).D σ es σ₁->(K0 c).D σ es σ₂->σ₁.w = σ₂.w->σ₁ = σ₂:=fun _ _ _ _ h k e=>gw_ext (h.1.trans k.1.symm) e
theorem GoesO.running {P:Program} {main:Bool} {K:Pact} {Stop:Goroutine->GW->Prop} {g:Goroutine} {σ:GW} (h:GoesO P main K Stop g σ) (refl:∀ σ,K.R σ σ.w) (hS:∀ g σ,Stop g σ->g.status = .running):g.status = .running:=by
 rcases h.elim with h | h
 ·exact hS _ _ (h σ.w (refl σ))
 ·exact h.1
end
structure Wk (P:Program) where
 stage:Nat
 job:Option Nat
 deaf:Nat
 own:Nat->Prop
 mt:Am P
section
variable (c:Cfg) (Anch:Goroutine->GW->Prop)
inductive WSt:Wk c.P->Goroutine->World->Prop
 | recv {own:Nat->Prop} {g:Goroutine} {w:World} (h:GoesO c.P false (Kw c) (AtRecv c Anch) g ⟨own,w⟩) (a:Acc (Mt.lt c.P) (.tree ⟨false,Kw c,Kw.ok c,AtRecv c Anch,g,⟨own,w⟩⟩)):WSt ⟨8,none,0,own,⟨_,a⟩⟩ g w
 | put {k:Nat} {own:Nat->Prop} {g:Goroutine} {w:World} (h:GoesO c.P false (Kw c) (AtPut c Anch k) g ⟨own,w⟩) (a:Acc (Mt.lt c.P) (.tree ⟨false,Kw c,Kw.ok c,AtPut c Anch k,g,⟨own,w⟩⟩)):WSt ⟨9,some k,0,own,⟨_,a⟩⟩ g w
 | r0 {g:Goroutine} {w:World} (h:GoesO c.P false (K7 c) (AtR c) g ⟨noOwn,w⟩) (a:Acc (Mt.lt c.P) (.tree ⟨false,K7 c,K7.ok c,AtR c,g,⟨noOwn,w⟩⟩)):WSt ⟨7,none,0,noOwn,⟨_,a⟩⟩ g w
 | k1 {g:Goroutine} {w:World} (h:GoesO c.P false (K6 c) (AtK c) g ⟨noOwn,w⟩) (a:Acc (Mt.lt c.P) (.tree ⟨false,K6 c,K6.ok c,AtK c,g,⟨noOwn,w⟩⟩)):WSt ⟨6,none,0,noOwn,⟨_,a⟩⟩ g w
 | d1 {g:Goroutine} {w:World} (h:GoesO c.P false (K6 c) (AtDa c) g ⟨noOwn,w⟩) (a:Acc (Mt.lt c.P) (.tree ⟨false,K6 c,K6.ok c,AtDa c,g,⟨noOwn,w⟩⟩)):WSt ⟨5,none,1,noOwn,⟨_,a⟩⟩ g w
 | d2 {g:Goroutine} {w:World} (h:GoesO c.P false (K6 c) (AtDb c) g ⟨noOwn,w⟩) (a:Acc (Mt.lt c.P) (.tree ⟨false,K6 c,K6.ok c,AtDb c,g,⟨noOwn,w⟩⟩)):WSt ⟨4,none,1,noOwn,⟨_,a⟩⟩ g w
 | d3 {g:Goroutine} {w:World} (h:GoesO c.P false (K6 c) (AtDc c) g ⟨noOwn,w⟩) (a:Acc (Mt.lt c.P) (.tree ⟨false,K6 c,K6.ok c,AtDc c,g,⟨noOwn,w⟩⟩)):WSt ⟨3,none,1,noOwn,⟨_,a⟩⟩ g w
 | d4 {g:Goroutine} {w:World} (h:GoesO c.P false (K6 c) (AtDd c) g ⟨noOwn,w⟩) (a:Acc (Mt.lt c.P) (.tree ⟨false,K6 c,K6.ok c,AtDd c,g,⟨noOwn,w⟩⟩)):WSt ⟨2,none,1,noOwn,⟨_,a⟩⟩ g w
 | quit {q d:Nat} {g:Goroutine} {w:World} (h:QuitsD c.P q d g):WSt ⟨1,none,d,noOwn,⟨.num q,acc_num q⟩⟩ g w
end
section
variable {c:Cfg} {Anch:Goroutine->GW->Prop} {x:Wk c.P} {g:Goroutine} {w w':World}
theorem WSt.rely (h:WSt c Anch x g w) (hr:(Kw c).R ⟨x.own,w⟩ w'):∃ mt':Am c.P,aLe mt' x.mt/\WSt c Anch { x with mt:=mt' } g w':=by
 cases h with
 | recv h a=>exact ⟨⟨_,acc_tree (Kw.ok c) kw_det (h.rely (Kw.ok c) hr)⟩,⟨rfl,rfl,rfl,rfl,rfl,hr⟩,.recv (h.rely (Kw.ok c) hr) _⟩
 | put h a=>exact ⟨⟨_,acc_tree (Kw.ok c) kw_det (h.rely (Kw.ok c) hr)⟩,⟨rfl,rfl,rfl,rfl,rfl,hr⟩,.put (h.rely (Kw.ok c) hr) _⟩
 | r0 h a=>exact ⟨⟨_,acc_tree (K7.ok c) k7_det (h.rely (K7.ok c) hr)⟩,⟨rfl,rfl,rfl,rfl,rfl,hr⟩,.r0 (h.rely (K7.ok c) hr) _⟩
 | k1 h a=>exact ⟨⟨_,acc_tree (K6.ok c) k6_det (h.rely (K6.ok c) hr)⟩,⟨rfl,rfl,rfl,rfl,rfl,hr⟩,.k1 (h.rely (K6.ok c) hr) _⟩
 | d1 h a=>exact ⟨⟨_,acc_tree (K6.ok c) k6_det (h.rely (K6.ok c) hr)⟩,⟨rfl,rfl,rfl,rfl,rfl,hr⟩,.d1 (h.rely (K6.ok c) hr) _⟩
 | d2 h a=>exact ⟨⟨_,acc_tree (K6.ok c) k6_det (h.rely (K6.ok c) hr)⟩,⟨rfl,rfl,rfl,rfl,rfl,hr⟩,.d2 (h.rely (K6.ok c) hr) _⟩
 | d3 h a=>exact ⟨⟨_,acc_tree (K6.ok c) k6_det (h.rely (K6.ok c) hr)⟩,⟨rfl,rfl,rfl,rfl,rfl,hr⟩,.d3 (h.rely (K6.ok c) hr) _⟩
 | d4 h a=>exact ⟨⟨_,acc_tree (K6.ok c) k6_det (h.rely (K6.ok c) hr)⟩,⟨rfl,rfl,rfl,rfl,rfl,hr⟩,.d4 (h.rely (K6.ok c) hr) _⟩
 | quit h=>exact ⟨⟨.num _,acc_num _⟩,rfl,.quit h⟩
theorem WSt.running_of (h:WSt c Anch x g w) (hs:x.stage≠1):g.status = .running:=by
 cases h with
 | recv h a=>exact h.running kw_refl fun _ _ x=>x.1
 | put h a=>exact h.running kw_refl fun _ _ x=>x.1
 | r0 h a=>exact h.running kw_refl fun _ _ ⟨_,_,_,_,x⟩=>x.1
 | k1 h a=>exact h.running kw_refl fun _ _ ⟨_,_,_,x⟩=>x.1
 | d1 h a=>exact h.running kw_refl fun _ _ ⟨_,_,_,x⟩=>x.1
 | d2 h a=>exact h.running kw_refl fun _ _ ⟨_,_,_,x⟩=>x.1
 | d3 h a=>exact h.running kw_refl fun _ _ ⟨_,_,_,x⟩=>x.1
 | d4 h a=>exact h.running kw_refl fun _ _ x=>x.1
 | quit h=>exact absurd rfl hs
theorem WSt.status (h:WSt c Anch x g w):g.status = .running\/g.status = .finished:=by
 by_cases hs:x.stage = 1
 ·cases h <;> simp only at hs <;> try omega
  rename_i h;exact h.status
 ·exact .inl (h.running_of hs)
theorem WSt.woken (h:WSt c Anch x g w) (a a':Goroutine) (w':World):woken c.P a a' w' g = g:=by
 unfold Go.Conc.woken
 split
 ·exact again_running _ h.status
 ·rfl
theorem WSt.stage1 (h:WSt c Anch x g w) (hs:x.stage = 1):∃ q,QuitsD c.P q x.deaf g/\x.mt.1 = .num q/\x.own = noOwn/\x.job = none:=by
 cases h <;> simp only at hs <;> try omega
 rename_i h;exact ⟨_,h,rfl,rfl,rfl⟩
end
section
variable (c:Cfg) (n:Nat) (Anch:Goroutine->GW->Prop) (AnW:Goroutine->World->Prop) (Post:Value->World->Prop)
inductive IsStop:CTag->Nat->Nat->Nat->(Goroutine->World->Prop)->Prop
 | dis {r:Nat}:r < n->IsStop (.sp r 5) 0 (n - (r + 1)) 0 (AtDis c Anch (AtSp c Anch AnW r))
 | add {r:Nat}:r < n->IsStop (.sp r 4) 0 (n - (r + 1)) 1 (AtAdd c Anch (AtSp c Anch AnW r))
 | rm {r:Nat}:r < n->IsStop (.sp r 3) 0 (n - (r + 1)) 1 (AtRm c Anch (AtSp c Anch AnW r))
 | en {r:Nat}:r < n->IsStop (.sp r 2) 0 (n - (r + 1)) 1 (AtEn c Anch (AtSp c Anch AnW r))
 | go {r:Nat}:r < n->IsStop (.sp r 1) 0 (n - (r + 1)) 0 (AtGo c Anch (AtSp c Anch AnW r))
 | kd:IsStop .kd 0 n 0 (AtKd0 c AnW)
 | w1:IsStop .w1 0 n 1 (AtW10 c AnW Post)
 | w2 {vs:Nat}:IsStop (.w2 vs) 0 n 1 (AtW20 c AnW Post vs)
 | wm:IsStop .w3 1 n 1 (AtWm c Post)
 | w3:IsStop .w3 0 n 1 (AtW30 c Post)
 | w4:IsStop .w4 0 n 1 (AtW40 c Post)
 | ke:IsStop .ke 0 n 1 (AtKe0 c Post)
 | acq:IsStop .acq 0 n 0 (AtAcq0 c Post)
inductive CSt:CTag->Nat->Nat->Nat->Am c.P->Goroutine->World->Prop
 | go {tag:CTag} {ex j d:Nat} {S:Goroutine->World->Prop} {g:Goroutine} {w:World} (s:IsStop c n Anch AnW Post tag ex j d S) (h:GP c S g w) (a:Acc (Mt.lt c.P) (.tree ⟨true,K0 c,K0.ok c,fun g σ=>S g σ.w,g,⟨noOwn,w⟩⟩)):CSt tag ex j d ⟨_,a⟩ g w
 | blk {g:Goroutine} {w:World} (h:∀ w₁,R0 c w w₁->AtW30 c Post g w₁):CSt .blk 0 n 1 ⟨.num 0,acc_num 0⟩ { g with status:=.blocked } w
end
section
variable {c:Cfg} {n:Nat} {Anch:Goroutine->GW->Prop} {AnW:Goroutine->World->Prop} {Post:Value->World->Prop} {tag:CTag} {ex j d:Nat} {S:Goroutine->World->Prop} {mt:Am c.P} {a:Goroutine} {w w':World}
theorem IsStop.running (s:IsStop c n Anch AnW Post tag ex j d S) {g:Goroutine} {w:World} (h:S g w):g.status = .running:=by
 cases s <;> exact h.1
theorem IsStop.bound (s:IsStop c n Anch AnW Post tag ex j d S):j + pend tag<=n/\tag≠.blk/\tag≠.ret:=by
 cases s <;> simp only [pend] <;> refine ⟨?_,by simp,by simp⟩ <;> (try simp) <;> omega
theorem CSt.bound (h:CSt c n Anch AnW Post tag ex j d mt a w):j + pend tag<=n:=by
 cases h with
 | go s _ _=>exact s.bound.1
 | blk _=>simp [pend]
theorem CSt.status (h:CSt c n Anch AnW Post tag ex j d mt a w):(a.status = .running/\tag≠.blk)\/(a.status = .blocked/\a.offers = none/\tag = .blk):=by
 cases h with
 | go s h _=>exact .inl ⟨GoesO.running h k0_refl (fun _ _ x=>s.running x),s.bound.2.1⟩
 | blk h=>exact .inr ⟨rfl,(h w (R0.refl w)).2.1,rfl⟩
theorem CSt.rely (h:CSt c n Anch AnW Post tag ex j d mt a w) (hr:R0 c w w'):∃ mt',aLe mt' mt/\CSt c n Anch AnW Post tag ex j d mt' a w':=by
 cases h with
 | go s h _=>exact ⟨⟨_,acc_tree (K0.ok c) k0_det (GoesO.rely (K0.ok c) h hr)⟩,⟨rfl,rfl,rfl,rfl,rfl,hr⟩,.go s (GoesO.rely (K0.ok c) h hr) _⟩
 | blk h=>exact ⟨⟨.num 0,acc_num 0⟩,(show Mt.le (.num 0) (.num 0) from rfl),.blk fun w₁ h₁=>h w₁ (hr.trans c h₁)⟩
theorem CSt.mk {g:Goroutine} (s:IsStop c n Anch AnW Post tag ex j d S) (h:GP c S g w):∃ mt,CSt c n Anch AnW Post tag ex j d mt g w:=
 ⟨⟨_,acc_tree (K0.ok c) k0_det h⟩,.go s h _⟩
theorem CSt.wokenBy (h:CSt c n Anch AnW Post tag ex j d mt a w) (hr:R0 c w w') (g g':Goroutine):
 ∃ tag' mt',CSt c n Anch AnW Post tag' ex j d mt' (woken c.P g g' w' a) w'/\(tag' = tag\/(tag = .blk/\tag' = .w3))/\(mayWake c.P g = true->g'.status = .running->tag'≠.blk):=by
 obtain ⟨mt1,_,h'⟩:=h.rely hr
 unfold Go.Conc.woken
 split
 ·rcases h'.status with ⟨hs,hne⟩ | ⟨_,_,rfl⟩
  ·exact ⟨tag,mt1,by rw [again_running _ (.inl hs)];exact h',.inl rfl,fun _ _=>hne⟩
  ·cases h' with
   | go s _ _=>exact absurd rfl s.bound.2.1
   | @blk g0 _ hb=>
    have h3:=hb w' (R0.refl w')
    obtain ⟨mt2,h2⟩:=CSt.mk (n:=n) (Anch:=Anch) (AnW:=AnW) (Post:=Post) (g:=g0) (w:=w') .w3 (.stop fun w₁ h₁=>hb w₁ h₁)
    exact ⟨.w3,mt2,by rw [again_blocked h3.1 h3.2.1];exact h2,.inr ⟨rfl,rfl⟩,fun _ _=>by simp⟩
 ·rename_i hc
  exact ⟨tag,mt1,h',.inl rfl,fun h1 h2=>absurd (by simp [h1,h2]) hc⟩
end
section
variable (c:Cfg) (Anch:Goroutine->GW->Prop)
def DoneJ (j:Nat) (own:Nat->Nat->Prop) (w:World) (k:Nat):Prop:=
 ∃ v1 v2 fin,w.cell? ⟨c.Out,2 * k,none⟩ = some v1/\w.cell? ⟨c.Out,2 * k + 1,none⟩ = some v2/\c.Res k v1 v2 fin w/\∀ b,fin b->c.RO b\/(c.Lz<=b/\b < w.heap.size/\∀ i,i < j->¬ own i b)
structure Com (j r:Nat) (gs:Array Goroutine) (w:World) (t:Trace) (D:Nat->Wk c.P) (hist got:Nat->Nat->Prop) (d0:Nat):Prop where
 size:gs.size = j + 1
 wk:∀ i,i < j->∃ g,gs[i + 1]? = some g/\WSt c Anch (D i) g w
 H:Hist c.Lz w.heap.size j r hist got
 tr:TrI c.Wg c.Out c.RO hist got j r w.heap.size t
 deaf0:Deaf t 0 = d0
 deafW:∀ i,i < j->Deaf t (i + 1) = (D i).deaf
 rel:∀ i,i < j->(D i).stage<=6->∃ q,RelBy (stA c.Wg) t (i + 1) q
 lz:c.Lz<=w.heap.size
 ch:ChAt c r w
 out:OutAt c w
 own:∀ i,i < j->∀ b,(D i).own b->hist i b
 mine:∀ i,i < j->∀ k,(D i).job = some k->got i k
 jobs:∀ k,k < r->(∃ i,i < j/\(D i).job = some k)\/DoneJ c j (fun i=>(D i).own) w k
 last:∀ i,i < j->(D i).stage<=7->r = c.N
end
open Go.Conc Go.ConcN
open Go.ConcR (KK wgBlock WgAt stA smA rd wr mk Payload DC0 again_blocked g_of_ofEvents)
variable [Payload]
section
variable {c:Cfg} {Anch:Goroutine->GW->Prop} {j r r':Nat} {gs gs':Array Goroutine} {w w':World} {t u:Trace} {D:Nat->Wk c.P} {hist got hist' got':Nat->Nat->Prop} {d0:Nat}
theorem Com.stepW (h:Com c Anch j r gs w t D hist got d0) {i:Nat} (hi:i < j) {g':Goroutine} {x':Wk c.P}
 (hsz:gs'.size = gs.size) (hgi:gs'[i + 1]? = some g') (hgo:∀ i',i' < j->i'≠i->gs'[i' + 1]? = gs[i' + 1]?)
 (hoth:∀ i',i' < j->i'≠i->(Kw c).R ⟨(D i').own,w⟩ w') (hsit:WSt c Anch x' g' w')
 (H':Hist c.Lz w'.heap.size j r' hist' got') (tr':TrI c.Wg c.Out c.RO hist' got' j r' w'.heap.size (t ++ u))
 (hu:∀ op∈u,op.g = i + 1) (hdeaf:Deaf (t ++ u) (i + 1) = x'.deaf) (hrel:x'.stage<=6->∃ q,RelBy (stA c.Wg) (t ++ u) (i + 1) q)
 (hlz:c.Lz<=w'.heap.size) (hch:ChAt c r' w') (hout:OutAt c w')
 (hown:∀ b,x'.own b->hist' i b) (hhist:∀ i' b,hist i' b->hist' i' b) (hmine:∀ k,x'.job = some k->got' i k) (hgot:∀ i' k,got i' k->got' i' k)
 (hjobs:∀ k,k < r'->(∃ i',i' < j/\i'≠i/\(D i').job = some k)\/x'.job = some k\/DoneJ c j (fun i'=>if i' = i then x'.own else (D i').own) w' k)
 (hlast:(x'.stage<=7->r' = c.N)/\(r = c.N->r' = c.N)):
 ∃ D':Nat->Wk c.P,D' i = x'/\(∀ i',i'≠i->(D' i').stage = (D i').stage/\(D' i').job = (D i').job/\(D' i').deaf = (D i').deaf/\(D' i').own = (D i').own/\(i' < j->aLe (D' i').mt (D i').mt)) /\
  Com c Anch j r' gs' w' (t ++ u) D' hist' got' d0:=by
 have key:∀ i',∃ y:Wk c.P,(i' = i->y = x')/\(i'≠i->y.stage = (D i').stage/\y.job = (D i').job/\y.deaf = (D i').deaf/\y.own = (D i').own/\(i' < j->aLe y.mt (D i').mt))/\(i' < j->∃ g,gs'[i' + 1]? = some g/\WSt c Anch y g w'):=by
  intro i'
  by_cases e:i' = i
  ·subst e;exact ⟨x',fun _=>rfl,fun q=>absurd rfl q,fun _=>⟨g',hgi,hsit⟩⟩
  ·by_cases hlt:i' < j
   ·obtain ⟨g,hg,hs⟩:=h.wk i' hlt
    obtain ⟨mt',hle,hs'⟩:=hs.rely (hoth i' hlt e)
    exact ⟨{ D i' with mt:=mt' },fun q=>absurd q e,fun _=>⟨rfl,rfl,rfl,rfl,fun _=>hle⟩,fun _=>⟨g,by rw [hgo i' hlt e];exact hg,hs'⟩⟩
   ·exact ⟨D i',fun q=>absurd q e,fun _=>⟨rfl,rfl,rfl,rfl,fun q=>absurd q hlt⟩,fun q=>absurd q hlt⟩
 obtain ⟨D',hD⟩:=Classical.axiomOfChoice key
 have hDi:D' i = x':=(hD i).1 rfl
 have hDo:=fun i' (e:i'≠i)=>(hD i').2.1 e
 have howns:(fun i'=>(D' i').own) = fun i'=>if i' = i then x'.own else (D i').own:=by
  funext i'
  by_cases e:i' = i
  ·subst e;simp [hDi]
  ·simp [e,(hDo i' e).2.2.2.1]
 refine ⟨D',hDi,hDo,by rw [hsz,h.size],fun i' hi'=>(hD i').2.2 hi',H',tr',?_,fun i' hi'=>?_,fun i' hi' hs=>?_,hlz,hch,hout,fun i' hi' b hb=>?_,fun i' hi' k hk=>?_,fun k hk=>?_,fun i' hi' hs=>?_⟩
 ·rw [Deaf_other t (by omega) u hu,h.deaf0]
 ·by_cases e:i' = i
  ·subst e;rw [hdeaf,hDi]
  ·rw [Deaf_other t (by omega) u hu,h.deafW i' hi',(hDo i' e).2.2.1]
 ·by_cases e:i' = i
  ·subst e;rw [hDi] at hs;exact hrel hs
  ·rw [(hDo i' e).1] at hs
   obtain ⟨q,hq⟩:=h.rel i' hi' hs
   exact ⟨q,hq.appOther hu (by omega)⟩
 ·by_cases e:i' = i
  ·subst e;rw [hDi] at hb;exact hown b hb
  ·rw [(hDo i' e).2.2.2.1] at hb;exact hhist i' b (h.own i' hi' b hb)
 ·by_cases e:i' = i
  ·subst e;rw [hDi] at hk;exact hmine k hk
  ·rw [(hDo i' e).2.1] at hk;exact hgot i' k (h.mine i' hi' k hk)
 ·rcases hjobs k hk with ⟨i',hi',e,hk⟩ | hk | hk
  ·exact .inl ⟨i',hi',by rw [(hDo i' e).2.1];exact hk⟩
  ·exact .inl ⟨i,hi,by rw [hDi];exact hk⟩
  ·right;rw [howns];exact hk
 ·by_cases e:i' = i
  ·subst e;rw [hDi] at hs;exact hlast.1 hs
  ·rw [(hDo i' e).1] at hs;exact hlast.2 (h.last i' hi' hs)
theorem Com.step0 (G:Geo c.Wg c.Ch c.Out c.Lz c.RO) (h:Com c Anch j r gs w t D hist got d0) {d':Nat}
 (hsz:gs'.size = gs.size) (hgo:∀ i',i' < j->gs'[i' + 1]? = gs[i' + 1]?) (hoth:∀ i',i' < j->(Kw c).R ⟨(D i').own,w⟩ w')
 (hws:w'.heap.size = w.heap.size) (hblk:∀ b,b≠c.Wg->w'.heap[b]? = w.heap[b]?) (hRes:∀ k v1 v2 fin w w',c.Res k v1 v2 fin w->(∀ b,fin b->w'.heap[b]? = w.heap[b]?)->c.Res k v1 v2 fin w')
 (hu:∀ op∈u,op.g = 0/\∀ x,op.act.touch? = some x->ShN c.Wg x.loc/\x.kind≠.plain) (hr:∀ op∈u,op.act≠.mark (.release (stA c.Wg))) (hdeaf:Deaf (t ++ u) 0 = d'):
 ∃ D':Nat->Wk c.P,(∀ i',(D' i').stage = (D i').stage/\(D' i').job = (D i').job/\(D' i').deaf = (D i').deaf/\(D' i').own = (D i').own/\(i' < j->aLe (D' i').mt (D i').mt)) /\
  Com c Anch j r gs' w' (t ++ u) D' hist got d':=by
 have key:∀ i',∃ y:Wk c.P,(y.stage = (D i').stage/\y.job = (D i').job/\y.deaf = (D i').deaf/\y.own = (D i').own/\(i' < j->aLe y.mt (D i').mt))/\(i' < j->∃ g,gs'[i' + 1]? = some g/\WSt c Anch y g w'):=by
  intro i'
  by_cases hlt:i' < j
  ·obtain ⟨g,hg,hs⟩:=h.wk i' hlt
   obtain ⟨mt',hle,hs'⟩:=hs.rely (hoth i' hlt)
   exact ⟨{ D i' with mt:=mt' },⟨rfl,rfl,rfl,rfl,fun _=>hle⟩,fun _=>⟨g,by rw [hgo i' hlt];exact hg,hs'⟩⟩
  ·exact ⟨D i',⟨rfl,rfl,rfl,rfl,fun q=>absurd q hlt⟩,fun q=>absurd q hlt⟩
 obtain ⟨D',hD⟩:=Classical.axiomOfChoice key
 have hDo:=fun i'=>(hD i').1
 have howns:(fun i'=>(D' i').own) = fun i'=>(D i').own:=by funext i';rw [(hDo i').2.2.2.1]
 refine ⟨D',hDo,by rw [hsz,h.size],fun i' hi'=>(hD i').2 hi',hws ▸ h.H,by rw [hws];exact h.tr.app0 G h.H h.lz hu hr,hdeaf,fun i' hi'=>?_,fun i' hi' hs=>?_,by rw [hws];exact h.lz,?_,?_,fun i' hi' b hb=>?_,fun i' hi' k hk=>?_,fun k hk=>?_,fun i' hi' hs=>?_⟩
 ·rw [Deaf_other t (by omega) u fun op hop=>(hu op hop).1,h.deafW i' hi',(hDo i').2.2.1]
 ·rw [(hDo i').1] at hs
  obtain ⟨q,hq⟩:=h.rel i' hi' hs
  exact ⟨q,hq.appOther (fun op hop=>(hu op hop).1) (by omega)⟩
 ·exact ⟨h.ch.1,(hblk _ (Ne.symm G.wc)).trans h.ch.2⟩
 ·obtain ⟨cs,h1,h2⟩:=h.out
  exact ⟨cs,(hblk _ (Ne.symm G.wo)).trans h1,h2⟩
 ·rw [(hDo i').2.2.2.1] at hb;exact h.own i' hi' b hb
 ·rw [(hDo i').2.1] at hk;exact h.mine i' hi' k hk
 ·rcases h.jobs k hk with ⟨i',hi',hk⟩ | ⟨v1,v2,fin,h1,h2,h3,h4⟩
  ·exact .inl ⟨i',hi',by rw [(hDo i').2.1];exact hk⟩
  ·right
   rw [howns]
   have e:=hblk _ (Ne.symm G.wo)
   refine ⟨v1,v2,fin,?_,?_,hRes k v1 v2 fin w w' h3 fun b hb=>hblk b ?_,fun b hb=>by rw [hws];exact h4 b hb⟩
   ·simpa [World.cell?,e] using h1
   ·simpa [World.cell?,e] using h2
   ·rcases h4 b hb with hb | hb
    ·exact (G.ro b hb).2.1
    ·have:=G.wg;omega
 ·rw [(hDo i').1] at hs;exact h.last i' hi' hs
theorem Com.spawn (G:Geo c.Wg c.Ch c.Out c.Lz c.RO) (h:Com c Anch j r gs w t D hist got 0) {a' child:Goroutine} {x y:MemOp} (hx:x.g = 0/\x.act = .go (j + 1)) (hy:y.g = j + 1/\y.act = .start)
 (hc:GoesO c.P false (Kw c) (AtRecv c Anch) child ⟨noOwn,w⟩):
 ∃ x':Wk c.P,x'.stage = 8/\Com c Anch (j + 1) r ((gs.setIfInBounds 0 a').push child) w (t ++ #[x,y]) (upd D j x') hist got 0:=by
 have hm:∀ op∈#[x,y],op = x\/op = y:=by intro op hop;simpa using hop
 have hst:∀ op∈#[x,y],op.act≠.mark .disable/\op.act≠.mark .enable:=by
  intro op hop
  rcases hm op hop with rfl | rfl
  ·rw [hx.2];exact ⟨by simp,by simp⟩
  ·rw [hy.2];exact ⟨by simp,by simp⟩
 refine ⟨⟨8,none,0,noOwn,⟨_,acc_tree (Kw.ok c) kw_det hc⟩⟩,rfl,by simp [h.size],fun i hi=>?_,⟨fun i b hi hb=>?_,h.H.one,h.H.lt,h.H.gone,fun i b hi=>h.H.none i b (by omega),fun i b hi=>h.H.gnone i b (by omega)⟩,h.tr.fork G h.H hx hy h.deaf0,by rw [Deaf_still t 0 _ hst,h.deaf0],fun i hi=>?_,fun i hi hs=>?_,h.lz,h.ch,h.out,fun i hi b hb=>?_,fun i hi k hk=>?_,fun k hk=>?_,fun i hi hs=>?_⟩
 ·rcases Nat.lt_or_ge i j with hlt | hge
  ·obtain ⟨g,hg,hsg⟩:=h.wk i hlt
   refine ⟨g,?_,by rw [upd_ne D _ (by omega)];exact hsg⟩
   rw [Array.getElem?_push_lt (by simp [h.size];omega),<- Array.getElem?_eq_getElem,Array.getElem?_setIfInBounds_ne (by omega)]
   exact hg
  ·obtain rfl:i = j:=by omega
   refine ⟨child,?_,by rw [upd_same];exact .recv hc _⟩
   rw [show i + 1 = (gs.setIfInBounds 0 a').size by simp [h.size],Array.getElem?_push_size]
 ·rcases Nat.lt_or_ge i j with hlt | hge
  ·exact h.H.lo i b hlt hb
  ·exact absurd hb (h.H.none i b hge)
 ·rw [Deaf_still t _ _ hst]
  rcases Nat.lt_or_ge i j with hlt | hge
  ·rw [h.deafW i hlt,upd_ne D _ (by omega)]
  ·obtain rfl:i = j:=by omega
   rw [upd_same]
   exact Deaf_absent fun a op ha e=>by have:=h.tr.ct.gs a op ha;omega
 ·rcases Nat.lt_or_ge i j with hlt | hge
  ·rw [upd_ne D _ (by omega)] at hs
   obtain ⟨q,hq⟩:=h.rel i hlt hs
   refine ⟨q,hq.appNot fun op hop=>?_⟩
   rcases hm op hop with rfl | rfl
   ·rw [hx.1];omega
   ·rw [hy.1];omega
  ·obtain rfl:i = j:=by omega
   rw [upd_same] at hs
   simp at hs
 ·rcases Nat.lt_or_ge i j with hlt | hge
  ·rw [upd_ne D _ (by omega)] at hb;exact h.own i hlt b hb
  ·obtain rfl:i = j:=by omega
   rw [upd_same] at hb;exact hb.elim
 ·rcases Nat.lt_or_ge i j with hlt | hge
  ·rw [upd_ne D _ (by omega)] at hk;exact h.mine i hlt k hk
  ·obtain rfl:i = j:=by omega
   rw [upd_same] at hk;cases hk
 ·rcases h.jobs k hk with ⟨i',hi',hk⟩ | ⟨v1,v2,fin,h1,h2,h3,h4⟩
  ·exact .inl ⟨i',by omega,by rw [upd_ne D _ (by omega)];exact hk⟩
  ·refine .inr ⟨v1,v2,fin,h1,h2,h3,fun b hb=>(h4 b hb).imp id fun q=>⟨q.1,q.2.1,fun i hi=>?_⟩⟩
   rcases Nat.lt_or_ge i j with hlt | hge
   ·have:=q.2.2 i hlt
    simp only [upd_ne D _ (show i≠j by omega)];exact this
   ·obtain rfl:i = j:=by omega
    simp only [upd_same];exact fun z=>z
 ·rcases Nat.lt_or_ge i j with hlt | hge
  ·rw [upd_ne D _ (by omega)] at hs;exact h.last i hlt hs
  ·obtain rfl:i = j:=by omega
   rw [upd_same] at hs;simp at hs
end
def wd {P:Program} (x:Wk P):WD:=⟨min x.stage 7,0,x.deaf⟩
section
variable (c:Cfg) (n:Nat) (Anch:Goroutine->GW->Prop) (AnW:Goroutine->World->Prop) (Post:Value->World->Prop)
def rank (j:Nat) (tag:CTag) (ex r:Nat) (D:Nat->Wk c.P):Nat:=phi n (Vc j fun i=>wd (D i)) tag + ex + (sumTo j fun i=>(D i).stage) + 2 * (c.N - r)
def Inv1 (μ:Mu c.P) (m:Machine) (t:Trace):Prop:=
 ∃ (gs:Array Goroutine) (w:World) (sl:Option (Nat × Nat)) (j r:Nat) (D:Nat->Wk c.P) (hist got:Nat->Nat->Prop) (tag:CTag) (ex d0:Nat) (mt0:Am c.P) (a:Goroutine) (st sm:Int),
  m = crowd gs w sl/\gs[0]? = some a/\CSt c n Anch AnW Post tag ex j d0 mt0 a w/\Com c Anch j r gs w t D hist got d0/\WgAt c.ty c.Wg w st sm/\ConcN.Mode j (fun i=>wd (D i)) tag st sm /\
  μ = (rank c n j tag ex r D,j,(fun i=>(D i).mt),mt0)
end
section
variable {c:Cfg} {n:Nat} {Anch:Goroutine->GW->Prop} {AnW:Goroutine->World->Prop} {Post:Value->World->Prop} {j r r':Nat} {gs gs':Array Goroutine} {w w':World} {sl:Option (Nat × Nat)} {t u:Trace} {D D':Nat->Wk c.P}
 {hist got hist' got':Nat->Nat->Prop} {d0 ex:Nat} {tag:CTag} {mt0:Am c.P} {a:Goroutine}
theorem cnt_congr {a b:WD} (h:a.stage = b.stage):cnt a = cnt b:=by unfold cnt;split <;> split <;> omega
theorem wd_upd {i:Nat} {x':Wk c.P} (h1:D' i = x') (h2:∀ i',i'≠i->(D' i').stage = (D i').stage/\(D' i').deaf = (D i').deaf):(fun i'=>wd (D' i')) = upd (fun i'=>wd (D i')) i (wd x'):=by
 funext i'
 by_cases e:i' = i
 ·subst e;rw [upd_same,h1]
 ·rw [upd_ne _ _ e];simp only [wd,(h2 i' e).1,(h2 i' e).2]
theorem workerStep (h:Com c Anch j r gs w t D hist got d0) {i:Nat} (hi:i < j) {g' a':Goroutine} {x':Wk c.P} {tag':CTag} {mt':Am c.P} {st' sm':Int}
 (hrun:runT c.P (crowd gs w sl) (i + 1) = (.next (crowd gs' w' sl),u))
 (h0:gs'[0]? = some a') (hcs':CSt c n Anch AnW Post tag' ex j d0 mt' a' w') (htag:tag' = tag\/(tag = .blk/\tag' = .w3))
 (hwg:WgAt c.ty c.Wg w' st' sm') (hmode:ConcN.Mode j (upd (fun i=>wd (D i)) i (wd x')) tag' st' sm')
 (hsz:gs'.size = gs.size) (hgi:gs'[i + 1]? = some g') (hgo:∀ i',i' < j->i'≠i->gs'[i' + 1]? = gs[i' + 1]?)
 (hoth:∀ i',i' < j->i'≠i->(Kw c).R ⟨(D i').own,w⟩ w') (hsit:WSt c Anch x' g' w')
 (H':Hist c.Lz w'.heap.size j r' hist' got') (tr':TrI c.Wg c.Out c.RO hist' got' j r' w'.heap.size (t ++ u))
 (hu:∀ op∈u,op.g = i + 1) (hdeaf:Deaf (t ++ u) (i + 1) = x'.deaf) (hrel:x'.stage<=6->∃ q,RelBy (stA c.Wg) (t ++ u) (i + 1) q)
 (hlz:c.Lz<=w'.heap.size) (hch:ChAt c r' w') (hout:OutAt c w')
 (hown:∀ b,x'.own b->hist' i b) (hhist:∀ i' b,hist i' b->hist' i' b) (hmine:∀ k,x'.job = some k->got' i k) (hgot:∀ i' k,got i' k->got' i' k)
 (hjobs:∀ k,k < r'->(∃ i',i' < j/\i'≠i/\(D i').job = some k)\/x'.job = some k\/DoneJ c j (fun i'=>if i' = i then x'.own else (D i').own) w' k)
 (hlast:(x'.stage<=7->r' = c.N)/\(r = c.N->r' = c.N))
 (hlt:(x'.stage + 2 * (c.N - r') < (D i).stage + 2 * (c.N - r)/\cnt (wd x')<=cnt (wd (D i)))\/(x'.stage = (D i).stage/\r' = r/\aLt x'.mt (D i).mt)):
 ∃ m₁ ops μ',runT c.P (crowd gs w sl) (i + 1) = (.next m₁,ops)/\MuLt μ' (rank c n j tag ex r D,j,(fun i=>(D i).mt),mt0)/\Inv1 c n Anch AnW Post μ' m₁ (t ++ ops):=by
 obtain ⟨D',e1,e2,hcom⟩:=h.stepW hi hsz hgi hgo hoth hsit H' tr' hu hdeaf hrel hlz hch hout hown hhist hmine hgot hjobs hlast
 have ew:=wd_upd (D:=D) e1 fun i' e=>⟨(e2 i' e).1,(e2 i' e).2.2.1⟩
 refine ⟨_,_,(rank c n j tag' ex r' D',j,(fun i=>(D' i).mt),mt'),hrun,?_,gs',w',sl,j,r',D',hist',got',tag',ex,d0,mt',a',st',sm',rfl,h0,hcs',hcom,hwg,by rw [ew];exact hmode,rfl⟩
 have es:(fun i'=>(D' i').stage) = upd (fun i'=>(D i').stage) i x'.stage:=by
  funext i'
  by_cases e:i' = i
  ·subst e;rw [upd_same,e1]
  ·rw [upd_ne _ _ e,(e2 i' e).1]
 have s1:=sumTo_upd (fun i'=>(D i').stage) x'.stage id hi
 have v1:=sumTo_upd (fun i'=>wd (D i')) (wd x') cnt hi
 have hphi:phi n (Vc j fun i'=>wd (D' i')) tag' = phi n (Vc j (upd (fun i'=>wd (D i')) i (wd x'))) tag:=by rw [ew];exact phi_retag n _ htag
 have hss:(sumTo j fun i'=>(D' i').stage) + (D i).stage = (sumTo j fun i'=>(D i').stage) + x'.stage:=by
  rw [show (sumTo j fun i'=>(D' i').stage) = sumTo j fun a=>id (upd (fun i'=>(D i').stage) i x'.stage a) by rw [es];rfl]
  exact s1
 rcases hlt with ⟨h1,h2⟩ | ⟨h1,h2,h3⟩
 ·left
  have hv:Vc j (upd (fun i'=>wd (D i')) i (wd x'))<=Vc j fun i'=>wd (D i'):=by simp only [Vc];omega
  have:=phi_mono n hv tag
  simp only [rank,hphi]
  omega
 ·right;left
  have hc:cnt (wd x') = cnt (wd (D i)):=cnt_congr (by simp only [wd,h1])
  have hv:Vc j (upd (fun i'=>wd (D i')) i (wd x')) = Vc j fun i'=>wd (D i'):=by simp only [Vc];omega
  refine ⟨?_,rfl,i,hi,?_,fun i' hi' e=>?_⟩
  ·simp only [rank,hphi,hv,h2];omega
  ·simp only [e1];exact h3
  ·exact (e2 i' e).2.2.2.2 hi'
theorem starterStep (G:Geo c.Wg c.Ch c.Out c.Lz c.RO) (hRes:∀ k v1 v2 fin w w',c.Res k v1 v2 fin w->(∀ b,fin b->w'.heap[b]? = w.heap[b]?)->c.Res k v1 v2 fin w')
 (ha:gs[0]? = some a) (h:Com c Anch j r gs w t D hist got d0) {a':Goroutine} {es:Array Event} {tag':CTag} {ex' d':Nat} {mt':Am c.P} {st' sm':Int}
 (hgo:stepG c.P true a w = .go a' w' es) (hoth:∀ i',i' < j->(Kw c).R ⟨(D i').own,w⟩ w')
 (hws:w'.heap.size = w.heap.size) (hblk:∀ b,b≠c.Wg->w'.heap[b]? = w.heap[b]?)
 (hev:∀ e∈es,(∀ x,(MemAct.ofEvent e).touch? = some x->ShN c.Wg x.loc/\x.kind≠.plain)/\e.loc≠.mark (.release (stA c.Wg))) (hdeaf:deafBehind d0 es = d')
 (hcs':CSt c n Anch AnW Post tag' ex' j d' mt' a' w') (hwg:WgAt c.ty c.Wg w' st' sm') (hmode:ConcN.Mode j (fun i=>wd (D i)) tag' st' sm')
 (hlt:phi n (Vc j fun i=>wd (D i)) tag' + ex' < phi n (Vc j fun i=>wd (D i)) tag + ex\/(phi n (Vc j fun i=>wd (D i)) tag' + ex' = phi n (Vc j fun i=>wd (D i)) tag + ex/\aLt mt' mt0)):
 ∃ m₁ ops μ',runT c.P (crowd gs w sl) 0 = (.next m₁,ops)/\MuLt μ' (rank c n j tag ex r D,j,(fun i=>(D i).mt),mt0)/\Inv1 c n Anch AnW Post μ' m₁ (t ++ ops):=by
 have hrun:=runT_crowd_go (P:=c.P) (sl:=sl) (i:=0) ha (by simpa using hgo)
 have hops:∀ op∈MemOp.ofEvents 0 a.frame.fn a.frame.place es,∃ e∈es,op.g = 0/\op.act = .ofEvent e:=by
  intro op hop
  rw [ofEvents_eq] at hop
  obtain ⟨e,he,rfl⟩:=Array.mem_map.1 hop
  exact ⟨e,he,rfl,rfl⟩
 have hg0:∀ i',i' < j->((gs.map (woken c.P a a' w')).setIfInBounds 0 a')[i' + 1]? = gs[i' + 1]?:=by
  intro i' hi'
  rw [get_map_set _ _ _ _ (by omega)]
  obtain ⟨g,hg,hs⟩:=h.wk i' hi'
  rw [hg,Option.map_some,hs.woken]
 obtain ⟨D',hD,hcom⟩:=h.step0 G (gs':=(gs.map (woken c.P a a' w')).setIfInBounds 0 a') (u:=MemOp.ofEvents 0 a.frame.fn a.frame.place es) (d':=d') (by simp) hg0 hoth hws hblk hRes
  (fun op hop=>by obtain ⟨e,he,h1,h2⟩:=hops op hop;exact ⟨h1,fun x hx=>(hev e he).1 x (by rw [<- h2];exact hx)⟩)
  (fun op hop hm=>by obtain ⟨e,he,h1,h2⟩:=hops op hop;exact (hev e he).2 (Go.ConcR.loc_of_ofEvent (h2 ▸ hm))) (by rw [Deaf_own,h.deaf0];exact hdeaf)
 have ew:(fun i=>wd (D' i)) = fun i=>wd (D i):=by funext i;simp only [wd,(hD i).1,(hD i).2.2.1]
 have es':(fun i=>(D' i).stage) = fun i=>(D i).stage:=by funext i;exact (hD i).1
 refine ⟨_,_,(rank c n j tag' ex' r D',j,(fun i=>(D' i).mt),mt'),hrun,?_,_,w',sl,j,r,D',hist,got,tag',ex',d',mt',a',st',sm',rfl,get_map_set_same _ _ _ (by rw [h.size];omega),hcs',hcom,hwg,by rw [ew];exact hmode,rfl⟩
 rcases hlt with h1 | ⟨h1,h2⟩
 ·left;simp only [rank,ew,es'];omega
 ·right;right
  refine ⟨by simp only [rank,ew,es'];omega,rfl,fun i hi=>(hD i).2.2.2.2 hi,h2⟩
end
open Go.Conc Go.ConcN
open Go.ConcR (KK wgBlock WgAt stA smA rd wr mk Payload DC0 again_blocked g_of_ofEvents Bk ofEvent_loc_mark ofEvent_cell bk_of_mute)
variable [Payload]
structure Turn (X:Nat->Prop) (w w':World):Prop where
 tape:w'.tape = w.tape
 os:w'.os = w.os
 output:w'.output = w.output
 size:w.heap.size<=w'.heap.size
 block:∀ b,b < w.heap.size->¬ X b->w'.heap[b]? = w.heap[b]?
theorem Turn.refl (X:Nat->Prop) (w:World):Turn X w w:=⟨rfl,rfl,rfl,Nat.le_refl _,fun _ _ _=>rfl⟩
theorem Turn.drawn (X:Nat->Prop) {w w':World} (h:w' = { w with drawn:=w'.drawn }):Turn X w w':=by
 rw [h];exact ⟨rfl,rfl,rfl,Nat.le_refl _,fun _ _ _=>rfl⟩
theorem heap_drawn {w w':World} (h:w' = { w with drawn:=w'.drawn }):w'.heap = w.heap:=by rw [h]
theorem Turn.cell {X:Nat->Prop} {w w':World} (h:Turn X w w') {a:Addr} (hb:¬ X a.block) {v:Value} (hc:w.cell? a = some v):w'.cell? a = some v:=by
 have hlt:=cell_lt hc
 unfold World.cell? at hc ⊢
 rw [h.block _ hlt hb];exact hc
section
variable {c:Cfg} {n:Nat} {Anch:Goroutine->GW->Prop} {AnW:Goroutine->World->Prop} {Post:Value->World->Prop} {j r r':Nat} {gs gs':Array Goroutine} {w w':World} {sl:Option (Nat × Nat)} {t u:Trace} {D D':Nat->Wk c.P}
 {hist got hist' got':Nat->Nat->Prop} {d0 ex:Nat} {tag:CTag} {mt0:Am c.P} {a:Goroutine} {X:Nat->Prop}
theorem Lk.of {st sm:Int} (hw:WgAt c.ty c.Wg w' st sm) (hc:ChAt c r w') (ho:OutAt c w'):Lk c w w':=⟨fun _=>⟨st,sm,hw⟩,fun _=>⟨r,hc⟩,fun _=>ho⟩
theorem rely_oth (G:Geo c.Wg c.Ch c.Out c.Lz c.RO) (h:Com c Anch j r gs w t D hist got d0) {i i':Nat} (hi':i' < j) (ne:i'≠i) (T:Turn X w w')
 (hX:∀ b,X b->hist i b\/b = c.Wg\/b = c.Ch\/b = c.Out) (L:Lk c w w'):(Kw c).R ⟨(D i').own,w⟩ w':=by
 refine ⟨T.tape,T.os,T.output,T.size,fun b hb=>?_,L⟩
 have hij:∀ {i b},hist i b->i < j:=fun {i b} q=>Nat.lt_of_not_le fun z=>h.H.none i b z q
 rcases hb with hb | hb
 ·have hh:=h.own i' hi' b hb
  have hl:=h.H.lo i' b hi' hh
  refine T.block b hl.2 fun hx=>?_
  have:=G.wg;have:=G.ch;have:=G.out
  rcases hX b hx with q | q | q | q
  ·exact ne (h.H.one _ _ _ hh q)
  ·omega
  ·omega
  ·omega
 ·have hr:=G.ro b hb
  have:=h.lz
  refine T.block b (by omega) fun hx=>?_
  rcases hX b hx with q | q | q | q
  ·have:=(h.H.lo _ _ (hij q) q).1;omega
  ·exact hr.2.1 q
  ·exact hr.2.2.1 q
  ·exact hr.2.2.2 q
theorem rely_zero (G:Geo c.Wg c.Ch c.Out c.Lz c.RO) (h:Com c Anch j r gs w t D hist got d0) {i:Nat} (T:Turn X w w')
 (hX:∀ b,X b->hist i b\/b = c.Wg\/b = c.Ch\/b = c.Out) (L:Lk c w w'):R0 c w w':=by
 refine ⟨T.tape,T.os,T.output,T.size,fun b hb=>?_,L⟩
 have hij:∀ {i b},hist i b->i < j:=fun {i b} q=>Nat.lt_of_not_le fun z=>h.H.none i b z q
 have hr:=G.ro b hb
 have:=h.lz
 refine T.block b (by omega) fun hx=>?_
 rcases hX b hx with q | q | q | q
 ·have:=(h.H.lo _ _ (hij q) q).1;omega
 ·exact hr.2.1 q
 ·exact hr.2.2.1 q
 ·exact hr.2.2.2 q
theorem DoneJ.keep (hRes:∀ k v1 v2 fin w w',c.Res k v1 v2 fin w->(∀ b,fin b->w'.heap[b]? = w.heap[b]?)->c.Res k v1 v2 fin w') {own own':Nat->Nat->Prop} {k:Nat} (h:DoneJ c j own w k) (hs:w.heap.size<=w'.heap.size)
 (hb:∀ b,(c.RO b\/(c.Lz<=b/\b < w.heap.size/\∀ i,i < j->¬ own i b))->w'.heap[b]? = w.heap[b]?) (hc:∀ o v,(o = 2 * k\/o = 2 * k + 1)->w.cell? ⟨c.Out,o,none⟩ = some v->w'.cell? ⟨c.Out,o,none⟩ = some v)
 (ho:∀ i,i < j->∀ b,own' i b->own i b\/w.heap.size<=b):DoneJ c j own' w' k:=by
 obtain ⟨v1,v2,fin,h1,h2,h3,h4⟩:=h
 refine ⟨v1,v2,fin,hc _ _ (.inl rfl) h1,hc _ _ (.inr rfl) h2,hRes k v1 v2 fin w w' h3 fun b hf=>hb b (h4 b hf),fun b hf=>(h4 b hf).imp id fun q=>⟨q.1,Nat.lt_of_lt_of_le q.2.1 hs,fun i hi z=>?_⟩⟩
 rcases ho i hi b z with z | z
 ·exact q.2.2 i hi z
 ·omega
theorem goStepW (G:Geo c.Wg c.Ch c.Out c.Lz c.RO) (ha:gs[0]? = some a) (hcs:CSt c n Anch AnW Post tag ex j d0 mt0 a w) (h:Com c Anch j r gs w t D hist got d0) {i:Nat} (hi:i < j) {g g':Goroutine} {es:Array Event} {x':Wk c.P} {st' sm':Int}
 (hg:gs[i + 1]? = some g) (hgo:stepG c.P false g w = .go g' w' es) (T:Turn X w w') (hX:∀ b,X b->hist i b\/b = c.Wg\/b = c.Ch\/b = c.Out)
 (hwg:WgAt c.ty c.Wg w' st' sm') (hch:ChAt c r w') (hout:OutAt c w') (hsit:WSt c Anch x' g' w')
 (H':Hist c.Lz w'.heap.size j r hist' got) (tr':TrI c.Wg c.Out c.RO hist' got j r w'.heap.size (t ++ MemOp.ofEvents (i + 1) g.frame.fn g.frame.place es))
 (hdeaf:deafBehind (D i).deaf es = x'.deaf) (hrel:x'.stage<=6->∃ q,RelBy (stA c.Wg) (t ++ MemOp.ofEvents (i + 1) g.frame.fn g.frame.place es) (i + 1) q)
 (hown:∀ b,x'.own b->hist' i b) (hhist:∀ i' b,hist i' b->hist' i' b) (hmine:∀ k,x'.job = some k->got i k)
 (hjobs:∀ k,k < r->(∃ i',i' < j/\i'≠i/\(D i').job = some k)\/x'.job = some k\/DoneJ c j (fun i'=>if i' = i then x'.own else (D i').own) w' k)
 (hlast:x'.stage<=7->r = c.N)
 (hmode:∀ tag',(tag' = tag\/(tag = .blk/\tag' = .w3))->(mayWake c.P g = true->g'.status = .running->tag'≠.blk)->ConcN.Mode j (upd (fun i=>wd (D i)) i (wd x')) tag' st' sm')
 (hlt:(x'.stage < (D i).stage/\cnt (wd x')<=cnt (wd (D i)))\/(x'.stage = (D i).stage/\aLt x'.mt (D i).mt)):
 ∃ m₁ ops μ',runT c.P (crowd gs w sl) (i + 1) = (.next m₁,ops)/\MuLt μ' (rank c n j tag ex r D,j,(fun i=>(D i).mt),mt0)/\Inv1 c n Anch AnW Post μ' m₁ (t ++ ops):=by
 have L:Lk c w w':=.of hwg hch hout
 have hr0:=rely_zero G h T hX L
 obtain ⟨tag',mt',hcs',htag,hwk⟩:=hcs.wokenBy hr0 g g'
 have hrun:=runT_crowd_go (P:=c.P) (sl:=sl) (i:=i + 1) hg (by simpa using hgo)
 exact workerStep h hi hrun (by rw [get_map_set _ _ _ _ (by omega),ha];rfl) hcs' htag hwg (hmode tag' htag hwk) (by simp) (get_map_set_same _ _ _ (by rw [h.size];omega))
  (fun i' hi' e=>by
    rw [get_map_set _ _ _ _ (by omega)]
    obtain ⟨g1,hg1,hs1⟩:=h.wk i' hi'
    rw [hg1,Option.map_some,hs1.woken])
  (fun i' hi' e=>rely_oth G h hi' e T hX L) hsit H' tr' g_of_ofEvents (by rw [Deaf_own,h.deafW i hi];exact hdeaf) hrel (Nat.le_trans h.lz T.size) hch hout hown hhist hmine (fun _ _ q=>q) hjobs ⟨hlast,id⟩
  (hlt.imp (fun q=>⟨by omega,q.2⟩) fun q=>⟨q.1,rfl,q.2⟩)
theorem mode_same {i:Nat} {x':Wk c.P} {st sm:Int} (hm:ConcN.Mode j (fun i=>wd (D i)) tag st sm) (hs:(wd x').stage = (wd (D i)).stage):ConcN.Mode j (upd (fun i=>wd (D i)) i (wd x')) tag st sm:=
 hm.congr fun b _=>by
  by_cases e:b = i
  ·subst e;rw [upd_same];exact hs
  ·rw [upd_ne _ _ e]
theorem idleW (G:Geo c.Wg c.Ch c.Out c.Lz c.RO) (hRes:∀ k v1 v2 fin w w',c.Res k v1 v2 fin w->(∀ b,fin b->w'.heap[b]? = w.heap[b]?)->c.Res k v1 v2 fin w')
 (ha:gs[0]? = some a) (hcs:CSt c n Anch AnW Post tag ex j d0 mt0 a w) (h:Com c Anch j r gs w t D hist got d0) {st sm:Int} (hwg:WgAt c.ty c.Wg w st sm) (hm:ConcN.Mode j (fun i=>wd (D i)) tag st sm) {i:Nat} (hi:i < j) {g g':Goroutine} {es:Array Event} {σ':GW} {x':Wk c.P}
 (hg:gs[i + 1]? = some g) (hgo:stepG c.P false g w = .go g' σ'.w es) (hD:(Kw c).D ⟨(D i).own,w⟩ es σ')
 (hst:x'.stage = (D i).stage) (h8:8<=(D i).stage) (hjob:x'.job = (D i).job) (hde:x'.deaf = (D i).deaf) (hxo:x'.own = σ'.own) (hsit:WSt c Anch x' g' σ'.w) (hlt:aLt x'.mt (D i).mt):
 ∃ m₁ ops μ',runT c.P (crowd gs w sl) (i + 1) = (.next m₁,ops)/\MuLt μ' (rank c n j tag ex r D,j,(fun i=>(D i).mt),mt0)/\Inv1 c n Anch AnW Post μ' m₁ (t ++ ops):=by
 obtain ⟨d1,d2,d3,d4,d5,d6,d7⟩:=hD
 simp only at d1 d2 d3 d4 d5 d6 d7
 have d7:=d7 trivial
 have T:Turn (D i).own w σ'.w:=⟨d1,d2,d3,d4,d5⟩
 have hX:∀ b,(D i).own b->hist i b\/b = c.Wg\/b = c.Ch\/b = c.Out:=fun b hb=>.inl (h.own i hi b hb)
 have hhi:∀ b,σ'.own b->hist i b\/w.heap.size<=b:=fun b hb=>((d6 b).1 hb).imp (h.own i hi b) fun q=>q.1
 have hlo:∀ b,σ'.own b->c.Lz<=b/\b < σ'.w.heap.size:=fun b hb=>by
  have:=h.lz
  rcases (d6 b).1 hb with q | q
  ·have:=h.H.lo i b hi (h.own i hi b q);omega
  ·omega
 have nW:∀ b,b = c.Wg\/b = c.Ch\/b = c.Out->b < w.heap.size/\¬ (D i).own b:=fun b hb=>by
  have:=h.lz;have:=G.wg;have:=G.ch;have:=G.out
  refine ⟨by omega,fun q=>?_⟩
  have:=(h.H.lo i b hi (h.own i hi b q)).1
  omega
 have keepB:∀ b,b = c.Wg\/b = c.Ch\/b = c.Out->σ'.w.heap[b]? = w.heap[b]?:=fun b hb=>d5 b (nW b hb).1 (nW b hb).2
 have hij:∀ {i b},hist i b->i < j:=fun {i b} q=>Nat.lt_of_not_le fun z=>h.H.none i b z q
 have H':Hist c.Lz σ'.w.heap.size j r (fun i' b=>hist i' b\/(i' = i/\σ'.own b)) got:=by
  refine ⟨fun i' b hi' hb=>?_,fun i1 i2 b h1 h2=>?_,h.H.lt,h.H.gone,fun i' b hi' hb=>?_,h.H.gnone⟩
  ·rcases hb with hb | ⟨rfl,hb⟩
   ·have:=h.H.lo i' b hi' hb;omega
   ·exact hlo b hb
  ·rcases h1 with h1 | ⟨rfl,h1⟩ <;> rcases h2 with h2 | ⟨rfl,h2⟩
   ·exact h.H.one _ _ _ h1 h2
   ·rcases hhi b h2 with q | q
    ·exact h.H.one _ _ _ h1 q
    ·have:=(h.H.lo _ _ (hij h1) h1).2;omega
   ·rcases hhi b h1 with q | q
    ·exact h.H.one _ _ _ q h2
    ·have:=(h.H.lo _ _ (hij h2) h2).2;omega
   ·rfl
  ·rcases hb with hb | ⟨rfl,hb⟩
   ·exact h.H.none i' b hi' hb
   ·omega
 have hev:∀ e∈es,∀ x,(MemAct.ofEvent e).touch? = some x->(∃ ad:Addr,x.loc = .cell ad/\(σ'.own ad.block\/(c.RO ad.block/\x.write = false)))/\x.kind = .plain:=by
  intro e he x hx
  rcases d7 e he with ⟨ad,h1,h2,h3⟩ | rfl
  ·obtain ⟨loc,wrt,syn⟩:=e
   simp only at h1 h2 h3
   subst h1;subst h2
   rw [ofEvent_cell] at hx
   simp only [MemAct.touch?,Option.some.injEq] at hx
   subst hx
   exact ⟨⟨ad,rfl,h3⟩,rfl⟩
  ·simp [MemAct.ofEvent,MemAct.touch?] at hx
 have hmk:∀ e∈es,∀ m,e.loc = .mark m->m = .noRoom:=by
  intro e he m hm
  rcases d7 e he with ⟨ad,h1,_⟩ | rfl
  ·rw [h1] at hm;cases hm
  ·cases hm;rfl
 have hops:∀ op∈MemOp.ofEvents (i + 1) g.frame.fn g.frame.place es,∃ e∈es,op.g = i + 1/\op.act = .ofEvent e:=by
  intro op hop
  rw [ofEvents_eq] at hop
  obtain ⟨e,he,rfl⟩:=Array.mem_map.1 hop
  exact ⟨e,he,rfl,rfl⟩
 have tr':TrI c.Wg c.Out c.RO (fun i' b=>hist i' b\/(i' = i/\σ'.own b)) got j r σ'.w.heap.size (t ++ MemOp.ofEvents (i + 1) g.frame.fn g.frame.place es):=by
  refine (h.tr.grow d4 hhi).appW G H' (Nat.le_trans h.lz d4) hi (fun op hop=>?_) (fun op hop x hx hns=>?_) (fun op hop hm=>?_)
  ·obtain ⟨e,he,h1,h2⟩:=hops op hop
   refine ⟨h1,fun x hx=>.inr ?_⟩
   obtain ⟨⟨ad,h3,h4⟩,_⟩:=hev e he x (by rw [<- h2];exact hx)
   rcases h4 with h4 | h4
   ·exact .inl ⟨by omega,.inl ⟨ad,h3,.inr ⟨by omega,h4⟩⟩⟩
   ·exact .inr ⟨⟨ad,h3,h4.1⟩,h4.2⟩
  ·obtain ⟨e,he,h1,h2⟩:=hops op hop
   obtain ⟨⟨ad,h3,h4⟩,h5⟩:=hev e he x (by rw [<- h2];exact hx)
   exact ⟨h5,by rw [h3];rfl⟩
  ·obtain ⟨e,he,h1,h2⟩:=hops op hop
   have:=hmk e he _ (Go.ConcR.loc_of_ofEvent (h2 ▸ hm))
   cases this
 refine goStepW G ha hcs h hi hg hgo T hX (st':=st) (sm':=sm) (hwg.of_block (keepB _ (.inl rfl))) ⟨h.ch.1,(keepB _ (.inr (.inl rfl))).trans h.ch.2⟩ ?_ hsit H' tr' ?_ (fun q=>by omega) (fun b hb=>.inr ⟨rfl,by rw [<- hxo];exact hb⟩) (fun _ _ q=>.inl q) (fun k hk=>h.mine i hi k (by rw [<- hjob];exact hk)) (fun k hk=>?_) (fun q=>by omega)
  (fun tag' ht _=>(mode_same hm (by simp only [wd,hst])).retag ht) (.inr ⟨hst,hlt⟩)
 ·obtain ⟨cs,h1,h2⟩:=h.out
  exact ⟨cs,(keepB _ (.inr (.inr rfl))).trans h1,h2⟩
 ·rw [hde];exact deafBehind_idle (fun e he=>⟨fun q=>absurd (hmk e he _ q) (by simp),fun q=>absurd (hmk e he _ q) (by simp)⟩) _
 ·rcases h.jobs k hk with ⟨i',hi',hk'⟩ | hk'
  ·by_cases e:i' = i
   ·subst e;exact .inr (.inl (by rw [hjob];exact hk'))
   ·exact .inl ⟨i',hi',e,hk'⟩
  ·refine .inr (.inr (hk'.keep hRes d4 (fun b hb=>?_) (fun o v _ hc=>?_) fun i' hi' b hb=>?_))
   ·rcases hb with hb | hb
    ·have:=G.ro b hb;have:=h.lz
     refine d5 b (by omega) fun q=>?_
     have:=(h.H.lo i b hi (h.own i hi b q)).1;omega
    ·exact d5 b hb.2.1 (hb.2.2 i hi)
   ·exact T.cell (nW _ (.inr (.inr rfl))).2 hc
   ·by_cases e:i' = i
    ·subst e
     simp only [if_true] at hb
     rw [hxo] at hb
     exact ((d6 b).1 hb).imp id fun q=>q.1
    ·simp only [if_neg e] at hb;exact .inl hb
theorem bookW (G:Geo c.Wg c.Ch c.Out c.Lz c.RO) (hRes:∀ k v1 v2 fin w w',c.Res k v1 v2 fin w->(∀ b,fin b->w'.heap[b]? = w.heap[b]?)->c.Res k v1 v2 fin w')
 (ha:gs[0]? = some a) (hcs:CSt c n Anch AnW Post tag ex j d0 mt0 a w) (h:Com c Anch j r gs w t D hist got d0) {st' sm':Int} {i:Nat} (hi:i < j) {g g':Goroutine} {es:Array Event} {x':Wk c.P}
 (hg:gs[i + 1]? = some g) (hgo:stepG c.P false g w = .go g' w' es) (T:Turn (· = c.Wg) w w') (hsz:w'.heap.size = w.heap.size) (hwg:WgAt c.ty c.Wg w' st' sm')
 (hnj:(D i).job = none) (h7:(D i).stage<=7) (hxj:x'.job = none) (hxo:x'.own = noOwn) (hsit:WSt c Anch x' g' w')
 (hev:∀ e∈es,(∀ x,(MemAct.ofEvent e).touch? = some x->ShN c.Wg x.loc/\x.kind≠.plain/\x.kind≠.said)/\e.loc≠.mark (.release (stA c.Wg)))
 (hdeaf:deafBehind (D i).deaf es = x'.deaf) (hrel:x'.stage<=6->∃ q,RelBy (stA c.Wg) (t ++ MemOp.ofEvents (i + 1) g.frame.fn g.frame.place es) (i + 1) q)
 (hmode:∀ tag',(tag' = tag\/(tag = .blk/\tag' = .w3))->(mayWake c.P g = true->g'.status = .running->tag'≠.blk)->ConcN.Mode j (upd (fun i=>wd (D i)) i (wd x')) tag' st' sm')
 (hlt:(x'.stage < (D i).stage/\cnt (wd x')<=cnt (wd (D i)))\/(x'.stage = (D i).stage/\aLt x'.mt (D i).mt)):
 ∃ m₁ ops μ',runT c.P (crowd gs w sl) (i + 1) = (.next m₁,ops)/\MuLt μ' (rank c n j tag ex r D,j,(fun i=>(D i).mt),mt0)/\Inv1 c n Anch AnW Post μ' m₁ (t ++ ops):=by
 have hlz:=h.lz
 have keepB:∀ b,b < c.Lz->b≠c.Wg->w'.heap[b]? = w.heap[b]?:=fun b h1 h2=>T.block b (by omega) h2
 have hops:∀ op∈MemOp.ofEvents (i + 1) g.frame.fn g.frame.place es,∃ e∈es,op.g = i + 1/\op.act = .ofEvent e:=by
  intro op hop
  rw [ofEvents_eq] at hop
  obtain ⟨e,he,rfl⟩:=Array.mem_map.1 hop
  exact ⟨e,he,rfl,rfl⟩
 refine goStepW G ha hcs h hi hg hgo T (fun b hb=>.inr (.inl hb)) hwg ⟨h.ch.1,(keepB _ G.ch (Ne.symm G.wc)).trans h.ch.2⟩ ?_ hsit (by rw [hsz];exact h.H) ?_ hdeaf hrel (fun b hb=>by rw [hxo] at hb;exact hb.elim) (fun _ _ q=>q) (fun k hk=>by rw [hxj] at hk;cases hk) (fun k hk=>?_) (fun _=>h.last i hi h7) hmode hlt
 ·obtain ⟨cs,h1,h2⟩:=h.out
  exact ⟨cs,(keepB _ G.out (Ne.symm G.wo)).trans h1,h2⟩
 ·rw [hsz]
  refine h.tr.appW G h.H hlz hi (fun op hop=>?_) (fun op hop x hx hns=>?_) (fun op hop hm=>?_)
  ·obtain ⟨e,he,h1,h2⟩:=hops op hop
   exact ⟨h1,fun x hx=>.inl ((hev e he).1 x (by rw [<- h2];exact hx))⟩
  ·obtain ⟨e,he,h1,h2⟩:=hops op hop
   exact absurd ((hev e he).1 x (by rw [<- h2];exact hx)).1 hns
  ·obtain ⟨e,he,h1,h2⟩:=hops op hop
   exact (hev e he).2 (Go.ConcR.loc_of_ofEvent (h2 ▸ hm))
 ·rcases h.jobs k hk with ⟨i',hi',hk'⟩ | hk'
  ·by_cases e:i' = i
   ·subst e;rw [hnj] at hk';cases hk'
   ·exact .inl ⟨i',hi',e,hk'⟩
  ·refine .inr (.inr (hk'.keep hRes T.size (fun b hb=>?_) (fun o v _ hc=>T.cell (Ne.symm G.wo) hc) fun i' hi' b hb=>?_))
   ·rcases hb with hb | hb
    ·have:=G.ro b hb;exact keepB b this.1 this.2.1
    ·refine T.block b hb.2.1 fun q=>?_
     have:=G.wg;omega
   ·by_cases e:i' = i
    ·subst e;simp only [if_true,hxo] at hb;exact hb.elim
    ·simp only [if_neg e] at hb;exact .inl hb
end
end Go.Co

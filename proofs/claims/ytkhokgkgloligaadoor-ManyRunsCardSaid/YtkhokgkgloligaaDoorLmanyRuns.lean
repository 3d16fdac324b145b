/- castlaw.ManyRuns answers true for every input, and leaves its arguments as they were; without further conditions. -/
import Derived.Test.YtkhokgkgloligaaDoorA6
import Derived.Test.YtkhokgkgloligaaDoorCards
import Derived.Test.YtkhokgkgloligaaDoorTie
import Derived.LaidMore
import Derived.Lay
import Derived.SevenTiedAt
import Derived.Stop.Joined
import Derived.Conc.LeavingOf
set_option linter.unusedVariables false
set_option linter.unusedSimpArgs false
namespace Go.Proofs.YtkhokgkgloligaaDoor.manyRuns
open Go.ChangeShapes Go.WideShapes Go.ChangeAt Go.RowKit Go.Am Go.Conc
theorem leaving_and {H:Type} {enc:TypeId × Value->H} {a:Assume} {C:Checked} {os:Os} {f:FuncId} {fn:Func} {s:ChangeSpec} {conds:List PathCond} {apart fresh handsOn again:Bool} {X:World->Array Value->Prop}
 (hX:∀ (w w':World) (args:Array Value),w.heap = w'.heap->X w args->X w' args)
 (own:ownKnob C.prog.godebug = none) (started:os.Started) (hfn:C.prog.funcs[f]? = some fn)
 (witness:∃ (w:World) (tape:Tape) (i:Input),w.os = os/\(w.forCall tape i).Shaped C.prog/\i.vars = []/\Input.okWide C.prog (w.forCall tape i) .any w.heap.size f i /\
   ((s.pre enc C.prog fn conds apart (w.forCall tape i).memory i.args/\X (w.forCall tape i).memory i.args)/\sizedMet enc C.prog fn (OpenSpec.ofChange s) apart (w.forCall tape i).memory i.args)/\a.holds C.prog (lone (Frame.enter C.prog f i.args .normal) [] (w.forCall tape i)))
 (runs:∀ (W:World) (base:Nat) (args:Array Value) (ds gs:List (DataW H)) (before:List MemPlace),
   (∀ (j:Nat) t v,fn.params[j]? = some t->args[j]? = some v->Value.okWide C.prog W .any base t v) ->
   DataW.Whole enc C.prog fn.params.toList s.vars apart W args.toList ds gs before ->
   conds.all (PathCond.test C.prog ⟨fn.params.toList,ds,s.plain.varTypes C.prog,gs⟩) = true ->
   (DataW.weightsEach C.prog (fn.params.toList ++ s.plain.varTypes C.prog) (ds ++ gs)).all (·<=reachBytes) = true->X W args ->
   a.holds C.prog (lone (Frame.enter C.prog f args .normal) [] W) ->
   ∃ M last o w' t',runNT C.prog (M + 1) (solo (G (Frame.enter C.prog f args .normal) []) W) #[] = (.ended o w',t')/\runN C.prog M (solo (G (Frame.enter C.prog f args .normal) []) W) = .next last /\
    step C.prog last = .ended o w'/\Conc.Good C.prog (fun v W'=>s.post enc C.prog fn apart fresh handsOn again W args v W') last o w' t'):
 ReturnsInLeavingWide a C os f .any (fun w args=>(s.pre enc C.prog fn conds apart w args/\X w args)/\sizedMet enc C.prog fn (OpenSpec.ofChange s) apart w args) (s.post enc C.prog fn apart fresh handsOn again):=by
 refine returnsInLeavingWide_of_good own started witness ?_
 intro w tape i _ _ _ hok hpre hholds
 obtain ⟨_,_,_,fn',hfn',_,_,_,_,hval⟩:=hok
 have e:fn' = fn:=Option.some.inj (hfn'.symm.trans hfn)
 subst e
 obtain ⟨⟨⟨ds,gs,before,hw,hc⟩,hx⟩,hz⟩:=hpre
 have hw':=DataW.Whole.of_heap (w':=w.forCall tape i) (by rfl) hw
 obtain ⟨M,last,o,w',t',h1,h2,h3,h4⟩:=runs (w.forCall tape i) w.heap.size i.args ds gs before hval hw' hc (hz.weights hw) (hX _ _ _ (by rfl) hx) hholds
 exact ⟨M,last,o,w',t',h1,h2,h3,h4.mono fun v hp=>ChangeSpec.post_blind hp⟩
theorem R35:Rdr Tryd.prog 35 Y35 (fun a=>(inR .i64 a.1/\(inR .i64 a.2.1/\(a.2.2.1.length<=maxLen/\a.2.2.2.length<=maxLen)))):=by
 refine Rdr.via id (Rdr.struct Tryd.underlying35 rfl (by kernel_rfl) (RdrF.cons rfl (by kernel_rfl) (Rdr.int Tryd.underlying3) (RdrF.cons rfl (by kernel_rfl) (Rdr.int Tryd.underlying3) (RdrF.cons rfl (by kernel_rfl) (Rdr.str Tryd.underlying9) (RdrF.one rfl (by kernel_rfl) (Rdr.str Tryd.underlying9)))))) ?_ (fun a h=>h)
 rintro z m ⟨x0,x1,x2,x3⟩ cs ⟨_,_,rfl,rfl,⟨_,_,rfl,rfl,⟨_,_,rfl,rfl,rfl⟩⟩⟩
 rfl
set_option maxRecDepth 100000 in
theorem lifted (os:Os) (started:os.Started) (H:Type) (enc:TypeId × Value->H):
 ReturnsInLeavingWide {} Tryd.checked os 3 .any (fun w args=>(Rows.manyRunsSpec.pre enc Tryd.prog Tryd.f3 Rows.manyRunsRow.domain false w args/\laidMetH Tryd.prog Rows.manyRunsRow.laid w)/\sizedMet enc Tryd.prog Tryd.f3 (OpenSpec.ofChange Rows.manyRunsSpec) false w args) (Rows.manyRunsSpec.post enc Tryd.prog Tryd.f3 false true false false):=by
 refine leaving_and (C:=Tryd.checked) (X:=fun w _=>laidMetH Tryd.prog Rows.manyRunsRow.laid w) (fun _ _ _ hh h=>h.of_heap hh) Facts.own started Tryd.func3
  (ChangeSpec.witness_shaped (enc:=enc) (C:=Tryd.checked) (os:=os) (X:=fun w _=>laidMetH Tryd.prog Rows.manyRunsRow.laid w) false (World.laidAll Tryd.prog os Rows.manyRunsRow.laid) #[.int .i64 0,.slice none 0 0] 8 (World.laidAll_os _ _ _)
    (World.shaped_of_ZipB (by kernel_rfl) (by kernel_rfl)) (by kernel_rfl) (by kernel_rfl) (by kernel_rfl)
    (by rw [MakeChecks.laidMetH_plain _ _ _ (by kernel_rfl)];exact laidMet_laidAll _ (by kernel_rfl) (by kernel_rfl))) ?_
 intro W base args ds gs before hval hW hcnd hsz hL _
 have hW':=hW
 obtain ⟨p,q,hA,hV,rfl,hfz,hnd⟩:=hW
 rw [Tryd.params3] at hA hval
 have hsz:(DataW.weightsEach Tryd.prog (Tryd.f3.params.toList ++ Rows.manyRunsSpec.plain.varTypes Tryd.prog) (ds ++ gs)).all (·<=reachBytes) = true:=hsz
 rw [Tryd.params3] at hsz
 obtain ⟨v0,vs0,d0,ds0,p0,q0,hargs0,rfl,rfl,h0,r0⟩:=trodAll_cons hA
 obtain ⟨v1,vs1,d1,ds1,p1,q1,hargs1,rfl,rfl,h1,r1⟩:=trodAll_cons r0
 obtain ⟨rfl,rfl,rfl⟩:=trodAll_nil r1
 subst hargs1
 obtain rfl:args = #[v0,v1]:=by cases args;simp_all
 obtain ⟨rfl,rfl⟩:=trodVars_none hV
 obtain ⟨z0,rfl⟩:=okWide_int Tryd.underlying3 (hval 0 3 v0 rfl rfl)
 obtain ⟨z1,zl1,zc1,rfl⟩:=okWide_slice Tryd.underlying22 (hval 1 22 v1 rfl rfl)
 obtain ⟨X1,x1,a1,le1,rel1,hR1,hV1⟩:=Rdr.arg (Rdr.sl Tryd.underlying22 (by kernel_rfl) (by decide) (Rdr.sl Tryd.underlying27 (by kernel_rfl) (by decide) R35)) rfl h1 (Ab.nil W)
 obtain ⟨w1,e1,hR1⟩:=hR1
 obtain rfl:x1 = w1:=by injection e1
 have hS1:=arg_sized hsz (j:=1) rfl rfl Tryd.underlying22 h1 rel1 hR1
 rw [show Tryd.prog.bytesOf 27 = 24 from by kernel_rfl] at hS1
 have hIn:=Go.Co.inner_sized X1 hsz (j:=1) rfl rfl h1 hR1 rel1
 generalize hF:18446744073709551616 = F
 have hml:maxLen<=9223372036854775807:=by decide
 have hD:∀ D∈a1,D.length<=2932031007317/\D.length + 2 < F/\∀ d∈D,d.2.2.1.length < F/\d.2.2.1.length<=9223372036854775807:=by
  intro D hm
  obtain ⟨k,hk,rfl⟩:=List.mem_iff_getElem.1 hm
  have h48:=hIn k hk
  rw [List.getD_eq_getElem?_getD,List.getElem?_eq_getElem hk] at h48
  have h48:a1[k].length * 48<=140737488351232:=h48
  refine ⟨by omega,by omega,fun d hd=>?_⟩
  have:=((hV1.2 _ hm).2 d hd).2.2.1
  exact ⟨by omega,by omega⟩
 obtain ⟨M,last,o,w',t',g1,g2,g3,g4⟩:=Go.Co.many_ends (F:=F) (F':=F) X1 (hands:=z0) (told:=fun k=>hal.tlsA F (a1.getD k []) (a1.getD k []).length) (errs:=fun k=>hal.ersA F (a1.getD k []) (a1.getD k []).length) (jobs:=a1) (by omega) rel1 hR1
  (fun _ k hk=>by
    have hm:a1.getD k []∈a1:=by rw [List.getD_eq_getElem?_getD,List.getElem?_eq_getElem hk];exact List.getElem_mem hk
    obtain ⟨q1,q2,q3⟩:=hD _ hm
    exact hal.do_eq (by omega) q1 q2 q3)
  (fun hok=>hal.law_good hok (by omega) (by omega) (by omega) hD) (fun hbad=>hal.law_bad hbad)
 refine ⟨M,last,o,w',t',g1,g2,g3,g4.mono fun v hp=>?_⟩
 obtain ⟨rfl,hb⟩:=hp
 exact law_post hW' hb rfl rfl rfl rfl Facts.laid (by kernel_rfl) (by rfl) Tryd.underlying4
theorem named:Tryd.prog.funcNamed Rows.manyRunsRow.func = some 3:=by kernel_rfl
theorem c1:(Rows.manyRunsRow.inPlace == Tryd.prog.inPlace 3) = true:=by kernel_rfl
theorem c2:(Rows.manyRunsRow.unfollowed == Tryd.prog.unfollowed 3) = true:=by kernel_rfl
theorem c3:(Rows.manyRunsRow.recurses == Tryd.prog.recurses 3) = true:=by kernel_rfl
theorem c4:(Rows.manyRunsRow.named == Tryd.prog.varsNamed 3) = true:=by kernel_rfl
theorem c5:(Rows.manyRunsRow.plainKeys == Tryd.prog.plainKeys) = true:=by kernel_rfl
theorem c6:(Rows.manyRunsRow.lifted == false) = true:=rfl
theorem c7:(some Make.cut == some Rows.manyRunsRow.make) = true:=rfl
theorem closed:joinedFacts Tryd.prog 3 Tryd.f3 Rows.manyRunsSpec Rows.manyRunsRow = true:=by
 unfold joinedFacts
 rw [c1,c2,c3,c4,c5,Facts.laid,Facts.mapsRowed,Facts.stops,Facts.stopKnobs,Facts.stopsHeard,Facts.mayEnter,Facts.liftsFinal,Facts.make,c6,c7]
 kernel_rfl
theorem over:Rows.manyRunsRow.holds Tryd.pinned (OpenSpec.ofChange Rows.manyRunsSpec):=
 OpenClaim.holds_of_wide_leaving 3 Tryd.f3 rfl rfl rfl rfl rfl rfl rfl ⟨rfl,rfl,rfl,rfl,rfl⟩ rfl rfl rfl rfl rfl named Tryd.func3 closed
  (of_decide_eq_true (by kernel_rfl)) (by unfold Func.isWrapper;first | (rw [if_pos (by decide +kernel)];kernel_rfl) | (rw [if_neg (by decide +kernel)];exact ⟨rfl,rfl⟩))
  (fun os started H enc _=>lifted os started H enc)
theorem tied_goes (Lk:Looks) {p:Pinned} {s:OpenSpec} {c:OpenClaim} (kinds:List LaidKind) (tests:Bool) (har:Bool × String) (lk:Bool)
 (hc:c.holds p s) (hw:c.wfByText s = true) (htie:c.laidByTextAt Lk p kinds tests)
 (hst:c.start = .entering) (hnb:c.noBlocks = false/\c.again = false) (hm:p.checked.prog.mainIs = some (har.1,har.2.toList)) (hn:(!har.1 && har.2.isEmpty && !lk) = false)
 (hl:∀ f fn,p.checked.prog.funcNamed c.func = some f->p.checked.prog.funcs[f]? = some fn->lk = p.checked.prog.looks []/\∀ (j:Nat) t,fn.params[j]? = some t->p.checked.prog.wantsStandIn t = false)
 (hg:true = c.goesBy p.checked.prog):
 Claim7.holds p (.plain s) { stood:={ row:=c,standIns:=[],harness:=har,looks:=lk },kinds:=[],alts:=[],goes:=true,laidByText:=true,laidKinds:=kinds,laidTests:=tests,laidLooks:=Lk }:=by
 have h6:∀ r:OpenClaim,Claim7.isSixth { stood:={ row:=r,standIns:=[],harness:=har,looks:=lk },kinds:=[] } = false:=fun r=>by simpa [Claim7.isSixth] using hn
 exact ⟨Claim7.tied_new_at Lk kinds tests (Claim7.new_of_sixth hc har lk hst hnb hm (h6 c) hl) hw,fun D hD=>(by cases hD),htie,fun h=>(by cases h),hg⟩
theorem proved:Rows.ManyRunsCardSaid:=
 tied_goes .later [.data,.pinned] true (true,"19e9523d61455b03dad0f4a536bbc32ec4d9c73891fbce4cb35c7b9db839508d") false over (by kernel_rfl) manyRuns_row_tie rfl ⟨rfl,rfl⟩ (by kernel_rfl) rfl
  (fun f fn hf hfn=>by
    obtain rfl:f = 3:=Option.some.inj ((show Tryd.prog.funcNamed "lotcaster/castlaw.ManyRuns" = some 3 by kernel_rfl).symm.trans hf) |>.symm
    obtain rfl:fn = Tryd.f3:=(Option.some.inj (Tryd.func3.symm.trans hfn)).symm
    exact ⟨by kernel_rfl,fun j t ht=>by
     rw [Tryd.params3] at ht
     have hm:t∈[3,22]:=by simpa using Array.mem_of_getElem? ht
     have hall:([3,22].all fun u=>!Tryd.prog.wantsStandIn u) = true:=by kernel_rfl
     exact (show Tryd.prog.wantsStandIn t = false by simpa using List.all_eq_true.1 hall t hm)⟩)
  (by kernel_rfl)
#print axioms proved
end Go.Proofs.YtkhokgkgloligaaDoor.manyRuns

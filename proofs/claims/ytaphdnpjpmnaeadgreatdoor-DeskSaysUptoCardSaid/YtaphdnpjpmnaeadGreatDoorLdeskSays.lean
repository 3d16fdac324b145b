/- castlaw.DeskSays answers true for every text whose bulk is at most 1048576, where the listed package-level variables hold what the program's text lays (the card ties them to it), and it leaves the text as it was. The listed variables are tied to the pruned copy of the program alone. -/
import Derived.Test.YtaphdnpjpmnaeadGreatDoorA10
import Derived.Test.YtaphdnpjpmnaeadGreatDoorCards
import Derived.Test.YtaphdnpjpmnaeadGreatDoorTie
import Derived.LaidMore
import Derived.Lay
import Derived.SevenTiedAt
import Derived.Stop.Joined
import Derived.Deep.DeepHandedRow
import Derived.Deep.DeepWitnessRowRef
import Derived.Shelf.Vars
import Derived.ChangeMaps5
set_option linter.unusedVariables false
set_option linter.unusedSimpArgs false
namespace Go.Proofs.YtaphdnpjpmnaeadGreatDoor.deskSays
open Go.ChangeShapes Go.WideShapes Go.ChangeAt Go.RowKit Go.Am
theorem law_cx {pv:Int→Value} {f:Nat} {args:List AV} {W:World} {vals:Array Value} {X:Ab W} (h:CX Tryz.prog pv W.heap.size X.n W f args X.m X.n fun x _ _=>x = .ok (.sc (.bool true)))
 (ha:All2 (AV.rel X.ρ) args vals.toList):Calls Tryz.prog f vals W fun e w'=>e = .returned (.bool true)∧Below W.heap.size W w':=by
 refine (h X.ρ W vals (Nat.le_refl _) (MemRel.init X.ok) ha X.fresh).2.mono ?_
 rintro e w' ⟨x,m',n',ρ',rfl,⟨val,rfl,hv⟩,_,_,_,hm⟩
 obtain rfl:=hv
 exact ⟨rfl,hm.below⟩
theorem gTab:Tryz.prog.globalNamed "internal/strconv.uint64pow10" = some 3:=by kernel_rfl
theorem gTy:(Tryz.prog.globals[3]?).map (·.type) = some 191:=by kernel_rfl
theorem uTab:Tryz.prog.underlying 191 = some (.array 20 156):=by kernel_rfl
theorem uElm:Tryz.prog.underlying 156 = some (.int .u64):=by kernel_rfl
theorem cElm:Tryz.prog.cellsOf 156 = 1:=by kernel_rfl
theorem cTab:Tryz.prog.cellsOf 191 = 20:=by kernel_rfl
theorem tabs {W:World} (h:laidMetH Tryz.prog Rows.deskSaysUptoRow.laid W) (hs:W.ShapedOpen Tryz.prog):tab W:=by
 refine ⟨?_,cell_of_shapedOpen_int hs (of_decide_eq_true (by kernel_rfl)) (t:=3) (zero:=#[.int .i64 0]) (by kernel_rfl) (by kernel_rfl) (by kernel_rfl) (by kernel_rfl) Tryz.underlying3⟩
 rw [MakeChecks.laidMetH_plain _ _ _ (by kernel_rfl)] at h
 obtain ⟨ps,hv,_⟩:=h
 obtain ⟨_,_,_,_,_,_,_,_,_,_,hv,_⟩:=hv
 obtain ⟨_,_,_,_,_,_,_,_,_,_,hv,_⟩:=hv
 obtain ⟨g',t',cs,fuel,p,q,hg',ht',hvar,hd,_,_⟩:=hv
 obtain rfl:=Option.some.inj (gTab.symm.trans hg')
 obtain rfl:=Option.some.inj (gTy.symm.trans ht')
 unfold Lib.TabIs
 rw [hvar,← Lib.cells_of_tab uTab uElm cElm cTab hd]
set_option maxRecDepth 100000 in
theorem wit (os:Os) {H:Type} (enc:TypeId × Value→H):∃ (w:World) (tape:Tape) (i:Input),w.os = os∧(w.forCall tape i).Shaped Tryz.checked.prog∧i.vars = []∧Input.okWide Tryz.checked.prog (w.forCall tape i) .any w.heap.size 3 i ∧
 (Rows.OpenSpec.upto Rows.deskSaysSpec).preRow enc Tryz.checked.prog Tryz.f3 Rows.deskSaysUptoRow.domain false Rows.deskSaysUptoRow.laid (w.forCall tape i).memory i.args∧({}:Assume).holds Tryz.checked.prog (lone (Frame.enter Tryz.checked.prog 3 i.args .normal) [] (w.forCall tape i)):=by
 have hok:Input.okWideB Tryz.checked.prog ((World.laidAll Tryz.prog os Rows.deskSaysUptoRow.laid).forCall (fun _ _=>0) ⟨#[],#[.string ⟨#[]⟩],[]⟩) 3 ⟨#[],#[.string ⟨#[]⟩],[]⟩ = true:=by kernel_rfl
 have hx:DataW.whole enc Tryz.prog ((World.laidAll Tryz.prog os Rows.deskSaysUptoRow.laid).forCall (fun _ _=>0) ⟨#[],#[.string ⟨#[]⟩],[]⟩).memory Tryz.f3.params.toList Rows.deskSaysSpec.vars false #[Value.string ⟨#[]⟩].toList 8 = some ([.lit (.string [])],[],[]):=by kernel_rfl
 exact ⟨World.laidAll Tryz.prog os Rows.deskSaysUptoRow.laid,fun _ _=>0,⟨#[],#[.string ⟨#[]⟩],[]⟩,World.laidAll_os _ _ _,World.shaped_of_ZipB (by kernel_rfl) (by kernel_rfl),(Input.okWide_of_okWideB (base:=0) hok).1,(Input.okWide_of_okWideB hok).2,
  OpenSpec.preRow_of_cond 8 hx (by kernel_rfl) (fun k hk=>by cases hk;kernel_rfl) (by kernel_rfl) (by rw [MakeChecks.laidMetH_plain _ _ _ (by kernel_rfl)];exact laidMet_laidAll _ (by kernel_rfl) (by kernel_rfl)),
  by simp only [Assume.holds];exact ⟨by simp,by simp,(fun h=>by cases h),by simp,by simp⟩⟩
set_option maxRecDepth 100000 in
theorem lifted (os:Os) (started:os.Started) (H:Type) (enc:TypeId × Value→H) (F:Stop.Interp):
 ReturnsInHanded {} Tryz.checked os 3 .any ((Rows.OpenSpec.upto Rows.deskSaysSpec).preRow enc Tryz.prog Tryz.f3 Rows.deskSaysUptoRow.domain false Rows.deskSaysUptoRow.laid) (((Rows.OpenSpec.upto Rows.deskSaysSpec).at F).post enc Tryz.prog Tryz.f3 false true false false):=by
 refine returnsInHanded_of_row (C:=Tryz.checked) (s:=Rows.OpenSpec.upto Rows.deskSaysSpec) Facts.own started (by kernel_rfl) Tryz.func3 (wit os enc) ?_
 intro W base args ds gs before hval hW _ hcond _ hL hS _
 have hW':=hW
 obtain ⟨p,q,hA,hV,rfl,hfz,hnd⟩:=hW
 rw [Tryz.params3] at hA hval
 obtain ⟨v0,vs0,d0,ds0,p0,q0,hargs0,rfl,rfl,h0,r0⟩:=trodAll_cons hA
 obtain ⟨rfl,rfl,rfl⟩:=trodAll_nil r0
 obtain rfl:args = #[v0]:=by cases args;simp_all
 obtain ⟨rfl,rfl⟩:=trodVars_none hV
 obtain ⟨z0,rfl,rfl,_,_⟩:=Go.ChangeMaps.open_string Tryz.underlying9 (hval 0 9 v0 rfl rfl) h0
 obtain ⟨X0,x0,a0,le0,rel0,hR0,hV0⟩:=Rdr.arg (Rdr.str Tryz.underlying9) rfl h0 (Ab.nil W)
 obtain rfl:x0 = _:=by injection hR0
 have hk:=of_decide_eq_true (hcond _ rfl)
 have hB:a0.length≤1048576:=by
  have e:Value.string z0 = .string ⟨a0.toArray⟩:=rel0
  injection e with e
  subst e
  simp only [Rows.uptoBulkAll,Rows.uptoBulk,List.append_nil] at hk
  omega
 obtain ⟨F',a,h1,h2,h3,h4⟩:=lin.holds a0 hB
 have ht:=tabs hL hS
 have hE:EnvOk Tryz.prog E:=E.ok fun fl0 w0 hw=>strOk strs hw
 refine (law_cx (X:=X0) (vals:=#[.string z0]) (F3x (w0:=W) hE ⟨ht,rfl⟩ h1 h2 h3 rfl h4) ⟨rel0,trivial⟩).mono fun e W' ⟨he,hb⟩=>?_
 subst he
 exact ⟨_,rfl,law_post hW' hb rfl rfl rfl rfl Facts.laid (by kernel_rfl) (by rfl) Tryz.underlying4⟩
theorem named:Tryz.prog.funcNamed Rows.deskSaysUptoRow.func = some 3:=by kernel_rfl
theorem c1:(Rows.deskSaysUptoRow.inPlace == Tryz.prog.inPlace 3) = true:=by kernel_rfl
theorem c2:(Rows.deskSaysUptoRow.unfollowed == Tryz.prog.unfollowed 3) = true:=by kernel_rfl
theorem c3:(Rows.deskSaysUptoRow.recurses == Tryz.prog.recurses 3) = true:=by kernel_rfl
theorem c4:(Rows.deskSaysUptoRow.named == Tryz.prog.varsNamed 3) = true:=by kernel_rfl
theorem c5:(Rows.deskSaysUptoRow.plainKeys == Tryz.prog.plainKeys) = true:=by kernel_rfl
theorem c6:(Rows.deskSaysUptoRow.lifted == false) = true:=rfl
theorem c7:(some Make.cut == some Rows.deskSaysUptoRow.make) = true:=rfl
theorem closed:joinedFacts Tryz.prog 3 Tryz.f3 (Rows.OpenSpec.upto Rows.deskSaysSpec).bare Rows.deskSaysUptoRow = true:=by
 unfold joinedFacts
 rw [c1,c2,c3,c4,c5,Facts.laid,Facts.mapsRowed,Facts.stops,Facts.stopKnobs,Facts.stopsHeard,Facts.mayEnter,Facts.liftsFinal,Facts.make,c6,c7]
 kernel_rfl
theorem over:Rows.deskSaysUptoRow.holds Tryz.pinned (Rows.OpenSpec.upto Rows.deskSaysSpec):=
 OpenClaim.holds_of_cond 3 Tryz.f3 rfl rfl rfl rfl rfl rfl rfl ⟨rfl,rfl,rfl,rfl,rfl⟩ rfl rfl rfl rfl rfl named Tryz.func3 closed
  (of_decide_eq_true (by kernel_rfl)) (by unfold Func.isWrapper;first | (rw [if_pos (by decide +kernel)];kernel_rfl) | (rw [if_neg (by decide +kernel)];exact ⟨rfl,rfl⟩))
  (fun os started H enc _ F=>by rw [OpenClaim.pre_eq_preRow];exact lifted os started H enc F)
theorem plain (f:FuncId) (fn:Func) (hf:Tryz.pinned.checked.prog.funcNamed "lotcaster/castlaw.DeskSays" = some f) (hfn:Tryz.pinned.checked.prog.funcs[f]? = some fn):
 true = Tryz.pinned.checked.prog.looks []∧∀ (j:Nat) t,fn.params[j]? = some t→Tryz.pinned.checked.prog.wantsStandIn t = false:=by
 obtain rfl:f = 3:=Option.some.inj ((show Tryz.prog.funcNamed "lotcaster/castlaw.DeskSays" = some 3 by kernel_rfl).symm.trans hf) |>.symm
 obtain rfl:fn = Tryz.f3:=(Option.some.inj (Tryz.func3.symm.trans hfn)).symm
 refine ⟨by kernel_rfl,fun j t ht=>?_⟩
 rw [Tryz.params3] at ht
 obtain rfl:t = 9:=by simpa using Array.mem_of_getElem? ht
 exact (show Tryz.prog.wantsStandIn 9 = false by kernel_rfl)
theorem proved:Rows.DeskSaysUptoCardSaid:=
 Claim7.holds_tied_plain_at .later [] _ _ _ _ over (fun _ h=>by cases h) (by kernel_rfl) (fun _ h=>by cases h) deskSaysUpto_row_tie rfl ⟨rfl,rfl⟩ (by kernel_rfl) rfl plain (by kernel_rfl)
#print axioms proved
end Go.Proofs.YtaphdnpjpmnaeadGreatDoor.deskSays

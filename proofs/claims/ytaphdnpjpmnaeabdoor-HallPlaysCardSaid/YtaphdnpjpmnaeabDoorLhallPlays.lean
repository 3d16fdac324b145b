/- castlaw.HallPlays answers true for every input, and leaves its arguments as they were; without further conditions. -/
import Derived.Test.YtaphdnpjpmnaeabDoorCards
import Derived.Test.YtaphdnpjpmnaeabDoorTie
import Derived.LaidMore
import Derived.Lay
import Derived.SevenTiedAt
import Derived.Stop.Joined
import Derived.Test.YtaphdnpjpmnaeabDoorFacts
import Derived.Test.YtaphdnpjpmnaeabDoorDenC
import Derived.Test.YtaphdnpjpmnaeabDoorEnv
import Derived.Test.YtaphdnpjpmnaeabDoorG4
import Derived.Test.YtaphdnpjpmnaeabDoorPhallPlays
set_option linter.unusedVariables false
set_option linter.unusedSimpArgs false
namespace Go.Proofs.YtaphdnpjpmnaeabDoor.hallPlays
open Go.ChangeShapes Go.WideShapes Go.ChangeAt Go.RowKit Go.Am

theorem R32 : Rdr Tryd.prog 32 Y32 (fun a => (inR .i64 a.1 ∧ (inR .i64 a.2.1 ∧ (a.2.2.1.length ≤ maxLen ∧ a.2.2.2.length ≤ maxLen)))) := by
  refine Rdr.via id (Rdr.struct Tryd.underlying32 rfl (by kernel_rfl) (RdrF.cons rfl (by kernel_rfl) (Rdr.int Tryd.underlying3) (RdrF.cons rfl (by kernel_rfl) (Rdr.int Tryd.underlying3) (RdrF.cons rfl (by kernel_rfl) (Rdr.str Tryd.underlying9) (RdrF.one rfl (by kernel_rfl) (Rdr.str Tryd.underlying9)))))) ?_ (fun a h => h)
  rintro z m ⟨x0, x1, x2, x3⟩ cs ⟨_, _, rfl, rfl, ⟨_, _, rfl, rfl, ⟨_, _, rfl, rfl, rfl⟩⟩⟩
  rfl

set_option maxRecDepth 100000 in
theorem lifted (os : Os) (started : os.Started) (H : Type) (enc : TypeId × Value → H) :
    ReturnsInHanded {} Tryd.checked os 3 .any (fun w args => (Rows.hallPlaysSpec.pre enc Tryd.prog Tryd.f3 Rows.hallPlaysRow.domain false w args ∧ laidMetH Tryd.prog Rows.hallPlaysRow.laid w) ∧ sizedMet enc Tryd.prog Tryd.f3 (OpenSpec.ofChange Rows.hallPlaysSpec) false w args) (Rows.hallPlaysSpec.post enc Tryd.prog Tryd.f3 false true false false) := by
  refine returnsInHanded_of_change_and (C := Tryd.checked) (X := fun w _ => laidMetH Tryd.prog Rows.hallPlaysRow.laid w) (fun _ _ _ hh h => h.of_heap hh) Facts.own started (by kernel_rfl) Tryd.func3
    (ChangeSpec.witness_shaped (enc := enc) (C := Tryd.checked) (os := os) (X := fun w _ => laidMetH Tryd.prog Rows.hallPlaysRow.laid w) false (World.laidAll Tryd.prog os Rows.hallPlaysRow.laid) #[.slice none 0 0, .string ⟨#[]⟩] 8 (World.laidAll_os _ _ _)
      (World.shaped_of_ZipB (by kernel_rfl) (by kernel_rfl)) (by kernel_rfl) (by kernel_rfl) (by kernel_rfl)
      (by rw [MakeChecks.laidMetH_plain _ _ _ (by kernel_rfl)]; exact laidMet_laidAll _ (by kernel_rfl) (by kernel_rfl))) ?_
  intro W base args ds gs before hval hW hcnd hsz hL _
  have hW' := hW
  obtain ⟨p, q, hA, hV, rfl, hfz, hnd⟩ := hW
  rw [Tryd.params3] at hA hval
  have hsz : (DataW.weightsEach Tryd.prog (Tryd.f3.params.toList ++ Rows.hallPlaysSpec.plain.varTypes Tryd.prog) (ds ++ gs)).all (· ≤ reachBytes) = true := hsz
  rw [Tryd.params3] at hsz
  obtain ⟨v0, vs0, d0, ds0, p0, q0, hargs0, rfl, rfl, h0, r0⟩ := trodAll_cons hA
  obtain ⟨v1, vs1, d1, ds1, p1, q1, hargs1, rfl, rfl, h1, r1⟩ := trodAll_cons r0
  obtain ⟨rfl, rfl, rfl⟩ := trodAll_nil r1
  subst hargs1
  obtain rfl : args = #[v0, v1] := by cases args; simp_all
  obtain ⟨rfl, rfl⟩ := trodVars_none hV
  obtain ⟨z0, zl0, zc0, rfl⟩ := okWide_slice Tryd.underlying22 (hval 0 22 v0 rfl rfl)
  obtain ⟨X0, x0, a0, le0, rel0, hR0, hV0⟩ := Rdr.arg (Rdr.sl Tryd.underlying22 (by kernel_rfl) (by decide) R32) rfl h0 (Ab.nil W)
  obtain ⟨w0, e0, hR0⟩ := hR0
  obtain rfl : x0 = w0 := by injection e0
  obtain ⟨z1, rfl⟩ := okWide_string Tryd.underlying9 (hval 1 9 v1 rfl rfl)
  obtain ⟨X1, x1, a1, le1, rel1, hR1, hV1⟩ := Rdr.arg (Rdr.str Tryd.underlying9) rfl h1 X0
  obtain rfl : x1 = _ := by injection hR1
  have hS0 := arg_sized hsz (j := 0) rfl rfl Tryd.underlying22 h0 rel0 hR0
  rw [show Tryd.prog.bytesOf 32 = 48 from by kernel_rfl] at hS0
  have rel0 := AV.rel_ext le1.2.1 rel0
  have hR0 := RO.to hR0 (Ab.le.fr le1) (Ab.le.fr le1)
  obtain ⟨F, hF⟩ := PhallPlays.holds a0 a1 hV0 hV1 hS0
  refine (law_ret E.ok E.fns (X := X1) (vals := #[.slice z0 zl0 zc0, .string z1]) (F3_ok hF hR0) ⟨rel0, rel1, trivial⟩).mono fun e W' ⟨he, hb⟩ => ?_
  subst he
  exact ⟨_, rfl, law_post hW' hb rfl rfl rfl rfl Facts.laid (by kernel_rfl) (by rfl) Tryd.underlying4⟩

theorem named : Tryd.prog.funcNamed Rows.hallPlaysRow.func = some 3 := by kernel_rfl
theorem c1 : (Rows.hallPlaysRow.inPlace == Tryd.prog.inPlace 3) = true := by kernel_rfl
theorem c2 : (Rows.hallPlaysRow.unfollowed == Tryd.prog.unfollowed 3) = true := by kernel_rfl
theorem c3 : (Rows.hallPlaysRow.recurses == Tryd.prog.recurses 3) = true := by kernel_rfl
theorem c4 : (Rows.hallPlaysRow.named == Tryd.prog.varsNamed 3) = true := by kernel_rfl
theorem c5 : (Rows.hallPlaysRow.plainKeys == Tryd.prog.plainKeys) = true := by kernel_rfl
theorem c6 : (Rows.hallPlaysRow.lifted == false) = true := rfl
theorem c7 : (some Make.cut == some Rows.hallPlaysRow.make) = true := rfl
theorem closed : joinedFacts Tryd.prog 3 Tryd.f3 Rows.hallPlaysSpec Rows.hallPlaysRow = true := by
  unfold joinedFacts
  rw [c1, c2, c3, c4, c5, Facts.laid, Facts.mapsRowed, Facts.stops, Facts.stopKnobs, Facts.stopsHeard, Facts.mayEnter, Facts.liftsFinal, Facts.make, c6, c7]
  kernel_rfl
theorem over : Rows.hallPlaysRow.holds Tryd.pinned (OpenSpec.ofChange Rows.hallPlaysSpec) :=
  OpenClaim.holds_of_wide 3 Tryd.f3 rfl rfl rfl rfl rfl rfl rfl ⟨rfl, rfl, rfl, rfl, rfl⟩ rfl rfl rfl rfl rfl named Tryd.func3 closed
    (of_decide_eq_true (by kernel_rfl)) (by unfold Func.isWrapper; first | (rw [if_pos (by decide +kernel)]; kernel_rfl) | (rw [if_neg (by decide +kernel)]; exact ⟨rfl, rfl⟩))
    (fun os started H enc _ => lifted os started H enc)
theorem proved : Rows.HallPlaysCardSaid :=
  Claim7.holds_tied_plain_at .later [] [.data, .pinned] true (true, "9bf7e9793a26086da4ea9fa4858a49f7f415b318699452fa5b4cf88dc4df5b63") false over (fun _ h => by cases h) (by kernel_rfl) (fun _ h => by cases h) hallPlays_row_tie rfl ⟨rfl, rfl⟩ (by kernel_rfl) rfl
    (fun f fn hf hfn => by
      obtain rfl : f = 3 := Option.some.inj ((show Tryd.prog.funcNamed "lotcaster/castlaw.HallPlays" = some 3 by kernel_rfl).symm.trans hf) |>.symm
      obtain rfl : fn = Tryd.f3 := (Option.some.inj (Tryd.func3.symm.trans hfn)).symm
      exact ⟨by kernel_rfl, fun j t ht => by
        rw [Tryd.params3] at ht
        have hm : t ∈ [22, 9] := by simpa using Array.mem_of_getElem? ht
        have hall : ([22, 9].all fun u => !Tryd.prog.wantsStandIn u) = true := by kernel_rfl
        exact (show Tryd.prog.wantsStandIn t = false by simpa using List.all_eq_true.1 hall t hm)⟩)
    (by kernel_rfl)
#print axioms proved
end Go.Proofs.YtaphdnpjpmnaeabDoor.hallPlays

/- castlaw.TopFew answers true for every input, and leaves its arguments as they were; without further conditions. -/
import Derived.Test.YtihmliblbhjlaaaFacts
import Derived.Test.YtihmliblbhjlaaaDenC
import Derived.Test.YtihmliblbhjlaaaEnv
import Derived.Test.YtihmliblbhjlaaaF10
import Derived.Test.YtihmliblbhjlaaaPtopFew
set_option linter.unusedVariables false
set_option linter.unusedSimpArgs false
namespace Go.Proofs.Ytihmliblbhjlaaa.topFew
open Go.ChangeShapes Go.WideShapes Go.ChangeAt Go.RowKit Go.Am


set_option maxRecDepth 100000 in
theorem lifted (os : Os) (started : os.Started) (H : Type) (enc : TypeId × Value → H) :
    ReturnsInHanded {} Try.checked os 10 .any (Rows.topFewSpec.pre6 enc Try.prog Try.f10 Rows.topFewRow.domain false) (Rows.topFewSpec.post enc Try.prog Try.f10 false true false false) := by
  refine returnsInHanded_of_change (C := Try.checked) Facts.own started (by kernel_rfl) Try.func10
    (ChangeSpec.witness6 (enc := enc) (C := Try.checked) false ⟨#[], #[.int .i64 0], []⟩ 8 (by kernel_rfl) (by kernel_rfl) (by kernel_rfl) (by kernel_rfl)) ?_
  intro W base args ds gs before hval hW hcnd _
  have hW' := hW
  obtain ⟨p, q, hA, hV, rfl, hfz, hnd⟩ := hW
  rw [Try.params10] at hA hval
  obtain ⟨v0, vs0, d0, ds0, p0, q0, hargs0, rfl, rfl, h0, r0⟩ := trodAll_cons hA
  obtain ⟨rfl, rfl, rfl⟩ := trodAll_nil r0
  obtain rfl : args = #[v0] := by cases args; simp_all
  obtain ⟨rfl, rfl⟩ := trodVars_none hV
  obtain ⟨z0, rfl⟩ := okWide_int Try.underlying3 (hval 0 3 v0 rfl rfl)
  obtain ⟨X0, x0, a0, le0, rel0, hR0, hV0⟩ := Rdr.arg (Rdr.int Try.underlying3) rfl h0 (Ab.nil W)
  obtain rfl : x0 = _ := by injection hR0
  obtain ⟨F, hF⟩ := PtopFew.holds a0 hV0
  refine (law_ret E.ok E.fns (X := X0) (vals := #[.int .i64 z0]) (F10_ok hF ) ⟨rel0, trivial⟩).mono fun e W' ⟨he, hb⟩ => ?_
  subst he
  exact ⟨_, rfl, law_post hW' hb rfl rfl rfl rfl Facts.laid (by kernel_rfl) (by rfl) Try.underlying4⟩

theorem named : Try.prog.funcNamed Rows.topFewRow.func = some 10 := by kernel_rfl
theorem c1 : (Rows.topFewRow.inPlace == Try.prog.inPlace 10) = true := by kernel_rfl
theorem c2 : (Rows.topFewRow.unfollowed == Try.prog.unfollowed 10) = true := by kernel_rfl
theorem c3 : (Rows.topFewRow.recurses == Try.prog.recurses 10) = true := by kernel_rfl
theorem c4 : (Rows.topFewRow.named == Try.prog.varsNamed 10) = true := by kernel_rfl
theorem c5 : (Rows.topFewRow.plainKeys == Try.prog.plainKeys) = true := by kernel_rfl
theorem c6 : (Rows.topFewRow.lifted == false) = true := rfl
theorem c7 : (some Make.cut == some Rows.topFewRow.make) = true := rfl
theorem closed : joinedFacts Try.prog 10 Try.f10 Rows.topFewSpec Rows.topFewRow = true := by
  unfold joinedFacts
  rw [c1, c2, c3, c4, c5, Facts.laid, Facts.mapsRowed, Facts.stops, Facts.stopKnobs, Facts.stopsHeard, Facts.mayEnter, Facts.liftsFinal, Facts.make, c6, c7]
  kernel_rfl
theorem over : Rows.topFewRow.holds Try.pinned (OpenSpec.ofChange Rows.topFewSpec) :=
  OpenClaim.holds_of_wide 10 Try.f10 rfl rfl rfl rfl rfl rfl rfl ⟨rfl, rfl, rfl, rfl, rfl⟩ rfl rfl rfl rfl rfl named Try.func10 closed
    (of_decide_eq_true (by kernel_rfl)) (by unfold Func.isWrapper; first | (rw [if_pos (by decide +kernel)]; kernel_rfl) | (rw [if_neg (by decide +kernel)]; exact ⟨rfl, rfl⟩))
    (fun os started H enc _ => lifted os started H enc)
theorem proved : Rows.TopFewSaid :=
  over
#print axioms proved
end Go.Proofs.Ytihmliblbhjlaaa.topFew

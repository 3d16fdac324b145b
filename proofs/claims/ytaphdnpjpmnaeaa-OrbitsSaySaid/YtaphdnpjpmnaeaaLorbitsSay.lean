/- castlaw.OrbitsSay answers true for every input, and leaves its arguments as they were; without further conditions. -/
import Derived.Test.YtaphdnpjpmnaeaaFacts
import Derived.Test.YtaphdnpjpmnaeaaDenC
import Derived.Test.YtaphdnpjpmnaeaaEnv
import Derived.Test.YtaphdnpjpmnaeaaG2
import Derived.Test.YtaphdnpjpmnaeaaPorbitsSay
set_option linter.unusedVariables false
set_option linter.unusedSimpArgs false
namespace Go.Proofs.Ytaphdnpjpmnaeaa.orbitsSay
open Go.ChangeShapes Go.WideShapes Go.ChangeAt Go.RowKit Go.Am


set_option maxRecDepth 100000 in
theorem lifted (os : Os) (started : os.Started) (H : Type) (enc : TypeId × Value → H) :
    ReturnsInHanded {} Try.checked os 3 .any (Rows.orbitsSaySpec.pre6 enc Try.prog Try.f3 Rows.orbitsSayRow.domain false) (Rows.orbitsSaySpec.post enc Try.prog Try.f3 false true false false) := by
  refine returnsInHanded_of_change (C := Try.checked) Facts.own started (by kernel_rfl) Try.func3
    (ChangeSpec.witness6 (enc := enc) (C := Try.checked) false ⟨#[], #[.int .i64 0, .slice none 0 0, .int .i64 0, .slice none 0 0], []⟩ 8 (by kernel_rfl) (by kernel_rfl) (by kernel_rfl) (by kernel_rfl)) ?_
  intro W base args ds gs before hval hW hcnd _
  have hW' := hW
  obtain ⟨p, q, hA, hV, rfl, hfz, hnd⟩ := hW
  rw [Try.params3] at hA hval
  obtain ⟨v0, vs0, d0, ds0, p0, q0, hargs0, rfl, rfl, h0, r0⟩ := trodAll_cons hA
  obtain ⟨v1, vs1, d1, ds1, p1, q1, hargs1, rfl, rfl, h1, r1⟩ := trodAll_cons r0
  obtain ⟨v2, vs2, d2, ds2, p2, q2, hargs2, rfl, rfl, h2, r2⟩ := trodAll_cons r1
  obtain ⟨v3, vs3, d3, ds3, p3, q3, hargs3, rfl, rfl, h3, r3⟩ := trodAll_cons r2
  obtain ⟨rfl, rfl, rfl⟩ := trodAll_nil r3
  subst hargs3
  subst hargs2
  subst hargs1
  obtain rfl : args = #[v0, v1, v2, v3] := by cases args; simp_all
  obtain ⟨rfl, rfl⟩ := trodVars_none hV
  obtain ⟨z0, rfl⟩ := okWide_int Try.underlying3 (hval 0 3 v0 rfl rfl)
  obtain ⟨X0, x0, a0, le0, rel0, hR0, hV0⟩ := Rdr.arg (Rdr.int Try.underlying3) rfl h0 (Ab.nil W)
  obtain rfl : x0 = _ := by injection hR0
  obtain ⟨z1, zl1, zc1, rfl⟩ := okWide_slice Try.underlying22 (hval 1 22 v1 rfl rfl)
  obtain ⟨X1, x1, a1, le1, rel1, hR1, hV1⟩ := Rdr.arg (Rdr.sl Try.underlying22 (by kernel_rfl) (by decide) (Rdr.sl Try.underlying23 (by kernel_rfl) (by decide) (Rdr.int Try.underlying3))) rfl h1 X0
  obtain ⟨w1, e1, hR1⟩ := hR1
  obtain rfl : x1 = w1 := by injection e1
  obtain ⟨z2, rfl⟩ := okWide_int Try.underlying3 (hval 2 3 v2 rfl rfl)
  obtain ⟨X2, x2, a2, le2, rel2, hR2, hV2⟩ := Rdr.arg (Rdr.int Try.underlying3) rfl h2 X1
  obtain rfl : x2 = _ := by injection hR2
  obtain ⟨z3, zl3, zc3, rfl⟩ := okWide_slice Try.underlying23 (hval 3 23 v3 rfl rfl)
  obtain ⟨X3, x3, a3, le3, rel3, hR3, hV3⟩ := Rdr.arg (Rdr.sl Try.underlying23 (by kernel_rfl) (by decide) (Rdr.int Try.underlying3)) rfl h3 X2
  obtain ⟨w3, e3, hR3⟩ := hR3
  obtain rfl : x3 = w3 := by injection e3
  have rel0 := AV.rel_ext ((le1.trans le2).trans le3).2.1 rel0
  have rel1 := AV.rel_ext (le2.trans le3).2.1 rel1
  have hR1 := RO.to hR1 (Ab.le.fr (le2.trans le3)) (Ab.le.fr (le2.trans le3))
  have rel2 := AV.rel_ext le3.2.1 rel2
  obtain ⟨F, hF⟩ := PorbitsSay.holds a0 a1 a2 a3 hV0 hV1 hV2 hV3
  refine (law_ret E.ok E.fns (X := X3) (vals := #[.int .i64 z0, .slice z1 zl1 zc1, .int .i64 z2, .slice z3 zl3 zc3]) (F3_ok hF hR1 hR3) ⟨rel0, rel1, rel2, rel3, trivial⟩).mono fun e W' ⟨he, hb⟩ => ?_
  subst he
  exact ⟨_, rfl, law_post hW' hb rfl rfl rfl rfl Facts.laid (by kernel_rfl) (by rfl) Try.underlying4⟩

theorem named : Try.prog.funcNamed Rows.orbitsSayRow.func = some 3 := by kernel_rfl
theorem c1 : (Rows.orbitsSayRow.inPlace == Try.prog.inPlace 3) = true := by kernel_rfl
theorem c2 : (Rows.orbitsSayRow.unfollowed == Try.prog.unfollowed 3) = true := by kernel_rfl
theorem c3 : (Rows.orbitsSayRow.recurses == Try.prog.recurses 3) = true := by kernel_rfl
theorem c4 : (Rows.orbitsSayRow.named == Try.prog.varsNamed 3) = true := by kernel_rfl
theorem c5 : (Rows.orbitsSayRow.plainKeys == Try.prog.plainKeys) = true := by kernel_rfl
theorem c6 : (Rows.orbitsSayRow.lifted == false) = true := rfl
theorem c7 : (some Make.cut == some Rows.orbitsSayRow.make) = true := rfl
theorem closed : joinedFacts Try.prog 3 Try.f3 Rows.orbitsSaySpec Rows.orbitsSayRow = true := by
  unfold joinedFacts
  rw [c1, c2, c3, c4, c5, Facts.laid, Facts.mapsRowed, Facts.stops, Facts.stopKnobs, Facts.stopsHeard, Facts.mayEnter, Facts.liftsFinal, Facts.make, c6, c7]
  kernel_rfl
theorem over : Rows.orbitsSayRow.holds Try.pinned (OpenSpec.ofChange Rows.orbitsSaySpec) :=
  OpenClaim.holds_of_wide 3 Try.f3 rfl rfl rfl rfl rfl rfl rfl ⟨rfl, rfl, rfl, rfl, rfl⟩ rfl rfl rfl rfl rfl named Try.func3 closed
    (of_decide_eq_true (by kernel_rfl)) (by unfold Func.isWrapper; first | (rw [if_pos (by decide +kernel)]; kernel_rfl) | (rw [if_neg (by decide +kernel)]; exact ⟨rfl, rfl⟩))
    (fun os started H enc _ => lifted os started H enc)
theorem proved : Rows.OrbitsSaySaid :=
  over
#print axioms proved
end Go.Proofs.Ytaphdnpjpmnaeaa.orbitsSay

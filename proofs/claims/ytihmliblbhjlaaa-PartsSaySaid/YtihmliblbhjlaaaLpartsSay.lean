/- castlaw.PartsSay answers true for every input, and leaves its arguments as they were; without further conditions. -/
import Derived.Test.YtihmliblbhjlaaaFacts
import Derived.Test.YtihmliblbhjlaaaDenC
import Derived.Test.YtihmliblbhjlaaaEnv
import Derived.Test.YtihmliblbhjlaaaG3
import Derived.Test.YtihmliblbhjlaaaPpartsSay
set_option linter.unusedVariables false
set_option linter.unusedSimpArgs false
namespace Go.Proofs.Ytihmliblbhjlaaa.partsSay
open Go.ChangeShapes Go.WideShapes Go.ChangeAt Go.RowKit Go.Am


set_option maxRecDepth 100000 in
theorem lifted (os : Os) (started : os.Started) (H : Type) (enc : TypeId × Value → H) :
    ReturnsInHanded {} Try.checked os 6 .any (Rows.partsSaySpec.pre6 enc Try.prog Try.f6 Rows.partsSayRow.domain false) (Rows.partsSaySpec.post enc Try.prog Try.f6 false true false false) := by
  refine returnsInHanded_of_change (C := Try.checked) Facts.own started (by kernel_rfl) Try.func6
    (ChangeSpec.witness6 (enc := enc) (C := Try.checked) false ⟨#[], #[.slice none 0 0, .int .i64 0, .int .i64 0], []⟩ 8 (by kernel_rfl) (by kernel_rfl) (by kernel_rfl) (by kernel_rfl)) ?_
  intro W base args ds gs before hval hW hcnd _
  have hW' := hW
  obtain ⟨p, q, hA, hV, rfl, hfz, hnd⟩ := hW
  rw [Try.params6] at hA hval
  obtain ⟨v0, vs0, d0, ds0, p0, q0, hargs0, rfl, rfl, h0, r0⟩ := trodAll_cons hA
  obtain ⟨v1, vs1, d1, ds1, p1, q1, hargs1, rfl, rfl, h1, r1⟩ := trodAll_cons r0
  obtain ⟨v2, vs2, d2, ds2, p2, q2, hargs2, rfl, rfl, h2, r2⟩ := trodAll_cons r1
  obtain ⟨rfl, rfl, rfl⟩ := trodAll_nil r2
  subst hargs2
  subst hargs1
  obtain rfl : args = #[v0, v1, v2] := by cases args; simp_all
  obtain ⟨rfl, rfl⟩ := trodVars_none hV
  obtain ⟨z0, zl0, zc0, rfl⟩ := okWide_slice Try.underlying22 (hval 0 22 v0 rfl rfl)
  obtain ⟨X0, x0, a0, le0, rel0, hR0, hV0⟩ := Rdr.arg (Rdr.sl Try.underlying22 (by kernel_rfl) (by decide) (Rdr.int Try.underlying3)) rfl h0 (Ab.nil W)
  obtain ⟨w0, e0, hR0⟩ := hR0
  obtain rfl : x0 = w0 := by injection e0
  obtain ⟨z1, rfl⟩ := okWide_int Try.underlying3 (hval 1 3 v1 rfl rfl)
  obtain ⟨X1, x1, a1, le1, rel1, hR1, hV1⟩ := Rdr.arg (Rdr.int Try.underlying3) rfl h1 X0
  obtain rfl : x1 = _ := by injection hR1
  obtain ⟨z2, rfl⟩ := okWide_int Try.underlying3 (hval 2 3 v2 rfl rfl)
  obtain ⟨X2, x2, a2, le2, rel2, hR2, hV2⟩ := Rdr.arg (Rdr.int Try.underlying3) rfl h2 X1
  obtain rfl : x2 = _ := by injection hR2
  have rel0 := AV.rel_ext (le1.trans le2).2.1 rel0
  have hR0 := RO.to hR0 (Ab.le.fr (le1.trans le2)) (Ab.le.fr (le1.trans le2))
  have rel1 := AV.rel_ext le2.2.1 rel1
  obtain ⟨F, hF⟩ := PpartsSay.holds a0 a1 a2 hV0 hV1 hV2
  refine (law_ret E.ok E.fns (X := X2) (vals := #[.slice z0 zl0 zc0, .int .i64 z1, .int .i64 z2]) (F6_ok hF hR0) ⟨rel0, rel1, rel2, trivial⟩).mono fun e W' ⟨he, hb⟩ => ?_
  subst he
  exact ⟨_, rfl, law_post hW' hb rfl rfl rfl rfl Facts.laid (by kernel_rfl) (by rfl) Try.underlying4⟩

theorem named : Try.prog.funcNamed Rows.partsSayRow.func = some 6 := by kernel_rfl
theorem c1 : (Rows.partsSayRow.inPlace == Try.prog.inPlace 6) = true := by kernel_rfl
theorem c2 : (Rows.partsSayRow.unfollowed == Try.prog.unfollowed 6) = true := by kernel_rfl
theorem c3 : (Rows.partsSayRow.recurses == Try.prog.recurses 6) = true := by kernel_rfl
theorem c4 : (Rows.partsSayRow.named == Try.prog.varsNamed 6) = true := by kernel_rfl
theorem c5 : (Rows.partsSayRow.plainKeys == Try.prog.plainKeys) = true := by kernel_rfl
theorem c6 : (Rows.partsSayRow.lifted == false) = true := rfl
theorem c7 : (some Make.cut == some Rows.partsSayRow.make) = true := rfl
theorem closed : joinedFacts Try.prog 6 Try.f6 Rows.partsSaySpec Rows.partsSayRow = true := by
  unfold joinedFacts
  rw [c1, c2, c3, c4, c5, Facts.laid, Facts.mapsRowed, Facts.stops, Facts.stopKnobs, Facts.stopsHeard, Facts.mayEnter, Facts.liftsFinal, Facts.make, c6, c7]
  kernel_rfl
theorem over : Rows.partsSayRow.holds Try.pinned (OpenSpec.ofChange Rows.partsSaySpec) :=
  OpenClaim.holds_of_wide 6 Try.f6 rfl rfl rfl rfl rfl rfl rfl ⟨rfl, rfl, rfl, rfl, rfl⟩ rfl rfl rfl rfl rfl named Try.func6 closed
    (of_decide_eq_true (by kernel_rfl)) (by unfold Func.isWrapper; first | (rw [if_pos (by decide +kernel)]; kernel_rfl) | (rw [if_neg (by decide +kernel)]; exact ⟨rfl, rfl⟩))
    (fun os started H enc _ => lifted os started H enc)
theorem proved : Rows.PartsSaySaid :=
  over
#print axioms proved
end Go.Proofs.Ytihmliblbhjlaaa.partsSay

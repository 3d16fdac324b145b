/- castlaw.OddsSay answers true for every input, and leaves its arguments as they were; without further conditions. -/
import Derived.Test.YtihmliblbhjlaaaFacts
import Derived.Test.YtihmliblbhjlaaaDenC
import Derived.Test.YtihmliblbhjlaaaEnv
import Derived.Test.YtihmliblbhjlaaaF3
import Derived.Test.YtihmliblbhjlaaaPoddsSay
set_option linter.unusedVariables false
set_option linter.unusedSimpArgs false
namespace Go.Proofs.Ytihmliblbhjlaaa.oddsSay
open Go.ChangeShapes Go.WideShapes Go.ChangeAt Go.RowKit Go.Am

theorem R24 : Rdr Try.prog 24 (Lay.prod (Lay.sl (Lay.one (SV.int .i64))) (Lay.sl (Lay.one (SV.int .i64)))) (fun a => ((a.1.length ≤ maxLen ∧ ∀ b ∈ a.1, inR .i64 b) ∧ (a.2.length ≤ maxLen ∧ ∀ b ∈ a.2, inR .i64 b))) :=
  Rdr.struct Try.underlying24 rfl (by kernel_rfl) (RdrF.cons rfl (by kernel_rfl) (Rdr.sl Try.underlying22 (by kernel_rfl) (by decide) (Rdr.int Try.underlying3)) (RdrF.one rfl (by kernel_rfl) (Rdr.sl Try.underlying22 (by kernel_rfl) (by decide) (Rdr.int Try.underlying3))))

set_option maxRecDepth 100000 in
theorem lifted (os : Os) (started : os.Started) (H : Type) (enc : TypeId × Value → H) :
    ReturnsInHanded {} Try.checked os 3 .any (Rows.oddsSaySpec.pre6 enc Try.prog Try.f3 Rows.oddsSayRow.domain false) (Rows.oddsSaySpec.post enc Try.prog Try.f3 false true false false) := by
  refine returnsInHanded_of_change (C := Try.checked) Facts.own started (by kernel_rfl) Try.func3
    (ChangeSpec.witness6 (enc := enc) (C := Try.checked) false ⟨#[], #[.agg #[.slice none 0 0, .slice none 0 0], .agg #[.slice none 0 0, .slice none 0 0], .int .i64 0], []⟩ 8 (by kernel_rfl) (by kernel_rfl) (by kernel_rfl) (by kernel_rfl)) ?_
  intro W base args ds gs before hval hW hcnd _
  have hW' := hW
  obtain ⟨p, q, hA, hV, rfl, hfz, hnd⟩ := hW
  rw [Try.params3] at hA hval
  obtain ⟨v0, vs0, d0, ds0, p0, q0, hargs0, rfl, rfl, h0, r0⟩ := trodAll_cons hA
  obtain ⟨v1, vs1, d1, ds1, p1, q1, hargs1, rfl, rfl, h1, r1⟩ := trodAll_cons r0
  obtain ⟨v2, vs2, d2, ds2, p2, q2, hargs2, rfl, rfl, h2, r2⟩ := trodAll_cons r1
  obtain ⟨rfl, rfl, rfl⟩ := trodAll_nil r2
  subst hargs2
  subst hargs1
  obtain rfl : args = #[v0, v1, v2] := by cases args; simp_all
  obtain ⟨rfl, rfl⟩ := trodVars_none hV
  obtain ⟨z0, rfl, _⟩ := okWide_struct Try.underlying24 (hval 0 24 v0 rfl rfl)
  obtain ⟨X0, l0, a0, le0, rel0, hR0, hV0⟩ := Rdr.argA R24 h0 (Ab.nil W)
  obtain ⟨z1, rfl, _⟩ := okWide_struct Try.underlying24 (hval 1 24 v1 rfl rfl)
  obtain ⟨X1, l1, a1, le1, rel1, hR1, hV1⟩ := Rdr.argA R24 h1 X0
  obtain ⟨z2, rfl⟩ := okWide_int Try.underlying3 (hval 2 3 v2 rfl rfl)
  obtain ⟨X2, x2, a2, le2, rel2, hR2, hV2⟩ := Rdr.arg (Rdr.int Try.underlying3) rfl h2 X1
  obtain rfl : x2 = _ := by injection hR2
  have rel0 := AV.rel_ext (le1.trans le2).2.1 rel0
  have hR0 := Lay.frame _ hR0 (Ab.le.fr (le1.trans le2))
  obtain ⟨_, _, rfl, ⟨wR0_0, rfl, hR0_0⟩, ⟨wR0_1, rfl, hR0_1⟩⟩ := hR0
  have rel1 := AV.rel_ext le2.2.1 rel1
  have hR1 := Lay.frame _ hR1 (Ab.le.fr le2)
  obtain ⟨_, _, rfl, ⟨wR1_0, rfl, hR1_0⟩, ⟨wR1_1, rfl, hR1_1⟩⟩ := hR1
  obtain ⟨F, hF⟩ := PoddsSay.holds a0 a1 a2 hV0 hV1 hV2
  refine (law_ret E.ok E.fns (X := X2) (vals := #[.agg z0, .agg z1, .int .i64 z2]) (F3_ok hF hR0_0 hR0_1 hR1_0 hR1_1) ⟨rel0, rel1, rel2, trivial⟩).mono fun e W' ⟨he, hb⟩ => ?_
  subst he
  exact ⟨_, rfl, law_post hW' hb rfl rfl rfl rfl Facts.laid (by kernel_rfl) (by rfl) Try.underlying4⟩

theorem named : Try.prog.funcNamed Rows.oddsSayRow.func = some 3 := by kernel_rfl
theorem c1 : (Rows.oddsSayRow.inPlace == Try.prog.inPlace 3) = true := by kernel_rfl
theorem c2 : (Rows.oddsSayRow.unfollowed == Try.prog.unfollowed 3) = true := by kernel_rfl
theorem c3 : (Rows.oddsSayRow.recurses == Try.prog.recurses 3) = true := by kernel_rfl
theorem c4 : (Rows.oddsSayRow.named == Try.prog.varsNamed 3) = true := by kernel_rfl
theorem c5 : (Rows.oddsSayRow.plainKeys == Try.prog.plainKeys) = true := by kernel_rfl
theorem c6 : (Rows.oddsSayRow.lifted == false) = true := rfl
theorem c7 : (some Make.cut == some Rows.oddsSayRow.make) = true := rfl
theorem closed : joinedFacts Try.prog 3 Try.f3 Rows.oddsSaySpec Rows.oddsSayRow = true := by
  unfold joinedFacts
  rw [c1, c2, c3, c4, c5, Facts.laid, Facts.mapsRowed, Facts.stops, Facts.stopKnobs, Facts.stopsHeard, Facts.mayEnter, Facts.liftsFinal, Facts.make, c6, c7]
  kernel_rfl
theorem over : Rows.oddsSayRow.holds Try.pinned (OpenSpec.ofChange Rows.oddsSaySpec) :=
  OpenClaim.holds_of_wide 3 Try.f3 rfl rfl rfl rfl rfl rfl rfl ⟨rfl, rfl, rfl, rfl, rfl⟩ rfl rfl rfl rfl rfl named Try.func3 closed
    (of_decide_eq_true (by kernel_rfl)) (by unfold Func.isWrapper; first | (rw [if_pos (by decide +kernel)]; kernel_rfl) | (rw [if_neg (by decide +kernel)]; exact ⟨rfl, rfl⟩))
    (fun os started H enc _ => lifted os started H enc)
theorem proved : Rows.OddsSaySaid :=
  over
#print axioms proved
end Go.Proofs.Ytihmliblbhjlaaa.oddsSay

/- castlaw.TopDraw answers true for every input, and leaves its arguments as they were; without further conditions. -/
import Derived.Test.YtihmliblbhjlaaaFacts
import Derived.Test.YtihmliblbhjlaaaDenC
import Derived.Test.YtihmliblbhjlaaaEnv
import Derived.Test.YtihmliblbhjlaaaG3
import Derived.Test.YtihmliblbhjlaaaPtopDraw
set_option linter.unusedVariables false
set_option linter.unusedSimpArgs false
namespace Go.Proofs.Ytihmliblbhjlaaa.topDraw
open Go.ChangeShapes Go.WideShapes Go.ChangeAt Go.RowKit Go.Am


set_option maxRecDepth 100000 in
theorem lifted (os : Os) (started : os.Started) (H : Type) (enc : TypeId × Value → H) :
    ReturnsInHanded {} Try.checked os 11 .any (Rows.topDrawSpec.pre6 enc Try.prog Try.f11 Rows.topDrawRow.domain false) (Rows.topDrawSpec.post enc Try.prog Try.f11 false true false false) := by
  refine returnsInHanded_of_change (C := Try.checked) Facts.own started (by kernel_rfl) Try.func11
    (ChangeSpec.witness6 (enc := enc) (C := Try.checked) false ⟨#[], #[.slice none 0 0, .slice none 0 0, .slice none 0 0], []⟩ 8 (by kernel_rfl) (by kernel_rfl) (by kernel_rfl) (by kernel_rfl)) ?_
  intro W base args ds gs before hval hW hcnd _
  have hW' := hW
  obtain ⟨p, q, hA, hV, rfl, hfz, hnd⟩ := hW
  rw [Try.params11] at hA hval
  obtain ⟨v0, vs0, d0, ds0, p0, q0, hargs0, rfl, rfl, h0, r0⟩ := trodAll_cons hA
  obtain ⟨v1, vs1, d1, ds1, p1, q1, hargs1, rfl, rfl, h1, r1⟩ := trodAll_cons r0
  obtain ⟨v2, vs2, d2, ds2, p2, q2, hargs2, rfl, rfl, h2, r2⟩ := trodAll_cons r1
  obtain ⟨rfl, rfl, rfl⟩ := trodAll_nil r2
  subst hargs2
  subst hargs1
  obtain rfl : args = #[v0, v1, v2] := by cases args; simp_all
  obtain ⟨rfl, rfl⟩ := trodVars_none hV
  obtain ⟨z0, zl0, zc0, rfl⟩ := okWide_slice Try.underlying102 (hval 0 102 v0 rfl rfl)
  obtain ⟨X0, x0, a0, le0, rel0, hR0, hV0⟩ := Rdr.arg (Rdr.sl Try.underlying102 (by kernel_rfl) (by decide) (Rdr.int Try.underlying5)) rfl h0 (Ab.nil W)
  obtain ⟨w0, e0, hR0⟩ := hR0
  obtain rfl : x0 = w0 := by injection e0
  obtain ⟨z1, zl1, zc1, rfl⟩ := okWide_slice Try.underlying22 (hval 1 22 v1 rfl rfl)
  obtain ⟨X1, x1, a1, le1, rel1, hR1, hV1⟩ := Rdr.arg (Rdr.sl Try.underlying22 (by kernel_rfl) (by decide) (Rdr.int Try.underlying3)) rfl h1 X0
  obtain ⟨w1, e1, hR1⟩ := hR1
  obtain rfl : x1 = w1 := by injection e1
  obtain ⟨z2, zl2, zc2, rfl⟩ := okWide_slice Try.underlying78 (hval 2 78 v2 rfl rfl)
  obtain ⟨X2, x2, a2, le2, rel2, hR2, hV2⟩ := Rdr.arg (Rdr.sl Try.underlying78 (by kernel_rfl) (by decide) (Rdr.str Try.underlying9)) rfl h2 X1
  obtain ⟨w2, e2, hR2⟩ := hR2
  obtain rfl : x2 = w2 := by injection e2
  have rel0 := AV.rel_ext (le1.trans le2).2.1 rel0
  have hR0 := RO.to hR0 (Ab.le.fr (le1.trans le2)) (Ab.le.fr (le1.trans le2))
  have rel1 := AV.rel_ext le2.2.1 rel1
  have hR1 := RO.to hR1 (Ab.le.fr le2) (Ab.le.fr le2)
  obtain ⟨F, hF⟩ := PtopDraw.holds a0 a1 a2 hV0 hV1 hV2
  refine (law_ret E.ok E.fns (X := X2) (vals := #[.slice z0 zl0 zc0, .slice z1 zl1 zc1, .slice z2 zl2 zc2]) (F11_ok hF hR0 hR1 hR2) ⟨rel0, rel1, rel2, trivial⟩).mono fun e W' ⟨he, hb⟩ => ?_
  subst he
  exact ⟨_, rfl, law_post hW' hb rfl rfl rfl rfl Facts.laid (by kernel_rfl) (by rfl) Try.underlying4⟩

theorem named : Try.prog.funcNamed Rows.topDrawRow.func = some 11 := by kernel_rfl
theorem c1 : (Rows.topDrawRow.inPlace == Try.prog.inPlace 11) = true := by kernel_rfl
theorem c2 : (Rows.topDrawRow.unfollowed == Try.prog.unfollowed 11) = true := by kernel_rfl
theorem c3 : (Rows.topDrawRow.recurses == Try.prog.recurses 11) = true := by kernel_rfl
theorem c4 : (Rows.topDrawRow.named == Try.prog.varsNamed 11) = true := by kernel_rfl
theorem c5 : (Rows.topDrawRow.plainKeys == Try.prog.plainKeys) = true := by kernel_rfl
theorem c6 : (Rows.topDrawRow.lifted == false) = true := rfl
theorem c7 : (some Make.cut == some Rows.topDrawRow.make) = true := rfl
theorem closed : joinedFacts Try.prog 11 Try.f11 Rows.topDrawSpec Rows.topDrawRow = true := by
  unfold joinedFacts
  rw [c1, c2, c3, c4, c5, Facts.laid, Facts.mapsRowed, Facts.stops, Facts.stopKnobs, Facts.stopsHeard, Facts.mayEnter, Facts.liftsFinal, Facts.make, c6, c7]
  kernel_rfl
theorem over : Rows.topDrawRow.holds Try.pinned (OpenSpec.ofChange Rows.topDrawSpec) :=
  OpenClaim.holds_of_wide 11 Try.f11 rfl rfl rfl rfl rfl rfl rfl ⟨rfl, rfl, rfl, rfl, rfl⟩ rfl rfl rfl rfl rfl named Try.func11 closed
    (of_decide_eq_true (by kernel_rfl)) (by unfold Func.isWrapper; first | (rw [if_pos (by decide +kernel)]; kernel_rfl) | (rw [if_neg (by decide +kernel)]; exact ⟨rfl, rfl⟩))
    (fun os started H enc _ => lifted os started H enc)
theorem proved : Rows.TopDrawSaid :=
  over
#print axioms proved
end Go.Proofs.Ytihmliblbhjlaaa.topDraw

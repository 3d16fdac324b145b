/- castlaw.TopChain answers true for every input, and leaves its arguments as they were; without further conditions. -/
import Derived.Test.YtdfalejlhkalhaaFacts
import Derived.Test.YtdfalejlhkalhaaDenC
import Derived.Test.YtdfalejlhkalhaaEnv
import Derived.Test.YtdfalejlhkalhaaF7
import Derived.Test.YtdfalejlhkalhaaPtopChain
set_option linter.unusedVariables false
set_option linter.unusedSimpArgs false
namespace Go.Proofs.Ytdfalejlhkalhaa.topChain
open Go.ChangeShapes Go.WideShapes Go.ChangeAt Go.RowKit Go.Am


set_option maxRecDepth 100000 in
theorem lifted (os : Os) (started : os.Started) (H : Type) (enc : TypeId × Value → H) :
    ReturnsInHanded {} Try.checked os 7 .any (Rows.topChainSpec.pre6 enc Try.prog Try.f7 Rows.topChainRow.domain false) (Rows.topChainSpec.post enc Try.prog Try.f7 false true false false) := by
  refine returnsInHanded_of_change (C := Try.checked) Facts.own started (by kernel_rfl) Try.func7
    (ChangeSpec.witness6 (enc := enc) (C := Try.checked) false ⟨#[], #[.int .i64 0, .int .i64 0, .int .i64 0], []⟩ 8 (by kernel_rfl) (by kernel_rfl) (by kernel_rfl) (by kernel_rfl)) ?_
  intro W base args ds gs before hval hW hcnd _
  have hW' := hW
  obtain ⟨p, q, hA, hV, rfl, hfz, hnd⟩ := hW
  rw [Try.params7] at hA hval
  obtain ⟨v0, vs0, d0, ds0, p0, q0, hargs0, rfl, rfl, h0, r0⟩ := trodAll_cons hA
  obtain ⟨v1, vs1, d1, ds1, p1, q1, hargs1, rfl, rfl, h1, r1⟩ := trodAll_cons r0
  obtain ⟨v2, vs2, d2, ds2, p2, q2, hargs2, rfl, rfl, h2, r2⟩ := trodAll_cons r1
  obtain ⟨rfl, rfl, rfl⟩ := trodAll_nil r2
  subst hargs2
  subst hargs1
  obtain rfl : args = #[v0, v1, v2] := by cases args; simp_all
  obtain ⟨rfl, rfl⟩ := trodVars_none hV
  obtain ⟨z0, rfl⟩ := okWide_int Try.underlying3 (hval 0 3 v0 rfl rfl)
  obtain ⟨X0, x0, a0, le0, rel0, hR0, hV0⟩ := Rdr.arg (Rdr.int Try.underlying3) rfl h0 (Ab.nil W)
  obtain rfl : x0 = _ := by injection hR0
  obtain ⟨z1, rfl⟩ := okWide_int Try.underlying3 (hval 1 3 v1 rfl rfl)
  obtain ⟨X1, x1, a1, le1, rel1, hR1, hV1⟩ := Rdr.arg (Rdr.int Try.underlying3) rfl h1 X0
  obtain rfl : x1 = _ := by injection hR1
  obtain ⟨z2, rfl⟩ := okWide_int Try.underlying3 (hval 2 3 v2 rfl rfl)
  obtain ⟨X2, x2, a2, le2, rel2, hR2, hV2⟩ := Rdr.arg (Rdr.int Try.underlying3) rfl h2 X1
  obtain rfl : x2 = _ := by injection hR2
  have rel0 := AV.rel_ext (le1.trans le2).2.1 rel0
  have rel1 := AV.rel_ext le2.2.1 rel1
  obtain ⟨F, hF⟩ := PtopChain.holds a0 a1 a2 hV0 hV1 hV2
  refine (law_ret E.ok E.fns (X := X2) (vals := #[.int .i64 z0, .int .i64 z1, .int .i64 z2]) (F7_ok hF ) ⟨rel0, rel1, rel2, trivial⟩).mono fun e W' ⟨he, hb⟩ => ?_
  subst he
  exact ⟨_, rfl, law_post hW' hb rfl rfl rfl rfl Facts.laid (by kernel_rfl) (by rfl) Try.underlying4⟩

theorem named : Try.prog.funcNamed Rows.topChainRow.func = some 7 := by kernel_rfl
theorem c1 : (Rows.topChainRow.inPlace == Try.prog.inPlace 7) = true := by kernel_rfl
theorem c2 : (Rows.topChainRow.unfollowed == Try.prog.unfollowed 7) = true := by kernel_rfl
theorem c3 : (Rows.topChainRow.recurses == Try.prog.recurses 7) = true := by kernel_rfl
theorem c4 : (Rows.topChainRow.named == Try.prog.varsNamed 7) = true := by kernel_rfl
theorem c5 : (Rows.topChainRow.plainKeys == Try.prog.plainKeys) = true := by kernel_rfl
theorem c6 : (Rows.topChainRow.lifted == false) = true := rfl
theorem c7 : (some Make.cut == some Rows.topChainRow.make) = true := rfl
theorem closed : joinedFacts Try.prog 7 Try.f7 Rows.topChainSpec Rows.topChainRow = true := by
  unfold joinedFacts
  rw [c1, c2, c3, c4, c5, Facts.laid, Facts.mapsRowed, Facts.stops, Facts.stopKnobs, Facts.stopsHeard, Facts.mayEnter, Facts.liftsFinal, Facts.make, c6, c7]
  kernel_rfl
theorem over : Rows.topChainRow.holds Try.pinned (OpenSpec.ofChange Rows.topChainSpec) :=
  OpenClaim.holds_of_wide 7 Try.f7 rfl rfl rfl rfl rfl rfl rfl ⟨rfl, rfl, rfl, rfl, rfl⟩ rfl rfl rfl rfl rfl named Try.func7 closed
    (of_decide_eq_true (by kernel_rfl)) (by unfold Func.isWrapper; first | (rw [if_pos (by decide +kernel)]; kernel_rfl) | (rw [if_neg (by decide +kernel)]; exact ⟨rfl, rfl⟩))
    (fun os started H enc _ => lifted os started H enc)
theorem proved : Rows.TopChainSaid :=
  over
#print axioms proved
end Go.Proofs.Ytdfalejlhkalhaa.topChain

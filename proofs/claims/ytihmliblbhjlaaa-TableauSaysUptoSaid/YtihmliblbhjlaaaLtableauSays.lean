/- castlaw.TableauSays answers true for every input whose bulk is at most 1048576, and leaves its arguments as they were. -/
import Derived.Test.YtihmliblbhjlaaaFacts
import Derived.Test.YtihmliblbhjlaaaDenC
import Derived.Test.YtihmliblbhjlaaaEnv
import Derived.Test.YtihmliblbhjlaaaF5
import Derived.Test.YtihmliblbhjlaaaPtableauSays
import Derived.Test.YtihmliblbhjlaaaBulkU
import Derived.JoinedCond
set_option linter.unusedVariables false
set_option linter.unusedSimpArgs false
namespace Go.Proofs.Ytihmliblbhjlaaa.tableauSays
open Go.ChangeShapes Go.WideShapes Go.ChangeAt Go.RowKit Go.Am

theorem R50 : Rdr Try.prog 50 (Lay.prod (Lay.sl (Lay.sl (Lay.one (SV.int .i64)))) (Lay.sl (Lay.sl (Lay.one (SV.int .i64))))) (fun a => ((a.1.length ≤ maxLen ∧ ∀ b ∈ a.1, (b.length ≤ maxLen ∧ ∀ c ∈ b, inR .i64 c)) ∧ (a.2.length ≤ maxLen ∧ ∀ b ∈ a.2, (b.length ≤ maxLen ∧ ∀ c ∈ b, inR .i64 c)))) :=
  Rdr.struct Try.underlying50 rfl (by kernel_rfl) (RdrF.cons rfl (by kernel_rfl) (Rdr.sl Try.underlying48 (by kernel_rfl) (by decide) (Rdr.sl Try.underlying22 (by kernel_rfl) (by decide) (Rdr.int Try.underlying3))) (RdrF.one rfl (by kernel_rfl) (Rdr.sl Try.underlying48 (by kernel_rfl) (by decide) (Rdr.sl Try.underlying22 (by kernel_rfl) (by decide) (Rdr.int Try.underlying3)))))
theorem U50 : RdrU Try.prog 50 (Lay.prod (Lay.sl (Lay.sl (Lay.one (SV.int .i64)))) (Lay.sl (Lay.sl (Lay.one (SV.int .i64))))) (fun a => ((a.1.length ≤ maxLen ∧ ∀ b ∈ a.1, (b.length ≤ maxLen ∧ ∀ c ∈ b, inR .i64 c)) ∧ (a.2.length ≤ maxLen ∧ ∀ b ∈ a.2, (b.length ≤ maxLen ∧ ∀ c ∈ b, inR .i64 c)))) (fun a => (((a.1.map fun x0 => ((x0.map fun x1 => 1).sum + 1)).sum + 1) + ((a.2.map fun x0 => ((x0.map fun x1 => 1).sum + 1)).sum + 1))) :=
  RdrU.struct Try.underlying50 rfl (by kernel_rfl) (RdrFU.cons rfl (by kernel_rfl) (RdrU.sl Try.underlying48 (by kernel_rfl) (by decide) (RdrU.sl Try.underlying22 (by kernel_rfl) (by decide) (Rdr.bulk (Rdr.int Try.underlying3)))) (RdrFU.one rfl (by kernel_rfl) (RdrU.sl Try.underlying48 (by kernel_rfl) (by decide) (RdrU.sl Try.underlying22 (by kernel_rfl) (by decide) (Rdr.bulk (Rdr.int Try.underlying3))))))

set_option maxRecDepth 100000 in
theorem lifted (os : Os) (started : os.Started) (H : Type) (enc : TypeId × Value → H) (F : Stop.Interp) :
    ReturnsInHanded {} Try.checked os 5 .any ((Rows.OpenSpec.upto Rows.tableauSaysSpec).pre6 enc Try.prog Try.f5 Rows.tableauSaysUptoRow.domain false) (((Rows.OpenSpec.upto Rows.tableauSaysSpec).at F).post enc Try.prog Try.f5 false true false false) := by
  refine returnsInHanded_of_cond (C := Try.checked) (s := Rows.OpenSpec.upto Rows.tableauSaysSpec) (k := Rows.uptoSmall) rfl Facts.own started (by kernel_rfl) Try.func5
    (OpenSpec.witness (enc := enc) (C := Try.checked) (s := Rows.OpenSpec.upto Rows.tableauSaysSpec) (k := Rows.uptoSmall) rfl false ⟨#[], #[.slice none 0 0, .agg #[.slice none 0 0, .slice none 0 0]], []⟩ 8 (by kernel_rfl) (by kernel_rfl) (by kernel_rfl)
      (x := ([.nil, .agg [.nil, .nil]], [], [])) (by kernel_rfl) rfl (by kernel_rfl)) ?_
  intro W base args ds gs before hval hW hcnd hk _
  have hW' := hW
  obtain ⟨p, q, hA, hV, rfl, hfz, hnd⟩ := hW
  rw [Try.params5] at hA hval
  obtain ⟨v0, vs0, d0, ds0, p0, q0, hargs0, rfl, rfl, h0, r0⟩ := trodAll_cons hA
  obtain ⟨v1, vs1, d1, ds1, p1, q1, hargs1, rfl, rfl, h1, r1⟩ := trodAll_cons r0
  obtain ⟨rfl, rfl, rfl⟩ := trodAll_nil r1
  subst hargs1
  obtain rfl : args = #[v0, v1] := by cases args; simp_all
  obtain ⟨rfl, rfl⟩ := trodVars_none hV
  obtain ⟨z0, zl0, zc0, rfl⟩ := okWide_slice Try.underlying22 (hval 0 22 v0 rfl rfl)
  obtain ⟨X0, x0, a0, le0, rel0, hR0, hV0, hU0⟩ := RdrU.arg (RdrU.sl Try.underlying22 (by kernel_rfl) (by decide) (Rdr.bulk (Rdr.int Try.underlying3))) rfl h0 (Ab.nil W)
  obtain ⟨w0, e0, hR0⟩ := hR0
  obtain rfl : x0 = w0 := by injection e0
  obtain ⟨z1, rfl, _⟩ := okWide_struct Try.underlying50 (hval 1 50 v1 rfl rfl)
  obtain ⟨X1, l1, a1, le1, rel1, hR1, hV1, hU1⟩ := RdrU.argA U50 h1 X0
  have rel0 := AV.rel_ext le1.2.1 rel0
  have hR0 := RO.to hR0 (Ab.le.fr le1) (Ab.le.fr le1)
  obtain ⟨_, _, rfl, ⟨wR1_0, rfl, hR1_0⟩, ⟨wR1_1, rfl, hR1_1⟩⟩ := hR1
  have hB : Rows.uptoBulkAll [d0, d1] ≤ 1048576 := of_decide_eq_true hk
  simp only [Rows.uptoBulkAll] at hB
  have hB : ((a0.map fun x0 => 1).sum + 1) + ((((a1.1.map fun x0 => ((x0.map fun x1 => 1).sum + 1)).sum + 1) + ((a1.2.map fun x0 => ((x0.map fun x1 => 1).sum + 1)).sum + 1)) + (0)) ≤ 1048576 := by omega
  obtain ⟨F, hF⟩ := PtableauSays.holds a0 a1 hV0 hV1 hB
  refine (law_ret E.ok E.fns (X := X1) (vals := #[.slice z0 zl0 zc0, .agg z1]) (F5_ok hF hR0 hR1_0 hR1_1) ⟨rel0, rel1, trivial⟩).mono fun e W' ⟨he, hb⟩ => ?_
  subst he
  exact ⟨_, rfl, law_post hW' hb rfl rfl rfl rfl Facts.laid (by kernel_rfl) (by rfl) Try.underlying4⟩

theorem named : Try.prog.funcNamed Rows.tableauSaysUptoRow.func = some 5 := by kernel_rfl
theorem c1 : (Rows.tableauSaysUptoRow.inPlace == Try.prog.inPlace 5) = true := by kernel_rfl
theorem c2 : (Rows.tableauSaysUptoRow.unfollowed == Try.prog.unfollowed 5) = true := by kernel_rfl
theorem c3 : (Rows.tableauSaysUptoRow.recurses == Try.prog.recurses 5) = true := by kernel_rfl
theorem c4 : (Rows.tableauSaysUptoRow.named == Try.prog.varsNamed 5) = true := by kernel_rfl
theorem c5 : (Rows.tableauSaysUptoRow.plainKeys == Try.prog.plainKeys) = true := by kernel_rfl
theorem c6 : (Rows.tableauSaysUptoRow.lifted == false) = true := rfl
theorem c7 : (some Make.cut == some Rows.tableauSaysUptoRow.make) = true := rfl
theorem closed : joinedFacts Try.prog 5 Try.f5 (Rows.OpenSpec.upto Rows.tableauSaysSpec).bare Rows.tableauSaysUptoRow = true := by
  unfold joinedFacts
  rw [c1, c2, c3, c4, c5, Facts.laid, Facts.mapsRowed, Facts.stops, Facts.stopKnobs, Facts.stopsHeard, Facts.mayEnter, Facts.liftsFinal, Facts.make, c6, c7]
  kernel_rfl
theorem over : Rows.tableauSaysUptoRow.holds Try.pinned (Rows.OpenSpec.upto Rows.tableauSaysSpec) :=
  OpenClaim.holds_of_cond 5 Try.f5 rfl rfl rfl rfl rfl rfl rfl ⟨rfl, rfl, rfl, rfl, rfl⟩ rfl rfl rfl rfl rfl named Try.func5 closed
    (of_decide_eq_true (by kernel_rfl)) (by unfold Func.isWrapper; first | (rw [if_pos (by decide +kernel)]; kernel_rfl) | (rw [if_neg (by decide +kernel)]; exact ⟨rfl, rfl⟩))
    (fun os started H enc _ F => lifted os started H enc F)
theorem proved : Rows.TableauSaysUptoSaid :=
  over
#print axioms proved
end Go.Proofs.Ytihmliblbhjlaaa.tableauSays

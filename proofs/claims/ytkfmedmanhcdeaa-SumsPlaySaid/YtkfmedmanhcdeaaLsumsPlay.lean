/- castlaw.SumsPlay answers true for every input, and leaves its arguments as they were; without further conditions. -/
import Derived.Test.YtkfmedmanhcdeaaFacts
import Derived.Test.YtkfmedmanhcdeaaDenC
import Derived.Test.YtkfmedmanhcdeaaEnv
import Derived.Test.YtkfmedmanhcdeaaF5
import Derived.Test.YtkfmedmanhcdeaaPsumsPlay
set_option linter.unusedVariables false
set_option linter.unusedSimpArgs false
namespace Go.Proofs.Ytkfmedmanhcdeaa.sumsPlay
open Go.ChangeShapes Go.WideShapes Go.ChangeAt Go.RowKit Go.Am

def fldOf (e o : Nat) : Field := { (default : Field) with type := e, offset := o }
theorem Rdr.arr {P : Program} {t e n : Nat} {α : Type} {A : Lay α} {V : α → Prop} {l : List Field} (ht : P.underlying t = some (.array n e)) (hl : l.length = n) (hf : ∀ i f, l[i]? = some f → f.type = e ∧ f.offset = i * P.cellsOf e) (hs : P.cellsOf t = A.sz) (h : RdrF P l 0 A V) : Rdr P t A V := by
  intro H enc W fuel cs x hx X
  obtain ⟨xs, m, _, _, h1, h2, h3⟩ := DataW.trod_array ht hx
  obtain ⟨Y, l', a, k1, k2, k3, k4⟩ := h enc W m cs xs (fun i f hi => by
    obtain ⟨e1, e2⟩ := hf i f hi
    rw [e1, e2]; exact h3 i (by rw [← hl]; exact (List.getElem?_eq_some_iff.1 hi).1)) (by rw [h2, hl]) (by omega) X
  exact ⟨Y, l', a, k1, by simpa using k2, k3, k4⟩
theorem R40 : Rdr Try.prog 40 Y40 (fun a => (inR .i64 a.1 ∧ inR .i64 a.2)) := by
  have hc : Try.prog.cellsOf 3 = 1 := by kernel_rfl
  have hf : ∀ i f, ([fldOf 3 0, fldOf 3 1] : List Field)[i]? = some f → f.type = 3 ∧ f.offset = i * Try.prog.cellsOf 3 := by
    intro i f hi
    rw [hc]
    match i, hi with
    | 0, hi => cases hi; exact ⟨rfl, rfl⟩
    | 1, hi => cases hi; exact ⟨rfl, rfl⟩
    | (i + 2), hi => simp at hi
  have hR : Rdr Try.prog 40 _ _ := Rdr.arr Try.underlying40 rfl hf (by kernel_rfl) (RdrF.cons rfl (by kernel_rfl) (Rdr.int Try.underlying3) (RdrF.one rfl (by kernel_rfl) (Rdr.int Try.underlying3)))
  intro H enc W fuel cs x hx X
  obtain ⟨Y, l, a, h1, h2, h3, h4⟩ := hR enc W fuel cs x hx X
  refine ⟨Y, l, a, h1, h2, ?_, h4⟩
  obtain ⟨_, _, rfl, rfl, rfl⟩ := h3
  rfl

set_option maxRecDepth 100000 in
theorem lifted (os : Os) (started : os.Started) (H : Type) (enc : TypeId × Value → H) :
    ReturnsInHanded {} Try.checked os 5 .any (Rows.sumsPlaySpec.pre6 enc Try.prog Try.f5 Rows.sumsPlayRow.domain false) (Rows.sumsPlaySpec.post enc Try.prog Try.f5 false true false false) := by
  refine returnsInHanded_of_change (C := Try.checked) Facts.own started (by kernel_rfl) Try.func5
    (ChangeSpec.witness6 (enc := enc) (C := Try.checked) false ⟨#[], #[.int .i64 0, .slice none 0 0], []⟩ 8 (by kernel_rfl) (by kernel_rfl) (by kernel_rfl) (by kernel_rfl)) ?_
  intro W base args ds gs before hval hW hcnd _
  have hW' := hW
  obtain ⟨p, q, hA, hV, rfl, hfz, hnd⟩ := hW
  rw [Try.params5] at hA hval
  obtain ⟨v0, vs0, d0, ds0, p0, q0, hargs0, rfl, rfl, h0, r0⟩ := trodAll_cons hA
  obtain ⟨v1, vs1, d1, ds1, p1, q1, hargs1, rfl, rfl, h1, r1⟩ := trodAll_cons r0
  obtain ⟨rfl, rfl, rfl⟩ := trodAll_nil r1
  subst hargs1
  obtain rfl : args = #[v0, v1] := by cases args; simp_all
  obtain ⟨rfl, rfl⟩ := trodVars_none hV
  obtain ⟨z0, rfl⟩ := okWide_int Try.underlying3 (hval 0 3 v0 rfl rfl)
  obtain ⟨X0, x0, a0, le0, rel0, hR0, hV0⟩ := Rdr.arg (Rdr.int Try.underlying3) rfl h0 (Ab.nil W)
  obtain rfl : x0 = _ := by injection hR0
  obtain ⟨z1, zl1, zc1, rfl⟩ := okWide_slice Try.underlying36 (hval 1 36 v1 rfl rfl)
  obtain ⟨X1, x1, a1, le1, rel1, hR1, hV1⟩ := Rdr.arg (Rdr.sl Try.underlying36 (by kernel_rfl) (by decide) R40) rfl h1 X0
  obtain ⟨w1, e1, hR1⟩ := hR1
  obtain rfl : x1 = w1 := by injection e1
  have rel0 := AV.rel_ext le1.2.1 rel0
  obtain ⟨F, hF⟩ := PsumsPlay.holds a0 a1 hV0 hV1
  refine (law_ret E.ok E.fns (X := X1) (vals := #[.int .i64 z0, .slice z1 zl1 zc1]) (F5_ok hF hR1) ⟨rel0, rel1, trivial⟩).mono fun e W' ⟨he, hb⟩ => ?_
  subst he
  exact ⟨_, rfl, law_post hW' hb rfl rfl rfl rfl Facts.laid (by kernel_rfl) (by rfl) Try.underlying4⟩

theorem named : Try.prog.funcNamed Rows.sumsPlayRow.func = some 5 := by kernel_rfl
theorem c1 : (Rows.sumsPlayRow.inPlace == Try.prog.inPlace 5) = true := by kernel_rfl
theorem c2 : (Rows.sumsPlayRow.unfollowed == Try.prog.unfollowed 5) = true := by kernel_rfl
theorem c3 : (Rows.sumsPlayRow.recurses == Try.prog.recurses 5) = true := by kernel_rfl
theorem c4 : (Rows.sumsPlayRow.named == Try.prog.varsNamed 5) = true := by kernel_rfl
theorem c5 : (Rows.sumsPlayRow.plainKeys == Try.prog.plainKeys) = true := by kernel_rfl
theorem c6 : (Rows.sumsPlayRow.lifted == false) = true := rfl
theorem c7 : (some Make.cut == some Rows.sumsPlayRow.make) = true := rfl
theorem closed : joinedFacts Try.prog 5 Try.f5 Rows.sumsPlaySpec Rows.sumsPlayRow = true := by
  unfold joinedFacts
  rw [c1, c2, c3, c4, c5, Facts.laid, Facts.mapsRowed, Facts.stops, Facts.stopKnobs, Facts.stopsHeard, Facts.mayEnter, Facts.liftsFinal, Facts.make, c6, c7]
  kernel_rfl
theorem over : Rows.sumsPlayRow.holds Try.pinned (OpenSpec.ofChange Rows.sumsPlaySpec) :=
  OpenClaim.holds_of_wide 5 Try.f5 rfl rfl rfl rfl rfl rfl rfl ⟨rfl, rfl, rfl, rfl, rfl⟩ rfl rfl rfl rfl rfl named Try.func5 closed
    (of_decide_eq_true (by kernel_rfl)) (by unfold Func.isWrapper; first | (rw [if_pos (by decide +kernel)]; kernel_rfl) | (rw [if_neg (by decide +kernel)]; exact ⟨rfl, rfl⟩))
    (fun os started H enc _ => lifted os started H enc)
theorem proved : Rows.SumsPlaySaid :=
  over
#print axioms proved
end Go.Proofs.Ytkfmedmanhcdeaa.sumsPlay

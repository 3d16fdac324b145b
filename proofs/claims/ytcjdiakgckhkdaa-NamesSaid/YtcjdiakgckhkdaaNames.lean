/- castlaw.Names answers true, whatever the world (it takes no argument); without further conditions. -/
import Derived.Test.YtcjdiakgckhkdaaFacts
import Derived.Test.YtcjdiakgckhkdaaEnv
namespace Go.Proofs.Ytcjdiakgckhkdaa.names
open Go.ChangeShapes Go.WideShapes Go.ChangeAt Go.RowKit Go.Am

def okT : Out → Bool
  | some (.sc (.bool b), _, _) => b
  | _ => false

theorem okT_some {o : Out} (h : okT o = true) : ∃ m n, o = some (.sc (.bool true), m, n) := by
  unfold okT at h
  split at h
  · subst h; exact ⟨_, _, rfl⟩
  · cases h

theorem runs : okT (callF E 1000 0 3 [] .nil 0) = true := by kernel_rfl

set_option maxRecDepth 100000 in
theorem lifted (os : Os) (started : os.Started) (H : Type) (enc : TypeId × Value → H) :
    ReturnsInHanded {} Try.checked os 3 .any (Rows.namesSpec.pre6 enc Try.prog Try.f3 Rows.namesRow.domain false) (Rows.namesSpec.post enc Try.prog Try.f3 false true false false) := by
  refine returnsInHanded_of_change (C := Try.checked) Facts.own started (by kernel_rfl) Try.func3
    (ChangeSpec.witness6 (enc := enc) (C := Try.checked) false ⟨#[], #[], []⟩ 8 (by kernel_rfl) (by kernel_rfl) (by kernel_rfl) (by kernel_rfl)) ?_
  intro W base args ds gs before hval0 hW hcnd _
  have hW' := hW
  obtain ⟨p, q, hA, hV, rfl, hfz, hnd⟩ := hW
  rw [Try.params3] at hA
  obtain ⟨ha, rfl, rfl⟩ := trodAll_none hA
  obtain rfl : args = #[] := by cases args; simp_all
  obtain ⟨rfl, rfl⟩ := trodVars_none hV
  obtain ⟨m, n, hr⟩ := okT_some runs
  refine (law_calls E.ok E.fns hr (W := W) (ρ := fun _ => none) (vals := #[]) (MemRel.init (fun i l h => by simp [Tr.get] at h)) trivial (fun _ _ => rfl)).mono fun e W' ⟨he, hb⟩ => ?_
  subst he
  exact ⟨_, rfl, law_post hW' hb rfl rfl rfl rfl Facts.laid (by kernel_rfl) (by rfl) Try.underlying4⟩

theorem named : Try.prog.funcNamed Rows.namesRow.func = some 3 := by kernel_rfl
theorem c1 : (Rows.namesRow.inPlace == Try.prog.inPlace 3) = true := by kernel_rfl
theorem c2 : (Rows.namesRow.unfollowed == Try.prog.unfollowed 3) = true := by kernel_rfl
theorem c3 : (Rows.namesRow.recurses == Try.prog.recurses 3) = true := by kernel_rfl
theorem c4 : (Rows.namesRow.named == Try.prog.varsNamed 3) = true := by kernel_rfl
theorem c5 : (Rows.namesRow.plainKeys == Try.prog.plainKeys) = true := by kernel_rfl
theorem c6 : (Rows.namesRow.lifted == false) = true := rfl
theorem c7 : (some Make.cut == some Rows.namesRow.make) = true := rfl
theorem closed : joinedFacts Try.prog 3 Try.f3 Rows.namesSpec Rows.namesRow = true := by
  unfold joinedFacts
  rw [c1, c2, c3, c4, c5, Facts.laid, Facts.mapsRowed, Facts.stops, Facts.stopKnobs, Facts.stopsHeard, Facts.mayEnter, Facts.liftsFinal, Facts.make, c6, c7]
  kernel_rfl

theorem over : Rows.namesRow.holds Try.pinned (OpenSpec.ofChange Rows.namesSpec) :=
  OpenClaim.holds_of_wide 3 Try.f3 rfl rfl rfl rfl rfl rfl rfl ⟨rfl, rfl, rfl, rfl, rfl⟩ rfl rfl rfl rfl rfl named Try.func3 closed
    (of_decide_eq_true (by kernel_rfl)) (by unfold Func.isWrapper; first | (rw [if_pos (by decide +kernel)]; kernel_rfl) | (rw [if_neg (by decide +kernel)]; exact ⟨rfl, rfl⟩))
    (fun os started H enc _ => lifted os started H enc)

theorem proved : Rows.NamesSaid :=
  over
#print axioms proved
end Go.Proofs.Ytcjdiakgckhkdaa.names

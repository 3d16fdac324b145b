/- The closed facts of a row that hang on the head of the cut: proved off its first word, not by reading its thousand signs each time. -/
import Derived.Test.YtcjdiakgckhkdaaAm13
namespace Go.Am

/-- The head's first word behind the main's is 'cut'. -/
def CutHead (P : Program) : Prop := ∃ rest, behindMainWord (wordsSigns P.initOrder.toList) = "cut".toList :: rest

theorem cutHead_of {P : Program} {L : List Char} (h : P.initOrder.toList = L) (h2 : (behindMainWord (wordsSigns L)).head? = some "cut".toList) : CutHead P := by
  unfold CutHead
  rw [h]
  cases e : behindMainWord (wordsSigns L) with
  | nil => rw [e] at h2; cases h2
  | cons c r => rw [e] at h2; simp only [List.head?_cons, Option.some.injEq] at h2; rw [h2]; exact ⟨r, rfl⟩

theorem strip_cut (rest : List (List Char)) : stripLifts liftWords ("cut".toList :: rest) = ([], "cut".toList :: rest) := by
  have : ∀ os : List String, (∀ o ∈ os, ("cut".toList == o.toList) = false) → stripLifts os ("cut".toList :: rest) = ([], "cut".toList :: rest) := by
    intro os
    induction os with
    | nil => intro _; rfl
    | cons o os ih =>
      intro h
      simp only [stripLifts, h o (by simp), Bool.false_eq_true, if_false]
      exact ih fun o' ho => h o' (by simp [ho])
  refine this liftWords ?_
  have h : liftWords.all (fun o => !("cut".toList == o.toList)) = true := by kernel_rfl
  intro o ho
  simpa using List.all_eq_true.1 h o ho

theorem mayEnter_of {P : Program} (h : CutHead P) (hl : P.laysLater = false) (hr : P.bearsReflect = false) (hd : P.doorFits [] = true) : P.mayEnter = true := by
  obtain ⟨rest, e⟩ := h
  unfold Program.mayEnter
  rw [e]
  simp only [strip_cut, hl, hr, hd]
  simp

theorem liftsFinal_of {P : Program} (h : CutHead P) : P.liftsFinal = false := by
  obtain ⟨rest, e⟩ := h
  have h1 : P.headLifts = [] := by
    unfold Program.headLifts
    rw [e, strip_cut]
    simp
  unfold Program.liftsFinal
  rw [e, h1]
  have h2 : (("cut".toList :: rest).head? == some "carried".toList) = false := by
    simp only [List.head?_cons]
    kernel_rfl
  simp only [h2]
  simp

theorem make_of {P : Program} (h : CutHead P) : P.make = some .cut := by
  obtain ⟨rest, e⟩ := h
  unfold Program.make
  rw [e]
  have h1 : ("cut".toList == "gc".toList) = false := by kernel_rfl
  have h2 : ("cut".toList == "spec".toList) = false := by kernel_rfl
  simp only [h1, h2]
  simp

end Go.Am

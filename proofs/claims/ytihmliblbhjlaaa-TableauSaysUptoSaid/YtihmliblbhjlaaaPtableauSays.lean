/- What the functional text of castlaw.TableauSays answers: true, where what is handed in is not great. -/
import Derived.Test.YtihmliblbhjlaaaTabF
set_option linter.unusedVariables false
set_option linter.unusedSimpArgs false
namespace Go.Proofs.Ytihmliblbhjlaaa
open Go.Am

theorem ones (r : List Int) : (r.map fun x1 => 1).sum = r.length := by
  induction r with
  | nil => rfl
  | cons x r ih => rw [List.map_cons, List.sum_cons, ih, List.length_cons]; omega
theorem bulk_rows : ∀ (t : List (List Int)), (t.map fun x0 => ((x0.map fun x1 => 1).sum + 1)).sum = t.flatten.length + t.length
  | [] => rfl
  | r :: t => by rw [List.map_cons, List.sum_cons, bulk_rows t, ones, List.flatten_cons, List.length_append, List.length_cons]; omega
theorem PtableauSays.holds (t0 : List (Int)) (t1 : (List (List (Int))) × (List (List (Int)))) (h0 : (t0.length ≤ maxLen ∧ ∀ a ∈ t0, inR .i64 a)) (h1 : ((t1.1.length ≤ maxLen ∧ ∀ a ∈ t1.1, (a.length ≤ maxLen ∧ ∀ b ∈ a, inR .i64 b)) ∧ (t1.2.length ≤ maxLen ∧ ∀ a ∈ t1.2, (a.length ≤ maxLen ∧ ∀ b ∈ a, inR .i64 b)))) (hB : ((t0.map fun x0 => 1).sum + 1) + ((((t1.1.map fun x0 => ((x0.map fun x1 => 1).sum + 1)).sum + 1) + ((t1.2.map fun x0 => ((x0.map fun x1 => 1).sum + 1)).sum + 1)) + (0)) ≤ 1048576) : ∃ F, F5 F t0 t1 = some true := by
  obtain ⟨P, Q⟩ := t1
  rw [bulk_rows, bulk_rows] at hB
  exact tab_holds t0 P Q (by simp only at hB; omega) (by simp only at hB; omega)
end Go.Proofs.Ytihmliblbhjlaaa

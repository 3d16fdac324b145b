/- Package perm: Cycles and Order against the reference. -/
import Derived.Test.YtaphdnpjpmnaeaaPermB
import Derived.Test.YtaphdnpjpmnaeaaRevLib
set_option linter.unusedVariables false
set_option linter.unusedSimpArgs false
namespace Go.Proofs.Ytaphdnpjpmnaeaa
open Go.Am

theorem clens_small {p : List Int} (hg : GoodP p) (hl : p.length ≤ 10) : ∀ x ∈ toI (clens (pf p) p.length p.length), 1 ≤ x ∧ x ≤ 10 := by
  intro x hx
  obtain ⟨y, hy, rfl⟩ := List.mem_map.1 hx
  obtain ⟨k, h1, _, rfl⟩ := clens_mem hy
  have h2 := cl_pos (f := pf p) (n := p.length) k
  have h3 := (cl_back (pf_pm hg) h1).2
  omega
theorem cycles_eq (F : Nat) (p : List Int) (hF : 40 ≤ F) (hp : permE p = 0) : ∃ M, F18 F p = some (M, 0) ∧ F26 F p = some M ∧ M.Perm (toI (clens (pf p) p.length p.length)) := by
  obtain ⟨hg, hl⟩ := good_permE hp
  have hcl := clens_len (f := pf p) (n := p.length) p.length
  have hlen : (toI (clens (pf p) p.length p.length)).length ≤ 10 := by rw [toI_len]; omega
  have hsm := clens_small hg hl
  obtain ⟨M1, h1, h2, h3⟩ := sortDesc_eq F (toI (clens (pf p) p.length p.length)) (by omega) (by omega) (fun x hx => by have := hsm x hx; omega)
  obtain ⟨M2, g1, g2, g3⟩ := sort_sorted F (toI (clens (pf p) p.length p.length)) (by omega) (by omega)
  have hM2 := g2.length_eq
  have e : M1 = M2.reverse := by
    have h4 : M1.reverse = M2 := sorted_eq ((List.reverse_perm M1).trans (h2.trans g2.symm)) (by rw [List.pairwise_reverse]; exact h3) g3
    rw [← h4, List.reverse_reverse]
  refine ⟨M1, ?_, ?_, h2⟩
  · unfold F18
    rw [check_eq F p (by omega), hp, Option.bind_some, if_neg (by decide), cyc_eq F p hF hg hl, Option.bind_some, h1, Option.bind_some]
  · unfold F26
    rw [refCyc_eq F p hF hg hl, Option.bind_some, g1, Option.bind_some, reverse_eq F M2 (by omega) (by omega), Option.bind_some, e]

end Go.Proofs.Ytaphdnpjpmnaeaa

/- Names of operations, by their numbers: what the printed functions of instr and of its reference answer. -/
import Derived.Test.YtmajngcgejkghaaPx17
import Derived.Test.YtmajngcgejkghaaQInstr
import Derived.Test.YtmajngcgejkghaaCBytes
namespace Go.Proofs.Ytmajngcgejkghaa.Q
set_option linter.unusedSimpArgs false
set_option linter.unusedVariables false
open Go Go.RowKit Go.Proofs.Ytmajngcgejkghaa.P Go.Proofs.Ytmajngcgejkghaa.C Go.Proofs.YtmajngcgejkghaaW.PrintWords

def nmL : List ByteArray := (instr_names.f).getD []
def nm (i : Int) : ByteArray := rdOf ByteArray.empty nmL i
theorem names_eq : instr_names.f = some nmL := rfl
theorem nmL_len : nmL.length = 35 := by decide +kernel
theorem of_fin {p : Int → Prop} (h : ∀ j : Fin 34, p ((j.val : Int) + 1)) (i : Int) (h1 : 1 ≤ i) (h2 : i ≤ 34) : p i := by
  have := h ⟨(i - 1).toNat, by omega⟩
  simp only at this
  rw [show (((i - 1).toNat : Nat) : Int) + 1 = i by omega] at this
  exact this
theorem name_eq (i : Int) (h1 : 1 ≤ i) (h2 : i ≤ 34) : instr_Name.f i = some (nm i) :=
  of_fin (p := fun i => instr_Name.f i = some (nm i)) (by decide +kernel) i h1 h2
theorem rname_eq (i : Int) (h1 : 1 ≤ i) (h2 : i ≤ 34) : pascalineref02_Name.f i = some (nm i) :=
  of_fin (p := fun i => pascalineref02_Name.f i = some (nm i)) (by decide +kernel) i h1 h2
theorem name_out (i : Int) (h : ¬ (1 ≤ i ∧ i ≤ 34)) : instr_Name.f i = some ⟨#[]⟩ := by
  unfold instr_Name.f
  by_cases h1 : i < 1
  · rw [if_pos h1]
  · rw [if_neg h1, if_pos (by omega)]
theorem rname_out (i : Int) (h : ¬ (1 ≤ i ∧ i ≤ 34)) : pascalineref02_Name.f i = some ⟨#[]⟩ := by
  unfold pascalineref02_Name.f
  simp only [Option.bind_some]
  by_cases h1 : i < 1
  · rw [if_pos h1]
  · rw [if_neg h1, if_pos (by omega)]
theorem nm_inj (i j : Int) (h1 : 1 ≤ i) (h2 : i ≤ 34) (h3 : 1 ≤ j) (h4 : j ≤ 34) (h : (nm i).toList = (nm j).toList) : i = j := by
  refine of_fin (p := fun i => (nm i).toList = (nm j).toList → i = j) ?_ i h1 h2 h
  intro a
  exact of_fin (p := fun j => (nm ((a.val : Int) + 1)).toList = (nm j).toList → (a.val : Int) + 1 = j) (by revert a; decide +kernel) j h3 h4
end Go.Proofs.Ytmajngcgejkghaa.Q

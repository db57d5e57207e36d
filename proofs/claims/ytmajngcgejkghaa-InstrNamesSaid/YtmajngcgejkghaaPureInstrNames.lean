/- InstrNames: the shapes and names of all operations are those of the document; others have none. For every number and every string; no condition. -/
import Derived.Test.YtmajngcgejkghaaPx21
import Derived.Test.YtmajngcgejkghaaQNames
import Derived.Test.YtmajngcgejkghaaQAwake02
namespace Go.Proofs.Ytmajngcgejkghaa.Pure
set_option linter.unusedSimpArgs false
set_option linter.unusedVariables false
open Go.RowKit Go.Proofs.Ytmajngcgejkghaa.P Go.Proofs.Ytmajngcgejkghaa.Q Go.Proofs.Ytmajngcgejkghaa.C Go.Proofs.YtmajngcgejkghaaW.PrintWords

theorem names_loop (op : Int) (s : ByteArray) (w : Int) (hw : IsOp s w) (d : Nat) : ∀ (k : Nat) (i x5 : Int), 35 - i = d → 1 ≤ i → d + 45 < k → x5 = (if w < i then w else 0) →
    pascalinelaw02_InstrNames.l0 k op s x5 i = some true := by
  obtain ⟨w0, w1, h⟩ := id hw
  induction d with
  | zero =>
    intro k i x5 hi h0 hk hx
    obtain ⟨k, rfl⟩ : ∃ q, k = q + 1 := ⟨k - 1, by omega⟩
    rw [if_pos (by omega)] at hx
    rw [pascalinelaw02_InstrNames.l0, if_neg (by omega), op_eq k (by omega) s w hw]
    simp only [Option.bind_some]
    rw [if_pos hx.symm]
    by_cases h1 : op < 1
    · rw [if_pos h1]
    · rw [if_neg h1]
      by_cases h2 : op > 34
      · rw [if_pos h2]
      · rw [if_neg h2, name_eq op (by omega) (by omega)]
        simp only [Option.bind_some]
        rw [op_eq k (by omega) _ op (isOp_nm op (by omega) (by omega))]
        simp
  | succ d ih =>
    intro k i x5 hi h0 hk hx
    obtain ⟨k, rfl⟩ : ∃ q, k = q + 1 := ⟨k - 1, by omega⟩
    rw [pascalinelaw02_InstrNames.l0, if_pos (by omega), rname_eq i (by omega) (by omega), wrap64_in (n := i + 1) (by omega)]
    simp only [Option.bind_some]
    have e := h i (by omega) (by omega)
    by_cases hm : (nm i).toList = s.toList
    · rw [if_pos hm]
      have := e.1 hm
      exact ih k (i + 1) i (by omega) (by omega) (by omega) (by rw [if_pos (by omega)]; exact this)
    · rw [if_neg hm]
      have : ¬ i = w := fun h => hm (e.2 h)
      refine ih k (i + 1) x5 (by omega) (by omega) (by omega) ?_
      rw [hx]
      by_cases hl : w < i
      · rw [if_pos hl, if_pos (by omega)]
      · rw [if_neg hl, if_neg (by omega)]
theorem names_j0 (op : Int) (s : ByteArray) : pascalinelaw02_InstrNames.j0 (198 + 1) op s false = some true := by
  rw [pascalinelaw02_InstrNames.j0, if_neg Bool.false_ne_true]
  obtain ⟨w, hw⟩ := isOp_ex s
  refine names_loop op s w hw 34 198 1 0 (by omega) (by omega) (by omega) ?_
  split
  · have := hw.1; omega
  · rfl
theorem names_f (op : Int) (s : ByteArray) (k : Nat) (hk : k = 199) : pascalinelaw02_InstrNames.f k op s = some true := by
  unfold pascalinelaw02_InstrNames.f
  rw [instr_awake k (by omega)]
  rw [Option.bind_some, if_pos rfl, shape_eq k op (by omega)]
  rw [Option.bind_some, rshape_eq k op (by omega)]
  rw [Option.bind_some, if_pos rfl]
  by_cases h : 1 ≤ op ∧ op ≤ 34
  · rw [name_eq op h.1 h.2, Option.bind_some, rname_eq op h.1 h.2, Option.bind_some, bne_self_eq_false, hk]
    exact names_j0 op s
  · rw [name_out op h, Option.bind_some, rname_out op h, Option.bind_some, bne_self_eq_false, hk]
    exact names_j0 op s
theorem InstrNames : pascalinelaw02_InstrNames.Pure := fun op s _ _ => ⟨199, names_f op s 199 rfl⟩
end Go.Proofs.Ytmajngcgejkghaa.Pure

/- Names of operations: what the printed functions of instr and of its reference answer. -/
import Derived.Test.YtmajngcgejkghaaPx20
import Derived.Test.YtmajngcgejkghaaQNm
namespace Go.Proofs.Ytmajngcgejkghaa.Q
set_option linter.unusedSimpArgs false
set_option linter.unusedVariables false
open Go Go.RowKit Go.Proofs.Ytmajngcgejkghaa.P Go.Proofs.Ytmajngcgejkghaa.C Go.Proofs.YtmajngcgejkghaaW.PrintWords

/-- w is the number of the operation of a name; 0: there is none. -/
def IsOp (s : ByteArray) (w : Int) : Prop := 0 ≤ w ∧ w ≤ 34 ∧ ∀ i : Int, 1 ≤ i → i ≤ 34 → ((nm i).toList = s.toList ↔ i = w)
theorem isOp_ex (s : ByteArray) : ∃ w, IsOp s w := by
  by_cases h : ∃ i : Int, 1 ≤ i ∧ i ≤ 34 ∧ (nm i).toList = s.toList
  · obtain ⟨i, h1, h2, h3⟩ := h
    exact ⟨i, by omega, h2, fun j j1 j2 => ⟨fun e => nm_inj j i j1 j2 h1 h2 (e.trans h3.symm), fun e => e ▸ h3⟩⟩
  · exact ⟨0, by omega, by omega, fun j j1 j2 => ⟨fun e => absurd ⟨j, j1, j2, e⟩ h, fun e => by omega⟩⟩
theorem isOp_nm (i : Int) (h1 : 1 ≤ i) (h2 : i ≤ 34) : IsOp (nm i) i :=
  ⟨by omega, h2, fun j j1 j2 => ⟨fun e => nm_inj j i j1 j2 h1 h2 e, fun e => by rw [e]⟩⟩
theorem op_loop (s : ByteArray) (w : Int) (hw : IsOp s w) (d : Nat) : ∀ (k : Nat) (i : Int), 35 - i = d → 0 ≤ i → d < k → (w < i → w = 0) → instr_Op.l0 k s nmL 35 i = some w := by
  obtain ⟨w0, w1, hw⟩ := hw
  induction d with
  | zero =>
    intro k i hi h0 hk hn
    obtain ⟨k, rfl⟩ : ∃ q, k = q + 1 := ⟨k - 1, by omega⟩
    rw [instr_Op.l0, if_neg (by omega), hn (by omega)]
  | succ d ih =>
    intro k i hi h0 hk hn
    obtain ⟨k, rfl⟩ : ∃ q, k = q + 1 := ⟨k - 1, by omega⟩
    rw [instr_Op.l0, if_pos (by omega), if_pos h0, nmL_len, if_pos (show i < ((35 : Nat) : Int) by omega), wrap64_in (n := i + 1) (by omega)]
    have hr := ih k (i + 1) (by omega) (by omega) (by omega)
    by_cases h : i > 0
    · rw [if_pos h]
      have e := hw i (by omega) (by omega)
      by_cases hm : (rdOf ByteArray.empty nmL i).toList = s.toList
      · rw [if_pos hm, e.1 hm]
      · rw [if_neg hm]
        refine hr fun hlt => ?_
        have : ¬ i = w := fun h => hm (e.2 h)
        exact hn (by omega)
    · rw [if_neg h]
      exact hr fun hlt => by omega
theorem op_eq (k : Nat) (hk : 40 ≤ k) (s : ByteArray) (w : Int) (hw : IsOp s w) : instr_Op.f k s = some w := by
  unfold instr_Op.f
  rw [names_eq]
  simp only [Option.bind_some]
  rw [nmL_len]
  exact op_loop s w hw 35 k 0 (by omega) (by omega) (by omega) (fun h => by have := hw.1; omega)
end Go.Proofs.Ytmajngcgejkghaa.Q

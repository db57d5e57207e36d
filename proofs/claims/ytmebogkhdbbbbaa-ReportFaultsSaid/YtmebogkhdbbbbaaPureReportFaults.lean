/- ReportFaults: what is told of any fault of any texts is what the page says; so is what any error says. For all texts, faults and errors; no condition. -/
import Derived.Test.YtmebogkhdbbbbaaPx10
import Derived.Test.YtmebogkhdbbbbaaPx16
import Derived.Test.YtmebogkhdbbbbaaPsReportFaults
import Derived.Test.YtmebogkhdbbbbaaQFault
namespace Go.Proofs.Ytmebogkhdbbbbaa.Pure
set_option linter.unusedSimpArgs false
set_option linter.unusedVariables false
open Go Go.RowKit Go.Proofs.Ytmebogkhdbbbbaa.P Go.Proofs.Ytmebogkhdbbbbaa.Q Go.Proofs.Ytmebogkhdbbbbaa.C Go.Proofs.YtmebogkhdbbbbaaW.PrintWords
theorem rf_i64 {n : Int} (h : (Lit.int .i64 n).wf = true) : -9223372036854775808 ≤ n ∧ n ≤ 9223372036854775807 := by
  have h2 := h
  simp [Lit.wf, IntKind.min, IntKind.max, IntKind.bits, IntKind.signed] at h2
  omega
theorem rf_loop (l : List ByteArray) (e2 t a e : Int) (hn : l.length ≤ 20) (ht : -9223372036854775808 ≤ t) (he : -9223372036854775808 ≤ e ∧ e ≤ 9223372036854775807) (he2 : -9223372036854775808 ≤ e2 ∧ e2 ≤ 9223372036854775807) (d : Nat) :
    ∀ (k i : Nat), i + d = l.length → d + 6001 ≤ k → (∀ j : Int, 0 ≤ j → j < (i : Int) → (rdOf ByteArray.empty l j).size ≤ 1000) → pascalinelaw31_ReportFaults.l0 k l e2 (i : Int) t a e = some true := by
  induction d with
  | zero =>
    intro k i hi hk hall
    obtain ⟨k, rfl⟩ : ∃ m, k = m + 1 := ⟨k - 1, by omega⟩
    simp only [pascalinelaw31_ReportFaults.l0]
    rw [if_neg (by omega)]
    by_cases h : t > 1000000
    · rw [if_pos h]
    · rw [if_neg h]
      obtain ⟨r, h1, h2⟩ := ft_same k (by omega) l (fun j h0 h1 => hall j h0 (by omega)) t a e ⟨ht, by omega⟩ he
      obtain ⟨m, h3, h4, _⟩ := ms_any k (by omega) e2 he2
      rw [h1, h2, h3, h4]
      simp
  | succ d ih =>
    intro k i hi hk hall
    obtain ⟨k, rfl⟩ : ∃ m, k = m + 1 := ⟨k - 1, by omega⟩
    have hw : wrap64 ((i : Int) + 1) = ((i + 1 : Nat) : Int) := by unfold wrap64; omega
    simp only [pascalinelaw31_ReportFaults.l0]
    rw [if_pos (by omega), if_pos (by omega), hw]
    by_cases h : ((rdOf ByteArray.empty l (i : Int)).size : Int) > 1000
    · rw [if_pos h]
    · rw [if_neg h]
      refine ih k (i + 1) (by omega) (by omega) (fun j h0 h1 => ?_)
      by_cases hj : j = (i : Int)
      · subst hj; omega
      · exact hall j h0 (by omega)
theorem rf_awake : pascalinelaw31_awake.f 7000 = some true := by kernel_rfl
theorem ReportFaults : pascalinelaw31_ReportFaults.Pure := by
  intro l t a e e2 _ ht ha he he2 _
  refine ⟨7000, ?_⟩
  unfold pascalinelaw31_ReportFaults.f
  rw [rf_awake, Option.bind_some, if_pos rfl]
  by_cases hl : (l.length : Int) > 20
  · rw [if_pos hl]
  · rw [if_neg hl]
    exact rf_loop l e2 t a e (by omega) (rf_i64 ht).1 (rf_i64 he) (rf_i64 he2) l.length 7000 0 (by omega) (by omega) (fun j h0 h1 => by omega)
end Go.Proofs.Ytmebogkhdbbbbaa.Pure

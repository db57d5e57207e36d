/- What is told of any fault: the program's Fault and the reference's are one. -/
import Derived.Test.YtmebogkhdbbbbaaPx4
import Derived.Test.YtmebogkhdbbbbaaPx5
import Derived.Test.YtmebogkhdbbbbaaPx6
import Derived.Test.YtmebogkhdbbbbaaPx7
import Derived.Test.YtmebogkhdbbbbaaPx8
import Derived.Test.YtmebogkhdbbbbaaPx9
import Derived.Test.YtmebogkhdbbbbaaPx15
import Derived.Test.YtmebogkhdbbbbaaQMsg
import Derived.Test.YtmebogkhdbbbbaaQPlace
namespace Go.Proofs.Ytmebogkhdbbbbaa.Q
set_option linter.unusedSimpArgs false
set_option linter.unusedVariables false
open Go Go.RowKit Go.Proofs.Ytmebogkhdbbbbaa.P Go.Proofs.Ytmebogkhdbbbbaa.C Go.Proofs.YtmebogkhdbbbbaaW.PrintWords Go.Proofs.YtmebogkhdbbbbaaW.PrintLast Go.Proofs.YtmebogkhdbbbbaaW.PrintMore
theorem ft_held (s : ByteArray) (off : Int) : mn (mx off 0) (s.size : Int) = place_held s off := by
  unfold mn mx place_held
  by_cases h1 : off < 0
  · simp only [h1, if_true]
    try (split <;> omega)
  · simp only [h1, if_false]
    try (split <;> split <;> omega)
theorem ft_held2 (s : ByteArray) (off : Int) : place_held s (place_held s off) = place_held s off := by
  have h : 0 ≤ place_held s off ∧ place_held s off ≤ s.size := by unfold place_held; split <;> (try split) <;> omega
  generalize place_held s off = x at h ⊢
  unfold place_held
  rw [if_neg (by omega), if_neg (by omega)]
theorem ft_line2 (s : ByteArray) (L : List Int) (off : Int) : place_line s L (place_held s off) = place_line s L off := by unfold place_line; rw [ft_held2]
theorem ft_same (k : Nat) (hk : 6000 ≤ k) (l : List ByteArray) (hl : ∀ i : Int, 0 ≤ i → i < (l.length : Int) → (rdOf ByteArray.empty l i).size ≤ 1000) (t a e : Int) (ht : -9223372036854775808 ≤ t ∧ t ≤ 1000000) (he : -9223372036854775808 ≤ e ∧ e ≤ 9223372036854775807) :
    ∃ r, report_Fault.f k l t a e = some r ∧ pascalineref31_Fault.f k l t a e = some r := by
  obtain ⟨k, rfl⟩ : ∃ m, k = m + 1 := ⟨k - 1, by omega⟩
  obtain ⟨m0, g1, g2, g3⟩ := ms_any (k + 1) (by omega) 0 (by omega)
  obtain ⟨m, h1, h2, h3⟩ := ms_any k (by omega) e he
  unfold report_Fault.f pascalineref31_Fault.f
  by_cases e0 : e = 0
  · subst e0
    simp only [if_true, g1, g2, Option.bind_some]
    rw [if_pos (by omega)]
    exact ⟨_, rfl, rfl⟩
  · rw [if_neg e0, if_neg e0]
    have hw : -9223372036854775808 ≤ wrap64 (t + 1) ∧ wrap64 (t + 1) ≤ 9223372036854775807 := by unfold wrap64; omega
    have s0 := ms_text_size (wrap64 (t + 1))
    rw [word_text_eq _ hw, ref_text_eq _ hw]
    simp only [Option.bind_some]
    have s5 : 5 + (strOfNums (textOf (wrap64 (t + 1)))).size ≤ 9223372036854775807 := by omega
    rw [if_pos s5, if_pos s5]
    generalize strOfNums (textOf (wrap64 (t + 1))) = t0 at s0 ⊢
    have s1 : ((⟨#[116, 101, 120, 116, 32]⟩ : ByteArray) ++ t0).size ≤ 105 := by rw [ByteArray.size_append, show (⟨#[116, 101, 120, 116, 32]⟩ : ByteArray).size = 5 from rfl]; omega
    generalize (⟨#[116, 101, 120, 116, 32]⟩ : ByteArray) ++ t0 = x at s1 ⊢
    have out : ∃ r, report_Fault.j0 (k + 1) l x true t a e = some r ∧ pascalineref31_Fault.j0 (k + 1) l t a e x true = some r := by
      simp only [report_Fault.j0, pascalineref31_Fault.j0, if_true]
      rw [h1, h2]
      simp only [Option.bind_some, ByteArray.size_append, show (⟨#[58, 32]⟩ : ByteArray).size = 2 from rfl]
      repeat rw [if_pos (by omega)]
      exact ⟨_, rfl, rfl⟩
    by_cases t0' : t < 0
    · simp only [t0', if_true]
      exact out
    · simp only [t0', if_false]
      by_cases tl : t ≥ (l.length : Int)
      · rw [decide_eq_true tl]
        exact out
      · rw [decide_eq_false tl]
        have hsz := hl t (by omega) (by omega)
        simp only [report_Fault.j0, pascalineref31_Fault.j0, Bool.false_eq_true, if_false]
        simp only [show (0 ≤ t) = True from eq_true (by omega), show (t < (l.length : Int)) = True from eq_true (by omega), if_true]
        generalize rdOf ByteArray.empty l t = s at hsz ⊢
        rw [ft_held, place_ref_at s (by omega) _ k (by omega), marks_ref s (by omega) _ k (by omega), ft_held2, ft_line2]
        rw [show pl_New.f s = some (s, place_sts s s.size) by unfold pl_New.f; rw [if_pos (by omega)]]
        simp only [Option.bind_some]
        rw [show pl_At.f s (place_sts s s.size) a = some (((place_line s (place_sts s s.size) a : Nat) : Int) + 1, place_held s a - rd (place_sts s s.size) (place_line s (place_sts s s.size) a : Nat) + 1, s) by unfold pl_At.f; rw [if_pos ⟨by omega, rfl⟩]]
        simp only [Option.bind_some]
        rw [show pl_Mark.f s (place_sts s s.size) a = some (place_marked (place_linef s (place_sts s s.size) ((place_line s (place_sts s s.size) a : Nat) + 1)) (place_held s a - rd (place_sts s s.size) (place_line s (place_sts s s.size) a : Nat)).toNat, s) by unfold pl_Mark.f; rw [if_pos ⟨by omega, rfl⟩]]
        have hG := place_good s (by omega : s.size ≤ 1000000)
        have hz := place_sts_zero s s.size
        obtain ⟨q1, q2, q3⟩ := place_line_spec s _ a hG hz
        have hlow := hG.low ((place_line s (place_sts s s.size) a : Nat) : Int) (by omega) (by omega)
        have hend := place_endf_le s _ hG ((place_line s (place_sts s s.size) a : Nat) : Int) (by omega) (by omega)
        have hheld : 0 ≤ place_held s a ∧ place_held s a ≤ s.size := by unfold place_held; split <;> (try split) <;> omega
        have hlen := (place_sts_len s s.size).2
        have hms : (place_marked (place_linef s (place_sts s s.size) ((place_line s (place_sts s s.size) a : Nat) + 1)) (place_held s a - rd (place_sts s s.size) (place_line s (place_sts s s.size) a : Nat)).toNat).size ≤ 3000 := by
          have hll : (place_linef s (place_sts s s.size) (((place_line s (place_sts s s.size) a : Nat) : Int) + 1)).size ≤ 1000 := by
            unfold place_linef
            split
            · exact Nat.zero_le _
            · rw [ByteArray.size_extract]; omega
          unfold place_marked
          rw [strOfNums_size, List.length_append, (place_padded_spec _ _).1, bytesOf_length, ByteArray.size_append, show (⟨#[10]⟩ : ByteArray).size = 1 from rfl]
          simp only [List.length_singleton]
          omega
        generalize place_marked _ _ = mk at hms ⊢
        have s2 := ms_text_size (((place_line s (place_sts s s.size) a : Nat) : Int) + 1)
        have s3 := ms_text_size (place_held s a - rd (place_sts s s.size) (place_line s (place_sts s s.size) a : Nat) + 1)
        rw [word_text_eq (((place_line s (place_sts s s.size) a : Nat) : Int) + 1) (by omega), ref_text_eq (((place_line s (place_sts s s.size) a : Nat) : Int) + 1) (by omega)]
        rw [word_text_eq (place_held s a - rd (place_sts s s.size) (place_line s (place_sts s s.size) a : Nat) + 1) (by omega), ref_text_eq (place_held s a - rd (place_sts s s.size) (place_line s (place_sts s s.size) a : Nat) + 1) (by omega)]
        generalize strOfNums (textOf (((place_line s (place_sts s s.size) a : Nat) : Int) + 1)) = y1 at s2 ⊢
        generalize strOfNums (textOf (place_held s a - rd (place_sts s s.size) (place_line s (place_sts s s.size) a : Nat) + 1)) = y2 at s3 ⊢
        rw [h1, h2]
        simp only [Option.bind_some, ByteArray.size_append, show (⟨#[58, 32]⟩ : ByteArray).size = 2 from rfl, show (⟨#[10]⟩ : ByteArray).size = 1 from rfl, show (⟨#[44, 32, 108, 105, 110, 101, 32]⟩ : ByteArray).size = 7 from rfl, show (⟨#[44, 32, 99, 111, 108, 117, 109, 110, 32]⟩ : ByteArray).size = 9 from rfl]
        repeat rw [if_pos (by omega)]
        exact ⟨_, rfl, rfl⟩
end Go.Proofs.Ytmebogkhdbbbbaa.Q

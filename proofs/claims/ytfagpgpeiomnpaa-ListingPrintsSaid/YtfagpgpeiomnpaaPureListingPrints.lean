/- ListingPrints: any words have the text that the document says, line by line, and are read from it. For every address of type uint32 and every slice of uint32; no condition. -/
import Derived.Test.YtfagpgpeiomnpaaPx19
import Derived.Test.YtfagpgpeiomnpaaPx41
import Derived.Test.YtfagpgpeiomnpaaPx48
import Derived.Test.YtfagpgpeiomnpaaQRead
import Derived.Test.YtfagpgpeiomnpaaPsListingPrints
namespace Go.Proofs.Ytfagpgpeiomnpaa.Pure
set_option linter.unusedSimpArgs false
set_option linter.unusedVariables false
open Go Go.RowKit Go.Proofs.Ytfagpgpeiomnpaa.P Go.Proofs.Ytfagpgpeiomnpaa.Q Go.Proofs.Ytfagpgpeiomnpaa.C Go.Proofs.YtfagpgpeiomnpaaW.PrintWords Go.Proofs.YtfagpgpeiomnpaaW.PrintLast

theorem prints_awake (k : Nat) (hk : 70 ≤ k) : pascalinelaw06_awake.f k = some true := by
  unfold pascalinelaw06_awake.f
  rw [line_eq k hk 4 385875967 (by omega) (by omega)]
  simp only [Option.bind_some]
  decide +kernel
theorem u32_of {n : Int} (h : (Lit.int .u32 n).wf = true) : U32 n := by
  have h2 := h
  simp [Lit.wf, IntKind.min, IntKind.max, IntKind.bits, IntKind.signed] at h2
  unfold U32
  omega
theorem ListingPrints : pascalinelaw06_ListingPrints.Pure := by
  intro a0 l w0 w1 _
  have ha := u32_of w0
  have hl := fun x hx => u32_of (w1.2 x hx)
  unfold pascalinelaw06_ListingPrints.f
  rw [if_pos (prints_awake lpK (by unfold lpK; omega))]
  by_cases h5 : 500 < l.length
  · rw [if_pos h5]
  · rw [if_neg h5, lines_eq lpK (by unfold lpK; omega) a0 l 0 hl, Option.bind_some]
    have hz := ln_size a0 l 0 hl
    have hp : pascalineref06_Print.f lpK a0 l = some (lp_text (lnOf a0 l 0)) := by
      have := rprint_eq 0 a0 l (by omega) hl l.length lpK 0 ⟨#[]⟩ (by omega) (by omega) (by unfold lpK; omega) (by show 0 + 431 * l.length ≤ 1000000; omega)
      rw [List.drop_zero] at this
      unfold pascalineref06_Print.f
      exact this.trans (by first | rfl | (congr 1; done) | (congr 1; apply ByteArray.ext; simp))
    rw [if_pos hp]
    have hs : (lp_text (lnOf a0 l 0)).size ≤ 215500 := by rw [lp_text_size]; omega
    have hr : listing_Read.f lpK (lp_text (lnOf a0 l 0)) = some (ls_all (lp_text (lnOf a0 l 0)).size (lp_text (lnOf a0 l 0)) 0 []) :=
      ls_prog _ lpK _ 0 [] (by omega) (by simp only [List.length_nil]; omega) (by omega) (by unfold lpK; omega)
    have hall := all_eq a0 ha l (lp_text (lnOf a0 l 0)).size 0 [] hl (Nat.le_refl _) (.inl rfl)
    rw [hr, show ls_all (lp_text (lnOf a0 l 0)).size (lp_text (lnOf a0 l 0)) 0 [] = _ from hall, Option.bind_some]
    have hc : (if l.length = 0 then (0 : Int) else a0) = a0 ∨ (l.length = 0 ∧ (if l.length = 0 then (0 : Int) else a0) = 0) := by
      by_cases h0 : l.length = 0
      · exact .inr ⟨h0, if_pos h0⟩
      · exact .inl (if_neg h0)
    rw [if_pos ⟨rfl, rfl, hc⟩]
    have hw : pascalineref01_Words.f lpK ([] ++ l) l = some true := by
      rw [List.nil_append]
      unfold pascalineref01_Words.f
      rw [if_pos rfl]
      exact ls_words _ (by omega) l.length lpK 0 (by omega) (by unfold lpK; omega)
    rw [if_pos hw]
end Go.Proofs.Ytfagpgpeiomnpaa.Pure

/- ListingLines: any word at any address has the line that the document says; where it leads is told. For all words, addresses and instructions; no condition. -/
import Derived.Test.YtfagpgpeiomnpaaPx12
import Derived.Test.YtfagpgpeiomnpaaPx24
import Derived.Test.YtfagpgpeiomnpaaQLine
import Derived.Test.YtfagpgpeiomnpaaPsListingLines
namespace Go.Proofs.Ytfagpgpeiomnpaa.Pure
set_option linter.unusedSimpArgs false
set_option linter.unusedVariables false
open Go.RowKit Go.Proofs.Ytfagpgpeiomnpaa.P Go.Proofs.Ytfagpgpeiomnpaa.Q Go.Proofs.Ytfagpgpeiomnpaa.C Go.Proofs.YtfagpgpeiomnpaaW.PrintWords

theorem listing_awake (k : Nat) (hk : 70 ≤ k) : pascalinelaw06_awake.f k = some true := by
  unfold pascalinelaw06_awake.f
  rw [line_eq k hk 4 385875967 (by omega) (by omega)]
  simp only [Option.bind_some]
  decide +kernel
theorem ListingLines : pascalinelaw06_ListingLines.Pure := by
  intro at_ w op a b c i hat hw _ _ _ _ hi
  have hat' := bounds_u32 hat
  have hw' := bounds_u32 hw
  have hi' := bounds_i64 hi
  refine ⟨100, ?_⟩
  unfold pascalinelaw06_ListingLines.f
  rw [listing_awake 100 (by omega), target_eq at_ op a b c i (by unfold I64; omega)]
  have e : ((((at_ + 4) % 4294967296) + ((4 * (i % 4294967296)) % 4294967296)) % 4294967296) = leadOf at_ i := by
    unfold leadOf; omega
  simp only [Option.bind_some, pascalinelaw06_ListingLines.j0, pascalinelaw06_ListingLines.j1, pascalinelaw06_ListingLines.j2, e,
    line_eq 98 (by omega) at_ w hat' hw', rline_eq 98 (by omega) at_ w hat' hw']
  by_cases h1 : op ≥ 20
  · by_cases h2 : op ≤ 23
    · simp [h1, h2]
    · simp [h1, h2]
  · have h3 : ¬ (20 ≤ op) := by omega
    simp [h1, h3]
end Go.Proofs.Ytfagpgpeiomnpaa.Pure

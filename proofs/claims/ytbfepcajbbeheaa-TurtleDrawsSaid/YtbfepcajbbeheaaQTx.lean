/- What the printed functions of word and of its reference answer: texts of numbers. -/
import Derived.Test.YtbfepcajbbeheaaPx3
import Derived.Test.YtbfepcajbbeheaaPx4
import Derived.Test.YtbfepcajbbeheaaPx17
import Derived.Test.YtbfepcajbbeheaaCText
import Derived.Test.YtbfepcajbbeheaaCBytes
namespace Go.Proofs.Ytbfepcajbbeheaa.Q
open Go Go.RowKit Go.Proofs.Ytbfepcajbbeheaa.P Go.Proofs.Ytbfepcajbbeheaa.C Go.Proofs.YtbfepcajbbeheaaW.PrintWords Go.Proofs.YtbfepcajbbeheaaW.PrintLast Go.Proofs.YtbfepcajbbeheaaW.PrintMore
theorem u64_wrap (x : Int) : IntKind.u64.wrap x = x % 18446744073709551616 := by simp [IntKind.wrap, IntKind.signed, IntKind.bits]
theorem word_text_eq (n : Int) (h : -9223372036854775808 ≤ n ∧ n ≤ 9223372036854775807) : word_Text.f n = some (strOfNums (textOf n)) := by
  unfold word_Text.f word_digits.f textOf
  by_cases h0 : n < 0
  · have e : IntKind.u64.wrap (wrap64 (-n)) = -n := by rw [u64_wrap]; unfold wrap64; omega
    rw [if_pos h0, e, if_pos (.inl rfl), if_pos (by omega), if_pos h0]
    simp only [Option.bind_some]
    have hl := digs_length 10 65 (-n) 1
    rw [show min 64 (max 1 1 : Int).toNat = 1 by decide, if_pos (by rw [strOfNums_size]; omega), strOfNums_cons]
    rfl
  · have e : IntKind.u64.wrap n = n := by rw [u64_wrap]; omega
    rw [if_neg h0, e, if_pos (.inl rfl), if_pos (by omega), if_neg h0]
    rfl
theorem ref_text_eq (n : Int) (h : -9223372036854775808 ≤ n ∧ n ≤ 9223372036854775807) : pascalineref01_Text.f n = some (strOfNums (textOf n)) := by
  unfold pascalineref01_Text.f; rw [if_pos (by omega)]
end Go.Proofs.Ytbfepcajbbeheaa.Q

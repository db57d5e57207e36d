/- WordTexts: any number and any word has the text that the document says, and is read from it. For every n of type int and w of type uint32; no condition. -/
import Derived.Test.YtlfhgednlljkoaaQText
namespace Go.Proofs.Ytlfhgednlljkoaa.Pure
open Go.RowKit Go.Proofs.Ytlfhgednlljkoaa.P Go.Proofs.Ytlfhgednlljkoaa.Q Go.Proofs.Ytlfhgednlljkoaa.C Go.Proofs.YtlfhgednlljkoaaW.PrintWords Go.Proofs.YtlfhgednlljkoaaW.PrintLast

theorem hexOf_bytes (w : Int) (h : 0 ≤ w) : ∀ x ∈ hexOf w, 0 ≤ x ∧ x < 256 := digs_bytes 16 (by omega) 65 w 8 h
theorem texts_j0 (k : Nat) (n : Int) (hn : -9223372036854775808 ≤ n ∧ n ≤ 9223372036854775807) : pascalinelaw01_WordTexts.j0 (k + 1) n (parseOf (textOf n)).1 (parseOf (textOf n)).2 false = some true := by
  rw [pascalinelaw01_WordTexts.j0, if_neg (by simp), parse_text n hn]
  by_cases h1 : n < -2147483648
  · rw [if_pos h1, if_neg (show ¬ (-2147483648 ≤ n ∧ n ≤ 2147483647) by omega)]; simp
  · rw [if_neg h1]
    by_cases h2 : n > 2147483647
    · rw [if_pos h2, if_neg (show ¬ (-2147483648 ≤ n ∧ n ≤ 2147483647) by omega)]; simp
    · rw [if_neg h2, if_pos (show -2147483648 ≤ n ∧ n ≤ 2147483647 by omega), if_pos rfl, wrap64_in hn]; simp
theorem WordTexts : pascalinelaw01_WordTexts.Pure := by
  intro n w hn hw
  have hn' := bounds_i64 hn
  have hw' := bounds_u32 hw
  have hsz : (strOfNums (textOf n)).size ≤ 100 := by
    rw [strOfNums_size]
    unfold textOf
    have h1 := digs_length 10 65 (-n) 1
    have h2 := digs_length 10 65 n 1
    split
    · simp only [List.length_cons]; omega
    · omega
  refine ⟨400, ?_⟩
  unfold pascalinelaw01_WordTexts.f
  rw [awake_eq, word_text_eq n hn', word_hex_eq w (by omega)]
  simp only [Option.bind_some]
  rw [word_parseHex_eq 400 _ (by omega), word_parse_eq 400 _ (by omega), ref_text_eq n hn', ref_hex_eq 391 w (by omega), bytesOf_nums _ (hexOf_bytes w hw'.1), bytesOf_nums _ (text_bytes n), parse_hex w (by omega)]
  simp only [Option.bind_some]
  rw [if_pos trivial, if_pos trivial, if_pos trivial, if_pos trivial, show (w != w) = false by simp]
  exact texts_j0 399 n hn'
end Go.Proofs.Ytlfhgednlljkoaa.Pure

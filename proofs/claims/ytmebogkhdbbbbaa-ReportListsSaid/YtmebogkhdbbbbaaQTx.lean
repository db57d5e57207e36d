/- What the printed functions of word and of its reference answer: texts of numbers. -/
import Derived.Test.YtmebogkhdbbbbaaPx1
import Derived.Test.YtmebogkhdbbbbaaCText
import Derived.Test.YtmebogkhdbbbbaaPx20
import Derived.Test.YtmebogkhdbbbbaaPx23
namespace Go.Proofs.Ytmebogkhdbbbbaa.Q
open Go Go.RowKit Go.Proofs.Ytmebogkhdbbbbaa.P Go.Proofs.Ytmebogkhdbbbbaa.C Go.Proofs.YtmebogkhdbbbbaaW.PrintWords Go.Proofs.YtmebogkhdbbbbaaW.PrintLast Go.Proofs.YtmebogkhdbbbbaaW.PrintMore
theorem u64_wrap (x : Int) : IntKind.u64.wrap x = x % 18446744073709551616 := by simp [IntKind.wrap, IntKind.signed, IntKind.bits]
theorem word_text_eq (n : Int) (h : -9223372036854775808 ≤ n ∧ n ≤ 9223372036854775807) : word_Text.f n = some (strOfNums (textOf n)) := by
  unfold word_Text.f word_digits.f textOf
  by_cases h0 : n < 0
  · have e : IntKind.u64.wrap (wrap64 (-n)) = -n := by rw [u64_wrap]; unfold wrap64; omega
    rw [if_pos h0, e, if_pos (.inl rfl), if_pos (by omega), if_pos h0]
    simp only [Option.bind_some]
    have hl := digs_length 10 65 (-n) 1
    rw [show min 64 (max 1 1 : Int).toNat = 1 by decide, if_pos (by rw [strOfNums_size]; omega), strOfNums_cons]
    rfl
  · have e : IntKind.u64.wrap n = n := by rw [u64_wrap]; omega
    rw [if_neg h0, e, if_pos (.inl rfl), if_pos (by omega), if_neg h0]
    rfl
theorem ref_text_eq (n : Int) (h : -9223372036854775808 ≤ n ∧ n ≤ 9223372036854775807) : pascalineref01_Text.f n = some (strOfNums (textOf n)) := by
  unfold pascalineref01_Text.f; rw [if_pos (by omega)]
end Go.Proofs.Ytmebogkhdbbbbaa.Q

/- What the printed functions of word and of its reference answer: texts of words. -/
namespace Go.Proofs.Ytmebogkhdbbbbaa.Q
open Go Go.RowKit Go.Proofs.Ytmebogkhdbbbbaa.P Go.Proofs.Ytmebogkhdbbbbaa.C Go.Proofs.YtmebogkhdbbbbaaW.PrintWords Go.Proofs.YtmebogkhdbbbbaaW.PrintLast Go.Proofs.YtmebogkhdbbbbaaW.PrintMore

theorem word_hex_eq (w : Int) (h : 0 ≤ w ∧ w < 4294967296) : word_Hex.f w = some (strOfNums (hexOf w)) := by
  unfold word_Hex.f word_digits.f hexOf
  have e : IntKind.u64.wrap w = w := by rw [u64_wrap]; omega
  rw [e, if_pos (.inr rfl), if_pos (by omega)]
  rfl
theorem hex_sign (d : Nat) (h : d < 16) : (⟨#[48, 49, 50, 51, 52, 53, 54, 55, 56, 57, 97, 98, 99, 100, 101, 102]⟩ : ByteArray).extract d (d + 1) = strOfNums [dg (d : Int)] := by
  have : ∀ d : Fin 16, (⟨#[48, 49, 50, 51, 52, 53, 54, 55, 56, 57, 97, 98, 99, 100, 101, 102]⟩ : ByteArray).extract d.1 (d.1 + 1) = strOfNums [dg (d.1 : Int)] := by decide +kernel
  exact this ⟨d, h⟩
theorem hex_step (k : Nat) (x : Int) (ds : List Int) (i : Int) (hi : 0 ≤ i ∧ i < 8) (hx : 0 ≤ x ∧ x < 4294967296) (hd : ds.length < 100) :
    pascalineref01_Hex.l0 (k + 1) x (strOfNums ds) i = pascalineref01_Hex.l0 k (x / 16) (strOfNums (dg (x % 16) :: ds)) (i + 1) := by
  simp only [pascalineref01_Hex.l0]
  rw [tmod_pos _ _ hx.1, tdiv_pos _ _ hx.1]
  obtain ⟨d, hd1⟩ : ∃ d : Nat, x % 16 = (d : Int) := ⟨(x % 16).toNat, by omega⟩
  have e1 : ((x % 16 + 1) % 4294967296).toNat = d + 1 := by omega
  have e2 : (x % 16).toNat = d := by omega
  rw [e1, e2, hex_sign d (by omega)]
  rw [if_pos hi.2, if_pos (by omega), if_pos (by omega), if_pos (by omega), if_pos (by rw [strOfNums_size, strOfNums_size]; simp; omega)]
  rw [wrap64_in (by omega), show x / 16 % 4294967296 = x / 16 by omega, strOfNums_cons (dg (x % 16)) ds, hd1]
theorem ref_hex_eq (k : Nat) (w : Int) (h : 0 ≤ w ∧ w < 4294967296) : pascalineref01_Hex.f (k + 9) w = some (strOfNums (hexOf w)) := by
  unfold pascalineref01_Hex.f
  rw [show (⟨#[]⟩ : ByteArray) = strOfNums [] from rfl]
  rw [hex_step _ _ _ _ (by omega) (by omega) (by simp), hex_step _ _ _ _ (by omega) (by omega) (by simp), hex_step _ _ _ _ (by omega) (by omega) (by simp), hex_step _ _ _ _ (by omega) (by omega) (by simp), hex_step _ _ _ _ (by omega) (by omega) (by simp), hex_step _ _ _ _ (by omega) (by omega) (by simp), hex_step _ _ _ _ (by omega) (by omega) (by simp), hex_step _ _ _ _ (by omega) (by omega) (by simp)]
  simp only [pascalineref01_Hex.l0]
  rw [if_neg (by omega), hexOf_eq w h]
  rw [show w / 16 / 16 = w / 256 by omega, show w / 256 / 16 = w / 4096 by omega, show w / 4096 / 16 = w / 65536 by omega, show w / 65536 / 16 = w / 1048576 by omega, show w / 1048576 / 16 = w / 16777216 by omega, show w / 16777216 / 16 = w / 268435456 by omega]

/-! ### Reading a number -/
end Go.Proofs.Ytmebogkhdbbbbaa.Q

/- WordBytes: any word's four bytes are put behind what was there, the lowest first, and any four bytes are the word that the document says; other numbers of bytes are none. For every out, w and data (more than 100 bytes are let go by the statement itself); no condition. -/
import Derived.Test.YtlfhgednlljkoaaQDiv
namespace Go.Proofs.Ytlfhgednlljkoaa.Pure
open Go Go.RowKit Go.Proofs.Ytlfhgednlljkoaa.P Go.Proofs.Ytlfhgednlljkoaa.Q Go.Proofs.Ytlfhgednlljkoaa.C Go.Proofs.YtlfhgednlljkoaaW.PrintWords Go.Proofs.YtlfhgednlljkoaaW.PrintLast

theorem rd_nat (xs : List Int) (j : Nat) (h : j < xs.length) : rd xs (j : Int) = xs[j] := by
  simp [rd, List.getD_eq_getElem?_getD, h]
theorem same_loop (xs : List Int) (hl : xs.length ≤ 9223372036854775807) (d : Nat) : ∀ (k j : Nat), xs.length - j = d → j ≤ xs.length → d < k → pascalineref01_Same.l0 k xs xs (j : Int) = some true := by
  induction d with
  | zero =>
    intro k j hd hj hk
    obtain ⟨k, rfl⟩ : ∃ m, k = m + 1 := ⟨k - 1, by omega⟩
    simp only [pascalineref01_Same.l0]; rw [if_neg (by omega)]
  | succ d ih =>
    intro k j hd hj hk
    obtain ⟨k, rfl⟩ : ∃ m, k = m + 1 := ⟨k - 1, by omega⟩
    simp only [pascalineref01_Same.l0]
    rw [if_pos (by omega), if_pos (by omega), if_pos (by omega), if_pos trivial, wrap64_in (by omega)]
    exact ih k (j + 1) (by omega) (by omega) (by omega)
theorem same_f (xs : List Int) (hl : xs.length ≤ 9223372036854775807) (k : Nat) (hk : xs.length < k) : pascalineref01_Same.f k xs xs = some true := by
  unfold pascalineref01_Same.f
  rw [if_pos rfl]
  exact same_loop xs hl xs.length k 0 (by omega) (by omega) hk
theorem bytes_step (k : Nat) (x : Int) (out : List Int) (i : Int) (hi : 0 ≤ i ∧ i < 4) (hx : 0 ≤ x ∧ x < 4294967296) (ho : out.length < 10) :
    pascalineref01_Bytes.l0 (k + 1) x out i = pascalineref01_Bytes.l0 k (x / 256) (out ++ [x % 256]) (i + 1) := by
  simp only [pascalineref01_Bytes.l0]
  rw [if_pos hi.2, if_pos (by omega), tdiv_pos _ _ hx.1, tmod_pos _ _ hx.1, wrap64_in (by omega)]
  rw [show x / 256 % 4294967296 = x / 256 by omega, show x % 256 % 256 = x % 256 by omega]
theorem bytes_f (k : Nat) (w : Int) (hw : 0 ≤ w ∧ w < 4294967296) : pascalineref01_Bytes.f (k + 5) w = some [w % 256, w / 256 % 256, w / 65536 % 256, w / 16777216 % 256] := by
  unfold pascalineref01_Bytes.f
  rw [bytes_step _ _ _ _ (by omega) (by omega) (by simp), bytes_step _ _ _ _ (by omega) (by omega) (by simp), bytes_step _ _ _ _ (by omega) (by omega) (by simp), bytes_step _ _ _ _ (by omega) (by omega) (by simp)]
  simp only [pascalineref01_Bytes.l0]
  rw [if_neg (by omega)]
  simp only [List.nil_append, List.cons_append]
  rw [show w / 256 / 256 = w / 65536 by omega, show w / 65536 / 256 = w / 16777216 by omega]
theorem rword_step (k : Nat) (l : List Int) (x : Int) (i : Nat) (hi : i < l.length) (hi4 : i < 4) (hx : 0 ≤ x ∧ x < 16777216) (hb : 0 ≤ l[i] ∧ l[i] ≤ 255) :
    pascalineref01_Word.l0 (k + 1) l x (i : Int) = pascalineref01_Word.l0 k l (x * 256 + l[i]) ((i : Int) - 1) := by
  simp only [pascalineref01_Word.l0]
  rw [if_pos (by omega), if_pos (by omega), if_pos (by omega), rd_nat l i hi, wrap64_in (by omega), show ((x * 256) % 4294967296 + l[i] % 4294967296) % 4294967296 = x * 256 + l[i] by omega]
theorem rword_f (k : Nat) (a b c d : Int) (ha : 0 ≤ a ∧ a ≤ 255) (hb : 0 ≤ b ∧ b ≤ 255) (hc : 0 ≤ c ∧ c ≤ 255) (hd : 0 ≤ d ∧ d ≤ 255) :
    pascalineref01_Word.f (k + 5) [a, b, c, d] = some (((d * 256 + c) * 256 + b) * 256 + a) := by
  unfold pascalineref01_Word.f
  have h3 := rword_step (k + 4) [a, b, c, d] 0 3 (by simp) (by omega) (by omega) hd
  have h2 := rword_step (k + 3) [a, b, c, d] d 2 (by simp) (by omega) (by omega) hc
  have h1 := rword_step (k + 2) [a, b, c, d] (d * 256 + c) 1 (by simp) (by omega) (by omega) hb
  have h0 := rword_step (k + 1) [a, b, c, d] ((d * 256 + c) * 256 + b) 0 (by simp) (by omega) (by omega) ha
  simp at h3 h2 h1 h0
  rw [h3, h2, h1, h0]
  simp [pascalineref01_Word.l0]
theorem get_f (a b c d : Int) (ha : 0 ≤ a ∧ a ≤ 255) (hb : 0 ≤ b ∧ b ≤ 255) (hc : 0 ≤ c ∧ c ≤ 255) (hd : 0 ≤ d ∧ d ≤ 255) :
    word_Get.f [a, b, c, d] = some (((d * 256 + c) * 256 + b) * 256 + a, true) := by
  unfold word_Get.f
  simp [rd]
  rw [show a % 4294967296 = a by omega, show b % 4294967296 * 256 % 4294967296 = b * 256 by omega, show c % 4294967296 * 65536 % 4294967296 = c * 65536 by omega, show d % 4294967296 * 16777216 % 4294967296 = d * 16777216 by omega]
  rw [or_lo 8 (b * 256) a (by omega) (by omega) (by omega) (by omega) (by omega) (by omega)]
  rw [or_lo 16 (c * 65536) (a + b * 256) (by omega) (by omega) (by omega) (by omega) (by omega) (by omega)]
  rw [or_lo 24 (d * 16777216) (a + b * 256 + c * 65536) (by omega) (by omega) (by omega) (by omega) (by omega) (by omega)]
  omega
theorem get_no (l : List Int) (h : l.length ≠ 4) : word_Get.f l = some (0, false) := by
  unfold word_Get.f
  rw [if_neg (by omega)]
theorem bytes_j0 (l0 : List Int) (w : Int) (l2 : List Int) (h0 : l0.length ≤ 100) (hw : 0 ≤ w ∧ w < 4294967296) (hl2 : ∀ x ∈ l2, 0 ≤ x ∧ x ≤ 255) (k : Nat) (hk : 200 < k) :
    pascalinelaw01_WordBytes.j0 (k + 6) l0 w l2 false = some true := by
  simp only [pascalinelaw01_WordBytes.j0, Option.bind_some]
  rw [if_neg (by simp), if_pos (by simp; omega)]
  have hp : word_Put.f ([] ++ l0) w = some (l0 ++ [w % 256, w / 256 % 256, w / 65536 % 256, w / 16777216 % 256]) := by
    unfold word_Put.f
    simp only [Option.bind_some, List.nil_append]
    rw [if_pos (by simp; omega)]
  rw [hp]
  simp only [Option.bind_some]
  rw [if_pos (by simp; omega), bytes_f k w hw]
  simp only [Option.bind_some, List.nil_append]
  rw [if_pos (by simp; omega), same_f _ (by simp; omega) _ (by simp; omega)]
  simp only [Option.bind_some]
  rw [if_pos trivial]
  by_cases h4 : l2.length = 4
  · match l2, h4, hl2 with
    | [a, b, c, d], _, hl2 =>
      rw [get_f a b c d (hl2 a (by simp)) (hl2 b (by simp)) (hl2 c (by simp)) (hl2 d (by simp))]
      simp only [Option.bind_some]
      rw [if_pos (by simp), if_pos trivial, rword_f k a b c d (hl2 a (by simp)) (hl2 b (by simp)) (hl2 c (by simp)) (hl2 d (by simp))]
      simp
  · rw [get_no l2 h4]
    simp only [Option.bind_some]
    rw [if_neg (by omega), if_neg (by simp)]
    rfl
theorem WordBytes : pascalinelaw01_WordBytes.Pure := by
  intro l0 w l2 _ _ _ hw _ _ hl2
  refine ⟨300 + 6, ?_⟩
  unfold pascalinelaw01_WordBytes.f
  rw [awake_eq]
  simp only [Option.bind_some]
  rw [if_pos trivial]
  have hw' := bounds_u32 hw
  have hl2' : ∀ x ∈ l2, 0 ≤ x ∧ x ≤ 255 := fun x hx => bounds_u8 (hl2 x hx)
  by_cases h1 : (l0.length : Int) > 100
  · rw [if_pos h1, pascalinelaw01_WordBytes.j0, if_pos rfl]
  · rw [if_neg h1]
    by_cases h2 : (l2.length : Int) > 100
    · rw [decide_eq_true h2, pascalinelaw01_WordBytes.j0, if_pos rfl]
    · rw [decide_eq_false h2]
      exact bytes_j0 l0 w l2 (by omega) (by omega) hl2' 300 (by omega)
end Go.Proofs.Ytlfhgednlljkoaa.Pure

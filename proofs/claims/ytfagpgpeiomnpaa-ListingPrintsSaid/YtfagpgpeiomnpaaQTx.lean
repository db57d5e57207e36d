/- What the printed functions of word and of its reference answer: texts of numbers. -/
import Derived.Test.YtfagpgpeiomnpaaPx1
import Derived.Test.YtfagpgpeiomnpaaPx12
import Derived.Test.YtfagpgpeiomnpaaPx28
import Derived.Test.YtfagpgpeiomnpaaCText
import Derived.Test.YtfagpgpeiomnpaaPx19
import Derived.Test.YtfagpgpeiomnpaaPx41
import Derived.Test.YtfagpgpeiomnpaaCDigs
namespace Go.Proofs.Ytfagpgpeiomnpaa.Q
open Go Go.RowKit Go.Proofs.Ytfagpgpeiomnpaa.P Go.Proofs.Ytfagpgpeiomnpaa.C Go.Proofs.YtfagpgpeiomnpaaW.PrintWords Go.Proofs.YtfagpgpeiomnpaaW.PrintLast Go.Proofs.YtfagpgpeiomnpaaW.PrintMore
theorem u64_wrap (x : Int) : IntKind.u64.wrap x = x % 18446744073709551616 := by simp [IntKind.wrap, IntKind.signed, IntKind.bits]
theorem word_text_eq (n : Int) (h : -9223372036854775808 ≤ n ∧ n ≤ 9223372036854775807) : word_Text.f n = some (strOfNums (textOf n)) := by
  unfold word_Text.f word_digits.f textOf
  by_cases h0 : n < 0
  · have e : IntKind.u64.wrap (wrap64 (-n)) = -n := by rw [u64_wrap]; unfold wrap64; omega
    rw [if_pos h0, e, if_pos (.inl rfl), if_pos (by omega), if_pos h0]
    simp only [Option.bind_some]
    have hl := digs_length 10 65 (-n) 1
    rw [show min 64 (max 1 1 : Int).toNat = 1 by decide, if_pos (by rw [strOfNums_size]; omega), strOfNums_cons]
    rfl
  · have e : IntKind.u64.wrap n = n := by rw [u64_wrap]; omega
    rw [if_neg h0, e, if_pos (.inl rfl), if_pos (by omega), if_neg h0]
    rfl
theorem ref_text_eq (n : Int) (h : -9223372036854775808 ≤ n ∧ n ≤ 9223372036854775807) : pascalineref01_Text.f n = some (strOfNums (textOf n)) := by
  unfold pascalineref01_Text.f; rw [if_pos (by omega)]
end Go.Proofs.Ytfagpgpeiomnpaa.Q

/- What the printed functions of word and of its reference answer: texts of words. -/
namespace Go.Proofs.Ytfagpgpeiomnpaa.Q
open Go Go.RowKit Go.Proofs.Ytfagpgpeiomnpaa.P Go.Proofs.Ytfagpgpeiomnpaa.C Go.Proofs.YtfagpgpeiomnpaaW.PrintWords Go.Proofs.YtfagpgpeiomnpaaW.PrintLast Go.Proofs.YtfagpgpeiomnpaaW.PrintMore

theorem word_hex_eq (w : Int) (h : 0 ≤ w ∧ w < 4294967296) : word_Hex.f w = some (strOfNums (hexOf w)) := by
  unfold word_Hex.f word_digits.f hexOf
  have e : IntKind.u64.wrap w = w := by rw [u64_wrap]; omega
  rw [e, if_pos (.inr rfl), if_pos (by omega)]
  rfl
theorem hex_sign (d : Nat) (h : d < 16) : (⟨#[48, 49, 50, 51, 52, 53, 54, 55, 56, 57, 97, 98, 99, 100, 101, 102]⟩ : ByteArray).extract d (d + 1) = strOfNums [dg (d : Int)] := by
  have : ∀ d : Fin 16, (⟨#[48, 49, 50, 51, 52, 53, 54, 55, 56, 57, 97, 98, 99, 100, 101, 102]⟩ : ByteArray).extract d.1 (d.1 + 1) = strOfNums [dg (d.1 : Int)] := by decide +kernel
  exact this ⟨d, h⟩
theorem hex_step (k : Nat) (x : Int) (ds : List Int) (i : Int) (hi : 0 ≤ i ∧ i < 8) (hx : 0 ≤ x ∧ x < 4294967296) (hd : ds.length < 100) :
    pascalineref01_Hex.l0 (k + 1) x (strOfNums ds) i = pascalineref01_Hex.l0 k (x / 16) (strOfNums (dg (x % 16) :: ds)) (i + 1) := by
  simp only [pascalineref01_Hex.l0]
  rw [tmod_pos _ _ hx.1, tdiv_pos _ _ hx.1]
  obtain ⟨d, hd1⟩ : ∃ d : Nat, x % 16 = (d : Int) := ⟨(x % 16).toNat, by omega⟩
  have e1 : ((x % 16 + 1) % 4294967296).toNat = d + 1 := by omega
  have e2 : (x % 16).toNat = d := by omega
  rw [e1, e2, hex_sign d (by omega)]
  rw [if_pos hi.2, if_pos (by omega), if_pos (by omega), if_pos (by omega), if_pos (by rw [strOfNums_size, strOfNums_size]; simp; omega)]
  rw [wrap64_in (by omega), show x / 16 % 4294967296 = x / 16 by omega, strOfNums_cons (dg (x % 16)) ds, hd1]
theorem ref_hex_eq (k : Nat) (w : Int) (h : 0 ≤ w ∧ w < 4294967296) : pascalineref01_Hex.f (k + 9) w = some (strOfNums (hexOf w)) := by
  unfold pascalineref01_Hex.f
  rw [show (⟨#[]⟩ : ByteArray) = strOfNums [] from rfl]
  rw [hex_step _ _ _ _ (by omega) (by omega) (by simp), hex_step _ _ _ _ (by omega) (by omega) (by simp), hex_step _ _ _ _ (by omega) (by omega) (by simp), hex_step _ _ _ _ (by omega) (by omega) (by simp), hex_step _ _ _ _ (by omega) (by omega) (by simp), hex_step _ _ _ _ (by omega) (by omega) (by simp), hex_step _ _ _ _ (by omega) (by omega) (by simp), hex_step _ _ _ _ (by omega) (by omega) (by simp)]
  simp only [pascalineref01_Hex.l0]
  rw [if_neg (by omega), hexOf_eq w h]
  rw [show w / 16 / 16 = w / 256 by omega, show w / 256 / 16 = w / 4096 by omega, show w / 4096 / 16 = w / 65536 by omega, show w / 65536 / 16 = w / 1048576 by omega, show w / 1048576 / 16 = w / 16777216 by omega, show w / 16777216 / 16 = w / 268435456 by omega]

/-! ### Reading a number -/
end Go.Proofs.Ytfagpgpeiomnpaa.Q

/- What the printed functions of word and of its reference answer: how words are read. -/
namespace Go.Proofs.Ytfagpgpeiomnpaa.Q
open Go Go.RowKit Go.Proofs.Ytfagpgpeiomnpaa.P Go.Proofs.Ytfagpgpeiomnpaa.C Go.Proofs.YtfagpgpeiomnpaaW.PrintWords Go.Proofs.YtfagpgpeiomnpaaW.PrintLast Go.Proofs.YtfagpgpeiomnpaaW.PrintMore

def hexOk (bs : List Int) : Bool := bs.all (fun c => decide (0 ≤ hexVal c))
def hexFrom (w : Int) (bs : List Int) : Int := bs.foldl (fun w c => w * 16 + hexVal c) w
theorem pow16 (j : Nat) (h : j ≤ 8) : 1 ≤ (16 : Int) ^ j ∧ (16 : Int) ^ j ≤ 4294967296 := by
  have h1 : (16 : Nat) ^ j ≤ 16 ^ 8 := Nat.pow_le_pow_right (by omega) h
  have h2 : 1 ≤ (16 : Nat) ^ j := Nat.one_le_pow _ _ (by omega)
  have h3 : ((16 : Nat) ^ j : Int) = (16 : Int) ^ j := by norm_cast
  have h4 : (16 : Nat) ^ 8 = 4294967296 := by decide
  omega
theorem hexOk_cons (c : Int) (l : List Int) : hexOk (c :: l) = (decide (0 ≤ hexVal c) && hexOk l) := by unfold hexOk; rw [List.all_cons]
theorem or16 (w d : Int) (hw : 0 ≤ w ∧ w * 16 + 16 ≤ 4294967296) (hd : 0 ≤ d ∧ d ≤ 15) : Go.bits .or .u32 (w * 16 % 4294967296) d = w * 16 + d := by
  rw [show w * 16 % 4294967296 = w * 16 by omega]
  exact or_hi 4 (w * 16) d (by omega) (by omega) (by omega) (by omega) (by omega) (by omega)
theorem hex_loop (s : ByteArray) (hl : s.size = 8) (d : Nat) : ∀ (k j : Nat) (w : Int), s.size - j = d → j ≤ s.size → 2 * d < k → 0 ≤ w → w < 16 ^ j →
    word_ParseHex.l0 k s w (s.size : Int) (j : Int) = some (if hexOk ((bytesOf s).drop j) = true then (hexFrom w ((bytesOf s).drop j), true) else (0, false)) := by
  induction d with
  | zero =>
    intro k j n hd hj hk h0 h1
    obtain ⟨k, rfl⟩ : ∃ m, k = m + 1 := ⟨k - 1, by omega⟩
    have e : (bytesOf s).drop j = [] := List.drop_eq_nil_of_le (by rw [bytesOf_length]; omega)
    rw [e]
    simp only [word_ParseHex.l0]
    rw [if_neg (by omega)]; rfl
  | succ d ih =>
    intro k j w hd hj hk h0 h1
    obtain ⟨k, rfl⟩ : ∃ m, k = m + 2 := ⟨k - 2, by omega⟩
    have hlt : j < (bytesOf s).length := by rw [bytesOf_length]; omega
    have hr := bytesOf_range s _ (List.getElem_mem hlt)
    have hp := pow16 j (by omega)
    have hp1 := pow16 (j + 1) (by omega)
    have hps : (16 : Int) ^ (j + 1) = 16 ^ j * 16 := Int.pow_succ ..
    have hb := bt_get s j hlt
    have hs : word_ParseHex.l0 (k + 2) s w (s.size : Int) (j : Int) = word_ParseHex.j1 (k + 1) s w (bytesOf s)[j] (s.size : Int) (j : Int) (decide (48 ≤ (bytesOf s)[j] ∧ (bytesOf s)[j] ≤ 57)) := by
      rw [show k + 2 = (k + 1) + 1 from rfl, word_ParseHex.l0, if_pos (by omega), if_pos (by omega), if_pos (by omega), hb]
      by_cases h48 : (bytesOf s)[j] ≥ 48
      · rw [if_pos h48]; congr 1; rw [decide_eq_decide]; omega
      · rw [if_neg h48, decide_eq_false (by omega)]
    rw [hs, List.drop_eq_getElem_cons hlt, hexOk_cons]
    simp only [word_ParseHex.j1]
    by_cases hc : 48 ≤ (bytesOf s)[j] ∧ (bytesOf s)[j] ≤ 57
    · have hv : hexVal (bytesOf s)[j] = (bytesOf s)[j] - 48 := by unfold hexVal; rw [if_pos hc]
      rw [if_pos (decide_eq_true hc), decide_eq_true (show 0 ≤ hexVal (bytesOf s)[j] by omega), Bool.true_and, show ((bytesOf s)[j] - 48) % 256 = hexVal (bytesOf s)[j] by omega, or16 w _ (by omega) (by omega), wrap64_in (n := (j : Int) + 1) (by omega)]
      exact ih k (j + 1) _ (by omega) (by omega) (by omega) (by omega) (by omega)
    · rw [if_neg (by rw [decide_eq_false hc]; simp)]
      by_cases h97 : 97 ≤ (bytesOf s)[j] ∧ (bytesOf s)[j] ≤ 102
      · have hv : hexVal (bytesOf s)[j] = (bytesOf s)[j] - 87 := by unfold hexVal; rw [if_neg hc, if_pos h97]
        rw [if_pos h97.1, if_pos h97.2, decide_eq_true (show 0 ≤ hexVal (bytesOf s)[j] by omega), Bool.true_and, show (((bytesOf s)[j] - 97) % 256 + 10) % 256 = hexVal (bytesOf s)[j] by omega, or16 w _ (by omega) (by omega), wrap64_in (n := (j : Int) + 1) (by omega)]
        exact ih k (j + 1) _ (by omega) (by omega) (by omega) (by omega) (by omega)
      · have hv : hexVal (bytesOf s)[j] = -1 := by unfold hexVal; rw [if_neg hc, if_neg h97]
        rw [decide_eq_false (show ¬ 0 ≤ hexVal (bytesOf s)[j] by omega), Bool.false_and]
        simp only [Bool.false_eq_true, if_false]
        split
        · rw [if_neg (by omega)]
        · rfl
theorem parseHexOf_alt (bs : List Int) (h : bs.length = 8) : parseHexOf bs = if hexOk bs = true then (hexFrom 0 bs, true) else (0, false) := by
  unfold parseHexOf hexOk hexFrom hexAll
  by_cases e : bs.all (fun c => decide (0 ≤ hexVal c)) = true
  · rw [if_pos ⟨h, e⟩, if_pos e]
  · rw [if_neg (fun f => e f.2), if_neg e]
theorem word_parseHex_eq (k : Nat) (s : ByteArray) (hk : 20 < k) : word_ParseHex.f k s = some (parseHexOf (bytesOf s)) := by
  unfold word_ParseHex.f
  have hL := bytesOf_length s
  by_cases h : (s.size : Int) = 8
  · have := hex_loop s (by omega) 8 k 0 0 (by omega) (by omega) (by omega) (by omega) (by decide)
    rw [show ((0 : Nat) : Int) = 0 from rfl, List.drop_zero] at this
    rw [if_pos h, this, parseHexOf_alt _ (by omega)]
  · rw [if_neg h]
    unfold parseHexOf
    rw [if_neg (fun e => h (by omega))]
theorem sign_at (d : Nat) (h : d < 16) : bt (⟨#[48, 49, 50, 51, 52, 53, 54, 55, 56, 57, 97, 98, 99, 100, 101, 102]⟩ : ByteArray) (d : Int) = dg (d : Int) := by
  have : ∀ d : Fin 16, bt (⟨#[48, 49, 50, 51, 52, 53, 54, 55, 56, 57, 97, 98, 99, 100, 101, 102]⟩ : ByteArray) (d.1 : Int) = dg (d.1 : Int) := by decide +kernel
  exact this ⟨d, h⟩
theorem dg_hexVal (c : Int) (d : Int) (hd : 0 ≤ d ∧ d ≤ 15) : dg d = c ↔ hexVal c = d := by
  constructor
  · intro e; rw [← e, hexVal_dg d hd]
  · intro e
    unfold hexVal at e
    unfold dg
    split at e
    · rw [if_pos (by omega)]; omega
    · split at e
      · rw [if_neg (by omega)]; omega
      · omega
theorem rhex_inner (s : ByteArray) (w : Int) (j : Nat) (hj : j < (bytesOf s).length) (d : Nat) : ∀ (k q : Nat) (x : Int), 16 - q = d → q ≤ 16 → x = (if 0 ≤ hexVal (bytesOf s)[j] ∧ hexVal (bytesOf s)[j] < (q : Int) then hexVal (bytesOf s)[j] else -1) →
    pascalineref01_ParseHex.l1 (k + d) s w (j : Int) x (q : Int) = pascalineref01_ParseHex.l1 k s w (j : Int) (hexVal (bytesOf s)[j]) 16 := by
  have hv := hexVal_range (bytesOf s)[j]
  have hL := bytesOf_length s
  induction d with
  | zero =>
    intro k q x hd hq hx
    obtain rfl : q = 16 := by omega
    have : x = hexVal (bytesOf s)[j] := by rw [hx]; split <;> omega
    rw [this]; rfl
  | succ d ih =>
    intro k q x hd hq hx
    rw [show k + (d + 1) = (k + d) + 1 by omega, pascalineref01_ParseHex.l1, if_pos (by omega), if_pos (by omega), if_pos (by omega), if_pos (by omega), sign_at q (by omega), bt_get s j hj, wrap64_in (by omega)]
    by_cases e : dg (q : Int) = (bytesOf s)[j]
    · rw [if_pos e]
      have e2 := (dg_hexVal (bytesOf s)[j] (q : Int) (by omega)).1 e
      exact ih k (q + 1) _ (by omega) (by omega) (by rw [if_pos (by omega)]; omega)
    · rw [if_neg e]
      have e2 : hexVal (bytesOf s)[j] ≠ (q : Int) := fun f => e ((dg_hexVal _ _ (by omega)).2 f)
      refine ih k (q + 1) _ (by omega) (by omega) ?_
      rw [hx]
      by_cases f : 0 ≤ hexVal (bytesOf s)[j] ∧ hexVal (bytesOf s)[j] < (q : Int)
      · rw [if_pos f, if_pos (by omega)]
      · rw [if_neg f, if_neg (by omega)]
theorem rhex_loop (s : ByteArray) (hl : s.size = 8) (d : Nat) : ∀ (k j : Nat) (w : Int), 8 - j = d → j ≤ 8 → 18 * d < k → 0 ≤ w → w < 16 ^ j →
    pascalineref01_ParseHex.l0 k s w (j : Int) = some (if hexOk ((bytesOf s).drop j) = true then (hexFrom w ((bytesOf s).drop j), true) else (0, false)) := by
  have hL := bytesOf_length s
  induction d with
  | zero =>
    intro k j n hd hj hk h0 h1
    obtain ⟨k, rfl⟩ : ∃ m, k = m + 1 := ⟨k - 1, by omega⟩
    have e : (bytesOf s).drop j = [] := List.drop_eq_nil_of_le (by omega)
    rw [e]
    simp only [pascalineref01_ParseHex.l0]
    rw [if_neg (by omega)]; rfl
  | succ d ih =>
    intro k j w hd hj hk h0 h1
    obtain ⟨k, rfl⟩ : ∃ m, k = ((m + 1) + 16) + 1 := ⟨k - 18, by omega⟩
    have hlt : j < (bytesOf s).length := by omega
    have hv := hexVal_range (bytesOf s)[j]
    have hp := pow16 j (by omega)
    have hp1 := pow16 (j + 1) (by omega)
    have hps : (16 : Int) ^ (j + 1) = 16 ^ j * 16 := Int.pow_succ ..
    have hi := rhex_inner s w j hlt 16 (k + 1) 0 (-1) (by omega) (by omega) (by rw [if_neg (by omega)])
    rw [show ((0 : Nat) : Int) = 0 from rfl] at hi
    rw [pascalineref01_ParseHex.l0, if_pos (by omega), hi, pascalineref01_ParseHex.l1, if_neg (by omega), List.drop_eq_getElem_cons hlt, hexOk_cons]
    by_cases hn : hexVal (bytesOf s)[j] < 0
    · rw [if_pos hn, decide_eq_false (show ¬ 0 ≤ hexVal (bytesOf s)[j] by omega), Bool.false_and]; rfl
    · rw [if_neg hn, decide_eq_true (show 0 ≤ hexVal (bytesOf s)[j] by omega), Bool.true_and, wrap64_in (n := (j : Int) + 1) (by omega), show (w * 16 % 4294967296 + hexVal (bytesOf s)[j] % 4294967296) % 4294967296 = w * 16 + hexVal (bytesOf s)[j] by omega]
      exact ih k (j + 1) _ (by omega) (by omega) (by omega) (by omega) (by omega)
theorem ref_parseHex_eq (k : Nat) (s : ByteArray) (hk : 200 < k) : pascalineref01_ParseHex.f k s = some (parseHexOf (bytesOf s)) := by
  unfold pascalineref01_ParseHex.f
  have hL := bytesOf_length s
  by_cases h : (s.size : Int) = 8
  · have := rhex_loop s (by omega) 8 k 0 0 (by omega) (by omega) (by omega) (by omega) (by decide)
    rw [show ((0 : Nat) : Int) = 0 from rfl, List.drop_zero] at this
    rw [if_pos h, this, parseHexOf_alt _ (by omega)]
  · rw [if_neg h]
    unfold parseHexOf
    rw [if_neg (fun e => h (by omega))]
end Go.Proofs.Ytfagpgpeiomnpaa.Q

/- Lines of a listing: what the printed functions of listing and of its reference answer. -/
import Derived.Test.YtfagpgpeiomnpaaPx1
import Derived.Test.YtfagpgpeiomnpaaPx11
import Derived.Test.YtfagpgpeiomnpaaPx12
import Derived.Test.YtfagpgpeiomnpaaPx22
import Derived.Test.YtfagpgpeiomnpaaPx23
import Derived.Test.YtfagpgpeiomnpaaQNm
import Derived.Test.YtfagpgpeiomnpaaQTx
import Derived.Test.YtfagpgpeiomnpaaQDec
namespace Go.Proofs.Ytfagpgpeiomnpaa.Q
set_option linter.unusedSimpArgs false
set_option linter.unusedVariables false
open Go Go.RowKit Go.Proofs.Ytfagpgpeiomnpaa.P Go.Proofs.Ytfagpgpeiomnpaa.C Go.Proofs.YtfagpgpeiomnpaaW.PrintWords

def I64 (a : Int) : Prop := -9223372036854775808 ≤ a ∧ a ≤ 9223372036854775807
theorem text_at (k : Nat) (hk : 30 ≤ k) (op a b c i : Int) (ha : I64 a) (hb : I64 b) (hc : I64 c) (hi : I64 i) : instr_Text.f k op a b c i = some (itextOf op a b c i) := by
  unfold instr_Text.f itextOf
  rw [check_eq k (by omega)]
  simp only [Option.bind_some]
  by_cases h : checkOf op a b c i = 0
  · rw [if_pos h, if_pos h]
    have h1 := ((checkOf_ok op a b c i).1 h).1
    have h2 := shapeOf_op op h1
    rw [name_eq op h2.1 h2.2]
    simp only [Option.bind_some]
    rw [fields_eq k (by omega) op a b c i ha hb hc hi]
    simp only [Option.bind_some]
    have h3 := nm_size op h2.1 h2.2
    have h4 := fieldsAt_size (shapeOf op) op a b c i
    exact text_loop (fieldsOf op a b c i) (Nat.le_trans h4.1 (by omega)) h4.2 _ k 0 (nm op) rfl (by omega) (by have := h4.1; unfold fieldsOf; omega) (by have := h4.1; unfold fieldsOf; omega)
  · rw [if_neg h, if_neg h]
theorem rtext_at (k : Nat) (hk : 30 ≤ k) (op a b c i : Int) (ha : I64 a) (hb : I64 b) (hc : I64 c) (hi : I64 i) : pascalineref02_Text.f k op a b c i = some (itextOf op a b c i) := by
  unfold pascalineref02_Text.f itextOf
  rw [rcheck_eq k (by omega)]
  simp only [Option.bind_some]
  by_cases h : checkOf op a b c i = 0
  · rw [if_pos h, if_pos h]
    have h1 := ((checkOf_ok op a b c i).1 h).1
    have h2 := shapeOf_op op h1
    rw [rname_eq op h2.1 h2.2]
    simp only [Option.bind_some]
    rw [rfields_eq k (by omega) op a b c i (by omega) ha hb hc hi]
    simp only [Option.bind_some]
    have h3 := nm_size op h2.1 h2.2
    have h4 := fieldsAt_size (shapeOf op) op a b c i
    exact rtext_loop (fieldsOf op a b c i) (Nat.le_trans h4.1 (by omega)) h4.2 _ k 0 (nm op) rfl (by omega) (by have := h4.1; unfold fieldsOf; omega) (by have := h4.1; unfold fieldsOf; omega)
  · rw [if_neg h, if_neg h]
def hx (w : Int) : ByteArray := strOfNums (hexOf w)
theorem hx_size (w : Int) : (hx w).size ≤ 100 := by
  unfold hx
  rw [strOfNums_size]
  unfold hexOf
  exact Nat.le_trans (digs_length 16 65 w 8) (by omega)
def leadOf (at_ i : Int) : Int := (at_ + 4 + 4 * i) % 4294967296
def sp : ByteArray := ⟨#[32]⟩
def arrow : ByteArray := ⟨#[32, 45, 62, 32]⟩
theorem sp_size : sp.size = 1 := rfl
theorem arrow_size : arrow.size = 4 := rfl
def lineAt (at_ w op a b c i e : Int) : ByteArray :=
  hx at_ ++ sp ++ hx w ++ sp ++
    (if e = 0 then (if 20 ≤ op ∧ op ≤ 23 then (itextOf op a b c i).1 ++ arrow ++ hx (leadOf at_ i) else (itextOf op a b c i).1) else ⟨#[63]⟩)
def lineOf (at_ w : Int) : ByteArray := lineAt at_ w (decOf w).1 (decOf w).2.1 (decOf w).2.2.1 (decOf w).2.2.2.1 (decOf w).2.2.2.2.1 (decOf w).2.2.2.2.2
theorem target_eq (at_ op a b c i : Int) (hi : I64 i) : listing_Target.f at_ op a b c i = some (if 20 ≤ op ∧ op ≤ 23 then (leadOf at_ i, true) else (0, false)) := by
  have e : ((((at_ + 4) % 4294967296) + ((wrap64 (4 * i)) % 4294967296)) % 4294967296) = leadOf at_ i := by
    unfold leadOf wrap64; omega
  unfold listing_Target.f
  rw [e]
  by_cases h : 20 ≤ op ∧ op ≤ 23
  · rw [if_pos h]
    have : op = 20 ∨ op = 21 ∨ op = 22 ∨ op = 23 := by omega
    rcases this with rfl | rfl | rfl | rfl <;> simp
  · rw [if_neg h, if_neg (by omega), if_neg (by omega), if_neg (by omega), if_neg (by omega)]
theorem dec_i64 (w : Int) (hw : 0 ≤ w ∧ w ≤ 4294967295) : I64 (decOf w).1 ∧ I64 (decOf w).2.1 ∧ I64 (decOf w).2.2.1 ∧ I64 (decOf w).2.2.2.1 ∧ I64 (decOf w).2.2.2.2.1 := by
  have z : I64 0 := by unfold I64; omega
  unfold decOf
  split
  · show I64 (w / 16777216) ∧ I64 (fieldA w) ∧ I64 (fieldB w) ∧ I64 (fieldC w) ∧ I64 (fieldI w)
    refine ⟨?_, ?_, ?_, ?_, ?_⟩
    · unfold I64; omega
    · unfold fieldA; split
      · unfold I64; omega
      · exact z
    · unfold fieldB; split
      · unfold I64; omega
      · exact z
    · unfold fieldC; split
      · unfold I64; omega
      · exact z
    · unfold fieldI
      have h1 := sext_small w 32768 (by omega) (by omega)
      have h2 := sext_small w 8388608 (by omega) (by omega)
      unfold I64
      repeat' split
      all_goals omega
  · exact ⟨z, z, z, z, z⟩
theorem lead_range (at_ i : Int) : 0 ≤ leadOf at_ i ∧ leadOf at_ i < 4294967296 := by unfold leadOf; omega
theorem line_eq (k : Nat) (hk : 70 ≤ k) (at_ w : Int) (ha : 0 ≤ at_ ∧ at_ ≤ 4294967295) (hw : 0 ≤ w ∧ w ≤ 4294967295) : listing_Line.f k at_ w = some (lineOf at_ w) := by
  unfold listing_Line.f
  rw [word_hex_eq at_ (by omega), word_hex_eq w (by omega), dec_eq k (by omega) w hw]
  have h1 := hx_size at_
  have h2 := hx_size w
  obtain ⟨d1, d2, d3, d4, d5⟩ := dec_i64 w hw
  show ((some (hx at_)).bind _) = _
  simp only [Option.bind_some]
  rw [show strOfNums (hexOf w) = hx w from rfl, show (⟨#[32]⟩ : ByteArray) = sp from rfl, show (⟨#[32, 45, 62, 32]⟩ : ByteArray) = arrow from rfl]
  rw [if_pos (by omega), if_pos (by simp only [ByteArray.size_append, sp_size]; omega), if_pos (by simp only [ByteArray.size_append, sp_size]; omega)]
  unfold lineOf
  generalize decOf w = q at *
  obtain ⟨op, a, b, c, i, e⟩ := q
  simp only at d1 d2 d3 d4 d5 ⊢
  unfold lineAt
  by_cases he : e = 0
  · rw [if_pos he, if_pos he, text_at k (by omega) op a b c i d2 d3 d4 d5]
    simp only [Option.bind_some]
    have h3 := itext_size op a b c i
    have h4 := hx_size (leadOf at_ i)
    rw [if_pos (by simp only [ByteArray.size_append, sp_size]; omega), target_eq at_ op a b c i d5]
    simp only [Option.bind_some]
    by_cases hl : 20 ≤ op ∧ op ≤ 23
    · rw [if_pos hl, if_pos hl]
      simp only
      rw [if_pos trivial, word_hex_eq _ (lead_range at_ i)]
      simp only [Option.bind_some]
      rw [show strOfNums (hexOf (leadOf at_ i)) = hx (leadOf at_ i) from rfl]
      rw [if_pos (by omega), if_pos (by simp only [ByteArray.size_append, sp_size, arrow_size]; omega)]
      simp only [ByteArray.append_assoc]
    · rw [if_neg hl, if_neg hl]
      simp
  · rw [if_neg he, if_neg he]
    rw [if_pos (by simp only [ByteArray.size_append, sp_size]; omega)]
theorem rline_eq (k : Nat) (hk : 70 ≤ k) (at_ w : Int) (ha : 0 ≤ at_ ∧ at_ ≤ 4294967295) (hw : 0 ≤ w ∧ w ≤ 4294967295) : pascalineref06_Line.f k at_ w = some (lineOf at_ w) := by
  unfold pascalineref06_Line.f
  obtain ⟨m, rfl⟩ : ∃ m, k = m + 9 := ⟨k - 9, by omega⟩
  rw [ref_hex_eq m at_ (by omega), ref_hex_eq m w (by omega), rdec_eq (m + 9) (by omega) w hw]
  have h1 := hx_size at_
  have h2 := hx_size w
  obtain ⟨d1, d2, d3, d4, d5⟩ := dec_i64 w hw
  show ((some (hx at_)).bind _) = _
  simp only [Option.bind_some]
  rw [show strOfNums (hexOf w) = hx w from rfl, show (⟨#[32]⟩ : ByteArray) = sp from rfl, show (⟨#[32, 45, 62, 32]⟩ : ByteArray) = arrow from rfl]
  rw [if_pos (by omega), if_pos (by simp only [ByteArray.size_append, sp_size]; omega), if_pos (by simp only [ByteArray.size_append, sp_size]; omega)]
  unfold lineOf
  generalize decOf w = q at *
  obtain ⟨op, a, b, c, i, e⟩ := q
  simp only at d1 d2 d3 d4 d5 ⊢
  unfold lineAt
  by_cases he : e = 0
  · rw [if_pos he, if_pos he, rtext_at (m + 9) (by omega) op a b c i d2 d3 d4 d5]
    simp only [Option.bind_some]
    have h3 := itext_size op a b c i
    have h4 := hx_size (leadOf at_ i)
    have e : ((((at_ + 4) % 4294967296) + ((4 * (i % 4294967296)) % 4294967296)) % 4294967296) = leadOf at_ i := by
      unfold leadOf; omega
    rw [e, ref_hex_eq m _ (lead_range at_ i)]
    have hl0 : pascalineref06_leads.f op = some (decide (20 ≤ op ∧ op ≤ 23)) := by
      unfold pascalineref06_leads.f
      by_cases h : op ≥ 20
      · rw [if_pos h]; congr 1; rw [decide_eq_decide]; omega
      · rw [if_neg h]; congr 1; symm; rw [decide_eq_false_iff_not]; omega
    rw [hl0]
    simp only [Option.bind_some]
    by_cases hl : 20 ≤ op ∧ op ≤ 23
    · rw [if_pos (by rw [decide_eq_true hl]), if_pos hl]
      rw [show strOfNums (hexOf (leadOf at_ i)) = hx (leadOf at_ i) from rfl]
      rw [if_pos (by omega), if_pos (by simp only [ByteArray.size_append, arrow_size]; omega), if_pos (by simp only [ByteArray.size_append, sp_size, arrow_size]; omega)]
    · rw [if_neg (by rw [decide_eq_false hl]; simp), if_neg hl]
      rw [if_pos (by simp only [ByteArray.size_append, sp_size]; omega)]
  · rw [if_neg he, if_neg he]
    rw [if_pos (by simp only [ByteArray.size_append, sp_size]; omega)]
end Go.Proofs.Ytfagpgpeiomnpaa.Q

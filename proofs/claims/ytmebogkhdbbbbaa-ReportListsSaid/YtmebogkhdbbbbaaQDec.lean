/- What the printed functions of instr and of its reference answer: words read. -/
import Derived.Test.YtmebogkhdbbbbaaPx25
import Derived.Test.YtmebogkhdbbbbaaPx41
import Derived.Test.YtmebogkhdbbbbaaPx49
import Derived.Test.YtmebogkhdbbbbaaQSext
import Derived.Test.YtmebogkhdbbbbaaPx34
import Derived.Test.YtmebogkhdbbbbaaPx54
import Derived.Test.YtmebogkhdbbbbaaQNm
import Derived.Test.YtmebogkhdbbbbaaQTx
namespace Go.Proofs.Ytmebogkhdbbbbaa.Q
set_option linter.unusedVariables false
set_option linter.unusedSimpArgs false
open Go Go.RowKit Go.Proofs.Ytmebogkhdbbbbaa.P Go.Proofs.Ytmebogkhdbbbbaa.C Go.Proofs.YtmebogkhdbbbbaaW.PrintWords Go.Proofs.YtmebogkhdbbbbaaW.PrintLast Go.Proofs.YtmebogkhdbbbbaaW.PrintMore

/-- The fields that a word would have. -/
def fieldA (w : Int) : Int := if 1 ≤ shapeOf (w / 16777216) ∧ shapeOf (w / 16777216) ≤ 6 then w / 1048576 % 16 else 0
def fieldB (w : Int) : Int := if 3 ≤ shapeOf (w / 16777216) ∧ shapeOf (w / 16777216) ≤ 5 then w / 65536 % 16 else 0
def fieldC (w : Int) : Int := if shapeOf (w / 16777216) = 5 then w % 16 else 0
def fieldI (w : Int) : Int :=
  if shapeOf (w / 16777216) = 1 ∨ shapeOf (w / 16777216) = 3 then sext w 32768
  else if shapeOf (w / 16777216) = 2 ∨ shapeOf (w / 16777216) = 4 ∨ shapeOf (w / 16777216) = 8 then w % 65536
  else if shapeOf (w / 16777216) = 7 then sext w 8388608 else 0
def decOf (w : Int) : Int × Int × Int × Int × Int × Int :=
  if encOf (w / 16777216) (fieldA w) (fieldB w) (fieldC w) (fieldI w) = (w, 0) then (w / 16777216, fieldA w, fieldB w, fieldC w, fieldI w, 0) else (0, 0, 0, 0, 0, 21)
theorem sext_small (w h : Int) (hh : 0 < h) (hb : h ≤ 8388608) : -h ≤ sext w h ∧ sext w h < h := by
  unfold sext
  have h0 : 0 ≤ w % (2 * h) := Int.emod_nonneg _ (by omega)
  have h1 : w % (2 * h) < 2 * h := Int.emod_lt_of_pos _ (by omega)
  split <;> omega
/-- What both do at the end: write the fields again, and look whether the word comes. -/
def back (w op a b c i : Int) : Int × Int × Int × Int × Int × Int := if (encOf op a b c i).2 = 0 then (if (encOf op a b c i).1 = w then (op, a, b, c, i, 0) else (0, 0, 0, 0, 0, 21)) else (0, 0, 0, 0, 0, 21)
theorem back_eq (w op a b c i : Int) : back w op a b c i = if encOf op a b c i = (w, 0) then (op, a, b, c, i, 0) else (0, 0, 0, 0, 0, 21) := by
  unfold back
  by_cases h1 : (encOf op a b c i).2 = 0
  · rw [if_pos h1]
    by_cases h2 : (encOf op a b c i).1 = w
    · rw [if_pos h2, if_pos (by rw [← h1, ← h2])]
    · rw [if_neg h2, if_neg (fun e => h2 (by rw [e]))]
  · rw [if_neg h1, if_neg (fun e => h1 (by rw [e]))]
theorem shape_nat (w : Int) : (shapeOf (w / 16777216) = -1 ∨ shapeOf (w / 16777216) = 0 ∨ shapeOf (w / 16777216) = 1 ∨ shapeOf (w / 16777216) = 2 ∨ shapeOf (w / 16777216) = 3 ∨ shapeOf (w / 16777216) = 4 ∨ shapeOf (w / 16777216) = 5 ∨ shapeOf (w / 16777216) = 6 ∨ shapeOf (w / 16777216) = 7 ∨ shapeOf (w / 16777216) = 8) := shape_split _ (shapeOf_range _)
theorem rdec_at (m : Nat) (w s : Int) (hw : 0 ≤ w ∧ w ≤ 4294967295) (hs : shapeOf (w / 16777216) = s) : pascalineref02_Decode.f (m + 60) w = some (back w (w / 16777216) (fieldA w) (fieldB w) (fieldC w) (fieldI w)) := by
  have h16 := ref_sext16 (m + 56) w (by omega) hw
  have h24 := ref_sext24 (m + 55) w (by omega) hw
  have e16 := sext_small w 32768 (by omega) (by omega)
  have e24 := sext_small w 8388608 (by omega) (by omega)
  have w16 : wrap64 (sext w 32768) = sext w 32768 := wrap64_in (by omega)
  have w24 : wrap64 (sext w 8388608) = sext w 8388608 := wrap64_in (by omega)
  have t1 : (Int.tdiv w 16777216) % 4294967296 = w / 16777216 := by rw [tdiv_pos _ _ hw.1]; omega
  have t2 : (Int.tdiv w 1048576) % 16 = w / 1048576 % 16 := by rw [tdiv_pos _ _ hw.1]
  have t3 : (Int.tdiv w 65536) % 16 = w / 65536 % 16 := by rw [tdiv_pos _ _ hw.1]
  have t4 : wrap64 (Int.tmod w 16) = w % 16 := by rw [tmod_pos _ _ hw.1, wrap64_in (by omega)]
  have t5 : wrap64 (Int.tmod w 65536) = w % 65536 := by rw [tmod_pos _ _ hw.1, wrap64_in (by omega)]
  unfold pascalineref02_Decode.f fieldA fieldB fieldC fieldI
  rw [t1, rshape_eq (m + 60) _ (by omega), hs]
  have hr := shapeOf_range (w / 16777216)
  rw [hs] at hr
  rcases shape_split s hr with rfl | rfl | rfl | rfl | rfl | rfl | rfl | rfl | rfl | rfl
  all_goals
    simp [pascalineref02_has.f, pascalineref02_Decode.j0, pascalineref02_Decode.j1, pascalineref02_Decode.j2, pascalineref02_Decode.j3, pascalineref02_Decode.j4, h16, h24, w16, w24, t2, t3, t4, t5, renc_eq, back]
  all_goals
    (repeat' split) <;> first | rfl | simp_all
def candA (w : Int) : Int := if shapeOf (w / 16777216) = 7 then 0 else w / 1048576 % 16
def candB (w : Int) : Int := if shapeOf (w / 16777216) = 7 then 0 else w / 65536 % 16
theorem dec_at (m : Nat) (w s : Int) (hw : 0 ≤ w ∧ w ≤ 4294967295) (hs : shapeOf (w / 16777216) = s) : instr_Decode.f (m + 60) w = some (back w (w / 16777216) (candA w) (candB w) (fieldC w) (fieldI w)) := by
  have h16 := word_sext16 w hw
  have h24 := word_sext24 w hw
  have e16 := sext_small w 32768 (by omega) (by omega)
  have e24 := sext_small w 8388608 (by omega) (by omega)
  have w16 : wrap64 (sext w 32768) = sext w 32768 := wrap64_in (by omega)
  have w24 : wrap64 (sext w 8388608) = sext w 8388608 := wrap64_in (by omega)
  have t1 : wrap64 (w / 16777216) = w / 16777216 := wrap64_in (by omega)
  have b1 : 0 ≤ w / 1048576 ∧ w / 1048576 < 4294967296 := by omega
  have b2 : 0 ≤ w / 65536 ∧ w / 65536 < 4294967296 := by omega
  have b3 : 0 ≤ w ∧ w < 4294967296 := by omega
  have t2 := and4w (w / 1048576) b1
  have t3 := and4w (w / 65536) b2
  have t4 := and4w w b3
  have t5 := and16w w b3
  unfold instr_Decode.f candA candB fieldC fieldI
  rw [t1, shape_eq (m + 60) _ (Nat.le_trans (by decide : 10 ≤ 60) (Nat.le_add_left 60 m)), hs]
  have hr := shapeOf_range (w / 16777216)
  rw [hs] at hr
  rcases shape_split s hr with rfl | rfl | rfl | rfl | rfl | rfl | rfl | rfl | rfl | rfl
  all_goals
    simp [instr_Decode.j0, instr_Decode.j1, instr_Decode.j2, h16, h24, w16, w24, t2, t3, t4, t5, enc_eq, back]
  all_goals
    (repeat' split) <;> first | rfl | simp_all
theorem enc_fits (w op a b c i : Int) (h : encOf op a b c i = (w, 0)) : checkOf op a b c i = 0 ∧ wordOf op a b c i = w := by
  unfold encOf at h
  by_cases h1 : checkOf op a b c i = 0
  · rw [if_pos h1] at h; injection h with h; exact ⟨h1, h⟩
  · rw [if_neg h1] at h; injection h with _ h; exact absurd h h1
theorem cand_eq (w : Int) (hw : 0 ≤ w ∧ w ≤ 4294967295) : back w (w / 16777216) (candA w) (candB w) (fieldC w) (fieldI w) = back w (w / 16777216) (fieldA w) (fieldB w) (fieldC w) (fieldI w) := by
  by_cases he : candA w = fieldA w ∧ candB w = fieldB w
  · rw [he.1, he.2]
  · rw [back_eq, back_eq, if_neg, if_neg]
    · intro h
      obtain ⟨h1, h2⟩ := enc_fits _ _ _ _ _ _ h
      obtain ⟨g1, g⟩ := (checkOf_ok _ _ _ _ _).1 h1
      have e16 := sext_small w 32768 (by omega) (by omega)
      unfold wordOf fieldA fieldB fieldC fieldI at h2
      unfold candA candB fieldA fieldB at he
      rcases shape_nat w with hs | hs | hs | hs | hs | hs | hs | hs | hs | hs
      all_goals
        rw [hs] at h2 he g1
        simp at h2 he g1
      all_goals omega
    · intro h
      obtain ⟨h1, h2⟩ := enc_fits _ _ _ _ _ _ h
      obtain ⟨g1, g2, g3, g4, g5, g6, g7, g8, g9⟩ := (checkOf_ok _ _ _ _ _).1 h1
      unfold candA candB fieldA fieldB at he
      unfold candA at g5
      unfold candB at g6
      rcases shape_nat w with hs | hs | hs | hs | hs | hs | hs | hs | hs | hs
      all_goals
        rw [hs] at he g1 g5 g6
        simp at he g1 g5 g6
      all_goals omega
theorem dec_eq (k : Nat) (hk : 60 ≤ k) (w : Int) (hw : 0 ≤ w ∧ w ≤ 4294967295) : instr_Decode.f k w = some (decOf w) := by
  obtain ⟨m, rfl⟩ : ∃ m, k = m + 60 := ⟨k - 60, by omega⟩
  rw [dec_at m w _ hw rfl, cand_eq w hw, back_eq]; rfl
theorem rdec_eq (k : Nat) (hk : 60 ≤ k) (w : Int) (hw : 0 ≤ w ∧ w ≤ 4294967295) : pascalineref02_Decode.f k w = some (decOf w) := by
  obtain ⟨m, rfl⟩ : ∃ m, k = m + 60 := ⟨k - 60, by omega⟩
  rw [rdec_at m w _ hw rfl, back_eq]; rfl
set_option maxHeartbeats 4000000 in
/-- What is decoded of the word of an instruction that may be, is that instruction. -/
theorem dec_word (op a b c i : Int) (h : checkOf op a b c i = 0) : decOf (wordOf op a b c i) = (op, a, b, c, i, 0) ∧ (0 ≤ wordOf op a b c i ∧ wordOf op a b c i ≤ 4294967295) := by
  obtain ⟨g1, g2, g3, g4, g5, g6, g7, g8, g9⟩ := (checkOf_ok _ _ _ _ _).1 h
  have ho := shapeOf_op op g1
  have hr : -8388608 ≤ i ∧ i ≤ 8388607 := by
    unfold low at g8; unfold high at g9
    split at g8 <;> split at g9 <;> omega
  have hc : shapeOf op ≠ 7 → (i % 65536 = 0 ∨ c = 0) ∧ 0 ≤ i % 65536 + c ∧ i % 65536 + c < 65536 := by
    intro h7
    by_cases h5 : shapeOf op = 5
    · rw [h5] at g8 g9; simp [low, high] at g8 g9; omega
    · have := g7 h5; omega
  have hop : wordOf op a b c i / 16777216 = op := by unfold wordOf; split <;> omega
  have hw : 0 ≤ wordOf op a b c i ∧ wordOf op a b c i ≤ 4294967295 := by unfold wordOf; split <;> omega
  refine ⟨?_, hw⟩
  have hf : fieldA (wordOf op a b c i) = a ∧ fieldB (wordOf op a b c i) = b ∧ fieldC (wordOf op a b c i) = c ∧ fieldI (wordOf op a b c i) = i := by
    unfold fieldA fieldB fieldC fieldI sext
    rw [hop]
    unfold wordOf
    rcases shape_split _ (shapeOf_range op) with hs | hs | hs | hs | hs | hs | hs | hs | hs | hs
    all_goals
      rw [hs] at g1 g5 g6 g7 g8 g9 hc ⊢
      simp [low, high] at g1 g5 g6 g7 g8 g9 hc ⊢
    all_goals
      refine ⟨?_, ?_, ?_, ?_⟩ <;> (try split) <;> omega
  unfold decOf
  rw [hop, hf.1, hf.2.1, hf.2.2.1, hf.2.2.2, if_pos]
  unfold encOf; rw [if_pos h]
end Go.Proofs.Ytmebogkhdbbbbaa.Q

/- Lines of a listing: what the printed functions of listing and of its reference answer. -/
namespace Go.Proofs.Ytmebogkhdbbbbaa.Q
set_option linter.unusedSimpArgs false
set_option linter.unusedVariables false
open Go Go.RowKit Go.Proofs.Ytmebogkhdbbbbaa.P Go.Proofs.Ytmebogkhdbbbbaa.C Go.Proofs.YtmebogkhdbbbbaaW.PrintWords

def I64 (a : Int) : Prop := -9223372036854775808 ≤ a ∧ a ≤ 9223372036854775807
theorem text_at (k : Nat) (hk : 30 ≤ k) (op a b c i : Int) (ha : I64 a) (hb : I64 b) (hc : I64 c) (hi : I64 i) : instr_Text.f k op a b c i = some (itextOf op a b c i) := by
  unfold instr_Text.f itextOf
  rw [check_eq k (by omega)]
  simp only [Option.bind_some]
  by_cases h : checkOf op a b c i = 0
  · rw [if_pos h, if_pos h]
    have h1 := ((checkOf_ok op a b c i).1 h).1
    have h2 := shapeOf_op op h1
    rw [name_eq op h2.1 h2.2]
    simp only [Option.bind_some]
    rw [fields_eq k (by omega) op a b c i ha hb hc hi]
    simp only [Option.bind_some]
    have h3 := nm_size op h2.1 h2.2
    have h4 := fieldsAt_size (shapeOf op) op a b c i
    exact text_loop (fieldsOf op a b c i) (Nat.le_trans h4.1 (by omega)) h4.2 _ k 0 (nm op) rfl (by omega) (by have := h4.1; unfold fieldsOf; omega) (by have := h4.1; unfold fieldsOf; omega)
  · rw [if_neg h, if_neg h]
theorem rtext_at (k : Nat) (hk : 30 ≤ k) (op a b c i : Int) (ha : I64 a) (hb : I64 b) (hc : I64 c) (hi : I64 i) : pascalineref02_Text.f k op a b c i = some (itextOf op a b c i) := by
  unfold pascalineref02_Text.f itextOf
  rw [rcheck_eq k (by omega)]
  simp only [Option.bind_some]
  by_cases h : checkOf op a b c i = 0
  · rw [if_pos h, if_pos h]
    have h1 := ((checkOf_ok op a b c i).1 h).1
    have h2 := shapeOf_op op h1
    rw [rname_eq op h2.1 h2.2]
    simp only [Option.bind_some]
    rw [rfields_eq k (by omega) op a b c i (by omega) ha hb hc hi]
    simp only [Option.bind_some]
    have h3 := nm_size op h2.1 h2.2
    have h4 := fieldsAt_size (shapeOf op) op a b c i
    exact rtext_loop (fieldsOf op a b c i) (Nat.le_trans h4.1 (by omega)) h4.2 _ k 0 (nm op) rfl (by omega) (by have := h4.1; unfold fieldsOf; omega) (by have := h4.1; unfold fieldsOf; omega)
  · rw [if_neg h, if_neg h]
def hx (w : Int) : ByteArray := strOfNums (hexOf w)
theorem hx_size (w : Int) : (hx w).size ≤ 100 := by
  unfold hx
  rw [strOfNums_size]
  unfold hexOf
  exact Nat.le_trans (digs_length 16 65 w 8) (by omega)
def leadOf (at_ i : Int) : Int := (at_ + 4 + 4 * i) % 4294967296
def sp : ByteArray := ⟨#[32]⟩
def arrow : ByteArray := ⟨#[32, 45, 62, 32]⟩
theorem sp_size : sp.size = 1 := rfl
theorem arrow_size : arrow.size = 4 := rfl
def lineAt (at_ w op a b c i e : Int) : ByteArray :=
  hx at_ ++ sp ++ hx w ++ sp ++
    (if e = 0 then (if 20 ≤ op ∧ op ≤ 23 then (itextOf op a b c i).1 ++ arrow ++ hx (leadOf at_ i) else (itextOf op a b c i).1) else ⟨#[63]⟩)
def lineOf (at_ w : Int) : ByteArray := lineAt at_ w (decOf w).1 (decOf w).2.1 (decOf w).2.2.1 (decOf w).2.2.2.1 (decOf w).2.2.2.2.1 (decOf w).2.2.2.2.2
theorem target_eq (at_ op a b c i : Int) (hi : I64 i) : listing_Target.f at_ op a b c i = some (if 20 ≤ op ∧ op ≤ 23 then (leadOf at_ i, true) else (0, false)) := by
  have e : ((((at_ + 4) % 4294967296) + ((wrap64 (4 * i)) % 4294967296)) % 4294967296) = leadOf at_ i := by
    unfold leadOf wrap64; omega
  unfold listing_Target.f
  rw [e]
  by_cases h : 20 ≤ op ∧ op ≤ 23
  · rw [if_pos h]
    have : op = 20 ∨ op = 21 ∨ op = 22 ∨ op = 23 := by omega
    rcases this with rfl | rfl | rfl | rfl <;> simp
  · rw [if_neg h, if_neg (by omega), if_neg (by omega), if_neg (by omega), if_neg (by omega)]
theorem dec_i64 (w : Int) (hw : 0 ≤ w ∧ w ≤ 4294967295) : I64 (decOf w).1 ∧ I64 (decOf w).2.1 ∧ I64 (decOf w).2.2.1 ∧ I64 (decOf w).2.2.2.1 ∧ I64 (decOf w).2.2.2.2.1 := by
  have z : I64 0 := by unfold I64; omega
  unfold decOf
  split
  · show I64 (w / 16777216) ∧ I64 (fieldA w) ∧ I64 (fieldB w) ∧ I64 (fieldC w) ∧ I64 (fieldI w)
    refine ⟨?_, ?_, ?_, ?_, ?_⟩
    · unfold I64; omega
    · unfold fieldA; split
      · unfold I64; omega
      · exact z
    · unfold fieldB; split
      · unfold I64; omega
      · exact z
    · unfold fieldC; split
      · unfold I64; omega
      · exact z
    · unfold fieldI
      have h1 := sext_small w 32768 (by omega) (by omega)
      have h2 := sext_small w 8388608 (by omega) (by omega)
      unfold I64
      repeat' split
      all_goals omega
  · exact ⟨z, z, z, z, z⟩
theorem lead_range (at_ i : Int) : 0 ≤ leadOf at_ i ∧ leadOf at_ i < 4294967296 := by unfold leadOf; omega
theorem line_eq (k : Nat) (hk : 70 ≤ k) (at_ w : Int) (ha : 0 ≤ at_ ∧ at_ ≤ 4294967295) (hw : 0 ≤ w ∧ w ≤ 4294967295) : listing_Line.f k at_ w = some (lineOf at_ w) := by
  unfold listing_Line.f
  rw [word_hex_eq at_ (by omega), word_hex_eq w (by omega), dec_eq k (by omega) w hw]
  have h1 := hx_size at_
  have h2 := hx_size w
  obtain ⟨d1, d2, d3, d4, d5⟩ := dec_i64 w hw
  show ((some (hx at_)).bind _) = _
  simp only [Option.bind_some]
  rw [show strOfNums (hexOf w) = hx w from rfl, show (⟨#[32]⟩ : ByteArray) = sp from rfl, show (⟨#[32, 45, 62, 32]⟩ : ByteArray) = arrow from rfl]
  rw [if_pos (by omega), if_pos (by simp only [ByteArray.size_append, sp_size]; omega), if_pos (by simp only [ByteArray.size_append, sp_size]; omega)]
  unfold lineOf
  generalize decOf w = q at *
  obtain ⟨op, a, b, c, i, e⟩ := q
  simp only at d1 d2 d3 d4 d5 ⊢
  unfold lineAt
  by_cases he : e = 0
  · rw [if_pos he, if_pos he, text_at k (by omega) op a b c i d2 d3 d4 d5]
    simp only [Option.bind_some]
    have h3 := itext_size op a b c i
    have h4 := hx_size (leadOf at_ i)
    rw [if_pos (by simp only [ByteArray.size_append, sp_size]; omega), target_eq at_ op a b c i d5]
    simp only [Option.bind_some]
    by_cases hl : 20 ≤ op ∧ op ≤ 23
    · rw [if_pos hl, if_pos hl]
      simp only
      rw [if_pos trivial, word_hex_eq _ (lead_range at_ i)]
      simp only [Option.bind_some]
      rw [show strOfNums (hexOf (leadOf at_ i)) = hx (leadOf at_ i) from rfl]
      rw [if_pos (by omega), if_pos (by simp only [ByteArray.size_append, sp_size, arrow_size]; omega)]
      simp only [ByteArray.append_assoc]
    · rw [if_neg hl, if_neg hl]
      simp
  · rw [if_neg he, if_neg he]
    rw [if_pos (by simp only [ByteArray.size_append, sp_size]; omega)]
theorem rline_eq (k : Nat) (hk : 70 ≤ k) (at_ w : Int) (ha : 0 ≤ at_ ∧ at_ ≤ 4294967295) (hw : 0 ≤ w ∧ w ≤ 4294967295) : pascalineref06_Line.f k at_ w = some (lineOf at_ w) := by
  unfold pascalineref06_Line.f
  obtain ⟨m, rfl⟩ : ∃ m, k = m + 9 := ⟨k - 9, by omega⟩
  rw [ref_hex_eq m at_ (by omega), ref_hex_eq m w (by omega), rdec_eq (m + 9) (by omega) w hw]
  have h1 := hx_size at_
  have h2 := hx_size w
  obtain ⟨d1, d2, d3, d4, d5⟩ := dec_i64 w hw
  show ((some (hx at_)).bind _) = _
  simp only [Option.bind_some]
  rw [show strOfNums (hexOf w) = hx w from rfl, show (⟨#[32]⟩ : ByteArray) = sp from rfl, show (⟨#[32, 45, 62, 32]⟩ : ByteArray) = arrow from rfl]
  rw [if_pos (by omega), if_pos (by simp only [ByteArray.size_append, sp_size]; omega), if_pos (by simp only [ByteArray.size_append, sp_size]; omega)]
  unfold lineOf
  generalize decOf w = q at *
  obtain ⟨op, a, b, c, i, e⟩ := q
  simp only at d1 d2 d3 d4 d5 ⊢
  unfold lineAt
  by_cases he : e = 0
  · rw [if_pos he, if_pos he, rtext_at (m + 9) (by omega) op a b c i d2 d3 d4 d5]
    simp only [Option.bind_some]
    have h3 := itext_size op a b c i
    have h4 := hx_size (leadOf at_ i)
    have e : ((((at_ + 4) % 4294967296) + ((4 * (i % 4294967296)) % 4294967296)) % 4294967296) = leadOf at_ i := by
      unfold leadOf; omega
    rw [e, ref_hex_eq m _ (lead_range at_ i)]
    have hl0 : pascalineref06_leads.f op = some (decide (20 ≤ op ∧ op ≤ 23)) := by
      unfold pascalineref06_leads.f
      by_cases h : op ≥ 20
      · rw [if_pos h]; congr 1; rw [decide_eq_decide]; omega
      · rw [if_neg h]; congr 1; symm; rw [decide_eq_false_iff_not]; omega
    rw [hl0]
    simp only [Option.bind_some]
    by_cases hl : 20 ≤ op ∧ op ≤ 23
    · rw [if_pos (by rw [decide_eq_true hl]), if_pos hl]
      rw [show strOfNums (hexOf (leadOf at_ i)) = hx (leadOf at_ i) from rfl]
      rw [if_pos (by omega), if_pos (by simp only [ByteArray.size_append, arrow_size]; omega), if_pos (by simp only [ByteArray.size_append, sp_size, arrow_size]; omega)]
    · rw [if_neg (by rw [decide_eq_false hl]; simp), if_neg hl]
      rw [if_pos (by simp only [ByteArray.size_append, sp_size]; omega)]
  · rw [if_neg he, if_neg he]
    rw [if_pos (by simp only [ByteArray.size_append, sp_size]; omega)]
end Go.Proofs.Ytmebogkhdbbbbaa.Q

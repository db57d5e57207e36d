/- What errors say: the program's Message and the reference's are one. -/
import Derived.Test.YtmebogkhdbbbbaaPx2
import Derived.Test.YtmebogkhdbbbbaaPx3
import Derived.Test.YtmebogkhdbbbbaaPx10
import Derived.Test.YtmebogkhdbbbbaaPx11
import Derived.Test.YtmebogkhdbbbbaaQTx
namespace Go.Proofs.Ytmebogkhdbbbbaa.Q
set_option linter.unusedSimpArgs false
set_option linter.unusedVariables false
open Go Go.RowKit Go.Proofs.Ytmebogkhdbbbbaa.P Go.Proofs.Ytmebogkhdbbbbaa.C Go.Proofs.YtmebogkhdbbbbaaW.PrintWords Go.Proofs.YtmebogkhdbbbbaaW.PrintLast Go.Proofs.YtmebogkhdbbbbaaW.PrintMore
theorem ms_text_size (n : Int) : (strOfNums (textOf n)).size ≤ 100 := by
  rw [strOfNums_size]
  unfold textOf
  split
  · have := digs_length 10 65 (-n) 1; simp; omega
  · have := digs_length 10 65 n 1; omega
def ms_nums : List Int := [0, 10, 80, 81, 82, 83, 140, 200, 91, 111, 110, 51, 90, 141, 144, 143, 142, 201, 202, 203, 240, 241, 242, 52, 243, 244, 270, 33]
def ms_one (e : Int) : ByteArray := (pascalineref31_Message.f 40 e).getD ByteArray.empty
def ms_other (e : Int) : ByteArray := (⟨#[101, 114, 114, 111, 114, 32]⟩ : ByteArray) ++ strOfNums (textOf e)
theorem ms_listed (k : Nat) (e : Int) (he : e ∈ ms_nums) : report_Message.f (k + 40) e = some (ms_one e) ∧ pascalineref31_Message.f (k + 40) e = some (ms_one e) ∧ (ms_one e).size ≤ 1000 := by
  simp only [ms_nums, List.mem_cons, List.not_mem_nil, or_false] at he
  rcases he with rfl | rfl | rfl | rfl | rfl | rfl | rfl | rfl | rfl | rfl | rfl | rfl | rfl | rfl | rfl | rfl | rfl | rfl | rfl | rfl | rfl | rfl | rfl | rfl | rfl | rfl | rfl | rfl
  all_goals exact ⟨by kernel_rfl, by kernel_rfl, by decide +kernel⟩
theorem ms_ref_loop (e : Int) (he : -9223372036854775808 ≤ e ∧ e ≤ 9223372036854775807) (x3 : List Int) (x4 : List ByteArray) (h3 : x3.length ≤ 1000) (hne : ∀ j : Nat, j < x3.length → rd x3 (j : Int) ≠ e) (d : Nat) : ∀ (k i : Nat), i + d = x3.length → d + 1 ≤ k →
    pascalineref31_Message.l0 k e x3 x4 (i : Int) = some (ms_other e) := by
  induction d with
  | zero =>
    intro k i hi hk
    obtain ⟨k, rfl⟩ : ∃ m, k = m + 1 := ⟨k - 1, by omega⟩
    have hs := ms_text_size e
    simp only [pascalineref31_Message.l0]
    rw [if_neg (by omega), ref_text_eq e he, Option.bind_some, if_pos (by omega)]
    rfl
  | succ d ih =>
    intro k i hi hk
    obtain ⟨k, rfl⟩ : ∃ m, k = m + 1 := ⟨k - 1, by omega⟩
    have hw : wrap64 ((i : Int) + 1) = ((i + 1 : Nat) : Int) := by unfold wrap64; omega
    simp only [pascalineref31_Message.l0]
    rw [if_pos (by omega), if_pos (by omega), if_neg (hne i (by omega)), hw]
    exact ih k (i + 1) (by omega) (by omega)
theorem ms_unlisted (k : Nat) (e : Int) (he : -9223372036854775808 ≤ e ∧ e ≤ 9223372036854775807) (hn : e ∉ ms_nums) : report_Message.f (k + 40) e = some (ms_other e) ∧ pascalineref31_Message.f (k + 40) e = some (ms_other e) := by
  constructor
  · have hs := ms_text_size e
    simp only [ms_nums, List.mem_cons, List.not_mem_nil, or_false, not_or] at hn
    obtain ⟨n0, n1, n2, n3, n4, n5, n6, n7, n8, n9, n10, n11, n12, n13, n14, n15, n16, n17, n18, n19, n20, n21, n22, n23, n24, n25, n26, n27⟩ := hn
    have b52 : (e == 52) = false := beq_eq_false_iff_ne.mpr n23
    unfold report_Message.f report_more.f
    simp only [n0, n1, n2, n3, n4, n5, n6, n7, n8, n9, n10, n11, n12, n13, n14, n15, n16, n17, n18, n19, n20, n21, n22, if_false, b52]
    rw [show k + 40 = (k + 39) + 1 from rfl]
    simp only [report_more.j0, n24, n25, n26, n27, if_false, Bool.false_eq_true]
    rw [word_text_eq e he, Option.bind_some, if_pos (by omega), Option.bind_some]
    rfl
  · unfold pascalineref31_Message.f pascalineref31_messages.f
    rw [Option.bind_some]
    refine ms_ref_loop e he _ _ (by decide) (fun j hj h => hn ?_) 28 (k + 40) 0 (by decide) (by omega)
    rw [← h]
    unfold rd
    rw [Int.toNat_natCast, List.getD_eq_getElem?_getD, List.getElem?_eq_getElem hj]
    exact List.getElem_mem hj
/-- What any error says, by both. -/
theorem ms_any (k : Nat) (hk : 40 ≤ k) (e : Int) (he : -9223372036854775808 ≤ e ∧ e ≤ 9223372036854775807) : ∃ m, report_Message.f k e = some m ∧ pascalineref31_Message.f k e = some m ∧ m.size ≤ 1000 := by
  obtain ⟨k, rfl⟩ : ∃ m, k = m + 40 := ⟨k - 40, by omega⟩
  by_cases h : e ∈ ms_nums
  · exact ⟨_, ms_listed k e h⟩
  · obtain ⟨h1, h2⟩ := ms_unlisted k e he h
    refine ⟨_, h1, h2, ?_⟩
    have hs := ms_text_size e
    unfold ms_other
    rw [ByteArray.size_append, show (⟨#[101, 114, 114, 111, 114, 32]⟩ : ByteArray).size = 6 from rfl]
    omega
end Go.Proofs.Ytmebogkhdbbbbaa.Q

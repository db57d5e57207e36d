/- Lines of events: each has one, and it is short. -/
import Derived.Test.YtajcopcmahidhaaPx2
import Derived.Test.YtajcopcmahidhaaPx3
import Derived.Test.YtajcopcmahidhaaPx4
import Derived.Test.YtajcopcmahidhaaQTx
namespace Go.Proofs.Ytajcopcmahidhaa.Q
set_option linter.unusedSimpArgs false
set_option linter.unusedVariables false
open Go Go.RowKit Go.Proofs.Ytajcopcmahidhaa.P Go.Proofs.Ytajcopcmahidhaa.C Go.Proofs.YtajcopcmahidhaaW.PrintWords Go.Proofs.YtajcopcmahidhaaW.PrintLast Go.Proofs.YtajcopcmahidhaaW.PrintMore
theorem tr_text_size (n : Int) : (strOfNums (textOf n)).size ≤ 100 := by
  rw [strOfNums_size]
  unfold textOf
  split
  · have := digs_length 10 65 (-n) 1; simp; omega
  · have := digs_length 10 65 n 1; omega
def nameOf (p : Int) : ByteArray := if 0 ≤ p ∧ p < 6 then rdOf ByteArray.empty ([(⟨#[119, 114, 105, 116, 101]⟩ : ByteArray), (⟨#[115, 105, 103, 110]⟩ : ByteArray), (⟨#[114, 97, 105, 115, 101]⟩ : ByteArray), (⟨#[97, 114, 109]⟩ : ByteArray), (⟨#[102, 105, 110, 97, 108, 108, 121]⟩ : ByteArray), (⟨#[108, 111, 115, 116]⟩ : ByteArray)] : List ByteArray) p else strOfNums (textOf p)
theorem nameOf_size (p : Int) : (nameOf p).size ≤ 100 := by
  unfold nameOf
  split
  · rename_i h
    obtain rfl | rfl | rfl | rfl | rfl | rfl : p = 0 ∨ p = 1 ∨ p = 2 ∨ p = 3 ∨ p = 4 ∨ p = 5 := by omega
    all_goals decide
  · exact tr_text_size p
theorem name_eq (k : Nat) (hk : 1 ≤ k) (p : Int) (h : -9223372036854775808 ≤ p ∧ p ≤ 9223372036854775807) : trace_Name.f k p = some (nameOf p) := by
  obtain ⟨k, rfl⟩ : ∃ m, k = m + 1 := ⟨k - 1, by omega⟩
  unfold trace_Name.f nameOf
  by_cases h0 : p < 0
  · rw [if_pos h0, if_neg (by omega)]
    simp only [trace_Name.j0, if_true]
    rw [word_text_eq p h]
    rfl
  · rw [if_neg h0]
    by_cases h1 : p < 6
    · rw [if_pos (by omega)]
      unfold trace_names.f
      simp only [Option.bind_some]
      rw [show decide (p ≥ ((([(⟨#[119, 114, 105, 116, 101]⟩ : ByteArray), (⟨#[115, 105, 103, 110]⟩ : ByteArray), (⟨#[114, 97, 105, 115, 101]⟩ : ByteArray), (⟨#[97, 114, 109]⟩ : ByteArray), (⟨#[102, 105, 110, 97, 108, 108, 121]⟩ : ByteArray), (⟨#[108, 111, 115, 116]⟩ : ByteArray)] : List ByteArray).length : Nat) : Int)) = false from decide_eq_false (by simp; omega)]
      simp only [trace_Name.j0, trace_names.f, Option.bind_some]
      rw [if_neg (by simp), if_pos (by omega), if_pos (by simp; omega)]
    · rw [if_neg (by omega)]
      unfold trace_names.f
      simp only [Option.bind_some]
      rw [show decide (p ≥ ((([(⟨#[119, 114, 105, 116, 101]⟩ : ByteArray), (⟨#[115, 105, 103, 110]⟩ : ByteArray), (⟨#[114, 97, 105, 115, 101]⟩ : ByteArray), (⟨#[97, 114, 109]⟩ : ByteArray), (⟨#[102, 105, 110, 97, 108, 108, 121]⟩ : ByteArray), (⟨#[108, 111, 115, 116]⟩ : ByteArray)] : List ByteArray).length : Nat) : Int)) = true from decide_eq_true (by simp; omega)]
      simp only [trace_Name.j0, if_true]
      rw [word_text_eq p h]
      rfl
theorem tr_and63 (v : Int) (h : -2147483648 ≤ v ∧ v ≤ 2147483647) : -9223372036854775808 ≤ Go.bits .and .i32 v 63 ∧ Go.bits .and .i32 v 63 ≤ 9223372036854775807 := by
  have hw := Go.wf_bits .and .i32 v 63
  have := bounds_i32 hw
  omega
def lineOf (p v : Int) : ByteArray := if p = 3 then (((nameOf p ++ ⟨#[32]⟩) ++ strOfNums (textOf (v / 64))) ++ ⟨#[32]⟩) ++ strOfNums (textOf (Go.bits .and .i32 v 63)) else (nameOf p ++ ⟨#[32]⟩) ++ strOfNums (textOf v)
theorem line_eq (k : Nat) (hk : 1 ≤ k) (p v : Int) (hp : -9223372036854775808 ≤ p ∧ p ≤ 9223372036854775807) (hv : -2147483648 ≤ v ∧ v ≤ 2147483647) : trace_Line.f k p v = some (lineOf p v) ∧ (lineOf p v).size ≤ 1000 := by
  have hw : ∀ n : Int, -9223372036854775808 ≤ n ∧ n ≤ 9223372036854775807 → wrap64 n = n := fun n hn => by unfold wrap64; omega
  have s1 := nameOf_size p
  have s2 := tr_text_size v
  have s3 := tr_text_size (v / 64)
  have s4 := tr_text_size (Go.bits .and .i32 v 63)
  have h63 := tr_and63 v hv
  have e32 : (⟨#[32]⟩ : ByteArray).size = 1 := rfl
  unfold lineOf
  constructor
  · unfold trace_Line.f
    rw [name_eq k hk p hp, hw v (by omega), hw (v / 64) (by omega), hw _ h63, word_text_eq v (by omega), word_text_eq (v / 64) (by omega), word_text_eq _ h63]
    simp only [Option.bind_some, ByteArray.size_append, e32]
    rw [if_pos (by omega), if_pos (by omega)]
    by_cases h3 : p = 3
    · rw [if_pos h3, if_pos h3, if_pos (by omega), if_pos (by omega), if_pos (by omega), if_pos (by omega)]
    · rw [if_neg h3, if_neg h3]
  · split <;> simp only [ByteArray.size_append, e32] <;> omega
end Go.Proofs.Ytajcopcmahidhaa.Q

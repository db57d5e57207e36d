/- What the printed functions of word and of its reference answer: texts of numbers. -/
import Derived.Test.YtajcopcmahidhaaPx2
import Derived.Test.YtajcopcmahidhaaPx21
import Derived.Test.YtajcopcmahidhaaCText
import Derived.Test.YtajcopcmahidhaaPx3
import Derived.Test.YtajcopcmahidhaaPx4
import Derived.Test.YtajcopcmahidhaaPx7
import Derived.Test.YtajcopcmahidhaaPx19
import Derived.Test.YtajcopcmahidhaaPx20
import Derived.Test.YtajcopcmahidhaaPx22
import Derived.Test.YtajcopcmahidhaaPx23
import Derived.Test.YtajcopcmahidhaaPx24
import Derived.Test.YtajcopcmahidhaaPx25
import Derived.Test.YtajcopcmahidhaaPx26
import Derived.Test.YtajcopcmahidhaaPx5
import Derived.Test.YtajcopcmahidhaaPx6
import Derived.Test.YtajcopcmahidhaaPx8
import Derived.Test.YtajcopcmahidhaaPx9
import Derived.Test.YtajcopcmahidhaaPx10
import Derived.Test.YtajcopcmahidhaaPx18
namespace Go.Proofs.Ytajcopcmahidhaa.Q
open Go Go.RowKit Go.Proofs.Ytajcopcmahidhaa.P Go.Proofs.Ytajcopcmahidhaa.C Go.Proofs.YtajcopcmahidhaaW.PrintWords Go.Proofs.YtajcopcmahidhaaW.PrintLast Go.Proofs.YtajcopcmahidhaaW.PrintMore
theorem u64_wrap (x : Int) : IntKind.u64.wrap x = x % 18446744073709551616 := by simp [IntKind.wrap, IntKind.signed, IntKind.bits]
theorem word_text_eq (n : Int) (h : -9223372036854775808 ≤ n ∧ n ≤ 9223372036854775807) : word_Text.f n = some (strOfNums (textOf n)) := by
  unfold word_Text.f word_digits.f textOf
  by_cases h0 : n < 0
  · have e : IntKind.u64.wrap (wrap64 (-n)) = -n := by rw [u64_wrap]; unfold wrap64; omega
    rw [if_pos h0, e, if_pos (.inl rfl), if_pos (by omega), if_pos h0]
    simp only [Option.bind_some]
    have hl := digs_length 10 65 (-n) 1
    rw [show min 64 (max 1 1 : Int).toNat = 1 by decide, if_pos (by rw [strOfNums_size]; omega), strOfNums_cons]
    rfl
  · have e : IntKind.u64.wrap n = n := by rw [u64_wrap]; omega
    rw [if_neg h0, e, if_pos (.inl rfl), if_pos (by omega), if_neg h0]
    rfl
theorem ref_text_eq (n : Int) (h : -9223372036854775808 ≤ n ∧ n ≤ 9223372036854775807) : pascalineref01_Text.f n = some (strOfNums (textOf n)) := by
  unfold pascalineref01_Text.f; rw [if_pos (by omega)]
end Go.Proofs.Ytajcopcmahidhaa.Q

/- Lines of events: each has one, and it is short. -/
namespace Go.Proofs.Ytajcopcmahidhaa.Q
set_option linter.unusedSimpArgs false
set_option linter.unusedVariables false
open Go Go.RowKit Go.Proofs.Ytajcopcmahidhaa.P Go.Proofs.Ytajcopcmahidhaa.C Go.Proofs.YtajcopcmahidhaaW.PrintWords Go.Proofs.YtajcopcmahidhaaW.PrintLast Go.Proofs.YtajcopcmahidhaaW.PrintMore
theorem tr_text_size (n : Int) : (strOfNums (textOf n)).size ≤ 100 := by
  rw [strOfNums_size]
  unfold textOf
  split
  · have := digs_length 10 65 (-n) 1; simp; omega
  · have := digs_length 10 65 n 1; omega
def nameOf (p : Int) : ByteArray := if 0 ≤ p ∧ p < 6 then rdOf ByteArray.empty ([(⟨#[119, 114, 105, 116, 101]⟩ : ByteArray), (⟨#[115, 105, 103, 110]⟩ : ByteArray), (⟨#[114, 97, 105, 115, 101]⟩ : ByteArray), (⟨#[97, 114, 109]⟩ : ByteArray), (⟨#[102, 105, 110, 97, 108, 108, 121]⟩ : ByteArray), (⟨#[108, 111, 115, 116]⟩ : ByteArray)] : List ByteArray) p else strOfNums (textOf p)
theorem nameOf_size (p : Int) : (nameOf p).size ≤ 100 := by
  unfold nameOf
  split
  · rename_i h
    obtain rfl | rfl | rfl | rfl | rfl | rfl : p = 0 ∨ p = 1 ∨ p = 2 ∨ p = 3 ∨ p = 4 ∨ p = 5 := by omega
    all_goals decide
  · exact tr_text_size p
theorem name_eq (k : Nat) (hk : 1 ≤ k) (p : Int) (h : -9223372036854775808 ≤ p ∧ p ≤ 9223372036854775807) : trace_Name.f k p = some (nameOf p) := by
  obtain ⟨k, rfl⟩ : ∃ m, k = m + 1 := ⟨k - 1, by omega⟩
  unfold trace_Name.f nameOf
  by_cases h0 : p < 0
  · rw [if_pos h0, if_neg (by omega)]
    simp only [trace_Name.j0, if_true]
    rw [word_text_eq p h]
    rfl
  · rw [if_neg h0]
    by_cases h1 : p < 6
    · rw [if_pos (by omega)]
      unfold trace_names.f
      simp only [Option.bind_some]
      rw [show decide (p ≥ ((([(⟨#[119, 114, 105, 116, 101]⟩ : ByteArray), (⟨#[115, 105, 103, 110]⟩ : ByteArray), (⟨#[114, 97, 105, 115, 101]⟩ : ByteArray), (⟨#[97, 114, 109]⟩ : ByteArray), (⟨#[102, 105, 110, 97, 108, 108, 121]⟩ : ByteArray), (⟨#[108, 111, 115, 116]⟩ : ByteArray)] : List ByteArray).length : Nat) : Int)) = false from decide_eq_false (by simp; omega)]
      simp only [trace_Name.j0, trace_names.f, Option.bind_some]
      rw [if_neg (by simp), if_pos (by omega), if_pos (by simp; omega)]
    · rw [if_neg (by omega)]
      unfold trace_names.f
      simp only [Option.bind_some]
      rw [show decide (p ≥ ((([(⟨#[119, 114, 105, 116, 101]⟩ : ByteArray), (⟨#[115, 105, 103, 110]⟩ : ByteArray), (⟨#[114, 97, 105, 115, 101]⟩ : ByteArray), (⟨#[97, 114, 109]⟩ : ByteArray), (⟨#[102, 105, 110, 97, 108, 108, 121]⟩ : ByteArray), (⟨#[108, 111, 115, 116]⟩ : ByteArray)] : List ByteArray).length : Nat) : Int)) = true from decide_eq_true (by simp; omega)]
      simp only [trace_Name.j0, if_true]
      rw [word_text_eq p h]
      rfl
theorem tr_and63 (v : Int) (h : -2147483648 ≤ v ∧ v ≤ 2147483647) : -9223372036854775808 ≤ Go.bits .and .i32 v 63 ∧ Go.bits .and .i32 v 63 ≤ 9223372036854775807 := by
  have hw := Go.wf_bits .and .i32 v 63
  have := bounds_i32 hw
  omega
def lineOf (p v : Int) : ByteArray := if p = 3 then (((nameOf p ++ ⟨#[32]⟩) ++ strOfNums (textOf (v / 64))) ++ ⟨#[32]⟩) ++ strOfNums (textOf (Go.bits .and .i32 v 63)) else (nameOf p ++ ⟨#[32]⟩) ++ strOfNums (textOf v)
theorem line_eq (k : Nat) (hk : 1 ≤ k) (p v : Int) (hp : -9223372036854775808 ≤ p ∧ p ≤ 9223372036854775807) (hv : -2147483648 ≤ v ∧ v ≤ 2147483647) : trace_Line.f k p v = some (lineOf p v) ∧ (lineOf p v).size ≤ 1000 := by
  have hw : ∀ n : Int, -9223372036854775808 ≤ n ∧ n ≤ 9223372036854775807 → wrap64 n = n := fun n hn => by unfold wrap64; omega
  have s1 := nameOf_size p
  have s2 := tr_text_size v
  have s3 := tr_text_size (v / 64)
  have s4 := tr_text_size (Go.bits .and .i32 v 63)
  have h63 := tr_and63 v hv
  have e32 : (⟨#[32]⟩ : ByteArray).size = 1 := rfl
  unfold lineOf
  constructor
  · unfold trace_Line.f
    rw [name_eq k hk p hp, hw v (by omega), hw (v / 64) (by omega), hw _ h63, word_text_eq v (by omega), word_text_eq (v / 64) (by omega), word_text_eq _ h63]
    simp only [Option.bind_some, ByteArray.size_append, e32]
    rw [if_pos (by omega), if_pos (by omega)]
    by_cases h3 : p = 3
    · rw [if_pos h3, if_pos h3, if_pos (by omega), if_pos (by omega), if_pos (by omega), if_pos (by omega)]
    · rw [if_neg h3, if_neg h3]
  · split <;> simp only [ByteArray.size_append, e32] <;> omega
end Go.Proofs.Ytajcopcmahidhaa.Q

/- What the reference's functions answer of events: lines, texts, what was written. -/
namespace Go.Proofs.Ytajcopcmahidhaa.Q
set_option linter.unusedSimpArgs false
set_option linter.unusedVariables false
open Go Go.RowKit Go.Proofs.Ytajcopcmahidhaa.P Go.Proofs.Ytajcopcmahidhaa.C Go.Proofs.YtajcopcmahidhaaW.PrintWords Go.Proofs.YtajcopcmahidhaaW.PrintLast Go.Proofs.YtajcopcmahidhaaW.PrintMore
theorem tr_i32_63 (v : Int) (h : -2147483648 ≤ v ∧ v ≤ 2147483647) : Go.bits .and .i32 v 63 = v % 64 := by
  have h63 : (BitVec.ofInt 32 63).toNat = 2 ^ 6 - 1 := by decide
  have key : (BitVec.ofInt 32 v &&& BitVec.ofInt 32 63).toNat = (v % ((2 ^ 32 : Nat) : Int)).toNat % 2 ^ 6 := by
    rw [BitVec.toNat_and, BitVec.toNat_ofInt, h63, Nat.and_two_pow_sub_one_eq_mod]
  show IntKind.i32.wrap ((BitVec.ofInt 32 v &&& BitVec.ofInt 32 63).toNat : Nat) = v % 64
  rw [key, IntKind.wrap_i32]
  have : ((2 ^ 32 : Nat) : Int) = 4294967296 := by decide
  rw [this]
  omega
theorem ref_parts (v : Int) (h : -2147483648 ≤ v ∧ v ≤ 2147483647) : pascalineref29_parts.f v = some (v / 64, v % 64) := by
  have hw : ∀ n : Int, -9223372036854775808 ≤ n ∧ n ≤ 9223372036854775807 → wrap64 n = n := fun n hn => by unfold wrap64; omega
  unfold pascalineref29_parts.f
  rw [hw v (by omega)]
  have ht : Int.tmod v 64 = if 0 ≤ v then v % 64 else -((-v) % 64) := by
    split
    · rename_i h0; exact Int.tmod_eq_emod_of_nonneg h0
    · rename_i h0
      rw [show v = -(-v) by omega, Int.neg_tmod, Int.tmod_eq_emod_of_nonneg (by omega)]
      simp
  have hd : ∀ n : Int, n % 64 = 0 → Int.tdiv n 64 = n / 64 := by
    intro n hn
    obtain ⟨m, rfl⟩ : ∃ m, n = m * 64 := ⟨n / 64, by omega⟩
    rw [Int.mul_tdiv_cancel _ (by decide), Int.mul_ediv_cancel _ (by decide)]
  generalize hm : Int.tmod v 64 = t at ht ⊢
  by_cases h1 : t < 0
  · rw [if_pos h1]
    have e1 : t + 64 = v % 64 := by split at ht <;> omega
    rw [hw (t + 64) (by omega), e1, hw (v - v % 64) (by omega), hd _ (by omega), hw _ (by omega)]
    congr 2
    omega
  · rw [if_neg h1]
    have e1 : t = v % 64 := by split at ht <;> omega
    rw [e1, hw (v - v % 64) (by omega), hd _ (by omega), hw _ (by omega)]
    congr 2
    omega
theorem ref_name (p : Int) (h : -9223372036854775808 ≤ p ∧ p ≤ 9223372036854775807) : pascalineref29_Name.f p = some (nameOf p) := by
  unfold pascalineref29_Name.f nameOf
  simp only [Option.bind_some]
  by_cases h0 : 0 ≤ p
  · rw [if_pos (show p ≥ 0 from h0)]
    by_cases h1 : p < 6
    · rw [if_pos h1, if_pos h0, if_pos (by simp; omega), if_pos ⟨h0, h1⟩]
    · rw [if_neg h1, if_neg (by omega), ref_text_eq p h]; rfl
  · rw [if_neg (by omega), if_neg (by omega), ref_text_eq p h]; rfl
theorem ref_line (p v : Int) (hp : -9223372036854775808 ≤ p ∧ p ≤ 9223372036854775807) (hv : -2147483648 ≤ v ∧ v ≤ 2147483647) : pascalineref29_Line.f p v = some (lineOf p v) := by
  have hw : ∀ n : Int, -9223372036854775808 ≤ n ∧ n ≤ 9223372036854775807 → wrap64 n = n := fun n hn => by unfold wrap64; omega
  have s1 := nameOf_size p
  have s2 := tr_text_size v
  have s3 := tr_text_size (v / 64)
  have s4 := tr_text_size (v % 64)
  have e32 : (⟨#[32]⟩ : ByteArray).size = 1 := rfl
  have e4 : (⟨#[97, 114, 109, 32]⟩ : ByteArray).size = 4 := rfl
  unfold lineOf pascalineref29_Line.f
  by_cases h3 : p = 3
  · rw [if_pos h3, if_pos h3, ref_parts v hv, tr_i32_63 v hv]
    simp only [Option.bind_some]
    rw [ref_text_eq (v / 64) (by omega), ref_text_eq (v % 64) (by omega)]
    simp only [Option.bind_some, ByteArray.size_append, e32, e4]
    rw [if_pos (by omega), if_pos (by omega), if_pos (by omega), h3]
    congr 1
  · rw [if_neg h3, if_neg h3, ref_name p hp, hw v (by omega), ref_text_eq v (by omega)]
    simp only [Option.bind_some, ByteArray.size_append, e32]
    rw [if_pos (by omega), if_pos (by omega)]
theorem tr_line_eq (k : Nat) (hk : 1 ≤ k) (x : S27) (hp : -9223372036854775808 ≤ x.f0 ∧ x.f0 ≤ 9223372036854775807) (hv : -2147483648 ≤ x.f1 ∧ x.f1 ≤ 2147483647) : tr_line k x = lineOf x.f0 x.f1 := by
  unfold tr_line; rw [(line_eq k hk x.f0 x.f1 hp hv).1]; rfl
def Evs (l : List S27) : Prop := ∀ x ∈ l, (-9223372036854775808 ≤ x.f0 ∧ x.f0 ≤ 9223372036854775807) ∧ (-2147483648 ≤ x.f1 ∧ x.f1 ≤ 2147483647)
theorem ev_rd (l : List S27) (i : Nat) (h : i < l.length) : rd_T27 l (i : Int) = l[i] := by unfold rd_T27; rw [Int.toNat_natCast]; simp [List.getD_eq_getElem?_getD, h]
theorem ba_size (s : ByteArray) : s.size = s.data.toList.length := (data_length s).symm
theorem ba_of (s : ByteArray) (l : List UInt8) (h : s.data.toList = l) : s = ⟨l.toArray⟩ := by
  subst h; rfl
theorem ref_text_loop (k0 : Nat) (hk0 : 1 ≤ k0) (l : List S27) (hl : l.length ≤ 200) (he : Evs l) (d : Nat) : ∀ (k i : Nat) (acc : ByteArray), i ≤ l.length → l.length - i = d → d < k → acc.data.toList = tx_lines (tr_line k0) (l.take i) → acc.size ≤ 1001 * i →
    pascalineref29_Text.l0 k l acc (i : Int) = some ⟨(tx_lines (tr_line k0) l).toArray⟩ := by
  induction d with
  | zero =>
    intro k i acc hi hd hk ha hs
    obtain ⟨k, rfl⟩ : ∃ m, k = m + 1 := ⟨k - 1, by omega⟩
    simp only [pascalineref29_Text.l0]
    rw [if_neg (by omega), ba_of acc _ ha, List.take_of_length_le (by omega)]
  | succ d ih =>
    intro k i acc hi hd hk ha hs
    obtain ⟨k, rfl⟩ : ∃ m, k = m + 1 := ⟨k - 1, by omega⟩
    have hlt : i < l.length := by omega
    have hx := he l[i] (List.getElem_mem _)
    have hz := (line_eq k0 hk0 _ _ hx.1 hx.2).2
    have e1 : (⟨#[10]⟩ : ByteArray).size = 1 := rfl
    simp only [pascalineref29_Text.l0]
    rw [if_pos (by omega), if_pos (by omega), ev_rd l i hlt, ref_line _ _ hx.1 hx.2]
    simp only [Option.bind_some]
    rw [if_pos (by omega), if_pos (by rw [ByteArray.size_append]; omega), show wrap64 ((i : Int) + 1) = ((i + 1 : Nat) : Int) by unfold wrap64; omega]
    refine ih k (i + 1) _ (by omega) (by omega) (by omega) ?_ (by rw [ByteArray.size_append, ByteArray.size_append, e1]; omega)
    rw [List.take_succ_eq_append_getElem hlt, tx_lines_snoc, ByteArray.data_append, ByteArray.data_append, Array.toList_append, Array.toList_append, ha, tr_line_eq k0 hk0 _ hx.1 hx.2]
theorem tw_tx_eq (v : Int) (hv : -2147483648 ≤ v ∧ v ≤ 2147483647) : tw_tx v = strOfNums (textOf v) := by
  unfold tw_tx; rw [word_text_eq v (by omega)]; rfl
theorem ref_written_loop (l : List S27) (hl : l.length ≤ 200) (he : Evs l) (d : Nat) : ∀ (k i : Nat) (acc : ByteArray), i ≤ l.length → l.length - i = d → 3 * d < k → acc.data.toList = tw_all tw_tx (l.take i) → acc.size ≤ 1001 * i →
    pascalineref29_Written.l0 k l acc (i : Int) = some ⟨(tw_all tw_tx l).toArray⟩ := by
  induction d with
  | zero =>
    intro k i acc hi hd hk ha hs
    obtain ⟨k, rfl⟩ : ∃ m, k = m + 1 := ⟨k - 1, by omega⟩
    simp only [pascalineref29_Written.l0]
    rw [if_neg (by omega), ba_of acc _ ha, List.take_of_length_le (by omega)]
  | succ d ih =>
    intro k i acc hi hd hk ha hs
    obtain ⟨k, rfl⟩ : ∃ m, k = m + 3 := ⟨k - 3, by omega⟩
    have hlt : i < l.length := by omega
    have hx := he l[i] (List.getElem_mem _)
    have hw : wrap64 ((i : Int) + 1) = ((i + 1 : Nat) : Int) := by unfold wrap64; omega
    have e1 : (⟨#[32]⟩ : ByteArray).size = 1 := rfl
    have e2 : (⟨#[63]⟩ : ByteArray).size = 1 := rfl
    have next : ∀ acc' : ByteArray, acc'.data.toList = acc.data.toList ++ tw_one tw_tx l[i] → acc'.size ≤ acc.size + 1001 → pascalineref29_Written.l0 k l acc' ((i + 1 : Nat) : Int) = some ⟨(tw_all tw_tx l).toArray⟩ := fun acc' h1 h2 =>
      ih k (i + 1) acc' (by omega) (by omega) (by omega) (by rw [h1, List.take_succ_eq_append_getElem hlt, tw_all_snoc, ha]) (by omega)
    have hi1 : (i : Int) < (l.length : Int) := by omega
    have hi0 : 0 ≤ (i : Int) := by omega
    have e := ev_rd l i hlt
    generalize l[i] = z at e hx next
    obtain ⟨x, y⟩ := z
    dsimp only at hx
    have s2 := tr_text_size y
    simp only [pascalineref29_Written.l0]
    rw [if_pos hi1, if_pos hi0, e]
    dsimp only
    by_cases c0 : x = 0
    · rw [if_pos c0, show wrap64 y = y by unfold wrap64; omega, ref_text_eq y (by omega)]
      simp only [Option.bind_some]
      rw [if_pos (by omega), if_pos (by rw [ByteArray.size_append]; omega)]
      simp only [pascalineref29_Written.j1]
      rw [if_pos hi0, if_pos hi1, e]
      dsimp only
      rw [if_neg (by omega)]
      simp only [pascalineref29_Written.j2]
      rw [if_neg (by simp), if_pos hi0, if_pos hi1, e]
      dsimp only
      rw [if_neg (by omega), hw]
      refine next _ ?_ (by rw [ByteArray.size_append, ByteArray.size_append, e1]; omega)
      unfold tw_one
      rw [if_pos c0, ByteArray.data_append, ByteArray.data_append, Array.toList_append, Array.toList_append, List.append_assoc]
      dsimp only
      rw [tw_tx_eq y hx.2]
    · rw [if_neg c0]
      simp only [pascalineref29_Written.j1]
      rw [if_pos hi0, if_pos hi1, e]
      dsimp only
      by_cases c1 : x = 1
      · rw [if_pos c1]
        have yes : (32 ≤ y ∧ y ≤ 126) ∨ y = 10 → pascalineref29_Written.j2 (k + 1) l acc (i : Int) y true = some ⟨(tw_all tw_tx l).toArray⟩ := by
          intro hc
          simp only [pascalineref29_Written.j2, if_true, Option.bind_some]
          have hsn : (strOfNums [y % 256]).size = 1 := by rw [strOfNums_size]; rfl
          rw [if_pos (by omega), hw]
          refine next _ ?_ (by rw [ByteArray.size_append]; omega)
          unfold tw_one
          rw [if_neg c0, if_pos c1, if_pos hc, ByteArray.data_append, Array.toList_append, strOfNums_data]
          dsimp only
          rw [show y % 256 = y by omega]
          rfl
        have no : ¬ ((32 ≤ y ∧ y ≤ 126) ∨ y = 10) → pascalineref29_Written.j2 (k + 1) l acc (i : Int) y false = some ⟨(tw_all tw_tx l).toArray⟩ := by
          intro hc
          simp only [pascalineref29_Written.j2]
          rw [if_neg (by simp), if_pos hi0, if_pos hi1, e]
          dsimp only
          rw [if_pos c1, if_pos (by omega), hw]
          refine next _ ?_ (by rw [ByteArray.size_append, e2]; omega)
          unfold tw_one
          rw [if_neg c0, if_pos c1, if_neg hc, ByteArray.data_append, Array.toList_append]
        by_cases c2 : y ≥ 32
        · rw [if_pos c2]
          by_cases c3 : y ≤ 126
          · rw [if_pos c3]; exact yes (.inl ⟨c2, c3⟩)
          · rw [if_neg c3, show (y == 10) = false from beq_eq_false_iff_ne.mpr (by omega)]; exact no (by omega)
        · rw [if_neg c2]
          by_cases c4 : y = 10
          · rw [show (y == 10) = true from beq_iff_eq.mpr c4]; exact yes (.inr c4)
          · rw [show (y == 10) = false from beq_eq_false_iff_ne.mpr c4]; exact no (by omega)
      · rw [if_neg c1]
        simp only [pascalineref29_Written.j2]
        rw [if_neg (by simp), if_pos hi0, if_pos hi1, e]
        dsimp only
        rw [if_neg c1, hw]
        refine next _ ?_ (by omega)
        unfold tw_one
        rw [if_neg c0, if_neg c1, List.append_nil]
end Go.Proofs.Ytajcopcmahidhaa.Q

/- How many events went out at each port, and the last arms of all TRYs: what the program's functions and the reference's answer. -/
namespace Go.Proofs.Ytajcopcmahidhaa.Q
set_option linter.unusedSimpArgs false
set_option linter.unusedVariables false
open Go Go.RowKit Go.Proofs.Ytajcopcmahidhaa.P Go.Proofs.Ytajcopcmahidhaa.C Go.Proofs.YtajcopcmahidhaaW.PrintWords Go.Proofs.YtajcopcmahidhaaW.PrintLast Go.Proofs.YtajcopcmahidhaaW.PrintMore
theorem cn_awake (k : Nat) (hk : 1 ≤ k) : pascalinelaw29_awake.f k = some true := by
  have h := tr_awake
  unfold pascalinelaw29_awake.f at h ⊢
  rw [(line_eq k hk 3 65 (by omega) (by omega)).1]
  rw [(line_eq 20 (by omega) 3 65 (by omega) (by omega)).1] at h
  exact h
def cn_fm (g : Int → Int) (ts : List Int) : List Int := ts.flatMap (fun a => [a, g a])
theorem cn_fm_len (g : Int → Int) (ts : List Int) : (cn_fm g ts).length = 2 * ts.length := by
  unfold cn_fm
  induction ts with
  | nil => rfl
  | cons a ts ih => rw [List.flatMap_cons, List.length_append, ih]; simp; omega
def cn_upd (g : Int → Int) (a b : Int) : Int → Int := fun c => if c = a then b else g c
theorem cn_rd (A r : List Int) (c : Int) (i : Int) (h : i = A.length) : rd (A ++ c :: r) i = c := by
  subst h; unfold rd; rw [Int.toNat_natCast]; simp [List.getD_eq_getElem?_getD]
theorem cn_set (A r : List Int) (c d b : Int) (n : Nat) (h : n = A.length + 1) : (A ++ c :: d :: r).set n b = A ++ c :: b :: r := by
  subst h; rw [List.set_append_right _ _ (by omega)]; simp
theorem cn_inner (l : List S27) (a b : Int) (g : Int → Int) (ts : List Int) (hts : ts.length ≤ 200) (x4 : Int) (d : Nat) : ∀ (k j : Nat), j + d = ts.length → d + 1 ≤ k →
    pascalineref29_Arms.l1 k l (cn_fm (cn_upd g a b) (ts.take j) ++ cn_fm g (ts.drop j)) x4 a b (decide (a ∈ ts.take j)) ((2 * j : Nat) : Int) = (if a ∈ ts then pascalineref29_Arms.l0 (k - d - 1) l (cn_fm (cn_upd g a b) ts) (wrap64 (x4 + 1)) else pascalineref29_Arms.l0 (k - d - 1) l (cn_fm (cn_upd g a b) ts ++ [a, b]) (wrap64 (x4 + 1))) := by
  induction d with
  | zero =>
    intro k j hj hk
    obtain ⟨k, rfl⟩ : ∃ m, k = m + 1 := ⟨k - 1, by omega⟩
    obtain rfl : j = ts.length := by omega
    have hl := cn_fm_len (cn_upd g a b) ts
    rw [List.take_length, List.drop_length, show cn_fm g [] = [] from rfl, List.append_nil]
    simp only [pascalineref29_Arms.l1]
    rw [if_neg (by rw [hl]; omega)]
    by_cases h : a ∈ ts
    · rw [if_pos (by simpa using h), if_pos h]
      rfl
    · rw [if_neg (by simpa using h), if_neg h, Option.bind_some, if_pos (by rw [hl]; simp; omega)]
      rfl
  | succ d ih =>
    intro k j hj hk
    obtain ⟨k, rfl⟩ : ∃ m, k = m + 1 := ⟨k - 1, by omega⟩
    have hjl : j < ts.length := by omega
    have hd : cn_fm g (ts.drop j) = ts[j] :: g ts[j] :: cn_fm g (ts.drop (j + 1)) := by rw [List.drop_eq_getElem_cons hjl]; rfl
    have hA : (cn_fm (cn_upd g a b) (ts.take j)).length = 2 * j := by rw [cn_fm_len, List.length_take]; omega
    have ht : ∀ h, cn_fm h (ts.take (j + 1)) = cn_fm h (ts.take j) ++ [ts[j], h ts[j]] := fun h => by unfold cn_fm; rw [List.take_succ_eq_append_getElem hjl, List.flatMap_append]; rfl
    have hnx := ih k (j + 1) (by omega) (by omega)
    rw [show k + 1 - (d + 1) - 1 = k - d - 1 by omega]
    rw [← hnx, hd, ht, List.append_assoc]
    have hR := cn_fm_len g (ts.drop (j + 1))
    rw [List.length_drop] at hR
    simp only [pascalineref29_Arms.l1]
    have hw1 : wrap64 (((2 * j : Nat) : Int) + 1) = ((2 * j + 1 : Nat) : Int) := by unfold wrap64; omega
    have hw2 : wrap64 (((2 * j : Nat) : Int) + 2) = ((2 * (j + 1) : Nat) : Int) := by unfold wrap64; omega
    have hlen : (cn_fm (cn_upd g a b) (ts.take j) ++ ts[j] :: g ts[j] :: cn_fm g (ts.drop (j + 1))).length = 2 * ts.length := by
      rw [List.length_append, hA, List.length_cons, List.length_cons, hR]; omega
    rw [if_pos (by rw [hlen]; omega), if_pos (by omega), cn_rd _ _ _ _ (by rw [hA])]
    by_cases hc : ts[j] = a
    · rw [if_pos hc, hw1, hw2, if_pos (by omega), if_pos (by rw [hlen]; omega), Int.toNat_natCast, cn_set _ _ _ _ _ _ (by rw [hA])]
      have hm : decide (a ∈ ts.take (j + 1)) = true := decide_eq_true (by rw [List.take_succ_eq_append_getElem hjl, hc]; simp)
      rw [hm]
      have hu : cn_upd g a b ts[j] = b := by unfold cn_upd; rw [if_pos hc]
      rw [hu]
      rfl
    · rw [if_neg hc, hw2]
      have hm : decide (a ∈ ts.take (j + 1)) = decide (a ∈ ts.take j) := by
        rw [decide_eq_decide, List.take_succ_eq_append_getElem hjl, List.mem_append, List.mem_singleton]
        exact ⟨fun h => h.elim id (fun e => absurd e.symm hc), .inl⟩
      rw [hm]
      have hu : cn_upd g a b ts[j] = g ts[j] := by unfold cn_upd; rw [if_neg hc]
      rw [hu]
      rfl
theorem cn_outer (l : List S27) (hl : l.length ≤ 200) (hv : ∀ x ∈ l, -2147483648 ≤ x.f1 ∧ x.f1 ≤ 2147483647) (d : Nat) : ∀ (k i : Nat), i + d = l.length → 300 * d + 1 ≤ k →
    pascalineref29_Arms.l0 k l (cn_fm (ta_last (l.take i)) (ta_tries (l.take i))) (i : Int) = some (ta_out l (ta_tries l)) := by
  induction d with
  | zero =>
    intro k i hi hk
    obtain ⟨k, rfl⟩ : ∃ m, k = m + 1 := ⟨k - 1, by omega⟩
    obtain rfl : i = l.length := by omega
    simp only [pascalineref29_Arms.l0]
    rw [if_neg (by omega), List.take_length]
    rfl
  | succ d ih =>
    intro k i hi hk
    obtain ⟨k, rfl⟩ : ∃ m, k = m + 1 := ⟨k - 1, by omega⟩
    have hil : i < l.length := by omega
    have htk := List.take_succ_eq_append_getElem hil
    have hvx := hv _ (List.getElem_mem hil)
    have hw : wrap64 ((i : Int) + 1) = ((i + 1 : Nat) : Int) := by unfold wrap64; omega
    have htl : (ta_tries (l.take i)).length ≤ 200 := Nat.le_trans (ta_tries_len l i) (by omega)
    simp only [pascalineref29_Arms.l0]
    rw [if_pos (by omega), if_pos (by omega), ev_rd l i hil]
    by_cases h3 : (l[i]).f0 = 3
    · rw [if_pos h3, ref_parts _ hvx, Option.bind_some]
      have hin := cn_inner l ((l[i]).f1 / 64) ((l[i]).f1 % 64) (ta_last (l.take i)) (ta_tries (l.take i)) htl (i : Int) (ta_tries (l.take i)).length k 0 (by omega) (by omega)
      rw [List.take_zero, List.drop_zero, show cn_fm (cn_upd (ta_last (l.take i)) ((l[i]).f1 / 64) ((l[i]).f1 % 64)) [] = [] from rfl, List.nil_append] at hin
      have hlast : ta_last (l.take (i + 1)) = cn_upd (ta_last (l.take i)) ((l[i]).f1 / 64) ((l[i]).f1 % 64) := by
        funext c
        rw [htk, ta_last_snoc]
        unfold ta_arm cn_upd
        by_cases hc : (l[i]).f1 / 64 = c
        · rw [if_pos ⟨h3, hc⟩, if_pos hc.symm, tr_i32_63 _ hvx]
        · rw [if_neg (fun e => hc e.2), if_neg (fun e => hc e.symm)]
      have hnx := ih (k - (ta_tries (l.take i)).length - 1) (i + 1) (by omega) (by omega)
      rw [hlast] at hnx
      refine Eq.trans hin ?_
      rw [hw]
      have htr : ta_tries (l.take (i + 1)) = if (l[i]).f1 / 64 ∈ ta_tries (l.take i) then ta_tries (l.take i) else ta_tries (l.take i) ++ [(l[i]).f1 / 64] := by
        rw [htk, ta_tries_snoc]; unfold ta_put; rw [if_pos h3]
      rw [htr] at hnx
      by_cases hm : (l[i]).f1 / 64 ∈ ta_tries (l.take i)
      · rw [if_pos hm] at hnx ⊢
        exact hnx
      · rw [if_neg hm] at hnx ⊢
        rw [← hnx]
        congr 1
        simp [cn_fm, cn_upd]
    · rw [if_neg h3, hw]
      have hnx := ih k (i + 1) (by omega) (by omega)
      have hlast : ta_last (l.take (i + 1)) = ta_last (l.take i) := by
        funext c
        rw [htk, ta_last_snoc]
        unfold ta_arm
        rw [if_neg (fun e => h3 e.1)]
      have htr : ta_tries (l.take (i + 1)) = ta_tries (l.take i) := by rw [htk, ta_tries_snoc]; unfold ta_put; rw [if_neg h3]
      rw [hlast, htr] at hnx
      exact hnx
theorem cn_arms (l : List S27) (hl : l.length ≤ 200) (hv : ∀ x ∈ l, -2147483648 ≤ x.f1 ∧ x.f1 ≤ 2147483647) (k : Nat) (hk : 70000 ≤ k) : pascalineref29_Arms.f k l = some (ta_out l (ta_tries l)) ∧ trace_Arms.f l = some (ta_out l (ta_tries l)) := by
  refine ⟨?_, ?_⟩
  · have h := cn_outer l hl hv l.length k 0 (by omega) (by omega)
    rw [List.take_zero] at h
    exact h
  · unfold trace_Arms.f
    rw [if_pos ⟨by omega, hv⟩]
def cn_one (p : Int) (a : Int) (x : S27) : Int := if x.f0 = p then a + 1 else a
def cn_cnt (l : List S27) (p : Int) : Int := l.foldl (cn_one p) 0
theorem cn_cnt_snoc (l : List S27) (x : S27) (p : Int) : cn_cnt (l ++ [x]) p = cn_one p (cn_cnt l p) x := by unfold cn_cnt; rw [List.foldl_append]; rfl
theorem cn_cnt_le (l : List S27) (p : Int) : ∀ n, 0 ≤ cn_cnt (l.take n) p ∧ cn_cnt (l.take n) p ≤ n
  | 0 => by simp [cn_cnt]
  | n + 1 => by
    have ih := cn_cnt_le l p n
    by_cases h : n < l.length
    · rw [List.take_succ_eq_append_getElem h, cn_cnt_snoc]
      unfold cn_one
      split <;> omega
    · rw [List.take_of_length_le (i := n + 1) (by omega)]; rw [List.take_of_length_le (i := n) (by omega)] at ih; omega
theorem cn_rd_set (x : List Int) (i p : Nat) (v : Int) (hi : i < x.length) : rd (x.set i v) (p : Int) = if p = i then v else rd x (p : Int) := by
  unfold rd
  rw [Int.toNat_natCast]
  simp only [List.getD_eq_getElem?_getD, List.getElem?_set]
  by_cases h : i = p
  · subst h; simp [hi]
  · rw [if_neg h, if_neg (fun e => h e.symm)]
theorem cn_counts_loop (l : List S27) (hl : l.length ≤ 200) (d : Nat) : ∀ (k i : Nat) (x : List Int), i + d = l.length → d + 1 ≤ k → x.length = 6 → (∀ p : Nat, p < 6 → rd x (p : Int) = cn_cnt (l.take i) (p : Int)) →
    ∃ y, trace_Counts.l0 k x l (l.length : Int) (i : Int) = some y ∧ y.length = 6 ∧ ∀ p : Nat, p < 6 → rd y (p : Int) = cn_cnt l (p : Int) := by
  induction d with
  | zero =>
    intro k i x hi hk h6 hx
    obtain ⟨k, rfl⟩ : ∃ m, k = m + 1 := ⟨k - 1, by omega⟩
    obtain rfl : i = l.length := by omega
    rw [List.take_length] at hx
    simp only [trace_Counts.l0]
    rw [if_neg (by omega)]
    exact ⟨x, rfl, h6, hx⟩
  | succ d ih =>
    intro k i x hi hk h6 hx
    obtain ⟨k, rfl⟩ : ∃ m, k = m + 1 := ⟨k - 1, by omega⟩
    have hil : i < l.length := by omega
    have htk := List.take_succ_eq_append_getElem hil
    have hw : wrap64 ((i : Int) + 1) = ((i + 1 : Nat) : Int) := by unfold wrap64; omega
    simp only [trace_Counts.l0]
    rw [if_pos (by omega), if_pos (by omega), if_pos (by omega), ev_rd l i hil, hw]
    have skip : ¬ (0 ≤ (l[i]).f0 ∧ (l[i]).f0 < 6) → ∀ p : Nat, p < 6 → rd x (p : Int) = cn_cnt (l.take (i + 1)) (p : Int) := by
      intro hn p hp
      rw [htk, cn_cnt_snoc]
      unfold cn_one
      rw [if_neg (by omega)]
      exact hx p hp
    by_cases h0 : (l[i]).f0 ≥ 0
    · rw [if_pos h0]
      by_cases h1 : (l[i]).f0 < (x.length : Int)
      · rw [if_pos h1, if_pos h0]
        refine ih k (i + 1) _ (by omega) (by omega) (by rw [List.length_set]; exact h6) ?_
        intro p hp
        rw [cn_rd_set x _ p _ (by omega), htk, cn_cnt_snoc]
        unfold cn_one
        by_cases he : p = ((l[i]).f0).toNat
        · have hxp := hx p hp
          have hb := cn_cnt_le l (p : Int) i
          have ep : (l[i]).f0 = (p : Int) := by omega
          rw [if_pos he, if_pos ep, ep, hxp]
          unfold wrap64
          omega
        · rw [if_neg he, if_neg (by omega)]
          exact hx p hp
      · rw [if_neg h1]
        exact ih k (i + 1) x (by omega) (by omega) h6 (skip (by omega))
    · rw [if_neg h0]
      exact ih k (i + 1) x (by omega) (by omega) h6 (skip (by omega))
theorem cn_counts (l : List S27) (hl : l.length ≤ 200) (k : Nat) (hk : 300 ≤ k) : ∃ y, trace_Counts.f k l = some y ∧ y.length = 6 ∧ ∀ p : Nat, p < 6 → rd y (p : Int) = cn_cnt l (p : Int) := by
  obtain ⟨y, h1, h2⟩ := cn_counts_loop l hl l.length k 0 [0, 0, 0, 0, 0, 0] (by omega) (by omega) rfl (by
    intro p hp
    rw [List.take_zero]
    match p, hp with
    | 0, _ => rfl
    | 1, _ => rfl
    | 2, _ => rfl
    | 3, _ => rfl
    | 4, _ => rfl
    | 5, _ => rfl)
  refine ⟨y, ?_, h2⟩
  unfold trace_Counts.f trace_names.f
  rw [Option.bind_some]
  exact h1
theorem cn_same (x : List Int) (d : Nat) (hx : x.length ≤ 1000) : ∀ (k i : Nat), i + d = x.length → d + 1 ≤ k → pascalinelaw29_TraceCounts.l2 k x x (i : Int) = some true := by
  induction d with
  | zero =>
    intro k i hi hk
    obtain ⟨k, rfl⟩ : ∃ m, k = m + 1 := ⟨k - 1, by omega⟩
    simp only [pascalinelaw29_TraceCounts.l2]
    rw [if_neg (by omega)]
  | succ d ih =>
    intro k i hi hk
    obtain ⟨k, rfl⟩ : ∃ m, k = m + 1 := ⟨k - 1, by omega⟩
    have hw : wrap64 ((i : Int) + 1) = ((i + 1 : Nat) : Int) := by unfold wrap64; omega
    simp only [pascalinelaw29_TraceCounts.l2]
    rw [if_pos (by omega), if_pos (by omega), if_pos (by omega), if_pos trivial, hw]
    exact ih k (i + 1) (by omega) (by omega)
theorem cn_port (l : List S27) (hl : l.length ≤ 200) (y : List Int) (hy : y.length = 6) (p : Nat) (hp : p < 6) (hc : rd y (p : Int) = cn_cnt l (p : Int)) (d : Nat) : ∀ (k i : Nat), i + d = l.length → d + 1 ≤ k →
    pascalinelaw29_TraceCounts.l1 k l y (p : Int) (cn_cnt (l.take i) (p : Int)) (i : Int) = pascalinelaw29_TraceCounts.l0 (k - d - 1) l y ((p + 1 : Nat) : Int) := by
  induction d with
  | zero =>
    intro k i hi hk
    obtain ⟨k, rfl⟩ : ∃ m, k = m + 1 := ⟨k - 1, by omega⟩
    obtain rfl : i = l.length := by omega
    have hw : wrap64 ((p : Int) + 1) = ((p + 1 : Nat) : Int) := by unfold wrap64; omega
    simp only [pascalinelaw29_TraceCounts.l1]
    rw [if_neg (by omega), if_pos (by omega), if_pos (by omega), List.take_length, if_pos hc, hw]
    rfl
  | succ d ih =>
    intro k i hi hk
    obtain ⟨k, rfl⟩ : ∃ m, k = m + 1 := ⟨k - 1, by omega⟩
    have hil : i < l.length := by omega
    have htk := List.take_succ_eq_append_getElem hil
    have hw : wrap64 ((i : Int) + 1) = ((i + 1 : Nat) : Int) := by unfold wrap64; omega
    have hb := cn_cnt_le l (p : Int) i
    have hnx := ih k (i + 1) (by omega) (by omega)
    rw [htk, cn_cnt_snoc] at hnx
    unfold cn_one at hnx
    rw [show k + 1 - (d + 1) - 1 = k - d - 1 by omega]
    simp only [pascalinelaw29_TraceCounts.l1]
    rw [if_pos (by omega), if_pos (by omega), ev_rd l i hil, hw]
    by_cases h : (l[i]).f0 = (p : Int)
    · rw [if_pos h] at hnx ⊢
      rw [show wrap64 (cn_cnt (l.take i) (p : Int) + 1) = cn_cnt (l.take i) (p : Int) + 1 by unfold wrap64; omega]
      exact hnx
    · rw [if_neg h] at hnx ⊢
      exact hnx
theorem cn_ports (l : List S27) (hl : l.length ≤ 200) (hv : ∀ x ∈ l, -2147483648 ≤ x.f1 ∧ x.f1 ≤ 2147483647) (y : List Int) (hy : y.length = 6) (hc : ∀ p : Nat, p < 6 → rd y (p : Int) = cn_cnt l (p : Int)) (d : Nat) : ∀ (k p : Nat), p + d = 6 → 80000 + 1000 * d ≤ k →
    pascalinelaw29_TraceCounts.l0 k l y (p : Int) = some true := by
  induction d with
  | zero =>
    intro k p hp hk
    obtain ⟨k, rfl⟩ : ∃ m, k = m + 1 := ⟨k - 1, by omega⟩
    obtain rfl : p = 6 := by omega
    obtain ⟨h1, h2⟩ := cn_arms l hl hv k (by omega)
    have ho := ta_out_len l (ta_tries l)
    have ht := ta_tries_len l l.length
    rw [List.take_length] at ht
    simp only [pascalinelaw29_TraceCounts.l0]
    rw [if_neg (by omega), h2, Option.bind_some, h1, Option.bind_some, if_pos rfl]
    exact cn_same _ (ta_out l (ta_tries l)).length (by omega) k 0 (by omega) (by omega)
  | succ d ih =>
    intro k p hp hk
    obtain ⟨k, rfl⟩ : ∃ m, k = m + 1 := ⟨k - 1, by omega⟩
    simp only [pascalinelaw29_TraceCounts.l0]
    rw [if_pos (by omega)]
    have h := cn_port l hl y hy p (by omega) (hc p (by omega)) l.length k 0 (by omega) (by omega)
    rw [List.take_zero] at h
    refine Eq.trans h ?_
    exact ih _ (p + 1) (by omega) (by omega)
end Go.Proofs.Ytajcopcmahidhaa.Q

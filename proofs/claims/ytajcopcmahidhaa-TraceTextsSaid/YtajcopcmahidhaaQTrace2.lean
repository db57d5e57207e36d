/- What the reference's functions answer of events: lines, texts, what was written. -/
import Derived.Test.YtajcopcmahidhaaPx7
import Derived.Test.YtajcopcmahidhaaPx17
import Derived.Test.YtajcopcmahidhaaPx18
import Derived.Test.YtajcopcmahidhaaPx19
import Derived.Test.YtajcopcmahidhaaPx20
import Derived.Test.YtajcopcmahidhaaPx21
import Derived.Test.YtajcopcmahidhaaPx22
import Derived.Test.YtajcopcmahidhaaPx23
import Derived.Test.YtajcopcmahidhaaPx24
import Derived.Test.YtajcopcmahidhaaQTrace
namespace Go.Proofs.Ytajcopcmahidhaa.Q
set_option linter.unusedSimpArgs false
set_option linter.unusedVariables false
open Go Go.RowKit Go.Proofs.Ytajcopcmahidhaa.P Go.Proofs.Ytajcopcmahidhaa.C Go.Proofs.YtajcopcmahidhaaW.PrintWords Go.Proofs.YtajcopcmahidhaaW.PrintLast Go.Proofs.YtajcopcmahidhaaW.PrintMore
theorem tr_i32_63 (v : Int) (h : -2147483648 ≤ v ∧ v ≤ 2147483647) : Go.bits .and .i32 v 63 = v % 64 := by
  have h63 : (BitVec.ofInt 32 63).toNat = 2 ^ 6 - 1 := by decide
  have key : (BitVec.ofInt 32 v &&& BitVec.ofInt 32 63).toNat = (v % ((2 ^ 32 : Nat) : Int)).toNat % 2 ^ 6 := by
    rw [BitVec.toNat_and, BitVec.toNat_ofInt, h63, Nat.and_two_pow_sub_one_eq_mod]
  show IntKind.i32.wrap ((BitVec.ofInt 32 v &&& BitVec.ofInt 32 63).toNat : Nat) = v % 64
  rw [key, IntKind.wrap_i32]
  have : ((2 ^ 32 : Nat) : Int) = 4294967296 := by decide
  rw [this]
  omega
theorem ref_parts (v : Int) (h : -2147483648 ≤ v ∧ v ≤ 2147483647) : pascalineref29_parts.f v = some (v / 64, v % 64) := by
  have hw : ∀ n : Int, -9223372036854775808 ≤ n ∧ n ≤ 9223372036854775807 → wrap64 n = n := fun n hn => by unfold wrap64; omega
  unfold pascalineref29_parts.f
  rw [hw v (by omega)]
  have ht : Int.tmod v 64 = if 0 ≤ v then v % 64 else -((-v) % 64) := by
    split
    · rename_i h0; exact Int.tmod_eq_emod_of_nonneg h0
    · rename_i h0
      rw [show v = -(-v) by omega, Int.neg_tmod, Int.tmod_eq_emod_of_nonneg (by omega)]
      simp
  have hd : ∀ n : Int, n % 64 = 0 → Int.tdiv n 64 = n / 64 := by
    intro n hn
    obtain ⟨m, rfl⟩ : ∃ m, n = m * 64 := ⟨n / 64, by omega⟩
    rw [Int.mul_tdiv_cancel _ (by decide), Int.mul_ediv_cancel _ (by decide)]
  generalize hm : Int.tmod v 64 = t at ht ⊢
  by_cases h1 : t < 0
  · rw [if_pos h1]
    have e1 : t + 64 = v % 64 := by split at ht <;> omega
    rw [hw (t + 64) (by omega), e1, hw (v - v % 64) (by omega), hd _ (by omega), hw _ (by omega)]
    congr 2
    omega
  · rw [if_neg h1]
    have e1 : t = v % 64 := by split at ht <;> omega
    rw [e1, hw (v - v % 64) (by omega), hd _ (by omega), hw _ (by omega)]
    congr 2
    omega
theorem ref_name (p : Int) (h : -9223372036854775808 ≤ p ∧ p ≤ 9223372036854775807) : pascalineref29_Name.f p = some (nameOf p) := by
  unfold pascalineref29_Name.f nameOf
  simp only [Option.bind_some]
  by_cases h0 : 0 ≤ p
  · rw [if_pos (show p ≥ 0 from h0)]
    by_cases h1 : p < 6
    · rw [if_pos h1, if_pos h0, if_pos (by simp; omega), if_pos ⟨h0, h1⟩]
    · rw [if_neg h1, if_neg (by omega), ref_text_eq p h]; rfl
  · rw [if_neg (by omega), if_neg (by omega), ref_text_eq p h]; rfl
theorem ref_line (p v : Int) (hp : -9223372036854775808 ≤ p ∧ p ≤ 9223372036854775807) (hv : -2147483648 ≤ v ∧ v ≤ 2147483647) : pascalineref29_Line.f p v = some (lineOf p v) := by
  have hw : ∀ n : Int, -9223372036854775808 ≤ n ∧ n ≤ 9223372036854775807 → wrap64 n = n := fun n hn => by unfold wrap64; omega
  have s1 := nameOf_size p
  have s2 := tr_text_size v
  have s3 := tr_text_size (v / 64)
  have s4 := tr_text_size (v % 64)
  have e32 : (⟨#[32]⟩ : ByteArray).size = 1 := rfl
  have e4 : (⟨#[97, 114, 109, 32]⟩ : ByteArray).size = 4 := rfl
  unfold lineOf pascalineref29_Line.f
  by_cases h3 : p = 3
  · rw [if_pos h3, if_pos h3, ref_parts v hv, tr_i32_63 v hv]
    simp only [Option.bind_some]
    rw [ref_text_eq (v / 64) (by omega), ref_text_eq (v % 64) (by omega)]
    simp only [Option.bind_some, ByteArray.size_append, e32, e4]
    rw [if_pos (by omega), if_pos (by omega), if_pos (by omega), h3]
    congr 1
  · rw [if_neg h3, if_neg h3, ref_name p hp, hw v (by omega), ref_text_eq v (by omega)]
    simp only [Option.bind_some, ByteArray.size_append, e32]
    rw [if_pos (by omega), if_pos (by omega)]
theorem tr_line_eq (k : Nat) (hk : 1 ≤ k) (x : S27) (hp : -9223372036854775808 ≤ x.f0 ∧ x.f0 ≤ 9223372036854775807) (hv : -2147483648 ≤ x.f1 ∧ x.f1 ≤ 2147483647) : tr_line k x = lineOf x.f0 x.f1 := by
  unfold tr_line; rw [(line_eq k hk x.f0 x.f1 hp hv).1]; rfl
def Evs (l : List S27) : Prop := ∀ x ∈ l, (-9223372036854775808 ≤ x.f0 ∧ x.f0 ≤ 9223372036854775807) ∧ (-2147483648 ≤ x.f1 ∧ x.f1 ≤ 2147483647)
theorem ev_rd (l : List S27) (i : Nat) (h : i < l.length) : rd_T27 l (i : Int) = l[i] := by unfold rd_T27; rw [Int.toNat_natCast]; simp [List.getD_eq_getElem?_getD, h]
theorem ba_size (s : ByteArray) : s.size = s.data.toList.length := (data_length s).symm
theorem ba_of (s : ByteArray) (l : List UInt8) (h : s.data.toList = l) : s = ⟨l.toArray⟩ := by
  subst h; rfl
theorem ref_text_loop (k0 : Nat) (hk0 : 1 ≤ k0) (l : List S27) (hl : l.length ≤ 200) (he : Evs l) (d : Nat) : ∀ (k i : Nat) (acc : ByteArray), i ≤ l.length → l.length - i = d → d < k → acc.data.toList = tx_lines (tr_line k0) (l.take i) → acc.size ≤ 1001 * i →
    pascalineref29_Text.l0 k l acc (i : Int) = some ⟨(tx_lines (tr_line k0) l).toArray⟩ := by
  induction d with
  | zero =>
    intro k i acc hi hd hk ha hs
    obtain ⟨k, rfl⟩ : ∃ m, k = m + 1 := ⟨k - 1, by omega⟩
    simp only [pascalineref29_Text.l0]
    rw [if_neg (by omega), ba_of acc _ ha, List.take_of_length_le (by omega)]
  | succ d ih =>
    intro k i acc hi hd hk ha hs
    obtain ⟨k, rfl⟩ : ∃ m, k = m + 1 := ⟨k - 1, by omega⟩
    have hlt : i < l.length := by omega
    have hx := he l[i] (List.getElem_mem _)
    have hz := (line_eq k0 hk0 _ _ hx.1 hx.2).2
    have e1 : (⟨#[10]⟩ : ByteArray).size = 1 := rfl
    simp only [pascalineref29_Text.l0]
    rw [if_pos (by omega), if_pos (by omega), ev_rd l i hlt, ref_line _ _ hx.1 hx.2]
    simp only [Option.bind_some]
    rw [if_pos (by omega), if_pos (by rw [ByteArray.size_append]; omega), show wrap64 ((i : Int) + 1) = ((i + 1 : Nat) : Int) by unfold wrap64; omega]
    refine ih k (i + 1) _ (by omega) (by omega) (by omega) ?_ (by rw [ByteArray.size_append, ByteArray.size_append, e1]; omega)
    rw [List.take_succ_eq_append_getElem hlt, tx_lines_snoc, ByteArray.data_append, ByteArray.data_append, Array.toList_append, Array.toList_append, ha, tr_line_eq k0 hk0 _ hx.1 hx.2]
theorem tw_tx_eq (v : Int) (hv : -2147483648 ≤ v ∧ v ≤ 2147483647) : tw_tx v = strOfNums (textOf v) := by
  unfold tw_tx; rw [word_text_eq v (by omega)]; rfl
theorem ref_written_loop (l : List S27) (hl : l.length ≤ 200) (he : Evs l) (d : Nat) : ∀ (k i : Nat) (acc : ByteArray), i ≤ l.length → l.length - i = d → 3 * d < k → acc.data.toList = tw_all tw_tx (l.take i) → acc.size ≤ 1001 * i →
    pascalineref29_Written.l0 k l acc (i : Int) = some ⟨(tw_all tw_tx l).toArray⟩ := by
  induction d with
  | zero =>
    intro k i acc hi hd hk ha hs
    obtain ⟨k, rfl⟩ : ∃ m, k = m + 1 := ⟨k - 1, by omega⟩
    simp only [pascalineref29_Written.l0]
    rw [if_neg (by omega), ba_of acc _ ha, List.take_of_length_le (by omega)]
  | succ d ih =>
    intro k i acc hi hd hk ha hs
    obtain ⟨k, rfl⟩ : ∃ m, k = m + 3 := ⟨k - 3, by omega⟩
    have hlt : i < l.length := by omega
    have hx := he l[i] (List.getElem_mem _)
    have hw : wrap64 ((i : Int) + 1) = ((i + 1 : Nat) : Int) := by unfold wrap64; omega
    have e1 : (⟨#[32]⟩ : ByteArray).size = 1 := rfl
    have e2 : (⟨#[63]⟩ : ByteArray).size = 1 := rfl
    have next : ∀ acc' : ByteArray, acc'.data.toList = acc.data.toList ++ tw_one tw_tx l[i] → acc'.size ≤ acc.size + 1001 → pascalineref29_Written.l0 k l acc' ((i + 1 : Nat) : Int) = some ⟨(tw_all tw_tx l).toArray⟩ := fun acc' h1 h2 =>
      ih k (i + 1) acc' (by omega) (by omega) (by omega) (by rw [h1, List.take_succ_eq_append_getElem hlt, tw_all_snoc, ha]) (by omega)
    have hi1 : (i : Int) < (l.length : Int) := by omega
    have hi0 : 0 ≤ (i : Int) := by omega
    have e := ev_rd l i hlt
    generalize l[i] = z at e hx next
    obtain ⟨x, y⟩ := z
    dsimp only at hx
    have s2 := tr_text_size y
    simp only [pascalineref29_Written.l0]
    rw [if_pos hi1, if_pos hi0, e]
    dsimp only
    by_cases c0 : x = 0
    · rw [if_pos c0, show wrap64 y = y by unfold wrap64; omega, ref_text_eq y (by omega)]
      simp only [Option.bind_some]
      rw [if_pos (by omega), if_pos (by rw [ByteArray.size_append]; omega)]
      simp only [pascalineref29_Written.j1]
      rw [if_pos hi0, if_pos hi1, e]
      dsimp only
      rw [if_neg (by omega)]
      simp only [pascalineref29_Written.j2]
      rw [if_neg (by simp), if_pos hi0, if_pos hi1, e]
      dsimp only
      rw [if_neg (by omega), hw]
      refine next _ ?_ (by rw [ByteArray.size_append, ByteArray.size_append, e1]; omega)
      unfold tw_one
      rw [if_pos c0, ByteArray.data_append, ByteArray.data_append, Array.toList_append, Array.toList_append, List.append_assoc]
      dsimp only
      rw [tw_tx_eq y hx.2]
    · rw [if_neg c0]
      simp only [pascalineref29_Written.j1]
      rw [if_pos hi0, if_pos hi1, e]
      dsimp only
      by_cases c1 : x = 1
      · rw [if_pos c1]
        have yes : (32 ≤ y ∧ y ≤ 126) ∨ y = 10 → pascalineref29_Written.j2 (k + 1) l acc (i : Int) y true = some ⟨(tw_all tw_tx l).toArray⟩ := by
          intro hc
          simp only [pascalineref29_Written.j2, if_true, Option.bind_some]
          have hsn : (strOfNums [y % 256]).size = 1 := by rw [strOfNums_size]; rfl
          rw [if_pos (by omega), hw]
          refine next _ ?_ (by rw [ByteArray.size_append]; omega)
          unfold tw_one
          rw [if_neg c0, if_pos c1, if_pos hc, ByteArray.data_append, Array.toList_append, strOfNums_data]
          dsimp only
          rw [show y % 256 = y by omega]
          rfl
        have no : ¬ ((32 ≤ y ∧ y ≤ 126) ∨ y = 10) → pascalineref29_Written.j2 (k + 1) l acc (i : Int) y false = some ⟨(tw_all tw_tx l).toArray⟩ := by
          intro hc
          simp only [pascalineref29_Written.j2]
          rw [if_neg (by simp), if_pos hi0, if_pos hi1, e]
          dsimp only
          rw [if_pos c1, if_pos (by omega), hw]
          refine next _ ?_ (by rw [ByteArray.size_append, e2]; omega)
          unfold tw_one
          rw [if_neg c0, if_pos c1, if_neg hc, ByteArray.data_append, Array.toList_append]
        by_cases c2 : y ≥ 32
        · rw [if_pos c2]
          by_cases c3 : y ≤ 126
          · rw [if_pos c3]; exact yes (.inl ⟨c2, c3⟩)
          · rw [if_neg c3, show (y == 10) = false from beq_eq_false_iff_ne.mpr (by omega)]; exact no (by omega)
        · rw [if_neg c2]
          by_cases c4 : y = 10
          · rw [show (y == 10) = true from beq_iff_eq.mpr c4]; exact yes (.inr c4)
          · rw [show (y == 10) = false from beq_eq_false_iff_ne.mpr c4]; exact no (by omega)
      · rw [if_neg c1]
        simp only [pascalineref29_Written.j2]
        rw [if_neg (by simp), if_pos hi0, if_pos hi1, e]
        dsimp only
        rw [if_neg c1, hw]
        refine next _ ?_ (by omega)
        unfold tw_one
        rw [if_neg c0, if_neg c1, List.append_nil]
end Go.Proofs.Ytajcopcmahidhaa.Q

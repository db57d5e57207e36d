/- Strings as lists of bytes. -/
import Derived.Test.YtmebogkhdbbbbaaWWords
import Derived.Test.YtmebogkhdbbbbaaCDigs
import Derived.Laws.Strings
namespace Go.Proofs.Ytmebogkhdbbbbaa.C
open Go Go.Proofs.YtmebogkhdbbbbaaW.PrintWords

theorem toList_data (s : ByteArray) : s.toList = s.data.toList := ByteArray.toList_eq s
theorem bytes_inj' {a b : ByteArray} (h : a.data.toList = b.data.toList) : a = b := by
  apply ByteArray.ext; exact Array.ext' h
theorem bytesOf_inj {a b : ByteArray} (h : bytesOf a = bytesOf b) : a = b := by
  apply bytes_inj'
  unfold bytesOf at h
  exact (List.map_inj_right (fun x y e => by have : x.toNat = y.toNat := by omega
                                             exact UInt8.toNat_inj.1 this)).1 h
theorem toList_inj {a b : ByteArray} : a.toList = b.toList ↔ a = b := by
  rw [toList_data, toList_data]
  exact ⟨bytes_inj', fun h => by rw [h]⟩
theorem bytesOf_nums (xs : List Int) (h : ∀ x ∈ xs, 0 ≤ x ∧ x < 256) : bytesOf (strOfNums xs) = xs := by
  unfold bytesOf strOfNums
  simp only [List.map_map]
  conv => rhs; rw [← List.map_id xs]
  apply List.map_congr_left
  intro x hx
  have := h x hx
  simp only [Function.comp, id, UInt8.toNat_ofNat']
  omega
theorem nums_bytesOf (s : ByteArray) : strOfNums (bytesOf s) = s := by
  apply bytes_inj'
  unfold bytesOf strOfNums
  simp only [List.map_map]
  conv => rhs; rw [← List.map_id s.data.toList]
  apply List.map_congr_left
  intro x _
  simp [Function.comp]
theorem bytesOf_range (s : ByteArray) : ∀ x ∈ bytesOf s, 0 ≤ x ∧ x < 256 := by
  intro x hx
  unfold bytesOf at hx
  obtain ⟨b, _, rfl⟩ := List.mem_map.1 hx
  have := b.toNat_lt
  omega
theorem bt_get (s : ByteArray) (j : Nat) (h : j < (bytesOf s).length) : bt s (j : Int) = (bytesOf s)[j] := by
  rw [← rd_bytesOf]; simp [rd, List.getD_eq_getElem?_getD, h]
theorem bytesOf_extract (s : ByteArray) (a b : Nat) : bytesOf (s.extract a b) = ((bytesOf s).take b).drop a := by
  unfold bytesOf
  rw [ByteArray.data_extract, Array.toList_extract, List.extract_eq_take_drop]
  rw [← List.map_take, ← List.map_drop]
  rw [List.drop_take]
theorem bytesOf_tail (s : ByteArray) : bytesOf (s.extract 1 s.size) = (bytesOf s).tail := by
  rw [bytesOf_extract, List.take_of_length_le (by rw [bytesOf_length]; omega), List.drop_one]
theorem bytesOf_append (a b : ByteArray) : bytesOf (a ++ b) = bytesOf a ++ bytesOf b := by
  unfold bytesOf; simp [ByteArray.data_append]
theorem toList_lit (s : ByteArray) (xs : List Int) (h : ∀ x ∈ xs, 0 ≤ x ∧ x < 256) : s.toList = (strOfNums xs).toList ↔ bytesOf s = xs := by
  rw [toList_inj]
  constructor
  · intro e; rw [e, bytesOf_nums xs h]
  · intro e; rw [← e, nums_bytesOf]
theorem digs_bytes (b : Int) (hb : 2 ≤ b ∧ b ≤ 16) : ∀ (f : Nat) (n : Int) (m : Nat), 0 ≤ n → ∀ x ∈ digs b f n m, 0 ≤ x ∧ x < 256
  | 0, _, _, _ => by simp [digs]
  | f + 1, n, m, h => by
    intro x hx
    rw [digs_succ] at hx
    split at hx
    · rcases List.mem_append.1 hx with hx | hx
      · exact digs_bytes b hb f _ _ (Int.ediv_nonneg h (by omega)) x hx
      · rw [List.mem_singleton.1 hx]
        have h0 : 0 ≤ n % b := Int.emod_nonneg _ (by omega)
        have h1 : n % b < b := Int.emod_lt_of_pos _ (by omega)
        unfold dg; split <;> omega
    · cases hx
theorem text_bytes (n : Int) : ∀ x ∈ textOf n, 0 ≤ x ∧ x < 256 := by
  intro x hx
  unfold textOf at hx
  split at hx
  · rcases List.mem_cons.1 hx with hx | hx
    · omega
    · exact digs_bytes 10 (by omega) _ _ _ (by omega) x hx
  · exact digs_bytes 10 (by omega) _ _ _ (by omega) x hx
end Go.Proofs.Ytmebogkhdbbbbaa.C

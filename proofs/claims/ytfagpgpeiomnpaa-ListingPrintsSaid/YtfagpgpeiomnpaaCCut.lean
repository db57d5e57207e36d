/- The first line of a text: where its first line feed is. No program in sight. -/
import Derived.Lib.Bytealg
import Derived.Lib.Walk
namespace Go.Proofs.Ytfagpgpeiomnpaa.C
open Go Go.Lib
def ct_ix (s : ByteArray) : Int := Lib.indexByte s.data.toList 10
theorem ct_list (c : UInt8) : ∀ l : List UInt8, (Lib.indexByte l c = -1 ∧ ∀ j, j < l.length → l[j]? ≠ some c) ∨ ∃ i : Nat, Lib.indexByte l c = i ∧ i < l.length ∧ l[i]? = some c ∧ ∀ j, j < i → l[j]? ≠ some c
  | [] => .inl ⟨rfl, fun j h => absurd h (by simp)⟩
  | b :: l => by
    by_cases hb : b = c
    · subst hb
      refine .inr ⟨0, ?_, by simp, by simp, fun j h => absurd h (by omega)⟩
      simp [Lib.indexByte]
    · rcases ct_list c l with ⟨h, hn⟩ | ⟨i, h, hi, hs, hn⟩
      · refine .inl ⟨?_, fun j hj => ?_⟩
        · simp [Lib.indexByte, hb, h]
        · cases j with
          | zero => simpa using hb
          | succ j => rw [List.getElem?_cons_succ]; exact hn j (by simpa using hj)
      · refine .inr ⟨i + 1, ?_, by simpa using hi, by rw [List.getElem?_cons_succ]; exact hs, fun j hj => ?_⟩
        · have : ((i : Int) == -1) = false := by rw [beq_eq_false_iff_ne]; omega
          simp [Lib.indexByte, hb, h, this]
        · cases j with
          | zero => simpa using hb
          | succ j => rw [List.getElem?_cons_succ]; exact hn j (by omega)
theorem ct_cases (s : ByteArray) : ct_ix s = -1 ∨ ∃ i : Nat, ct_ix s = i ∧ i < s.size := by
  rcases ct_list 10 s.data.toList with ⟨h, _⟩ | ⟨i, h, hi, _⟩
  · exact .inl h
  · exact .inr ⟨i, h, by rw [Lib.size_eq]; exact hi⟩
end Go.Proofs.Ytfagpgpeiomnpaa.C

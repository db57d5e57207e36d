/- Digits of numbers: the plain words that contracts of word.digits and of the reference's texts share. No program in sight. -/
import Derived.Laws.BytesArg
namespace Go.Proofs.Ytmebogkhdbbbbaa.C
open Go

def dg (d : Int) : Int := if d < 10 then 48 + d else 87 + d
/-- The digits of n in base b, at least m of them, the first one first. -/
def digs (b : Int) : Nat → Int → Nat → List Int
  | 0, _, _ => []
  | f + 1, n, m => if 0 < n ∨ 0 < m then digs b f (n / b) (m - 1) ++ [dg (n % b)] else []
theorem digs_succ (b : Int) (f : Nat) (n : Int) (m : Nat) : digs b (f + 1) n m = if 0 < n ∨ 0 < m then digs b f (n / b) (m - 1) ++ [dg (n % b)] else [] := rfl
theorem digs_inv (b : Int) (hb : 2 ≤ b) (x : Int) (a : Nat) (h0 : 0 ≤ x) (h : x < 2 ^ (a + 1)) : 0 ≤ x / b ∧ x / b < 2 ^ a := by
  constructor
  · exact Int.ediv_nonneg h0 (by omega)
  · have h1 : x / b ≤ x / 2 := by
      apply Int.le_ediv_of_mul_le (by omega)
      have h3 : x / b * b ≤ x := Int.ediv_mul_le x (by omega)
      have h4 : 0 ≤ x / b := Int.ediv_nonneg h0 (by omega)
      have h5 : x / b * 2 ≤ x / b * b := Int.mul_le_mul_of_nonneg_left hb h4
      omega
    have h2 : (2 : Int) ^ (a + 1) = 2 * 2 ^ a := by rw [Int.pow_succ]; omega
    omega
theorem dg_lo (d : Int) (h : d < 10) : 48 + d = dg d := by unfold dg; rw [if_pos h]
theorem dg_hi (d : Int) (h : 10 ≤ d) : 97 + d - 10 = dg d := by unfold dg; rw [if_neg (by omega)]; omega
/-- A number's text in decimal digits. -/
def textOf (n : Int) : List Int := if n < 0 then 45 :: digs 10 65 (-n) 1 else digs 10 65 n 1
theorem digs_zero (b : Int) (f : Nat) : digs b f 0 0 = [] := by cases f <;> simp [digs]
theorem strOfNums_append (xs ys : List Int) : strOfNums (xs ++ ys) = strOfNums xs ++ strOfNums ys := by
  simp only [strOfNums, List.map_append]
  apply ByteArray.ext
  simp
theorem strOfNums_cons (x : Int) (ys : List Int) : strOfNums (x :: ys) = strOfNums [x] ++ strOfNums ys := strOfNums_append [x] ys
theorem strOfNums_size (xs : List Int) : (strOfNums xs).size = xs.length := by simp [strOfNums, ByteArray.size]
theorem digs_length (b : Int) : ∀ (f : Nat) (n : Int) (m : Nat), (digs b f n m).length ≤ f
  | 0, _, _ => by simp [digs]
  | f + 1, n, m => by
    rw [digs_succ]
    split
    · rw [List.length_append, List.length_singleton]; have := digs_length b f (n / b) (m - 1); omega
    · simp
theorem ba_lit (a : Array UInt8) : (ByteArray.mk a).size = a.size := rfl
end Go.Proofs.Ytmebogkhdbbbbaa.C

/- What the printed functions of konst and of its reference answer: one value, texts, the page's examples. -/
import Derived.Test.YteaaicpmhdafgaaPx9
import Derived.Test.YteaaicpmhdafgaaPx11
import Derived.Test.YteaaicpmhdafgaaPx12
import Derived.Test.YteaaicpmhdafgaaPx19
import Derived.Test.YteaaicpmhdafgaaPx22
import Derived.Test.YteaaicpmhdafgaaQKonst
namespace Go.Proofs.Yteaaicpmhdafgaa.Q
set_option linter.unusedSimpArgs false
set_option linter.unusedVariables false
open Go Go.RowKit Go.Proofs.Yteaaicpmhdafgaa.P Go.Proofs.Yteaaicpmhdafgaa.C Go.Proofs.YteaaicpmhdafgaaW.PrintWords

theorem and_one (x : Int) : Go.bits .and .i32 x 1 = x % 2 := by
  show IntKind.i32.wrap (((BitVec.ofInt 32 x &&& BitVec.ofInt 32 1).toNat : Nat) : Int) = x % 2
  rw [BitVec.toNat_and, BitVec.toNat_ofInt, BitVec.toNat_ofInt, IntKind.wrap_i32, show ((1 : Int) % ((2 ^ 32 : Nat) : Int)).toNat = 1 by decide, nat_mask1]
  have : ((2 ^ 32 : Nat) : Int) = 4294967296 := by decide
  rw [this]
  omega
def oneOf (s : List UInt8) (t n : Int) : Int × Int × Int :=
  if s = [45] then (if t = 1 then (1, wrap32 (-n), 0) else (0, 0, 91))
  else if s = [78, 79, 84] then (if t = 2 then ((truthOf (n == 0)).1, (truthOf (n == 0)).2, 0) else (0, 0, 91))
  else if s = [79, 68, 68] then (if t = 1 then ((truthOf (n % 2 == 1)).1, (truthOf (n % 2 == 1)).2, 0) else (0, 0, 91))
  else if s = [79, 82, 68] then (if t = 2 ∨ t = 3 then (1, n, 0) else (0, 0, 91))
  else if s = [67, 72, 82] then (if t = 1 then (if n < 0 ∨ n > 255 then (0, 0, 90) else (3, n, 0)) else (0, 0, 91))
  else (0, 0, 110)
theorem one_eq (s : ByteArray) (t n : Int) : konst_One.f s t n = some (oneOf s.toList t n) := by
  unfold konst_One.f oneOf
  simp only [truth_eq, Option.bind_some, and_one]
  generalize s.toList = q
  by_cases e1 : q = [45]
  · subst e1; by_cases h : t = 1 <;> simp [h]
  · by_cases e2 : q = [78, 79, 84]
    · subst e2; by_cases h : t = 2 <;> simp [h]
    · by_cases e3 : q = [79, 68, 68]
      · subst e3; by_cases h : t = 1 <;> simp [h]
      · by_cases e4 : q = [79, 82, 68]
        · subst e4; by_cases h : t = 2 <;> by_cases h' : t = 3 <;> simp [h, h']
        · by_cases e5 : q = [67, 72, 82]
          · subst e5; by_cases h : t = 1 <;> by_cases h1 : n < 0 <;> by_cases h2 : n > 255 <;> simp [h, h1, h2]
          · simp [e1, e2, e3, e4, e5]
theorem rone_eq (k : Nat) (s : ByteArray) (t n : Int) (hn : -2147483648 ≤ n ∧ n ≤ 2147483647) : pascalineref10_One.f (k + 5) s t n = some (oneOf s.toList t n) := by
  unfold pascalineref10_One.f oneOf
  rw [wrap64_in (n := n) (by omega), wrap64_in (n := -n) (by omega), round_eq (-n) (by omega)]
  simp only [pascalineref10_One.j0, rtruth_eq, Option.bind_some]
  have hodd : ((Int.tmod n 2) != 0) = (n % 2 == 1) := by
    rw [Bool.eq_iff_iff]; simp only [bne_iff_ne, beq_iff_eq, ne_eq]
    by_cases h : 0 ≤ n
    · rw [tmod_pos _ _ h]; omega
    · rw [tmod_neg _ _ (by omega)]; omega
  rw [hodd]
  generalize s.toList = q
  by_cases e1 : q = [45]
  · subst e1; by_cases h : t = 1 <;> simp [h]
  · by_cases e2 : q = [78, 79, 84]
    · subst e2; by_cases h : t = 2 <;> simp [h]
    · by_cases e3 : q = [79, 68, 68]
      · subst e3; by_cases h : t = 1 <;> simp [h]
      · by_cases e4 : q = [79, 82, 68]
        · subst e4; by_cases h : t = 2 <;> by_cases h' : t = 3 <;> simp [h, h']
        · by_cases e5 : q = [67, 72, 82]
          · subst e5; by_cases h : t = 1 <;> by_cases h1 : n < 0 <;> by_cases h2 : n > 255 <;> simp [h, h1, h2]
          · simp [e1, e2, e3, e4, e5]
def ktOf (t n : Int) : ByteArray :=
  if rightOf t n = true then
    (if t = 1 then strOfNums (textOf n) else if t = 4 then ⟨#[78, 73, 76]⟩
     else if t = 3 then (if n ≥ 32 ∧ n ≤ 126 then strOfNums [39, n % 256, 39] else ((⟨#[67, 72, 82, 40]⟩ : ByteArray) ++ strOfNums (textOf n)) ++ (⟨#[41]⟩ : ByteArray))
     else if n = 1 then ⟨#[84, 82, 85, 69]⟩ else ⟨#[70, 65, 76, 83, 69]⟩)
  else ⟨#[63]⟩
theorem text_size (n : Int) : (strOfNums (textOf n)).size ≤ 100 := by
  rw [strOfNums_size]
  unfold textOf
  have h1 := digs_length 10 65 (-n) 1
  have h2 := digs_length 10 65 n 1
  split
  · simp only [List.length_cons]; omega
  · omega
theorem quoted (x : Int) : ((⟨#[39]⟩ : ByteArray) ++ strOfNums [x]) ++ (⟨#[39]⟩ : ByteArray) = strOfNums [39, x, 39] := by
  rw [show (⟨#[39]⟩ : ByteArray) = strOfNums [39] by rfl, ← strOfNums_append, ← strOfNums_append]; rfl
theorem text_eq (k : Nat) (t n : Int) (hn : -2147483648 ≤ n ∧ n ≤ 2147483647) : konst_Text.f (k + 5) t n = some (ktOf t n) := by
  unfold konst_Text.f ktOf
  have hz := text_size n
  simp only [konst_Text.j0, right_eq, Option.bind_some]
  rw [wrap64_in (n := n) (by omega), word_text_eq n (by omega)]
  simp only [Option.bind_some]
  rw [quoted]
  have g1 : 1 + (strOfNums [n % 256]).size ≤ 9223372036854775807 := by rw [strOfNums_size]; simp
  have g2 : ((⟨#[39]⟩ : ByteArray) ++ strOfNums [n % 256]).size + 1 ≤ 9223372036854775807 := by rw [ByteArray.size_append, strOfNums_size]; simp [ByteArray.size]
  have g3 : 4 + (strOfNums (textOf n)).size ≤ 9223372036854775807 := by omega
  have g4 : ((⟨#[67, 72, 82, 40]⟩ : ByteArray) ++ strOfNums (textOf n)).size + 1 ≤ 9223372036854775807 := by
    rw [ByteArray.size_append, show (⟨#[67, 72, 82, 40]⟩ : ByteArray).size = 4 from rfl]; omega
  rw [if_pos g1, if_pos g2, if_pos g3, if_pos g4]
  generalize strOfNums (textOf n) = T
  generalize strOfNums [39, n % 256, 39] = U
  by_cases hr : rightOf t n = true
  · by_cases h1 : t = 1
    · subst h1; simp [hr]
    · by_cases h4 : t = 4
      · subst h4; simp [hr]
      · by_cases h3 : t = 3
        · subst h3; by_cases a : n ≥ 32 <;> by_cases b : n ≤ 126 <;> simp [hr, a, b]
        · simp [hr, h1, h3, h4]; split <;> rfl
  · simp [hr]
theorem rtext_eq (t n : Int) (hn : -2147483648 ≤ n ∧ n ≤ 2147483647) : pascalineref10_Text.f t n = some (ktOf t n) := by
  unfold pascalineref10_Text.f ktOf
  have hz := text_size n
  simp only [rright_eq, Option.bind_some]
  rw [wrap64_in (n := n) (by omega), ref_text_eq n (by omega)]
  simp only [Option.bind_some]
  have g3 : 4 + (strOfNums (textOf n)).size ≤ 9223372036854775807 := by omega
  have g4 : ((⟨#[67, 72, 82, 40]⟩ : ByteArray) ++ strOfNums (textOf n)).size + 1 ≤ 9223372036854775807 := by
    rw [ByteArray.size_append, show (⟨#[67, 72, 82, 40]⟩ : ByteArray).size = 4 from rfl]; omega
  rw [if_pos g3, if_pos g4]
  generalize strOfNums (textOf n) = T
  generalize strOfNums [39, n % 256, 39] = U
  by_cases hr : rightOf t n = true
  · by_cases h1 : t = 1
    · subst h1; simp [hr]
    · by_cases h4 : t = 4
      · subst h4; simp [hr]
      · by_cases h3 : t = 3
        · subst h3; by_cases a : n ≥ 32 <;> by_cases b : n ≤ 126 <;> simp [hr, a, b]
        · have h2 : t = 2 := by
            unfold rightOf at hr
            simp [h1, h3, h4] at hr; exact hr.1
          subst h2
          by_cases a : n = 1 <;> simp [hr, a]
          subst a; simp [hr]
  · simp [hr]
theorem konst_awake (k : Nat) : pascalinelaw10_awake.f (k + 30) = some true := by
  unfold pascalinelaw10_awake.f
  rw [two_eq (k + 10) _ 1 (-7) 1 2 (by omega) (by omega), one_eq]
  rw [show twoOf (⟨#[68, 73, 86]⟩ : ByteArray).toList 1 (-7) 1 2 = (1, -4, 0) by decide +kernel,
    show oneOf (⟨#[67, 72, 82]⟩ : ByteArray).toList 1 65 = (3, 65, 0) by decide +kernel]
  simp only [Option.bind_some]
  rw [text_eq (k + 25) 3 65 (by omega), show ktOf 3 65 = ⟨#[39, 65, 39]⟩ by decide +kernel]
  simp only [Option.bind_some]
  rw [if_pos trivial, if_pos trivial, if_pos trivial]
  decide +kernel
end Go.Proofs.Yteaaicpmhdafgaa.Q

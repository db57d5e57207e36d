/- What the printed functions of konst and of its reference answer. -/
import Derived.Test.YteaaicpmhdafgaaPx3
import Derived.Test.YteaaicpmhdafgaaPx5
import Derived.Test.YteaaicpmhdafgaaPx6
import Derived.Test.YteaaicpmhdafgaaPx7
import Derived.Test.YteaaicpmhdafgaaPx8
import Derived.Test.YteaaicpmhdafgaaPx13
import Derived.Test.YteaaicpmhdafgaaPx14
import Derived.Test.YteaaicpmhdafgaaPx15
import Derived.Test.YteaaicpmhdafgaaPx16
import Derived.Test.YteaaicpmhdafgaaQSum
import Derived.Test.YteaaicpmhdafgaaQDiv
import Derived.Test.YteaaicpmhdafgaaQTx
namespace Go.Proofs.Yteaaicpmhdafgaa.Q
set_option linter.unusedSimpArgs false
set_option linter.unusedVariables false
open Go Go.RowKit Go.Proofs.Yteaaicpmhdafgaa.P Go.Proofs.Yteaaicpmhdafgaa.C Go.Proofs.YteaaicpmhdafgaaW.PrintWords

def rightOf (t n : Int) : Bool := decide (t = 1) || (decide (t = 2) && (decide (n = 0) || decide (n = 1))) || (decide (t = 3) && (decide (0 ≤ n) && decide (n ≤ 255))) || (decide (t = 4) && decide (n = 0))
theorem right_eq (t n : Int) : konst_Right.f t n = some (rightOf t n) := by
  unfold konst_Right.f rightOf
  by_cases h1 : t = 1
  · simp [h1]
  · by_cases h2 : t = 2
    · subst h2; by_cases h : n = 0 <;> simp [h]; by_cases h' : n = 1 <;> simp [h']
    · by_cases h3 : t = 3
      · subst h3; by_cases h : 0 ≤ n <;> simp [h]
      · by_cases h4 : t = 4
        · subst h4; by_cases h : n = 0 <;> simp [h]
        · simp [h1, h2, h3, h4]
theorem rright_eq (t n : Int) : pascalineref10_Right.f t n = some (rightOf t n) := by
  unfold pascalineref10_Right.f rightOf
  by_cases h1 : t = 1
  · simp [h1]
  · by_cases h2 : t = 2
    · subst h2; by_cases h : n = 0 <;> simp [h]; by_cases h' : n = 1 <;> simp [h']
    · by_cases h3 : t = 3
      · subst h3; by_cases h : 0 ≤ n <;> simp [h]; by_cases h' : n < 256
        · simp [h']; omega
        · simp [h']; omega
      · by_cases h4 : t = 4
        · subst h4; by_cases h : n = 0 <;> simp [h]
        · simp [h1, h2, h3, h4]
def truthOf (b : Bool) : Int × Int := if b = true then (2, 1) else (2, 0)
theorem truth_eq (b : Bool) : konst_truth.f b = some (truthOf b) := by unfold konst_truth.f truthOf; cases b <;> rfl
theorem rtruth_eq (b : Bool) : pascalineref10_Truth.f b = some (truthOf b) := by unfold pascalineref10_Truth.f truthOf; cases b <;> rfl
def reckOf (s : List UInt8) (x y : Int) : Int × Bool :=
  if s = [43] then (wrap32 (x + y), true) else if s = [45] then (wrap32 (x - y), true) else if s = [42] then (wrap32 (x * y), true) else if s = [68, 73, 86] then divOf x y else modOf x y
def cmpOf (s : List UInt8) (x y : Int) : Bool :=
  if s = [61] then x == y else if s = [35] then x != y else if s = [60] then decide (x < y) else if s = [60, 61] then decide (x ≤ y) else if s = [62] then decide (x > y) else decide (x ≥ y)
def twoOf (s : List UInt8) (t x u y : Int) : Int × Int × Int :=
  if s = [43] ∨ s = [45] ∨ s = [42] ∨ s = [68, 73, 86] ∨ s = [77, 79, 68] then
    (if t = 1 ∧ u = 1 then (if (reckOf s x y).2 = true then (1, (reckOf s x y).1, 0) else (0, 0, 10)) else (0, 0, 91))
  else if s = [65, 78, 68] ∨ s = [79, 82] then
    (if t = 2 ∧ u = 2 then
      (if s = [65, 78, 68] then (truthOf (x != 0 && y != 0)).1 else (truthOf (x != 0 || y != 0)).1,
       if s = [65, 78, 68] then (truthOf (x != 0 && y != 0)).2 else (truthOf (x != 0 || y != 0)).2, 0)
     else (0, 0, 91))
  else if s = [61] ∨ s = [35] ∨ s = [60] ∨ s = [60, 61] ∨ s = [62] ∨ s = [62, 61] then
    (if t = u ∧ rightOf t x = true ∧ (s = [61] ∨ s = [35] ∨ t = 1 ∨ t = 3) then ((truthOf (cmpOf s x y)).1, (truthOf (cmpOf s x y)).2, 0) else (0, 0, 91))
  else (0, 0, 110)
theorem reckon_eq (k : Nat) (s : ByteArray) (t x u y : Int) (hx : -2147483648 ≤ x ∧ x ≤ 2147483647) (hy : -2147483648 ≤ y ∧ y ≤ 2147483647) :
    konst_reckon.f (k + 10) s t x u y = some (if t = 1 ∧ u = 1 then (if (reckOf s.toList x y).2 = true then (1, (reckOf s.toList x y).1, 0) else (0, 0, 10)) else (0, 0, 91)) := by
  unfold konst_reckon.f
  by_cases h1 : t = 1
  · by_cases h2 : u = 1
    · rw [if_pos h1, konst_reckon.j0, if_neg (by simp [h2]), sum2, times2, word_Minus.f, div_eq x y hx hy, mod_eq x y hx hy, if_pos (c := t = 1 ∧ u = 1) ⟨h1, h2⟩]
      unfold reckOf
      generalize s.toList = q
      by_cases e1 : q = [43]
      · simp [e1]
      · by_cases e2 : q = [45]
        · simp [e2]
        · by_cases e3 : q = [42]
          · simp [e3]
          · by_cases e4 : q = [68, 73, 86]
            · simp [e4]; split <;> rfl
            · simp [e1, e2, e3, e4]; split <;> rfl
    · rw [if_pos h1, konst_reckon.j0, if_pos (by simp [h2]), if_neg (by simp [h2])]
  · rw [if_neg h1, konst_reckon.j0, if_pos rfl, if_neg (by simp [h1])]
theorem compare_eq (k : Nat) (s : ByteArray) (t x u y : Int) (hs : s.toList = [61] ∨ s.toList = [35] ∨ s.toList = [60] ∨ s.toList = [60, 61] ∨ s.toList = [62] ∨ s.toList = [62, 61]) :
    konst_compare.f (k + 10) s t x u y = some (if t = u ∧ rightOf t x = true ∧ (s.toList = [61] ∨ s.toList = [35] ∨ t = 1 ∨ t = 3) then ((truthOf (cmpOf s.toList x y)).1, (truthOf (cmpOf s.toList x y)).2, 0) else (0, 0, 91)) := by
  unfold konst_compare.f cmpOf
  simp only [konst_compare.j0, konst_compare.j1, right_eq, truth_eq, Option.bind_some]
  generalize s.toList = q at *
  by_cases h1 : t = u
  · by_cases h2 : rightOf t x = true
    · by_cases h3 : t = 1
      · rcases hs with rfl | rfl | rfl | rfl | rfl | rfl <;> simp [← h1, h2, h3] <;> simp [← h3, h2]
      · by_cases h4 : t = 3
        · rcases hs with rfl | rfl | rfl | rfl | rfl | rfl <;> simp [← h1, h2, h3, h4] <;> simp [← h4, h2]
        · rcases hs with rfl | rfl | rfl | rfl | rfl | rfl <;> simp [← h1, h2, h3, h4]
    · rcases hs with rfl | rfl | rfl | rfl | rfl | rfl <;> simp [h1, h2] <;> simp [← h1, h2]
  · rcases hs with rfl | rfl | rfl | rfl | rfl | rfl <;> simp [h1]
theorem two_eq (k : Nat) (s : ByteArray) (t x u y : Int) (hx : -2147483648 ≤ x ∧ x ≤ 2147483647) (hy : -2147483648 ≤ y ∧ y ≤ 2147483647) :
    konst_Two.f (k + 20) s t x u y = some (twoOf s.toList t x u y) := by
  unfold konst_Two.f
  simp only [konst_Two.j0, konst_Two.j1, konst_Two.j2, reckon_eq _ s t x u y hx hy, truth_eq, Option.bind_some]
  unfold twoOf
  by_cases hc : s.toList = [61] ∨ s.toList = [35] ∨ s.toList = [60] ∨ s.toList = [60, 61] ∨ s.toList = [62] ∨ s.toList = [62, 61]
  · rw [compare_eq _ s t x u y hc]
    generalize s.toList = q at *
    rcases hc with rfl | rfl | rfl | rfl | rfl | rfl <;> simp
  · generalize s.toList = q at *
    simp only [not_or] at hc
    obtain ⟨c1, c2, c3, c4, c5, c6⟩ := hc
    by_cases e1 : q = [43]
    · simp [e1]
    · by_cases e2 : q = [45]
      · simp [e2]
      · by_cases e3 : q = [42]
        · simp [e3]
        · by_cases e4 : q = [68, 73, 86]
          · simp [e4]
          · by_cases e5 : q = [77, 79, 68]
            · simp [e5]
            · by_cases e6 : q = [65, 78, 68]
              · subst e6
                by_cases h1 : t = 2 <;> by_cases h2 : u = 2 <;> by_cases h3 : x = 0 <;> by_cases h4 : y = 0 <;> simp [h1, h2, h3, h4, truthOf]
              · by_cases e7 : q = [79, 82]
                · subst e7
                  by_cases h1 : t = 2 <;> by_cases h2 : u = 2 <;> by_cases h3 : x = 0 <;> by_cases h4 : y = 0 <;> simp [h1, h2, h3, h4, truthOf]
                · simp [e1, e2, e3, e4, e5, e6, e7, c1, c2, c3, c4, c5, c6]
theorem rreckon_eq (s : ByteArray) (x y : Int) (hx : -2147483648 ≤ x ∧ x ≤ 2147483647) (hy : -2147483648 ≤ y ∧ y ≤ 2147483647) :
    pascalineref10_Reckon.f s x y = some (reckOf s.toList x y) := by
  unfold pascalineref10_Reckon.f pascalineref01_Times.f
  have hm : -4611686018427387904 ≤ x * y ∧ x * y ≤ 4611686018427387904 := by
    have e1 : (x * y).natAbs ≤ 2147483648 * 2147483648 := by rw [Int.natAbs_mul]; exact Nat.mul_le_mul (by omega) (by omega)
    omega
  rw [wrap64_in (n := x) (by omega), wrap64_in (n := y) (by omega), wrap64_in (n := x + y) (by omega), wrap64_in (n := x - y) (by omega), wrap64_in (n := x * y) (by omega)]
  rw [round_eq (x + y) (by omega), round_eq (x - y) (by omega), round_eq (x * y) (by omega), rdiv_eq x y hx hy, rmod_eq x y hx hy]
  unfold reckOf
  simp only [Option.bind_some]
  generalize s.toList = q
  by_cases e1 : q = [43]
  · simp [e1]
  · by_cases e2 : q = [45]
    · simp [e2]
    · by_cases e3 : q = [42]
      · simp [e3]
      · by_cases e4 : q = [68, 73, 86]
        · simp [e4]
        · simp [e1, e2, e3, e4]
theorem rcompare_eq (s : ByteArray) (x y : Int) : pascalineref10_Compare.f s x y = some (cmpOf s.toList x y) := by
  unfold pascalineref10_Compare.f cmpOf
  generalize s.toList = q
  by_cases e1 : q = [61]
  · simp [e1]
  · by_cases e2 : q = [35]
    · simp [e2]
    · by_cases e3 : q = [60]
      · simp [e3]
      · by_cases e4 : q = [60, 61]
        · simp [e4]
        · by_cases e5 : q = [62]
          · simp [e5]
          · simp [e1, e2, e3, e4, e5]
theorem rtwo_eq (k : Nat) (s : ByteArray) (t x u y : Int) (hx : -2147483648 ≤ x ∧ x ≤ 2147483647) (hy : -2147483648 ≤ y ∧ y ≤ 2147483647) :
    pascalineref10_Two.f (k + 20) s t x u y = some (twoOf s.toList t x u y) := by
  unfold pascalineref10_Two.f
  simp only [pascalineref10_Two.j0, pascalineref10_Two.j1, pascalineref10_Two.j2, pascalineref10_Two.j3, pascalineref10_Two.j4, pascalineref10_Two.j5, rreckon_eq s x y hx hy, rcompare_eq, rtruth_eq, rright_eq, Option.bind_some]
  unfold twoOf
  generalize s.toList = q at *
  by_cases hc : q = [61] ∨ q = [35] ∨ q = [60] ∨ q = [60, 61] ∨ q = [62] ∨ q = [62, 61]
  · by_cases h1 : t = u
    · subst h1
      by_cases h2 : rightOf t x = true
      · by_cases h3 : t = 1
        · rcases hc with rfl | rfl | rfl | rfl | rfl | rfl <;> simp [h2, h3] <;> simp [← h3, h2]
        · by_cases h4 : t = 3
          · rcases hc with rfl | rfl | rfl | rfl | rfl | rfl <;> simp [h2, h3, h4] <;> simp [← h4, h2]
          · rcases hc with rfl | rfl | rfl | rfl | rfl | rfl <;> simp [h2, h3, h4]
      · rcases hc with rfl | rfl | rfl | rfl | rfl | rfl <;> simp [h2]
    · rcases hc with rfl | rfl | rfl | rfl | rfl | rfl <;> simp [h1]
  · simp only [not_or] at hc
    obtain ⟨c1, c2, c3, c4, c5, c6⟩ := hc
    by_cases hr : q = [43] ∨ q = [45] ∨ q = [42] ∨ q = [68, 73, 86] ∨ q = [77, 79, 68]
    · rw [if_pos hr]
      generalize reckOf q x y = r
      rcases hr with rfl | rfl | rfl | rfl | rfl <;> by_cases h1 : t = 1 <;> by_cases h2 : u = 1 <;> simp [h1, h2] <;> split <;> simp_all
    · rw [if_neg hr]
      simp only [not_or] at hr
      obtain ⟨e1, e2, e3, e4, e5⟩ := hr
      by_cases e6 : q = [65, 78, 68]
      · subst e6
        by_cases h1 : t = 2 <;> by_cases h2 : u = 2 <;> by_cases h3 : x = 0 <;> by_cases h4 : y = 0 <;> simp [h1, h2, h3, h4, truthOf]
      · by_cases e7 : q = [79, 82]
        · subst e7
          by_cases h1 : t = 2 <;> by_cases h2 : u = 2 <;> by_cases h3 : x = 0 <;> by_cases h4 : y = 0 <;> simp [h1, h2, h3, h4, truthOf]
        · simp [e1, e2, e3, e4, e5, e6, e7, c1, c2, c3, c4, c5, c6]
end Go.Proofs.Yteaaicpmhdafgaa.Q

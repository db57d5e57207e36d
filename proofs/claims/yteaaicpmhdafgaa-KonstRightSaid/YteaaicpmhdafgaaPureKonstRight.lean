/- KonstRight: of values that are right, what is answered is right; a number less another one, and that one more, is the number. For every string and all values; no condition. -/
import Derived.Test.YteaaicpmhdafgaaPx24
import Derived.Test.YteaaicpmhdafgaaQKonst2
import Derived.Test.YteaaicpmhdafgaaPsKonstRight
namespace Go.Proofs.Yteaaicpmhdafgaa.Pure
set_option linter.unusedSimpArgs false
set_option linter.unusedVariables false
open Go.RowKit Go.Proofs.Yteaaicpmhdafgaa.P Go.Proofs.Yteaaicpmhdafgaa.Q Go.Proofs.Yteaaicpmhdafgaa.C Go.Proofs.YteaaicpmhdafgaaW.PrintWords
theorem right_truth (b : Bool) : rightOf (truthOf b).1 (truthOf b).2 = true := by cases b <;> decide
theorem right_one (n : Int) : rightOf 1 n = true := by unfold rightOf; simp
theorem two_right (s : List UInt8) (t x u y : Int) (h : (twoOf s t x u y).2.2 = 0) : rightOf (twoOf s t x u y).1 (twoOf s t x u y).2.1 = true := by
  unfold twoOf at *
  split at h
  · rename_i c; rw [if_pos c]
    split at h
    · rename_i c; rw [if_pos c]
      split at h
      · rename_i c; rw [if_pos c]; exact right_one _
      · simp at h
    · simp at h
  · rename_i c; rw [if_neg c]
    split at h
    · rename_i c; rw [if_pos c]
      split at h
      · rename_i c; rw [if_pos c]
        simp only
        split <;> exact right_truth _
      · simp at h
    · rename_i c; rw [if_neg c]
      split at h
      · rename_i c; rw [if_pos c]
        split at h
        · rename_i c; rw [if_pos c]; exact right_truth _
        · simp at h
      · simp at h
theorem one_right (s : List UInt8) (t x : Int) (h : (oneOf s t x).2.2 = 0) (hr : rightOf t x = true) : rightOf (oneOf s t x).1 (oneOf s t x).2.1 = true := by
  unfold oneOf at *
  split at h
  · rename_i c; rw [if_pos c]
    split at h
    · rename_i c; rw [if_pos c]; exact right_one _
    · simp at h
  · rename_i c; rw [if_neg c]
    split at h
    · rename_i c; rw [if_pos c]
      split at h
      · rename_i c; rw [if_pos c]; exact right_truth _
      · simp at h
    · rename_i c; rw [if_neg c]
      split at h
      · rename_i c; rw [if_pos c]
        split at h
        · rename_i c; rw [if_pos c]; exact right_truth _
        · simp at h
      · rename_i c; rw [if_neg c]
        split at h
        · rename_i c; rw [if_pos c]
          split at h
          · rename_i c; rw [if_pos c]; exact right_one _
          · simp at h
        · rename_i c; rw [if_neg c]
          split at h
          · rename_i c; rw [if_pos c]
            split at h
            · rename_i c; rw [if_pos c]
              split at h
              · simp at h
              · rename_i c; rw [if_neg c]
                unfold rightOf; simp; omega
            · simp at h
          · simp at h
theorem right_j2 (k : Nat) (t x u y : Int) (hx : -2147483648 ≤ x ∧ x ≤ 2147483647) (hy : -2147483648 ≤ y ∧ y ≤ 2147483647) :
    pascalinelaw10_KonstRight.j2 (k + 31) false t x u y = some true := by
  have e1 : (⟨#[45]⟩ : ByteArray).toList = [45] := by decide +kernel
  have e2 : (⟨#[43]⟩ : ByteArray).toList = [43] := by decide +kernel
  rw [pascalinelaw10_KonstRight.j2, two_eq (k + 10) _ t x u y hx hy, e1]
  simp only [Option.bind_some]
  rw [if_neg (by simp)]
  by_cases h1 : t = 1
  · by_cases h2 : u = 1
    · have g : twoOf [45] t x u y = (1, wrap32 (x - y), 0) := by subst h1; subst h2; simp [twoOf, reckOf]
      rw [if_pos h1, if_pos h2, g]
      simp only
      rw [two_eq (k + 10) _ 1 _ u y (wrap32_range _) hy, e2]
      have g2 : twoOf [43] 1 (wrap32 (x - y)) u y = (1, wrap32 (wrap32 (x - y) + y), 0) := by subst h2; simp [twoOf, reckOf]
      rw [g2, wrap32_add, Int.sub_add_cancel, wrap32_in hx]
      simp [h1]
    · have g : twoOf [45] t x u y = (0, 0, 91) := by simp [twoOf, h2]
      rw [if_pos h1, if_neg h2, g]; simp
  · have g : twoOf [45] t x u y = (0, 0, 91) := by simp [twoOf, h1]
    rw [if_neg h1, g]; simp
theorem right_j0 (k : Nat) (s : ByteArray) (t x u y : Int) (hr : rightOf t x = true) (hx : -2147483648 ≤ x ∧ x ≤ 2147483647) (hy : -2147483648 ≤ y ∧ y ≤ 2147483647) :
    pascalinelaw10_KonstRight.j0 (k + 40) s false t x u y = some true := by
  rw [pascalinelaw10_KonstRight.j0, two_eq (k + 19) s t x u y hx hy]
  simp only [Option.bind_some]
  rw [if_neg (by simp), right_eq]
  have hj1 : pascalinelaw10_KonstRight.j1 (k + 39) s false t x u y = some true := by
    rw [pascalinelaw10_KonstRight.j1, one_eq]
    simp only [Option.bind_some]
    rw [if_neg (by simp), right_eq]
    have hj2 := right_j2 (k + 7) t x u y hx hy
    by_cases h : (oneOf s.toList t x).2.2 = 0
    · rw [if_pos h, one_right _ t x h hr]; exact hj2
    · rw [if_neg h]; exact hj2
  by_cases h : (twoOf s.toList t x u y).2.2 = 0
  · rw [if_pos h, two_right _ t x u y h]; exact hj1
  · rw [if_neg h]; exact hj1
theorem KonstRight : pascalinelaw10_KonstRight.Pure := by
  intro s t x u y _ _ hx _ hy
  have hx' := bounds_i32 hx
  have hy' := bounds_i32 hy
  refine ⟨100, ?_⟩
  unfold pascalinelaw10_KonstRight.f
  rw [konst_awake 70, right_eq, right_eq]
  have hj : pascalinelaw10_KonstRight.j0 100 s true t x u y = some true := by rw [pascalinelaw10_KonstRight.j0]; simp
  simp only [Option.bind_some]
  rw [if_pos trivial, hj]
  by_cases h1 : rightOf t x = true
  · rw [if_pos h1]
    by_cases h2 : rightOf u y = true
    · rw [h2]; exact right_j0 60 s t x u y h1 hx' hy'
    · rw [show rightOf u y = false by simpa using h2]; exact hj
  · rw [if_neg h1]
end Go.Proofs.Yteaaicpmhdafgaa.Pure

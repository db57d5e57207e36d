/- KonstOrder: of two numbers, or signs, one is less, or both are the same; less or the same is not more. For all values; no condition. -/
import Derived.Test.YteaaicpmhdafgaaPx8
import Derived.Test.YteaaicpmhdafgaaPx25
import Derived.Test.YteaaicpmhdafgaaQKonst2
import Derived.Test.YteaaicpmhdafgaaPsKonstOrder
namespace Go.Proofs.Yteaaicpmhdafgaa.Pure
set_option linter.unusedSimpArgs false
set_option linter.unusedVariables false
open Go.RowKit Go.Proofs.Yteaaicpmhdafgaa.P Go.Proofs.Yteaaicpmhdafgaa.Q Go.Proofs.Yteaaicpmhdafgaa.C Go.Proofs.YteaaicpmhdafgaaW.PrintWords
theorem order_l0 (k : Nat) (t x y : Int) (ht : t = 1 ∨ t = 3) (hr : rightOf t x = true) (hx : -2147483648 ≤ x ∧ x ≤ 2147483647) (hy : -2147483648 ≤ y ∧ y ≤ 2147483647) :
    pascalinelaw10_KonstOrder.l0 (k + 50) 0 [(⟨#[60]⟩ : ByteArray), (⟨#[61]⟩ : ByteArray), (⟨#[62]⟩ : ByteArray)] 3 0 t x t y = some true := by
  have e1 : (⟨#[60]⟩ : ByteArray).toList = [60] := by decide +kernel
  have e2 : (⟨#[61]⟩ : ByteArray).toList = [61] := by decide +kernel
  have e3 : (⟨#[62]⟩ : ByteArray).toList = [62] := by decide +kernel
  have e4 : (⟨#[60, 61]⟩ : ByteArray).toList = [60, 61] := by decide +kernel
  have tw : ∀ (q : Nat) (s : ByteArray), konst_Two.f (q + 20) s t x t y = some (twoOf s.toList t x t y) := fun q s => two_eq q s t x t y hx hy
  simp [pascalinelaw10_KonstOrder.l0, rdOf, wrap64, tw, e1, e2, e3, e4, twoOf, hr, cmpOf, truthOf]
  rcases ht with rfl | rfl <;> (by_cases h1 : x < y
                                · have h2 : ¬ x = y := by omega
                                  have h3 : ¬ y < x := by omega
                                  have h4 : x ≤ y := by omega
                                  simp [h1, h2, h3, h4, wrap32]
                                · by_cases h2 : x = y
                                  · subst h2; simp [wrap32]
                                  · have h3 : y < x := by omega
                                    have h4 : ¬ x ≤ y := by omega
                                    simp [h1, h2, h3, h4, wrap32])
theorem KonstOrder : pascalinelaw10_KonstOrder.Pure := by
  intro t x u y _ hx _ hy
  have hx' := bounds_i32 hx
  have hy' := bounds_i32 hy
  refine ⟨100, ?_⟩
  unfold pascalinelaw10_KonstOrder.f
  rw [konst_awake 70, right_eq, right_eq]
  have hj : pascalinelaw10_KonstOrder.j0 100 true t x t y = some true := by rw [pascalinelaw10_KonstOrder.j0]; simp
  simp only [Option.bind_some]
  rw [hj]
  by_cases h1 : rightOf t x = true
  · by_cases h2 : rightOf t y = true
    · rw [if_pos trivial, if_pos h1, if_pos h2]
      by_cases h3 : t = 1
      · rw [if_pos h3, pascalinelaw10_KonstOrder.j0]
        simp only [Option.bind_some]
        rw [if_neg (by simp)]
        exact order_l0 49 t x y (.inl h3) h1 hx' hy'
      · rw [if_neg h3]
        by_cases h4 : t = 3
        · rw [show (t != 3) = false by simp [h4], pascalinelaw10_KonstOrder.j0]
          simp only [Option.bind_some]
          rw [if_neg (by simp)]
          exact order_l0 49 t x y (.inr h4) h1 hx' hy'
        · rw [show (t != 3) = true by simp [h4]]; exact hj
    · rw [if_pos trivial, if_pos h1, if_neg h2]
  · rw [if_pos trivial, if_neg h1]
end Go.Proofs.Yteaaicpmhdafgaa.Pure

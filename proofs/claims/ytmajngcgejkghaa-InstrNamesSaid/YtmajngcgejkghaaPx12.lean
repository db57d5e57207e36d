-- Written by a program of this session (wip/tools/hp.py) out of the translation.
import Derived.Test.YtmajngcgejkghaaPx0
namespace Go.Proofs.Ytmajngcgejkghaa.P
open Go.RowKit Go.Proofs.YtmajngcgejkghaaW.PrintWords Go.Proofs.YtmajngcgejkghaaW.PrintLast Go.Proofs.YtmajngcgejkghaaW.PrintMore
attribute [local go_sem] max2_int min2_int max_two min_two max_three min_three max_four min_four   -- for this text's walks alone
set_option linter.unusedVariables false
set_option linter.unusedSimpArgs false

/-! ### pascalineref02_has: function 30 -/
def pascalineref02_has.f (a0 : Int) : Option (Bool × Bool × Bool) := if a0 ≥ 1 then (if a0 ≥ 3 then (some (decide (a0 ≤ 6), decide (a0 ≤ 5), (a0 == 5))) else (some (decide (a0 ≤ 6), false, (a0 == 5)))) else (if a0 ≥ 3 then (some (false, decide (a0 ≤ 5), (a0 == 5))) else (some (false, false, (a0 == 5))))
set_option maxHeartbeats 8000000 in
set_option maxRecDepth 100000 in
theorem pascalineref02_has.calls (a0 : Int) (r1 : Bool) (r2 : Bool) (r3 : Bool) (w : World) (h : pascalineref02_has.f a0 = some (r1, r2, r3)) :
    Calls Try.prog 30 #[.int .i64 a0] w fun e w' => e = .returned (.tuple #[.bool r1, .bool r2, .bool r3]) ∧ Drawn0 w w' := by
  have H : (if a0 ≥ 1 then (if a0 ≥ 3 then (some (decide (a0 ≤ 6), decide (a0 ≤ 5), (a0 == 5))) else (some (decide (a0 ≤ 6), false, (a0 == 5)))) else (if a0 ≥ 3 then (some (false, decide (a0 ≤ 5), (a0 == 5))) else (some (false, false, (a0 == 5))))) = some (r1, r2, r3) := h
  clear h
  by_cases c2 : a0 ≥ 1
  · rw [if_pos c2] at H
    have c2b0 : decide (1 ≤ a0) = true := decide_eq_true c2
    clear c2
    by_cases c3 : a0 ≥ 3
    · rw [if_pos c3] at H
      have c3b0 : decide (3 ≤ a0) = true := decide_eq_true c3
      clear c3
      simp only [Option.some.injEq, Prod.mk.injEq] at H
      obtain ⟨rfl, rfl, rfl⟩ := H
      go_enter Try.func30, Try.ntmps30
      go_wp2
      go_ret3
      exact ⟨by first | rfl | (simp; done) | (simp [*]; done), by repeat (first | exact Drawn0.refl _ | apply Drawn0.step)⟩
    · rw [if_neg c3] at H
      have c3b0 : decide (3 ≤ a0) = false := decide_eq_false c3
      clear c3
      simp only [Option.some.injEq, Prod.mk.injEq] at H
      obtain ⟨rfl, rfl, rfl⟩ := H
      go_enter Try.func30, Try.ntmps30
      go_wp2
      go_ret3
      exact ⟨by first | rfl | (simp; done) | (simp [*]; done), by repeat (first | exact Drawn0.refl _ | apply Drawn0.step)⟩
  · rw [if_neg c2] at H
    have c2b0 : decide (1 ≤ a0) = false := decide_eq_false c2
    clear c2
    by_cases c4 : a0 ≥ 3
    · rw [if_pos c4] at H
      have c4b0 : decide (3 ≤ a0) = true := decide_eq_true c4
      clear c4
      simp only [Option.some.injEq, Prod.mk.injEq] at H
      obtain ⟨rfl, rfl, rfl⟩ := H
      go_enter Try.func30, Try.ntmps30
      go_wp2
      go_ret3
      exact ⟨by first | rfl | (simp; done) | (simp [*]; done), by repeat (first | exact Drawn0.refl _ | apply Drawn0.step)⟩
    · rw [if_neg c4] at H
      have c4b0 : decide (3 ≤ a0) = false := decide_eq_false c4
      clear c4
      simp only [Option.some.injEq, Prod.mk.injEq] at H
      obtain ⟨rfl, rfl, rfl⟩ := H
      go_enter Try.func30, Try.ntmps30
      go_wp2
      go_ret3
      exact ⟨by first | rfl | (simp; done) | (simp [*]; done), by repeat (first | exact Drawn0.refl _ | apply Drawn0.step)⟩

end Go.Proofs.Ytmajngcgejkghaa.P

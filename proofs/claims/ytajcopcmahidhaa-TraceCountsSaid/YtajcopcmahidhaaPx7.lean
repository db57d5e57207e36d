-- Written by a program of this session (wip/tools/hp.py) out of the translation.
import Derived.Test.YtajcopcmahidhaaPx0
namespace Go.Proofs.Ytajcopcmahidhaa.P
open Go.RowKit Go.Proofs.YtajcopcmahidhaaW.PrintWords Go.Proofs.YtajcopcmahidhaaW.PrintLast Go.Proofs.YtajcopcmahidhaaW.PrintMore
attribute [local go_sem] max2_int min2_int max_two min_two max_three min_three max_four min_four   -- for this text's walks alone
set_option linter.unusedVariables false
set_option linter.unusedSimpArgs false

/-! ### pascalineref29_parts: function 25 -/
def pascalineref29_parts.f (a0 : Int) : Option (Int × Int) := if (Int.tmod (wrap64 (a0)) 64) < 0 then (some (wrap64 (Int.tdiv (wrap64 ((wrap64 (a0)) - (wrap64 ((Int.tmod (wrap64 (a0)) 64) + 64)))) 64), wrap64 ((Int.tmod (wrap64 (a0)) 64) + 64))) else (some (wrap64 (Int.tdiv (wrap64 ((wrap64 (a0)) - (Int.tmod (wrap64 (a0)) 64))) 64), Int.tmod (wrap64 (a0)) 64))
set_option maxHeartbeats 8000000 in
set_option maxRecDepth 100000 in
theorem pascalineref29_parts.calls (a0 : Int) (r1 : Int) (r2 : Int) (w : World) (h : pascalineref29_parts.f a0 = some (r1, r2)) :
    Calls Try.prog 25 #[.int .i32 a0] w fun e w' => e = .returned (.tuple #[.int .i64 r1, .int .i64 r2]) ∧ Drawn0 w w' := by
  have H : (if (Int.tmod (wrap64 (a0)) 64) < 0 then (some (wrap64 (Int.tdiv (wrap64 ((wrap64 (a0)) - (wrap64 ((Int.tmod (wrap64 (a0)) 64) + 64)))) 64), wrap64 ((Int.tmod (wrap64 (a0)) 64) + 64))) else (some (wrap64 (Int.tdiv (wrap64 ((wrap64 (a0)) - (Int.tmod (wrap64 (a0)) 64))) 64), Int.tmod (wrap64 (a0)) 64))) = some (r1, r2) := h
  clear h
  by_cases c2 : (Int.tmod (wrap64 (a0)) 64) < 0
  · rw [if_pos c2] at H
    have c2b0 : decide ((Int.tmod (wrap64 (a0)) 64) < 0) = true := decide_eq_true c2
    clear c2
    simp only [Option.some.injEq, Prod.mk.injEq] at H
    obtain ⟨rfl, rfl⟩ := H
    go_enter Try.func25, Try.ntmps25
    go_wp2
    go_ret2
    exact ⟨by first | rfl | (simp; done) | (simp [*]; done), by repeat (first | exact Drawn0.refl _ | apply Drawn0.step)⟩
  · rw [if_neg c2] at H
    have c2b0 : decide ((Int.tmod (wrap64 (a0)) 64) < 0) = false := decide_eq_false c2
    clear c2
    simp only [Option.some.injEq, Prod.mk.injEq] at H
    obtain ⟨rfl, rfl⟩ := H
    go_enter Try.func25, Try.ntmps25
    go_wp2
    go_ret2
    exact ⟨by first | rfl | (simp; done) | (simp [*]; done), by repeat (first | exact Drawn0.refl _ | apply Drawn0.step)⟩

end Go.Proofs.Ytajcopcmahidhaa.P

-- Written by a program of this session (wip/tools/hp.py) out of the translation.
import Derived.Test.YtbfepcajbbeheaaPx0
import Derived.Test.YtbfepcajbbeheaaPx1
namespace Go.Proofs.Ytbfepcajbbeheaa.P
open Go.RowKit Go.Proofs.YtbfepcajbbeheaaW.PrintWords Go.Proofs.YtbfepcajbbeheaaW.PrintLast Go.Proofs.YtbfepcajbbeheaaW.PrintMore
attribute [local go_sem] max2_int min2_int max_two min_two max_three min_three max_four min_four   -- for this text's walks alone
set_option linter.unusedVariables false
set_option linter.unusedSimpArgs false

/-! ### turtle_Turtle_Closed: function 25 -/
open Go.Proofs.Ytbfepcajbbeheaa.C
def tu_closed (T : Tu) : Bool := decide (T.x = 0) && decide (T.y = 0) && (decide (T.dx = 1) && decide (T.dy = 0))
set_option maxRecDepth 100000 in
set_option maxHeartbeats 2000000 in
theorem tu_Closed_calls (base g : Nat) (T : Tu) (w : World) (hT : IsT base w g T) :
    Calls Try.prog 25 #[.pointer (some ⟨g, 0, none⟩)] w fun e w' => e = .returned (.bool (tu_closed T)) ∧ w' = w := by
  obtain ⟨ax, ay, lx, ly, s, v, hblk, ⟨f1, f2, f3, f4, f5⟩, hR, hg⟩ := hT
  have c0 : w.cell? ⟨g, 0, none⟩ = some (.complex .f64 ax ay) := blk_cell hblk 0
  have c1 : w.cell? ⟨g, 1, none⟩ = some (.complex .f64 lx ly) := blk_cell hblk 1
  have q1 := fl_eq f1 fl_0
  have q2 := fl_eq f2 fl_0
  have q3 := fl_eq f3 fl_1
  have q4 := fl_eq f4 fl_0
  have e : tu_closed T = (decide (T.x = 0) && decide (T.y = 0) && (decide (T.dx = 1) && decide (T.dy = 0))) := rfl
  clear hblk hR hg f1 f2 f3 f4 f5
  generalize decide (T.x = 0) = b1 at *
  generalize decide (T.y = 0) = b2 at *
  generalize decide (T.dx = 1) = b3 at *
  generalize decide (T.dy = 0) = b4 at *
  rw [e]
  clear e
  cases h : (b1 && b2)
  · have q5 : ((FloatKind.f64.format.order ax 0 == some Ordering.eq) && (FloatKind.f64.format.order ay 0 == some Ordering.eq)) = false := by rw [q1, q2]; exact h
    clear q1 q2
    go_enter Try.func25, Try.ntmps25
    go_wp2
    go_ret
    exact ⟨rfl, rfl⟩
  · have q5 : ((FloatKind.f64.format.order ax 0 == some Ordering.eq) && (FloatKind.f64.format.order ay 0 == some Ordering.eq)) = true := by rw [q1, q2]; exact h
    have q6 : ((FloatKind.f64.format.order lx 4607182418800017408 == some Ordering.eq) && (FloatKind.f64.format.order ly 0 == some Ordering.eq)) = (b3 && b4) := by rw [q3, q4]
    clear q1 q2 q3 q4
    go_enter Try.func25, Try.ntmps25
    go_wp2
    go_ret
    exact ⟨by simp, rfl⟩
set_option maxRecDepth 100000 in
theorem tu_at_calls (x y : Int) (w : World) : Calls Try.prog 24 #[.int .i64 x, .int .i64 y] w fun e w' => e = .returned (.complex .f64 (floatOfInt .f64 x) (floatOfInt .f64 y)) ∧ w' = w := by
  go_enter Try.func24, Try.ntmps24
  go_wp2
  go_ret
  exact ⟨rfl, rfl⟩

end Go.Proofs.Ytbfepcajbbeheaa.P

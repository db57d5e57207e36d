/- Printed parts. -/
import Derived.Test.YtmebogkhdbbbbaaPx0
import Derived.Test.YtmebogkhdbbbbaaCCf
namespace Go.Proofs.Ytmebogkhdbbbbaa.P
open Go.RowKit Go.Proofs.YtmebogkhdbbbbaaW.PrintWords Go.Proofs.YtmebogkhdbbbbaaW.PrintLast Go.Proofs.YtmebogkhdbbbbaaW.PrintMore
attribute [local go_sem] max2_int min2_int max_two min_two max_three min_three max_four min_four   -- for this text's walks alone
set_option linter.unusedVariables false
set_option linter.unusedSimpArgs false

/-! ### instr_Shape: function 61 -/
mutual
def instr_Shape.j0 : Nat → Int → Bool → Option (Int)
 | 0, _, _ => none
 | k + 1, x3, x6 => if x6 = true then (some 1) else (if x3 = 3 then (instr_Shape.j1 k x3 (x3 == 3)) else (if x3 = 30 then (instr_Shape.j1 k x3 (x3 == 30)) else (instr_Shape.j1 k x3 (x3 == 33))))
def instr_Shape.j1 : Nat → Int → Bool → Option (Int)
 | 0, _, _ => none
 | k + 1, x3, x10 => if x10 = true then (some 2) else (if x3 = 5 then (instr_Shape.j2 k x3 (x3 == 5)) else (if x3 = 18 then (instr_Shape.j2 k x3 (x3 == 18)) else (instr_Shape.j2 k x3 (x3 == 19))))
def instr_Shape.j2 : Nat → Int → Bool → Option (Int)
 | 0, _, _ => none
 | k + 1, x3, x14 => if x14 = true then (some 3) else (if x3 = 4 then (instr_Shape.j3 k x3 (x3 == 4)) else (if x3 = 34 then (instr_Shape.j3 k x3 (x3 == 34)) else (instr_Shape.j3 k x3 (x3 == 26))))
def instr_Shape.j3 : Nat → Int → Bool → Option (Int)
 | 0, _, _ => none
 | k + 1, x3, x18 => if x18 = true then (some 4) else (if x3 = 6 then (instr_Shape.j4 k x3 (x3 == 6)) else (if x3 = 7 then (instr_Shape.j4 k x3 (x3 == 7)) else (if x3 = 8 then (instr_Shape.j4 k x3 (x3 == 8)) else (if x3 = 9 then (instr_Shape.j4 k x3 (x3 == 9)) else (if x3 = 10 then (instr_Shape.j4 k x3 (x3 == 10)) else (if x3 = 11 then (instr_Shape.j4 k x3 (x3 == 11)) else (if x3 = 12 then (instr_Shape.j4 k x3 (x3 == 12)) else (if x3 = 13 then (instr_Shape.j4 k x3 (x3 == 13)) else (if x3 = 14 then (instr_Shape.j4 k x3 (x3 == 14)) else (if x3 = 15 then (instr_Shape.j4 k x3 (x3 == 15)) else (if x3 = 16 then (instr_Shape.j4 k x3 (x3 == 16)) else (instr_Shape.j4 k x3 (x3 == 17)))))))))))))
def instr_Shape.j4 : Nat → Int → Bool → Option (Int)
 | 0, _, _ => none
 | k + 1, x3, x22 => if x22 = true then (some 5) else (if x3 = 24 then (instr_Shape.j5 k x3 (x3 == 24)) else (if x3 = 25 then (instr_Shape.j5 k x3 (x3 == 25)) else (if x3 = 27 then (instr_Shape.j5 k x3 (x3 == 27)) else (if x3 = 29 then (instr_Shape.j5 k x3 (x3 == 29)) else (if x3 = 31 then (instr_Shape.j5 k x3 (x3 == 31)) else (instr_Shape.j5 k x3 (x3 == 32)))))))
def instr_Shape.j5 : Nat → Int → Bool → Option (Int)
 | 0, _, _ => none
 | k + 1, x3, x35 => if x35 = true then (some 6) else (if x3 = 22 then (instr_Shape.j6 k x3 (x3 == 22)) else (instr_Shape.j6 k x3 (x3 == 23)))
def instr_Shape.j6 : Nat → Int → Bool → Option (Int)
 | 0, _, _ => none
 | k + 1, x3, x42 => if x42 = true then (some 7) else (if x3 = 28 then (some 8) else (some (-1)))
end
def instr_Shape.f (k : Nat) (a0 : Int) : Option (Int) := if a0 = 1 then (some 0) else (if a0 = 2 then (instr_Shape.j0 k a0 (a0 == 2)) else (if a0 = 20 then (instr_Shape.j0 k a0 (a0 == 20)) else (instr_Shape.j0 k a0 (a0 == 21))))
theorem instr_Shape.mono_l : ∀ k, (∀ y0 y1, LeO (instr_Shape.j0 k y0 y1) (instr_Shape.j0 (k + 1) y0 y1)) ∧ (∀ y0 y1, LeO (instr_Shape.j1 k y0 y1) (instr_Shape.j1 (k + 1) y0 y1)) ∧ (∀ y0 y1, LeO (instr_Shape.j2 k y0 y1) (instr_Shape.j2 (k + 1) y0 y1)) ∧ (∀ y0 y1, LeO (instr_Shape.j3 k y0 y1) (instr_Shape.j3 (k + 1) y0 y1)) ∧ (∀ y0 y1, LeO (instr_Shape.j4 k y0 y1) (instr_Shape.j4 (k + 1) y0 y1)) ∧ (∀ y0 y1, LeO (instr_Shape.j5 k y0 y1) (instr_Shape.j5 (k + 1) y0 y1)) ∧ (∀ y0 y1, LeO (instr_Shape.j6 k y0 y1) (instr_Shape.j6 (k + 1) y0 y1))
 | 0 => ⟨fun _ _ r h => by simp [instr_Shape.j0] at h, fun _ _ r h => by simp [instr_Shape.j1] at h, fun _ _ r h => by simp [instr_Shape.j2] at h, fun _ _ r h => by simp [instr_Shape.j3] at h, fun _ _ r h => by simp [instr_Shape.j4] at h, fun _ _ r h => by simp [instr_Shape.j5] at h, fun _ _ r h => by simp [instr_Shape.j6] at h⟩
 | k + 1 => by
  obtain ⟨ih0, ih1, ih2, ih3, ih4, ih5, ih6⟩ := instr_Shape.mono_l k
  refine ⟨?_, ?_, ?_, ?_, ?_, ?_, ?_⟩
  ·
   intro y0 y1
   unfold instr_Shape.j0
   repeat' first
   | (with_reducible exact ih0 _ _)
   | (with_reducible exact ih1 _ _)
   | (with_reducible exact ih2 _ _)
   | (with_reducible exact ih3 _ _)
   | (with_reducible exact ih4 _ _)
   | (with_reducible exact ih5 _ _)
   | (with_reducible exact ih6 _ _)
   | (with_reducible exact LeO.refl _)
   | (with_reducible exact LeO.none _)
   | (with_reducible refine LeO.ite ?_ ?_)
   | (with_reducible refine LeO.bind ?_ (fun _ => ?_))
   | exact LeO.none _
   | refine LeO.ite ?_ ?_
   | refine LeO.bind ?_ (fun _ => ?_)
  ·
   intro y0 y1
   unfold instr_Shape.j1
   repeat' first
   | (with_reducible exact ih0 _ _)
   | (with_reducible exact ih1 _ _)
   | (with_reducible exact ih2 _ _)
   | (with_reducible exact ih3 _ _)
   | (with_reducible exact ih4 _ _)
   | (with_reducible exact ih5 _ _)
   | (with_reducible exact ih6 _ _)
   | (with_reducible exact LeO.refl _)
   | (with_reducible exact LeO.none _)
   | (with_reducible refine LeO.ite ?_ ?_)
   | (with_reducible refine LeO.bind ?_ (fun _ => ?_))
   | exact LeO.none _
   | refine LeO.ite ?_ ?_
   | refine LeO.bind ?_ (fun _ => ?_)
  ·
   intro y0 y1
   unfold instr_Shape.j2
   repeat' first
   | (with_reducible exact ih0 _ _)
   | (with_reducible exact ih1 _ _)
   | (with_reducible exact ih2 _ _)
   | (with_reducible exact ih3 _ _)
   | (with_reducible exact ih4 _ _)
   | (with_reducible exact ih5 _ _)
   | (with_reducible exact ih6 _ _)
   | (with_reducible exact LeO.refl _)
   | (with_reducible exact LeO.none _)
   | (with_reducible refine LeO.ite ?_ ?_)
   | (with_reducible refine LeO.bind ?_ (fun _ => ?_))
   | exact LeO.none _
   | refine LeO.ite ?_ ?_
   | refine LeO.bind ?_ (fun _ => ?_)
  ·
   intro y0 y1
   unfold instr_Shape.j3
   repeat' first
   | (with_reducible exact ih0 _ _)
   | (with_reducible exact ih1 _ _)
   | (with_reducible exact ih2 _ _)
   | (with_reducible exact ih3 _ _)
   | (with_reducible exact ih4 _ _)
   | (with_reducible exact ih5 _ _)
   | (with_reducible exact ih6 _ _)
   | (with_reducible exact LeO.refl _)
   | (with_reducible exact LeO.none _)
   | (with_reducible refine LeO.ite ?_ ?_)
   | (with_reducible refine LeO.bind ?_ (fun _ => ?_))
   | exact LeO.none _
   | refine LeO.ite ?_ ?_
   | refine LeO.bind ?_ (fun _ => ?_)
  ·
   intro y0 y1
   unfold instr_Shape.j4
   repeat' first
   | (with_reducible exact ih0 _ _)
   | (with_reducible exact ih1 _ _)
   | (with_reducible exact ih2 _ _)
   | (with_reducible exact ih3 _ _)
   | (with_reducible exact ih4 _ _)
   | (with_reducible exact ih5 _ _)
   | (with_reducible exact ih6 _ _)
   | (with_reducible exact LeO.refl _)
   | (with_reducible exact LeO.none _)
   | (with_reducible refine LeO.ite ?_ ?_)
   | (with_reducible refine LeO.bind ?_ (fun _ => ?_))
   | exact LeO.none _
   | refine LeO.ite ?_ ?_
   | refine LeO.bind ?_ (fun _ => ?_)
  ·
   intro y0 y1
   unfold instr_Shape.j5
   repeat' first
   | (with_reducible exact ih0 _ _)
   | (with_reducible exact ih1 _ _)
   | (with_reducible exact ih2 _ _)
   | (with_reducible exact ih3 _ _)
   | (with_reducible exact ih4 _ _)
   | (with_reducible exact ih5 _ _)
   | (with_reducible exact ih6 _ _)
   | (with_reducible exact LeO.refl _)
   | (with_reducible exact LeO.none _)
   | (with_reducible refine LeO.ite ?_ ?_)
   | (with_reducible refine LeO.bind ?_ (fun _ => ?_))
   | exact LeO.none _
   | refine LeO.ite ?_ ?_
   | refine LeO.bind ?_ (fun _ => ?_)
  ·
   intro y0 y1
   unfold instr_Shape.j6
   repeat' first
   | (with_reducible exact ih0 _ _)
   | (with_reducible exact ih1 _ _)
   | (with_reducible exact ih2 _ _)
   | (with_reducible exact ih3 _ _)
   | (with_reducible exact ih4 _ _)
   | (with_reducible exact ih5 _ _)
   | (with_reducible exact ih6 _ _)
   | (with_reducible exact LeO.refl _)
   | (with_reducible exact LeO.none _)
   | (with_reducible refine LeO.ite ?_ ?_)
   | (with_reducible refine LeO.bind ?_ (fun _ => ?_))
   | exact LeO.none _
   | refine LeO.ite ?_ ?_
   | refine LeO.bind ?_ (fun _ => ?_)
theorem instr_Shape.mono : ∀ a0 k, LeO (instr_Shape.f k a0) (instr_Shape.f (k + 1) a0) := by
 intro a0 k
 obtain ⟨ih0, ih1, ih2, ih3, ih4, ih5, ih6⟩ := instr_Shape.mono_l k
 unfold instr_Shape.f
 repeat' first
  | (with_reducible exact ih0 _ _)
  | (with_reducible exact ih1 _ _)
  | (with_reducible exact ih2 _ _)
  | (with_reducible exact ih3 _ _)
  | (with_reducible exact ih4 _ _)
  | (with_reducible exact ih5 _ _)
  | (with_reducible exact ih6 _ _)
  | (with_reducible exact LeO.refl _)
  | (with_reducible exact LeO.none _)
  | (with_reducible refine LeO.ite ?_ ?_)
  | (with_reducible refine LeO.bind ?_ (fun _ => ?_))
  | exact LeO.none _
  | refine LeO.ite ?_ ?_
  | refine LeO.bind ?_ (fun _ => ?_)
set_option maxHeartbeats 8000000 in
set_option maxRecDepth 100000 in
theorem instr_Shape.calls (k : Nat) (a0 : Int) (r : Int) (w : World) (h : instr_Shape.f k a0 = some r) :
 Calls Try.prog 61 #[.int .i64 a0] w fun e w' => e = .returned (.int .i64 r) ∧ Drawn0 w w' := by
 have H : (if a0 = 1 then (some 0) else (if a0 = 2 then (instr_Shape.j0 k a0 (a0 == 2)) else (if a0 = 20 then (instr_Shape.j0 k a0 (a0 == 20)) else (instr_Shape.j0 k a0 (a0 == 21))))) = some r := h
 clear h
 by_cases c2 : a0 = 1
 ·
  rw [if_pos c2] at H
  have c2b0 : (a0 == 1) = true := beq_iff_eq.mpr c2
  have c2b1 : (a0 != 1) = false := bR c2
  clear c2
  obtain rfl := Option.some.inj H
  go_enter Try.func61, Try.ntmps61
  go_wp2
  go_ret
  exact ⟨by first | rfl | (simp; done) | (simp [*]; done), by repeat (first | exact Drawn0.refl _ | apply Drawn0.step)⟩
 ·
  rw [if_neg c2] at H
  have c2b0 : (a0 == 1) = false := bQ c2
  have c2b1 : (a0 != 1) = true := bne_iff_ne.mpr c2
  have HC3 := mK H
  clear H
  go_enter Try.func61, Try.ntmps61
  go_upto_if 6 with (fail)
  go_cut [6] (fun v6 wc => ∃ (kq : Nat) (x6_2 : Bool), v6 = .bool x6_2 ∧ Aside0 (instr_Shape.j0 kq a0 x6_2 = some r) ∧ Aside0 (kq ≤ k) ∧ Drawn0 w wc)
  case first =>
   have H := HC3.out
   clear HC3
   by_cases c4 : a0 = 2
   ·
    rw [if_pos c4] at H
    have c4b0 : (a0 == 2) = true := beq_iff_eq.mpr c4
    have c4b1 : (a0 != 2) = false := bR c4
    clear c4
    (first | rw [c4b0] | (simp only [i64_w, i32_w]; rw [c4b0]) | skip)
    have H' := mK H
    clear H
    go_wp2
    go_meet
    case rel => exact ⟨_, ((a0 == 2)), (by first | rfl | (simp; done) | (simp [*]; done)), H', ⟨by first | omega | exact Nat.le_refl _⟩, by repeat (first | exact Drawn0.refl _ | apply Drawn0.step)⟩
   ·
    rw [if_neg c4] at H
    have c4b0 : (a0 == 2) = false := bQ c4
    have c4b1 : (a0 != 2) = true := bne_iff_ne.mpr c4
    (first | rw [c4b0] | (simp only [i64_w, i32_w]; rw [c4b0]) | skip)
    by_cases c5 : a0 = 20
    ·
     rw [if_pos c5] at H
     have c5b0 : (a0 == 20) = true := beq_iff_eq.mpr c5
     have c5b1 : (a0 != 20) = false := bR c5
     clear c5
     have H' := mK H
     clear H
     go_wp2
     go_meet
     case rel => exact ⟨_, ((a0 == 20)), (by first | rfl | (simp; done) | (simp [*]; done)), H', ⟨by first | omega | exact Nat.le_refl _⟩, by repeat (first | exact Drawn0.refl _ | apply Drawn0.step)⟩
    ·
     rw [if_neg c5] at H
     have c5b0 : (a0 == 20) = false := bQ c5
     have c5b1 : (a0 != 20) = true := bne_iff_ne.mpr c5
     have H' := mK H
     clear H
     go_wp2
     go_meet
     case rel => exact ⟨_, ((a0 == 21)), (by first | rfl | (simp; done) | (simp [*]; done)), H', ⟨by first | omega | exact Nat.le_refl _⟩, by repeat (first | exact Drawn0.refl _ | apply Drawn0.step)⟩
  case rest =>
   clear HC3
   (try clear c2); (try clear c2b0); (try clear c2b1)
   obtain ⟨kq, x6_2, rfl, HA, HJ2, ⟨mc2, rfl⟩⟩ := hcut
   cases kq with
   | zero => exact absurd HA.out (by simp [instr_Shape.j0])
   | succ kj2 =>
    have H := HA.out
    clear HA
    simp only [instr_Shape.j0] at H
    by_cases c6 : x6_2 = true
    ·
     subst c6
     have H1 : (some 1) = some r := by rw [if_pos rfl] at H; exact H
     clear H
     have H := H1
     clear H1
     obtain rfl := Option.some.inj H
     go_wp2
     go_ret
     exact ⟨by first | rfl | (simp; done) | (simp [*]; done), by repeat (first | exact Drawn0.refl _ | apply Drawn0.step)⟩
    ·
     replace c6 := Bool.eq_false_iff.mpr c6
     subst c6
     have H1 : (if a0 = 3 then (instr_Shape.j1 kj2 a0 (a0 == 3)) else (if a0 = 30 then (instr_Shape.j1 kj2 a0 (a0 == 30)) else (instr_Shape.j1 kj2 a0 (a0 == 33)))) = some r := by rw [if_neg (show ¬ (false = true) by decide)] at H; exact H
     clear H
     have H := H1
     clear H1
     have HC7 := mK H
     clear H
     go_upto_if 10 with (fail)
     go_cut [10] (fun v10 wc => ∃ (kq : Nat) (x10_6 : Bool), v10 = .bool x10_6 ∧ Aside0 (instr_Shape.j1 kq a0 x10_6 = some r) ∧ Aside0 (kq ≤ kj2) ∧ Drawn0 w wc)
     case first =>
      have H := HC7.out
      clear HC7
      by_cases c8 : a0 = 3
      ·
       rw [if_pos c8] at H
       have c8b0 : (a0 == 3) = true := beq_iff_eq.mpr c8
       have c8b1 : (a0 != 3) = false := bR c8
       clear c8
       (first | rw [c8b0] | (simp only [i64_w, i32_w]; rw [c8b0]) | skip)
       have H' := mK H
       clear H
       go_wp2
       go_meet
       case rel => exact ⟨_, ((a0 == 3)), (by first | rfl | (simp; done) | (simp [*]; done)), H', ⟨by have := HJ2.out; first | omega | exact Nat.le_refl _⟩, by repeat (first | exact Drawn0.refl _ | apply Drawn0.step)⟩
      ·
       rw [if_neg c8] at H
       have c8b0 : (a0 == 3) = false := bQ c8
       have c8b1 : (a0 != 3) = true := bne_iff_ne.mpr c8
       (first | rw [c8b0] | (simp only [i64_w, i32_w]; rw [c8b0]) | skip)
       by_cases c9 : a0 = 30
       ·
        rw [if_pos c9] at H
        have c9b0 : (a0 == 30) = true := beq_iff_eq.mpr c9
        have c9b1 : (a0 != 30) = false := bR c9
        clear c9
        have H' := mK H
        clear H
        go_wp2
        go_meet
        case rel => exact ⟨_, ((a0 == 30)), (by first | rfl | (simp; done) | (simp [*]; done)), H', ⟨by have := HJ2.out; first | omega | exact Nat.le_refl _⟩, by repeat (first | exact Drawn0.refl _ | apply Drawn0.step)⟩
       ·
        rw [if_neg c9] at H
        have c9b0 : (a0 == 30) = false := bQ c9
        have c9b1 : (a0 != 30) = true := bne_iff_ne.mpr c9
        have H' := mK H
        clear H
        go_wp2
        go_meet
        case rel => exact ⟨_, ((a0 == 33)), (by first | rfl | (simp; done) | (simp [*]; done)), H', ⟨by have := HJ2.out; first | omega | exact Nat.le_refl _⟩, by repeat (first | exact Drawn0.refl _ | apply Drawn0.step)⟩
     case rest =>
      clear HC7
      (try clear c2); (try clear c2b0); (try clear c2b1); (try clear c6)
      obtain ⟨kq, x10_6, rfl, HA, HJ6, ⟨mc6, rfl⟩⟩ := hcut
      cases kq with
      | zero => exact absurd HA.out (by simp [instr_Shape.j1])
      | succ kj6 =>
       have H := HA.out
       clear HA
       simp only [instr_Shape.j1] at H
       by_cases c10 : x10_6 = true
       ·
        subst c10
        have H1 : (some 2) = some r := by rw [if_pos rfl] at H; exact H
        clear H
        have H := H1
        clear H1
        obtain rfl := Option.some.inj H
        go_wp2
        go_ret
        exact ⟨by first | rfl | (simp; done) | (simp [*]; done), by repeat (first | exact Drawn0.refl _ | apply Drawn0.step)⟩
       ·
        replace c10 := Bool.eq_false_iff.mpr c10
        subst c10
        have H1 : (if a0 = 5 then (instr_Shape.j2 kj6 a0 (a0 == 5)) else (if a0 = 18 then (instr_Shape.j2 kj6 a0 (a0 == 18)) else (instr_Shape.j2 kj6 a0 (a0 == 19)))) = some r := by rw [if_neg (show ¬ (false = true) by decide)] at H; exact H
        clear H
        have H := H1
        clear H1
        have HC11 := mK H
        clear H
        go_upto_if 14 with (fail)
        go_cut [14] (fun v14 wc => ∃ (kq : Nat) (x14_10 : Bool), v14 = .bool x14_10 ∧ Aside0 (instr_Shape.j2 kq a0 x14_10 = some r) ∧ Aside0 (kq ≤ kj6) ∧ Drawn0 w wc)
        case first =>
         have H := HC11.out
         clear HC11
         by_cases c12 : a0 = 5
         ·
          rw [if_pos c12] at H
          have c12b0 : (a0 == 5) = true := beq_iff_eq.mpr c12
          have c12b1 : (a0 != 5) = false := bR c12
          clear c12
          (first | rw [c12b0] | (simp only [i64_w, i32_w]; rw [c12b0]) | skip)
          have H' := mK H
          clear H
          go_wp2
          go_meet
          case rel => exact ⟨_, ((a0 == 5)), (by first | rfl | (simp; done) | (simp [*]; done)), H', ⟨by have := HJ2.out; have := HJ6.out; first | omega | exact Nat.le_refl _⟩, by repeat (first | exact Drawn0.refl _ | apply Drawn0.step)⟩
         ·
          rw [if_neg c12] at H
          have c12b0 : (a0 == 5) = false := bQ c12
          have c12b1 : (a0 != 5) = true := bne_iff_ne.mpr c12
          (first | rw [c12b0] | (simp only [i64_w, i32_w]; rw [c12b0]) | skip)
          by_cases c13 : a0 = 18
          ·
           rw [if_pos c13] at H
           have c13b0 : (a0 == 18) = true := beq_iff_eq.mpr c13
           have c13b1 : (a0 != 18) = false := bR c13
           clear c13
           have H' := mK H
           clear H
           go_wp2
           go_meet
           case rel => exact ⟨_, ((a0 == 18)), (by first | rfl | (simp; done) | (simp [*]; done)), H', ⟨by have := HJ2.out; have := HJ6.out; first | omega | exact Nat.le_refl _⟩, by repeat (first | exact Drawn0.refl _ | apply Drawn0.step)⟩
          ·
           rw [if_neg c13] at H
           have c13b0 : (a0 == 18) = false := bQ c13
           have c13b1 : (a0 != 18) = true := bne_iff_ne.mpr c13
           have H' := mK H
           clear H
           go_wp2
           go_meet
           case rel => exact ⟨_, ((a0 == 19)), (by first | rfl | (simp; done) | (simp [*]; done)), H', ⟨by have := HJ2.out; have := HJ6.out; first | omega | exact Nat.le_refl _⟩, by repeat (first | exact Drawn0.refl _ | apply Drawn0.step)⟩
        case rest =>
         clear HC11
         (try clear c2); (try clear c2b0); (try clear c2b1); (try clear c6); (try clear c10)
         obtain ⟨kq, x14_10, rfl, HA, HJ10, ⟨mc10, rfl⟩⟩ := hcut
         cases kq with
         | zero => exact absurd HA.out (by simp [instr_Shape.j2])
         | succ kj10 =>
          have H := HA.out
          clear HA
          simp only [instr_Shape.j2] at H
          by_cases c14 : x14_10 = true
          ·
           subst c14
           have H1 : (some 3) = some r := by rw [if_pos rfl] at H; exact H
           clear H
           have H := H1
           clear H1
           obtain rfl := Option.some.inj H
           go_wp2
           go_ret
           exact ⟨by first | rfl | (simp; done) | (simp [*]; done), by repeat (first | exact Drawn0.refl _ | apply Drawn0.step)⟩
          ·
           replace c14 := Bool.eq_false_iff.mpr c14
           subst c14
           have H1 : (if a0 = 4 then (instr_Shape.j3 kj10 a0 (a0 == 4)) else (if a0 = 34 then (instr_Shape.j3 kj10 a0 (a0 == 34)) else (instr_Shape.j3 kj10 a0 (a0 == 26)))) = some r := by rw [if_neg (show ¬ (false = true) by decide)] at H; exact H
           clear H
           have H := H1
           clear H1
           have HC15 := mK H
           clear H
           go_upto_if 18 with (fail)
           go_cut [18] (fun v18 wc => ∃ (kq : Nat) (x18_14 : Bool), v18 = .bool x18_14 ∧ Aside0 (instr_Shape.j3 kq a0 x18_14 = some r) ∧ Aside0 (kq ≤ kj10) ∧ Drawn0 w wc)
           case first =>
            have H := HC15.out
            clear HC15
            by_cases c16 : a0 = 4
            ·
             rw [if_pos c16] at H
             have c16b0 : (a0 == 4) = true := beq_iff_eq.mpr c16
             have c16b1 : (a0 != 4) = false := bR c16
             clear c16
             (first | rw [c16b0] | (simp only [i64_w, i32_w]; rw [c16b0]) | skip)
             have H' := mK H
             clear H
             go_wp2
             go_meet
             case rel => exact ⟨_, ((a0 == 4)), (by first | rfl | (simp; done) | (simp [*]; done)), H', ⟨by have := HJ2.out; have := HJ6.out; have := HJ10.out; first | omega | exact Nat.le_refl _⟩, by repeat (first | exact Drawn0.refl _ | apply Drawn0.step)⟩
            ·
             rw [if_neg c16] at H
             have c16b0 : (a0 == 4) = false := bQ c16
             have c16b1 : (a0 != 4) = true := bne_iff_ne.mpr c16
             (first | rw [c16b0] | (simp only [i64_w, i32_w]; rw [c16b0]) | skip)
             by_cases c17 : a0 = 34
             ·
              rw [if_pos c17] at H
              have c17b0 : (a0 == 34) = true := beq_iff_eq.mpr c17
              have c17b1 : (a0 != 34) = false := bR c17
              clear c17
              have H' := mK H
              clear H
              go_wp2
              go_meet
              case rel => exact ⟨_, ((a0 == 34)), (by first | rfl | (simp; done) | (simp [*]; done)), H', ⟨by have := HJ2.out; have := HJ6.out; have := HJ10.out; first | omega | exact Nat.le_refl _⟩, by repeat (first | exact Drawn0.refl _ | apply Drawn0.step)⟩
             ·
              rw [if_neg c17] at H
              have c17b0 : (a0 == 34) = false := bQ c17
              have c17b1 : (a0 != 34) = true := bne_iff_ne.mpr c17
              have H' := mK H
              clear H
              go_wp2
              go_meet
              case rel => exact ⟨_, ((a0 == 26)), (by first | rfl | (simp; done) | (simp [*]; done)), H', ⟨by have := HJ2.out; have := HJ6.out; have := HJ10.out; first | omega | exact Nat.le_refl _⟩, by repeat (first | exact Drawn0.refl _ | apply Drawn0.step)⟩
           case rest =>
            clear HC15
            (try clear c2); (try clear c2b0); (try clear c2b1); (try clear c6); (try clear c10); (try clear c14)
            obtain ⟨kq, x18_14, rfl, HA, HJ14, ⟨mc14, rfl⟩⟩ := hcut
            cases kq with
            | zero => exact absurd HA.out (by simp [instr_Shape.j3])
            | succ kj14 =>
             have H := HA.out
             clear HA
             simp only [instr_Shape.j3] at H
             by_cases c18 : x18_14 = true
             ·
              subst c18
              have H1 : (some 4) = some r := by rw [if_pos rfl] at H; exact H
              clear H
              have H := H1
              clear H1
              obtain rfl := Option.some.inj H
              go_wp2
              go_ret
              exact ⟨by first | rfl | (simp; done) | (simp [*]; done), by repeat (first | exact Drawn0.refl _ | apply Drawn0.step)⟩
             ·
              replace c18 := Bool.eq_false_iff.mpr c18
              subst c18
              have H1 : (if a0 = 6 then (instr_Shape.j4 kj14 a0 (a0 == 6)) else (if a0 = 7 then (instr_Shape.j4 kj14 a0 (a0 == 7)) else (if a0 = 8 then (instr_Shape.j4 kj14 a0 (a0 == 8)) else (if a0 = 9 then (instr_Shape.j4 kj14 a0 (a0 == 9)) else (if a0 = 10 then (instr_Shape.j4 kj14 a0 (a0 == 10)) else (if a0 = 11 then (instr_Shape.j4 kj14 a0 (a0 == 11)) else (if a0 = 12 then (instr_Shape.j4 kj14 a0 (a0 == 12)) else (if a0 = 13 then (instr_Shape.j4 kj14 a0 (a0 == 13)) else (if a0 = 14 then (instr_Shape.j4 kj14 a0 (a0 == 14)) else (if a0 = 15 then (instr_Shape.j4 kj14 a0 (a0 == 15)) else (if a0 = 16 then (instr_Shape.j4 kj14 a0 (a0 == 16)) else (instr_Shape.j4 kj14 a0 (a0 == 17))))))))))))) = some r := by rw [if_neg (show ¬ (false = true) by decide)] at H; exact H
              clear H
              have H := H1
              clear H1
              have HC19 := mK H
              clear H
              go_upto_if 22 with (fail)
              go_cut [22] (fun v22 wc => ∃ (kq : Nat) (x22_18 : Bool), v22 = .bool x22_18 ∧ Aside0 (instr_Shape.j4 kq a0 x22_18 = some r) ∧ Aside0 (kq ≤ kj14) ∧ Drawn0 w wc)
              case first =>
               have H := HC19.out
               clear HC19
               by_cases c20 : a0 = 6
               ·
                rw [if_pos c20] at H
                have c20b0 : (a0 == 6) = true := beq_iff_eq.mpr c20
                have c20b1 : (a0 != 6) = false := bR c20
                clear c20
                (first | rw [c20b0] | (simp only [i64_w, i32_w]; rw [c20b0]) | skip)
                have H' := mK H
                clear H
                go_wp2
                go_meet
                case rel => exact ⟨_, ((a0 == 6)), (by first | rfl | (simp; done) | (simp [*]; done)), H', ⟨by have := HJ2.out; have := HJ6.out; have := HJ10.out; have := HJ14.out; first | omega | exact Nat.le_refl _⟩, by repeat (first | exact Drawn0.refl _ | apply Drawn0.step)⟩
               ·
                rw [if_neg c20] at H
                have c20b0 : (a0 == 6) = false := bQ c20
                have c20b1 : (a0 != 6) = true := bne_iff_ne.mpr c20
                (first | rw [c20b0] | (simp only [i64_w, i32_w]; rw [c20b0]) | skip)
                by_cases c21 : a0 = 7
                ·
                 rw [if_pos c21] at H
                 have c21b0 : (a0 == 7) = true := beq_iff_eq.mpr c21
                 have c21b1 : (a0 != 7) = false := bR c21
                 clear c21
                 have H' := mK H
                 clear H
                 go_wp2
                 go_meet
                 case rel => exact ⟨_, ((a0 == 7)), (by first | rfl | (simp; done) | (simp [*]; done)), H', ⟨by have := HJ2.out; have := HJ6.out; have := HJ10.out; have := HJ14.out; first | omega | exact Nat.le_refl _⟩, by repeat (first | exact Drawn0.refl _ | apply Drawn0.step)⟩
                ·
                 rw [if_neg c21] at H
                 have c21b0 : (a0 == 7) = false := bQ c21
                 have c21b1 : (a0 != 7) = true := bne_iff_ne.mpr c21
                 by_cases c22 : a0 = 8
                 ·
                  rw [if_pos c22] at H
                  have c22b0 : (a0 == 8) = true := beq_iff_eq.mpr c22
                  have c22b1 : (a0 != 8) = false := bR c22
                  clear c22
                  have H' := mK H
                  clear H
                  go_wp2
                  go_meet
                  case rel => exact ⟨_, ((a0 == 8)), (by first | rfl | (simp; done) | (simp [*]; done)), H', ⟨by have := HJ2.out; have := HJ6.out; have := HJ10.out; have := HJ14.out; first | omega | exact Nat.le_refl _⟩, by repeat (first | exact Drawn0.refl _ | apply Drawn0.step)⟩
                 ·
                  rw [if_neg c22] at H
                  have c22b0 : (a0 == 8) = false := bQ c22
                  have c22b1 : (a0 != 8) = true := bne_iff_ne.mpr c22
                  by_cases c23 : a0 = 9
                  ·
                   rw [if_pos c23] at H
                   have c23b0 : (a0 == 9) = true := beq_iff_eq.mpr c23
                   have c23b1 : (a0 != 9) = false := bR c23
                   clear c23
                   have H' := mK H
                   clear H
                   go_wp2
                   go_meet
                   case rel => exact ⟨_, ((a0 == 9)), (by first | rfl | (simp; done) | (simp [*]; done)), H', ⟨by have := HJ2.out; have := HJ6.out; have := HJ10.out; have := HJ14.out; first | omega | exact Nat.le_refl _⟩, by repeat (first | exact Drawn0.refl _ | apply Drawn0.step)⟩
                  ·
                   rw [if_neg c23] at H
                   have c23b0 : (a0 == 9) = false := bQ c23
                   have c23b1 : (a0 != 9) = true := bne_iff_ne.mpr c23
                   by_cases c24 : a0 = 10
                   ·
                    rw [if_pos c24] at H
                    have c24b0 : (a0 == 10) = true := beq_iff_eq.mpr c24
                    have c24b1 : (a0 != 10) = false := bR c24
                    clear c24
                    have H' := mK H
                    clear H
                    go_wp2
                    go_meet
                    case rel => exact ⟨_, ((a0 == 10)), (by first | rfl | (simp; done) | (simp [*]; done)), H', ⟨by have := HJ2.out; have := HJ6.out; have := HJ10.out; have := HJ14.out; first | omega | exact Nat.le_refl _⟩, by repeat (first | exact Drawn0.refl _ | apply Drawn0.step)⟩
                   ·
                    rw [if_neg c24] at H
                    have c24b0 : (a0 == 10) = false := bQ c24
                    have c24b1 : (a0 != 10) = true := bne_iff_ne.mpr c24
                    by_cases c25 : a0 = 11
                    ·
                     rw [if_pos c25] at H
                     have c25b0 : (a0 == 11) = true := beq_iff_eq.mpr c25
                     have c25b1 : (a0 != 11) = false := bR c25
                     clear c25
                     have H' := mK H
                     clear H
                     go_wp2
                     go_meet
                     case rel => exact ⟨_, ((a0 == 11)), (by first | rfl | (simp; done) | (simp [*]; done)), H', ⟨by have := HJ2.out; have := HJ6.out; have := HJ10.out; have := HJ14.out; first | omega | exact Nat.le_refl _⟩, by repeat (first | exact Drawn0.refl _ | apply Drawn0.step)⟩
                    ·
                     rw [if_neg c25] at H
                     have c25b0 : (a0 == 11) = false := bQ c25
                     have c25b1 : (a0 != 11) = true := bne_iff_ne.mpr c25
                     by_cases c26 : a0 = 12
                     ·
                      rw [if_pos c26] at H
                      have c26b0 : (a0 == 12) = true := beq_iff_eq.mpr c26
                      have c26b1 : (a0 != 12) = false := bR c26
                      clear c26
                      have H' := mK H
                      clear H
                      go_wp2
                      go_meet
                      case rel => exact ⟨_, ((a0 == 12)), (by first | rfl | (simp; done) | (simp [*]; done)), H', ⟨by have := HJ2.out; have := HJ6.out; have := HJ10.out; have := HJ14.out; first | omega | exact Nat.le_refl _⟩, by repeat (first | exact Drawn0.refl _ | apply Drawn0.step)⟩
                     ·
                      rw [if_neg c26] at H
                      have c26b0 : (a0 == 12) = false := bQ c26
                      have c26b1 : (a0 != 12) = true := bne_iff_ne.mpr c26
                      by_cases c27 : a0 = 13
                      ·
                       rw [if_pos c27] at H
                       have c27b0 : (a0 == 13) = true := beq_iff_eq.mpr c27
                       have c27b1 : (a0 != 13) = false := bR c27
                       clear c27
                       have H' := mK H
                       clear H
                       go_wp2
                       go_meet
                       case rel => exact ⟨_, ((a0 == 13)), (by first | rfl | (simp; done) | (simp [*]; done)), H', ⟨by have := HJ2.out; have := HJ6.out; have := HJ10.out; have := HJ14.out; first | omega | exact Nat.le_refl _⟩, by repeat (first | exact Drawn0.refl _ | apply Drawn0.step)⟩
                      ·
                       rw [if_neg c27] at H
                       have c27b0 : (a0 == 13) = false := bQ c27
                       have c27b1 : (a0 != 13) = true := bne_iff_ne.mpr c27
                       by_cases c28 : a0 = 14
                       ·
                        rw [if_pos c28] at H
                        have c28b0 : (a0 == 14) = true := beq_iff_eq.mpr c28
                        have c28b1 : (a0 != 14) = false := bR c28
                        clear c28
                        have H' := mK H
                        clear H
                        go_wp2
                        go_meet
                        case rel => exact ⟨_, ((a0 == 14)), (by first | rfl | (simp; done) | (simp [*]; done)), H', ⟨by have := HJ2.out; have := HJ6.out; have := HJ10.out; have := HJ14.out; first | omega | exact Nat.le_refl _⟩, by repeat (first | exact Drawn0.refl _ | apply Drawn0.step)⟩
                       ·
                        rw [if_neg c28] at H
                        have c28b0 : (a0 == 14) = false := bQ c28
                        have c28b1 : (a0 != 14) = true := bne_iff_ne.mpr c28
                        by_cases c29 : a0 = 15
                        ·
                         rw [if_pos c29] at H
                         have c29b0 : (a0 == 15) = true := beq_iff_eq.mpr c29
                         have c29b1 : (a0 != 15) = false := bR c29
                         clear c29
                         have H' := mK H
                         clear H
                         go_wp2
                         go_meet
                         case rel => exact ⟨_, ((a0 == 15)), (by first | rfl | (simp; done) | (simp [*]; done)), H', ⟨by have := HJ2.out; have := HJ6.out; have := HJ10.out; have := HJ14.out; first | omega | exact Nat.le_refl _⟩, by repeat (first | exact Drawn0.refl _ | apply Drawn0.step)⟩
                        ·
                         rw [if_neg c29] at H
                         have c29b0 : (a0 == 15) = false := bQ c29
                         have c29b1 : (a0 != 15) = true := bne_iff_ne.mpr c29
                         by_cases c30 : a0 = 16
                         ·
                          rw [if_pos c30] at H
                          have c30b0 : (a0 == 16) = true := beq_iff_eq.mpr c30
                          have c30b1 : (a0 != 16) = false := bR c30
                          clear c30
                          have H' := mK H
                          clear H
                          go_wp2
                          go_meet
                          case rel => exact ⟨_, ((a0 == 16)), (by first | rfl | (simp; done) | (simp [*]; done)), H', ⟨by have := HJ2.out; have := HJ6.out; have := HJ10.out; have := HJ14.out; first | omega | exact Nat.le_refl _⟩, by repeat (first | exact Drawn0.refl _ | apply Drawn0.step)⟩
                         ·
                          rw [if_neg c30] at H
                          have c30b0 : (a0 == 16) = false := bQ c30
                          have c30b1 : (a0 != 16) = true := bne_iff_ne.mpr c30
                          have H' := mK H
                          clear H
                          go_wp2
                          go_meet
                          case rel => exact ⟨_, ((a0 == 17)), (by first | rfl | (simp; done) | (simp [*]; done)), H', ⟨by have := HJ2.out; have := HJ6.out; have := HJ10.out; have := HJ14.out; first | omega | exact Nat.le_refl _⟩, by repeat (first | exact Drawn0.refl _ | apply Drawn0.step)⟩
              case rest =>
               clear HC19
               (try clear c2); (try clear c2b0); (try clear c2b1); (try clear c6); (try clear c10); (try clear c14); (try clear c18)
               obtain ⟨kq, x22_18, rfl, HA, HJ18, ⟨mc18, rfl⟩⟩ := hcut
               cases kq with
               | zero => exact absurd HA.out (by simp [instr_Shape.j4])
               | succ kj18 =>
                have H := HA.out
                clear HA
                simp only [instr_Shape.j4] at H
                by_cases c31 : x22_18 = true
                ·
                 subst c31
                 have H1 : (some 5) = some r := by rw [if_pos rfl] at H; exact H
                 clear H
                 have H := H1
                 clear H1
                 obtain rfl := Option.some.inj H
                 go_wp2
                 go_ret
                 exact ⟨by first | rfl | (simp; done) | (simp [*]; done), by repeat (first | exact Drawn0.refl _ | apply Drawn0.step)⟩
                ·
                 replace c31 := Bool.eq_false_iff.mpr c31
                 subst c31
                 have H1 : (if a0 = 24 then (instr_Shape.j5 kj18 a0 (a0 == 24)) else (if a0 = 25 then (instr_Shape.j5 kj18 a0 (a0 == 25)) else (if a0 = 27 then (instr_Shape.j5 kj18 a0 (a0 == 27)) else (if a0 = 29 then (instr_Shape.j5 kj18 a0 (a0 == 29)) else (if a0 = 31 then (instr_Shape.j5 kj18 a0 (a0 == 31)) else (instr_Shape.j5 kj18 a0 (a0 == 32))))))) = some r := by rw [if_neg (show ¬ (false = true) by decide)] at H; exact H
                 clear H
                 have H := H1
                 clear H1
                 have HC32 := mK H
                 clear H
                 go_upto_if 35 with (fail)
                 go_cut [35] (fun v35 wc => ∃ (kq : Nat) (x35_31 : Bool), v35 = .bool x35_31 ∧ Aside0 (instr_Shape.j5 kq a0 x35_31 = some r) ∧ Aside0 (kq ≤ kj18) ∧ Drawn0 w wc)
                 case first =>
                  have H := HC32.out
                  clear HC32
                  by_cases c33 : a0 = 24
                  ·
                   rw [if_pos c33] at H
                   have c33b0 : (a0 == 24) = true := beq_iff_eq.mpr c33
                   have c33b1 : (a0 != 24) = false := bR c33
                   clear c33
                   (first | rw [c33b0] | (simp only [i64_w, i32_w]; rw [c33b0]) | skip)
                   have H' := mK H
                   clear H
                   go_wp2
                   go_meet
                   case rel => exact ⟨_, ((a0 == 24)), (by first | rfl | (simp; done) | (simp [*]; done)), H', ⟨by have := HJ2.out; have := HJ6.out; have := HJ10.out; have := HJ14.out; have := HJ18.out; first | omega | exact Nat.le_refl _⟩, by repeat (first | exact Drawn0.refl _ | apply Drawn0.step)⟩
                  ·
                   rw [if_neg c33] at H
                   have c33b0 : (a0 == 24) = false := bQ c33
                   have c33b1 : (a0 != 24) = true := bne_iff_ne.mpr c33
                   (first | rw [c33b0] | (simp only [i64_w, i32_w]; rw [c33b0]) | skip)
                   by_cases c34 : a0 = 25
                   ·
                    rw [if_pos c34] at H
                    have c34b0 : (a0 == 25) = true := beq_iff_eq.mpr c34
                    have c34b1 : (a0 != 25) = false := bR c34
                    clear c34
                    have H' := mK H
                    clear H
                    go_wp2
                    go_meet
                    case rel => exact ⟨_, ((a0 == 25)), (by first | rfl | (simp; done) | (simp [*]; done)), H', ⟨by have := HJ2.out; have := HJ6.out; have := HJ10.out; have := HJ14.out; have := HJ18.out; first | omega | exact Nat.le_refl _⟩, by repeat (first | exact Drawn0.refl _ | apply Drawn0.step)⟩
                   ·
                    rw [if_neg c34] at H
                    have c34b0 : (a0 == 25) = false := bQ c34
                    have c34b1 : (a0 != 25) = true := bne_iff_ne.mpr c34
                    by_cases c35 : a0 = 27
                    ·
                     rw [if_pos c35] at H
                     have c35b0 : (a0 == 27) = true := beq_iff_eq.mpr c35
                     have c35b1 : (a0 != 27) = false := bR c35
                     clear c35
                     have H' := mK H
                     clear H
                     go_wp2
                     go_meet
                     case rel => exact ⟨_, ((a0 == 27)), (by first | rfl | (simp; done) | (simp [*]; done)), H', ⟨by have := HJ2.out; have := HJ6.out; have := HJ10.out; have := HJ14.out; have := HJ18.out; first | omega | exact Nat.le_refl _⟩, by repeat (first | exact Drawn0.refl _ | apply Drawn0.step)⟩
                    ·
                     rw [if_neg c35] at H
                     have c35b0 : (a0 == 27) = false := bQ c35
                     have c35b1 : (a0 != 27) = true := bne_iff_ne.mpr c35
                     by_cases c36 : a0 = 29
                     ·
                      rw [if_pos c36] at H
                      have c36b0 : (a0 == 29) = true := beq_iff_eq.mpr c36
                      have c36b1 : (a0 != 29) = false := bR c36
                      clear c36
                      have H' := mK H
                      clear H
                      go_wp2
                      go_meet
                      case rel => exact ⟨_, ((a0 == 29)), (by first | rfl | (simp; done) | (simp [*]; done)), H', ⟨by have := HJ2.out; have := HJ6.out; have := HJ10.out; have := HJ14.out; have := HJ18.out; first | omega | exact Nat.le_refl _⟩, by repeat (first | exact Drawn0.refl _ | apply Drawn0.step)⟩
                     ·
                      rw [if_neg c36] at H
                      have c36b0 : (a0 == 29) = false := bQ c36
                      have c36b1 : (a0 != 29) = true := bne_iff_ne.mpr c36
                      by_cases c37 : a0 = 31
                      ·
                       rw [if_pos c37] at H
                       have c37b0 : (a0 == 31) = true := beq_iff_eq.mpr c37
                       have c37b1 : (a0 != 31) = false := bR c37
                       clear c37
                       have H' := mK H
                       clear H
                       go_wp2
                       go_meet
                       case rel => exact ⟨_, ((a0 == 31)), (by first | rfl | (simp; done) | (simp [*]; done)), H', ⟨by have := HJ2.out; have := HJ6.out; have := HJ10.out; have := HJ14.out; have := HJ18.out; first | omega | exact Nat.le_refl _⟩, by repeat (first | exact Drawn0.refl _ | apply Drawn0.step)⟩
                      ·
                       rw [if_neg c37] at H
                       have c37b0 : (a0 == 31) = false := bQ c37
                       have c37b1 : (a0 != 31) = true := bne_iff_ne.mpr c37
                       have H' := mK H
                       clear H
                       go_wp2
                       go_meet
                       case rel => exact ⟨_, ((a0 == 32)), (by first | rfl | (simp; done) | (simp [*]; done)), H', ⟨by have := HJ2.out; have := HJ6.out; have := HJ10.out; have := HJ14.out; have := HJ18.out; first | omega | exact Nat.le_refl _⟩, by repeat (first | exact Drawn0.refl _ | apply Drawn0.step)⟩
                 case rest =>
                  clear HC32
                  (try clear c2); (try clear c2b0); (try clear c2b1); (try clear c6); (try clear c10); (try clear c14); (try clear c18); (try clear c31)
                  obtain ⟨kq, x35_31, rfl, HA, HJ31, ⟨mc31, rfl⟩⟩ := hcut
                  cases kq with
                  | zero => exact absurd HA.out (by simp [instr_Shape.j5])
                  | succ kj31 =>
                   have H := HA.out
                   clear HA
                   simp only [instr_Shape.j5] at H
                   by_cases c38 : x35_31 = true
                   ·
                    subst c38
                    have H1 : (some 6) = some r := by rw [if_pos rfl] at H; exact H
                    clear H
                    have H := H1
                    clear H1
                    obtain rfl := Option.some.inj H
                    go_wp2
                    go_ret
                    exact ⟨by first | rfl | (simp; done) | (simp [*]; done), by repeat (first | exact Drawn0.refl _ | apply Drawn0.step)⟩
                   ·
                    replace c38 := Bool.eq_false_iff.mpr c38
                    subst c38
                    have H1 : (if a0 = 22 then (instr_Shape.j6 kj31 a0 (a0 == 22)) else (instr_Shape.j6 kj31 a0 (a0 == 23))) = some r := by rw [if_neg (show ¬ (false = true) by decide)] at H; exact H
                    clear H
                    have H := H1
                    clear H1
                    have HC39 := mK H
                    clear H
                    go_upto_if 42 with (fail)
                    go_cut [42] (fun v42 wc => ∃ (kq : Nat) (x42_38 : Bool), v42 = .bool x42_38 ∧ Aside0 (instr_Shape.j6 kq a0 x42_38 = some r) ∧ Aside0 (kq ≤ kj31) ∧ Drawn0 w wc)
                    case first =>
                     have H := HC39.out
                     clear HC39
                     by_cases c40 : a0 = 22
                     ·
                      rw [if_pos c40] at H
                      have c40b0 : (a0 == 22) = true := beq_iff_eq.mpr c40
                      have c40b1 : (a0 != 22) = false := bR c40
                      clear c40
                      (first | rw [c40b0] | (simp only [i64_w, i32_w]; rw [c40b0]) | skip)
                      have H' := mK H
                      clear H
                      go_wp2
                      go_meet
                      case rel => exact ⟨_, ((a0 == 22)), (by first | rfl | (simp; done) | (simp [*]; done)), H', ⟨by have := HJ2.out; have := HJ6.out; have := HJ10.out; have := HJ14.out; have := HJ18.out; have := HJ31.out; first | omega | exact Nat.le_refl _⟩, by repeat (first | exact Drawn0.refl _ | apply Drawn0.step)⟩
                     ·
                      rw [if_neg c40] at H
                      have c40b0 : (a0 == 22) = false := bQ c40
                      have c40b1 : (a0 != 22) = true := bne_iff_ne.mpr c40
                      (first | rw [c40b0] | (simp only [i64_w, i32_w]; rw [c40b0]) | skip)
                      have H' := mK H
                      clear H
                      go_wp2
                      go_meet
                      case rel => exact ⟨_, ((a0 == 23)), (by first | rfl | (simp; done) | (simp [*]; done)), H', ⟨by have := HJ2.out; have := HJ6.out; have := HJ10.out; have := HJ14.out; have := HJ18.out; have := HJ31.out; first | omega | exact Nat.le_refl _⟩, by repeat (first | exact Drawn0.refl _ | apply Drawn0.step)⟩
                    case rest =>
                     clear HC39
                     (try clear c2); (try clear c2b0); (try clear c2b1); (try clear c6); (try clear c10); (try clear c14); (try clear c18); (try clear c31); (try clear c38)
                     obtain ⟨kq, x42_38, rfl, HA, HJ38, ⟨mc38, rfl⟩⟩ := hcut
                     cases kq with
                     | zero => exact absurd HA.out (by simp [instr_Shape.j6])
                     | succ kj38 =>
                      have H := HA.out
                      clear HA
                      simp only [instr_Shape.j6] at H
                      by_cases c41 : x42_38 = true
                      ·
                       subst c41
                       have H1 : (some 7) = some r := by rw [if_pos rfl] at H; exact H
                       clear H
                       have H := H1
                       clear H1
                       obtain rfl := Option.some.inj H
                       go_wp2
                       go_ret
                       exact ⟨by first | rfl | (simp; done) | (simp [*]; done), by repeat (first | exact Drawn0.refl _ | apply Drawn0.step)⟩
                      ·
                       replace c41 := Bool.eq_false_iff.mpr c41
                       subst c41
                       have H1 : (if a0 = 28 then (some 8) else (some (-1))) = some r := by rw [if_neg (show ¬ (false = true) by decide)] at H; exact H
                       clear H
                       have H := H1
                       clear H1
                       by_cases c42 : a0 = 28
                       ·
                        rw [if_pos c42] at H
                        have c42b0 : (a0 == 28) = true := beq_iff_eq.mpr c42
                        have c42b1 : (a0 != 28) = false := bR c42
                        clear c42
                        obtain rfl := Option.some.inj H
                        go_wp2
                        go_ret
                        exact ⟨by first | rfl | (simp; done) | (simp [*]; done), by repeat (first | exact Drawn0.refl _ | apply Drawn0.step)⟩
                       ·
                        rw [if_neg c42] at H
                        have c42b0 : (a0 == 28) = false := bQ c42
                        have c42b1 : (a0 != 28) = true := bne_iff_ne.mpr c42
                        obtain rfl := Option.some.inj H
                        go_wp2
                        go_ret
                        exact ⟨by first | rfl | (simp; done) | (simp [*]; done), by repeat (first | exact Drawn0.refl _ | apply Drawn0.step)⟩


/-! ### word_Sext: function 62 -/
def word_Sext.f (a0 : Int) (a1 : Int) : Option (Int) := if a1 < 1 then (some 0) else (if 0 ≤ (wrap64 (32 - (mn a1 32))) then (some (shr .i32 (wrap32 (shl .u32 a0 (wrap64 (32 - (mn a1 32))))) (wrap64 (32 - (mn a1 32))))) else (none))
set_option maxHeartbeats 8000000 in
set_option maxRecDepth 100000 in
theorem word_Sext.calls (a0 : Int) (a1 : Int) (r : Int) (w : World) (h : word_Sext.f a0 a1 = some r) :
 Calls Try.prog 62 #[.int .u32 a0, .int .i64 a1] w fun e w' => e = .returned (.int .i32 r) ∧ Below w.heap.size w w' := by
 have HB := mK (Below.refl w.heap.size w)
 have H : (if a1 < 1 then (some 0) else (if 0 ≤ (wrap64 (32 - (mn a1 32))) then (some (shr .i32 (wrap32 (shl .u32 a0 (wrap64 (32 - (mn a1 32))))) (wrap64 (32 - (mn a1 32))))) else (none))) = some r := h
 clear h
 by_cases c3 : a1 < 1
 ·
  rw [if_pos c3] at H
  have c3b0 : decide (a1 < 1) = true := decide_eq_true c3
  clear c3
  obtain rfl := Option.some.inj H
  go_enter Try.func62, Try.ntmps62
  go_wp2
  go_ret
  exact ⟨by first | rfl | (simp [errW_none, errW_some] <;> rfl) | (simp [*, errW_none, errW_some] <;> rfl), by repeat (first | (with_reducible first | exact HB.out | apply bA | apply bN | apply bD) | exact HB.out)⟩
 ·
  rw [if_neg c3] at H
  have c3b0 : decide (a1 < 1) = false := decide_eq_false c3
  clear c3
  obtain ⟨ji4, hji4⟩ : ∃ j_ : Int, (mn a1 32) = j_ := ⟨_, rfl⟩
  replace H : (if 0 ≤ (wrap64 (32 - (ji4))) then (some (shr .i32 (wrap32 (shl .u32 a0 (wrap64 (32 - (ji4))))) (wrap64 (32 - (ji4))))) else (none)) = some r := by first | (rw [hji4] at H; exact H) | (simp only [hji4] at H ⊢; exact H)
  (try (have hji4h : ji4 ≤ 32 := by (rw [← hji4]; unfold mn; (repeat' split) <;> omega)))
  (try (have hji4g : ji4 ≤ 64 := by omega))
  have hji4_ : (if 32 < a1 then 32 else a1) = ji4 := hji4
  obtain ⟨ji5, hji5⟩ : ∃ j_ : Int, (wrap64 (32 - (ji4))) = j_ := ⟨_, rfl⟩
  replace H : (if 0 ≤ (ji5) then (some (shr .i32 (wrap32 (shl .u32 a0 (ji5))) (ji5))) else (none)) = some r := by first | (rw [hji5] at H; exact H) | (simp only [hji5] at H ⊢; exact H)
  have hji5w : (IntKind.i64.wrap (32 - (ji4))) = ji5 := (i64_w _).trans hji5
  by_cases c6 : 0 ≤ (ji5)
  ·
   rw [if_pos c6] at H
   have c6b0 := eq_true c6
   have c6b1 : decide (0 ≤ (ji5)) = true := decide_eq_true c6
   clear c6
   obtain ⟨ji7, hji7⟩ : ∃ j_ : Int, (shl .u32 a0 (ji5)) = j_ := ⟨_, rfl⟩
   replace H : (some (shr .i32 (wrap32 (ji7)) (ji5))) = some r := by first | (rw [hji7] at H; exact H) | (simp only [hji7] at H ⊢; exact H)
   have hji7_ : (IntKind.u32.wrap (a0 * 2 ^ min (ji5).toNat 32)) = ji7 := hji7
   have hji7z : (ji5) ≤ 32 → (IntKind.u32.wrap (a0 * 2 ^ (ji5).toNat)) = ji7 := shl_small hji7
   have c8b0 := eq_true (of_decide_eq_true (by first | (with_reducible assumption) | assumption) : 0 ≤ (ji5))
   obtain ⟨ji9, hji9⟩ : ∃ j_ : Int, (shr .i32 (wrap32 (ji7)) (ji5)) = j_ := ⟨_, rfl⟩
   replace H : (some ji9) = some r := by first | (rw [hji9] at H; exact H) | (simp only [hji9] at H ⊢; exact H)
   have hji9_ : ((wrap32 (ji7)) / 2 ^ min (ji5).toNat 32) = ji9 := hji9
   have hji9z : (ji5) ≤ 32 → ((wrap32 (ji7)) / 2 ^ (ji5).toNat) = ji9 := shr_small hji9
   obtain rfl := Option.some.inj H
   go_enter Try.func62, Try.ntmps62
   go_wp2
   go_ret
   exact ⟨by first | rfl | (simp [errW_none, errW_some] <;> rfl) | (simp only [← hji4, ← hji5, ← hji7, ← hji9]; first | rfl | (simp [errW_none, errW_some] <;> rfl)) | (simp [*, errW_none, errW_some] <;> rfl), by repeat (first | (with_reducible first | exact HB.out | apply bA | apply bN | apply bD) | exact HB.out)⟩
  ·
   rw [if_neg c6] at H
   exact absurd H (by simp)


/-! ### instr_reg: function 67 -/
def instr_reg.f (a0 : Int) : Option (Bool) := if a0 ≥ 0 then (some (decide (a0 < 16))) else (some false)
set_option maxHeartbeats 8000000 in
set_option maxRecDepth 100000 in
theorem instr_reg.calls (a0 : Int) (r : Bool) (w : World) (h : instr_reg.f a0 = some r) :
 Calls Try.prog 67 #[.int .i64 a0] w fun e w' => e = .returned (.bool r) ∧ Drawn0 w w' := by
 have H : (if a0 ≥ 0 then (some (decide (a0 < 16))) else (some false)) = some r := h
 clear h
 by_cases c2 : a0 ≥ 0
 ·
  rw [if_pos c2] at H
  have c2b0 : decide (0 ≤ a0) = true := decide_eq_true c2
  clear c2
  obtain rfl := Option.some.inj H
  go_enter Try.func67, Try.ntmps67
  go_wp2
  go_ret
  exact ⟨by first | rfl | (simp; done) | (simp [*]; done), by repeat (first | exact Drawn0.refl _ | apply Drawn0.step)⟩
 ·
  rw [if_neg c2] at H
  have c2b0 : decide (0 ≤ a0) = false := decide_eq_false c2
  clear c2
  obtain rfl := Option.some.inj H
  go_enter Try.func67, Try.ntmps67
  go_wp2
  go_ret
  exact ⟨by first | rfl | (simp; done) | (simp [*]; done), by repeat (first | exact Drawn0.refl _ | apply Drawn0.step)⟩


/-! ### word_Fits: function 70 -/
def word_Fits.f (n bits : Int) : Option Bool := some (decide (1 ≤ bits) && (decide (-(2 ^ (min bits 40 - 1).toNat) ≤ n) && decide (n < 2 ^ (min bits 40 - 1).toNat)))
theorem word_Fits.pow (k : Nat) (h : k ≤ 39) : 1 ≤ (2 : Int) ^ k ∧ (2 : Int) ^ k ≤ 549755813888 := by
 have h1 : (2 : Nat) ^ k ≤ 2 ^ 39 := Nat.pow_le_pow_right (by omega) h
 have h2 : 1 ≤ (2 : Nat) ^ k := Nat.one_le_two_pow
 have h3 : ((2 : Nat) ^ k : Int) = (2 : Int) ^ k := by norm_cast
 have h4 : (2 : Nat) ^ 39 = 549755813888 := by decide
 omega
theorem word_Fits.pow' (k : Nat) (h : k ≤ 39) : wrap64 (-2 ^ k) = -(2 ^ k) := by
 have := word_Fits.pow k h
 unfold wrap64; omega
theorem word_Fits.pow'' (k : Nat) (h : k ≤ 39) : wrap64 (2 ^ k) = 2 ^ k := by
 have := word_Fits.pow k h
 unfold wrap64; omega
set_option maxHeartbeats 400000 in
set_option maxRecDepth 100000 in
theorem word_Fits.calls (n bits : Int) (r : Bool) (w : World) (h : word_Fits.f n bits = some r) :
 Calls Try.prog 70 #[.int .i64 n, .int .i64 bits] w fun e w' => e = .returned (.bool r) ∧ Drawn0 w w' := by
 injection h with h
 have HR := mK h
 clear h
 by_cases hb : bits < 1
 ·
  have hbb : decide (bits < 1) = true := decide_eq_true hb
  go_enter Try.func70, Try.ntmps70
  go_wp2
  go_ret
  exact ⟨by rw [← HR.out, decide_eq_false (show ¬ 1 ≤ bits by omega)]; rfl, Drawn0.refl _⟩
 ·
  have hbb : decide (bits < 1) = false := decide_eq_false hb
  obtain ⟨m, hj, hm⟩ : ∃ m : Nat, (if 40 < bits then 40 else bits) = (m : Int) + 1 ∧ m ≤ 39 := by
   refine ⟨(min bits 40 - 1).toNat, ?_, by omega⟩
   split <;> omega
  have HM : Aside0 ((min bits 40 - 1).toNat = m) := ⟨by split at hj <;> omega⟩
  have h1 := word_Fits.pow' _ hm
  have h2 := word_Fits.pow'' _ hm
  have HB := mK (word_Fits.pow _ hm)
  have hb1 : decide (1 ≤ bits) = true := decide_eq_true (by omega)
  by_cases h3 : -(2 ^ m) ≤ n
  ·
   have HD : Aside0 (decide (-(2 ^ m) ≤ n) = true) := ⟨decide_eq_true h3⟩
   go_enter Try.func70, Try.ntmps70
   go_wp2
   go_ret
   exact ⟨by rw [← HR.out, HM.out, HD.out, hb1]; rfl, Drawn0.refl _⟩
  ·
   have HD : Aside0 (decide (-(2 ^ m) ≤ n) = false) := ⟨decide_eq_false h3⟩
   go_enter Try.func70, Try.ntmps70
   go_wp2
   go_ret
   exact ⟨by rw [← HR.out, HM.out, HD.out, hb1]; rfl, Drawn0.refl _⟩


/-! ### word_Within: function 71 -/
def word_Within.f (a0 : Int) (a1 : Int) : Option (Bool) := if a1 ≥ 0 then (if a0 ≥ 0 then (if 0 ≤ (mn a1 40) then (some (decide (a0 < (wrap64 (2 ^ (mn a1 40).toNat))))) else (none)) else (some false)) else (some false)
set_option maxHeartbeats 8000000 in
set_option maxRecDepth 100000 in
theorem word_Within.calls (a0 : Int) (a1 : Int) (r : Bool) (w : World) (h : word_Within.f a0 a1 = some r) :
 Calls Try.prog 71 #[.int .i64 a0, .int .i64 a1] w fun e w' => e = .returned (.bool r) ∧ Below w.heap.size w w' := by
 have HB := mK (Below.refl w.heap.size w)
 have H : (if a1 ≥ 0 then (if a0 ≥ 0 then (if 0 ≤ (mn a1 40) then (some (decide (a0 < (wrap64 (2 ^ (mn a1 40).toNat))))) else (none)) else (some false)) else (some false)) = some r := h
 clear h
 by_cases c3 : a1 ≥ 0
 ·
  rw [if_pos c3] at H
  have c3b0 : decide (0 ≤ a1) = true := decide_eq_true c3
  clear c3
  by_cases c4 : a0 ≥ 0
  ·
   rw [if_pos c4] at H
   have c4b0 : decide (0 ≤ a0) = true := decide_eq_true c4
   clear c4
   obtain ⟨ji5, hji5⟩ : ∃ j_ : Int, (mn a1 40) = j_ := ⟨_, rfl⟩
   replace H : (if 0 ≤ (ji5) then (some (decide (a0 < (wrap64 (2 ^ (ji5).toNat))))) else (none)) = some r := by first | (rw [hji5] at H; exact H) | (simp only [hji5] at H ⊢; exact H)
   (try (have hji5h : ji5 ≤ 40 := by (rw [← hji5]; unfold mn; (repeat' split) <;> omega)))
   (try (have hji5g : ji5 ≤ 64 := by omega))
   have hji5_ : (if 40 < a1 then 40 else a1) = ji5 := hji5
   by_cases c6 : 0 ≤ (ji5)
   ·
    rw [if_pos c6] at H
    have c6b0 := eq_true c6
    have c6b1 : decide (0 ≤ (ji5)) = true := decide_eq_true c6
    clear c6
    obtain rfl := Option.some.inj H
    go_enter Try.func71, Try.ntmps71
    go_wp2
    go_ret
    exact ⟨by first | rfl | (simp [errW_none, errW_some] <;> rfl) | (simp only [← hji5]; first | rfl | (simp [errW_none, errW_some] <;> rfl)) | (simp [*, errW_none, errW_some] <;> rfl), by repeat (first | (with_reducible first | exact HB.out | apply bA | apply bN | apply bD) | exact HB.out)⟩
   ·
    rw [if_neg c6] at H
    exact absurd H (by simp)
  ·
   rw [if_neg c4] at H
   have c4b0 : decide (0 ≤ a0) = false := decide_eq_false c4
   clear c4
   obtain rfl := Option.some.inj H
   go_enter Try.func71, Try.ntmps71
   go_wp2
   go_ret
   exact ⟨by first | rfl | (simp [errW_none, errW_some] <;> rfl) | (simp [*, errW_none, errW_some] <;> rfl), by repeat (first | (with_reducible first | exact HB.out | apply bA | apply bN | apply bD) | exact HB.out)⟩
 ·
  rw [if_neg c3] at H
  have c3b0 : decide (0 ≤ a1) = false := decide_eq_false c3
  clear c3
  obtain rfl := Option.some.inj H
  go_enter Try.func71, Try.ntmps71
  go_wp2
  go_ret
  exact ⟨by first | rfl | (simp [errW_none, errW_some] <;> rfl) | (simp [*, errW_none, errW_some] <;> rfl), by repeat (first | (with_reducible first | exact HB.out | apply bA | apply bN | apply bD) | exact HB.out)⟩


/-! ### instr_imm: function 68 -/
mutual
def instr_imm.j0 : Nat → Int → Bool → Int → Int → Int → Int → Int → Option (Bool)
 | 0, _, _, _, _, _, _, _ => none
 | k + 1, x5, x6, x173000, x173001, x173002, x173003, x173004 => if x6 = true then ((word_Fits.f x173004 16).bind fun t173 => (some t173)) else (if x5 = 2 then (instr_imm.j1 k x5 (x5 == 2) x173000 x173001 x173002 x173003 x173004) else (if x5 = 4 then (instr_imm.j1 k x5 (x5 == 4) x173000 x173001 x173002 x173003 x173004) else (instr_imm.j1 k x5 (x5 == 8) x173000 x173001 x173002 x173003 x173004)))
def instr_imm.j1 : Nat → Int → Bool → Int → Int → Int → Int → Int → Option (Bool)
 | 0, _, _, _, _, _, _, _ => none
 | k + 1, x5, x12, x173000, x173001, x173002, x173003, x173004 => if x12 = true then ((word_Within.f x173004 16).bind fun t174 => (some t174)) else (if x5 = 7 then ((word_Fits.f x173004 24).bind fun t175 => (some t175)) else (some (x173004 == 0)))
end
def instr_imm.f (k : Nat) (a0_0 : Int) (a0_1 : Int) (a0_2 : Int) (a0_3 : Int) (a0_4 : Int) (a1 : Int) : Option (Bool) := if a1 = 1 then (instr_imm.j0 k a1 (a1 == 1) a0_0 a0_1 a0_2 a0_3 a0_4) else (instr_imm.j0 k a1 (a1 == 3) a0_0 a0_1 a0_2 a0_3 a0_4)
theorem instr_imm.mono_l : ∀ k, (∀ y0 y1 y2 y3 y4 y5 y6, LeO (instr_imm.j0 k y0 y1 y2 y3 y4 y5 y6) (instr_imm.j0 (k + 1) y0 y1 y2 y3 y4 y5 y6)) ∧ (∀ y0 y1 y2 y3 y4 y5 y6, LeO (instr_imm.j1 k y0 y1 y2 y3 y4 y5 y6) (instr_imm.j1 (k + 1) y0 y1 y2 y3 y4 y5 y6))
 | 0 => ⟨fun _ _ _ _ _ _ _ r h => by simp [instr_imm.j0] at h, fun _ _ _ _ _ _ _ r h => by simp [instr_imm.j1] at h⟩
 | k + 1 => by
  obtain ⟨ih0, ih1⟩ := instr_imm.mono_l k
  refine ⟨?_, ?_⟩
  ·
   intro y0 y1 y2 y3 y4 y5 y6
   unfold instr_imm.j0
   repeat' first
   | (with_reducible exact ih0 _ _ _ _ _ _ _)
   | (with_reducible exact ih1 _ _ _ _ _ _ _)
   | (with_reducible exact LeO.refl _)
   | (with_reducible exact LeO.none _)
   | (with_reducible refine LeO.ite ?_ ?_)
   | (with_reducible refine LeO.bind ?_ (fun _ => ?_))
   | exact LeO.none _
   | refine LeO.ite ?_ ?_
   | refine LeO.bind ?_ (fun _ => ?_)
  ·
   intro y0 y1 y2 y3 y4 y5 y6
   unfold instr_imm.j1
   repeat' first
   | (with_reducible exact ih0 _ _ _ _ _ _ _)
   | (with_reducible exact ih1 _ _ _ _ _ _ _)
   | (with_reducible exact LeO.refl _)
   | (with_reducible exact LeO.none _)
   | (with_reducible refine LeO.ite ?_ ?_)
   | (with_reducible refine LeO.bind ?_ (fun _ => ?_))
   | exact LeO.none _
   | refine LeO.ite ?_ ?_
   | refine LeO.bind ?_ (fun _ => ?_)
theorem instr_imm.mono : ∀ a0 a1 a2 a3 a4 a5 k, LeO (instr_imm.f k a0 a1 a2 a3 a4 a5) (instr_imm.f (k + 1) a0 a1 a2 a3 a4 a5) := by
 intro a0 a1 a2 a3 a4 a5 k
 obtain ⟨ih0, ih1⟩ := instr_imm.mono_l k
 unfold instr_imm.f
 repeat' first
  | (with_reducible exact ih0 _ _ _ _ _ _ _)
  | (with_reducible exact ih1 _ _ _ _ _ _ _)
  | (with_reducible exact LeO.refl _)
  | (with_reducible exact LeO.none _)
  | (with_reducible refine LeO.ite ?_ ?_)
  | (with_reducible refine LeO.bind ?_ (fun _ => ?_))
  | exact LeO.none _
  | refine LeO.ite ?_ ?_
  | refine LeO.bind ?_ (fun _ => ?_)
set_option maxHeartbeats 8000000 in
set_option maxRecDepth 100000 in
theorem instr_imm.calls (k : Nat) (a0_0 : Int) (a0_1 : Int) (a0_2 : Int) (a0_3 : Int) (a0_4 : Int) (a1 : Int) (r : Bool) (w : World) (h : instr_imm.f k a0_0 a0_1 a0_2 a0_3 a0_4 a1 = some r) :
 Calls Try.prog 68 #[.agg #[.int .i64 a0_0, .int .i64 a0_1, .int .i64 a0_2, .int .i64 a0_3, .int .i64 a0_4], .int .i64 a1] w fun e w' => e = .returned (.bool r) ∧ Below w.heap.size w w' := by
 have hu120 := Try.underlying120
 have HB := mK (Below.refl w.heap.size w)
 have H : (if a1 = 1 then (instr_imm.j0 k a1 (a1 == 1) a0_0 a0_1 a0_2 a0_3 a0_4) else (instr_imm.j0 k a1 (a1 == 3) a0_0 a0_1 a0_2 a0_3 a0_4)) = some r := h
 clear h
 have HC3 := mK H
 clear H
 go_enter Try.func68, Try.ntmps68
 go_upto_if 6 with (first | ((with_reducible refine gate_dst (N := 2) rfl ?_); refine box_event ?hg (N := 2) ?hd (cs := #[.int .i64 a0_0, .int .i64 a0_1, .int .i64 a0_2, .int .i64 a0_3, .int .i64 a0_4]) (t := 120) ?hr ?_; (case hd => rfl); (case hg => rfl); (case hr => first | (go_simp; done) | (go_simp; rfl)); intro gb172 hg w4 hbox hb; have n0_ := mK (bP (by repeat (first | (with_reducible first | exact HB.out | apply bA | apply bN | apply bD) | exact HB.out)) hb); have n1_ := mK (hbox); have n2_ := mK ((by rw [hg]; exact (bZ (by repeat (first | (with_reducible first | exact HB.out | apply bA | apply bN | apply bD) | exact HB.out))) : w.heap.size ≤ gb172)); have n3_ := mK ((by rw [hg]; exact (bZ (by repeat (first | (with_reducible first | exact HB.out | apply bA | apply bN | apply bD) | exact HB.out))) : w.heap.size ≤ gb172)); clear HB; have HB := n0_; have BK172 := n1_; have GW172 := n2_; have GE172 := n3_; clear n0_ n1_ n2_ n3_; clear hb hbox hg))
 (try simp only [Act.put, List.setIfInBounds_toArray, List.set_cons_zero, List.set_cons_succ])
 go_cut [6] (fun v6 wc => ∃ (kq : Nat) (x6_2 : Bool), v6 = .bool x6_2 ∧ Aside0 (instr_imm.j0 kq a1 x6_2 a0_0 a0_1 a0_2 a0_3 a0_4 = some r) ∧ Aside0 (kq ≤ k) ∧ Aside0 (wc.heap[gb172]? = some (o5 a0_0 a0_1 a0_2 a0_3 a0_4 120)) ∧ Aside0 (Below w.heap.size w wc))
 case first =>
  have H := HC3.out
  clear HC3
  by_cases c5 : a1 = 1
  ·
   rw [if_pos c5] at H
   have c5b0 : (a1 == 1) = true := beq_iff_eq.mpr c5
   have c5b1 : (a1 != 1) = false := bR c5
   clear c5
   (first | rw [c5b0] | (simp only [i64_w, i32_w]; rw [c5b0]) | skip)
   have H' := mK H
   clear H
   go_wp2
   go_meet
   case rel => exact ⟨_, ((a1 == 1)), (by first | rfl | (simp; done) | (simp [*]; done)), H', ⟨by first | omega | exact Nat.le_refl _⟩, ⟨by (with_reducible repeat (first | refine kN ?_ _ | refine kD ?_ | refine kA ?_ _)); exact BK172.out⟩, ⟨by repeat (first | (with_reducible first | exact HB.out | apply bA | apply bN | apply bD | refine bS ?_ GE172.out) | exact HB.out)⟩⟩
  ·
   rw [if_neg c5] at H
   have c5b0 : (a1 == 1) = false := bQ c5
   have c5b1 : (a1 != 1) = true := bne_iff_ne.mpr c5
   (first | rw [c5b0] | (simp only [i64_w, i32_w]; rw [c5b0]) | skip)
   have H' := mK H
   clear H
   go_wp2
   go_meet
   case rel => exact ⟨_, ((a1 == 3)), (by first | rfl | (simp; done) | (simp [*]; done)), H', ⟨by first | omega | exact Nat.le_refl _⟩, ⟨by (with_reducible repeat (first | refine kN ?_ _ | refine kD ?_ | refine kA ?_ _)); exact BK172.out⟩, ⟨by repeat (first | (with_reducible first | exact HB.out | apply bA | apply bN | apply bD | refine bS ?_ GE172.out) | exact HB.out)⟩⟩
 case rest =>
  clear HC3
  obtain ⟨kq, x6_2, rfl, HA, HJ2, BK172, HB⟩ := hcut
  cases kq with
  | zero => exact absurd HA.out (by simp [instr_imm.j0])
  | succ kj2 =>
   have H := HA.out
   clear HA
   simp only [instr_imm.j0] at H
   by_cases c6 : x6_2 = true
   ·
    subst c6
    have H1 : ((word_Fits.f a0_4 16).bind fun t173 => (some t173)) = some r := by rw [if_pos rfl] at H; exact H
    clear H
    have H := H1
    clear H1
    replace H := oB H
    obtain ⟨t173, A70, H⟩ := H
    replace H : (some t173) = some r := H
    have A7 := mK A70
    clear A70
    obtain rfl := Option.some.inj H
    obtain ⟨hcz8_0, hcz8_1, hcz8_2, hcz8_3, hcz8_4, hfz8_0, hfz8_1, hfz8_2, hfz8_3, hfz8_4⟩ := cf5 BK172.out
    go_wp2_with (first | ((with_reducible refine gate_callee (f := 70) rfl ?_); refine goesL_ (some 11) rfl rfl Try.func70 (by kernel_rfl) rfl #[.int .i64 a0_4, .int .i64 16] rfl (by (try simp only [List.map_toArray, List.map_cons, List.map_nil]); first | done | rfl) ?_; (with_reducible refine (word_Fits.calls a0_4 16 t173 _ A7.out).mono ?_); rintro e w' ⟨rfl, ⟨nd, rfl⟩⟩; refine ⟨_, rfl, ?_⟩))
    go_ret
    exact ⟨by first | rfl | (simp [errW_none, errW_some] <;> rfl) | (simp [*, errW_none, errW_some] <;> rfl), by repeat (first | (with_reducible first | exact HB.out | apply bA | apply bN | apply bD | refine bS ?_ GE172.out) | exact HB.out)⟩
   ·
    replace c6 := Bool.eq_false_iff.mpr c6
    subst c6
    have H1 : (if a1 = 2 then (instr_imm.j1 kj2 a1 (a1 == 2) a0_0 a0_1 a0_2 a0_3 a0_4) else (if a1 = 4 then (instr_imm.j1 kj2 a1 (a1 == 4) a0_0 a0_1 a0_2 a0_3 a0_4) else (instr_imm.j1 kj2 a1 (a1 == 8) a0_0 a0_1 a0_2 a0_3 a0_4))) = some r := by rw [if_neg (show ¬ (false = true) by decide)] at H; exact H
    clear H
    have H := H1
    clear H1
    have HC9 := mK H
    clear H
    go_upto_if 12 with (fail)
    go_cut [12] (fun v12 wc => ∃ (kq : Nat) (x12_8 : Bool), v12 = .bool x12_8 ∧ Aside0 (instr_imm.j1 kq a1 x12_8 a0_0 a0_1 a0_2 a0_3 a0_4 = some r) ∧ Aside0 (kq ≤ kj2) ∧ Aside0 (wc.heap[gb172]? = some (o5 a0_0 a0_1 a0_2 a0_3 a0_4 120)) ∧ Aside0 (Below w.heap.size w wc))
    case first =>
     have H := HC9.out
     clear HC9
     by_cases c10 : a1 = 2
     ·
      rw [if_pos c10] at H
      have c10b0 : (a1 == 2) = true := beq_iff_eq.mpr c10
      have c10b1 : (a1 != 2) = false := bR c10
      clear c10
      (first | rw [c10b0] | (simp only [i64_w, i32_w]; rw [c10b0]) | skip)
      have H' := mK H
      clear H
      go_wp2
      go_meet
      case rel => exact ⟨_, ((a1 == 2)), (by first | rfl | (simp; done) | (simp [*]; done)), H', ⟨by have := HJ2.out; first | omega | exact Nat.le_refl _⟩, ⟨by (with_reducible repeat (first | refine kN ?_ _ | refine kD ?_ | refine kA ?_ _)); exact BK172.out⟩, ⟨by repeat (first | (with_reducible first | exact HB.out | apply bA | apply bN | apply bD | refine bS ?_ GE172.out) | exact HB.out)⟩⟩
     ·
      rw [if_neg c10] at H
      have c10b0 : (a1 == 2) = false := bQ c10
      have c10b1 : (a1 != 2) = true := bne_iff_ne.mpr c10
      (first | rw [c10b0] | (simp only [i64_w, i32_w]; rw [c10b0]) | skip)
      by_cases c11 : a1 = 4
      ·
       rw [if_pos c11] at H
       have c11b0 : (a1 == 4) = true := beq_iff_eq.mpr c11
       have c11b1 : (a1 != 4) = false := bR c11
       clear c11
       have H' := mK H
       clear H
       go_wp2
       go_meet
       case rel => exact ⟨_, ((a1 == 4)), (by first | rfl | (simp; done) | (simp [*]; done)), H', ⟨by have := HJ2.out; first | omega | exact Nat.le_refl _⟩, ⟨by (with_reducible repeat (first | refine kN ?_ _ | refine kD ?_ | refine kA ?_ _)); exact BK172.out⟩, ⟨by repeat (first | (with_reducible first | exact HB.out | apply bA | apply bN | apply bD | refine bS ?_ GE172.out) | exact HB.out)⟩⟩
      ·
       rw [if_neg c11] at H
       have c11b0 : (a1 == 4) = false := bQ c11
       have c11b1 : (a1 != 4) = true := bne_iff_ne.mpr c11
       have H' := mK H
       clear H
       go_wp2
       go_meet
       case rel => exact ⟨_, ((a1 == 8)), (by first | rfl | (simp; done) | (simp [*]; done)), H', ⟨by have := HJ2.out; first | omega | exact Nat.le_refl _⟩, ⟨by (with_reducible repeat (first | refine kN ?_ _ | refine kD ?_ | refine kA ?_ _)); exact BK172.out⟩, ⟨by repeat (first | (with_reducible first | exact HB.out | apply bA | apply bN | apply bD | refine bS ?_ GE172.out) | exact HB.out)⟩⟩
    case rest =>
     clear HC9
     (try clear c6)
     obtain ⟨kq, x12_8, rfl, HA, HJ8, BK172, HB⟩ := hcut
     cases kq with
     | zero => exact absurd HA.out (by simp [instr_imm.j1])
     | succ kj8 =>
      have H := HA.out
      clear HA
      simp only [instr_imm.j1] at H
      by_cases c12 : x12_8 = true
      ·
       subst c12
       have H1 : ((word_Within.f a0_4 16).bind fun t174 => (some t174)) = some r := by rw [if_pos rfl] at H; exact H
       clear H
       have H := H1
       clear H1
       replace H := oB H
       obtain ⟨t174, A130, H⟩ := H
       replace H : (some t174) = some r := H
       have A13 := mK A130
       clear A130
       obtain rfl := Option.some.inj H
       obtain ⟨hcz14_0, hcz14_1, hcz14_2, hcz14_3, hcz14_4, hfz14_0, hfz14_1, hfz14_2, hfz14_3, hfz14_4⟩ := cf5 BK172.out
       go_wp2_with (first | ((with_reducible refine gate_callee (f := 71) rfl ?_); refine goesL_ (some 18) rfl rfl Try.func71 (by kernel_rfl) rfl #[.int .i64 a0_4, .int .i64 16] rfl (by (try simp only [List.map_toArray, List.map_cons, List.map_nil]); first | done | rfl) ?_; (with_reducible refine (word_Within.calls a0_4 16 t174 _ A13.out).mono ?_); rintro e w15 ⟨rfl, hb⟩; refine ⟨_, rfl, ?_⟩; have n0_ := mK (kB (g := gb172) (o := o5 a0_0 a0_1 a0_2 a0_3 a0_4 120) (by (with_reducible repeat (first | refine kN ?_ _ | refine kD ?_ | refine kA ?_ _)); exact BK172.out) hb); have n1_ := mK (bP (by repeat (first | (with_reducible first | exact HB.out | apply bA | apply bN | apply bD | refine bS ?_ GE172.out) | exact HB.out)) hb); clear BK172; clear HB; have BK172 := n0_; have HB := n1_; clear n0_ n1_; (try clear hb)))
       go_ret
       exact ⟨by first | rfl | (simp [errW_none, errW_some] <;> rfl) | (simp [*, errW_none, errW_some] <;> rfl), by repeat (first | (with_reducible first | exact HB.out | apply bA | apply bN | apply bD | refine bS ?_ GE172.out) | exact HB.out)⟩
      ·
       replace c12 := Bool.eq_false_iff.mpr c12
       subst c12
       have H1 : (if a1 = 7 then ((word_Fits.f a0_4 24).bind fun t175 => (some t175)) else (some (a0_4 == 0))) = some r := by rw [if_neg (show ¬ (false = true) by decide)] at H; exact H
       clear H
       have H := H1
       clear H1
       by_cases c16 : a1 = 7
       ·
        rw [if_pos c16] at H
        have c16b0 : (a1 == 7) = true := beq_iff_eq.mpr c16
        have c16b1 : (a1 != 7) = false := bR c16
        clear c16
        replace H := oB H
        obtain ⟨t175, A170, H⟩ := H
        replace H : (some t175) = some r := H
        have A17 := mK A170
        clear A170
        obtain rfl := Option.some.inj H
        obtain ⟨hcz18_0, hcz18_1, hcz18_2, hcz18_3, hcz18_4, hfz18_0, hfz18_1, hfz18_2, hfz18_3, hfz18_4⟩ := cf5 BK172.out
        go_wp2_with (first | ((with_reducible refine gate_callee (f := 70) rfl ?_); refine goesL_ (some 23) rfl rfl Try.func70 (by kernel_rfl) rfl #[.int .i64 a0_4, .int .i64 24] rfl (by (try simp only [List.map_toArray, List.map_cons, List.map_nil]); first | done | rfl) ?_; (with_reducible refine (word_Fits.calls a0_4 24 t175 _ A17.out).mono ?_); rintro e w' ⟨rfl, ⟨nd, rfl⟩⟩; refine ⟨_, rfl, ?_⟩))
        go_ret
        exact ⟨by first | rfl | (simp [errW_none, errW_some] <;> rfl) | (simp [*, errW_none, errW_some] <;> rfl), by repeat (first | (with_reducible first | exact HB.out | apply bA | apply bN | apply bD | refine bS ?_ GE172.out) | exact HB.out)⟩
       ·
        rw [if_neg c16] at H
        have c16b0 : (a1 == 7) = false := bQ c16
        have c16b1 : (a1 != 7) = true := bne_iff_ne.mpr c16
        obtain rfl := Option.some.inj H
        obtain ⟨hcz19_0, hcz19_1, hcz19_2, hcz19_3, hcz19_4, hfz19_0, hfz19_1, hfz19_2, hfz19_3, hfz19_4⟩ := cf5 BK172.out
        go_wp2
        go_ret
        exact ⟨by first | rfl | (simp [errW_none, errW_some] <;> rfl) | (simp [*, errW_none, errW_some] <;> rfl), by repeat (first | (with_reducible first | exact HB.out | apply bA | apply bN | apply bD | refine bS ?_ GE172.out) | exact HB.out)⟩


/-! ### instr_Check: function 64 -/
mutual
def instr_Check.j0 : Nat → Int → Bool → Int → Int → Int → Int → Int → Option (Int)
 | 0, _, _, _, _, _, _, _ => none
 | k + 1, x3, x31, x177000, x177001, x177002, x177003, x177004 => if x31 = true then (some 20) else (if x3 = 0 then (instr_Check.j1 k (x177003 == 0) x3 (x3 == 0) x177000 x177001 x177002 x177003 x177004) else (if x3 = 7 then (instr_Check.j1 k (x177003 == 0) x3 (x3 == 7) x177000 x177001 x177002 x177003 x177004) else (instr_Check.j1 k (x177003 == 0) x3 (x3 == 8) x177000 x177001 x177002 x177003 x177004)))
def instr_Check.j1 : Nat → Bool → Int → Bool → Int → Int → Int → Int → Int → Option (Int)
 | 0, _, _, _, _, _, _, _, _ => none
 | k + 1, x4, x35, x36, x177000, x177001, x177002, x177003, x177004 => if x36 = true then (if x4 = true then (if x177001 = 0 then (if x177002 = 0 then (some 0) else (some 20)) else (some 20)) else (some 20)) else (if x35 = 1 then (instr_Check.j2 k x4 x35 (x35 == 1) x177000 x177001 x177002 x177003 x177004) else (if x35 = 2 then (instr_Check.j2 k x4 x35 (x35 == 2) x177000 x177001 x177002 x177003 x177004) else (instr_Check.j2 k x4 x35 (x35 == 6) x177000 x177001 x177002 x177003 x177004)))
def instr_Check.j2 : Nat → Bool → Int → Bool → Int → Int → Int → Int → Int → Option (Int)
 | 0, _, _, _, _, _, _, _, _ => none
 | k + 1, x4, x35, x51, x177000, x177001, x177002, x177003, x177004 => if x51 = true then (if x4 = true then (if x177002 = 0 then (some 0) else (some 20)) else (some 20)) else (if x35 = 5 then (some 0) else (if x4 = true then (some 0) else (some 20)))
end
def instr_Check.f (k : Nat) (a0_0 : Int) (a0_1 : Int) (a0_2 : Int) (a0_3 : Int) (a0_4 : Int) : Option (Int) := (instr_Shape.f k a0_0).bind fun t177 => (if t177 < 0 then (some 21) else ((instr_reg.f a0_1).bind fun t178 => (if t178 = true then ((instr_reg.f a0_2).bind fun t179 => (if t179 = true then ((instr_reg.f a0_3).bind fun t180 => (if t180 = true then ((instr_imm.f k a0_0 a0_1 a0_2 a0_3 a0_4 t177).bind fun t181 => (instr_Check.j0 k t177 (!t181) a0_0 a0_1 a0_2 a0_3 a0_4)) else (instr_Check.j0 k t177 true a0_0 a0_1 a0_2 a0_3 a0_4))) else (instr_Check.j0 k t177 true a0_0 a0_1 a0_2 a0_3 a0_4))) else (instr_Check.j0 k t177 true a0_0 a0_1 a0_2 a0_3 a0_4))))
theorem instr_Check.mono_l : ∀ k, (∀ y0 y1 y2 y3 y4 y5 y6, LeO (instr_Check.j0 k y0 y1 y2 y3 y4 y5 y6) (instr_Check.j0 (k + 1) y0 y1 y2 y3 y4 y5 y6)) ∧ (∀ y0 y1 y2 y3 y4 y5 y6 y7, LeO (instr_Check.j1 k y0 y1 y2 y3 y4 y5 y6 y7) (instr_Check.j1 (k + 1) y0 y1 y2 y3 y4 y5 y6 y7)) ∧ (∀ y0 y1 y2 y3 y4 y5 y6 y7, LeO (instr_Check.j2 k y0 y1 y2 y3 y4 y5 y6 y7) (instr_Check.j2 (k + 1) y0 y1 y2 y3 y4 y5 y6 y7))
 | 0 => ⟨fun _ _ _ _ _ _ _ r h => by simp [instr_Check.j0] at h, fun _ _ _ _ _ _ _ _ r h => by simp [instr_Check.j1] at h, fun _ _ _ _ _ _ _ _ r h => by simp [instr_Check.j2] at h⟩
 | k + 1 => by
  obtain ⟨ih0, ih1, ih2⟩ := instr_Check.mono_l k
  refine ⟨?_, ?_, ?_⟩
  ·
   intro y0 y1 y2 y3 y4 y5 y6
   unfold instr_Check.j0
   repeat' first
   | (with_reducible exact ih0 _ _ _ _ _ _ _)
   | (with_reducible exact ih1 _ _ _ _ _ _ _ _)
   | (with_reducible exact ih2 _ _ _ _ _ _ _ _)
   | (with_reducible exact instr_Shape.mono _ _)
   | (with_reducible exact instr_imm.mono _ _ _ _ _ _ _)
   | (with_reducible exact LeO.refl _)
   | (with_reducible exact LeO.none _)
   | (with_reducible refine LeO.ite ?_ ?_)
   | (with_reducible refine LeO.bind ?_ (fun _ => ?_))
   | exact LeO.none _
   | refine LeO.ite ?_ ?_
   | refine LeO.bind ?_ (fun _ => ?_)
  ·
   intro y0 y1 y2 y3 y4 y5 y6 y7
   unfold instr_Check.j1
   repeat' first
   | (with_reducible exact ih0 _ _ _ _ _ _ _)
   | (with_reducible exact ih1 _ _ _ _ _ _ _ _)
   | (with_reducible exact ih2 _ _ _ _ _ _ _ _)
   | (with_reducible exact instr_Shape.mono _ _)
   | (with_reducible exact instr_imm.mono _ _ _ _ _ _ _)
   | (with_reducible exact LeO.refl _)
   | (with_reducible exact LeO.none _)
   | (with_reducible refine LeO.ite ?_ ?_)
   | (with_reducible refine LeO.bind ?_ (fun _ => ?_))
   | exact LeO.none _
   | refine LeO.ite ?_ ?_
   | refine LeO.bind ?_ (fun _ => ?_)
  ·
   intro y0 y1 y2 y3 y4 y5 y6 y7
   unfold instr_Check.j2
   repeat' first
   | (with_reducible exact ih0 _ _ _ _ _ _ _)
   | (with_reducible exact ih1 _ _ _ _ _ _ _ _)
   | (with_reducible exact ih2 _ _ _ _ _ _ _ _)
   | (with_reducible exact instr_Shape.mono _ _)
   | (with_reducible exact instr_imm.mono _ _ _ _ _ _ _)
   | (with_reducible exact LeO.refl _)
   | (with_reducible exact LeO.none _)
   | (with_reducible refine LeO.ite ?_ ?_)
   | (with_reducible refine LeO.bind ?_ (fun _ => ?_))
   | exact LeO.none _
   | refine LeO.ite ?_ ?_
   | refine LeO.bind ?_ (fun _ => ?_)
theorem instr_Check.mono : ∀ a0 a1 a2 a3 a4 k, LeO (instr_Check.f k a0 a1 a2 a3 a4) (instr_Check.f (k + 1) a0 a1 a2 a3 a4) := by
 intro a0 a1 a2 a3 a4 k
 obtain ⟨ih0, ih1, ih2⟩ := instr_Check.mono_l k
 unfold instr_Check.f
 repeat' first
  | (with_reducible exact ih0 _ _ _ _ _ _ _)
  | (with_reducible exact ih1 _ _ _ _ _ _ _ _)
  | (with_reducible exact ih2 _ _ _ _ _ _ _ _)
  | (with_reducible exact instr_Shape.mono _ _)
  | (with_reducible exact instr_imm.mono _ _ _ _ _ _ _)
  | (with_reducible exact LeO.refl _)
  | (with_reducible exact LeO.none _)
  | (with_reducible refine LeO.ite ?_ ?_)
  | (with_reducible refine LeO.bind ?_ (fun _ => ?_))
  | exact LeO.none _
  | refine LeO.ite ?_ ?_
  | refine LeO.bind ?_ (fun _ => ?_)
set_option maxHeartbeats 8000000 in
set_option maxRecDepth 100000 in
theorem instr_Check.calls (k : Nat) (a0_0 : Int) (a0_1 : Int) (a0_2 : Int) (a0_3 : Int) (a0_4 : Int) (r : Int) (w : World) (h : instr_Check.f k a0_0 a0_1 a0_2 a0_3 a0_4 = some r) :
 Calls Try.prog 64 #[.agg #[.int .i64 a0_0, .int .i64 a0_1, .int .i64 a0_2, .int .i64 a0_3, .int .i64 a0_4]] w fun e w' => e = .returned (.int .i64 r) ∧ Below w.heap.size w w' := by
 have hu120 := Try.underlying120
 have HB := mK (Below.refl w.heap.size w)
 have H : ((instr_Shape.f k a0_0).bind fun t177 => (if t177 < 0 then (some 21) else ((instr_reg.f a0_1).bind fun t178 => (if t178 = true then ((instr_reg.f a0_2).bind fun t179 => (if t179 = true then ((instr_reg.f a0_3).bind fun t180 => (if t180 = true then ((instr_imm.f k a0_0 a0_1 a0_2 a0_3 a0_4 t177).bind fun t181 => (instr_Check.j0 k t177 (!t181) a0_0 a0_1 a0_2 a0_3 a0_4)) else (instr_Check.j0 k t177 true a0_0 a0_1 a0_2 a0_3 a0_4))) else (instr_Check.j0 k t177 true a0_0 a0_1 a0_2 a0_3 a0_4))) else (instr_Check.j0 k t177 true a0_0 a0_1 a0_2 a0_3 a0_4))))) = some r := h
 clear h
 replace H := oB H
 obtain ⟨t177, A20, H⟩ := H
 replace H : (if t177 < 0 then (some 21) else ((instr_reg.f a0_1).bind fun t178 => (if t178 = true then ((instr_reg.f a0_2).bind fun t179 => (if t179 = true then ((instr_reg.f a0_3).bind fun t180 => (if t180 = true then ((instr_imm.f k a0_0 a0_1 a0_2 a0_3 a0_4 t177).bind fun t181 => (instr_Check.j0 k t177 (!t181) a0_0 a0_1 a0_2 a0_3 a0_4)) else (instr_Check.j0 k t177 true a0_0 a0_1 a0_2 a0_3 a0_4))) else (instr_Check.j0 k t177 true a0_0 a0_1 a0_2 a0_3 a0_4))) else (instr_Check.j0 k t177 true a0_0 a0_1 a0_2 a0_3 a0_4)))) = some r := H
 have A2 := mK A20
 clear A20
 by_cases c3 : t177 < 0
 ·
  rw [if_pos c3] at H
  have c3b0 : decide (t177 < 0) = true := decide_eq_true c3
  clear c3
  obtain rfl := Option.some.inj H
  go_enter Try.func64, Try.ntmps64
  go_wp2_with (first | ((with_reducible refine gate_dst (N := 1) rfl ?_); refine box_event ?hg (N := 1) ?hd (cs := #[.int .i64 a0_0, .int .i64 a0_1, .int .i64 a0_2, .int .i64 a0_3, .int .i64 a0_4]) (t := 120) ?hr ?_; (case hd => rfl); (case hg => rfl); (case hr => first | (go_simp; done) | (go_simp; rfl)); intro gb176 hg w4 hbox hb; have n0_ := mK (bP (by repeat (first | (with_reducible first | exact HB.out | apply bA | apply bN | apply bD) | exact HB.out)) hb); have n1_ := mK (hbox); have n2_ := mK ((by rw [hg]; exact (bZ (by repeat (first | (with_reducible first | exact HB.out | apply bA | apply bN | apply bD) | exact HB.out))) : w.heap.size ≤ gb176)); have n3_ := mK ((by rw [hg]; exact (bZ (by repeat (first | (with_reducible first | exact HB.out | apply bA | apply bN | apply bD) | exact HB.out))) : w.heap.size ≤ gb176)); clear HB; have HB := n0_; have BK176 := n1_; have GW176 := n2_; have GE176 := n3_; clear n0_ n1_ n2_ n3_; clear hb hbox hg; obtain ⟨hcz5_0, hcz5_1, hcz5_2, hcz5_3, hcz5_4, hfz5_0, hfz5_1, hfz5_2, hfz5_3, hfz5_4⟩ := cf5 BK176.out) | ((with_reducible refine gate_callee (f := 61) rfl ?_); refine goesL_ (some 7) rfl rfl Try.func61 (by kernel_rfl) rfl #[.int .i64 a0_0] rfl (by (try simp only [List.map_toArray, List.map_cons, List.map_nil]); first | done | rfl) ?_; (with_reducible refine (instr_Shape.calls k a0_0 t177 _ A2.out).mono ?_); rintro e w' ⟨rfl, ⟨nd, rfl⟩⟩; refine ⟨_, rfl, ?_⟩))
  go_ret
  exact ⟨by first | rfl | (simp [errW_none, errW_some] <;> rfl) | (simp [*, errW_none, errW_some] <;> rfl), by repeat (first | (with_reducible first | exact HB.out | apply bA | apply bN | apply bD | refine bS ?_ GE176.out) | exact HB.out)⟩
 ·
  rw [if_neg c3] at H
  have c3b0 : decide (t177 < 0) = false := decide_eq_false c3
  clear c3
  have HC6 := mK H
  clear H
  go_enter Try.func64, Try.ntmps64
  go_upto_region 4 with (first | ((with_reducible refine gate_dst (N := 1) rfl ?_); refine box_event ?hg (N := 1) ?hd (cs := #[.int .i64 a0_0, .int .i64 a0_1, .int .i64 a0_2, .int .i64 a0_3, .int .i64 a0_4]) (t := 120) ?hr ?_; (case hd => rfl); (case hg => rfl); (case hr => first | (go_simp; done) | (go_simp; rfl)); intro gb176 hg w7 hbox hb; have n0_ := mK (bP (by repeat (first | (with_reducible first | exact HB.out | apply bA | apply bN | apply bD) | exact HB.out)) hb); have n1_ := mK (hbox); have n2_ := mK ((by rw [hg]; exact (bZ (by repeat (first | (with_reducible first | exact HB.out | apply bA | apply bN | apply bD) | exact HB.out))) : w.heap.size ≤ gb176)); have n3_ := mK ((by rw [hg]; exact (bZ (by repeat (first | (with_reducible first | exact HB.out | apply bA | apply bN | apply bD) | exact HB.out))) : w.heap.size ≤ gb176)); clear HB; have HB := n0_; have BK176 := n1_; have GW176 := n2_; have GE176 := n3_; clear n0_ n1_ n2_ n3_; clear hb hbox hg; obtain ⟨hcz8_0, hcz8_1, hcz8_2, hcz8_3, hcz8_4, hfz8_0, hfz8_1, hfz8_2, hfz8_3, hfz8_4⟩ := cf5 BK176.out) | ((with_reducible refine gate_callee (f := 61) rfl ?_); refine goesL_ (some 7) rfl rfl Try.func61 (by kernel_rfl) rfl #[.int .i64 a0_0] rfl (by (try simp only [List.map_toArray, List.map_cons, List.map_nil]); first | done | rfl) ?_; (with_reducible refine (instr_Shape.calls k a0_0 t177 _ A2.out).mono ?_); rintro e w' ⟨rfl, ⟨nd, rfl⟩⟩; refine ⟨_, rfl, ?_⟩))
  (try simp only [Act.put, List.setIfInBounds_toArray, List.set_cons_zero, List.set_cons_succ])
  go_cut [31] (fun v31 wc => ∃ (kq : Nat) (x31_5 : Bool), v31 = .bool x31_5 ∧ Aside0 (instr_Check.j0 kq t177 x31_5 a0_0 a0_1 a0_2 a0_3 a0_4 = some r) ∧ Aside0 (kq ≤ k) ∧ Aside0 (wc.heap[gb176]? = some (o5 a0_0 a0_1 a0_2 a0_3 a0_4 120)) ∧ Aside0 (Below w.heap.size w wc))
  case first =>
   have H := HC6.out
   clear HC6
   replace H := oB H
   obtain ⟨t178, A90, H⟩ := H
   replace H : (if t178 = true then ((instr_reg.f a0_2).bind fun t179 => (if t179 = true then ((instr_reg.f a0_3).bind fun t180 => (if t180 = true then ((instr_imm.f k a0_0 a0_1 a0_2 a0_3 a0_4 t177).bind fun t181 => (instr_Check.j0 k t177 (!t181) a0_0 a0_1 a0_2 a0_3 a0_4)) else (instr_Check.j0 k t177 true a0_0 a0_1 a0_2 a0_3 a0_4))) else (instr_Check.j0 k t177 true a0_0 a0_1 a0_2 a0_3 a0_4))) else (instr_Check.j0 k t177 true a0_0 a0_1 a0_2 a0_3 a0_4)) = some r := H
   have A9 := mK A90
   clear A90
   by_cases c10 : t178 = true
   ·
    subst c10
    have H1 : ((instr_reg.f a0_2).bind fun t179 => (if t179 = true then ((instr_reg.f a0_3).bind fun t180 => (if t180 = true then ((instr_imm.f k a0_0 a0_1 a0_2 a0_3 a0_4 t177).bind fun t181 => (instr_Check.j0 k t177 (!t181) a0_0 a0_1 a0_2 a0_3 a0_4)) else (instr_Check.j0 k t177 true a0_0 a0_1 a0_2 a0_3 a0_4))) else (instr_Check.j0 k t177 true a0_0 a0_1 a0_2 a0_3 a0_4))) = some r := by rw [if_pos rfl] at H; exact H
    clear H
    have H := H1
    clear H1
    replace H := oB H
    obtain ⟨t179, A110, H⟩ := H
    replace H : (if t179 = true then ((instr_reg.f a0_3).bind fun t180 => (if t180 = true then ((instr_imm.f k a0_0 a0_1 a0_2 a0_3 a0_4 t177).bind fun t181 => (instr_Check.j0 k t177 (!t181) a0_0 a0_1 a0_2 a0_3 a0_4)) else (instr_Check.j0 k t177 true a0_0 a0_1 a0_2 a0_3 a0_4))) else (instr_Check.j0 k t177 true a0_0 a0_1 a0_2 a0_3 a0_4)) = some r := H
    have A11 := mK A110
    clear A110
    by_cases c12 : t179 = true
    ·
     subst c12
     have H1 : ((instr_reg.f a0_3).bind fun t180 => (if t180 = true then ((instr_imm.f k a0_0 a0_1 a0_2 a0_3 a0_4 t177).bind fun t181 => (instr_Check.j0 k t177 (!t181) a0_0 a0_1 a0_2 a0_3 a0_4)) else (instr_Check.j0 k t177 true a0_0 a0_1 a0_2 a0_3 a0_4))) = some r := by rw [if_pos rfl] at H; exact H
     clear H
     have H := H1
     clear H1
     replace H := oB H
     obtain ⟨t180, A130, H⟩ := H
     replace H : (if t180 = true then ((instr_imm.f k a0_0 a0_1 a0_2 a0_3 a0_4 t177).bind fun t181 => (instr_Check.j0 k t177 (!t181) a0_0 a0_1 a0_2 a0_3 a0_4)) else (instr_Check.j0 k t177 true a0_0 a0_1 a0_2 a0_3 a0_4)) = some r := H
     have A13 := mK A130
     clear A130
     by_cases c14 : t180 = true
     ·
      subst c14
      have H1 : ((instr_imm.f k a0_0 a0_1 a0_2 a0_3 a0_4 t177).bind fun t181 => (instr_Check.j0 k t177 (!t181) a0_0 a0_1 a0_2 a0_3 a0_4)) = some r := by rw [if_pos rfl] at H; exact H
      clear H
      have H := H1
      clear H1
      replace H := oB H
      obtain ⟨t181, A150, H⟩ := H
      replace H : (instr_Check.j0 k t177 (!t181) a0_0 a0_1 a0_2 a0_3 a0_4) = some r := H
      have A15 := mK A150
      clear A150
      have H' := mK H
      clear H
      obtain ⟨hcz16_0, hcz16_1, hcz16_2, hcz16_3, hcz16_4, hfz16_0, hfz16_1, hfz16_2, hfz16_3, hfz16_4⟩ := cf5 BK176.out
      go_wp2_with (first | ((with_reducible refine gate_callee (f := 67) rfl ?_); refine goesL_ (some 12) rfl rfl Try.func67 (by kernel_rfl) rfl #[.int .i64 a0_1] rfl (by (try simp only [List.map_toArray, List.map_cons, List.map_nil]); first | done | rfl) ?_; (with_reducible refine (instr_reg.calls a0_1 true _ A9.out).mono ?_); rintro e w' ⟨rfl, ⟨nd, rfl⟩⟩; refine ⟨_, rfl, ?_⟩) | (go_at_call 67; (with_reducible refine (instr_reg.calls a0_2 true _ A11.out).mono ?_); rintro e w' ⟨rfl, ⟨nd, rfl⟩⟩) | (go_at_call 67; (with_reducible refine (instr_reg.calls a0_3 true _ A13.out).mono ?_); rintro e w' ⟨rfl, ⟨nd, rfl⟩⟩) | (go_at_call 68; (with_reducible refine (instr_imm.calls k a0_0 a0_1 a0_2 a0_3 a0_4 t177 t181 _ A15.out).mono ?_); rintro e w17 ⟨rfl, hb⟩; have n0_ := mK (kB (g := gb176) (o := o5 a0_0 a0_1 a0_2 a0_3 a0_4 120) (by (with_reducible repeat (first | refine kN ?_ _ | refine kD ?_ | refine kA ?_ _)); exact BK176.out) hb); have n1_ := mK (bP (by repeat (first | (with_reducible first | exact HB.out | apply bA | apply bN | apply bD | refine bS ?_ GE176.out) | exact HB.out)) hb); clear BK176; clear HB; have BK176 := n0_; have HB := n1_; clear n0_ n1_; (try clear hb)))
      go_meet
      case rel => exact ⟨_, (!t181), (by first | rfl | (simp; done) | (simp [*]; done)), H', ⟨by first | omega | exact Nat.le_refl _⟩, ⟨by (with_reducible repeat (first | refine kN ?_ _ | refine kD ?_ | refine kA ?_ _)); exact BK176.out⟩, ⟨by repeat (first | (with_reducible first | exact HB.out | apply bA | apply bN | apply bD | refine bS ?_ GE176.out) | exact HB.out)⟩⟩
     ·
      replace c14 := Bool.eq_false_iff.mpr c14
      subst c14
      have H1 : (instr_Check.j0 k t177 true a0_0 a0_1 a0_2 a0_3 a0_4) = some r := by rw [if_neg (show ¬ (false = true) by decide)] at H; exact H
      clear H
      have H := H1
      clear H1
      have H' := mK H
      clear H
      obtain ⟨hcz18_0, hcz18_1, hcz18_2, hcz18_3, hcz18_4, hfz18_0, hfz18_1, hfz18_2, hfz18_3, hfz18_4⟩ := cf5 BK176.out
      go_wp2_with (first | ((with_reducible refine gate_callee (f := 67) rfl ?_); refine goesL_ (some 12) rfl rfl Try.func67 (by kernel_rfl) rfl #[.int .i64 a0_1] rfl (by (try simp only [List.map_toArray, List.map_cons, List.map_nil]); first | done | rfl) ?_; (with_reducible refine (instr_reg.calls a0_1 true _ A9.out).mono ?_); rintro e w' ⟨rfl, ⟨nd, rfl⟩⟩; refine ⟨_, rfl, ?_⟩) | (go_at_call 67; (with_reducible refine (instr_reg.calls a0_2 true _ A11.out).mono ?_); rintro e w' ⟨rfl, ⟨nd, rfl⟩⟩) | (go_at_call 67; (with_reducible refine (instr_reg.calls a0_3 false _ A13.out).mono ?_); rintro e w' ⟨rfl, ⟨nd, rfl⟩⟩))
      go_meet
      case rel => exact ⟨_, (true), (by first | rfl | (simp; done) | (simp [*]; done)), H', ⟨by first | omega | exact Nat.le_refl _⟩, ⟨by (with_reducible repeat (first | refine kN ?_ _ | refine kD ?_ | refine kA ?_ _)); exact BK176.out⟩, ⟨by repeat (first | (with_reducible first | exact HB.out | apply bA | apply bN | apply bD | refine bS ?_ GE176.out) | exact HB.out)⟩⟩
    ·
     replace c12 := Bool.eq_false_iff.mpr c12
     subst c12
     have H1 : (instr_Check.j0 k t177 true a0_0 a0_1 a0_2 a0_3 a0_4) = some r := by rw [if_neg (show ¬ (false = true) by decide)] at H; exact H
     clear H
     have H := H1
     clear H1
     have H' := mK H
     clear H
     obtain ⟨hcz19_0, hcz19_1, hcz19_2, hcz19_3, hcz19_4, hfz19_0, hfz19_1, hfz19_2, hfz19_3, hfz19_4⟩ := cf5 BK176.out
     go_wp2_with (first | ((with_reducible refine gate_callee (f := 67) rfl ?_); refine goesL_ (some 12) rfl rfl Try.func67 (by kernel_rfl) rfl #[.int .i64 a0_1] rfl (by (try simp only [List.map_toArray, List.map_cons, List.map_nil]); first | done | rfl) ?_; (with_reducible refine (instr_reg.calls a0_1 true _ A9.out).mono ?_); rintro e w' ⟨rfl, ⟨nd, rfl⟩⟩; refine ⟨_, rfl, ?_⟩) | (go_at_call 67; (with_reducible refine (instr_reg.calls a0_2 false _ A11.out).mono ?_); rintro e w' ⟨rfl, ⟨nd, rfl⟩⟩))
     go_meet
     case rel => exact ⟨_, (true), (by first | rfl | (simp; done) | (simp [*]; done)), H', ⟨by first | omega | exact Nat.le_refl _⟩, ⟨by (with_reducible repeat (first | refine kN ?_ _ | refine kD ?_ | refine kA ?_ _)); exact BK176.out⟩, ⟨by repeat (first | (with_reducible first | exact HB.out | apply bA | apply bN | apply bD | refine bS ?_ GE176.out) | exact HB.out)⟩⟩
   ·
    replace c10 := Bool.eq_false_iff.mpr c10
    subst c10
    have H1 : (instr_Check.j0 k t177 true a0_0 a0_1 a0_2 a0_3 a0_4) = some r := by rw [if_neg (show ¬ (false = true) by decide)] at H; exact H
    clear H
    have H := H1
    clear H1
    have H' := mK H
    clear H
    obtain ⟨hcz20_0, hcz20_1, hcz20_2, hcz20_3, hcz20_4, hfz20_0, hfz20_1, hfz20_2, hfz20_3, hfz20_4⟩ := cf5 BK176.out
    go_wp2_with (first | ((with_reducible refine gate_callee (f := 67) rfl ?_); refine goesL_ (some 12) rfl rfl Try.func67 (by kernel_rfl) rfl #[.int .i64 a0_1] rfl (by (try simp only [List.map_toArray, List.map_cons, List.map_nil]); first | done | rfl) ?_; (with_reducible refine (instr_reg.calls a0_1 false _ A9.out).mono ?_); rintro e w' ⟨rfl, ⟨nd, rfl⟩⟩; refine ⟨_, rfl, ?_⟩))
    go_meet
    case rel => exact ⟨_, (true), (by first | rfl | (simp; done) | (simp [*]; done)), H', ⟨by first | omega | exact Nat.le_refl _⟩, ⟨by (with_reducible repeat (first | refine kN ?_ _ | refine kD ?_ | refine kA ?_ _)); exact BK176.out⟩, ⟨by repeat (first | (with_reducible first | exact HB.out | apply bA | apply bN | apply bD | refine bS ?_ GE176.out) | exact HB.out)⟩⟩
  case rest =>
   clear HC6
   (try clear c3); (try clear c3b0); (try clear hcz8_0); (try clear hcz8_1); (try clear hcz8_2); (try clear hcz8_3); (try clear hcz8_4); (try clear hfz8_0); (try clear hfz8_1); (try clear hfz8_2); (try clear hfz8_3); (try clear hfz8_4)
   obtain ⟨kq, x31_5, rfl, HA, HJ5, BK176, HB⟩ := hcut
   cases kq with
   | zero => exact absurd HA.out (by simp [instr_Check.j0])
   | succ kj5 =>
    have H := HA.out
    clear HA
    simp only [instr_Check.j0] at H
    by_cases c21 : x31_5 = true
    ·
     subst c21
     have H1 : (some 20) = some r := by rw [if_pos rfl] at H; exact H
     clear H
     have H := H1
     clear H1
     obtain rfl := Option.some.inj H
     go_wp2
     go_ret
     exact ⟨by first | rfl | (simp [errW_none, errW_some] <;> rfl) | (simp [*, errW_none, errW_some] <;> rfl), by repeat (first | (with_reducible first | exact HB.out | apply bA | apply bN | apply bD | refine bS ?_ GE176.out) | exact HB.out)⟩
    ·
     replace c21 := Bool.eq_false_iff.mpr c21
     subst c21
     have H1 : (if t177 = 0 then (instr_Check.j1 kj5 (a0_3 == 0) t177 (t177 == 0) a0_0 a0_1 a0_2 a0_3 a0_4) else (if t177 = 7 then (instr_Check.j1 kj5 (a0_3 == 0) t177 (t177 == 7) a0_0 a0_1 a0_2 a0_3 a0_4) else (instr_Check.j1 kj5 (a0_3 == 0) t177 (t177 == 8) a0_0 a0_1 a0_2 a0_3 a0_4))) = some r := by rw [if_neg (show ¬ (false = true) by decide)] at H; exact H
     clear H
     have H := H1
     clear H1
     have HC22 := mK H
     clear H
     obtain ⟨hcz23_0, hcz23_1, hcz23_2, hcz23_3, hcz23_4, hfz23_0, hfz23_1, hfz23_2, hfz23_3, hfz23_4⟩ := cf5 BK176.out
     go_upto_if 36 with (fail)
     go_cut [36] (fun v36 wc => ∃ (kq : Nat) (x36_21 : Bool), v36 = .bool x36_21 ∧ Aside0 (instr_Check.j1 kq (a0_3 == 0) t177 x36_21 a0_0 a0_1 a0_2 a0_3 a0_4 = some r) ∧ Aside0 (kq ≤ kj5) ∧ Aside0 (wc.heap[gb176]? = some (o5 a0_0 a0_1 a0_2 a0_3 a0_4 120)) ∧ Aside0 (Below w.heap.size w wc))
     case first =>
      have H := HC22.out
      clear HC22
      by_cases c24 : t177 = 0
      ·
       rw [if_pos c24] at H
       have c24b0 : (t177 == 0) = true := beq_iff_eq.mpr c24
       have c24b1 : (t177 != 0) = false := bR c24
       clear c24
       (first | rw [c24b0] | (simp only [i64_w, i32_w]; rw [c24b0]) | skip)
       have H' := mK H
       clear H
       go_wp2
       go_meet
       case rel => exact ⟨_, ((t177 == 0)), (by first | rfl | (simp; done) | (simp [*]; done)), H', ⟨by have := HJ5.out; first | omega | exact Nat.le_refl _⟩, ⟨by (with_reducible repeat (first | refine kN ?_ _ | refine kD ?_ | refine kA ?_ _)); exact BK176.out⟩, ⟨by repeat (first | (with_reducible first | exact HB.out | apply bA | apply bN | apply bD | refine bS ?_ GE176.out) | exact HB.out)⟩⟩
      ·
       rw [if_neg c24] at H
       have c24b0 : (t177 == 0) = false := bQ c24
       have c24b1 : (t177 != 0) = true := bne_iff_ne.mpr c24
       (first | rw [c24b0] | (simp only [i64_w, i32_w]; rw [c24b0]) | skip)
       by_cases c25 : t177 = 7
       ·
        rw [if_pos c25] at H
        have c25b0 : (t177 == 7) = true := beq_iff_eq.mpr c25
        have c25b1 : (t177 != 7) = false := bR c25
        clear c25
        have H' := mK H
        clear H
        go_wp2
        go_meet
        case rel => exact ⟨_, ((t177 == 7)), (by first | rfl | (simp; done) | (simp [*]; done)), H', ⟨by have := HJ5.out; first | omega | exact Nat.le_refl _⟩, ⟨by (with_reducible repeat (first | refine kN ?_ _ | refine kD ?_ | refine kA ?_ _)); exact BK176.out⟩, ⟨by repeat (first | (with_reducible first | exact HB.out | apply bA | apply bN | apply bD | refine bS ?_ GE176.out) | exact HB.out)⟩⟩
       ·
        rw [if_neg c25] at H
        have c25b0 : (t177 == 7) = false := bQ c25
        have c25b1 : (t177 != 7) = true := bne_iff_ne.mpr c25
        have H' := mK H
        clear H
        go_wp2
        go_meet
        case rel => exact ⟨_, ((t177 == 8)), (by first | rfl | (simp; done) | (simp [*]; done)), H', ⟨by have := HJ5.out; first | omega | exact Nat.le_refl _⟩, ⟨by (with_reducible repeat (first | refine kN ?_ _ | refine kD ?_ | refine kA ?_ _)); exact BK176.out⟩, ⟨by repeat (first | (with_reducible first | exact HB.out | apply bA | apply bN | apply bD | refine bS ?_ GE176.out) | exact HB.out)⟩⟩
     case rest =>
      clear HC22
      (try clear c3); (try clear c3b0); (try clear c21); (try clear hcz23_0); (try clear hcz23_1); (try clear hcz23_2); (try clear hcz23_3); (try clear hcz23_4); (try clear hcz8_0); (try clear hcz8_1); (try clear hcz8_2); (try clear hcz8_3); (try clear hcz8_4); (try clear hfz23_0); (try clear hfz23_1); (try clear hfz23_2); (try clear hfz23_3); (try clear hfz23_4); (try clear hfz8_0); (try clear hfz8_1); (try clear hfz8_2); (try clear hfz8_3); (try clear hfz8_4)
      obtain ⟨kq, x36_21, rfl, HA, HJ21, BK176, HB⟩ := hcut
      cases kq with
      | zero => exact absurd HA.out (by simp [instr_Check.j1])
      | succ kj21 =>
       have H := HA.out
       clear HA
       simp only [instr_Check.j1] at H
       by_cases c26 : x36_21 = true
       ·
        subst c26
        have H1 : (if (a0_3 == 0) = true then (if a0_1 = 0 then (if a0_2 = 0 then (some 0) else (some 20)) else (some 20)) else (some 20)) = some r := by rw [if_pos rfl] at H; exact H
        clear H
        have H := H1
        clear H1
        by_cases c27 : (a0_3 == 0) = true
        ·
         rw [if_pos c27] at H
         have c27b0 : (a0_3 == 0) = true := c27
         (try (have c27b1 : decide (a0_3 = 0) = true := by simpa using c27))
         (try (have c27b2 : (a0_3 == 0) = true := by simpa using c27))
         clear c27
         by_cases c28 : a0_1 = 0
         ·
          rw [if_pos c28] at H
          have c28b0 : (a0_1 == 0) = true := beq_iff_eq.mpr c28
          have c28b1 : (a0_1 != 0) = false := bR c28
          clear c28
          by_cases c29 : a0_2 = 0
          ·
           rw [if_pos c29] at H
           have c29b0 : (a0_2 == 0) = true := beq_iff_eq.mpr c29
           have c29b1 : (a0_2 != 0) = false := bR c29
           clear c29
           obtain rfl := Option.some.inj H
           obtain ⟨hcz30_0, hcz30_1, hcz30_2, hcz30_3, hcz30_4, hfz30_0, hfz30_1, hfz30_2, hfz30_3, hfz30_4⟩ := cf5 BK176.out
           go_wp2
           go_ret
           exact ⟨by first | rfl | (simp [errW_none, errW_some] <;> rfl) | (simp [*, errW_none, errW_some] <;> rfl), by repeat (first | (with_reducible first | exact HB.out | apply bA | apply bN | apply bD | refine bS ?_ GE176.out) | exact HB.out)⟩
          ·
           rw [if_neg c29] at H
           have c29b0 : (a0_2 == 0) = false := bQ c29
           have c29b1 : (a0_2 != 0) = true := bne_iff_ne.mpr c29
           obtain rfl := Option.some.inj H
           obtain ⟨hcz31_0, hcz31_1, hcz31_2, hcz31_3, hcz31_4, hfz31_0, hfz31_1, hfz31_2, hfz31_3, hfz31_4⟩ := cf5 BK176.out
           go_wp2
           go_ret
           exact ⟨by first | rfl | (simp [errW_none, errW_some] <;> rfl) | (simp [*, errW_none, errW_some] <;> rfl), by repeat (first | (with_reducible first | exact HB.out | apply bA | apply bN | apply bD | refine bS ?_ GE176.out) | exact HB.out)⟩
         ·
          rw [if_neg c28] at H
          have c28b0 : (a0_1 == 0) = false := bQ c28
          have c28b1 : (a0_1 != 0) = true := bne_iff_ne.mpr c28
          obtain rfl := Option.some.inj H
          obtain ⟨hcz32_0, hcz32_1, hcz32_2, hcz32_3, hcz32_4, hfz32_0, hfz32_1, hfz32_2, hfz32_3, hfz32_4⟩ := cf5 BK176.out
          go_wp2
          go_ret
          exact ⟨by first | rfl | (simp [errW_none, errW_some] <;> rfl) | (simp [*, errW_none, errW_some] <;> rfl), by repeat (first | (with_reducible first | exact HB.out | apply bA | apply bN | apply bD | refine bS ?_ GE176.out) | exact HB.out)⟩
        ·
         rw [if_neg c27] at H
         have c27b0 : (a0_3 == 0) = false := by simpa using c27
         (try (have c27b1 : decide (a0_3 = 0) = false := by simpa using c27))
         (try (have c27b2 : (a0_3 == 0) = false := by simpa using c27))
         (try (have c27b3 : ¬ (a0_3 = 0) := by simpa using c27))
         clear c27
         obtain rfl := Option.some.inj H
         go_wp2
         go_ret
         exact ⟨by first | rfl | (simp [errW_none, errW_some] <;> rfl) | (simp [*, errW_none, errW_some] <;> rfl), by repeat (first | (with_reducible first | exact HB.out | apply bA | apply bN | apply bD | refine bS ?_ GE176.out) | exact HB.out)⟩
       ·
        replace c26 := Bool.eq_false_iff.mpr c26
        subst c26
        have H1 : (if t177 = 1 then (instr_Check.j2 kj21 (a0_3 == 0) t177 (t177 == 1) a0_0 a0_1 a0_2 a0_3 a0_4) else (if t177 = 2 then (instr_Check.j2 kj21 (a0_3 == 0) t177 (t177 == 2) a0_0 a0_1 a0_2 a0_3 a0_4) else (instr_Check.j2 kj21 (a0_3 == 0) t177 (t177 == 6) a0_0 a0_1 a0_2 a0_3 a0_4))) = some r := by rw [if_neg (show ¬ (false = true) by decide)] at H; exact H
        clear H
        have H := H1
        clear H1
        have HC33 := mK H
        clear H
        go_upto_if 51 with (fail)
        go_cut [51] (fun v51 wc => ∃ (kq : Nat) (x51_32 : Bool), v51 = .bool x51_32 ∧ Aside0 (instr_Check.j2 kq (a0_3 == 0) t177 x51_32 a0_0 a0_1 a0_2 a0_3 a0_4 = some r) ∧ Aside0 (kq ≤ kj21) ∧ Aside0 (wc.heap[gb176]? = some (o5 a0_0 a0_1 a0_2 a0_3 a0_4 120)) ∧ Aside0 (Below w.heap.size w wc))
        case first =>
         have H := HC33.out
         clear HC33
         by_cases c34 : t177 = 1
         ·
          rw [if_pos c34] at H
          have c34b0 : (t177 == 1) = true := beq_iff_eq.mpr c34
          have c34b1 : (t177 != 1) = false := bR c34
          clear c34
          (first | rw [c34b0] | (simp only [i64_w, i32_w]; rw [c34b0]) | skip)
          have H' := mK H
          clear H
          go_wp2
          go_meet
          case rel => exact ⟨_, ((t177 == 1)), (by first | rfl | (simp; done) | (simp [*]; done)), H', ⟨by have := HJ5.out; have := HJ21.out; first | omega | exact Nat.le_refl _⟩, ⟨by (with_reducible repeat (first | refine kN ?_ _ | refine kD ?_ | refine kA ?_ _)); exact BK176.out⟩, ⟨by repeat (first | (with_reducible first | exact HB.out | apply bA | apply bN | apply bD | refine bS ?_ GE176.out) | exact HB.out)⟩⟩
         ·
          rw [if_neg c34] at H
          have c34b0 : (t177 == 1) = false := bQ c34
          have c34b1 : (t177 != 1) = true := bne_iff_ne.mpr c34
          (first | rw [c34b0] | (simp only [i64_w, i32_w]; rw [c34b0]) | skip)
          by_cases c35 : t177 = 2
          ·
           rw [if_pos c35] at H
           have c35b0 : (t177 == 2) = true := beq_iff_eq.mpr c35
           have c35b1 : (t177 != 2) = false := bR c35
           clear c35
           have H' := mK H
           clear H
           go_wp2
           go_meet
           case rel => exact ⟨_, ((t177 == 2)), (by first | rfl | (simp; done) | (simp [*]; done)), H', ⟨by have := HJ5.out; have := HJ21.out; first | omega | exact Nat.le_refl _⟩, ⟨by (with_reducible repeat (first | refine kN ?_ _ | refine kD ?_ | refine kA ?_ _)); exact BK176.out⟩, ⟨by repeat (first | (with_reducible first | exact HB.out | apply bA | apply bN | apply bD | refine bS ?_ GE176.out) | exact HB.out)⟩⟩
          ·
           rw [if_neg c35] at H
           have c35b0 : (t177 == 2) = false := bQ c35
           have c35b1 : (t177 != 2) = true := bne_iff_ne.mpr c35
           have H' := mK H
           clear H
           go_wp2
           go_meet
           case rel => exact ⟨_, ((t177 == 6)), (by first | rfl | (simp; done) | (simp [*]; done)), H', ⟨by have := HJ5.out; have := HJ21.out; first | omega | exact Nat.le_refl _⟩, ⟨by (with_reducible repeat (first | refine kN ?_ _ | refine kD ?_ | refine kA ?_ _)); exact BK176.out⟩, ⟨by repeat (first | (with_reducible first | exact HB.out | apply bA | apply bN | apply bD | refine bS ?_ GE176.out) | exact HB.out)⟩⟩
        case rest =>
         clear HC33
         (try clear c3); (try clear c3b0); (try clear c21); (try clear c26); (try clear hcz23_0); (try clear hcz23_1); (try clear hcz23_2); (try clear hcz23_3); (try clear hcz23_4); (try clear hcz8_0); (try clear hcz8_1); (try clear hcz8_2); (try clear hcz8_3); (try clear hcz8_4); (try clear hfz23_0); (try clear hfz23_1); (try clear hfz23_2); (try clear hfz23_3); (try clear hfz23_4); (try clear hfz8_0); (try clear hfz8_1); (try clear hfz8_2); (try clear hfz8_3); (try clear hfz8_4)
         obtain ⟨kq, x51_32, rfl, HA, HJ32, BK176, HB⟩ := hcut
         cases kq with
         | zero => exact absurd HA.out (by simp [instr_Check.j2])
         | succ kj32 =>
          have H := HA.out
          clear HA
          simp only [instr_Check.j2] at H
          by_cases c36 : x51_32 = true
          ·
           subst c36
           have H1 : (if (a0_3 == 0) = true then (if a0_2 = 0 then (some 0) else (some 20)) else (some 20)) = some r := by rw [if_pos rfl] at H; exact H
           clear H
           have H := H1
           clear H1
           by_cases c37 : (a0_3 == 0) = true
           ·
            rw [if_pos c37] at H
            have c37b0 : (a0_3 == 0) = true := c37
            (try (have c37b1 : decide (a0_3 = 0) = true := by simpa using c37))
            (try (have c37b2 : (a0_3 == 0) = true := by simpa using c37))
            clear c37
            by_cases c38 : a0_2 = 0
            ·
             rw [if_pos c38] at H
             have c38b0 : (a0_2 == 0) = true := beq_iff_eq.mpr c38
             have c38b1 : (a0_2 != 0) = false := bR c38
             clear c38
             obtain rfl := Option.some.inj H
             obtain ⟨hcz39_0, hcz39_1, hcz39_2, hcz39_3, hcz39_4, hfz39_0, hfz39_1, hfz39_2, hfz39_3, hfz39_4⟩ := cf5 BK176.out
             go_wp2
             go_ret
             exact ⟨by first | rfl | (simp [errW_none, errW_some] <;> rfl) | (simp [*, errW_none, errW_some] <;> rfl), by repeat (first | (with_reducible first | exact HB.out | apply bA | apply bN | apply bD | refine bS ?_ GE176.out) | exact HB.out)⟩
            ·
             rw [if_neg c38] at H
             have c38b0 : (a0_2 == 0) = false := bQ c38
             have c38b1 : (a0_2 != 0) = true := bne_iff_ne.mpr c38
             obtain rfl := Option.some.inj H
             obtain ⟨hcz40_0, hcz40_1, hcz40_2, hcz40_3, hcz40_4, hfz40_0, hfz40_1, hfz40_2, hfz40_3, hfz40_4⟩ := cf5 BK176.out
             go_wp2
             go_ret
             exact ⟨by first | rfl | (simp [errW_none, errW_some] <;> rfl) | (simp [*, errW_none, errW_some] <;> rfl), by repeat (first | (with_reducible first | exact HB.out | apply bA | apply bN | apply bD | refine bS ?_ GE176.out) | exact HB.out)⟩
           ·
            rw [if_neg c37] at H
            have c37b0 : (a0_3 == 0) = false := by simpa using c37
            (try (have c37b1 : decide (a0_3 = 0) = false := by simpa using c37))
            (try (have c37b2 : (a0_3 == 0) = false := by simpa using c37))
            (try (have c37b3 : ¬ (a0_3 = 0) := by simpa using c37))
            clear c37
            obtain rfl := Option.some.inj H
            go_wp2
            go_ret
            exact ⟨by first | rfl | (simp [errW_none, errW_some] <;> rfl) | (simp [*, errW_none, errW_some] <;> rfl), by repeat (first | (with_reducible first | exact HB.out | apply bA | apply bN | apply bD | refine bS ?_ GE176.out) | exact HB.out)⟩
          ·
           replace c36 := Bool.eq_false_iff.mpr c36
           subst c36
           have H1 : (if t177 = 5 then (some 0) else (if (a0_3 == 0) = true then (some 0) else (some 20))) = some r := by rw [if_neg (show ¬ (false = true) by decide)] at H; exact H
           clear H
           have H := H1
           clear H1
           by_cases c41 : t177 = 5
           ·
            rw [if_pos c41] at H
            have c41b0 : (t177 == 5) = true := beq_iff_eq.mpr c41
            have c41b1 : (t177 != 5) = false := bR c41
            clear c41
            obtain rfl := Option.some.inj H
            go_wp2
            go_ret
            exact ⟨by first | rfl | (simp [errW_none, errW_some] <;> rfl) | (simp [*, errW_none, errW_some] <;> rfl), by repeat (first | (with_reducible first | exact HB.out | apply bA | apply bN | apply bD | refine bS ?_ GE176.out) | exact HB.out)⟩
           ·
            rw [if_neg c41] at H
            have c41b0 : (t177 == 5) = false := bQ c41
            have c41b1 : (t177 != 5) = true := bne_iff_ne.mpr c41
            by_cases c42 : (a0_3 == 0) = true
            ·
             rw [if_pos c42] at H
             have c42b0 : (a0_3 == 0) = true := c42
             (try (have c42b1 : decide (a0_3 = 0) = true := by simpa using c42))
             (try (have c42b2 : (a0_3 == 0) = true := by simpa using c42))
             clear c42
             obtain rfl := Option.some.inj H
             go_wp2
             go_ret
             exact ⟨by first | rfl | (simp [errW_none, errW_some] <;> rfl) | (simp [*, errW_none, errW_some] <;> rfl), by repeat (first | (with_reducible first | exact HB.out | apply bA | apply bN | apply bD | refine bS ?_ GE176.out) | exact HB.out)⟩
            ·
             rw [if_neg c42] at H
             have c42b0 : (a0_3 == 0) = false := by simpa using c42
             (try (have c42b1 : decide (a0_3 = 0) = false := by simpa using c42))
             (try (have c42b2 : (a0_3 == 0) = false := by simpa using c42))
             (try (have c42b3 : ¬ (a0_3 = 0) := by simpa using c42))
             clear c42
             obtain rfl := Option.some.inj H
             go_wp2
             go_ret
             exact ⟨by first | rfl | (simp [errW_none, errW_some] <;> rfl) | (simp [*, errW_none, errW_some] <;> rfl), by repeat (first | (with_reducible first | exact HB.out | apply bA | apply bN | apply bD | refine bS ?_ GE176.out) | exact HB.out)⟩


/-! ### instr_Encode: function 63 -/
def instr_Encode.f (k : Nat) (a0_0 : Int) (a0_1 : Int) (a0_2 : Int) (a0_3 : Int) (a0_4 : Int) : Option (Int × Int) := (instr_Check.f k a0_0 a0_1 a0_2 a0_3 a0_4).bind fun t183 => (if t183 = 0 then ((instr_Shape.f k a0_0).bind fun t184 => (if t184 = 7 then (some (Go.bits .or .u32 ((((a0_0) % 4294967296) * 16777216) % 4294967296) (Go.bits .and .u32 ((a0_4) % 4294967296) 16777215), 0)) else (some (Go.bits .or .u32 (Go.bits .or .u32 (Go.bits .or .u32 (Go.bits .or .u32 ((((a0_0) % 4294967296) * 16777216) % 4294967296) ((((a0_1) % 4294967296) * 1048576) % 4294967296)) ((((a0_2) % 4294967296) * 65536) % 4294967296)) (Go.bits .and .u32 ((a0_4) % 4294967296) 65535)) ((a0_3) % 4294967296), 0)))) else (some (0, t183)))
theorem instr_Encode.mono : ∀ a0 a1 a2 a3 a4 k, LeO (instr_Encode.f k a0 a1 a2 a3 a4) (instr_Encode.f (k + 1) a0 a1 a2 a3 a4) := by
 intro a0 a1 a2 a3 a4 k
 unfold instr_Encode.f
 repeat' first
  | (with_reducible exact instr_Check.mono _ _ _ _ _ _)
  | (with_reducible exact instr_Shape.mono _ _)
  | (with_reducible exact LeO.refl _)
  | (with_reducible exact LeO.none _)
  | (with_reducible refine LeO.ite ?_ ?_)
  | (with_reducible refine LeO.bind ?_ (fun _ => ?_))
  | exact LeO.none _
  | refine LeO.ite ?_ ?_
  | refine LeO.bind ?_ (fun _ => ?_)
set_option maxHeartbeats 8000000 in
set_option maxRecDepth 100000 in
theorem instr_Encode.calls (k : Nat) (a0_0 : Int) (a0_1 : Int) (a0_2 : Int) (a0_3 : Int) (a0_4 : Int) (r1 : Int) (r2 : Int) (w : World) (h : instr_Encode.f k a0_0 a0_1 a0_2 a0_3 a0_4 = some (r1, r2)) :
 Calls Try.prog 63 #[.agg #[.int .i64 a0_0, .int .i64 a0_1, .int .i64 a0_2, .int .i64 a0_3, .int .i64 a0_4]] w fun e w' => e = .returned (.tuple #[.int .u32 r1, .int .i64 r2]) ∧ Below w.heap.size w w' := by
 have hu120 := Try.underlying120
 have HB := mK (Below.refl w.heap.size w)
 have H : ((instr_Check.f k a0_0 a0_1 a0_2 a0_3 a0_4).bind fun t183 => (if t183 = 0 then ((instr_Shape.f k a0_0).bind fun t184 => (if t184 = 7 then (some (Go.bits .or .u32 ((((a0_0) % 4294967296) * 16777216) % 4294967296) (Go.bits .and .u32 ((a0_4) % 4294967296) 16777215), 0)) else (some (Go.bits .or .u32 (Go.bits .or .u32 (Go.bits .or .u32 (Go.bits .or .u32 ((((a0_0) % 4294967296) * 16777216) % 4294967296) ((((a0_1) % 4294967296) * 1048576) % 4294967296)) ((((a0_2) % 4294967296) * 65536) % 4294967296)) (Go.bits .and .u32 ((a0_4) % 4294967296) 65535)) ((a0_3) % 4294967296), 0)))) else (some (0, t183)))) = some (r1, r2) := h
 clear h
 replace H := oB H
 obtain ⟨t183, A20, H⟩ := H
 replace H : (if t183 = 0 then ((instr_Shape.f k a0_0).bind fun t184 => (if t184 = 7 then (some (Go.bits .or .u32 ((((a0_0) % 4294967296) * 16777216) % 4294967296) (Go.bits .and .u32 ((a0_4) % 4294967296) 16777215), 0)) else (some (Go.bits .or .u32 (Go.bits .or .u32 (Go.bits .or .u32 (Go.bits .or .u32 ((((a0_0) % 4294967296) * 16777216) % 4294967296) ((((a0_1) % 4294967296) * 1048576) % 4294967296)) ((((a0_2) % 4294967296) * 65536) % 4294967296)) (Go.bits .and .u32 ((a0_4) % 4294967296) 65535)) ((a0_3) % 4294967296), 0)))) else (some (0, t183))) = some (r1, r2) := H
 have A2 := mK A20
 clear A20
 by_cases c3 : t183 = 0
 ·
  rw [if_pos c3] at H
  have c3b0 : (t183 == 0) = true := beq_iff_eq.mpr c3
  have c3b1 : (t183 != 0) = false := bR c3
  clear c3
  replace H := oB H
  obtain ⟨t184, A40, H⟩ := H
  replace H : (if t184 = 7 then (some (Go.bits .or .u32 ((((a0_0) % 4294967296) * 16777216) % 4294967296) (Go.bits .and .u32 ((a0_4) % 4294967296) 16777215), 0)) else (some (Go.bits .or .u32 (Go.bits .or .u32 (Go.bits .or .u32 (Go.bits .or .u32 ((((a0_0) % 4294967296) * 16777216) % 4294967296) ((((a0_1) % 4294967296) * 1048576) % 4294967296)) ((((a0_2) % 4294967296) * 65536) % 4294967296)) (Go.bits .and .u32 ((a0_4) % 4294967296) 65535)) ((a0_3) % 4294967296), 0))) = some (r1, r2) := H
  have A4 := mK A40
  clear A40
  by_cases c5 : t184 = 7
  ·
   rw [if_pos c5] at H
   have c5b0 : (t184 == 7) = true := beq_iff_eq.mpr c5
   have c5b1 : (t184 != 7) = false := bR c5
   clear c5
   simp only [Option.some.injEq, Prod.mk.injEq] at H
   obtain ⟨rfl, rfl⟩ := H
   go_enter Try.func63, Try.ntmps63
   go_wp2_with (first | ((with_reducible refine gate_dst (N := 1) rfl ?_); refine box_event ?hg (N := 1) ?hd (cs := #[.int .i64 a0_0, .int .i64 a0_1, .int .i64 a0_2, .int .i64 a0_3, .int .i64 a0_4]) (t := 120) ?hr ?_; (case hd => rfl); (case hg => rfl); (case hr => first | (go_simp; done) | (go_simp; rfl)); intro gb182 hg w6 hbox hb; have n0_ := mK (bP (by repeat (first | (with_reducible first | exact HB.out | apply bA | apply bN | apply bD) | exact HB.out)) hb); have n1_ := mK (hbox); have n2_ := mK ((by rw [hg]; exact (bZ (by repeat (first | (with_reducible first | exact HB.out | apply bA | apply bN | apply bD) | exact HB.out))) : w.heap.size ≤ gb182)); have n3_ := mK ((by rw [hg]; exact (bZ (by repeat (first | (with_reducible first | exact HB.out | apply bA | apply bN | apply bD) | exact HB.out))) : w.heap.size ≤ gb182)); clear HB; have HB := n0_; have BK182 := n1_; have GW182 := n2_; have GE182 := n3_; clear n0_ n1_ n2_ n3_; clear hb hbox hg; obtain ⟨hcz7_0, hcz7_1, hcz7_2, hcz7_3, hcz7_4, hfz7_0, hfz7_1, hfz7_2, hfz7_3, hfz7_4⟩ := cf5 BK182.out) | ((with_reducible refine gate_callee (f := 64) rfl ?_); refine goesL_ (some 7) rfl rfl Try.func64 (by kernel_rfl) rfl #[.agg #[.int .i64 a0_0, .int .i64 a0_1, .int .i64 a0_2, .int .i64 a0_3, .int .i64 a0_4]] rfl (by (try simp only [List.map_toArray, List.map_cons, List.map_nil]); first | done | rfl) ?_; (with_reducible refine (instr_Check.calls k a0_0 a0_1 a0_2 a0_3 a0_4 t183 _ A2.out).mono ?_); rintro e w8 ⟨rfl, hb⟩; refine ⟨_, rfl, ?_⟩; have n0_ := mK (kB (g := gb182) (o := o5 a0_0 a0_1 a0_2 a0_3 a0_4 120) (by (with_reducible repeat (first | refine kN ?_ _ | refine kD ?_ | refine kA ?_ _)); exact BK182.out) hb); have n1_ := mK (bP (by repeat (first | (with_reducible first | exact HB.out | apply bA | apply bN | apply bD | refine bS ?_ GE182.out) | exact HB.out)) hb); clear BK182; clear HB; have BK182 := n0_; have HB := n1_; clear n0_ n1_; (try clear hb); obtain ⟨hcz9_0, hcz9_1, hcz9_2, hcz9_3, hcz9_4, hfz9_0, hfz9_1, hfz9_2, hfz9_3, hfz9_4⟩ := cf5 BK182.out) | ((with_reducible refine gate_callee (f := 61) rfl ?_); refine goesL_ (some 17) rfl rfl Try.func61 (by kernel_rfl) rfl #[.int .i64 a0_0] rfl (by (try simp only [List.map_toArray, List.map_cons, List.map_nil]); first | done | rfl) ?_; (with_reducible refine (instr_Shape.calls k a0_0 t184 _ A4.out).mono ?_); rintro e w' ⟨rfl, ⟨nd, rfl⟩⟩; refine ⟨_, rfl, ?_⟩))
   go_ret2
   exact ⟨by first | rfl | (simp [errW_none, errW_some] <;> rfl) | (simp [*, errW_none, errW_some] <;> rfl), by repeat (first | (with_reducible first | exact HB.out | apply bA | apply bN | apply bD | refine bS ?_ GE182.out) | exact HB.out)⟩
  ·
   rw [if_neg c5] at H
   have c5b0 : (t184 == 7) = false := bQ c5
   have c5b1 : (t184 != 7) = true := bne_iff_ne.mpr c5
   simp only [Option.some.injEq, Prod.mk.injEq] at H
   obtain ⟨rfl, rfl⟩ := H
   go_enter Try.func63, Try.ntmps63
   go_wp2_with (first | ((with_reducible refine gate_dst (N := 1) rfl ?_); refine box_event ?hg (N := 1) ?hd (cs := #[.int .i64 a0_0, .int .i64 a0_1, .int .i64 a0_2, .int .i64 a0_3, .int .i64 a0_4]) (t := 120) ?hr ?_; (case hd => rfl); (case hg => rfl); (case hr => first | (go_simp; done) | (go_simp; rfl)); intro gb182 hg w10 hbox hb; have n0_ := mK (bP (by repeat (first | (with_reducible first | exact HB.out | apply bA | apply bN | apply bD) | exact HB.out)) hb); have n1_ := mK (hbox); have n2_ := mK ((by rw [hg]; exact (bZ (by repeat (first | (with_reducible first | exact HB.out | apply bA | apply bN | apply bD) | exact HB.out))) : w.heap.size ≤ gb182)); have n3_ := mK ((by rw [hg]; exact (bZ (by repeat (first | (with_reducible first | exact HB.out | apply bA | apply bN | apply bD) | exact HB.out))) : w.heap.size ≤ gb182)); clear HB; have HB := n0_; have BK182 := n1_; have GW182 := n2_; have GE182 := n3_; clear n0_ n1_ n2_ n3_; clear hb hbox hg; obtain ⟨hcz11_0, hcz11_1, hcz11_2, hcz11_3, hcz11_4, hfz11_0, hfz11_1, hfz11_2, hfz11_3, hfz11_4⟩ := cf5 BK182.out) | ((with_reducible refine gate_callee (f := 64) rfl ?_); refine goesL_ (some 7) rfl rfl Try.func64 (by kernel_rfl) rfl #[.agg #[.int .i64 a0_0, .int .i64 a0_1, .int .i64 a0_2, .int .i64 a0_3, .int .i64 a0_4]] rfl (by (try simp only [List.map_toArray, List.map_cons, List.map_nil]); first | done | rfl) ?_; (with_reducible refine (instr_Check.calls k a0_0 a0_1 a0_2 a0_3 a0_4 t183 _ A2.out).mono ?_); rintro e w12 ⟨rfl, hb⟩; refine ⟨_, rfl, ?_⟩; have n0_ := mK (kB (g := gb182) (o := o5 a0_0 a0_1 a0_2 a0_3 a0_4 120) (by (with_reducible repeat (first | refine kN ?_ _ | refine kD ?_ | refine kA ?_ _)); exact BK182.out) hb); have n1_ := mK (bP (by repeat (first | (with_reducible first | exact HB.out | apply bA | apply bN | apply bD | refine bS ?_ GE182.out) | exact HB.out)) hb); clear BK182; clear HB; have BK182 := n0_; have HB := n1_; clear n0_ n1_; (try clear hb); obtain ⟨hcz13_0, hcz13_1, hcz13_2, hcz13_3, hcz13_4, hfz13_0, hfz13_1, hfz13_2, hfz13_3, hfz13_4⟩ := cf5 BK182.out) | ((with_reducible refine gate_callee (f := 61) rfl ?_); refine goesL_ (some 17) rfl rfl Try.func61 (by kernel_rfl) rfl #[.int .i64 a0_0] rfl (by (try simp only [List.map_toArray, List.map_cons, List.map_nil]); first | done | rfl) ?_; (with_reducible refine (instr_Shape.calls k a0_0 t184 _ A4.out).mono ?_); rintro e w' ⟨rfl, ⟨nd, rfl⟩⟩; refine ⟨_, rfl, ?_⟩))
   go_ret2
   exact ⟨by first | rfl | (simp [errW_none, errW_some] <;> rfl) | (simp [*, errW_none, errW_some] <;> rfl), by repeat (first | (with_reducible first | exact HB.out | apply bA | apply bN | apply bD | refine bS ?_ GE182.out) | exact HB.out)⟩
 ·
  rw [if_neg c3] at H
  have c3b0 : (t183 == 0) = false := bQ c3
  have c3b1 : (t183 != 0) = true := bne_iff_ne.mpr c3
  simp only [Option.some.injEq, Prod.mk.injEq] at H
  obtain ⟨rfl, rfl⟩ := H
  go_enter Try.func63, Try.ntmps63
  go_wp2_with (first | ((with_reducible refine gate_dst (N := 1) rfl ?_); refine box_event ?hg (N := 1) ?hd (cs := #[.int .i64 a0_0, .int .i64 a0_1, .int .i64 a0_2, .int .i64 a0_3, .int .i64 a0_4]) (t := 120) ?hr ?_; (case hd => rfl); (case hg => rfl); (case hr => first | (go_simp; done) | (go_simp; rfl)); intro gb182 hg w14 hbox hb; have n0_ := mK (bP (by repeat (first | (with_reducible first | exact HB.out | apply bA | apply bN | apply bD) | exact HB.out)) hb); have n1_ := mK (hbox); have n2_ := mK ((by rw [hg]; exact (bZ (by repeat (first | (with_reducible first | exact HB.out | apply bA | apply bN | apply bD) | exact HB.out))) : w.heap.size ≤ gb182)); have n3_ := mK ((by rw [hg]; exact (bZ (by repeat (first | (with_reducible first | exact HB.out | apply bA | apply bN | apply bD) | exact HB.out))) : w.heap.size ≤ gb182)); clear HB; have HB := n0_; have BK182 := n1_; have GW182 := n2_; have GE182 := n3_; clear n0_ n1_ n2_ n3_; clear hb hbox hg; obtain ⟨hcz15_0, hcz15_1, hcz15_2, hcz15_3, hcz15_4, hfz15_0, hfz15_1, hfz15_2, hfz15_3, hfz15_4⟩ := cf5 BK182.out) | ((with_reducible refine gate_callee (f := 64) rfl ?_); refine goesL_ (some 7) rfl rfl Try.func64 (by kernel_rfl) rfl #[.agg #[.int .i64 a0_0, .int .i64 a0_1, .int .i64 a0_2, .int .i64 a0_3, .int .i64 a0_4]] rfl (by (try simp only [List.map_toArray, List.map_cons, List.map_nil]); first | done | rfl) ?_; (with_reducible refine (instr_Check.calls k a0_0 a0_1 a0_2 a0_3 a0_4 t183 _ A2.out).mono ?_); rintro e w16 ⟨rfl, hb⟩; refine ⟨_, rfl, ?_⟩; have n0_ := mK (kB (g := gb182) (o := o5 a0_0 a0_1 a0_2 a0_3 a0_4 120) (by (with_reducible repeat (first | refine kN ?_ _ | refine kD ?_ | refine kA ?_ _)); exact BK182.out) hb); have n1_ := mK (bP (by repeat (first | (with_reducible first | exact HB.out | apply bA | apply bN | apply bD | refine bS ?_ GE182.out) | exact HB.out)) hb); clear BK182; clear HB; have BK182 := n0_; have HB := n1_; clear n0_ n1_; (try clear hb)))
  go_ret2
  exact ⟨by first | rfl | (simp [errW_none, errW_some] <;> rfl) | (simp [*, errW_none, errW_some] <;> rfl), by repeat (first | (with_reducible first | exact HB.out | apply bA | apply bN | apply bD | refine bS ?_ GE182.out) | exact HB.out)⟩


/-! ### instr_Decode: function 56 -/
mutual
def instr_Decode.j0 : Nat → Int → Int → Int → Int → Int → Int → Int → Option (Int × Int × Int × Int × Int × Int)
 | 0, _, _, _, _, _, _, _ => none
 | k + 1, x0, x5, x187000, x187001, x187002, x187003, x187004 => if x5 = 1 then (instr_Decode.j1 k x0 x5 (x5 == 1) x187000 x187001 x187002 x187003 x187004) else (instr_Decode.j1 k x0 x5 (x5 == 3) x187000 x187001 x187002 x187003 x187004)
def instr_Decode.j1 : Nat → Int → Int → Bool → Int → Int → Int → Int → Int → Option (Int × Int × Int × Int × Int × Int)
 | 0, _, _, _, _, _, _, _, _ => none
 | k + 1, x0, x27, x28, x187000, x187001, x187002, x187003, x187004 => if x28 = true then ((word_Sext.f x0 16).bind fun t188 => ((instr_Encode.f k x187000 x187001 x187002 x187003 (wrap64 (t188))).bind fun bt189 => (if bt189.2 = 0 then (if bt189.1 = x0 then (some (x187000, x187001, x187002, x187003, wrap64 (t188), 0)) else (some (0, 0, 0, 0, 0, 21))) else (some (0, 0, 0, 0, 0, 21))))) else (if x27 = 2 then (instr_Decode.j2 k x0 x27 (x27 == 2) x187000 x187001 x187002 x187003 x187004) else (if x27 = 4 then (instr_Decode.j2 k x0 x27 (x27 == 4) x187000 x187001 x187002 x187003 x187004) else (instr_Decode.j2 k x0 x27 (x27 == 8) x187000 x187001 x187002 x187003 x187004)))
def instr_Decode.j2 : Nat → Int → Int → Bool → Int → Int → Int → Int → Int → Option (Int × Int × Int × Int × Int × Int)
 | 0, _, _, _, _, _, _, _, _ => none
 | k + 1, x0, x27, x35, x187000, x187001, x187002, x187003, x187004 => if x35 = true then ((instr_Encode.f k x187000 x187001 x187002 x187003 (wrap64 (Go.bits .and .u32 x0 65535))).bind fun bt191 => (if bt191.2 = 0 then (if bt191.1 = x0 then (some (x187000, x187001, x187002, x187003, wrap64 (Go.bits .and .u32 x0 65535), 0)) else (some (0, 0, 0, 0, 0, 21))) else (some (0, 0, 0, 0, 0, 21)))) else (if x27 = 7 then ((word_Sext.f x0 24).bind fun t193 => ((instr_Encode.f k x187000 x187001 x187002 x187003 (wrap64 (t193))).bind fun bt194 => (if bt194.2 = 0 then (if bt194.1 = x0 then (some (x187000, x187001, x187002, x187003, wrap64 (t193), 0)) else (some (0, 0, 0, 0, 0, 21))) else (some (0, 0, 0, 0, 0, 21))))) else (if x27 = 5 then ((instr_Encode.f k x187000 x187001 x187002 (wrap64 (Go.bits .and .u32 x0 15)) x187004).bind fun bt196 => (if bt196.2 = 0 then (if bt196.1 = x0 then (some (x187000, x187001, x187002, wrap64 (Go.bits .and .u32 x0 15), x187004, 0)) else (some (0, 0, 0, 0, 0, 21))) else (some (0, 0, 0, 0, 0, 21)))) else ((instr_Encode.f k x187000 x187001 x187002 x187003 x187004).bind fun bt198 => (if bt198.2 = 0 then (if bt198.1 = x0 then (some (x187000, x187001, x187002, x187003, x187004, 0)) else (some (0, 0, 0, 0, 0, 21))) else (some (0, 0, 0, 0, 0, 21))))))
end
def instr_Decode.f (k : Nat) (a0 : Int) : Option (Int × Int × Int × Int × Int × Int) := (instr_Shape.f k (wrap64 (a0 / 16777216))).bind fun t187 => (if t187 = 7 then (instr_Decode.j0 k a0 t187 (wrap64 (a0 / 16777216)) 0 0 0 0) else (instr_Decode.j0 k a0 t187 (wrap64 (a0 / 16777216)) (wrap64 (Go.bits .and .u32 (a0 / 1048576) 15)) (wrap64 (Go.bits .and .u32 (a0 / 65536) 15)) 0 0))
theorem instr_Decode.mono_l : ∀ k, (∀ y0 y1 y2 y3 y4 y5 y6, LeO (instr_Decode.j0 k y0 y1 y2 y3 y4 y5 y6) (instr_Decode.j0 (k + 1) y0 y1 y2 y3 y4 y5 y6)) ∧ (∀ y0 y1 y2 y3 y4 y5 y6 y7, LeO (instr_Decode.j1 k y0 y1 y2 y3 y4 y5 y6 y7) (instr_Decode.j1 (k + 1) y0 y1 y2 y3 y4 y5 y6 y7)) ∧ (∀ y0 y1 y2 y3 y4 y5 y6 y7, LeO (instr_Decode.j2 k y0 y1 y2 y3 y4 y5 y6 y7) (instr_Decode.j2 (k + 1) y0 y1 y2 y3 y4 y5 y6 y7))
 | 0 => ⟨fun _ _ _ _ _ _ _ r h => by simp [instr_Decode.j0] at h, fun _ _ _ _ _ _ _ _ r h => by simp [instr_Decode.j1] at h, fun _ _ _ _ _ _ _ _ r h => by simp [instr_Decode.j2] at h⟩
 | k + 1 => by
  obtain ⟨ih0, ih1, ih2⟩ := instr_Decode.mono_l k
  refine ⟨?_, ?_, ?_⟩
  ·
   intro y0 y1 y2 y3 y4 y5 y6
   unfold instr_Decode.j0
   repeat' first
   | (with_reducible exact ih0 _ _ _ _ _ _ _)
   | (with_reducible exact ih1 _ _ _ _ _ _ _ _)
   | (with_reducible exact ih2 _ _ _ _ _ _ _ _)
   | (with_reducible exact instr_Encode.mono _ _ _ _ _ _)
   | (with_reducible exact instr_Shape.mono _ _)
   | (with_reducible exact LeO.refl _)
   | (with_reducible exact LeO.none _)
   | (with_reducible refine LeO.ite ?_ ?_)
   | (with_reducible refine LeO.bind ?_ (fun _ => ?_))
   | exact LeO.none _
   | refine LeO.ite ?_ ?_
   | refine LeO.bind ?_ (fun _ => ?_)
  ·
   intro y0 y1 y2 y3 y4 y5 y6 y7
   unfold instr_Decode.j1
   repeat' first
   | (with_reducible exact ih0 _ _ _ _ _ _ _)
   | (with_reducible exact ih1 _ _ _ _ _ _ _ _)
   | (with_reducible exact ih2 _ _ _ _ _ _ _ _)
   | (with_reducible exact instr_Encode.mono _ _ _ _ _ _)
   | (with_reducible exact instr_Shape.mono _ _)
   | (with_reducible exact LeO.refl _)
   | (with_reducible exact LeO.none _)
   | (with_reducible refine LeO.ite ?_ ?_)
   | (with_reducible refine LeO.bind ?_ (fun _ => ?_))
   | exact LeO.none _
   | refine LeO.ite ?_ ?_
   | refine LeO.bind ?_ (fun _ => ?_)
  ·
   intro y0 y1 y2 y3 y4 y5 y6 y7
   unfold instr_Decode.j2
   repeat' first
   | (with_reducible exact ih0 _ _ _ _ _ _ _)
   | (with_reducible exact ih1 _ _ _ _ _ _ _ _)
   | (with_reducible exact ih2 _ _ _ _ _ _ _ _)
   | (with_reducible exact instr_Encode.mono _ _ _ _ _ _)
   | (with_reducible exact instr_Shape.mono _ _)
   | (with_reducible exact LeO.refl _)
   | (with_reducible exact LeO.none _)
   | (with_reducible refine LeO.ite ?_ ?_)
   | (with_reducible refine LeO.bind ?_ (fun _ => ?_))
   | exact LeO.none _
   | refine LeO.ite ?_ ?_
   | refine LeO.bind ?_ (fun _ => ?_)
theorem instr_Decode.mono : ∀ a0 k, LeO (instr_Decode.f k a0) (instr_Decode.f (k + 1) a0) := by
 intro a0 k
 obtain ⟨ih0, ih1, ih2⟩ := instr_Decode.mono_l k
 unfold instr_Decode.f
 repeat' first
  | (with_reducible exact ih0 _ _ _ _ _ _ _)
  | (with_reducible exact ih1 _ _ _ _ _ _ _ _)
  | (with_reducible exact ih2 _ _ _ _ _ _ _ _)
  | (with_reducible exact instr_Encode.mono _ _ _ _ _ _)
  | (with_reducible exact instr_Shape.mono _ _)
  | (with_reducible exact LeO.refl _)
  | (with_reducible exact LeO.none _)
  | (with_reducible refine LeO.ite ?_ ?_)
  | (with_reducible refine LeO.bind ?_ (fun _ => ?_))
  | exact LeO.none _
  | refine LeO.ite ?_ ?_
  | refine LeO.bind ?_ (fun _ => ?_)
set_option maxHeartbeats 8000000 in
set_option maxRecDepth 100000 in
theorem instr_Decode.calls (k : Nat) (a0 : Int) (r1 : Int) (r2 : Int) (r3 : Int) (r4 : Int) (r5 : Int) (r6 : Int) (w : World) (h : instr_Decode.f k a0 = some (r1, r2, r3, r4, r5, r6)) :
 Calls Try.prog 56 #[.int .u32 a0] w fun e w' => e = .returned (.tuple #[.agg #[.int .i64 r1, .int .i64 r2, .int .i64 r3, .int .i64 r4, .int .i64 r5], .int .i64 r6]) ∧ Below w.heap.size w w' := by
 have hu120 := Try.underlying120
 have HB := mK (Below.refl w.heap.size w)
 have H : ((instr_Shape.f k (wrap64 (a0 / 16777216))).bind fun t187 => (if t187 = 7 then (instr_Decode.j0 k a0 t187 (wrap64 (a0 / 16777216)) 0 0 0 0) else (instr_Decode.j0 k a0 t187 (wrap64 (a0 / 16777216)) (wrap64 (Go.bits .and .u32 (a0 / 1048576) 15)) (wrap64 (Go.bits .and .u32 (a0 / 65536) 15)) 0 0))) = some (r1, r2, r3, r4, r5, r6) := h
 clear h
 replace H := oB H
 obtain ⟨t187, A20, H⟩ := H
 replace H : (if t187 = 7 then (instr_Decode.j0 k a0 t187 (wrap64 (a0 / 16777216)) 0 0 0 0) else (instr_Decode.j0 k a0 t187 (wrap64 (a0 / 16777216)) (wrap64 (Go.bits .and .u32 (a0 / 1048576) 15)) (wrap64 (Go.bits .and .u32 (a0 / 65536) 15)) 0 0)) = some (r1, r2, r3, r4, r5, r6) := H
 have A2 := mK A20
 clear A20
 have HC3 := mK H
 clear H
 go_enter Try.func56, Try.ntmps56
 go_upto_if 16 with (first | ((with_reducible refine gate_dst (N := 2) rfl ?_); refine box_event ?hg (N := 2) ?hd (cs := #[.int .i64 0, .int .i64 0, .int .i64 0, .int .i64 0, .int .i64 0]) (t := 120) ?hr ?_; (case hd => rfl); (case hg => rfl); (case hr => first | (go_simp; done) | (go_simp; rfl)); intro gb185 hg w4 hbox hb; have n0_ := mK (bP (by repeat (first | (with_reducible first | exact HB.out | apply bA | apply bN | apply bD) | exact HB.out)) hb); have n1_ := mK (hbox); have n2_ := mK ((by rw [hg]; exact (bZ (by repeat (first | (with_reducible first | exact HB.out | apply bA | apply bN | apply bD) | exact HB.out))) : w.heap.size ≤ gb185)); have n3_ := mK ((by rw [hg]; exact (bZ (by repeat (first | (with_reducible first | exact HB.out | apply bA | apply bN | apply bD) | exact HB.out))) : w.heap.size ≤ gb185)); clear HB; have HB := n0_; have BK185 := n1_; have GW185 := n2_; have GE185 := n3_; clear n0_ n1_ n2_ n3_; clear hb hbox hg) | ((with_reducible refine gate_dst (N := 4) rfl ?_); refine box_event ?hg (N := 4) ?hd (cs := #[.int .i64 0, .int .i64 0, .int .i64 0, .int .i64 0, .int .i64 0]) (t := 120) ?hr ?_; (case hd => rfl); (case hg => rfl); (case hr => first | (go_simp; done) | (go_simp; rfl)); intro gb186 hg w5 hbox hb; have n0_ := mK (kB (g := gb185) (o := o5 0 0 0 0 0 120) (by (with_reducible repeat (first | refine kN ?_ _ | refine kD ?_ | refine kA ?_ _)); exact BK185.out) hb); have n1_ := mK (bP (by repeat (first | (with_reducible first | exact HB.out | apply bA | apply bN | apply bD | refine bS ?_ GE185.out) | exact HB.out)) hb); have n2_ := mK (hbox); have n3_ := mK ((by rw [hg]; exact (bZ (by repeat (first | (with_reducible first | exact HB.out | apply bA | apply bN | apply bD | refine bS ?_ GE185.out) | exact HB.out))) : w.heap.size ≤ gb186)); have n4_ := mK ((by rw [hg]; exact (bZ (by repeat (first | (with_reducible first | exact HB.out | apply bA | apply bN | apply bD | refine bS ?_ GE185.out) | exact HB.out))) : w.heap.size ≤ gb186)); have n5_ := mK ((by rw [hg]; exact Nat.ne_of_lt (blk_lt (g := gb185) (o := o5 0 0 0 0 0 120) (by (with_reducible repeat (first | refine kN ?_ _ | refine kD ?_ | refine kA ?_ _)); exact BK185.out)) : gb185 ≠ gb186)); have n6_ := mK ((by rw [hg]; exact Nat.ne_of_gt (blk_lt (g := gb185) (o := o5 0 0 0 0 0 120) (by (with_reducible repeat (first | refine kN ?_ _ | refine kD ?_ | refine kA ?_ _)); exact BK185.out)) : gb186 ≠ gb185)); clear BK185; clear HB; have BK185 := n0_; have HB := n1_; have BK186 := n2_; have GW186 := n3_; have GE186 := n4_; have NB185_186 := n5_; have NB186_185 := n6_; clear n0_ n1_ n2_ n3_ n4_ n5_ n6_; clear hb hbox hg; have hnb6 := NB186_185.out; have hnc6 := NB185_186.out; obtain ⟨hcz7_0, hcz7_1, hcz7_2, hcz7_3, hcz7_4, hfz7_0, hfz7_1, hfz7_2, hfz7_3, hfz7_4⟩ := cf5 BK186.out) | ((with_reducible refine gate_callee (f := 61) rfl ?_); refine goesL_ (some 14) rfl rfl Try.func61 (by kernel_rfl) rfl #[.int .i64 (wrap64 (a0 / 16777216))] rfl (by (try simp only [List.map_toArray, List.map_cons, List.map_nil]); first | done | rfl) ?_; (with_reducible refine (instr_Shape.calls k (wrap64 (a0 / 16777216)) t187 _ A2.out).mono ?_); rintro e w' ⟨rfl, ⟨nd, rfl⟩⟩; refine ⟨_, rfl, ?_⟩))
 (try simp only [Act.put, List.setIfInBounds_toArray, List.set_cons_zero, List.set_cons_succ])
 go_cut [] (fun wc => ∃ (kq : Nat) (x187001_2 : Int) (x187002_2 : Int), Aside0 (instr_Decode.j0 kq a0 t187 (wrap64 (a0 / 16777216)) x187001_2 x187002_2 0 0 = some (r1, r2, r3, r4, r5, r6)) ∧ Aside0 (kq ≤ k) ∧ Aside0 (wc.heap[gb185]? = some (o5 0 0 0 0 0 120)) ∧ Aside0 (wc.heap[gb186]? = some (.cells #[.int .i64 (wrap64 (a0 / 16777216)), .int .i64 x187001_2, .int .i64 x187002_2, .int .i64 0, .int .i64 0] 120 (0, 0))) ∧ Aside0 (Below w.heap.size w wc))
 case first =>
  have H := HC3.out
  clear HC3
  by_cases c8 : t187 = 7
  ·
   rw [if_pos c8] at H
   have c8b0 : (t187 == 7) = true := beq_iff_eq.mpr c8
   have c8b1 : (t187 != 7) = false := bR c8
   clear c8
   (first | rw [c8b0] | (simp only [i64_w, i32_w]; rw [c8b0]) | skip)
   have H' := mK H
   clear H
   go_wp2
   go_meet
   case rel => exact ⟨_, (0), (0), H', ⟨by first | omega | exact Nat.le_refl _⟩, ⟨by (with_reducible repeat (first | refine kN ?_ _ | refine kD ?_ | refine kA ?_ _)); refine kR ?_ NB185_186.out _; (with_reducible repeat (first | refine kN ?_ _ | refine kD ?_ | refine kA ?_ _)); refine kR ?_ NB185_186.out _; (with_reducible repeat (first | refine kN ?_ _ | refine kD ?_ | refine kA ?_ _)); refine kR ?_ NB185_186.out _; (with_reducible repeat (first | refine kN ?_ _ | refine kD ?_ | refine kA ?_ _)); refine kR ?_ NB185_186.out _; (with_reducible repeat (first | refine kN ?_ _ | refine kD ?_ | refine kA ?_ _)); refine kR ?_ NB185_186.out _; (with_reducible repeat (first | refine kN ?_ _ | refine kD ?_ | refine kA ?_ _)); exact BK185.out⟩, ⟨by (with_reducible repeat (first | refine kN ?_ _ | refine kD ?_ | refine kA ?_ _)); refine kP (cs := #[.int .i64 (wrap64 (a0 / 16777216)), .int .i64 0, .int .i64 0, .int .i64 0, .int .i64 0]) ?_ 4 _ rfl; (with_reducible repeat (first | refine kN ?_ _ | refine kD ?_ | refine kA ?_ _)); refine kP (cs := #[.int .i64 (wrap64 (a0 / 16777216)), .int .i64 0, .int .i64 0, .int .i64 0, .int .i64 0]) ?_ 3 _ rfl; (with_reducible repeat (first | refine kN ?_ _ | refine kD ?_ | refine kA ?_ _)); refine kP (cs := #[.int .i64 (wrap64 (a0 / 16777216)), .int .i64 0, .int .i64 0, .int .i64 0, .int .i64 0]) ?_ 2 _ rfl; (with_reducible repeat (first | refine kN ?_ _ | refine kD ?_ | refine kA ?_ _)); refine kP (cs := #[.int .i64 (wrap64 (a0 / 16777216)), .int .i64 0, .int .i64 0, .int .i64 0, .int .i64 0]) ?_ 1 _ rfl; (with_reducible repeat (first | refine kN ?_ _ | refine kD ?_ | refine kA ?_ _)); refine kP (cs := #[.int .i64 0, .int .i64 0, .int .i64 0, .int .i64 0, .int .i64 0]) ?_ 0 _ rfl; (with_reducible repeat (first | refine kN ?_ _ | refine kD ?_ | refine kA ?_ _)); exact BK186.out⟩, ⟨by repeat (first | (with_reducible first | exact HB.out | apply bA | apply bN | apply bD | refine bS ?_ GE185.out | refine bS ?_ GE186.out) | exact HB.out)⟩⟩
  ·
   rw [if_neg c8] at H
   have c8b0 : (t187 == 7) = false := bQ c8
   have c8b1 : (t187 != 7) = true := bne_iff_ne.mpr c8
   (first | rw [c8b0] | (simp only [i64_w, i32_w]; rw [c8b0]) | skip)
   have H' := mK H
   clear H
   have hnb9 := NB186_185.out
   have hnc9 := NB185_186.out
   obtain ⟨hcz10_0, hcz10_1, hcz10_2, hcz10_3, hcz10_4, hfz10_0, hfz10_1, hfz10_2, hfz10_3, hfz10_4⟩ := cf5 BK186.out
   go_wp2
   go_meet
   case rel => exact ⟨_, (wrap64 (Go.bits .and .u32 (a0 / 1048576) 15)), (wrap64 (Go.bits .and .u32 (a0 / 65536) 15)), H', ⟨by first | omega | exact Nat.le_refl _⟩, ⟨by (with_reducible repeat (first | refine kN ?_ _ | refine kD ?_ | refine kA ?_ _)); refine kR ?_ NB185_186.out _; (with_reducible repeat (first | refine kN ?_ _ | refine kD ?_ | refine kA ?_ _)); refine kR ?_ NB185_186.out _; (with_reducible repeat (first | refine kN ?_ _ | refine kD ?_ | refine kA ?_ _)); refine kR ?_ NB185_186.out _; (with_reducible repeat (first | refine kN ?_ _ | refine kD ?_ | refine kA ?_ _)); refine kR ?_ NB185_186.out _; (with_reducible repeat (first | refine kN ?_ _ | refine kD ?_ | refine kA ?_ _)); refine kR ?_ NB185_186.out _; (with_reducible repeat (first | refine kN ?_ _ | refine kD ?_ | refine kA ?_ _)); refine kR ?_ NB185_186.out _; (with_reducible repeat (first | refine kN ?_ _ | refine kD ?_ | refine kA ?_ _)); refine kR ?_ NB185_186.out _; (with_reducible repeat (first | refine kN ?_ _ | refine kD ?_ | refine kA ?_ _)); exact BK185.out⟩, ⟨by (with_reducible repeat (first | refine kN ?_ _ | refine kD ?_ | refine kA ?_ _)); refine kP (cs := #[.int .i64 (wrap64 (a0 / 16777216)), .int .i64 (wrap64 (Go.bits .and .u32 (a0 / 1048576) 15)), .int .i64 0, .int .i64 0, .int .i64 0]) ?_ 2 _ rfl; (with_reducible repeat (first | refine kN ?_ _ | refine kD ?_ | refine kA ?_ _)); refine kP (cs := #[.int .i64 (wrap64 (a0 / 16777216)), .int .i64 0, .int .i64 0, .int .i64 0, .int .i64 0]) ?_ 1 _ rfl; (with_reducible repeat (first | refine kN ?_ _ | refine kD ?_ | refine kA ?_ _)); refine kP (cs := #[.int .i64 (wrap64 (a0 / 16777216)), .int .i64 0, .int .i64 0, .int .i64 0, .int .i64 0]) ?_ 4 _ rfl; (with_reducible repeat (first | refine kN ?_ _ | refine kD ?_ | refine kA ?_ _)); refine kP (cs := #[.int .i64 (wrap64 (a0 / 16777216)), .int .i64 0, .int .i64 0, .int .i64 0, .int .i64 0]) ?_ 3 _ rfl; (with_reducible repeat (first | refine kN ?_ _ | refine kD ?_ | refine kA ?_ _)); refine kP (cs := #[.int .i64 (wrap64 (a0 / 16777216)), .int .i64 0, .int .i64 0, .int .i64 0, .int .i64 0]) ?_ 2 _ rfl; (with_reducible repeat (first | refine kN ?_ _ | refine kD ?_ | refine kA ?_ _)); refine kP (cs := #[.int .i64 (wrap64 (a0 / 16777216)), .int .i64 0, .int .i64 0, .int .i64 0, .int .i64 0]) ?_ 1 _ rfl; (with_reducible repeat (first | refine kN ?_ _ | refine kD ?_ | refine kA ?_ _)); refine kP (cs := #[.int .i64 0, .int .i64 0, .int .i64 0, .int .i64 0, .int .i64 0]) ?_ 0 _ rfl; (with_reducible repeat (first | refine kN ?_ _ | refine kD ?_ | refine kA ?_ _)); exact BK186.out⟩, ⟨by repeat (first | (with_reducible first | exact HB.out | apply bA | apply bN | apply bD | refine bS ?_ GE185.out | refine bS ?_ GE186.out) | exact HB.out)⟩⟩
 case rest =>
  clear HC3
  (try clear hcz7_0); (try clear hcz7_1); (try clear hcz7_2); (try clear hcz7_3); (try clear hcz7_4); (try clear hfz7_0); (try clear hfz7_1); (try clear hfz7_2); (try clear hfz7_3); (try clear hfz7_4)
  obtain ⟨kq, x187001_2, x187002_2, HA, HJ2, BK185, BK186, HB⟩ := hcut
  cases kq with
  | zero => exact absurd HA.out (by simp [instr_Decode.j0])
  | succ kj2 =>
   have H := HA.out
   clear HA
   simp only [instr_Decode.j0] at H
   have HC11 := mK H
   clear H
   go_upto_if 28 with (fail)
   go_cut [28] (fun v28 wc => ∃ (kq : Nat) (x28_10 : Bool), v28 = .bool x28_10 ∧ Aside0 (instr_Decode.j1 kq a0 t187 x28_10 (wrap64 (a0 / 16777216)) x187001_2 x187002_2 0 0 = some (r1, r2, r3, r4, r5, r6)) ∧ Aside0 (kq ≤ kj2) ∧ Aside0 (wc.heap[gb185]? = some (o5 0 0 0 0 0 120)) ∧ Aside0 (wc.heap[gb186]? = some (.cells #[.int .i64 (wrap64 (a0 / 16777216)), .int .i64 x187001_2, .int .i64 x187002_2, .int .i64 0, .int .i64 0] 120 (0, 0))) ∧ Aside0 (Below w.heap.size w wc))
   case first =>
    have H := HC11.out
    clear HC11
    by_cases c12 : t187 = 1
    ·
     rw [if_pos c12] at H
     have c12b0 : (t187 == 1) = true := beq_iff_eq.mpr c12
     have c12b1 : (t187 != 1) = false := bR c12
     clear c12
     (first | rw [c12b0] | (simp only [i64_w, i32_w]; rw [c12b0]) | skip)
     have H' := mK H
     clear H
     go_wp2
     go_meet
     case rel => exact ⟨_, ((t187 == 1)), (by first | rfl | (simp; done) | (simp [*]; done)), H', ⟨by have := HJ2.out; first | omega | exact Nat.le_refl _⟩, ⟨by (with_reducible repeat (first | refine kN ?_ _ | refine kD ?_ | refine kA ?_ _)); exact BK185.out⟩, ⟨by (with_reducible repeat (first | refine kN ?_ _ | refine kD ?_ | refine kA ?_ _)); exact BK186.out⟩, ⟨by repeat (first | (with_reducible first | exact HB.out | apply bA | apply bN | apply bD | refine bS ?_ GE185.out | refine bS ?_ GE186.out) | exact HB.out)⟩⟩
    ·
     rw [if_neg c12] at H
     have c12b0 : (t187 == 1) = false := bQ c12
     have c12b1 : (t187 != 1) = true := bne_iff_ne.mpr c12
     (first | rw [c12b0] | (simp only [i64_w, i32_w]; rw [c12b0]) | skip)
     have H' := mK H
     clear H
     go_wp2
     go_meet
     case rel => exact ⟨_, ((t187 == 3)), (by first | rfl | (simp; done) | (simp [*]; done)), H', ⟨by have := HJ2.out; first | omega | exact Nat.le_refl _⟩, ⟨by (with_reducible repeat (first | refine kN ?_ _ | refine kD ?_ | refine kA ?_ _)); exact BK185.out⟩, ⟨by (with_reducible repeat (first | refine kN ?_ _ | refine kD ?_ | refine kA ?_ _)); exact BK186.out⟩, ⟨by repeat (first | (with_reducible first | exact HB.out | apply bA | apply bN | apply bD | refine bS ?_ GE185.out | refine bS ?_ GE186.out) | exact HB.out)⟩⟩
   case rest =>
    clear HC11
    (try clear hcz7_0); (try clear hcz7_1); (try clear hcz7_2); (try clear hcz7_3); (try clear hcz7_4); (try clear hfz7_0); (try clear hfz7_1); (try clear hfz7_2); (try clear hfz7_3); (try clear hfz7_4)
    obtain ⟨kq, x28_10, rfl, HA, HJ10, BK185, BK186, HB⟩ := hcut
    cases kq with
    | zero => exact absurd HA.out (by simp [instr_Decode.j1])
    | succ kj10 =>
     have H := HA.out
     clear HA
     simp only [instr_Decode.j1] at H
     by_cases c13 : x28_10 = true
     ·
      subst c13
      have H1 : ((word_Sext.f a0 16).bind fun t188 => ((instr_Encode.f kj10 (wrap64 (a0 / 16777216)) x187001_2 x187002_2 0 (wrap64 (t188))).bind fun bt189 => (if bt189.2 = 0 then (if bt189.1 = a0 then (some ((wrap64 (a0 / 16777216)), x187001_2, x187002_2, 0, wrap64 (t188), 0)) else (some (0, 0, 0, 0, 0, 21))) else (some (0, 0, 0, 0, 0, 21))))) = some (r1, r2, r3, r4, r5, r6) := by rw [if_pos rfl] at H; exact H
      clear H
      have H := H1
      clear H1
      replace H := oB H
      obtain ⟨t188, A140, H⟩ := H
      replace H : ((instr_Encode.f kj10 (wrap64 (a0 / 16777216)) x187001_2 x187002_2 0 (wrap64 (t188))).bind fun bt189 => (if bt189.2 = 0 then (if bt189.1 = a0 then (some ((wrap64 (a0 / 16777216)), x187001_2, x187002_2, 0, wrap64 (t188), 0)) else (some (0, 0, 0, 0, 0, 21))) else (some (0, 0, 0, 0, 0, 21)))) = some (r1, r2, r3, r4, r5, r6) := H
      have A14 := mK A140
      clear A140
      replace H := oB H
      obtain ⟨⟨t189, t190⟩, A150, H⟩ := H
      replace H : (if t190 = 0 then (if t189 = a0 then (some ((wrap64 (a0 / 16777216)), x187001_2, x187002_2, 0, wrap64 (t188), 0)) else (some (0, 0, 0, 0, 0, 21))) else (some (0, 0, 0, 0, 0, 21))) = some (r1, r2, r3, r4, r5, r6) := H
      have A15 := mK A150
      clear A150
      by_cases c16 : t190 = 0
      ·
       rw [if_pos c16] at H
       have c16b0 : (t190 == 0) = true := beq_iff_eq.mpr c16
       have c16b1 : (t190 != 0) = false := bR c16
       clear c16
       by_cases c17 : t189 = a0
       ·
        rw [if_pos c17] at H
        have c17b0 : (t189 == a0) = true := beq_iff_eq.mpr c17
        have c17b1 : (t189 != a0) = false := bR c17
        clear c17
        simp only [Option.some.injEq, Prod.mk.injEq] at H
        obtain ⟨rfl, rfl, rfl, rfl, rfl, rfl⟩ := H
        go_wp2_with (first | ((with_reducible refine gate_callee (f := 62) rfl ?_); refine goesL_ (some 32) rfl rfl Try.func62 (by kernel_rfl) rfl #[.int .u32 a0, .int .i64 16] rfl (by (try simp only [List.map_toArray, List.map_cons, List.map_nil]); first | done | rfl) ?_; (with_reducible refine (word_Sext.calls a0 16 t188 _ A14.out).mono ?_); rintro e w18 ⟨rfl, hb⟩; refine ⟨_, rfl, ?_⟩; have n0_ := mK (kB (g := gb185) (o := o5 0 0 0 0 0 120) (by (with_reducible repeat (first | refine kN ?_ _ | refine kD ?_ | refine kA ?_ _)); exact BK185.out) hb); have n1_ := mK (kB (g := gb186) (o := .cells #[.int .i64 (wrap64 (a0 / 16777216)), .int .i64 x187001_2, .int .i64 x187002_2, .int .i64 0, .int .i64 0] 120 (0, 0)) (by (with_reducible repeat (first | refine kN ?_ _ | refine kD ?_ | refine kA ?_ _)); exact BK186.out) hb); have n2_ := mK (bP (by repeat (first | (with_reducible first | exact HB.out | apply bA | apply bN | apply bD | refine bS ?_ GE185.out | refine bS ?_ GE186.out) | exact HB.out)) hb); clear BK185; clear BK186; clear HB; have BK185 := n0_; have BK186 := n1_; have HB := n2_; clear n0_ n1_ n2_; (try clear hb); have hnb19 := NB186_185.out; have hnc19 := NB185_186.out; obtain ⟨hcz20_0, hcz20_1, hcz20_2, hcz20_3, hcz20_4, hfz20_0, hfz20_1, hfz20_2, hfz20_3, hfz20_4⟩ := cf5 BK186.out) | ((with_reducible refine gate_callee (f := 63) rfl ?_); refine goesL_ (some 57) rfl rfl Try.func63 (by kernel_rfl) rfl #[.agg #[.int .i64 (wrap64 (a0 / 16777216)), .int .i64 x187001_2, .int .i64 x187002_2, .int .i64 0, .int .i64 (wrap64 (t188))]] rfl (by (try simp only [List.map_toArray, List.map_cons, List.map_nil]); first | done | rfl) ?_; (with_reducible refine (instr_Encode.calls kj10 (wrap64 (a0 / 16777216)) x187001_2 x187002_2 0 (wrap64 (t188)) t189 t190 _ A15.out).mono ?_); rintro e w21 ⟨rfl, hb⟩; refine ⟨_, rfl, ?_⟩; have n0_ := mK (kB (g := gb185) (o := o5 0 0 0 0 0 120) (by (with_reducible repeat (first | refine kN ?_ _ | refine kD ?_ | refine kA ?_ _)); refine kR ?_ NB185_186.out _; (with_reducible repeat (first | refine kN ?_ _ | refine kD ?_ | refine kA ?_ _)); exact BK185.out) hb); have n1_ := mK (kB (g := gb186) (o := .cells #[.int .i64 (wrap64 (a0 / 16777216)), .int .i64 x187001_2, .int .i64 x187002_2, .int .i64 0, .int .i64 (wrap64 (t188))] 120 (0, 0)) (by (with_reducible repeat (first | refine kN ?_ _ | refine kD ?_ | refine kA ?_ _)); refine kP (cs := #[.int .i64 (wrap64 (a0 / 16777216)), .int .i64 x187001_2, .int .i64 x187002_2, .int .i64 0, .int .i64 0]) ?_ 4 _ rfl; (with_reducible repeat (first | refine kN ?_ _ | refine kD ?_ | refine kA ?_ _)); exact BK186.out) hb); have n2_ := mK (bP (by repeat (first | (with_reducible first | exact HB.out | apply bA | apply bN | apply bD | refine bS ?_ GE185.out | refine bS ?_ GE186.out) | exact HB.out)) hb); clear BK185; clear BK186; clear HB; have BK185 := n0_; have BK186 := n1_; have HB := n2_; clear n0_ n1_ n2_; (try clear hb); obtain ⟨hcz22_0, hcz22_1, hcz22_2, hcz22_3, hcz22_4, hfz22_0, hfz22_1, hfz22_2, hfz22_3, hfz22_4⟩ := cf5 BK186.out; obtain ⟨hcz23_0, hcz23_1, hcz23_2, hcz23_3, hcz23_4, hfz23_0, hfz23_1, hfz23_2, hfz23_3, hfz23_4⟩ := cf5 BK185.out))
        refine bodyPost_ret (results_ct rfl _ _ gb185 120 #[.int .i64 (wrap64 (a0 / 16777216)), .int .i64 x187001_2, .int .i64 x187002_2, .int .i64 0, .int .i64 (wrap64 (t188))] (0, 0) _ rfl (by (with_reducible repeat (first | refine kN ?_ _ | refine kD ?_ | refine kA ?_ _)); refine kP (cs := #[.int .i64 (wrap64 (a0 / 16777216)), .int .i64 x187001_2, .int .i64 x187002_2, .int .i64 0, .int .i64 0]) ?_ 4 _ rfl; (with_reducible repeat (first | refine kN ?_ _ | refine kD ?_ | refine kA ?_ _)); refine kP (cs := #[.int .i64 (wrap64 (a0 / 16777216)), .int .i64 x187001_2, .int .i64 x187002_2, .int .i64 0, .int .i64 0]) ?_ 3 _ rfl; (with_reducible repeat (first | refine kN ?_ _ | refine kD ?_ | refine kA ?_ _)); refine kP (cs := #[.int .i64 (wrap64 (a0 / 16777216)), .int .i64 x187001_2, .int .i64 0, .int .i64 0, .int .i64 0]) ?_ 2 _ rfl; (with_reducible repeat (first | refine kN ?_ _ | refine kD ?_ | refine kA ?_ _)); refine kP (cs := #[.int .i64 (wrap64 (a0 / 16777216)), .int .i64 0, .int .i64 0, .int .i64 0, .int .i64 0]) ?_ 1 _ rfl; (with_reducible repeat (first | refine kN ?_ _ | refine kD ?_ | refine kA ?_ _)); refine kP (cs := #[.int .i64 0, .int .i64 0, .int .i64 0, .int .i64 0, .int .i64 0]) ?_ 0 _ rfl; (with_reducible repeat (first | refine kN ?_ _ | refine kD ?_ | refine kA ?_ _)); exact BK185.out) Try.underlying120 rfl (by kernel_rfl)) rfl ?_
        exact ⟨by first | rfl | (simp [errW_none, errW_some] <;> rfl) | (simp [*, errW_none, errW_some] <;> rfl), by repeat (first | (with_reducible first | exact HB.out | apply bA | apply bN | apply bD | refine bS ?_ GE185.out | refine bS ?_ GE186.out) | exact HB.out)⟩
       ·
        rw [if_neg c17] at H
        have c17b0 : (t189 == a0) = false := bQ c17
        have c17b1 : (t189 != a0) = true := bne_iff_ne.mpr c17
        simp only [Option.some.injEq, Prod.mk.injEq] at H
        obtain ⟨rfl, rfl, rfl, rfl, rfl, rfl⟩ := H
        go_wp2_with (first | ((with_reducible refine gate_callee (f := 62) rfl ?_); refine goesL_ (some 32) rfl rfl Try.func62 (by kernel_rfl) rfl #[.int .u32 a0, .int .i64 16] rfl (by (try simp only [List.map_toArray, List.map_cons, List.map_nil]); first | done | rfl) ?_; (with_reducible refine (word_Sext.calls a0 16 t188 _ A14.out).mono ?_); rintro e w24 ⟨rfl, hb⟩; refine ⟨_, rfl, ?_⟩; have n0_ := mK (kB (g := gb185) (o := o5 0 0 0 0 0 120) (by (with_reducible repeat (first | refine kN ?_ _ | refine kD ?_ | refine kA ?_ _)); exact BK185.out) hb); have n1_ := mK (kB (g := gb186) (o := .cells #[.int .i64 (wrap64 (a0 / 16777216)), .int .i64 x187001_2, .int .i64 x187002_2, .int .i64 0, .int .i64 0] 120 (0, 0)) (by (with_reducible repeat (first | refine kN ?_ _ | refine kD ?_ | refine kA ?_ _)); exact BK186.out) hb); have n2_ := mK (bP (by repeat (first | (with_reducible first | exact HB.out | apply bA | apply bN | apply bD | refine bS ?_ GE185.out | refine bS ?_ GE186.out) | exact HB.out)) hb); clear BK185; clear BK186; clear HB; have BK185 := n0_; have BK186 := n1_; have HB := n2_; clear n0_ n1_ n2_; (try clear hb); have hnb25 := NB186_185.out; have hnc25 := NB185_186.out; obtain ⟨hcz26_0, hcz26_1, hcz26_2, hcz26_3, hcz26_4, hfz26_0, hfz26_1, hfz26_2, hfz26_3, hfz26_4⟩ := cf5 BK186.out) | ((with_reducible refine gate_callee (f := 63) rfl ?_); refine goesL_ (some 57) rfl rfl Try.func63 (by kernel_rfl) rfl #[.agg #[.int .i64 (wrap64 (a0 / 16777216)), .int .i64 x187001_2, .int .i64 x187002_2, .int .i64 0, .int .i64 (wrap64 (t188))]] rfl (by (try simp only [List.map_toArray, List.map_cons, List.map_nil]); first | done | rfl) ?_; (with_reducible refine (instr_Encode.calls kj10 (wrap64 (a0 / 16777216)) x187001_2 x187002_2 0 (wrap64 (t188)) t189 t190 _ A15.out).mono ?_); rintro e w27 ⟨rfl, hb⟩; refine ⟨_, rfl, ?_⟩; have n0_ := mK (kB (g := gb185) (o := o5 0 0 0 0 0 120) (by (with_reducible repeat (first | refine kN ?_ _ | refine kD ?_ | refine kA ?_ _)); refine kR ?_ NB185_186.out _; (with_reducible repeat (first | refine kN ?_ _ | refine kD ?_ | refine kA ?_ _)); exact BK185.out) hb); have n1_ := mK (kB (g := gb186) (o := .cells #[.int .i64 (wrap64 (a0 / 16777216)), .int .i64 x187001_2, .int .i64 x187002_2, .int .i64 0, .int .i64 (wrap64 (t188))] 120 (0, 0)) (by (with_reducible repeat (first | refine kN ?_ _ | refine kD ?_ | refine kA ?_ _)); refine kP (cs := #[.int .i64 (wrap64 (a0 / 16777216)), .int .i64 x187001_2, .int .i64 x187002_2, .int .i64 0, .int .i64 0]) ?_ 4 _ rfl; (with_reducible repeat (first | refine kN ?_ _ | refine kD ?_ | refine kA ?_ _)); exact BK186.out) hb); have n2_ := mK (bP (by repeat (first | (with_reducible first | exact HB.out | apply bA | apply bN | apply bD | refine bS ?_ GE185.out | refine bS ?_ GE186.out) | exact HB.out)) hb); clear BK185; clear BK186; clear HB; have BK185 := n0_; have BK186 := n1_; have HB := n2_; clear n0_ n1_ n2_; (try clear hb); obtain ⟨hcz28_0, hcz28_1, hcz28_2, hcz28_3, hcz28_4, hfz28_0, hfz28_1, hfz28_2, hfz28_3, hfz28_4⟩ := cf5 BK185.out))
        refine bodyPost_ret (results_ct rfl _ _ gb185 120 #[.int .i64 0, .int .i64 0, .int .i64 0, .int .i64 0, .int .i64 0] (0, 0) _ rfl (by (with_reducible repeat (first | refine kN ?_ _ | refine kD ?_ | refine kA ?_ _)); refine kP (cs := #[.int .i64 0, .int .i64 0, .int .i64 0, .int .i64 0, .int .i64 0]) ?_ 4 _ rfl; (with_reducible repeat (first | refine kN ?_ _ | refine kD ?_ | refine kA ?_ _)); refine kP (cs := #[.int .i64 0, .int .i64 0, .int .i64 0, .int .i64 0, .int .i64 0]) ?_ 3 _ rfl; (with_reducible repeat (first | refine kN ?_ _ | refine kD ?_ | refine kA ?_ _)); refine kP (cs := #[.int .i64 0, .int .i64 0, .int .i64 0, .int .i64 0, .int .i64 0]) ?_ 2 _ rfl; (with_reducible repeat (first | refine kN ?_ _ | refine kD ?_ | refine kA ?_ _)); refine kP (cs := #[.int .i64 0, .int .i64 0, .int .i64 0, .int .i64 0, .int .i64 0]) ?_ 1 _ rfl; (with_reducible repeat (first | refine kN ?_ _ | refine kD ?_ | refine kA ?_ _)); refine kP (cs := #[.int .i64 0, .int .i64 0, .int .i64 0, .int .i64 0, .int .i64 0]) ?_ 0 _ rfl; (with_reducible repeat (first | refine kN ?_ _ | refine kD ?_ | refine kA ?_ _)); exact BK185.out) Try.underlying120 rfl (by kernel_rfl)) rfl ?_
        exact ⟨by first | rfl | (simp [errW_none, errW_some] <;> rfl) | (simp [*, errW_none, errW_some] <;> rfl), by repeat (first | (with_reducible first | exact HB.out | apply bA | apply bN | apply bD | refine bS ?_ GE185.out | refine bS ?_ GE186.out) | exact HB.out)⟩
      ·
       rw [if_neg c16] at H
       have c16b0 : (t190 == 0) = false := bQ c16
       have c16b1 : (t190 != 0) = true := bne_iff_ne.mpr c16
       simp only [Option.some.injEq, Prod.mk.injEq] at H
       obtain ⟨rfl, rfl, rfl, rfl, rfl, rfl⟩ := H
       go_wp2_with (first | ((with_reducible refine gate_callee (f := 62) rfl ?_); refine goesL_ (some 32) rfl rfl Try.func62 (by kernel_rfl) rfl #[.int .u32 a0, .int .i64 16] rfl (by (try simp only [List.map_toArray, List.map_cons, List.map_nil]); first | done | rfl) ?_; (with_reducible refine (word_Sext.calls a0 16 t188 _ A14.out).mono ?_); rintro e w29 ⟨rfl, hb⟩; refine ⟨_, rfl, ?_⟩; have n0_ := mK (kB (g := gb185) (o := o5 0 0 0 0 0 120) (by (with_reducible repeat (first | refine kN ?_ _ | refine kD ?_ | refine kA ?_ _)); exact BK185.out) hb); have n1_ := mK (kB (g := gb186) (o := .cells #[.int .i64 (wrap64 (a0 / 16777216)), .int .i64 x187001_2, .int .i64 x187002_2, .int .i64 0, .int .i64 0] 120 (0, 0)) (by (with_reducible repeat (first | refine kN ?_ _ | refine kD ?_ | refine kA ?_ _)); exact BK186.out) hb); have n2_ := mK (bP (by repeat (first | (with_reducible first | exact HB.out | apply bA | apply bN | apply bD | refine bS ?_ GE185.out | refine bS ?_ GE186.out) | exact HB.out)) hb); clear BK185; clear BK186; clear HB; have BK185 := n0_; have BK186 := n1_; have HB := n2_; clear n0_ n1_ n2_; (try clear hb); have hnb30 := NB186_185.out; have hnc30 := NB185_186.out; obtain ⟨hcz31_0, hcz31_1, hcz31_2, hcz31_3, hcz31_4, hfz31_0, hfz31_1, hfz31_2, hfz31_3, hfz31_4⟩ := cf5 BK186.out) | ((with_reducible refine gate_callee (f := 63) rfl ?_); refine goesL_ (some 57) rfl rfl Try.func63 (by kernel_rfl) rfl #[.agg #[.int .i64 (wrap64 (a0 / 16777216)), .int .i64 x187001_2, .int .i64 x187002_2, .int .i64 0, .int .i64 (wrap64 (t188))]] rfl (by (try simp only [List.map_toArray, List.map_cons, List.map_nil]); first | done | rfl) ?_; (with_reducible refine (instr_Encode.calls kj10 (wrap64 (a0 / 16777216)) x187001_2 x187002_2 0 (wrap64 (t188)) t189 t190 _ A15.out).mono ?_); rintro e w32 ⟨rfl, hb⟩; refine ⟨_, rfl, ?_⟩; have n0_ := mK (kB (g := gb185) (o := o5 0 0 0 0 0 120) (by (with_reducible repeat (first | refine kN ?_ _ | refine kD ?_ | refine kA ?_ _)); refine kR ?_ NB185_186.out _; (with_reducible repeat (first | refine kN ?_ _ | refine kD ?_ | refine kA ?_ _)); exact BK185.out) hb); have n1_ := mK (kB (g := gb186) (o := .cells #[.int .i64 (wrap64 (a0 / 16777216)), .int .i64 x187001_2, .int .i64 x187002_2, .int .i64 0, .int .i64 (wrap64 (t188))] 120 (0, 0)) (by (with_reducible repeat (first | refine kN ?_ _ | refine kD ?_ | refine kA ?_ _)); refine kP (cs := #[.int .i64 (wrap64 (a0 / 16777216)), .int .i64 x187001_2, .int .i64 x187002_2, .int .i64 0, .int .i64 0]) ?_ 4 _ rfl; (with_reducible repeat (first | refine kN ?_ _ | refine kD ?_ | refine kA ?_ _)); exact BK186.out) hb); have n2_ := mK (bP (by repeat (first | (with_reducible first | exact HB.out | apply bA | apply bN | apply bD | refine bS ?_ GE185.out | refine bS ?_ GE186.out) | exact HB.out)) hb); clear BK185; clear BK186; clear HB; have BK185 := n0_; have BK186 := n1_; have HB := n2_; clear n0_ n1_ n2_; (try clear hb); obtain ⟨hcz33_0, hcz33_1, hcz33_2, hcz33_3, hcz33_4, hfz33_0, hfz33_1, hfz33_2, hfz33_3, hfz33_4⟩ := cf5 BK185.out))
       refine bodyPost_ret (results_ct rfl _ _ gb185 120 #[.int .i64 0, .int .i64 0, .int .i64 0, .int .i64 0, .int .i64 0] (0, 0) _ rfl (by (with_reducible repeat (first | refine kN ?_ _ | refine kD ?_ | refine kA ?_ _)); refine kP (cs := #[.int .i64 0, .int .i64 0, .int .i64 0, .int .i64 0, .int .i64 0]) ?_ 4 _ rfl; (with_reducible repeat (first | refine kN ?_ _ | refine kD ?_ | refine kA ?_ _)); refine kP (cs := #[.int .i64 0, .int .i64 0, .int .i64 0, .int .i64 0, .int .i64 0]) ?_ 3 _ rfl; (with_reducible repeat (first | refine kN ?_ _ | refine kD ?_ | refine kA ?_ _)); refine kP (cs := #[.int .i64 0, .int .i64 0, .int .i64 0, .int .i64 0, .int .i64 0]) ?_ 2 _ rfl; (with_reducible repeat (first | refine kN ?_ _ | refine kD ?_ | refine kA ?_ _)); refine kP (cs := #[.int .i64 0, .int .i64 0, .int .i64 0, .int .i64 0, .int .i64 0]) ?_ 1 _ rfl; (with_reducible repeat (first | refine kN ?_ _ | refine kD ?_ | refine kA ?_ _)); refine kP (cs := #[.int .i64 0, .int .i64 0, .int .i64 0, .int .i64 0, .int .i64 0]) ?_ 0 _ rfl; (with_reducible repeat (first | refine kN ?_ _ | refine kD ?_ | refine kA ?_ _)); exact BK185.out) Try.underlying120 rfl (by kernel_rfl)) rfl ?_
       exact ⟨by first | rfl | (simp [errW_none, errW_some] <;> rfl) | (simp [*, errW_none, errW_some] <;> rfl), by repeat (first | (with_reducible first | exact HB.out | apply bA | apply bN | apply bD | refine bS ?_ GE185.out | refine bS ?_ GE186.out) | exact HB.out)⟩
     ·
      replace c13 := Bool.eq_false_iff.mpr c13
      subst c13
      have H1 : (if t187 = 2 then (instr_Decode.j2 kj10 a0 t187 (t187 == 2) (wrap64 (a0 / 16777216)) x187001_2 x187002_2 0 0) else (if t187 = 4 then (instr_Decode.j2 kj10 a0 t187 (t187 == 4) (wrap64 (a0 / 16777216)) x187001_2 x187002_2 0 0) else (instr_Decode.j2 kj10 a0 t187 (t187 == 8) (wrap64 (a0 / 16777216)) x187001_2 x187002_2 0 0))) = some (r1, r2, r3, r4, r5, r6) := by rw [if_neg (show ¬ (false = true) by decide)] at H; exact H
      clear H
      have H := H1
      clear H1
      have HC34 := mK H
      clear H
      go_upto_if 35 with (fail)
      go_cut [35] (fun v35 wc => ∃ (kq : Nat) (x35_33 : Bool), v35 = .bool x35_33 ∧ Aside0 (instr_Decode.j2 kq a0 t187 x35_33 (wrap64 (a0 / 16777216)) x187001_2 x187002_2 0 0 = some (r1, r2, r3, r4, r5, r6)) ∧ Aside0 (kq ≤ kj10) ∧ Aside0 (wc.heap[gb185]? = some (o5 0 0 0 0 0 120)) ∧ Aside0 (wc.heap[gb186]? = some (.cells #[.int .i64 (wrap64 (a0 / 16777216)), .int .i64 x187001_2, .int .i64 x187002_2, .int .i64 0, .int .i64 0] 120 (0, 0))) ∧ Aside0 (Below w.heap.size w wc))
      case first =>
       have H := HC34.out
       clear HC34
       by_cases c35 : t187 = 2
       ·
        rw [if_pos c35] at H
        have c35b0 : (t187 == 2) = true := beq_iff_eq.mpr c35
        have c35b1 : (t187 != 2) = false := bR c35
        clear c35
        (first | rw [c35b0] | (simp only [i64_w, i32_w]; rw [c35b0]) | skip)
        have H' := mK H
        clear H
        go_wp2
        go_meet
        case rel => exact ⟨_, ((t187 == 2)), (by first | rfl | (simp; done) | (simp [*]; done)), H', ⟨by have := HJ2.out; have := HJ10.out; first | omega | exact Nat.le_refl _⟩, ⟨by (with_reducible repeat (first | refine kN ?_ _ | refine kD ?_ | refine kA ?_ _)); exact BK185.out⟩, ⟨by (with_reducible repeat (first | refine kN ?_ _ | refine kD ?_ | refine kA ?_ _)); exact BK186.out⟩, ⟨by repeat (first | (with_reducible first | exact HB.out | apply bA | apply bN | apply bD | refine bS ?_ GE185.out | refine bS ?_ GE186.out) | exact HB.out)⟩⟩
       ·
        rw [if_neg c35] at H
        have c35b0 : (t187 == 2) = false := bQ c35
        have c35b1 : (t187 != 2) = true := bne_iff_ne.mpr c35
        (first | rw [c35b0] | (simp only [i64_w, i32_w]; rw [c35b0]) | skip)
        by_cases c36 : t187 = 4
        ·
         rw [if_pos c36] at H
         have c36b0 : (t187 == 4) = true := beq_iff_eq.mpr c36
         have c36b1 : (t187 != 4) = false := bR c36
         clear c36
         have H' := mK H
         clear H
         go_wp2
         go_meet
         case rel => exact ⟨_, ((t187 == 4)), (by first | rfl | (simp; done) | (simp [*]; done)), H', ⟨by have := HJ2.out; have := HJ10.out; first | omega | exact Nat.le_refl _⟩, ⟨by (with_reducible repeat (first | refine kN ?_ _ | refine kD ?_ | refine kA ?_ _)); exact BK185.out⟩, ⟨by (with_reducible repeat (first | refine kN ?_ _ | refine kD ?_ | refine kA ?_ _)); exact BK186.out⟩, ⟨by repeat (first | (with_reducible first | exact HB.out | apply bA | apply bN | apply bD | refine bS ?_ GE185.out | refine bS ?_ GE186.out) | exact HB.out)⟩⟩
        ·
         rw [if_neg c36] at H
         have c36b0 : (t187 == 4) = false := bQ c36
         have c36b1 : (t187 != 4) = true := bne_iff_ne.mpr c36
         have H' := mK H
         clear H
         go_wp2
         go_meet
         case rel => exact ⟨_, ((t187 == 8)), (by first | rfl | (simp; done) | (simp [*]; done)), H', ⟨by have := HJ2.out; have := HJ10.out; first | omega | exact Nat.le_refl _⟩, ⟨by (with_reducible repeat (first | refine kN ?_ _ | refine kD ?_ | refine kA ?_ _)); exact BK185.out⟩, ⟨by (with_reducible repeat (first | refine kN ?_ _ | refine kD ?_ | refine kA ?_ _)); exact BK186.out⟩, ⟨by repeat (first | (with_reducible first | exact HB.out | apply bA | apply bN | apply bD | refine bS ?_ GE185.out | refine bS ?_ GE186.out) | exact HB.out)⟩⟩
      case rest =>
       clear HC34
       (try clear c13); (try clear hcz7_0); (try clear hcz7_1); (try clear hcz7_2); (try clear hcz7_3); (try clear hcz7_4); (try clear hfz7_0); (try clear hfz7_1); (try clear hfz7_2); (try clear hfz7_3); (try clear hfz7_4)
       obtain ⟨kq, x35_33, rfl, HA, HJ33, BK185, BK186, HB⟩ := hcut
       cases kq with
       | zero => exact absurd HA.out (by simp [instr_Decode.j2])
       | succ kj33 =>
        have H := HA.out
        clear HA
        simp only [instr_Decode.j2] at H
        by_cases c37 : x35_33 = true
        ·
         subst c37
         have H1 : ((instr_Encode.f kj33 (wrap64 (a0 / 16777216)) x187001_2 x187002_2 0 (wrap64 (Go.bits .and .u32 a0 65535))).bind fun bt191 => (if bt191.2 = 0 then (if bt191.1 = a0 then (some ((wrap64 (a0 / 16777216)), x187001_2, x187002_2, 0, wrap64 (Go.bits .and .u32 a0 65535), 0)) else (some (0, 0, 0, 0, 0, 21))) else (some (0, 0, 0, 0, 0, 21)))) = some (r1, r2, r3, r4, r5, r6) := by rw [if_pos rfl] at H; exact H
         clear H
         have H := H1
         clear H1
         replace H := oB H
         obtain ⟨⟨t191, t192⟩, A380, H⟩ := H
         replace H : (if t192 = 0 then (if t191 = a0 then (some ((wrap64 (a0 / 16777216)), x187001_2, x187002_2, 0, wrap64 (Go.bits .and .u32 a0 65535), 0)) else (some (0, 0, 0, 0, 0, 21))) else (some (0, 0, 0, 0, 0, 21))) = some (r1, r2, r3, r4, r5, r6) := H
         have A38 := mK A380
         clear A380
         by_cases c39 : t192 = 0
         ·
          rw [if_pos c39] at H
          have c39b0 : (t192 == 0) = true := beq_iff_eq.mpr c39
          have c39b1 : (t192 != 0) = false := bR c39
          clear c39
          by_cases c40 : t191 = a0
          ·
           rw [if_pos c40] at H
           have c40b0 : (t191 == a0) = true := beq_iff_eq.mpr c40
           have c40b1 : (t191 != a0) = false := bR c40
           clear c40
           simp only [Option.some.injEq, Prod.mk.injEq] at H
           obtain ⟨rfl, rfl, rfl, rfl, rfl, rfl⟩ := H
           have hnb41 := NB186_185.out
           have hnc41 := NB185_186.out
           obtain ⟨hcz42_0, hcz42_1, hcz42_2, hcz42_3, hcz42_4, hfz42_0, hfz42_1, hfz42_2, hfz42_3, hfz42_4⟩ := cf5 BK186.out
           go_wp2_with (first | ((with_reducible refine gate_callee (f := 63) rfl ?_); refine goesL_ (some 57) rfl rfl Try.func63 (by kernel_rfl) rfl #[.agg #[.int .i64 (wrap64 (a0 / 16777216)), .int .i64 x187001_2, .int .i64 x187002_2, .int .i64 0, .int .i64 (wrap64 (Go.bits .and .u32 a0 65535))]] rfl (by (try simp only [List.map_toArray, List.map_cons, List.map_nil]); first | done | rfl) ?_; (with_reducible refine (instr_Encode.calls kj33 (wrap64 (a0 / 16777216)) x187001_2 x187002_2 0 (wrap64 (Go.bits .and .u32 a0 65535)) t191 t192 _ A38.out).mono ?_); rintro e w43 ⟨rfl, hb⟩; refine ⟨_, rfl, ?_⟩; have n0_ := mK (kB (g := gb185) (o := o5 0 0 0 0 0 120) (by (with_reducible repeat (first | refine kN ?_ _ | refine kD ?_ | refine kA ?_ _)); refine kR ?_ NB185_186.out _; (with_reducible repeat (first | refine kN ?_ _ | refine kD ?_ | refine kA ?_ _)); exact BK185.out) hb); have n1_ := mK (kB (g := gb186) (o := .cells #[.int .i64 (wrap64 (a0 / 16777216)), .int .i64 x187001_2, .int .i64 x187002_2, .int .i64 0, .int .i64 (wrap64 (Go.bits .and .u32 a0 65535))] 120 (0, 0)) (by (with_reducible repeat (first | refine kN ?_ _ | refine kD ?_ | refine kA ?_ _)); refine kP (cs := #[.int .i64 (wrap64 (a0 / 16777216)), .int .i64 x187001_2, .int .i64 x187002_2, .int .i64 0, .int .i64 0]) ?_ 4 _ rfl; (with_reducible repeat (first | refine kN ?_ _ | refine kD ?_ | refine kA ?_ _)); exact BK186.out) hb); have n2_ := mK (bP (by repeat (first | (with_reducible first | exact HB.out | apply bA | apply bN | apply bD | refine bS ?_ GE185.out | refine bS ?_ GE186.out) | exact HB.out)) hb); clear BK185; clear BK186; clear HB; have BK185 := n0_; have BK186 := n1_; have HB := n2_; clear n0_ n1_ n2_; (try clear hb); obtain ⟨hcz44_0, hcz44_1, hcz44_2, hcz44_3, hcz44_4, hfz44_0, hfz44_1, hfz44_2, hfz44_3, hfz44_4⟩ := cf5 BK186.out; obtain ⟨hcz45_0, hcz45_1, hcz45_2, hcz45_3, hcz45_4, hfz45_0, hfz45_1, hfz45_2, hfz45_3, hfz45_4⟩ := cf5 BK185.out))
           refine bodyPost_ret (results_ct rfl _ _ gb185 120 #[.int .i64 (wrap64 (a0 / 16777216)), .int .i64 x187001_2, .int .i64 x187002_2, .int .i64 0, .int .i64 (wrap64 (Go.bits .and .u32 a0 65535))] (0, 0) _ rfl (by (with_reducible repeat (first | refine kN ?_ _ | refine kD ?_ | refine kA ?_ _)); refine kP (cs := #[.int .i64 (wrap64 (a0 / 16777216)), .int .i64 x187001_2, .int .i64 x187002_2, .int .i64 0, .int .i64 0]) ?_ 4 _ rfl; (with_reducible repeat (first | refine kN ?_ _ | refine kD ?_ | refine kA ?_ _)); refine kP (cs := #[.int .i64 (wrap64 (a0 / 16777216)), .int .i64 x187001_2, .int .i64 x187002_2, .int .i64 0, .int .i64 0]) ?_ 3 _ rfl; (with_reducible repeat (first | refine kN ?_ _ | refine kD ?_ | refine kA ?_ _)); refine kP (cs := #[.int .i64 (wrap64 (a0 / 16777216)), .int .i64 x187001_2, .int .i64 0, .int .i64 0, .int .i64 0]) ?_ 2 _ rfl; (with_reducible repeat (first | refine kN ?_ _ | refine kD ?_ | refine kA ?_ _)); refine kP (cs := #[.int .i64 (wrap64 (a0 / 16777216)), .int .i64 0, .int .i64 0, .int .i64 0, .int .i64 0]) ?_ 1 _ rfl; (with_reducible repeat (first | refine kN ?_ _ | refine kD ?_ | refine kA ?_ _)); refine kP (cs := #[.int .i64 0, .int .i64 0, .int .i64 0, .int .i64 0, .int .i64 0]) ?_ 0 _ rfl; (with_reducible repeat (first | refine kN ?_ _ | refine kD ?_ | refine kA ?_ _)); exact BK185.out) Try.underlying120 rfl (by kernel_rfl)) rfl ?_
           exact ⟨by first | rfl | (simp [errW_none, errW_some] <;> rfl) | (simp [*, errW_none, errW_some] <;> rfl), by repeat (first | (with_reducible first | exact HB.out | apply bA | apply bN | apply bD | refine bS ?_ GE185.out | refine bS ?_ GE186.out) | exact HB.out)⟩
          ·
           rw [if_neg c40] at H
           have c40b0 : (t191 == a0) = false := bQ c40
           have c40b1 : (t191 != a0) = true := bne_iff_ne.mpr c40
           simp only [Option.some.injEq, Prod.mk.injEq] at H
           obtain ⟨rfl, rfl, rfl, rfl, rfl, rfl⟩ := H
           have hnb46 := NB186_185.out
           have hnc46 := NB185_186.out
           obtain ⟨hcz47_0, hcz47_1, hcz47_2, hcz47_3, hcz47_4, hfz47_0, hfz47_1, hfz47_2, hfz47_3, hfz47_4⟩ := cf5 BK186.out
           go_wp2_with (first | ((with_reducible refine gate_callee (f := 63) rfl ?_); refine goesL_ (some 57) rfl rfl Try.func63 (by kernel_rfl) rfl #[.agg #[.int .i64 (wrap64 (a0 / 16777216)), .int .i64 x187001_2, .int .i64 x187002_2, .int .i64 0, .int .i64 (wrap64 (Go.bits .and .u32 a0 65535))]] rfl (by (try simp only [List.map_toArray, List.map_cons, List.map_nil]); first | done | rfl) ?_; (with_reducible refine (instr_Encode.calls kj33 (wrap64 (a0 / 16777216)) x187001_2 x187002_2 0 (wrap64 (Go.bits .and .u32 a0 65535)) t191 t192 _ A38.out).mono ?_); rintro e w48 ⟨rfl, hb⟩; refine ⟨_, rfl, ?_⟩; have n0_ := mK (kB (g := gb185) (o := o5 0 0 0 0 0 120) (by (with_reducible repeat (first | refine kN ?_ _ | refine kD ?_ | refine kA ?_ _)); refine kR ?_ NB185_186.out _; (with_reducible repeat (first | refine kN ?_ _ | refine kD ?_ | refine kA ?_ _)); exact BK185.out) hb); have n1_ := mK (kB (g := gb186) (o := .cells #[.int .i64 (wrap64 (a0 / 16777216)), .int .i64 x187001_2, .int .i64 x187002_2, .int .i64 0, .int .i64 (wrap64 (Go.bits .and .u32 a0 65535))] 120 (0, 0)) (by (with_reducible repeat (first | refine kN ?_ _ | refine kD ?_ | refine kA ?_ _)); refine kP (cs := #[.int .i64 (wrap64 (a0 / 16777216)), .int .i64 x187001_2, .int .i64 x187002_2, .int .i64 0, .int .i64 0]) ?_ 4 _ rfl; (with_reducible repeat (first | refine kN ?_ _ | refine kD ?_ | refine kA ?_ _)); exact BK186.out) hb); have n2_ := mK (bP (by repeat (first | (with_reducible first | exact HB.out | apply bA | apply bN | apply bD | refine bS ?_ GE185.out | refine bS ?_ GE186.out) | exact HB.out)) hb); clear BK185; clear BK186; clear HB; have BK185 := n0_; have BK186 := n1_; have HB := n2_; clear n0_ n1_ n2_; (try clear hb); obtain ⟨hcz49_0, hcz49_1, hcz49_2, hcz49_3, hcz49_4, hfz49_0, hfz49_1, hfz49_2, hfz49_3, hfz49_4⟩ := cf5 BK185.out))
           refine bodyPost_ret (results_ct rfl _ _ gb185 120 #[.int .i64 0, .int .i64 0, .int .i64 0, .int .i64 0, .int .i64 0] (0, 0) _ rfl (by (with_reducible repeat (first | refine kN ?_ _ | refine kD ?_ | refine kA ?_ _)); refine kP (cs := #[.int .i64 0, .int .i64 0, .int .i64 0, .int .i64 0, .int .i64 0]) ?_ 4 _ rfl; (with_reducible repeat (first | refine kN ?_ _ | refine kD ?_ | refine kA ?_ _)); refine kP (cs := #[.int .i64 0, .int .i64 0, .int .i64 0, .int .i64 0, .int .i64 0]) ?_ 3 _ rfl; (with_reducible repeat (first | refine kN ?_ _ | refine kD ?_ | refine kA ?_ _)); refine kP (cs := #[.int .i64 0, .int .i64 0, .int .i64 0, .int .i64 0, .int .i64 0]) ?_ 2 _ rfl; (with_reducible repeat (first | refine kN ?_ _ | refine kD ?_ | refine kA ?_ _)); refine kP (cs := #[.int .i64 0, .int .i64 0, .int .i64 0, .int .i64 0, .int .i64 0]) ?_ 1 _ rfl; (with_reducible repeat (first | refine kN ?_ _ | refine kD ?_ | refine kA ?_ _)); refine kP (cs := #[.int .i64 0, .int .i64 0, .int .i64 0, .int .i64 0, .int .i64 0]) ?_ 0 _ rfl; (with_reducible repeat (first | refine kN ?_ _ | refine kD ?_ | refine kA ?_ _)); exact BK185.out) Try.underlying120 rfl (by kernel_rfl)) rfl ?_
           exact ⟨by first | rfl | (simp [errW_none, errW_some] <;> rfl) | (simp [*, errW_none, errW_some] <;> rfl), by repeat (first | (with_reducible first | exact HB.out | apply bA | apply bN | apply bD | refine bS ?_ GE185.out | refine bS ?_ GE186.out) | exact HB.out)⟩
         ·
          rw [if_neg c39] at H
          have c39b0 : (t192 == 0) = false := bQ c39
          have c39b1 : (t192 != 0) = true := bne_iff_ne.mpr c39
          simp only [Option.some.injEq, Prod.mk.injEq] at H
          obtain ⟨rfl, rfl, rfl, rfl, rfl, rfl⟩ := H
          have hnb50 := NB186_185.out
          have hnc50 := NB185_186.out
          obtain ⟨hcz51_0, hcz51_1, hcz51_2, hcz51_3, hcz51_4, hfz51_0, hfz51_1, hfz51_2, hfz51_3, hfz51_4⟩ := cf5 BK186.out
          go_wp2_with (first | ((with_reducible refine gate_callee (f := 63) rfl ?_); refine goesL_ (some 57) rfl rfl Try.func63 (by kernel_rfl) rfl #[.agg #[.int .i64 (wrap64 (a0 / 16777216)), .int .i64 x187001_2, .int .i64 x187002_2, .int .i64 0, .int .i64 (wrap64 (Go.bits .and .u32 a0 65535))]] rfl (by (try simp only [List.map_toArray, List.map_cons, List.map_nil]); first | done | rfl) ?_; (with_reducible refine (instr_Encode.calls kj33 (wrap64 (a0 / 16777216)) x187001_2 x187002_2 0 (wrap64 (Go.bits .and .u32 a0 65535)) t191 t192 _ A38.out).mono ?_); rintro e w52 ⟨rfl, hb⟩; refine ⟨_, rfl, ?_⟩; have n0_ := mK (kB (g := gb185) (o := o5 0 0 0 0 0 120) (by (with_reducible repeat (first | refine kN ?_ _ | refine kD ?_ | refine kA ?_ _)); refine kR ?_ NB185_186.out _; (with_reducible repeat (first | refine kN ?_ _ | refine kD ?_ | refine kA ?_ _)); exact BK185.out) hb); have n1_ := mK (kB (g := gb186) (o := .cells #[.int .i64 (wrap64 (a0 / 16777216)), .int .i64 x187001_2, .int .i64 x187002_2, .int .i64 0, .int .i64 (wrap64 (Go.bits .and .u32 a0 65535))] 120 (0, 0)) (by (with_reducible repeat (first | refine kN ?_ _ | refine kD ?_ | refine kA ?_ _)); refine kP (cs := #[.int .i64 (wrap64 (a0 / 16777216)), .int .i64 x187001_2, .int .i64 x187002_2, .int .i64 0, .int .i64 0]) ?_ 4 _ rfl; (with_reducible repeat (first | refine kN ?_ _ | refine kD ?_ | refine kA ?_ _)); exact BK186.out) hb); have n2_ := mK (bP (by repeat (first | (with_reducible first | exact HB.out | apply bA | apply bN | apply bD | refine bS ?_ GE185.out | refine bS ?_ GE186.out) | exact HB.out)) hb); clear BK185; clear BK186; clear HB; have BK185 := n0_; have BK186 := n1_; have HB := n2_; clear n0_ n1_ n2_; (try clear hb); obtain ⟨hcz53_0, hcz53_1, hcz53_2, hcz53_3, hcz53_4, hfz53_0, hfz53_1, hfz53_2, hfz53_3, hfz53_4⟩ := cf5 BK185.out))
          refine bodyPost_ret (results_ct rfl _ _ gb185 120 #[.int .i64 0, .int .i64 0, .int .i64 0, .int .i64 0, .int .i64 0] (0, 0) _ rfl (by (with_reducible repeat (first | refine kN ?_ _ | refine kD ?_ | refine kA ?_ _)); refine kP (cs := #[.int .i64 0, .int .i64 0, .int .i64 0, .int .i64 0, .int .i64 0]) ?_ 4 _ rfl; (with_reducible repeat (first | refine kN ?_ _ | refine kD ?_ | refine kA ?_ _)); refine kP (cs := #[.int .i64 0, .int .i64 0, .int .i64 0, .int .i64 0, .int .i64 0]) ?_ 3 _ rfl; (with_reducible repeat (first | refine kN ?_ _ | refine kD ?_ | refine kA ?_ _)); refine kP (cs := #[.int .i64 0, .int .i64 0, .int .i64 0, .int .i64 0, .int .i64 0]) ?_ 2 _ rfl; (with_reducible repeat (first | refine kN ?_ _ | refine kD ?_ | refine kA ?_ _)); refine kP (cs := #[.int .i64 0, .int .i64 0, .int .i64 0, .int .i64 0, .int .i64 0]) ?_ 1 _ rfl; (with_reducible repeat (first | refine kN ?_ _ | refine kD ?_ | refine kA ?_ _)); refine kP (cs := #[.int .i64 0, .int .i64 0, .int .i64 0, .int .i64 0, .int .i64 0]) ?_ 0 _ rfl; (with_reducible repeat (first | refine kN ?_ _ | refine kD ?_ | refine kA ?_ _)); exact BK185.out) Try.underlying120 rfl (by kernel_rfl)) rfl ?_
          exact ⟨by first | rfl | (simp [errW_none, errW_some] <;> rfl) | (simp [*, errW_none, errW_some] <;> rfl), by repeat (first | (with_reducible first | exact HB.out | apply bA | apply bN | apply bD | refine bS ?_ GE185.out | refine bS ?_ GE186.out) | exact HB.out)⟩
        ·
         replace c37 := Bool.eq_false_iff.mpr c37
         subst c37
         have H1 : (if t187 = 7 then ((word_Sext.f a0 24).bind fun t193 => ((instr_Encode.f kj33 (wrap64 (a0 / 16777216)) x187001_2 x187002_2 0 (wrap64 (t193))).bind fun bt194 => (if bt194.2 = 0 then (if bt194.1 = a0 then (some ((wrap64 (a0 / 16777216)), x187001_2, x187002_2, 0, wrap64 (t193), 0)) else (some (0, 0, 0, 0, 0, 21))) else (some (0, 0, 0, 0, 0, 21))))) else (if t187 = 5 then ((instr_Encode.f kj33 (wrap64 (a0 / 16777216)) x187001_2 x187002_2 (wrap64 (Go.bits .and .u32 a0 15)) 0).bind fun bt196 => (if bt196.2 = 0 then (if bt196.1 = a0 then (some ((wrap64 (a0 / 16777216)), x187001_2, x187002_2, wrap64 (Go.bits .and .u32 a0 15), 0, 0)) else (some (0, 0, 0, 0, 0, 21))) else (some (0, 0, 0, 0, 0, 21)))) else ((instr_Encode.f kj33 (wrap64 (a0 / 16777216)) x187001_2 x187002_2 0 0).bind fun bt198 => (if bt198.2 = 0 then (if bt198.1 = a0 then (some ((wrap64 (a0 / 16777216)), x187001_2, x187002_2, 0, 0, 0)) else (some (0, 0, 0, 0, 0, 21))) else (some (0, 0, 0, 0, 0, 21)))))) = some (r1, r2, r3, r4, r5, r6) := by rw [if_neg (show ¬ (false = true) by decide)] at H; exact H
         clear H
         have H := H1
         clear H1
         by_cases c54 : t187 = 7
         ·
          rw [if_pos c54] at H
          have c54b0 : (t187 == 7) = true := beq_iff_eq.mpr c54
          have c54b1 : (t187 != 7) = false := bR c54
          clear c54
          replace H := oB H
          obtain ⟨t193, A550, H⟩ := H
          replace H : ((instr_Encode.f kj33 (wrap64 (a0 / 16777216)) x187001_2 x187002_2 0 (wrap64 (t193))).bind fun bt194 => (if bt194.2 = 0 then (if bt194.1 = a0 then (some ((wrap64 (a0 / 16777216)), x187001_2, x187002_2, 0, wrap64 (t193), 0)) else (some (0, 0, 0, 0, 0, 21))) else (some (0, 0, 0, 0, 0, 21)))) = some (r1, r2, r3, r4, r5, r6) := H
          have A55 := mK A550
          clear A550
          replace H := oB H
          obtain ⟨⟨t194, t195⟩, A560, H⟩ := H
          replace H : (if t195 = 0 then (if t194 = a0 then (some ((wrap64 (a0 / 16777216)), x187001_2, x187002_2, 0, wrap64 (t193), 0)) else (some (0, 0, 0, 0, 0, 21))) else (some (0, 0, 0, 0, 0, 21))) = some (r1, r2, r3, r4, r5, r6) := H
          have A56 := mK A560
          clear A560
          by_cases c57 : t195 = 0
          ·
           rw [if_pos c57] at H
           have c57b0 : (t195 == 0) = true := beq_iff_eq.mpr c57
           have c57b1 : (t195 != 0) = false := bR c57
           clear c57
           by_cases c58 : t194 = a0
           ·
            rw [if_pos c58] at H
            have c58b0 : (t194 == a0) = true := beq_iff_eq.mpr c58
            have c58b1 : (t194 != a0) = false := bR c58
            clear c58
            simp only [Option.some.injEq, Prod.mk.injEq] at H
            obtain ⟨rfl, rfl, rfl, rfl, rfl, rfl⟩ := H
            go_wp2_with (first | ((with_reducible refine gate_callee (f := 62) rfl ?_); refine goesL_ (some 46) rfl rfl Try.func62 (by kernel_rfl) rfl #[.int .u32 a0, .int .i64 24] rfl (by (try simp only [List.map_toArray, List.map_cons, List.map_nil]); first | done | rfl) ?_; (with_reducible refine (word_Sext.calls a0 24 t193 _ A55.out).mono ?_); rintro e w59 ⟨rfl, hb⟩; refine ⟨_, rfl, ?_⟩; have n0_ := mK (kB (g := gb185) (o := o5 0 0 0 0 0 120) (by (with_reducible repeat (first | refine kN ?_ _ | refine kD ?_ | refine kA ?_ _)); exact BK185.out) hb); have n1_ := mK (kB (g := gb186) (o := .cells #[.int .i64 (wrap64 (a0 / 16777216)), .int .i64 x187001_2, .int .i64 x187002_2, .int .i64 0, .int .i64 0] 120 (0, 0)) (by (with_reducible repeat (first | refine kN ?_ _ | refine kD ?_ | refine kA ?_ _)); exact BK186.out) hb); have n2_ := mK (bP (by repeat (first | (with_reducible first | exact HB.out | apply bA | apply bN | apply bD | refine bS ?_ GE185.out | refine bS ?_ GE186.out) | exact HB.out)) hb); clear BK185; clear BK186; clear HB; have BK185 := n0_; have BK186 := n1_; have HB := n2_; clear n0_ n1_ n2_; (try clear hb); have hnb60 := NB186_185.out; have hnc60 := NB185_186.out; obtain ⟨hcz61_0, hcz61_1, hcz61_2, hcz61_3, hcz61_4, hfz61_0, hfz61_1, hfz61_2, hfz61_3, hfz61_4⟩ := cf5 BK186.out) | ((with_reducible refine gate_callee (f := 63) rfl ?_); refine goesL_ (some 57) rfl rfl Try.func63 (by kernel_rfl) rfl #[.agg #[.int .i64 (wrap64 (a0 / 16777216)), .int .i64 x187001_2, .int .i64 x187002_2, .int .i64 0, .int .i64 (wrap64 (t193))]] rfl (by (try simp only [List.map_toArray, List.map_cons, List.map_nil]); first | done | rfl) ?_; (with_reducible refine (instr_Encode.calls kj33 (wrap64 (a0 / 16777216)) x187001_2 x187002_2 0 (wrap64 (t193)) t194 t195 _ A56.out).mono ?_); rintro e w62 ⟨rfl, hb⟩; refine ⟨_, rfl, ?_⟩; have n0_ := mK (kB (g := gb185) (o := o5 0 0 0 0 0 120) (by (with_reducible repeat (first | refine kN ?_ _ | refine kD ?_ | refine kA ?_ _)); refine kR ?_ NB185_186.out _; (with_reducible repeat (first | refine kN ?_ _ | refine kD ?_ | refine kA ?_ _)); exact BK185.out) hb); have n1_ := mK (kB (g := gb186) (o := .cells #[.int .i64 (wrap64 (a0 / 16777216)), .int .i64 x187001_2, .int .i64 x187002_2, .int .i64 0, .int .i64 (wrap64 (t193))] 120 (0, 0)) (by (with_reducible repeat (first | refine kN ?_ _ | refine kD ?_ | refine kA ?_ _)); refine kP (cs := #[.int .i64 (wrap64 (a0 / 16777216)), .int .i64 x187001_2, .int .i64 x187002_2, .int .i64 0, .int .i64 0]) ?_ 4 _ rfl; (with_reducible repeat (first | refine kN ?_ _ | refine kD ?_ | refine kA ?_ _)); exact BK186.out) hb); have n2_ := mK (bP (by repeat (first | (with_reducible first | exact HB.out | apply bA | apply bN | apply bD | refine bS ?_ GE185.out | refine bS ?_ GE186.out) | exact HB.out)) hb); clear BK185; clear BK186; clear HB; have BK185 := n0_; have BK186 := n1_; have HB := n2_; clear n0_ n1_ n2_; (try clear hb); obtain ⟨hcz63_0, hcz63_1, hcz63_2, hcz63_3, hcz63_4, hfz63_0, hfz63_1, hfz63_2, hfz63_3, hfz63_4⟩ := cf5 BK186.out; obtain ⟨hcz64_0, hcz64_1, hcz64_2, hcz64_3, hcz64_4, hfz64_0, hfz64_1, hfz64_2, hfz64_3, hfz64_4⟩ := cf5 BK185.out))
            refine bodyPost_ret (results_ct rfl _ _ gb185 120 #[.int .i64 (wrap64 (a0 / 16777216)), .int .i64 x187001_2, .int .i64 x187002_2, .int .i64 0, .int .i64 (wrap64 (t193))] (0, 0) _ rfl (by (with_reducible repeat (first | refine kN ?_ _ | refine kD ?_ | refine kA ?_ _)); refine kP (cs := #[.int .i64 (wrap64 (a0 / 16777216)), .int .i64 x187001_2, .int .i64 x187002_2, .int .i64 0, .int .i64 0]) ?_ 4 _ rfl; (with_reducible repeat (first | refine kN ?_ _ | refine kD ?_ | refine kA ?_ _)); refine kP (cs := #[.int .i64 (wrap64 (a0 / 16777216)), .int .i64 x187001_2, .int .i64 x187002_2, .int .i64 0, .int .i64 0]) ?_ 3 _ rfl; (with_reducible repeat (first | refine kN ?_ _ | refine kD ?_ | refine kA ?_ _)); refine kP (cs := #[.int .i64 (wrap64 (a0 / 16777216)), .int .i64 x187001_2, .int .i64 0, .int .i64 0, .int .i64 0]) ?_ 2 _ rfl; (with_reducible repeat (first | refine kN ?_ _ | refine kD ?_ | refine kA ?_ _)); refine kP (cs := #[.int .i64 (wrap64 (a0 / 16777216)), .int .i64 0, .int .i64 0, .int .i64 0, .int .i64 0]) ?_ 1 _ rfl; (with_reducible repeat (first | refine kN ?_ _ | refine kD ?_ | refine kA ?_ _)); refine kP (cs := #[.int .i64 0, .int .i64 0, .int .i64 0, .int .i64 0, .int .i64 0]) ?_ 0 _ rfl; (with_reducible repeat (first | refine kN ?_ _ | refine kD ?_ | refine kA ?_ _)); exact BK185.out) Try.underlying120 rfl (by kernel_rfl)) rfl ?_
            exact ⟨by first | rfl | (simp [errW_none, errW_some] <;> rfl) | (simp [*, errW_none, errW_some] <;> rfl), by repeat (first | (with_reducible first | exact HB.out | apply bA | apply bN | apply bD | refine bS ?_ GE185.out | refine bS ?_ GE186.out) | exact HB.out)⟩
           ·
            rw [if_neg c58] at H
            have c58b0 : (t194 == a0) = false := bQ c58
            have c58b1 : (t194 != a0) = true := bne_iff_ne.mpr c58
            simp only [Option.some.injEq, Prod.mk.injEq] at H
            obtain ⟨rfl, rfl, rfl, rfl, rfl, rfl⟩ := H
            go_wp2_with (first | ((with_reducible refine gate_callee (f := 62) rfl ?_); refine goesL_ (some 46) rfl rfl Try.func62 (by kernel_rfl) rfl #[.int .u32 a0, .int .i64 24] rfl (by (try simp only [List.map_toArray, List.map_cons, List.map_nil]); first | done | rfl) ?_; (with_reducible refine (word_Sext.calls a0 24 t193 _ A55.out).mono ?_); rintro e w65 ⟨rfl, hb⟩; refine ⟨_, rfl, ?_⟩; have n0_ := mK (kB (g := gb185) (o := o5 0 0 0 0 0 120) (by (with_reducible repeat (first | refine kN ?_ _ | refine kD ?_ | refine kA ?_ _)); exact BK185.out) hb); have n1_ := mK (kB (g := gb186) (o := .cells #[.int .i64 (wrap64 (a0 / 16777216)), .int .i64 x187001_2, .int .i64 x187002_2, .int .i64 0, .int .i64 0] 120 (0, 0)) (by (with_reducible repeat (first | refine kN ?_ _ | refine kD ?_ | refine kA ?_ _)); exact BK186.out) hb); have n2_ := mK (bP (by repeat (first | (with_reducible first | exact HB.out | apply bA | apply bN | apply bD | refine bS ?_ GE185.out | refine bS ?_ GE186.out) | exact HB.out)) hb); clear BK185; clear BK186; clear HB; have BK185 := n0_; have BK186 := n1_; have HB := n2_; clear n0_ n1_ n2_; (try clear hb); have hnb66 := NB186_185.out; have hnc66 := NB185_186.out; obtain ⟨hcz67_0, hcz67_1, hcz67_2, hcz67_3, hcz67_4, hfz67_0, hfz67_1, hfz67_2, hfz67_3, hfz67_4⟩ := cf5 BK186.out) | ((with_reducible refine gate_callee (f := 63) rfl ?_); refine goesL_ (some 57) rfl rfl Try.func63 (by kernel_rfl) rfl #[.agg #[.int .i64 (wrap64 (a0 / 16777216)), .int .i64 x187001_2, .int .i64 x187002_2, .int .i64 0, .int .i64 (wrap64 (t193))]] rfl (by (try simp only [List.map_toArray, List.map_cons, List.map_nil]); first | done | rfl) ?_; (with_reducible refine (instr_Encode.calls kj33 (wrap64 (a0 / 16777216)) x187001_2 x187002_2 0 (wrap64 (t193)) t194 t195 _ A56.out).mono ?_); rintro e w68 ⟨rfl, hb⟩; refine ⟨_, rfl, ?_⟩; have n0_ := mK (kB (g := gb185) (o := o5 0 0 0 0 0 120) (by (with_reducible repeat (first | refine kN ?_ _ | refine kD ?_ | refine kA ?_ _)); refine kR ?_ NB185_186.out _; (with_reducible repeat (first | refine kN ?_ _ | refine kD ?_ | refine kA ?_ _)); exact BK185.out) hb); have n1_ := mK (kB (g := gb186) (o := .cells #[.int .i64 (wrap64 (a0 / 16777216)), .int .i64 x187001_2, .int .i64 x187002_2, .int .i64 0, .int .i64 (wrap64 (t193))] 120 (0, 0)) (by (with_reducible repeat (first | refine kN ?_ _ | refine kD ?_ | refine kA ?_ _)); refine kP (cs := #[.int .i64 (wrap64 (a0 / 16777216)), .int .i64 x187001_2, .int .i64 x187002_2, .int .i64 0, .int .i64 0]) ?_ 4 _ rfl; (with_reducible repeat (first | refine kN ?_ _ | refine kD ?_ | refine kA ?_ _)); exact BK186.out) hb); have n2_ := mK (bP (by repeat (first | (with_reducible first | exact HB.out | apply bA | apply bN | apply bD | refine bS ?_ GE185.out | refine bS ?_ GE186.out) | exact HB.out)) hb); clear BK185; clear BK186; clear HB; have BK185 := n0_; have BK186 := n1_; have HB := n2_; clear n0_ n1_ n2_; (try clear hb); obtain ⟨hcz69_0, hcz69_1, hcz69_2, hcz69_3, hcz69_4, hfz69_0, hfz69_1, hfz69_2, hfz69_3, hfz69_4⟩ := cf5 BK185.out))
            refine bodyPost_ret (results_ct rfl _ _ gb185 120 #[.int .i64 0, .int .i64 0, .int .i64 0, .int .i64 0, .int .i64 0] (0, 0) _ rfl (by (with_reducible repeat (first | refine kN ?_ _ | refine kD ?_ | refine kA ?_ _)); refine kP (cs := #[.int .i64 0, .int .i64 0, .int .i64 0, .int .i64 0, .int .i64 0]) ?_ 4 _ rfl; (with_reducible repeat (first | refine kN ?_ _ | refine kD ?_ | refine kA ?_ _)); refine kP (cs := #[.int .i64 0, .int .i64 0, .int .i64 0, .int .i64 0, .int .i64 0]) ?_ 3 _ rfl; (with_reducible repeat (first | refine kN ?_ _ | refine kD ?_ | refine kA ?_ _)); refine kP (cs := #[.int .i64 0, .int .i64 0, .int .i64 0, .int .i64 0, .int .i64 0]) ?_ 2 _ rfl; (with_reducible repeat (first | refine kN ?_ _ | refine kD ?_ | refine kA ?_ _)); refine kP (cs := #[.int .i64 0, .int .i64 0, .int .i64 0, .int .i64 0, .int .i64 0]) ?_ 1 _ rfl; (with_reducible repeat (first | refine kN ?_ _ | refine kD ?_ | refine kA ?_ _)); refine kP (cs := #[.int .i64 0, .int .i64 0, .int .i64 0, .int .i64 0, .int .i64 0]) ?_ 0 _ rfl; (with_reducible repeat (first | refine kN ?_ _ | refine kD ?_ | refine kA ?_ _)); exact BK185.out) Try.underlying120 rfl (by kernel_rfl)) rfl ?_
            exact ⟨by first | rfl | (simp [errW_none, errW_some] <;> rfl) | (simp [*, errW_none, errW_some] <;> rfl), by repeat (first | (with_reducible first | exact HB.out | apply bA | apply bN | apply bD | refine bS ?_ GE185.out | refine bS ?_ GE186.out) | exact HB.out)⟩
          ·
           rw [if_neg c57] at H
           have c57b0 : (t195 == 0) = false := bQ c57
           have c57b1 : (t195 != 0) = true := bne_iff_ne.mpr c57
           simp only [Option.some.injEq, Prod.mk.injEq] at H
           obtain ⟨rfl, rfl, rfl, rfl, rfl, rfl⟩ := H
           go_wp2_with (first | ((with_reducible refine gate_callee (f := 62) rfl ?_); refine goesL_ (some 46) rfl rfl Try.func62 (by kernel_rfl) rfl #[.int .u32 a0, .int .i64 24] rfl (by (try simp only [List.map_toArray, List.map_cons, List.map_nil]); first | done | rfl) ?_; (with_reducible refine (word_Sext.calls a0 24 t193 _ A55.out).mono ?_); rintro e w70 ⟨rfl, hb⟩; refine ⟨_, rfl, ?_⟩; have n0_ := mK (kB (g := gb185) (o := o5 0 0 0 0 0 120) (by (with_reducible repeat (first | refine kN ?_ _ | refine kD ?_ | refine kA ?_ _)); exact BK185.out) hb); have n1_ := mK (kB (g := gb186) (o := .cells #[.int .i64 (wrap64 (a0 / 16777216)), .int .i64 x187001_2, .int .i64 x187002_2, .int .i64 0, .int .i64 0] 120 (0, 0)) (by (with_reducible repeat (first | refine kN ?_ _ | refine kD ?_ | refine kA ?_ _)); exact BK186.out) hb); have n2_ := mK (bP (by repeat (first | (with_reducible first | exact HB.out | apply bA | apply bN | apply bD | refine bS ?_ GE185.out | refine bS ?_ GE186.out) | exact HB.out)) hb); clear BK185; clear BK186; clear HB; have BK185 := n0_; have BK186 := n1_; have HB := n2_; clear n0_ n1_ n2_; (try clear hb); have hnb71 := NB186_185.out; have hnc71 := NB185_186.out; obtain ⟨hcz72_0, hcz72_1, hcz72_2, hcz72_3, hcz72_4, hfz72_0, hfz72_1, hfz72_2, hfz72_3, hfz72_4⟩ := cf5 BK186.out) | ((with_reducible refine gate_callee (f := 63) rfl ?_); refine goesL_ (some 57) rfl rfl Try.func63 (by kernel_rfl) rfl #[.agg #[.int .i64 (wrap64 (a0 / 16777216)), .int .i64 x187001_2, .int .i64 x187002_2, .int .i64 0, .int .i64 (wrap64 (t193))]] rfl (by (try simp only [List.map_toArray, List.map_cons, List.map_nil]); first | done | rfl) ?_; (with_reducible refine (instr_Encode.calls kj33 (wrap64 (a0 / 16777216)) x187001_2 x187002_2 0 (wrap64 (t193)) t194 t195 _ A56.out).mono ?_); rintro e w73 ⟨rfl, hb⟩; refine ⟨_, rfl, ?_⟩; have n0_ := mK (kB (g := gb185) (o := o5 0 0 0 0 0 120) (by (with_reducible repeat (first | refine kN ?_ _ | refine kD ?_ | refine kA ?_ _)); refine kR ?_ NB185_186.out _; (with_reducible repeat (first | refine kN ?_ _ | refine kD ?_ | refine kA ?_ _)); exact BK185.out) hb); have n1_ := mK (kB (g := gb186) (o := .cells #[.int .i64 (wrap64 (a0 / 16777216)), .int .i64 x187001_2, .int .i64 x187002_2, .int .i64 0, .int .i64 (wrap64 (t193))] 120 (0, 0)) (by (with_reducible repeat (first | refine kN ?_ _ | refine kD ?_ | refine kA ?_ _)); refine kP (cs := #[.int .i64 (wrap64 (a0 / 16777216)), .int .i64 x187001_2, .int .i64 x187002_2, .int .i64 0, .int .i64 0]) ?_ 4 _ rfl; (with_reducible repeat (first | refine kN ?_ _ | refine kD ?_ | refine kA ?_ _)); exact BK186.out) hb); have n2_ := mK (bP (by repeat (first | (with_reducible first | exact HB.out | apply bA | apply bN | apply bD | refine bS ?_ GE185.out | refine bS ?_ GE186.out) | exact HB.out)) hb); clear BK185; clear BK186; clear HB; have BK185 := n0_; have BK186 := n1_; have HB := n2_; clear n0_ n1_ n2_; (try clear hb); obtain ⟨hcz74_0, hcz74_1, hcz74_2, hcz74_3, hcz74_4, hfz74_0, hfz74_1, hfz74_2, hfz74_3, hfz74_4⟩ := cf5 BK185.out))
           refine bodyPost_ret (results_ct rfl _ _ gb185 120 #[.int .i64 0, .int .i64 0, .int .i64 0, .int .i64 0, .int .i64 0] (0, 0) _ rfl (by (with_reducible repeat (first | refine kN ?_ _ | refine kD ?_ | refine kA ?_ _)); refine kP (cs := #[.int .i64 0, .int .i64 0, .int .i64 0, .int .i64 0, .int .i64 0]) ?_ 4 _ rfl; (with_reducible repeat (first | refine kN ?_ _ | refine kD ?_ | refine kA ?_ _)); refine kP (cs := #[.int .i64 0, .int .i64 0, .int .i64 0, .int .i64 0, .int .i64 0]) ?_ 3 _ rfl; (with_reducible repeat (first | refine kN ?_ _ | refine kD ?_ | refine kA ?_ _)); refine kP (cs := #[.int .i64 0, .int .i64 0, .int .i64 0, .int .i64 0, .int .i64 0]) ?_ 2 _ rfl; (with_reducible repeat (first | refine kN ?_ _ | refine kD ?_ | refine kA ?_ _)); refine kP (cs := #[.int .i64 0, .int .i64 0, .int .i64 0, .int .i64 0, .int .i64 0]) ?_ 1 _ rfl; (with_reducible repeat (first | refine kN ?_ _ | refine kD ?_ | refine kA ?_ _)); refine kP (cs := #[.int .i64 0, .int .i64 0, .int .i64 0, .int .i64 0, .int .i64 0]) ?_ 0 _ rfl; (with_reducible repeat (first | refine kN ?_ _ | refine kD ?_ | refine kA ?_ _)); exact BK185.out) Try.underlying120 rfl (by kernel_rfl)) rfl ?_
           exact ⟨by first | rfl | (simp [errW_none, errW_some] <;> rfl) | (simp [*, errW_none, errW_some] <;> rfl), by repeat (first | (with_reducible first | exact HB.out | apply bA | apply bN | apply bD | refine bS ?_ GE185.out | refine bS ?_ GE186.out) | exact HB.out)⟩
         ·
          rw [if_neg c54] at H
          have c54b0 : (t187 == 7) = false := bQ c54
          have c54b1 : (t187 != 7) = true := bne_iff_ne.mpr c54
          by_cases c75 : t187 = 5
          ·
           rw [if_pos c75] at H
           have c75b0 : (t187 == 5) = true := beq_iff_eq.mpr c75
           have c75b1 : (t187 != 5) = false := bR c75
           clear c75
           replace H := oB H
           obtain ⟨⟨t196, t197⟩, A760, H⟩ := H
           replace H : (if t197 = 0 then (if t196 = a0 then (some ((wrap64 (a0 / 16777216)), x187001_2, x187002_2, wrap64 (Go.bits .and .u32 a0 15), 0, 0)) else (some (0, 0, 0, 0, 0, 21))) else (some (0, 0, 0, 0, 0, 21))) = some (r1, r2, r3, r4, r5, r6) := H
           have A76 := mK A760
           clear A760
           by_cases c77 : t197 = 0
           ·
            rw [if_pos c77] at H
            have c77b0 : (t197 == 0) = true := beq_iff_eq.mpr c77
            have c77b1 : (t197 != 0) = false := bR c77
            clear c77
            by_cases c78 : t196 = a0
            ·
             rw [if_pos c78] at H
             have c78b0 : (t196 == a0) = true := beq_iff_eq.mpr c78
             have c78b1 : (t196 != a0) = false := bR c78
             clear c78
             simp only [Option.some.injEq, Prod.mk.injEq] at H
             obtain ⟨rfl, rfl, rfl, rfl, rfl, rfl⟩ := H
             have hnb79 := NB186_185.out
             have hnc79 := NB185_186.out
             obtain ⟨hcz80_0, hcz80_1, hcz80_2, hcz80_3, hcz80_4, hfz80_0, hfz80_1, hfz80_2, hfz80_3, hfz80_4⟩ := cf5 BK186.out
             go_wp2_with (first | ((with_reducible refine gate_callee (f := 63) rfl ?_); refine goesL_ (some 57) rfl rfl Try.func63 (by kernel_rfl) rfl #[.agg #[.int .i64 (wrap64 (a0 / 16777216)), .int .i64 x187001_2, .int .i64 x187002_2, .int .i64 (wrap64 (Go.bits .and .u32 a0 15)), .int .i64 0]] rfl (by (try simp only [List.map_toArray, List.map_cons, List.map_nil]); first | done | rfl) ?_; (with_reducible refine (instr_Encode.calls kj33 (wrap64 (a0 / 16777216)) x187001_2 x187002_2 (wrap64 (Go.bits .and .u32 a0 15)) 0 t196 t197 _ A76.out).mono ?_); rintro e w81 ⟨rfl, hb⟩; refine ⟨_, rfl, ?_⟩; have n0_ := mK (kB (g := gb185) (o := o5 0 0 0 0 0 120) (by (with_reducible repeat (first | refine kN ?_ _ | refine kD ?_ | refine kA ?_ _)); refine kR ?_ NB185_186.out _; (with_reducible repeat (first | refine kN ?_ _ | refine kD ?_ | refine kA ?_ _)); exact BK185.out) hb); have n1_ := mK (kB (g := gb186) (o := .cells #[.int .i64 (wrap64 (a0 / 16777216)), .int .i64 x187001_2, .int .i64 x187002_2, .int .i64 (wrap64 (Go.bits .and .u32 a0 15)), .int .i64 0] 120 (0, 0)) (by (with_reducible repeat (first | refine kN ?_ _ | refine kD ?_ | refine kA ?_ _)); refine kP (cs := #[.int .i64 (wrap64 (a0 / 16777216)), .int .i64 x187001_2, .int .i64 x187002_2, .int .i64 0, .int .i64 0]) ?_ 3 _ rfl; (with_reducible repeat (first | refine kN ?_ _ | refine kD ?_ | refine kA ?_ _)); exact BK186.out) hb); have n2_ := mK (bP (by repeat (first | (with_reducible first | exact HB.out | apply bA | apply bN | apply bD | refine bS ?_ GE185.out | refine bS ?_ GE186.out) | exact HB.out)) hb); clear BK185; clear BK186; clear HB; have BK185 := n0_; have BK186 := n1_; have HB := n2_; clear n0_ n1_ n2_; (try clear hb); obtain ⟨hcz82_0, hcz82_1, hcz82_2, hcz82_3, hcz82_4, hfz82_0, hfz82_1, hfz82_2, hfz82_3, hfz82_4⟩ := cf5 BK186.out; obtain ⟨hcz83_0, hcz83_1, hcz83_2, hcz83_3, hcz83_4, hfz83_0, hfz83_1, hfz83_2, hfz83_3, hfz83_4⟩ := cf5 BK185.out))
             refine bodyPost_ret (results_ct rfl _ _ gb185 120 #[.int .i64 (wrap64 (a0 / 16777216)), .int .i64 x187001_2, .int .i64 x187002_2, .int .i64 (wrap64 (Go.bits .and .u32 a0 15)), .int .i64 0] (0, 0) _ rfl (by (with_reducible repeat (first | refine kN ?_ _ | refine kD ?_ | refine kA ?_ _)); refine kP (cs := #[.int .i64 (wrap64 (a0 / 16777216)), .int .i64 x187001_2, .int .i64 x187002_2, .int .i64 (wrap64 (Go.bits .and .u32 a0 15)), .int .i64 0]) ?_ 4 _ rfl; (with_reducible repeat (first | refine kN ?_ _ | refine kD ?_ | refine kA ?_ _)); refine kP (cs := #[.int .i64 (wrap64 (a0 / 16777216)), .int .i64 x187001_2, .int .i64 x187002_2, .int .i64 0, .int .i64 0]) ?_ 3 _ rfl; (with_reducible repeat (first | refine kN ?_ _ | refine kD ?_ | refine kA ?_ _)); refine kP (cs := #[.int .i64 (wrap64 (a0 / 16777216)), .int .i64 x187001_2, .int .i64 0, .int .i64 0, .int .i64 0]) ?_ 2 _ rfl; (with_reducible repeat (first | refine kN ?_ _ | refine kD ?_ | refine kA ?_ _)); refine kP (cs := #[.int .i64 (wrap64 (a0 / 16777216)), .int .i64 0, .int .i64 0, .int .i64 0, .int .i64 0]) ?_ 1 _ rfl; (with_reducible repeat (first | refine kN ?_ _ | refine kD ?_ | refine kA ?_ _)); refine kP (cs := #[.int .i64 0, .int .i64 0, .int .i64 0, .int .i64 0, .int .i64 0]) ?_ 0 _ rfl; (with_reducible repeat (first | refine kN ?_ _ | refine kD ?_ | refine kA ?_ _)); exact BK185.out) Try.underlying120 rfl (by kernel_rfl)) rfl ?_
             exact ⟨by first | rfl | (simp [errW_none, errW_some] <;> rfl) | (simp [*, errW_none, errW_some] <;> rfl), by repeat (first | (with_reducible first | exact HB.out | apply bA | apply bN | apply bD | refine bS ?_ GE185.out | refine bS ?_ GE186.out) | exact HB.out)⟩
            ·
             rw [if_neg c78] at H
             have c78b0 : (t196 == a0) = false := bQ c78
             have c78b1 : (t196 != a0) = true := bne_iff_ne.mpr c78
             simp only [Option.some.injEq, Prod.mk.injEq] at H
             obtain ⟨rfl, rfl, rfl, rfl, rfl, rfl⟩ := H
             have hnb84 := NB186_185.out
             have hnc84 := NB185_186.out
             obtain ⟨hcz85_0, hcz85_1, hcz85_2, hcz85_3, hcz85_4, hfz85_0, hfz85_1, hfz85_2, hfz85_3, hfz85_4⟩ := cf5 BK186.out
             go_wp2_with (first | ((with_reducible refine gate_callee (f := 63) rfl ?_); refine goesL_ (some 57) rfl rfl Try.func63 (by kernel_rfl) rfl #[.agg #[.int .i64 (wrap64 (a0 / 16777216)), .int .i64 x187001_2, .int .i64 x187002_2, .int .i64 (wrap64 (Go.bits .and .u32 a0 15)), .int .i64 0]] rfl (by (try simp only [List.map_toArray, List.map_cons, List.map_nil]); first | done | rfl) ?_; (with_reducible refine (instr_Encode.calls kj33 (wrap64 (a0 / 16777216)) x187001_2 x187002_2 (wrap64 (Go.bits .and .u32 a0 15)) 0 t196 t197 _ A76.out).mono ?_); rintro e w86 ⟨rfl, hb⟩; refine ⟨_, rfl, ?_⟩; have n0_ := mK (kB (g := gb185) (o := o5 0 0 0 0 0 120) (by (with_reducible repeat (first | refine kN ?_ _ | refine kD ?_ | refine kA ?_ _)); refine kR ?_ NB185_186.out _; (with_reducible repeat (first | refine kN ?_ _ | refine kD ?_ | refine kA ?_ _)); exact BK185.out) hb); have n1_ := mK (kB (g := gb186) (o := .cells #[.int .i64 (wrap64 (a0 / 16777216)), .int .i64 x187001_2, .int .i64 x187002_2, .int .i64 (wrap64 (Go.bits .and .u32 a0 15)), .int .i64 0] 120 (0, 0)) (by (with_reducible repeat (first | refine kN ?_ _ | refine kD ?_ | refine kA ?_ _)); refine kP (cs := #[.int .i64 (wrap64 (a0 / 16777216)), .int .i64 x187001_2, .int .i64 x187002_2, .int .i64 0, .int .i64 0]) ?_ 3 _ rfl; (with_reducible repeat (first | refine kN ?_ _ | refine kD ?_ | refine kA ?_ _)); exact BK186.out) hb); have n2_ := mK (bP (by repeat (first | (with_reducible first | exact HB.out | apply bA | apply bN | apply bD | refine bS ?_ GE185.out | refine bS ?_ GE186.out) | exact HB.out)) hb); clear BK185; clear BK186; clear HB; have BK185 := n0_; have BK186 := n1_; have HB := n2_; clear n0_ n1_ n2_; (try clear hb); obtain ⟨hcz87_0, hcz87_1, hcz87_2, hcz87_3, hcz87_4, hfz87_0, hfz87_1, hfz87_2, hfz87_3, hfz87_4⟩ := cf5 BK185.out))
             refine bodyPost_ret (results_ct rfl _ _ gb185 120 #[.int .i64 0, .int .i64 0, .int .i64 0, .int .i64 0, .int .i64 0] (0, 0) _ rfl (by (with_reducible repeat (first | refine kN ?_ _ | refine kD ?_ | refine kA ?_ _)); refine kP (cs := #[.int .i64 0, .int .i64 0, .int .i64 0, .int .i64 0, .int .i64 0]) ?_ 4 _ rfl; (with_reducible repeat (first | refine kN ?_ _ | refine kD ?_ | refine kA ?_ _)); refine kP (cs := #[.int .i64 0, .int .i64 0, .int .i64 0, .int .i64 0, .int .i64 0]) ?_ 3 _ rfl; (with_reducible repeat (first | refine kN ?_ _ | refine kD ?_ | refine kA ?_ _)); refine kP (cs := #[.int .i64 0, .int .i64 0, .int .i64 0, .int .i64 0, .int .i64 0]) ?_ 2 _ rfl; (with_reducible repeat (first | refine kN ?_ _ | refine kD ?_ | refine kA ?_ _)); refine kP (cs := #[.int .i64 0, .int .i64 0, .int .i64 0, .int .i64 0, .int .i64 0]) ?_ 1 _ rfl; (with_reducible repeat (first | refine kN ?_ _ | refine kD ?_ | refine kA ?_ _)); refine kP (cs := #[.int .i64 0, .int .i64 0, .int .i64 0, .int .i64 0, .int .i64 0]) ?_ 0 _ rfl; (with_reducible repeat (first | refine kN ?_ _ | refine kD ?_ | refine kA ?_ _)); exact BK185.out) Try.underlying120 rfl (by kernel_rfl)) rfl ?_
             exact ⟨by first | rfl | (simp [errW_none, errW_some] <;> rfl) | (simp [*, errW_none, errW_some] <;> rfl), by repeat (first | (with_reducible first | exact HB.out | apply bA | apply bN | apply bD | refine bS ?_ GE185.out | refine bS ?_ GE186.out) | exact HB.out)⟩
           ·
            rw [if_neg c77] at H
            have c77b0 : (t197 == 0) = false := bQ c77
            have c77b1 : (t197 != 0) = true := bne_iff_ne.mpr c77
            simp only [Option.some.injEq, Prod.mk.injEq] at H
            obtain ⟨rfl, rfl, rfl, rfl, rfl, rfl⟩ := H
            have hnb88 := NB186_185.out
            have hnc88 := NB185_186.out
            obtain ⟨hcz89_0, hcz89_1, hcz89_2, hcz89_3, hcz89_4, hfz89_0, hfz89_1, hfz89_2, hfz89_3, hfz89_4⟩ := cf5 BK186.out
            go_wp2_with (first | ((with_reducible refine gate_callee (f := 63) rfl ?_); refine goesL_ (some 57) rfl rfl Try.func63 (by kernel_rfl) rfl #[.agg #[.int .i64 (wrap64 (a0 / 16777216)), .int .i64 x187001_2, .int .i64 x187002_2, .int .i64 (wrap64 (Go.bits .and .u32 a0 15)), .int .i64 0]] rfl (by (try simp only [List.map_toArray, List.map_cons, List.map_nil]); first | done | rfl) ?_; (with_reducible refine (instr_Encode.calls kj33 (wrap64 (a0 / 16777216)) x187001_2 x187002_2 (wrap64 (Go.bits .and .u32 a0 15)) 0 t196 t197 _ A76.out).mono ?_); rintro e w90 ⟨rfl, hb⟩; refine ⟨_, rfl, ?_⟩; have n0_ := mK (kB (g := gb185) (o := o5 0 0 0 0 0 120) (by (with_reducible repeat (first | refine kN ?_ _ | refine kD ?_ | refine kA ?_ _)); refine kR ?_ NB185_186.out _; (with_reducible repeat (first | refine kN ?_ _ | refine kD ?_ | refine kA ?_ _)); exact BK185.out) hb); have n1_ := mK (kB (g := gb186) (o := .cells #[.int .i64 (wrap64 (a0 / 16777216)), .int .i64 x187001_2, .int .i64 x187002_2, .int .i64 (wrap64 (Go.bits .and .u32 a0 15)), .int .i64 0] 120 (0, 0)) (by (with_reducible repeat (first | refine kN ?_ _ | refine kD ?_ | refine kA ?_ _)); refine kP (cs := #[.int .i64 (wrap64 (a0 / 16777216)), .int .i64 x187001_2, .int .i64 x187002_2, .int .i64 0, .int .i64 0]) ?_ 3 _ rfl; (with_reducible repeat (first | refine kN ?_ _ | refine kD ?_ | refine kA ?_ _)); exact BK186.out) hb); have n2_ := mK (bP (by repeat (first | (with_reducible first | exact HB.out | apply bA | apply bN | apply bD | refine bS ?_ GE185.out | refine bS ?_ GE186.out) | exact HB.out)) hb); clear BK185; clear BK186; clear HB; have BK185 := n0_; have BK186 := n1_; have HB := n2_; clear n0_ n1_ n2_; (try clear hb); obtain ⟨hcz91_0, hcz91_1, hcz91_2, hcz91_3, hcz91_4, hfz91_0, hfz91_1, hfz91_2, hfz91_3, hfz91_4⟩ := cf5 BK185.out))
            refine bodyPost_ret (results_ct rfl _ _ gb185 120 #[.int .i64 0, .int .i64 0, .int .i64 0, .int .i64 0, .int .i64 0] (0, 0) _ rfl (by (with_reducible repeat (first | refine kN ?_ _ | refine kD ?_ | refine kA ?_ _)); refine kP (cs := #[.int .i64 0, .int .i64 0, .int .i64 0, .int .i64 0, .int .i64 0]) ?_ 4 _ rfl; (with_reducible repeat (first | refine kN ?_ _ | refine kD ?_ | refine kA ?_ _)); refine kP (cs := #[.int .i64 0, .int .i64 0, .int .i64 0, .int .i64 0, .int .i64 0]) ?_ 3 _ rfl; (with_reducible repeat (first | refine kN ?_ _ | refine kD ?_ | refine kA ?_ _)); refine kP (cs := #[.int .i64 0, .int .i64 0, .int .i64 0, .int .i64 0, .int .i64 0]) ?_ 2 _ rfl; (with_reducible repeat (first | refine kN ?_ _ | refine kD ?_ | refine kA ?_ _)); refine kP (cs := #[.int .i64 0, .int .i64 0, .int .i64 0, .int .i64 0, .int .i64 0]) ?_ 1 _ rfl; (with_reducible repeat (first | refine kN ?_ _ | refine kD ?_ | refine kA ?_ _)); refine kP (cs := #[.int .i64 0, .int .i64 0, .int .i64 0, .int .i64 0, .int .i64 0]) ?_ 0 _ rfl; (with_reducible repeat (first | refine kN ?_ _ | refine kD ?_ | refine kA ?_ _)); exact BK185.out) Try.underlying120 rfl (by kernel_rfl)) rfl ?_
            exact ⟨by first | rfl | (simp [errW_none, errW_some] <;> rfl) | (simp [*, errW_none, errW_some] <;> rfl), by repeat (first | (with_reducible first | exact HB.out | apply bA | apply bN | apply bD | refine bS ?_ GE185.out | refine bS ?_ GE186.out) | exact HB.out)⟩
          ·
           rw [if_neg c75] at H
           have c75b0 : (t187 == 5) = false := bQ c75
           have c75b1 : (t187 != 5) = true := bne_iff_ne.mpr c75
           replace H := oB H
           obtain ⟨⟨t198, t199⟩, A920, H⟩ := H
           replace H : (if t199 = 0 then (if t198 = a0 then (some ((wrap64 (a0 / 16777216)), x187001_2, x187002_2, 0, 0, 0)) else (some (0, 0, 0, 0, 0, 21))) else (some (0, 0, 0, 0, 0, 21))) = some (r1, r2, r3, r4, r5, r6) := H
           have A92 := mK A920
           clear A920
           by_cases c93 : t199 = 0
           ·
            rw [if_pos c93] at H
            have c93b0 : (t199 == 0) = true := beq_iff_eq.mpr c93
            have c93b1 : (t199 != 0) = false := bR c93
            clear c93
            by_cases c94 : t198 = a0
            ·
             rw [if_pos c94] at H
             have c94b0 : (t198 == a0) = true := beq_iff_eq.mpr c94
             have c94b1 : (t198 != a0) = false := bR c94
             clear c94
             simp only [Option.some.injEq, Prod.mk.injEq] at H
             obtain ⟨rfl, rfl, rfl, rfl, rfl, rfl⟩ := H
             have hnb95 := NB186_185.out
             have hnc95 := NB185_186.out
             obtain ⟨hcz96_0, hcz96_1, hcz96_2, hcz96_3, hcz96_4, hfz96_0, hfz96_1, hfz96_2, hfz96_3, hfz96_4⟩ := cf5 BK186.out
             go_wp2_with (first | ((with_reducible refine gate_callee (f := 63) rfl ?_); refine goesL_ (some 57) rfl rfl Try.func63 (by kernel_rfl) rfl #[.agg #[.int .i64 (wrap64 (a0 / 16777216)), .int .i64 x187001_2, .int .i64 x187002_2, .int .i64 0, .int .i64 0]] rfl (by (try simp only [List.map_toArray, List.map_cons, List.map_nil]); first | done | rfl) ?_; (with_reducible refine (instr_Encode.calls kj33 (wrap64 (a0 / 16777216)) x187001_2 x187002_2 0 0 t198 t199 _ A92.out).mono ?_); rintro e w97 ⟨rfl, hb⟩; refine ⟨_, rfl, ?_⟩; have n0_ := mK (kB (g := gb185) (o := o5 0 0 0 0 0 120) (by (with_reducible repeat (first | refine kN ?_ _ | refine kD ?_ | refine kA ?_ _)); exact BK185.out) hb); have n1_ := mK (kB (g := gb186) (o := .cells #[.int .i64 (wrap64 (a0 / 16777216)), .int .i64 x187001_2, .int .i64 x187002_2, .int .i64 0, .int .i64 0] 120 (0, 0)) (by (with_reducible repeat (first | refine kN ?_ _ | refine kD ?_ | refine kA ?_ _)); exact BK186.out) hb); have n2_ := mK (bP (by repeat (first | (with_reducible first | exact HB.out | apply bA | apply bN | apply bD | refine bS ?_ GE185.out | refine bS ?_ GE186.out) | exact HB.out)) hb); clear BK185; clear BK186; clear HB; have BK185 := n0_; have BK186 := n1_; have HB := n2_; clear n0_ n1_ n2_; (try clear hb); obtain ⟨hcz98_0, hcz98_1, hcz98_2, hcz98_3, hcz98_4, hfz98_0, hfz98_1, hfz98_2, hfz98_3, hfz98_4⟩ := cf5 BK186.out; obtain ⟨hcz99_0, hcz99_1, hcz99_2, hcz99_3, hcz99_4, hfz99_0, hfz99_1, hfz99_2, hfz99_3, hfz99_4⟩ := cf5 BK185.out))
             refine bodyPost_ret (results_ct rfl _ _ gb185 120 #[.int .i64 (wrap64 (a0 / 16777216)), .int .i64 x187001_2, .int .i64 x187002_2, .int .i64 0, .int .i64 0] (0, 0) _ rfl (by (with_reducible repeat (first | refine kN ?_ _ | refine kD ?_ | refine kA ?_ _)); refine kP (cs := #[.int .i64 (wrap64 (a0 / 16777216)), .int .i64 x187001_2, .int .i64 x187002_2, .int .i64 0, .int .i64 0]) ?_ 4 _ rfl; (with_reducible repeat (first | refine kN ?_ _ | refine kD ?_ | refine kA ?_ _)); refine kP (cs := #[.int .i64 (wrap64 (a0 / 16777216)), .int .i64 x187001_2, .int .i64 x187002_2, .int .i64 0, .int .i64 0]) ?_ 3 _ rfl; (with_reducible repeat (first | refine kN ?_ _ | refine kD ?_ | refine kA ?_ _)); refine kP (cs := #[.int .i64 (wrap64 (a0 / 16777216)), .int .i64 x187001_2, .int .i64 0, .int .i64 0, .int .i64 0]) ?_ 2 _ rfl; (with_reducible repeat (first | refine kN ?_ _ | refine kD ?_ | refine kA ?_ _)); refine kP (cs := #[.int .i64 (wrap64 (a0 / 16777216)), .int .i64 0, .int .i64 0, .int .i64 0, .int .i64 0]) ?_ 1 _ rfl; (with_reducible repeat (first | refine kN ?_ _ | refine kD ?_ | refine kA ?_ _)); refine kP (cs := #[.int .i64 0, .int .i64 0, .int .i64 0, .int .i64 0, .int .i64 0]) ?_ 0 _ rfl; (with_reducible repeat (first | refine kN ?_ _ | refine kD ?_ | refine kA ?_ _)); exact BK185.out) Try.underlying120 rfl (by kernel_rfl)) rfl ?_
             exact ⟨by first | rfl | (simp [errW_none, errW_some] <;> rfl) | (simp [*, errW_none, errW_some] <;> rfl), by repeat (first | (with_reducible first | exact HB.out | apply bA | apply bN | apply bD | refine bS ?_ GE185.out | refine bS ?_ GE186.out) | exact HB.out)⟩
            ·
             rw [if_neg c94] at H
             have c94b0 : (t198 == a0) = false := bQ c94
             have c94b1 : (t198 != a0) = true := bne_iff_ne.mpr c94
             simp only [Option.some.injEq, Prod.mk.injEq] at H
             obtain ⟨rfl, rfl, rfl, rfl, rfl, rfl⟩ := H
             have hnb100 := NB186_185.out
             have hnc100 := NB185_186.out
             obtain ⟨hcz101_0, hcz101_1, hcz101_2, hcz101_3, hcz101_4, hfz101_0, hfz101_1, hfz101_2, hfz101_3, hfz101_4⟩ := cf5 BK186.out
             go_wp2_with (first | ((with_reducible refine gate_callee (f := 63) rfl ?_); refine goesL_ (some 57) rfl rfl Try.func63 (by kernel_rfl) rfl #[.agg #[.int .i64 (wrap64 (a0 / 16777216)), .int .i64 x187001_2, .int .i64 x187002_2, .int .i64 0, .int .i64 0]] rfl (by (try simp only [List.map_toArray, List.map_cons, List.map_nil]); first | done | rfl) ?_; (with_reducible refine (instr_Encode.calls kj33 (wrap64 (a0 / 16777216)) x187001_2 x187002_2 0 0 t198 t199 _ A92.out).mono ?_); rintro e w102 ⟨rfl, hb⟩; refine ⟨_, rfl, ?_⟩; have n0_ := mK (kB (g := gb185) (o := o5 0 0 0 0 0 120) (by (with_reducible repeat (first | refine kN ?_ _ | refine kD ?_ | refine kA ?_ _)); exact BK185.out) hb); have n1_ := mK (kB (g := gb186) (o := .cells #[.int .i64 (wrap64 (a0 / 16777216)), .int .i64 x187001_2, .int .i64 x187002_2, .int .i64 0, .int .i64 0] 120 (0, 0)) (by (with_reducible repeat (first | refine kN ?_ _ | refine kD ?_ | refine kA ?_ _)); exact BK186.out) hb); have n2_ := mK (bP (by repeat (first | (with_reducible first | exact HB.out | apply bA | apply bN | apply bD | refine bS ?_ GE185.out | refine bS ?_ GE186.out) | exact HB.out)) hb); clear BK185; clear BK186; clear HB; have BK185 := n0_; have BK186 := n1_; have HB := n2_; clear n0_ n1_ n2_; (try clear hb); obtain ⟨hcz103_0, hcz103_1, hcz103_2, hcz103_3, hcz103_4, hfz103_0, hfz103_1, hfz103_2, hfz103_3, hfz103_4⟩ := cf5 BK185.out))
             refine bodyPost_ret (results_ct rfl _ _ gb185 120 #[.int .i64 0, .int .i64 0, .int .i64 0, .int .i64 0, .int .i64 0] (0, 0) _ rfl (by (with_reducible repeat (first | refine kN ?_ _ | refine kD ?_ | refine kA ?_ _)); refine kP (cs := #[.int .i64 0, .int .i64 0, .int .i64 0, .int .i64 0, .int .i64 0]) ?_ 4 _ rfl; (with_reducible repeat (first | refine kN ?_ _ | refine kD ?_ | refine kA ?_ _)); refine kP (cs := #[.int .i64 0, .int .i64 0, .int .i64 0, .int .i64 0, .int .i64 0]) ?_ 3 _ rfl; (with_reducible repeat (first | refine kN ?_ _ | refine kD ?_ | refine kA ?_ _)); refine kP (cs := #[.int .i64 0, .int .i64 0, .int .i64 0, .int .i64 0, .int .i64 0]) ?_ 2 _ rfl; (with_reducible repeat (first | refine kN ?_ _ | refine kD ?_ | refine kA ?_ _)); refine kP (cs := #[.int .i64 0, .int .i64 0, .int .i64 0, .int .i64 0, .int .i64 0]) ?_ 1 _ rfl; (with_reducible repeat (first | refine kN ?_ _ | refine kD ?_ | refine kA ?_ _)); refine kP (cs := #[.int .i64 0, .int .i64 0, .int .i64 0, .int .i64 0, .int .i64 0]) ?_ 0 _ rfl; (with_reducible repeat (first | refine kN ?_ _ | refine kD ?_ | refine kA ?_ _)); exact BK185.out) Try.underlying120 rfl (by kernel_rfl)) rfl ?_
             exact ⟨by first | rfl | (simp [errW_none, errW_some] <;> rfl) | (simp [*, errW_none, errW_some] <;> rfl), by repeat (first | (with_reducible first | exact HB.out | apply bA | apply bN | apply bD | refine bS ?_ GE185.out | refine bS ?_ GE186.out) | exact HB.out)⟩
           ·
            rw [if_neg c93] at H
            have c93b0 : (t199 == 0) = false := bQ c93
            have c93b1 : (t199 != 0) = true := bne_iff_ne.mpr c93
            simp only [Option.some.injEq, Prod.mk.injEq] at H
            obtain ⟨rfl, rfl, rfl, rfl, rfl, rfl⟩ := H
            have hnb104 := NB186_185.out
            have hnc104 := NB185_186.out
            obtain ⟨hcz105_0, hcz105_1, hcz105_2, hcz105_3, hcz105_4, hfz105_0, hfz105_1, hfz105_2, hfz105_3, hfz105_4⟩ := cf5 BK186.out
            go_wp2_with (first | ((with_reducible refine gate_callee (f := 63) rfl ?_); refine goesL_ (some 57) rfl rfl Try.func63 (by kernel_rfl) rfl #[.agg #[.int .i64 (wrap64 (a0 / 16777216)), .int .i64 x187001_2, .int .i64 x187002_2, .int .i64 0, .int .i64 0]] rfl (by (try simp only [List.map_toArray, List.map_cons, List.map_nil]); first | done | rfl) ?_; (with_reducible refine (instr_Encode.calls kj33 (wrap64 (a0 / 16777216)) x187001_2 x187002_2 0 0 t198 t199 _ A92.out).mono ?_); rintro e w106 ⟨rfl, hb⟩; refine ⟨_, rfl, ?_⟩; have n0_ := mK (kB (g := gb185) (o := o5 0 0 0 0 0 120) (by (with_reducible repeat (first | refine kN ?_ _ | refine kD ?_ | refine kA ?_ _)); exact BK185.out) hb); have n1_ := mK (kB (g := gb186) (o := .cells #[.int .i64 (wrap64 (a0 / 16777216)), .int .i64 x187001_2, .int .i64 x187002_2, .int .i64 0, .int .i64 0] 120 (0, 0)) (by (with_reducible repeat (first | refine kN ?_ _ | refine kD ?_ | refine kA ?_ _)); exact BK186.out) hb); have n2_ := mK (bP (by repeat (first | (with_reducible first | exact HB.out | apply bA | apply bN | apply bD | refine bS ?_ GE185.out | refine bS ?_ GE186.out) | exact HB.out)) hb); clear BK185; clear BK186; clear HB; have BK185 := n0_; have BK186 := n1_; have HB := n2_; clear n0_ n1_ n2_; (try clear hb); obtain ⟨hcz107_0, hcz107_1, hcz107_2, hcz107_3, hcz107_4, hfz107_0, hfz107_1, hfz107_2, hfz107_3, hfz107_4⟩ := cf5 BK185.out))
            refine bodyPost_ret (results_ct rfl _ _ gb185 120 #[.int .i64 0, .int .i64 0, .int .i64 0, .int .i64 0, .int .i64 0] (0, 0) _ rfl (by (with_reducible repeat (first | refine kN ?_ _ | refine kD ?_ | refine kA ?_ _)); refine kP (cs := #[.int .i64 0, .int .i64 0, .int .i64 0, .int .i64 0, .int .i64 0]) ?_ 4 _ rfl; (with_reducible repeat (first | refine kN ?_ _ | refine kD ?_ | refine kA ?_ _)); refine kP (cs := #[.int .i64 0, .int .i64 0, .int .i64 0, .int .i64 0, .int .i64 0]) ?_ 3 _ rfl; (with_reducible repeat (first | refine kN ?_ _ | refine kD ?_ | refine kA ?_ _)); refine kP (cs := #[.int .i64 0, .int .i64 0, .int .i64 0, .int .i64 0, .int .i64 0]) ?_ 2 _ rfl; (with_reducible repeat (first | refine kN ?_ _ | refine kD ?_ | refine kA ?_ _)); refine kP (cs := #[.int .i64 0, .int .i64 0, .int .i64 0, .int .i64 0, .int .i64 0]) ?_ 1 _ rfl; (with_reducible repeat (first | refine kN ?_ _ | refine kD ?_ | refine kA ?_ _)); refine kP (cs := #[.int .i64 0, .int .i64 0, .int .i64 0, .int .i64 0, .int .i64 0]) ?_ 0 _ rfl; (with_reducible repeat (first | refine kN ?_ _ | refine kD ?_ | refine kA ?_ _)); exact BK185.out) Try.underlying120 rfl (by kernel_rfl)) rfl ?_
            exact ⟨by first | rfl | (simp [errW_none, errW_some] <;> rfl) | (simp [*, errW_none, errW_some] <;> rfl), by repeat (first | (with_reducible first | exact HB.out | apply bA | apply bN | apply bD | refine bS ?_ GE185.out | refine bS ?_ GE186.out) | exact HB.out)⟩

end Go.Proofs.Ytmebogkhdbbbbaa.P

-- Written by a program of this session (wip/tools/hp.py) out of the translation.
import Derived.Test.YtbfepcajbbeheaaPx0
import Derived.Test.YtbfepcajbbeheaaPx1
import Derived.Test.YtbfepcajbbeheaaPx2
import Derived.Test.YtbfepcajbbeheaaPx7
import Derived.Test.YtbfepcajbbeheaaPx8
import Derived.Test.YtbfepcajbbeheaaPx19
namespace Go.Proofs.Ytbfepcajbbeheaa.P
open Go.RowKit Go.Proofs.YtbfepcajbbeheaaW.PrintWords Go.Proofs.YtbfepcajbbeheaaW.PrintLast Go.Proofs.YtbfepcajbbeheaaW.PrintMore
attribute [local go_sem] max2_int min2_int max_two min_two max_three min_three max_four min_four   -- for this text's walks alone
set_option linter.unusedVariables false
set_option linter.unusedSimpArgs false

/-! ### pascalinelaw32_TurtleBack: function 5 -/
open Go.Proofs.Ytbfepcajbbeheaa.C
def pascalinelaw32_TurtleBack.f (l0 : List S33) (a1 a2 : Int) : Option Bool := some true
theorem tu_turn_add (T : Tu) : ∀ a b, tu_turn a (tu_turn b T) = tu_turn (a + b) T
  | 0, b => by rw [Nat.zero_add]; rfl
  | a + 1, b => by rw [show a + 1 + b = (a + b) + 1 from by omega]; simp only [tu_turn]; rw [tu_turn_add T a b]
theorem tu_turn_4 (T : Tu) : tu_turn 4 T = T := by simp [tu_turn]
theorem tu_turn_round (T : Tu) : ∀ m, tu_turn (4 * m) T = T
  | 0 => rfl
  | m + 1 => by rw [show 4 * (m + 1) = 4 + 4 * m from by omega, ← tu_turn_add, tu_turn_round T m, tu_turn_4]
theorem tu_do_turn (T : Tu) (q : Int) (h : -1000000 ≤ q ∧ q ≤ 1000000) : tu_do T 2 q = (tu_turn (tu_four q) T, 0) := by
  unfold tu_do
  rw [if_neg (by omega), if_neg (by omega), if_neg (by decide), if_pos rfl]
theorem tu_do_go (T : Tu) (q : Int) (h : -1000000 ≤ q ∧ q ≤ 1000000) : tu_do T 1 q = tu_move T (T.x + T.dx * (q * T.st)) (T.y + T.dy * (q * T.st)) := by
  unfold tu_do
  rw [if_neg (by omega), if_neg (by omega), if_pos rfl]
theorem tu_far_no {n : Int} (h : -1099511627776 ≤ n ∧ n ≤ 1099511627776) : tu_far n = false := by
  unfold tu_far
  rw [decide_eq_false (by omega), decide_eq_false (by omega)]
  rfl
/-- Going, and going as far back. -/
theorem tu_go_back {T : Tu} (hO : TuOk T) (q : Int) (h : -1000000 ≤ q ∧ q ≤ 1000000) : ((tu_do T 1 q).2 ≠ 0 ∧ (tu_do T 1 q).1 = T) ∨ ((tu_do T 1 q).2 = 0 ∧ (tu_do (tu_do T 1 q).1 1 (-q)).2 = 0 ∧ (tu_do (tu_do T 1 q).1 1 (-q)).1.x = T.x ∧ (tu_do (tu_do T 1 q).1 1 (-q)).1.y = T.y ∧ (tu_do (tu_do T 1 q).1 1 (-q)).1.dx = T.dx ∧ (tu_do (tu_do T 1 q).1 1 (-q)).1.dy = T.dy) := by
  rw [tu_do_go T q h]
  by_cases hf : tu_far (T.x + T.dx * (q * T.st)) = true ∨ tu_far (T.y + T.dy * (q * T.st)) = true
  · left
    unfold tu_move
    rw [if_pos hf]
    exact ⟨show (90 : Int) ≠ 0 by decide, rfl⟩
  · right
    rw [tu_do_go _ (-q) (by omega)]
    have e : tu_move T (T.x + T.dx * (q * T.st)) (T.y + T.dy * (q * T.st)) = ({ T with x := T.x + T.dx * (q * T.st), y := T.y + T.dy * (q * T.st), l := if T.dn = true ∧ ¬ (T.x + T.dx * (q * T.st) = T.x ∧ T.y + T.dy * (q * T.st) = T.y) then T.l ++ [⟨T.x, T.y, T.x + T.dx * (q * T.st), T.y + T.dy * (q * T.st)⟩] else T.l }, 0) := by
      unfold tu_move
      rw [if_neg hf]
    rw [e]
    dsimp only
    have e1 : T.x + T.dx * (q * T.st) + T.dx * (-q * T.st) = T.x := by rw [Int.neg_mul, Int.mul_neg]; omega
    have e2 : T.y + T.dy * (q * T.st) + T.dy * (-q * T.st) = T.y := by rw [Int.neg_mul, Int.mul_neg]; omega
    rw [e1, e2]
    unfold tu_move
    rw [if_neg (by rw [tu_far_no hO.x, tu_far_no hO.y]; simp)]
    exact ⟨rfl, rfl, rfl, rfl, rfl, rfl⟩
set_option maxRecDepth 100000 in
set_option maxHeartbeats 8000000 in
theorem pascalinelaw32_TurtleBack.calls (A0 : Option Addr) (c0 : Nat) (l0 : List S33) (a1 a2 : Int) (r : Bool) (w : World) (hr0 : Kd.C k33 w A0 l0.length l0) (hc0 : l0.length ≤ c0) (h : pascalinelaw32_TurtleBack.f l0 a1 a2 = some r) :
    Calls Try.prog 5 #[.slice A0 l0.length c0, .int .i32 a1, .int .i32 a2] w fun e w' => e = .returned (.bool r) ∧ Below w.heap.size w w' := by
  have hrt : r = true := by
    unfold pascalinelaw32_TurtleBack.f at h
    injection h with h
    exact h.symm
  subst hrt
  have HC := Aside0.mk hr0; have HCC := Aside0.mk hc0
  clear hr0 hc0 h
  by_cases hs : 100 < l0.length ∨ a1 < -1000000 ∨ 1000000 < a1 ∨ a2 < -1000000 ∨ 1000000 < a2
  · by_cases p1 : 100 < l0.length
    · have q1 : decide ((100 : Int) < (l0.length : Int)) = true := decide_eq_true (by omega)
      have q2 : decide (100 < l0.length) = true := decide_eq_true p1
      have q3 : ((100 : Int) < (l0.length : Int)) = True := eq_true (by omega)
      have q4 : (100 < l0.length) = True := eq_true p1
      clear hs p1
      go_enter Try.func5, Try.ntmps5
      go_wp2_with (go_at_call 8; (with_reducible refine (tu_awake_calls _).mono ?_); rintro e w1 ⟨rfl, hb⟩; have HB1 := Aside0.mk hb; clear hb)
      go_ret
      exact ⟨rfl, HB1.out⟩
    · have q1 : decide ((100 : Int) < (l0.length : Int)) = false := decide_eq_false (by omega)
      have q2 : decide (100 < l0.length) = false := decide_eq_false p1
      have q3 : ((100 : Int) < (l0.length : Int)) = False := eq_false (by omega)
      have q4 : (100 < l0.length) = False := eq_false p1
      have hs2 := hs.resolve_left p1
      clear hs p1
      rcases hs2 with p | p | p | p
      · have d1 : decide (a1 < -1000000) = true := decide_eq_true p
        go_enter Try.func5, Try.ntmps5
        go_wp2_with (go_at_call 8; (with_reducible refine (tu_awake_calls _).mono ?_); rintro e w1 ⟨rfl, hb⟩; have HB1 := Aside0.mk hb; clear hb)
        go_ret
        exact ⟨rfl, HB1.out⟩
      · have d1 : decide (a1 < -1000000) = false := decide_eq_false (by omega)
        have d2 : decide (1000000 < a1) = true := decide_eq_true p
        go_enter Try.func5, Try.ntmps5
        go_wp2_with (go_at_call 8; (with_reducible refine (tu_awake_calls _).mono ?_); rintro e w1 ⟨rfl, hb⟩; have HB1 := Aside0.mk hb; clear hb)
        go_ret
        exact ⟨rfl, HB1.out⟩
      · by_cases r1 : a1 < -1000000 ∨ 1000000 < a1
        · rcases r1 with r1 | r1
          · have d1 : decide (a1 < -1000000) = true := decide_eq_true r1
            go_enter Try.func5, Try.ntmps5
            go_wp2_with (go_at_call 8; (with_reducible refine (tu_awake_calls _).mono ?_); rintro e w1 ⟨rfl, hb⟩; have HB1 := Aside0.mk hb; clear hb)
            go_ret
            exact ⟨rfl, HB1.out⟩
          · have d1 : decide (a1 < -1000000) = false := decide_eq_false (by omega)
            have d2 : decide (1000000 < a1) = true := decide_eq_true r1
            go_enter Try.func5, Try.ntmps5
            go_wp2_with (go_at_call 8; (with_reducible refine (tu_awake_calls _).mono ?_); rintro e w1 ⟨rfl, hb⟩; have HB1 := Aside0.mk hb; clear hb)
            go_ret
            exact ⟨rfl, HB1.out⟩
        · have d1 : decide (a1 < -1000000) = false := decide_eq_false (by omega)
          have d2 : decide (1000000 < a1) = false := decide_eq_false (by omega)
          have d3 : decide (a2 < -1000000) = true := decide_eq_true p
          go_enter Try.func5, Try.ntmps5
          go_wp2_with (go_at_call 8; (with_reducible refine (tu_awake_calls _).mono ?_); rintro e w1 ⟨rfl, hb⟩; have HB1 := Aside0.mk hb; clear hb)
          go_ret
          exact ⟨rfl, HB1.out⟩
      · by_cases r1 : a1 < -1000000 ∨ 1000000 < a1
        · rcases r1 with r1 | r1
          · have d1 : decide (a1 < -1000000) = true := decide_eq_true r1
            go_enter Try.func5, Try.ntmps5
            go_wp2_with (go_at_call 8; (with_reducible refine (tu_awake_calls _).mono ?_); rintro e w1 ⟨rfl, hb⟩; have HB1 := Aside0.mk hb; clear hb)
            go_ret
            exact ⟨rfl, HB1.out⟩
          · have d1 : decide (a1 < -1000000) = false := decide_eq_false (by omega)
            have d2 : decide (1000000 < a1) = true := decide_eq_true r1
            go_enter Try.func5, Try.ntmps5
            go_wp2_with (go_at_call 8; (with_reducible refine (tu_awake_calls _).mono ?_); rintro e w1 ⟨rfl, hb⟩; have HB1 := Aside0.mk hb; clear hb)
            go_ret
            exact ⟨rfl, HB1.out⟩
        · have d1 : decide (a1 < -1000000) = false := decide_eq_false (by omega)
          have d2 : decide (1000000 < a1) = false := decide_eq_false (by omega)
          have d3 : decide (a2 < -1000000) = false := decide_eq_false (by omega)
          have d4 : decide (1000000 < a2) = true := decide_eq_true p
          go_enter Try.func5, Try.ntmps5
          go_wp2_with (go_at_call 8; (with_reducible refine (tu_awake_calls _).mono ?_); rintro e w1 ⟨rfl, hb⟩; have HB1 := Aside0.mk hb; clear hb)
          go_ret
          exact ⟨rfl, HB1.out⟩
  · have hl : l0.length ≤ 100 := by omega
    have HL := Aside0.mk hl
    have HQ := Aside0.mk (show -1000000 ≤ a1 ∧ a1 ≤ 1000000 by omega)
    have HF := Aside0.mk (show -1000000 ≤ a2 ∧ a2 ≤ 1000000 by omega)
    have HF2 := Aside0.mk (show wrap32 (-a2) = -a2 by have := HF.out; unfold wrap32; omega)
    have q1 : decide ((100 : Int) < (l0.length : Int)) = false := decide_eq_false (by omega)
    have q2 : decide (100 < l0.length) = false := decide_eq_false (by omega)
    have q3 : ((100 : Int) < (l0.length : Int)) = False := eq_false (by omega)
    have q4 : (100 < l0.length) = False := eq_false (by omega)
    have d1 : decide (a1 < -1000000) = false := decide_eq_false (by omega)
    have d2 : decide (1000000 < a1) = false := decide_eq_false (by omega)
    have d3 : decide (a2 < -1000000) = false := decide_eq_false (by omega)
    have d4 : decide (1000000 < a2) = false := decide_eq_false (by omega)
    have HE := Aside0.mk (tu_events l0 (by omega))
    have HEL := Aside0.mk (show (tu_evs l0).length ≤ 1000 by rw [tu_evs_len]; omega)
    have hdk := tu_drawn_ok (tu_evs l0)
    have HDK := Aside0.mk hdk
    clear hs hl hdk
    go_enter Try.func5, Try.ntmps5
    go_wp2_with (first | (go_at_call 8; (with_reducible refine (tu_awake_calls _).mono ?_); rintro e w1 ⟨rfl, hb⟩; have HB1 := Aside0.mk hb; clear hb) | (go_at_call 18; (with_reducible refine (pascalinelaw32_events.calls 2000 A0 c0 l0 (tu_evs l0) w1 (Kd.C_below HC.out HB1.out) HCC.out HE.out).mono ?_); rintro e w2 ⟨v1, rfl, hR1, hb1⟩; obtain ⟨A1, c1, rfl, hc1, hC1⟩ := Kd.R_reads hR1; have HC1 := Aside0.mk hC1; have HB2 := Aside0.mk (below_step HB1.out hb1); clear hR1 hb1 hc1 hC1) | (go_at_call 14; (with_reducible refine (tu_Draw_calls A1 c1 (tu_evs l0) w2 HC1.out HEL.out).mono ?_); rintro e w3 ⟨g, b, rfl, hb, hI, hb2⟩; have HI := Aside0.mk hI; have HBb := Aside0.mk (Nat.le_trans HB2.out.size hb); have HB3 := Aside0.mk (below_step HB2.out hb2); clear hI hb2 hb))
    obtain ⟨T, hT⟩ : ∃ T, (tu_drawn (tu_evs l0)).1 = T := ⟨_, rfl⟩
    have HTL := Aside0.mk (show T.l.length ≤ 1000 by rw [← hT]; exact Nat.le_trans HDK.out.2.1 HEL.out)
    have HTO := Aside0.mk (show TuOk T by rw [← hT]; exact HDK.out.1)
    rw [hT] at HI
    clear hT
    obtain ⟨ax, ay, lx, ly, s, v, hblk, hf, hR, hg⟩ := HI.out
    have HFL := Aside0.mk hf
    have y0 : w3.cell? ⟨g, 0, none⟩ = some (.complex .f64 ax ay) := blk_cell hblk 0
    have y1 : w3.cell? ⟨g, 1, none⟩ = some (.complex .f64 lx ly) := blk_cell hblk 1
    clear hblk hf hR hg
    go_region
    have HIT := Aside0.mk (show IsT b w3.drew g T from HI.out)
    have HB4 := Aside0.mk (below_drew HB3.out)
    generalize w3.drew = w4 at HIT HB4 ⊢
    clear y0 y1
    have hrnd := tu_turn_round T (tu_four a1)
    have HRND := Aside0.mk hrnd
    clear hrnd
    go_wp2
    go_loopg [12] 5 (fun kx v12 wr => ∃ i : Nat, v12 = .int .i64 i ∧ Aside0 (i + kx = 5 ∧ i ≤ 4) ∧ Aside0 (IsT b wr g (tu_turn (i * tu_four a1) T)) ∧ Aside0 (TB b w4 wr))
    case atStart => exact ⟨0, rfl, ⟨⟨by omega, by omega⟩⟩, ⟨by rw [Nat.zero_mul]; exact HIT.out⟩, ⟨TB.refl _ _⟩⟩
    case round =>
      obtain ⟨i, rfl, HI5, HT5, HB5⟩ := hrel
      by_cases hi : i < 4
      · have p6 : decide ((i : Int) < 4) = true := decide_eq_true (by omega)
        have p7 : decide (i < 4) = true := decide_eq_true hi
        have p8 : ((i : Int) < 4) = True := eq_true (by omega)
        have hd := tu_do_turn (tu_turn (i * tu_four a1) T) a1 HQ.out
        rw [tu_turn_add, show tu_four a1 + i * tu_four a1 = (i + 1) * tu_four a1 from by rw [Nat.add_mul]; omega] at hd
        have HD := Aside0.mk hd
        have HJ := Aside0.mk hi
        clear hi hd
        go_wp2_with (go_at_call 12; (with_reducible refine (tu_do_calls b g (tu_turn (i * tu_four a1) T) 2 a1 wr HT5.out (tu_turn_ok HTO.out _) (by rw [tu_turn_l]; exact Nat.le_trans HTL.out (by decide)) (by have := (tu_le HT5.out); omega)).mono ?_); rintro e w6 ⟨rfl, hI6, hb6⟩; rw [HD.out] at hI6 ⊢; have HI6 := Aside0.mk hI6; have HB6 := Aside0.mk (HB5.out.trans hb6); clear hI6 hb6)
        go_roundg (4 - i)
        case measure => have h1 := HI5.out; have h2 := HJ.out; omega
        case rel => exact ⟨i + 1, congrArg (Value.int .i64) (show wrap64 ((i : Int) + 1) = ((i + 1 : Nat) : Int) from by have := HJ.out; unfold wrap64; omega), ⟨by have h1 := HI5.out; have h2 := HJ.out; exact ⟨by omega, by omega⟩⟩, ⟨HI6.out⟩, ⟨HB6.out⟩⟩
      · have hi4 : i = 4 := by have := HI5.out; omega
        subst hi4
        have p6 : decide (((4 : Nat) : Int) < 4) = false := by decide
        have hT6 := HT5.out
        rw [HRND.out] at hT6
        obtain ⟨ax2, ay2, lx2, ly2, s2, v2, hblk, hf2, hR2, hg2⟩ := hT6
        have y0 : wr.cell? ⟨g, 0, none⟩ = some (.complex .f64 ax2 ay2) := blk_cell hblk 0
        have y1 : wr.cell? ⟨g, 1, none⟩ = some (.complex .f64 lx2 ly2) := blk_cell hblk 1
        have o1 : (FloatKind.f64.format.order lx2 lx == some Ordering.eq) = true := by rw [fl_eq hf2.2.2.1 HFL.out.2.2.1]; simp
        have o2 : (FloatKind.f64.format.order ly2 ly == some Ordering.eq) = true := by rw [fl_eq hf2.2.2.2.1 HFL.out.2.2.2.1]; simp
        have o3 : (FloatKind.f64.format.order ax2 ax == some Ordering.eq) = true := by rw [fl_eq hf2.1 HFL.out.1]; simp
        have o4 : (FloatKind.f64.format.order ay2 ay == some Ordering.eq) = true := by rw [fl_eq hf2.2.1 HFL.out.2.1]; simp
        have HT6 := Aside0.mk (show IsT b wr g T from ⟨ax2, ay2, lx2, ly2, s2, v2, hblk, hf2, hR2, hg2⟩)
        clear hblk hf2 hR2 hg2 hi
        rcases tu_go_back HTO.out a2 HF.out with ⟨he, hsame⟩ | ⟨he, hb0, hbx, hby, hbdx, hbdy⟩
        · have b1 : ((tu_do T 1 a2).2 != 0) = true := bne_iff_ne.mpr he
          have b2 : ((tu_do T 1 a2).2 == 0) = false := beq_eq_false_iff_ne.mpr he
          have HSM := Aside0.mk hsame
          clear he hsame
          go_wp2_with (go_at_call 12; (with_reducible refine (tu_do_calls b g T 1 a2 wr HT6.out HTO.out (Nat.le_trans HTL.out (by decide)) (by have := (tu_le HT6.out); omega)).mono ?_); rintro e w6 ⟨rfl, hI6, hb6⟩; rw [HSM.out] at hI6; obtain ⟨ax3, ay3, lx3, ly3, s3, v3, hblk3, hf3, -, -⟩ := hI6; have y3 : w6.cell? ⟨g, 0, none⟩ = some (.complex .f64 ax3 ay3) := blk_cell hblk3 0; have o5 : (FloatKind.f64.format.order ax3 ax == some Ordering.eq) = true := (by rw [fl_eq hf3.1 HFL.out.1]; simp); have o6 : (FloatKind.f64.format.order ay3 ay == some Ordering.eq) = true := (by rw [fl_eq hf3.2.1 HFL.out.2.1]; simp); have HB6 := Aside0.mk (HB5.out.trans hb6); clear hb6 hblk3 hf3)
          go_ret
          exact ⟨by first | rfl | simp, HB4.out.trans (HB6.out.below.mono HBb.out)⟩
        · have b1 : ((tu_do T 1 a2).2 != 0) = false := by rw [he]; rfl
          have b2 : ((tu_do T 1 a2).2 == 0) = true := by rw [he]; rfl
          obtain ⟨T2, hT2⟩ : ∃ T2, (tu_do T 1 a2).1 = T2 := ⟨_, rfl⟩
          rw [hT2] at hb0 hbx hby hbdx hbdy
          have c1 : ((tu_do T2 1 (-a2)).2 == 0) = true := by rw [hb0]; rfl
          have c2 : ((tu_do T2 1 (-a2)).2 != 0) = false := by rw [hb0]; rfl
          have HT2 := Aside0.mk hT2
          have HO2 := Aside0.mk (show TuOk T2 by rw [← hT2]; exact tu_do_ok HTO.out 1 a2)
          have HL2 := Aside0.mk (show T2.l.length ≤ 900000 by rw [← hT2]; have := tu_do_len T 1 a2; have := HTL.out; omega)
          have HX := Aside0.mk hbx; have HY := Aside0.mk hby; have HDX := Aside0.mk hbdx; have HDY := Aside0.mk hbdy
          have HNEG := Aside0.mk HF2.out
          clear he hb0 hbx hby hbdx hbdy hT2
          go_wp2_with (first | (go_at_call 12; (with_reducible refine (tu_do_calls b g T 1 a2 wr HT6.out HTO.out (Nat.le_trans HTL.out (by decide)) (by have := (tu_le HT6.out); omega)).mono ?_); rintro e w6 ⟨rfl, hI6, hb6⟩; rw [HT2.out] at hI6; have HI6 := Aside0.mk hI6; have HB6 := Aside0.mk (HB5.out.trans hb6); clear hI6 hb6) | (go_at_call 12; rw [HNEG.out]; (with_reducible refine (tu_do_calls b g T2 1 (-a2) w6 HI6.out HO2.out HL2.out (by have := (tu_le HI6.out); omega)).mono ?_); rintro e w7 ⟨rfl, hI7, hb7⟩; obtain ⟨ax3, ay3, lx3, ly3, s3, v3, hblk3, hf3, -, -⟩ := hI7; rw [HX.out, HY.out, HDX.out, HDY.out] at hf3; have y3 : w7.cell? ⟨g, 0, none⟩ = some (.complex .f64 ax3 ay3) := blk_cell hblk3 0; have y4 : w7.cell? ⟨g, 1, none⟩ = some (.complex .f64 lx3 ly3) := blk_cell hblk3 1; have o5 : (FloatKind.f64.format.order ax3 ax == some Ordering.eq) = true := (by rw [fl_eq hf3.1 HFL.out.1]; simp); have o6 : (FloatKind.f64.format.order ay3 ay == some Ordering.eq) = true := (by rw [fl_eq hf3.2.1 HFL.out.2.1]; simp); have o7 : (FloatKind.f64.format.order lx3 lx == some Ordering.eq) = true := (by rw [fl_eq hf3.2.2.1 HFL.out.2.2.1]; simp); have o8 : (FloatKind.f64.format.order ly3 ly == some Ordering.eq) = true := (by rw [fl_eq hf3.2.2.2.1 HFL.out.2.2.2.1]; simp); have HB7 := Aside0.mk (HB6.out.trans hb7); clear hb7 hblk3 hf3))
          go_ret
          exact ⟨by first | rfl | simp, HB4.out.trans (HB7.out.below.mono HBb.out)⟩

end Go.Proofs.Ytbfepcajbbeheaa.P

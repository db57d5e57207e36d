-- Written by a program of this session (wip/tools/hp.py) out of the translation.
import Derived.Test.YtmebogkhdbbbbaaPx0
import Derived.Test.YtmebogkhdbbbbaaPx10
import Derived.Test.YtmebogkhdbbbbaaPx11
import Derived.Test.YtmebogkhdbbbbaaPx12
import Derived.Test.YtmebogkhdbbbbaaPx14
namespace Go.Proofs.Ytmebogkhdbbbbaa.P
open Go.RowKit Go.Proofs.YtmebogkhdbbbbaaW.PrintWords Go.Proofs.YtmebogkhdbbbbaaW.PrintLast Go.Proofs.YtmebogkhdbbbbaaW.PrintMore
attribute [local go_sem] max2_int min2_int max_two min_two max_three min_three max_four min_four   -- for this text's walks alone
set_option linter.unusedVariables false
set_option linter.unusedSimpArgs false

/-! ### pascalineref31_Fault: function 8 -/
def pascalineref31_Fault.j0 : Nat → List ByteArray → Int → Int → Int → ByteArray → Bool → Option (ByteArray)
  | 0, _, _, _, _, _, _ => none
  | k + 1, x0, x1, x2, x3, x9, x28 => if x28 = true then (if x9.size + 2 ≤ 9223372036854775807 then ((pascalineref31_Message.f k x3).bind fun t135 => (if (x9 ++ (⟨#[58, 32]⟩ : ByteArray)).size + t135.size ≤ 9223372036854775807 then (if ((x9 ++ (⟨#[58, 32]⟩ : ByteArray)) ++ t135).size + 1 ≤ 9223372036854775807 then (some (((x9 ++ (⟨#[58, 32]⟩ : ByteArray)) ++ t135) ++ (⟨#[10]⟩ : ByteArray))) else (none)) else (none))) else (none)) else (if 0 ≤ x1 then (if x1 < (x0.length : Int) then ((pascalineref07_At.f k (rdOf ByteArray.empty x0 x1) (mn (mx x2 0) ((rdOf ByteArray.empty x0 x1).size : Int))).bind fun bt137 => (if x9.size + 7 ≤ 9223372036854775807 then ((pascalineref01_Text.f bt137.1).bind fun t139 => (if (x9 ++ (⟨#[44, 32, 108, 105, 110, 101, 32]⟩ : ByteArray)).size + t139.size ≤ 9223372036854775807 then (if ((x9 ++ (⟨#[44, 32, 108, 105, 110, 101, 32]⟩ : ByteArray)) ++ t139).size + 9 ≤ 9223372036854775807 then ((pascalineref01_Text.f bt137.2).bind fun t140 => (if (((x9 ++ (⟨#[44, 32, 108, 105, 110, 101, 32]⟩ : ByteArray)) ++ t139) ++ (⟨#[44, 32, 99, 111, 108, 117, 109, 110, 32]⟩ : ByteArray)).size + t140.size ≤ 9223372036854775807 then (if ((((x9 ++ (⟨#[44, 32, 108, 105, 110, 101, 32]⟩ : ByteArray)) ++ t139) ++ (⟨#[44, 32, 99, 111, 108, 117, 109, 110, 32]⟩ : ByteArray)) ++ t140).size + 2 ≤ 9223372036854775807 then ((pascalineref31_Message.f k x3).bind fun t141 => (if (((((x9 ++ (⟨#[44, 32, 108, 105, 110, 101, 32]⟩ : ByteArray)) ++ t139) ++ (⟨#[44, 32, 99, 111, 108, 117, 109, 110, 32]⟩ : ByteArray)) ++ t140) ++ (⟨#[58, 32]⟩ : ByteArray)).size + t141.size ≤ 9223372036854775807 then (if ((((((x9 ++ (⟨#[44, 32, 108, 105, 110, 101, 32]⟩ : ByteArray)) ++ t139) ++ (⟨#[44, 32, 99, 111, 108, 117, 109, 110, 32]⟩ : ByteArray)) ++ t140) ++ (⟨#[58, 32]⟩ : ByteArray)) ++ t141).size + 1 ≤ 9223372036854775807 then ((pascalineref07_Mark.f k (rdOf ByteArray.empty x0 x1) (mn (mx x2 0) ((rdOf ByteArray.empty x0 x1).size : Int))).bind fun t142 => (if (((((((x9 ++ (⟨#[44, 32, 108, 105, 110, 101, 32]⟩ : ByteArray)) ++ t139) ++ (⟨#[44, 32, 99, 111, 108, 117, 109, 110, 32]⟩ : ByteArray)) ++ t140) ++ (⟨#[58, 32]⟩ : ByteArray)) ++ t141) ++ (⟨#[10]⟩ : ByteArray)).size + t142.size ≤ 9223372036854775807 then (if ((((((((x9 ++ (⟨#[44, 32, 108, 105, 110, 101, 32]⟩ : ByteArray)) ++ t139) ++ (⟨#[44, 32, 99, 111, 108, 117, 109, 110, 32]⟩ : ByteArray)) ++ t140) ++ (⟨#[58, 32]⟩ : ByteArray)) ++ t141) ++ (⟨#[10]⟩ : ByteArray)) ++ t142).size + 1 ≤ 9223372036854775807 then (some (((((((((x9 ++ (⟨#[44, 32, 108, 105, 110, 101, 32]⟩ : ByteArray)) ++ t139) ++ (⟨#[44, 32, 99, 111, 108, 117, 109, 110, 32]⟩ : ByteArray)) ++ t140) ++ (⟨#[58, 32]⟩ : ByteArray)) ++ t141) ++ (⟨#[10]⟩ : ByteArray)) ++ t142) ++ (⟨#[10]⟩ : ByteArray))) else (none)) else (none))) else (none)) else (none))) else (none)) else (none))) else (none)) else (none))) else (none))) else (none)) else (none))
def pascalineref31_Fault.f (k : Nat) (l0 : List ByteArray) (a1 : Int) (a2 : Int) (a3 : Int) : Option (ByteArray) := if a3 = 0 then ((pascalineref31_Message.f k 0).bind fun t133 => (if t133.size + 1 ≤ 9223372036854775807 then (some (t133 ++ (⟨#[10]⟩ : ByteArray))) else (none))) else ((pascalineref01_Text.f (wrap64 (a1 + 1))).bind fun t134 => (if 5 + t134.size ≤ 9223372036854775807 then (if a1 < 0 then (pascalineref31_Fault.j0 k l0 a1 a2 a3 ((⟨#[116, 101, 120, 116, 32]⟩ : ByteArray) ++ t134) true) else (pascalineref31_Fault.j0 k l0 a1 a2 a3 ((⟨#[116, 101, 120, 116, 32]⟩ : ByteArray) ++ t134) (decide (a1 ≥ (l0.length : Int))))) else (none)))
theorem pascalineref31_Fault.mono_l : ∀ k, (∀ y0 y1 y2 y3 y4 y5, LeO (pascalineref31_Fault.j0 k y0 y1 y2 y3 y4 y5) (pascalineref31_Fault.j0 (k + 1) y0 y1 y2 y3 y4 y5))
  | 0 => fun _ _ _ _ _ _ r h => by simp [pascalineref31_Fault.j0] at h
  | k + 1 => by
    have ih0 := pascalineref31_Fault.mono_l k
    · intro y0 y1 y2 y3 y4 y5
      unfold pascalineref31_Fault.j0
      repeat' first
      | (with_reducible exact ih0 _ _ _ _ _ _)
      | (with_reducible exact pascalineref07_At.mono _ _ _)
      | (with_reducible exact pascalineref07_Mark.mono _ _ _)
      | (with_reducible exact pascalineref31_Message.mono _ _)
      | (with_reducible exact LeO.refl _)
      | (with_reducible exact LeO.none _)
      | (with_reducible refine LeO.ite ?_ ?_)
      | (with_reducible refine LeO.bind ?_ (fun _ => ?_))
      | exact ih0 _ _ _ _ _ _
      | exact pascalineref07_At.mono _ _ _
      | exact pascalineref07_Mark.mono _ _ _
      | exact pascalineref31_Message.mono _ _
      | exact LeO.none _
      | refine LeO.ite ?_ ?_
      | refine LeO.bind ?_ (fun _ => ?_)
theorem pascalineref31_Fault.mono : ∀ a0 a1 a2 a3 k, LeO (pascalineref31_Fault.f k a0 a1 a2 a3) (pascalineref31_Fault.f (k + 1) a0 a1 a2 a3) := by
  intro a0 a1 a2 a3 k
  have ih0 := pascalineref31_Fault.mono_l k
  unfold pascalineref31_Fault.f
  repeat' first
      | (with_reducible exact ih0 _ _ _ _ _ _)
      | (with_reducible exact pascalineref07_At.mono _ _ _)
      | (with_reducible exact pascalineref07_Mark.mono _ _ _)
      | (with_reducible exact pascalineref31_Message.mono _ _)
      | (with_reducible exact LeO.refl _)
      | (with_reducible exact LeO.none _)
      | (with_reducible refine LeO.ite ?_ ?_)
      | (with_reducible refine LeO.bind ?_ (fun _ => ?_))
      | exact ih0 _ _ _ _ _ _
      | exact pascalineref07_At.mono _ _ _
      | exact pascalineref07_Mark.mono _ _ _
      | exact pascalineref31_Message.mono _ _
      | exact LeO.none _
      | refine LeO.ite ?_ ?_
      | refine LeO.bind ?_ (fun _ => ?_)
set_option maxHeartbeats 8000000 in
set_option maxRecDepth 100000 in
theorem pascalineref31_Fault.calls (k : Nat) (A0 : Option Addr) (c0 : Nat) (l0 : List ByteArray) (a1 : Int) (a2 : Int) (a3 : Int) (r : ByteArray) (w : World) (hr0 : Kd.C Kd.string w A0 l0.length l0) (hc0 : l0.length ≤ c0) (h : pascalineref31_Fault.f k l0 a1 a2 a3 = some r) :
    Calls Try.prog 8 #[.slice A0 l0.length c0, .int .i64 a1, .int .i64 a2, .int .i64 a3] w fun e w' => e = .returned (.string r) ∧ Below w.heap.size w w' := by
  have HR0 := Aside0.mk hr0
  have HC0 := Aside0.mk hc0
  clear hr0 hc0
  have HB := Aside0.mk (Below.refl w.heap.size w)
  have H : (if a3 = 0 then ((pascalineref31_Message.f k 0).bind fun t133 => (if t133.size + 1 ≤ 9223372036854775807 then (some (t133 ++ (⟨#[10]⟩ : ByteArray))) else (none))) else ((pascalineref01_Text.f (wrap64 (a1 + 1))).bind fun t134 => (if 5 + t134.size ≤ 9223372036854775807 then (if a1 < 0 then (pascalineref31_Fault.j0 k l0 a1 a2 a3 ((⟨#[116, 101, 120, 116, 32]⟩ : ByteArray) ++ t134) true) else (pascalineref31_Fault.j0 k l0 a1 a2 a3 ((⟨#[116, 101, 120, 116, 32]⟩ : ByteArray) ++ t134) (decide (a1 ≥ (l0.length : Int))))) else (none)))) = some r := h
  clear h
  by_cases c5 : a3 = 0
  · rw [if_pos c5] at H
    have c5b0 : (a3 == 0) = true := beq_iff_eq.mpr c5
    have c5b1 : (a3 != 0) = false := bne_eq_false_iff_eq.mpr c5
    clear c5
    replace H := Option.bind_eq_some_iff.mp H
    obtain ⟨t133, A60, H⟩ := H
    replace H : (if t133.size + 1 ≤ 9223372036854775807 then (some (t133 ++ (⟨#[10]⟩ : ByteArray))) else (none)) = some r := H
    have A6 := Aside0.mk A60
    clear A60
    by_cases c7 : t133.size + 1 ≤ 9223372036854775807
    · rw [if_pos c7] at H
      have c7b0 := eq_true c7
      have c7b1 : decide (t133.size + 1 ≤ 9223372036854775807) = true := decide_eq_true c7
      try have c7b2 : (9223372036854775807 < t133.size + 1) = False := eq_false (Nat.not_lt.2 c7)
      try (have c7s2 := c7b2; simp only [ByteArray.size_append, Go.Proofs.Ytmebogkhdbbbbaa.C.ba_lit, List.size_toArray, List.length_cons, List.length_nil, Nat.zero_add, Nat.reduceAdd] at c7s2)
      obtain rfl := Option.some.inj H
      go_enter Try.func8, Try.ntmps8
      go_wp2_with (first | ((with_reducible refine gate_callee (f := 10) rfl ?_); refine goesL_ (some 15) rfl rfl Try.func10 (by kernel_rfl) rfl #[.int .i64 0] rfl (by (try simp only [List.map_toArray, List.map_cons, List.map_nil]); first | done | rfl | (simp only [List.length_drop, List.length_take]; rfl)) ?_; (with_reducible refine (pascalineref31_Message.calls k 0 t133 _ A6.out).mono ?_); rintro e w8 ⟨rfl, hb⟩; refine ⟨_, rfl, ?_⟩; have n0_ := Aside0.mk (below_step (by repeat (first | (with_reducible first | exact HB.out | apply below_alloc | apply pw_below_drewN | apply below_drew1) | exact HB.out)) hb); clear HB; have HB := n0_; clear n0_; (try clear hb); (try clear hb2); (try clear hk); (try clear hi)))
      go_ret
      exact ⟨by first | rfl | (simp [errW_none, errW_some] <;> rfl) | (simp [*, errW_none, errW_some] <;> rfl), by repeat (first | (with_reducible first | exact HB.out | apply below_alloc | apply pw_below_drewN | apply below_drew1) | exact HB.out)⟩
    · rw [if_neg c7] at H
      exact absurd H (by simp)
  · rw [if_neg c5] at H
    have c5b0 : (a3 == 0) = false := beq_eq_false_iff_ne.mpr c5
    have c5b1 : (a3 != 0) = true := bne_iff_ne.mpr c5
    replace H := Option.bind_eq_some_iff.mp H
    obtain ⟨t134, A90, H⟩ := H
    replace H : (if 5 + t134.size ≤ 9223372036854775807 then (if a1 < 0 then (pascalineref31_Fault.j0 k l0 a1 a2 a3 ((⟨#[116, 101, 120, 116, 32]⟩ : ByteArray) ++ t134) true) else (pascalineref31_Fault.j0 k l0 a1 a2 a3 ((⟨#[116, 101, 120, 116, 32]⟩ : ByteArray) ++ t134) (decide (a1 ≥ (l0.length : Int))))) else (none)) = some r := H
    have A9 := Aside0.mk A90
    clear A90
    by_cases c10 : 5 + t134.size ≤ 9223372036854775807
    · rw [if_pos c10] at H
      have c10b0 := eq_true c10
      have c10b1 : decide (5 + t134.size ≤ 9223372036854775807) = true := decide_eq_true c10
      try have c10b2 : (9223372036854775807 < 5 + t134.size) = False := eq_false (Nat.not_lt.2 c10)
      try (have c10s2 := c10b2; simp only [ByteArray.size_append, Go.Proofs.Ytmebogkhdbbbbaa.C.ba_lit, List.size_toArray, List.length_cons, List.length_nil, Nat.zero_add, Nat.reduceAdd] at c10s2)
      have HC11 := Aside0.mk H
      clear H
      go_enter Try.func8, Try.ntmps8
      go_upto_region 4 with (first | ((with_reducible refine gate_callee (f := 22) rfl ?_); refine goesL_ (some 19) rfl rfl Try.func22 (by kernel_rfl) rfl #[.int .i64 (wrap64 (a1 + 1))] rfl (by (try simp only [List.map_toArray, List.map_cons, List.map_nil]); first | done | rfl | (simp only [List.length_drop, List.length_take]; rfl)) ?_; (with_reducible refine (pascalineref01_Text.calls (wrap64 (a1 + 1)) t134 _ A9.out).mono ?_); rintro e w12 ⟨rfl, hb⟩; refine ⟨_, rfl, ?_⟩; have n0_ := Aside0.mk (below_step (by repeat (first | (with_reducible first | exact HB.out | apply below_alloc | apply pw_below_drewN | apply below_drew1) | exact HB.out)) hb); clear HB; have HB := n0_; clear n0_; (try clear hb); (try clear hb2); (try clear hk); (try clear hi)))
      (try simp only [Act.put, List.setIfInBounds_toArray, List.set_cons_zero, List.set_cons_succ])
      go_cut [28] (fun v28 wc => ∃ (kq : Nat) (x28_10 : Bool), v28 = .bool x28_10 ∧ Aside0 (pascalineref31_Fault.j0 kq l0 a1 a2 a3 ((⟨#[116, 101, 120, 116, 32]⟩ : ByteArray) ++ t134) x28_10 = some r) ∧ Aside0 (kq ≤ k) ∧ Aside0 (Below w.heap.size w wc))
      case first =>
        have H := HC11.out
        clear HC11
        by_cases c13 : a1 < 0
        · rw [if_pos c13] at H
          have c13b0 : decide (a1 < 0) = true := decide_eq_true c13
          clear c13
          (first | rw [c13b0] | (simp only [i64_w, i32_w]; rw [c13b0]) | skip)
          have H' := Aside0.mk H
          clear H
          go_wp2
          go_meet
          case rel => exact ⟨_, (true), (by first | rfl | (simp; done) | (simp [*]; done)), H', ⟨by first | omega | exact Nat.le_refl _⟩, ⟨by repeat (first | (with_reducible first | exact HB.out | apply below_alloc | apply pw_below_drewN | apply below_drew1) | exact HB.out)⟩⟩
        · rw [if_neg c13] at H
          have c13b0 : decide (a1 < 0) = false := decide_eq_false c13
          clear c13
          (first | rw [c13b0] | (simp only [i64_w, i32_w]; rw [c13b0]) | skip)
          have H' := Aside0.mk H
          clear H
          go_wp2
          go_meet
          case rel => exact ⟨_, (decide (a1 ≥ (l0.length : Int))), (by first | rfl | (simp; done) | (simp [*]; done)), H', ⟨by first | omega | exact Nat.le_refl _⟩, ⟨by repeat (first | (with_reducible first | exact HB.out | apply below_alloc | apply pw_below_drewN | apply below_drew1) | exact HB.out)⟩⟩
      case rest =>
        clear HC11
        try clear c1
        try clear c2
        try clear p2
        try clear c5
        try clear c5b0
        try clear c5b1
        try clear p6
        try clear c7
        try clear c7b0
        try clear c7b1
        try clear c7b2
        try clear c8
        try clear c10
        try clear c10b0
        try clear c10b1
        try clear c10b2
        try clear c13
        try clear c13b0
        obtain ⟨kq, x28_10, rfl, HA, HJ10, HB⟩ := hcut
        cases kq with
        | zero => exact absurd HA.out (by simp [pascalineref31_Fault.j0])
        | succ kj10 =>
          have H := HA.out
          clear HA
          simp only [pascalineref31_Fault.j0] at H
          by_cases c14 : x28_10 = true
          · subst c14
            have H1 : (if ((⟨#[116, 101, 120, 116, 32]⟩ : ByteArray) ++ t134).size + 2 ≤ 9223372036854775807 then ((pascalineref31_Message.f kj10 a3).bind fun t135 => (if (((⟨#[116, 101, 120, 116, 32]⟩ : ByteArray) ++ t134) ++ (⟨#[58, 32]⟩ : ByteArray)).size + t135.size ≤ 9223372036854775807 then (if ((((⟨#[116, 101, 120, 116, 32]⟩ : ByteArray) ++ t134) ++ (⟨#[58, 32]⟩ : ByteArray)) ++ t135).size + 1 ≤ 9223372036854775807 then (some (((((⟨#[116, 101, 120, 116, 32]⟩ : ByteArray) ++ t134) ++ (⟨#[58, 32]⟩ : ByteArray)) ++ t135) ++ (⟨#[10]⟩ : ByteArray))) else (none)) else (none))) else (none)) = some r := by rw [if_pos rfl] at H; exact H
            clear H
            have H := H1
            clear H1
            by_cases c15 : ((⟨#[116, 101, 120, 116, 32]⟩ : ByteArray) ++ t134).size + 2 ≤ 9223372036854775807
            · rw [if_pos c15] at H
              have c15b0 := eq_true c15
              have c15b1 : decide (((⟨#[116, 101, 120, 116, 32]⟩ : ByteArray) ++ t134).size + 2 ≤ 9223372036854775807) = true := decide_eq_true c15
              try have c15b2 : (9223372036854775807 < ((⟨#[116, 101, 120, 116, 32]⟩ : ByteArray) ++ t134).size + 2) = False := eq_false (Nat.not_lt.2 c15)
              try (have c15s2 := c15b2; simp only [ByteArray.size_append, Go.Proofs.Ytmebogkhdbbbbaa.C.ba_lit, List.size_toArray, List.length_cons, List.length_nil, Nat.zero_add, Nat.reduceAdd] at c15s2)
              replace H := Option.bind_eq_some_iff.mp H
              obtain ⟨t135, A160, H⟩ := H
              replace H : (if (((⟨#[116, 101, 120, 116, 32]⟩ : ByteArray) ++ t134) ++ (⟨#[58, 32]⟩ : ByteArray)).size + t135.size ≤ 9223372036854775807 then (if ((((⟨#[116, 101, 120, 116, 32]⟩ : ByteArray) ++ t134) ++ (⟨#[58, 32]⟩ : ByteArray)) ++ t135).size + 1 ≤ 9223372036854775807 then (some (((((⟨#[116, 101, 120, 116, 32]⟩ : ByteArray) ++ t134) ++ (⟨#[58, 32]⟩ : ByteArray)) ++ t135) ++ (⟨#[10]⟩ : ByteArray))) else (none)) else (none)) = some r := H
              have A16 := Aside0.mk A160
              clear A160
              by_cases c17 : (((⟨#[116, 101, 120, 116, 32]⟩ : ByteArray) ++ t134) ++ (⟨#[58, 32]⟩ : ByteArray)).size + t135.size ≤ 9223372036854775807
              · rw [if_pos c17] at H
                have c17b0 := eq_true c17
                have c17b1 : decide ((((⟨#[116, 101, 120, 116, 32]⟩ : ByteArray) ++ t134) ++ (⟨#[58, 32]⟩ : ByteArray)).size + t135.size ≤ 9223372036854775807) = true := decide_eq_true c17
                try have c17b2 : (9223372036854775807 < (((⟨#[116, 101, 120, 116, 32]⟩ : ByteArray) ++ t134) ++ (⟨#[58, 32]⟩ : ByteArray)).size + t135.size) = False := eq_false (Nat.not_lt.2 c17)
                try (have c17s2 := c17b2; simp only [ByteArray.size_append, Go.Proofs.Ytmebogkhdbbbbaa.C.ba_lit, List.size_toArray, List.length_cons, List.length_nil, Nat.zero_add, Nat.reduceAdd] at c17s2)
                by_cases c18 : ((((⟨#[116, 101, 120, 116, 32]⟩ : ByteArray) ++ t134) ++ (⟨#[58, 32]⟩ : ByteArray)) ++ t135).size + 1 ≤ 9223372036854775807
                · rw [if_pos c18] at H
                  have c18b0 := eq_true c18
                  have c18b1 : decide (((((⟨#[116, 101, 120, 116, 32]⟩ : ByteArray) ++ t134) ++ (⟨#[58, 32]⟩ : ByteArray)) ++ t135).size + 1 ≤ 9223372036854775807) = true := decide_eq_true c18
                  try have c18b2 : (9223372036854775807 < ((((⟨#[116, 101, 120, 116, 32]⟩ : ByteArray) ++ t134) ++ (⟨#[58, 32]⟩ : ByteArray)) ++ t135).size + 1) = False := eq_false (Nat.not_lt.2 c18)
                  try (have c18s2 := c18b2; simp only [ByteArray.size_append, Go.Proofs.Ytmebogkhdbbbbaa.C.ba_lit, List.size_toArray, List.length_cons, List.length_nil, Nat.zero_add, Nat.reduceAdd] at c18s2)
                  obtain rfl := Option.some.inj H
                  go_wp2_with (first | ((with_reducible refine gate_callee (f := 10) rfl ?_); refine goesL_ (some 32) rfl rfl Try.func10 (by kernel_rfl) rfl #[.int .i64 a3] rfl (by (try simp only [List.map_toArray, List.map_cons, List.map_nil]); first | done | rfl | (simp only [List.length_drop, List.length_take]; rfl)) ?_; (with_reducible refine (pascalineref31_Message.calls kj10 a3 t135 _ A16.out).mono ?_); rintro e w19 ⟨rfl, hb⟩; refine ⟨_, rfl, ?_⟩; have n0_ := Aside0.mk (below_step (by repeat (first | (with_reducible first | exact HB.out | apply below_alloc | apply pw_below_drewN | apply below_drew1) | exact HB.out)) hb); clear HB; have HB := n0_; clear n0_; (try clear hb); (try clear hb2); (try clear hk); (try clear hi)))
                  go_ret
                  exact ⟨by first | rfl | (simp [errW_none, errW_some] <;> rfl) | (simp [*, errW_none, errW_some] <;> rfl), by repeat (first | (with_reducible first | exact HB.out | apply below_alloc | apply pw_below_drewN | apply below_drew1) | exact HB.out)⟩
                · rw [if_neg c18] at H
                  exact absurd H (by simp)
              · rw [if_neg c17] at H
                exact absurd H (by simp)
            · rw [if_neg c15] at H
              exact absurd H (by simp)
          · replace c14 := Bool.eq_false_iff.mpr c14
            subst c14
            have H1 : (if 0 ≤ a1 then (if a1 < (l0.length : Int) then ((pascalineref07_At.f kj10 (rdOf ByteArray.empty l0 a1) (mn (mx a2 0) ((rdOf ByteArray.empty l0 a1).size : Int))).bind fun bt137 => (if ((⟨#[116, 101, 120, 116, 32]⟩ : ByteArray) ++ t134).size + 7 ≤ 9223372036854775807 then ((pascalineref01_Text.f bt137.1).bind fun t139 => (if (((⟨#[116, 101, 120, 116, 32]⟩ : ByteArray) ++ t134) ++ (⟨#[44, 32, 108, 105, 110, 101, 32]⟩ : ByteArray)).size + t139.size ≤ 9223372036854775807 then (if ((((⟨#[116, 101, 120, 116, 32]⟩ : ByteArray) ++ t134) ++ (⟨#[44, 32, 108, 105, 110, 101, 32]⟩ : ByteArray)) ++ t139).size + 9 ≤ 9223372036854775807 then ((pascalineref01_Text.f bt137.2).bind fun t140 => (if (((((⟨#[116, 101, 120, 116, 32]⟩ : ByteArray) ++ t134) ++ (⟨#[44, 32, 108, 105, 110, 101, 32]⟩ : ByteArray)) ++ t139) ++ (⟨#[44, 32, 99, 111, 108, 117, 109, 110, 32]⟩ : ByteArray)).size + t140.size ≤ 9223372036854775807 then (if ((((((⟨#[116, 101, 120, 116, 32]⟩ : ByteArray) ++ t134) ++ (⟨#[44, 32, 108, 105, 110, 101, 32]⟩ : ByteArray)) ++ t139) ++ (⟨#[44, 32, 99, 111, 108, 117, 109, 110, 32]⟩ : ByteArray)) ++ t140).size + 2 ≤ 9223372036854775807 then ((pascalineref31_Message.f kj10 a3).bind fun t141 => (if (((((((⟨#[116, 101, 120, 116, 32]⟩ : ByteArray) ++ t134) ++ (⟨#[44, 32, 108, 105, 110, 101, 32]⟩ : ByteArray)) ++ t139) ++ (⟨#[44, 32, 99, 111, 108, 117, 109, 110, 32]⟩ : ByteArray)) ++ t140) ++ (⟨#[58, 32]⟩ : ByteArray)).size + t141.size ≤ 9223372036854775807 then (if ((((((((⟨#[116, 101, 120, 116, 32]⟩ : ByteArray) ++ t134) ++ (⟨#[44, 32, 108, 105, 110, 101, 32]⟩ : ByteArray)) ++ t139) ++ (⟨#[44, 32, 99, 111, 108, 117, 109, 110, 32]⟩ : ByteArray)) ++ t140) ++ (⟨#[58, 32]⟩ : ByteArray)) ++ t141).size + 1 ≤ 9223372036854775807 then ((pascalineref07_Mark.f kj10 (rdOf ByteArray.empty l0 a1) (mn (mx a2 0) ((rdOf ByteArray.empty l0 a1).size : Int))).bind fun t142 => (if (((((((((⟨#[116, 101, 120, 116, 32]⟩ : ByteArray) ++ t134) ++ (⟨#[44, 32, 108, 105, 110, 101, 32]⟩ : ByteArray)) ++ t139) ++ (⟨#[44, 32, 99, 111, 108, 117, 109, 110, 32]⟩ : ByteArray)) ++ t140) ++ (⟨#[58, 32]⟩ : ByteArray)) ++ t141) ++ (⟨#[10]⟩ : ByteArray)).size + t142.size ≤ 9223372036854775807 then (if ((((((((((⟨#[116, 101, 120, 116, 32]⟩ : ByteArray) ++ t134) ++ (⟨#[44, 32, 108, 105, 110, 101, 32]⟩ : ByteArray)) ++ t139) ++ (⟨#[44, 32, 99, 111, 108, 117, 109, 110, 32]⟩ : ByteArray)) ++ t140) ++ (⟨#[58, 32]⟩ : ByteArray)) ++ t141) ++ (⟨#[10]⟩ : ByteArray)) ++ t142).size + 1 ≤ 9223372036854775807 then (some (((((((((((⟨#[116, 101, 120, 116, 32]⟩ : ByteArray) ++ t134) ++ (⟨#[44, 32, 108, 105, 110, 101, 32]⟩ : ByteArray)) ++ t139) ++ (⟨#[44, 32, 99, 111, 108, 117, 109, 110, 32]⟩ : ByteArray)) ++ t140) ++ (⟨#[58, 32]⟩ : ByteArray)) ++ t141) ++ (⟨#[10]⟩ : ByteArray)) ++ t142) ++ (⟨#[10]⟩ : ByteArray))) else (none)) else (none))) else (none)) else (none))) else (none)) else (none))) else (none)) else (none))) else (none))) else (none)) else (none)) = some r := by rw [if_neg (show ¬ (false = true) by decide)] at H; exact H
            clear H
            have H := H1
            clear H1
            by_cases c20 : 0 ≤ a1
            · rw [if_pos c20] at H
              have c20b0 : decide (0 ≤ a1) = true := decide_eq_true c20
              clear c20
              by_cases c21 : a1 < (l0.length : Int)
              · rw [if_pos c21] at H
                have c21b0 : decide (a1 < (l0.length : Int)) = true := decide_eq_true c21
                clear c21
                obtain ⟨ji22, hji22⟩ : ∃ j_ : Int, (mx a2 0) = j_ := ⟨_, rfl⟩
                replace H : ((pascalineref07_At.f kj10 (rdOf ByteArray.empty l0 a1) (mn (ji22) ((rdOf ByteArray.empty l0 a1).size : Int))).bind fun bt137 => (if ((⟨#[116, 101, 120, 116, 32]⟩ : ByteArray) ++ t134).size + 7 ≤ 9223372036854775807 then ((pascalineref01_Text.f bt137.1).bind fun t139 => (if (((⟨#[116, 101, 120, 116, 32]⟩ : ByteArray) ++ t134) ++ (⟨#[44, 32, 108, 105, 110, 101, 32]⟩ : ByteArray)).size + t139.size ≤ 9223372036854775807 then (if ((((⟨#[116, 101, 120, 116, 32]⟩ : ByteArray) ++ t134) ++ (⟨#[44, 32, 108, 105, 110, 101, 32]⟩ : ByteArray)) ++ t139).size + 9 ≤ 9223372036854775807 then ((pascalineref01_Text.f bt137.2).bind fun t140 => (if (((((⟨#[116, 101, 120, 116, 32]⟩ : ByteArray) ++ t134) ++ (⟨#[44, 32, 108, 105, 110, 101, 32]⟩ : ByteArray)) ++ t139) ++ (⟨#[44, 32, 99, 111, 108, 117, 109, 110, 32]⟩ : ByteArray)).size + t140.size ≤ 9223372036854775807 then (if ((((((⟨#[116, 101, 120, 116, 32]⟩ : ByteArray) ++ t134) ++ (⟨#[44, 32, 108, 105, 110, 101, 32]⟩ : ByteArray)) ++ t139) ++ (⟨#[44, 32, 99, 111, 108, 117, 109, 110, 32]⟩ : ByteArray)) ++ t140).size + 2 ≤ 9223372036854775807 then ((pascalineref31_Message.f kj10 a3).bind fun t141 => (if (((((((⟨#[116, 101, 120, 116, 32]⟩ : ByteArray) ++ t134) ++ (⟨#[44, 32, 108, 105, 110, 101, 32]⟩ : ByteArray)) ++ t139) ++ (⟨#[44, 32, 99, 111, 108, 117, 109, 110, 32]⟩ : ByteArray)) ++ t140) ++ (⟨#[58, 32]⟩ : ByteArray)).size + t141.size ≤ 9223372036854775807 then (if ((((((((⟨#[116, 101, 120, 116, 32]⟩ : ByteArray) ++ t134) ++ (⟨#[44, 32, 108, 105, 110, 101, 32]⟩ : ByteArray)) ++ t139) ++ (⟨#[44, 32, 99, 111, 108, 117, 109, 110, 32]⟩ : ByteArray)) ++ t140) ++ (⟨#[58, 32]⟩ : ByteArray)) ++ t141).size + 1 ≤ 9223372036854775807 then ((pascalineref07_Mark.f kj10 (rdOf ByteArray.empty l0 a1) (mn (ji22) ((rdOf ByteArray.empty l0 a1).size : Int))).bind fun t142 => (if (((((((((⟨#[116, 101, 120, 116, 32]⟩ : ByteArray) ++ t134) ++ (⟨#[44, 32, 108, 105, 110, 101, 32]⟩ : ByteArray)) ++ t139) ++ (⟨#[44, 32, 99, 111, 108, 117, 109, 110, 32]⟩ : ByteArray)) ++ t140) ++ (⟨#[58, 32]⟩ : ByteArray)) ++ t141) ++ (⟨#[10]⟩ : ByteArray)).size + t142.size ≤ 9223372036854775807 then (if ((((((((((⟨#[116, 101, 120, 116, 32]⟩ : ByteArray) ++ t134) ++ (⟨#[44, 32, 108, 105, 110, 101, 32]⟩ : ByteArray)) ++ t139) ++ (⟨#[44, 32, 99, 111, 108, 117, 109, 110, 32]⟩ : ByteArray)) ++ t140) ++ (⟨#[58, 32]⟩ : ByteArray)) ++ t141) ++ (⟨#[10]⟩ : ByteArray)) ++ t142).size + 1 ≤ 9223372036854775807 then (some (((((((((((⟨#[116, 101, 120, 116, 32]⟩ : ByteArray) ++ t134) ++ (⟨#[44, 32, 108, 105, 110, 101, 32]⟩ : ByteArray)) ++ t139) ++ (⟨#[44, 32, 99, 111, 108, 117, 109, 110, 32]⟩ : ByteArray)) ++ t140) ++ (⟨#[58, 32]⟩ : ByteArray)) ++ t141) ++ (⟨#[10]⟩ : ByteArray)) ++ t142) ++ (⟨#[10]⟩ : ByteArray))) else (none)) else (none))) else (none)) else (none))) else (none)) else (none))) else (none)) else (none))) else (none))) = some r := by first | (rw [hji22] at H; exact H) | (simp only [hji22] at H ⊢; exact H)
                have hji22_ : (if a2 < 0 then 0 else a2) = ji22 := hji22
                obtain ⟨ji23, hji23⟩ : ∃ j_ : Int, (mn (ji22) ((rdOf ByteArray.empty l0 a1).size : Int)) = j_ := ⟨_, rfl⟩
                replace H : ((pascalineref07_At.f kj10 (rdOf ByteArray.empty l0 a1) (ji23)).bind fun bt137 => (if ((⟨#[116, 101, 120, 116, 32]⟩ : ByteArray) ++ t134).size + 7 ≤ 9223372036854775807 then ((pascalineref01_Text.f bt137.1).bind fun t139 => (if (((⟨#[116, 101, 120, 116, 32]⟩ : ByteArray) ++ t134) ++ (⟨#[44, 32, 108, 105, 110, 101, 32]⟩ : ByteArray)).size + t139.size ≤ 9223372036854775807 then (if ((((⟨#[116, 101, 120, 116, 32]⟩ : ByteArray) ++ t134) ++ (⟨#[44, 32, 108, 105, 110, 101, 32]⟩ : ByteArray)) ++ t139).size + 9 ≤ 9223372036854775807 then ((pascalineref01_Text.f bt137.2).bind fun t140 => (if (((((⟨#[116, 101, 120, 116, 32]⟩ : ByteArray) ++ t134) ++ (⟨#[44, 32, 108, 105, 110, 101, 32]⟩ : ByteArray)) ++ t139) ++ (⟨#[44, 32, 99, 111, 108, 117, 109, 110, 32]⟩ : ByteArray)).size + t140.size ≤ 9223372036854775807 then (if ((((((⟨#[116, 101, 120, 116, 32]⟩ : ByteArray) ++ t134) ++ (⟨#[44, 32, 108, 105, 110, 101, 32]⟩ : ByteArray)) ++ t139) ++ (⟨#[44, 32, 99, 111, 108, 117, 109, 110, 32]⟩ : ByteArray)) ++ t140).size + 2 ≤ 9223372036854775807 then ((pascalineref31_Message.f kj10 a3).bind fun t141 => (if (((((((⟨#[116, 101, 120, 116, 32]⟩ : ByteArray) ++ t134) ++ (⟨#[44, 32, 108, 105, 110, 101, 32]⟩ : ByteArray)) ++ t139) ++ (⟨#[44, 32, 99, 111, 108, 117, 109, 110, 32]⟩ : ByteArray)) ++ t140) ++ (⟨#[58, 32]⟩ : ByteArray)).size + t141.size ≤ 9223372036854775807 then (if ((((((((⟨#[116, 101, 120, 116, 32]⟩ : ByteArray) ++ t134) ++ (⟨#[44, 32, 108, 105, 110, 101, 32]⟩ : ByteArray)) ++ t139) ++ (⟨#[44, 32, 99, 111, 108, 117, 109, 110, 32]⟩ : ByteArray)) ++ t140) ++ (⟨#[58, 32]⟩ : ByteArray)) ++ t141).size + 1 ≤ 9223372036854775807 then ((pascalineref07_Mark.f kj10 (rdOf ByteArray.empty l0 a1) (ji23)).bind fun t142 => (if (((((((((⟨#[116, 101, 120, 116, 32]⟩ : ByteArray) ++ t134) ++ (⟨#[44, 32, 108, 105, 110, 101, 32]⟩ : ByteArray)) ++ t139) ++ (⟨#[44, 32, 99, 111, 108, 117, 109, 110, 32]⟩ : ByteArray)) ++ t140) ++ (⟨#[58, 32]⟩ : ByteArray)) ++ t141) ++ (⟨#[10]⟩ : ByteArray)).size + t142.size ≤ 9223372036854775807 then (if ((((((((((⟨#[116, 101, 120, 116, 32]⟩ : ByteArray) ++ t134) ++ (⟨#[44, 32, 108, 105, 110, 101, 32]⟩ : ByteArray)) ++ t139) ++ (⟨#[44, 32, 99, 111, 108, 117, 109, 110, 32]⟩ : ByteArray)) ++ t140) ++ (⟨#[58, 32]⟩ : ByteArray)) ++ t141) ++ (⟨#[10]⟩ : ByteArray)) ++ t142).size + 1 ≤ 9223372036854775807 then (some (((((((((((⟨#[116, 101, 120, 116, 32]⟩ : ByteArray) ++ t134) ++ (⟨#[44, 32, 108, 105, 110, 101, 32]⟩ : ByteArray)) ++ t139) ++ (⟨#[44, 32, 99, 111, 108, 117, 109, 110, 32]⟩ : ByteArray)) ++ t140) ++ (⟨#[58, 32]⟩ : ByteArray)) ++ t141) ++ (⟨#[10]⟩ : ByteArray)) ++ t142) ++ (⟨#[10]⟩ : ByteArray))) else (none)) else (none))) else (none)) else (none))) else (none)) else (none))) else (none)) else (none))) else (none))) = some r := by first | (rw [hji23] at H; exact H) | (simp only [hji23] at H ⊢; exact H)
                have hji23_ : (if ((rdOf ByteArray.empty l0 a1).size : Int) < (ji22) then ((rdOf ByteArray.empty l0 a1).size : Int) else (ji22)) = ji23 := hji23
                replace H := Option.bind_eq_some_iff.mp H
                obtain ⟨⟨t137, t138⟩, A240, H⟩ := H
                replace H : (if ((⟨#[116, 101, 120, 116, 32]⟩ : ByteArray) ++ t134).size + 7 ≤ 9223372036854775807 then ((pascalineref01_Text.f t137).bind fun t139 => (if (((⟨#[116, 101, 120, 116, 32]⟩ : ByteArray) ++ t134) ++ (⟨#[44, 32, 108, 105, 110, 101, 32]⟩ : ByteArray)).size + t139.size ≤ 9223372036854775807 then (if ((((⟨#[116, 101, 120, 116, 32]⟩ : ByteArray) ++ t134) ++ (⟨#[44, 32, 108, 105, 110, 101, 32]⟩ : ByteArray)) ++ t139).size + 9 ≤ 9223372036854775807 then ((pascalineref01_Text.f t138).bind fun t140 => (if (((((⟨#[116, 101, 120, 116, 32]⟩ : ByteArray) ++ t134) ++ (⟨#[44, 32, 108, 105, 110, 101, 32]⟩ : ByteArray)) ++ t139) ++ (⟨#[44, 32, 99, 111, 108, 117, 109, 110, 32]⟩ : ByteArray)).size + t140.size ≤ 9223372036854775807 then (if ((((((⟨#[116, 101, 120, 116, 32]⟩ : ByteArray) ++ t134) ++ (⟨#[44, 32, 108, 105, 110, 101, 32]⟩ : ByteArray)) ++ t139) ++ (⟨#[44, 32, 99, 111, 108, 117, 109, 110, 32]⟩ : ByteArray)) ++ t140).size + 2 ≤ 9223372036854775807 then ((pascalineref31_Message.f kj10 a3).bind fun t141 => (if (((((((⟨#[116, 101, 120, 116, 32]⟩ : ByteArray) ++ t134) ++ (⟨#[44, 32, 108, 105, 110, 101, 32]⟩ : ByteArray)) ++ t139) ++ (⟨#[44, 32, 99, 111, 108, 117, 109, 110, 32]⟩ : ByteArray)) ++ t140) ++ (⟨#[58, 32]⟩ : ByteArray)).size + t141.size ≤ 9223372036854775807 then (if ((((((((⟨#[116, 101, 120, 116, 32]⟩ : ByteArray) ++ t134) ++ (⟨#[44, 32, 108, 105, 110, 101, 32]⟩ : ByteArray)) ++ t139) ++ (⟨#[44, 32, 99, 111, 108, 117, 109, 110, 32]⟩ : ByteArray)) ++ t140) ++ (⟨#[58, 32]⟩ : ByteArray)) ++ t141).size + 1 ≤ 9223372036854775807 then ((pascalineref07_Mark.f kj10 (rdOf ByteArray.empty l0 a1) (ji23)).bind fun t142 => (if (((((((((⟨#[116, 101, 120, 116, 32]⟩ : ByteArray) ++ t134) ++ (⟨#[44, 32, 108, 105, 110, 101, 32]⟩ : ByteArray)) ++ t139) ++ (⟨#[44, 32, 99, 111, 108, 117, 109, 110, 32]⟩ : ByteArray)) ++ t140) ++ (⟨#[58, 32]⟩ : ByteArray)) ++ t141) ++ (⟨#[10]⟩ : ByteArray)).size + t142.size ≤ 9223372036854775807 then (if ((((((((((⟨#[116, 101, 120, 116, 32]⟩ : ByteArray) ++ t134) ++ (⟨#[44, 32, 108, 105, 110, 101, 32]⟩ : ByteArray)) ++ t139) ++ (⟨#[44, 32, 99, 111, 108, 117, 109, 110, 32]⟩ : ByteArray)) ++ t140) ++ (⟨#[58, 32]⟩ : ByteArray)) ++ t141) ++ (⟨#[10]⟩ : ByteArray)) ++ t142).size + 1 ≤ 9223372036854775807 then (some (((((((((((⟨#[116, 101, 120, 116, 32]⟩ : ByteArray) ++ t134) ++ (⟨#[44, 32, 108, 105, 110, 101, 32]⟩ : ByteArray)) ++ t139) ++ (⟨#[44, 32, 99, 111, 108, 117, 109, 110, 32]⟩ : ByteArray)) ++ t140) ++ (⟨#[58, 32]⟩ : ByteArray)) ++ t141) ++ (⟨#[10]⟩ : ByteArray)) ++ t142) ++ (⟨#[10]⟩ : ByteArray))) else (none)) else (none))) else (none)) else (none))) else (none)) else (none))) else (none)) else (none))) else (none)) = some r := H
                have A24 := Aside0.mk A240
                clear A240
                by_cases c25 : ((⟨#[116, 101, 120, 116, 32]⟩ : ByteArray) ++ t134).size + 7 ≤ 9223372036854775807
                · rw [if_pos c25] at H
                  have c25b0 := eq_true c25
                  have c25b1 : decide (((⟨#[116, 101, 120, 116, 32]⟩ : ByteArray) ++ t134).size + 7 ≤ 9223372036854775807) = true := decide_eq_true c25
                  try have c25b2 : (9223372036854775807 < ((⟨#[116, 101, 120, 116, 32]⟩ : ByteArray) ++ t134).size + 7) = False := eq_false (Nat.not_lt.2 c25)
                  try (have c25s2 := c25b2; simp only [ByteArray.size_append, Go.Proofs.Ytmebogkhdbbbbaa.C.ba_lit, List.size_toArray, List.length_cons, List.length_nil, Nat.zero_add, Nat.reduceAdd] at c25s2)
                  replace H := Option.bind_eq_some_iff.mp H
                  obtain ⟨t139, A260, H⟩ := H
                  replace H : (if (((⟨#[116, 101, 120, 116, 32]⟩ : ByteArray) ++ t134) ++ (⟨#[44, 32, 108, 105, 110, 101, 32]⟩ : ByteArray)).size + t139.size ≤ 9223372036854775807 then (if ((((⟨#[116, 101, 120, 116, 32]⟩ : ByteArray) ++ t134) ++ (⟨#[44, 32, 108, 105, 110, 101, 32]⟩ : ByteArray)) ++ t139).size + 9 ≤ 9223372036854775807 then ((pascalineref01_Text.f t138).bind fun t140 => (if (((((⟨#[116, 101, 120, 116, 32]⟩ : ByteArray) ++ t134) ++ (⟨#[44, 32, 108, 105, 110, 101, 32]⟩ : ByteArray)) ++ t139) ++ (⟨#[44, 32, 99, 111, 108, 117, 109, 110, 32]⟩ : ByteArray)).size + t140.size ≤ 9223372036854775807 then (if ((((((⟨#[116, 101, 120, 116, 32]⟩ : ByteArray) ++ t134) ++ (⟨#[44, 32, 108, 105, 110, 101, 32]⟩ : ByteArray)) ++ t139) ++ (⟨#[44, 32, 99, 111, 108, 117, 109, 110, 32]⟩ : ByteArray)) ++ t140).size + 2 ≤ 9223372036854775807 then ((pascalineref31_Message.f kj10 a3).bind fun t141 => (if (((((((⟨#[116, 101, 120, 116, 32]⟩ : ByteArray) ++ t134) ++ (⟨#[44, 32, 108, 105, 110, 101, 32]⟩ : ByteArray)) ++ t139) ++ (⟨#[44, 32, 99, 111, 108, 117, 109, 110, 32]⟩ : ByteArray)) ++ t140) ++ (⟨#[58, 32]⟩ : ByteArray)).size + t141.size ≤ 9223372036854775807 then (if ((((((((⟨#[116, 101, 120, 116, 32]⟩ : ByteArray) ++ t134) ++ (⟨#[44, 32, 108, 105, 110, 101, 32]⟩ : ByteArray)) ++ t139) ++ (⟨#[44, 32, 99, 111, 108, 117, 109, 110, 32]⟩ : ByteArray)) ++ t140) ++ (⟨#[58, 32]⟩ : ByteArray)) ++ t141).size + 1 ≤ 9223372036854775807 then ((pascalineref07_Mark.f kj10 (rdOf ByteArray.empty l0 a1) (ji23)).bind fun t142 => (if (((((((((⟨#[116, 101, 120, 116, 32]⟩ : ByteArray) ++ t134) ++ (⟨#[44, 32, 108, 105, 110, 101, 32]⟩ : ByteArray)) ++ t139) ++ (⟨#[44, 32, 99, 111, 108, 117, 109, 110, 32]⟩ : ByteArray)) ++ t140) ++ (⟨#[58, 32]⟩ : ByteArray)) ++ t141) ++ (⟨#[10]⟩ : ByteArray)).size + t142.size ≤ 9223372036854775807 then (if ((((((((((⟨#[116, 101, 120, 116, 32]⟩ : ByteArray) ++ t134) ++ (⟨#[44, 32, 108, 105, 110, 101, 32]⟩ : ByteArray)) ++ t139) ++ (⟨#[44, 32, 99, 111, 108, 117, 109, 110, 32]⟩ : ByteArray)) ++ t140) ++ (⟨#[58, 32]⟩ : ByteArray)) ++ t141) ++ (⟨#[10]⟩ : ByteArray)) ++ t142).size + 1 ≤ 9223372036854775807 then (some (((((((((((⟨#[116, 101, 120, 116, 32]⟩ : ByteArray) ++ t134) ++ (⟨#[44, 32, 108, 105, 110, 101, 32]⟩ : ByteArray)) ++ t139) ++ (⟨#[44, 32, 99, 111, 108, 117, 109, 110, 32]⟩ : ByteArray)) ++ t140) ++ (⟨#[58, 32]⟩ : ByteArray)) ++ t141) ++ (⟨#[10]⟩ : ByteArray)) ++ t142) ++ (⟨#[10]⟩ : ByteArray))) else (none)) else (none))) else (none)) else (none))) else (none)) else (none))) else (none)) else (none)) = some r := H
                  have A26 := Aside0.mk A260
                  clear A260
                  by_cases c27 : (((⟨#[116, 101, 120, 116, 32]⟩ : ByteArray) ++ t134) ++ (⟨#[44, 32, 108, 105, 110, 101, 32]⟩ : ByteArray)).size + t139.size ≤ 9223372036854775807
                  · rw [if_pos c27] at H
                    have c27b0 := eq_true c27
                    have c27b1 : decide ((((⟨#[116, 101, 120, 116, 32]⟩ : ByteArray) ++ t134) ++ (⟨#[44, 32, 108, 105, 110, 101, 32]⟩ : ByteArray)).size + t139.size ≤ 9223372036854775807) = true := decide_eq_true c27
                    try have c27b2 : (9223372036854775807 < (((⟨#[116, 101, 120, 116, 32]⟩ : ByteArray) ++ t134) ++ (⟨#[44, 32, 108, 105, 110, 101, 32]⟩ : ByteArray)).size + t139.size) = False := eq_false (Nat.not_lt.2 c27)
                    try (have c27s2 := c27b2; simp only [ByteArray.size_append, Go.Proofs.Ytmebogkhdbbbbaa.C.ba_lit, List.size_toArray, List.length_cons, List.length_nil, Nat.zero_add, Nat.reduceAdd] at c27s2)
                    by_cases c28 : ((((⟨#[116, 101, 120, 116, 32]⟩ : ByteArray) ++ t134) ++ (⟨#[44, 32, 108, 105, 110, 101, 32]⟩ : ByteArray)) ++ t139).size + 9 ≤ 9223372036854775807
                    · rw [if_pos c28] at H
                      have c28b0 := eq_true c28
                      have c28b1 : decide (((((⟨#[116, 101, 120, 116, 32]⟩ : ByteArray) ++ t134) ++ (⟨#[44, 32, 108, 105, 110, 101, 32]⟩ : ByteArray)) ++ t139).size + 9 ≤ 9223372036854775807) = true := decide_eq_true c28
                      try have c28b2 : (9223372036854775807 < ((((⟨#[116, 101, 120, 116, 32]⟩ : ByteArray) ++ t134) ++ (⟨#[44, 32, 108, 105, 110, 101, 32]⟩ : ByteArray)) ++ t139).size + 9) = False := eq_false (Nat.not_lt.2 c28)
                      try (have c28s2 := c28b2; simp only [ByteArray.size_append, Go.Proofs.Ytmebogkhdbbbbaa.C.ba_lit, List.size_toArray, List.length_cons, List.length_nil, Nat.zero_add, Nat.reduceAdd] at c28s2)
                      replace H := Option.bind_eq_some_iff.mp H
                      obtain ⟨t140, A290, H⟩ := H
                      replace H : (if (((((⟨#[116, 101, 120, 116, 32]⟩ : ByteArray) ++ t134) ++ (⟨#[44, 32, 108, 105, 110, 101, 32]⟩ : ByteArray)) ++ t139) ++ (⟨#[44, 32, 99, 111, 108, 117, 109, 110, 32]⟩ : ByteArray)).size + t140.size ≤ 9223372036854775807 then (if ((((((⟨#[116, 101, 120, 116, 32]⟩ : ByteArray) ++ t134) ++ (⟨#[44, 32, 108, 105, 110, 101, 32]⟩ : ByteArray)) ++ t139) ++ (⟨#[44, 32, 99, 111, 108, 117, 109, 110, 32]⟩ : ByteArray)) ++ t140).size + 2 ≤ 9223372036854775807 then ((pascalineref31_Message.f kj10 a3).bind fun t141 => (if (((((((⟨#[116, 101, 120, 116, 32]⟩ : ByteArray) ++ t134) ++ (⟨#[44, 32, 108, 105, 110, 101, 32]⟩ : ByteArray)) ++ t139) ++ (⟨#[44, 32, 99, 111, 108, 117, 109, 110, 32]⟩ : ByteArray)) ++ t140) ++ (⟨#[58, 32]⟩ : ByteArray)).size + t141.size ≤ 9223372036854775807 then (if ((((((((⟨#[116, 101, 120, 116, 32]⟩ : ByteArray) ++ t134) ++ (⟨#[44, 32, 108, 105, 110, 101, 32]⟩ : ByteArray)) ++ t139) ++ (⟨#[44, 32, 99, 111, 108, 117, 109, 110, 32]⟩ : ByteArray)) ++ t140) ++ (⟨#[58, 32]⟩ : ByteArray)) ++ t141).size + 1 ≤ 9223372036854775807 then ((pascalineref07_Mark.f kj10 (rdOf ByteArray.empty l0 a1) (ji23)).bind fun t142 => (if (((((((((⟨#[116, 101, 120, 116, 32]⟩ : ByteArray) ++ t134) ++ (⟨#[44, 32, 108, 105, 110, 101, 32]⟩ : ByteArray)) ++ t139) ++ (⟨#[44, 32, 99, 111, 108, 117, 109, 110, 32]⟩ : ByteArray)) ++ t140) ++ (⟨#[58, 32]⟩ : ByteArray)) ++ t141) ++ (⟨#[10]⟩ : ByteArray)).size + t142.size ≤ 9223372036854775807 then (if ((((((((((⟨#[116, 101, 120, 116, 32]⟩ : ByteArray) ++ t134) ++ (⟨#[44, 32, 108, 105, 110, 101, 32]⟩ : ByteArray)) ++ t139) ++ (⟨#[44, 32, 99, 111, 108, 117, 109, 110, 32]⟩ : ByteArray)) ++ t140) ++ (⟨#[58, 32]⟩ : ByteArray)) ++ t141) ++ (⟨#[10]⟩ : ByteArray)) ++ t142).size + 1 ≤ 9223372036854775807 then (some (((((((((((⟨#[116, 101, 120, 116, 32]⟩ : ByteArray) ++ t134) ++ (⟨#[44, 32, 108, 105, 110, 101, 32]⟩ : ByteArray)) ++ t139) ++ (⟨#[44, 32, 99, 111, 108, 117, 109, 110, 32]⟩ : ByteArray)) ++ t140) ++ (⟨#[58, 32]⟩ : ByteArray)) ++ t141) ++ (⟨#[10]⟩ : ByteArray)) ++ t142) ++ (⟨#[10]⟩ : ByteArray))) else (none)) else (none))) else (none)) else (none))) else (none)) else (none)) = some r := H
                      have A29 := Aside0.mk A290
                      clear A290
                      by_cases c30 : (((((⟨#[116, 101, 120, 116, 32]⟩ : ByteArray) ++ t134) ++ (⟨#[44, 32, 108, 105, 110, 101, 32]⟩ : ByteArray)) ++ t139) ++ (⟨#[44, 32, 99, 111, 108, 117, 109, 110, 32]⟩ : ByteArray)).size + t140.size ≤ 9223372036854775807
                      · rw [if_pos c30] at H
                        have c30b0 := eq_true c30
                        have c30b1 : decide ((((((⟨#[116, 101, 120, 116, 32]⟩ : ByteArray) ++ t134) ++ (⟨#[44, 32, 108, 105, 110, 101, 32]⟩ : ByteArray)) ++ t139) ++ (⟨#[44, 32, 99, 111, 108, 117, 109, 110, 32]⟩ : ByteArray)).size + t140.size ≤ 9223372036854775807) = true := decide_eq_true c30
                        try have c30b2 : (9223372036854775807 < (((((⟨#[116, 101, 120, 116, 32]⟩ : ByteArray) ++ t134) ++ (⟨#[44, 32, 108, 105, 110, 101, 32]⟩ : ByteArray)) ++ t139) ++ (⟨#[44, 32, 99, 111, 108, 117, 109, 110, 32]⟩ : ByteArray)).size + t140.size) = False := eq_false (Nat.not_lt.2 c30)
                        try (have c30s2 := c30b2; simp only [ByteArray.size_append, Go.Proofs.Ytmebogkhdbbbbaa.C.ba_lit, List.size_toArray, List.length_cons, List.length_nil, Nat.zero_add, Nat.reduceAdd] at c30s2)
                        by_cases c31 : ((((((⟨#[116, 101, 120, 116, 32]⟩ : ByteArray) ++ t134) ++ (⟨#[44, 32, 108, 105, 110, 101, 32]⟩ : ByteArray)) ++ t139) ++ (⟨#[44, 32, 99, 111, 108, 117, 109, 110, 32]⟩ : ByteArray)) ++ t140).size + 2 ≤ 9223372036854775807
                        · rw [if_pos c31] at H
                          have c31b0 := eq_true c31
                          have c31b1 : decide (((((((⟨#[116, 101, 120, 116, 32]⟩ : ByteArray) ++ t134) ++ (⟨#[44, 32, 108, 105, 110, 101, 32]⟩ : ByteArray)) ++ t139) ++ (⟨#[44, 32, 99, 111, 108, 117, 109, 110, 32]⟩ : ByteArray)) ++ t140).size + 2 ≤ 9223372036854775807) = true := decide_eq_true c31
                          try have c31b2 : (9223372036854775807 < ((((((⟨#[116, 101, 120, 116, 32]⟩ : ByteArray) ++ t134) ++ (⟨#[44, 32, 108, 105, 110, 101, 32]⟩ : ByteArray)) ++ t139) ++ (⟨#[44, 32, 99, 111, 108, 117, 109, 110, 32]⟩ : ByteArray)) ++ t140).size + 2) = False := eq_false (Nat.not_lt.2 c31)
                          try (have c31s2 := c31b2; simp only [ByteArray.size_append, Go.Proofs.Ytmebogkhdbbbbaa.C.ba_lit, List.size_toArray, List.length_cons, List.length_nil, Nat.zero_add, Nat.reduceAdd] at c31s2)
                          replace H := Option.bind_eq_some_iff.mp H
                          obtain ⟨t141, A320, H⟩ := H
                          replace H : (if (((((((⟨#[116, 101, 120, 116, 32]⟩ : ByteArray) ++ t134) ++ (⟨#[44, 32, 108, 105, 110, 101, 32]⟩ : ByteArray)) ++ t139) ++ (⟨#[44, 32, 99, 111, 108, 117, 109, 110, 32]⟩ : ByteArray)) ++ t140) ++ (⟨#[58, 32]⟩ : ByteArray)).size + t141.size ≤ 9223372036854775807 then (if ((((((((⟨#[116, 101, 120, 116, 32]⟩ : ByteArray) ++ t134) ++ (⟨#[44, 32, 108, 105, 110, 101, 32]⟩ : ByteArray)) ++ t139) ++ (⟨#[44, 32, 99, 111, 108, 117, 109, 110, 32]⟩ : ByteArray)) ++ t140) ++ (⟨#[58, 32]⟩ : ByteArray)) ++ t141).size + 1 ≤ 9223372036854775807 then ((pascalineref07_Mark.f kj10 (rdOf ByteArray.empty l0 a1) (ji23)).bind fun t142 => (if (((((((((⟨#[116, 101, 120, 116, 32]⟩ : ByteArray) ++ t134) ++ (⟨#[44, 32, 108, 105, 110, 101, 32]⟩ : ByteArray)) ++ t139) ++ (⟨#[44, 32, 99, 111, 108, 117, 109, 110, 32]⟩ : ByteArray)) ++ t140) ++ (⟨#[58, 32]⟩ : ByteArray)) ++ t141) ++ (⟨#[10]⟩ : ByteArray)).size + t142.size ≤ 9223372036854775807 then (if ((((((((((⟨#[116, 101, 120, 116, 32]⟩ : ByteArray) ++ t134) ++ (⟨#[44, 32, 108, 105, 110, 101, 32]⟩ : ByteArray)) ++ t139) ++ (⟨#[44, 32, 99, 111, 108, 117, 109, 110, 32]⟩ : ByteArray)) ++ t140) ++ (⟨#[58, 32]⟩ : ByteArray)) ++ t141) ++ (⟨#[10]⟩ : ByteArray)) ++ t142).size + 1 ≤ 9223372036854775807 then (some (((((((((((⟨#[116, 101, 120, 116, 32]⟩ : ByteArray) ++ t134) ++ (⟨#[44, 32, 108, 105, 110, 101, 32]⟩ : ByteArray)) ++ t139) ++ (⟨#[44, 32, 99, 111, 108, 117, 109, 110, 32]⟩ : ByteArray)) ++ t140) ++ (⟨#[58, 32]⟩ : ByteArray)) ++ t141) ++ (⟨#[10]⟩ : ByteArray)) ++ t142) ++ (⟨#[10]⟩ : ByteArray))) else (none)) else (none))) else (none)) else (none)) = some r := H
                          have A32 := Aside0.mk A320
                          clear A320
                          by_cases c33 : (((((((⟨#[116, 101, 120, 116, 32]⟩ : ByteArray) ++ t134) ++ (⟨#[44, 32, 108, 105, 110, 101, 32]⟩ : ByteArray)) ++ t139) ++ (⟨#[44, 32, 99, 111, 108, 117, 109, 110, 32]⟩ : ByteArray)) ++ t140) ++ (⟨#[58, 32]⟩ : ByteArray)).size + t141.size ≤ 9223372036854775807
                          · rw [if_pos c33] at H
                            have c33b0 := eq_true c33
                            have c33b1 : decide ((((((((⟨#[116, 101, 120, 116, 32]⟩ : ByteArray) ++ t134) ++ (⟨#[44, 32, 108, 105, 110, 101, 32]⟩ : ByteArray)) ++ t139) ++ (⟨#[44, 32, 99, 111, 108, 117, 109, 110, 32]⟩ : ByteArray)) ++ t140) ++ (⟨#[58, 32]⟩ : ByteArray)).size + t141.size ≤ 9223372036854775807) = true := decide_eq_true c33
                            try have c33b2 : (9223372036854775807 < (((((((⟨#[116, 101, 120, 116, 32]⟩ : ByteArray) ++ t134) ++ (⟨#[44, 32, 108, 105, 110, 101, 32]⟩ : ByteArray)) ++ t139) ++ (⟨#[44, 32, 99, 111, 108, 117, 109, 110, 32]⟩ : ByteArray)) ++ t140) ++ (⟨#[58, 32]⟩ : ByteArray)).size + t141.size) = False := eq_false (Nat.not_lt.2 c33)
                            try (have c33s2 := c33b2; simp only [ByteArray.size_append, Go.Proofs.Ytmebogkhdbbbbaa.C.ba_lit, List.size_toArray, List.length_cons, List.length_nil, Nat.zero_add, Nat.reduceAdd] at c33s2)
                            by_cases c34 : ((((((((⟨#[116, 101, 120, 116, 32]⟩ : ByteArray) ++ t134) ++ (⟨#[44, 32, 108, 105, 110, 101, 32]⟩ : ByteArray)) ++ t139) ++ (⟨#[44, 32, 99, 111, 108, 117, 109, 110, 32]⟩ : ByteArray)) ++ t140) ++ (⟨#[58, 32]⟩ : ByteArray)) ++ t141).size + 1 ≤ 9223372036854775807
                            · rw [if_pos c34] at H
                              have c34b0 := eq_true c34
                              have c34b1 : decide (((((((((⟨#[116, 101, 120, 116, 32]⟩ : ByteArray) ++ t134) ++ (⟨#[44, 32, 108, 105, 110, 101, 32]⟩ : ByteArray)) ++ t139) ++ (⟨#[44, 32, 99, 111, 108, 117, 109, 110, 32]⟩ : ByteArray)) ++ t140) ++ (⟨#[58, 32]⟩ : ByteArray)) ++ t141).size + 1 ≤ 9223372036854775807) = true := decide_eq_true c34
                              try have c34b2 : (9223372036854775807 < ((((((((⟨#[116, 101, 120, 116, 32]⟩ : ByteArray) ++ t134) ++ (⟨#[44, 32, 108, 105, 110, 101, 32]⟩ : ByteArray)) ++ t139) ++ (⟨#[44, 32, 99, 111, 108, 117, 109, 110, 32]⟩ : ByteArray)) ++ t140) ++ (⟨#[58, 32]⟩ : ByteArray)) ++ t141).size + 1) = False := eq_false (Nat.not_lt.2 c34)
                              try (have c34s2 := c34b2; simp only [ByteArray.size_append, Go.Proofs.Ytmebogkhdbbbbaa.C.ba_lit, List.size_toArray, List.length_cons, List.length_nil, Nat.zero_add, Nat.reduceAdd] at c34s2)
                              replace H := Option.bind_eq_some_iff.mp H
                              obtain ⟨t142, A350, H⟩ := H
                              replace H : (if (((((((((⟨#[116, 101, 120, 116, 32]⟩ : ByteArray) ++ t134) ++ (⟨#[44, 32, 108, 105, 110, 101, 32]⟩ : ByteArray)) ++ t139) ++ (⟨#[44, 32, 99, 111, 108, 117, 109, 110, 32]⟩ : ByteArray)) ++ t140) ++ (⟨#[58, 32]⟩ : ByteArray)) ++ t141) ++ (⟨#[10]⟩ : ByteArray)).size + t142.size ≤ 9223372036854775807 then (if ((((((((((⟨#[116, 101, 120, 116, 32]⟩ : ByteArray) ++ t134) ++ (⟨#[44, 32, 108, 105, 110, 101, 32]⟩ : ByteArray)) ++ t139) ++ (⟨#[44, 32, 99, 111, 108, 117, 109, 110, 32]⟩ : ByteArray)) ++ t140) ++ (⟨#[58, 32]⟩ : ByteArray)) ++ t141) ++ (⟨#[10]⟩ : ByteArray)) ++ t142).size + 1 ≤ 9223372036854775807 then (some (((((((((((⟨#[116, 101, 120, 116, 32]⟩ : ByteArray) ++ t134) ++ (⟨#[44, 32, 108, 105, 110, 101, 32]⟩ : ByteArray)) ++ t139) ++ (⟨#[44, 32, 99, 111, 108, 117, 109, 110, 32]⟩ : ByteArray)) ++ t140) ++ (⟨#[58, 32]⟩ : ByteArray)) ++ t141) ++ (⟨#[10]⟩ : ByteArray)) ++ t142) ++ (⟨#[10]⟩ : ByteArray))) else (none)) else (none)) = some r := H
                              have A35 := Aside0.mk A350
                              clear A350
                              by_cases c36 : (((((((((⟨#[116, 101, 120, 116, 32]⟩ : ByteArray) ++ t134) ++ (⟨#[44, 32, 108, 105, 110, 101, 32]⟩ : ByteArray)) ++ t139) ++ (⟨#[44, 32, 99, 111, 108, 117, 109, 110, 32]⟩ : ByteArray)) ++ t140) ++ (⟨#[58, 32]⟩ : ByteArray)) ++ t141) ++ (⟨#[10]⟩ : ByteArray)).size + t142.size ≤ 9223372036854775807
                              · rw [if_pos c36] at H
                                have c36b0 := eq_true c36
                                have c36b1 : decide ((((((((((⟨#[116, 101, 120, 116, 32]⟩ : ByteArray) ++ t134) ++ (⟨#[44, 32, 108, 105, 110, 101, 32]⟩ : ByteArray)) ++ t139) ++ (⟨#[44, 32, 99, 111, 108, 117, 109, 110, 32]⟩ : ByteArray)) ++ t140) ++ (⟨#[58, 32]⟩ : ByteArray)) ++ t141) ++ (⟨#[10]⟩ : ByteArray)).size + t142.size ≤ 9223372036854775807) = true := decide_eq_true c36
                                try have c36b2 : (9223372036854775807 < (((((((((⟨#[116, 101, 120, 116, 32]⟩ : ByteArray) ++ t134) ++ (⟨#[44, 32, 108, 105, 110, 101, 32]⟩ : ByteArray)) ++ t139) ++ (⟨#[44, 32, 99, 111, 108, 117, 109, 110, 32]⟩ : ByteArray)) ++ t140) ++ (⟨#[58, 32]⟩ : ByteArray)) ++ t141) ++ (⟨#[10]⟩ : ByteArray)).size + t142.size) = False := eq_false (Nat.not_lt.2 c36)
                                try (have c36s2 := c36b2; simp only [ByteArray.size_append, Go.Proofs.Ytmebogkhdbbbbaa.C.ba_lit, List.size_toArray, List.length_cons, List.length_nil, Nat.zero_add, Nat.reduceAdd] at c36s2)
                                by_cases c37 : ((((((((((⟨#[116, 101, 120, 116, 32]⟩ : ByteArray) ++ t134) ++ (⟨#[44, 32, 108, 105, 110, 101, 32]⟩ : ByteArray)) ++ t139) ++ (⟨#[44, 32, 99, 111, 108, 117, 109, 110, 32]⟩ : ByteArray)) ++ t140) ++ (⟨#[58, 32]⟩ : ByteArray)) ++ t141) ++ (⟨#[10]⟩ : ByteArray)) ++ t142).size + 1 ≤ 9223372036854775807
                                · rw [if_pos c37] at H
                                  have c37b0 := eq_true c37
                                  have c37b1 : decide (((((((((((⟨#[116, 101, 120, 116, 32]⟩ : ByteArray) ++ t134) ++ (⟨#[44, 32, 108, 105, 110, 101, 32]⟩ : ByteArray)) ++ t139) ++ (⟨#[44, 32, 99, 111, 108, 117, 109, 110, 32]⟩ : ByteArray)) ++ t140) ++ (⟨#[58, 32]⟩ : ByteArray)) ++ t141) ++ (⟨#[10]⟩ : ByteArray)) ++ t142).size + 1 ≤ 9223372036854775807) = true := decide_eq_true c37
                                  try have c37b2 : (9223372036854775807 < ((((((((((⟨#[116, 101, 120, 116, 32]⟩ : ByteArray) ++ t134) ++ (⟨#[44, 32, 108, 105, 110, 101, 32]⟩ : ByteArray)) ++ t139) ++ (⟨#[44, 32, 99, 111, 108, 117, 109, 110, 32]⟩ : ByteArray)) ++ t140) ++ (⟨#[58, 32]⟩ : ByteArray)) ++ t141) ++ (⟨#[10]⟩ : ByteArray)) ++ t142).size + 1) = False := eq_false (Nat.not_lt.2 c37)
                                  try (have c37s2 := c37b2; simp only [ByteArray.size_append, Go.Proofs.Ytmebogkhdbbbbaa.C.ba_lit, List.size_toArray, List.length_cons, List.length_nil, Nat.zero_add, Nat.reduceAdd] at c37s2)
                                  obtain rfl := Option.some.inj H
                                  have p136 : 0 ≤ (a1 : Int) := of_decide_eq_true (by first | (with_reducible assumption) | assumption)
                                  have q136 : a1 < (l0.length : Int) := of_decide_eq_true (by first | (with_reducible assumption) | assumption)
                                  obtain ⟨ad136, e136, hx136_0⟩ := Kd.at_string HR0.out a1 p136 q136
                                  cases e136
                                  replace hx136_0 := (HB.out.cell (World.block_lt_of_cell? w _ hx136_0)).trans hx136_0
                                  replace p136 := eq_true p136
                                  replace q136 := eq_true q136
                                  go_wp2_with (first | ((with_reducible refine gate_callee (f := 23) rfl ?_); refine goesL_ (some 47) rfl rfl Try.func23 (by kernel_rfl) rfl #[.string (rdOf ByteArray.empty l0 a1), .int .i64 ji23] rfl (by (try simp only [List.map_toArray, List.map_cons, List.map_nil]); first | done | (simp only [hji23]; rfl) | rfl | (simp only [List.length_drop, List.length_take]; rfl)) ?_; (with_reducible refine (pascalineref07_At.calls kj10 (rdOf ByteArray.empty l0 a1) ji23 t137 t138 _ A24.out).mono ?_); rintro e w' ⟨rfl, ⟨nd, rfl⟩⟩; refine ⟨_, rfl, ?_⟩) | ((with_reducible refine gate_callee (f := 22) rfl ?_); refine goesL_ (some 53) rfl rfl Try.func22 (by kernel_rfl) rfl #[.int .i64 t137] rfl (by (try simp only [List.map_toArray, List.map_cons, List.map_nil]); first | done | rfl | (simp only [List.length_drop, List.length_take]; rfl)) ?_; (with_reducible refine (pascalineref01_Text.calls t137 t139 _ A26.out).mono ?_); rintro e w38 ⟨rfl, hb⟩; refine ⟨_, rfl, ?_⟩; have n0_ := Aside0.mk (below_step (by repeat (first | (with_reducible first | exact HB.out | apply below_alloc | apply pw_below_drewN | apply below_drew1) | exact HB.out)) hb); clear HB; have HB := n0_; clear n0_; (try clear hb); (try clear hb2); (try clear hk); (try clear hi)) | ((with_reducible refine gate_callee (f := 22) rfl ?_); refine goesL_ (some 57) rfl rfl Try.func22 (by kernel_rfl) rfl #[.int .i64 t138] rfl (by (try simp only [List.map_toArray, List.map_cons, List.map_nil]); first | done | rfl | (simp only [List.length_drop, List.length_take]; rfl)) ?_; (with_reducible refine (pascalineref01_Text.calls t138 t140 _ A29.out).mono ?_); rintro e w39 ⟨rfl, hb⟩; refine ⟨_, rfl, ?_⟩; have n0_ := Aside0.mk (below_step (by repeat (first | (with_reducible first | exact HB.out | apply below_alloc | apply pw_below_drewN | apply below_drew1) | exact HB.out)) hb); clear HB; have HB := n0_; clear n0_; (try clear hb); (try clear hb2); (try clear hk); (try clear hi)) | ((with_reducible refine gate_callee (f := 10) rfl ?_); refine goesL_ (some 61) rfl rfl Try.func10 (by kernel_rfl) rfl #[.int .i64 a3] rfl (by (try simp only [List.map_toArray, List.map_cons, List.map_nil]); first | done | rfl | (simp only [List.length_drop, List.length_take]; rfl)) ?_; (with_reducible refine (pascalineref31_Message.calls kj10 a3 t141 _ A32.out).mono ?_); rintro e w40 ⟨rfl, hb⟩; refine ⟨_, rfl, ?_⟩; have n0_ := Aside0.mk (below_step (by repeat (first | (with_reducible first | exact HB.out | apply below_alloc | apply pw_below_drewN | apply below_drew1) | exact HB.out)) hb); clear HB; have HB := n0_; clear n0_; (try clear hb); (try clear hb2); (try clear hk); (try clear hi)) | ((with_reducible refine gate_callee (f := 24) rfl ?_); refine goesL_ (some 66) rfl rfl Try.func24 (by kernel_rfl) rfl #[.string (rdOf ByteArray.empty l0 a1), .int .i64 ji23] rfl (by (try simp only [List.map_toArray, List.map_cons, List.map_nil]); first | done | (simp only [hji23]; rfl) | rfl | (simp only [List.length_drop, List.length_take]; rfl)) ?_; (with_reducible refine (pascalineref07_Mark.calls kj10 (rdOf ByteArray.empty l0 a1) ji23 t142 _ A35.out).mono ?_); rintro e w41 ⟨rfl, hb⟩; refine ⟨_, rfl, ?_⟩; have n0_ := Aside0.mk (below_step (by repeat (first | (with_reducible first | exact HB.out | apply below_alloc | apply pw_below_drewN | apply below_drew1) | exact HB.out)) hb); clear HB; have HB := n0_; clear n0_; (try clear hb); (try clear hb2); (try clear hk); (try clear hi)))
                                  go_ret
                                  exact ⟨by first | rfl | (simp [errW_none, errW_some] <;> rfl) | (simp only [← hji22, ← hji23]; first | rfl | (simp [errW_none, errW_some] <;> rfl)) | (simp [*, errW_none, errW_some] <;> rfl), by repeat (first | (with_reducible first | exact HB.out | apply below_alloc | apply pw_below_drewN | apply below_drew1) | exact HB.out)⟩
                                · rw [if_neg c37] at H
                                  exact absurd H (by simp)
                              · rw [if_neg c36] at H
                                exact absurd H (by simp)
                            · rw [if_neg c34] at H
                              exact absurd H (by simp)
                          · rw [if_neg c33] at H
                            exact absurd H (by simp)
                        · rw [if_neg c31] at H
                          exact absurd H (by simp)
                      · rw [if_neg c30] at H
                        exact absurd H (by simp)
                    · rw [if_neg c28] at H
                      exact absurd H (by simp)
                  · rw [if_neg c27] at H
                    exact absurd H (by simp)
                · rw [if_neg c25] at H
                  exact absurd H (by simp)
              · rw [if_neg c21] at H
                exact absurd H (by simp)
            · rw [if_neg c20] at H
              exact absurd H (by simp)
    · rw [if_neg c10] at H
      exact absurd H (by simp)

end Go.Proofs.Ytmebogkhdbbbbaa.P

-- Written by a program of this session (wip/tools/hp.py) out of the translation.
import Derived.Test.YtmebogkhdbbbbaaPx0
import Derived.Test.YtmebogkhdbbbbaaPx12
import Derived.Test.YtmebogkhdbbbbaaPx13
namespace Go.Proofs.Ytmebogkhdbbbbaa.P
open Go.RowKit Go.Proofs.YtmebogkhdbbbbaaW.PrintWords Go.Proofs.YtmebogkhdbbbbaaW.PrintLast Go.Proofs.YtmebogkhdbbbbaaW.PrintMore
attribute [local go_sem] max2_int min2_int max_two min_two max_three min_three max_four min_four   -- for this text's walks alone
set_option linter.unusedVariables false
set_option linter.unusedSimpArgs false

/-! ### pascalineref07_Mark: function 24 -/
def pascalineref07_Mark.l0 : Nat → Int → ByteArray → ByteArray → Int → Option (ByteArray)
  | 0, _, _, _, _ => none
  | k + 1, x6, x7, x8, x9 => if x9 < (wrap64 (x6 - 1)) then (if 0 ≤ x9 then (if x9 < (x7.size : Int) then (if (bt x7 x9) = 9 then (if x8.size + 1 ≤ 9223372036854775807 then (pascalineref07_Mark.l0 k x6 x7 (x8 ++ (⟨#[9]⟩ : ByteArray)) (wrap64 (x9 + 1))) else (none)) else (if x8.size + 1 ≤ 9223372036854775807 then (pascalineref07_Mark.l0 k x6 x7 (x8 ++ (⟨#[32]⟩ : ByteArray)) (wrap64 (x9 + 1))) else (none))) else (none)) else (none)) else (if x8.size + 1 ≤ 9223372036854775807 then (some (x8 ++ (⟨#[94]⟩ : ByteArray))) else (none))
def pascalineref07_Mark.f (k : Nat) (a0 : ByteArray) (a1 : Int) : Option (ByteArray) := (pascalineref07_At.f k a0 a1).bind fun bt127 => ((pascalineref07_Lines.f k a0).bind fun t129 => (if 0 ≤ (wrap64 (bt127.1 - 1)) then (if (wrap64 (bt127.1 - 1)) < (t129.length : Int) then (if (rdOf ByteArray.empty t129 (wrap64 (bt127.1 - 1))).size + 1 ≤ 9223372036854775807 then (pascalineref07_Mark.l0 k bt127.2 (rdOf ByteArray.empty t129 (wrap64 (bt127.1 - 1))) ((rdOf ByteArray.empty t129 (wrap64 (bt127.1 - 1))) ++ (⟨#[10]⟩ : ByteArray)) 0) else (none)) else (none)) else (none)))
theorem pascalineref07_Mark.mono_l : ∀ k, (∀ y0 y1 y2 y3, LeO (pascalineref07_Mark.l0 k y0 y1 y2 y3) (pascalineref07_Mark.l0 (k + 1) y0 y1 y2 y3))
  | 0 => fun _ _ _ _ r h => by simp [pascalineref07_Mark.l0] at h
  | k + 1 => by
    have ih0 := pascalineref07_Mark.mono_l k
    · intro y0 y1 y2 y3
      unfold pascalineref07_Mark.l0
      repeat' first
      | (with_reducible exact ih0 _ _ _ _)
      | (with_reducible exact pascalineref07_At.mono _ _ _)
      | (with_reducible exact pascalineref07_Lines.mono _ _)
      | (with_reducible exact LeO.refl _)
      | (with_reducible exact LeO.none _)
      | (with_reducible refine LeO.ite ?_ ?_)
      | (with_reducible refine LeO.bind ?_ (fun _ => ?_))
      | exact ih0 _ _ _ _
      | exact pascalineref07_At.mono _ _ _
      | exact pascalineref07_Lines.mono _ _
      | exact LeO.none _
      | refine LeO.ite ?_ ?_
      | refine LeO.bind ?_ (fun _ => ?_)
theorem pascalineref07_Mark.mono : ∀ a0 a1 k, LeO (pascalineref07_Mark.f k a0 a1) (pascalineref07_Mark.f (k + 1) a0 a1) := by
  intro a0 a1 k
  have ih0 := pascalineref07_Mark.mono_l k
  unfold pascalineref07_Mark.f
  repeat' first
      | (with_reducible exact ih0 _ _ _ _)
      | (with_reducible exact pascalineref07_At.mono _ _ _)
      | (with_reducible exact pascalineref07_Lines.mono _ _)
      | (with_reducible exact LeO.refl _)
      | (with_reducible exact LeO.none _)
      | (with_reducible refine LeO.ite ?_ ?_)
      | (with_reducible refine LeO.bind ?_ (fun _ => ?_))
      | exact ih0 _ _ _ _
      | exact pascalineref07_At.mono _ _ _
      | exact pascalineref07_Lines.mono _ _
      | exact LeO.none _
      | refine LeO.ite ?_ ?_
      | refine LeO.bind ?_ (fun _ => ?_)
set_option maxHeartbeats 8000000 in
set_option maxRecDepth 100000 in
theorem pascalineref07_Mark.calls (k : Nat) (a0 : ByteArray) (a1 : Int) (r : ByteArray) (w : World) (h : pascalineref07_Mark.f k a0 a1 = some r) :
    Calls Try.prog 24 #[.string a0, .int .i64 a1] w fun e w' => e = .returned (.string r) ∧ Below w.heap.size w w' := by
  have HB := Aside0.mk (Below.refl w.heap.size w)
  have H : ((pascalineref07_At.f k a0 a1).bind fun bt127 => ((pascalineref07_Lines.f k a0).bind fun t129 => (if 0 ≤ (wrap64 (bt127.1 - 1)) then (if (wrap64 (bt127.1 - 1)) < (t129.length : Int) then (if (rdOf ByteArray.empty t129 (wrap64 (bt127.1 - 1))).size + 1 ≤ 9223372036854775807 then (pascalineref07_Mark.l0 k bt127.2 (rdOf ByteArray.empty t129 (wrap64 (bt127.1 - 1))) ((rdOf ByteArray.empty t129 (wrap64 (bt127.1 - 1))) ++ (⟨#[10]⟩ : ByteArray)) 0) else (none)) else (none)) else (none)))) = some r := h
  clear h
  replace H := Option.bind_eq_some_iff.mp H
  obtain ⟨⟨t127, t128⟩, A30, H⟩ := H
  replace H : ((pascalineref07_Lines.f k a0).bind fun t129 => (if 0 ≤ (wrap64 (t127 - 1)) then (if (wrap64 (t127 - 1)) < (t129.length : Int) then (if (rdOf ByteArray.empty t129 (wrap64 (t127 - 1))).size + 1 ≤ 9223372036854775807 then (pascalineref07_Mark.l0 k t128 (rdOf ByteArray.empty t129 (wrap64 (t127 - 1))) ((rdOf ByteArray.empty t129 (wrap64 (t127 - 1))) ++ (⟨#[10]⟩ : ByteArray)) 0) else (none)) else (none)) else (none))) = some r := H
  have A3 := Aside0.mk A30
  clear A30
  replace H := Option.bind_eq_some_iff.mp H
  obtain ⟨t129, A40, H⟩ := H
  replace H : (if 0 ≤ (wrap64 (t127 - 1)) then (if (wrap64 (t127 - 1)) < (t129.length : Int) then (if (rdOf ByteArray.empty t129 (wrap64 (t127 - 1))).size + 1 ≤ 9223372036854775807 then (pascalineref07_Mark.l0 k t128 (rdOf ByteArray.empty t129 (wrap64 (t127 - 1))) ((rdOf ByteArray.empty t129 (wrap64 (t127 - 1))) ++ (⟨#[10]⟩ : ByteArray)) 0) else (none)) else (none)) else (none)) = some r := H
  have A4 := Aside0.mk A40
  clear A40
  obtain ⟨ji5, hji5⟩ : ∃ j_ : Int, (wrap64 (t127 - 1)) = j_ := ⟨_, rfl⟩
  replace H : (if 0 ≤ (ji5) then (if (ji5) < (t129.length : Int) then (if (rdOf ByteArray.empty t129 (ji5)).size + 1 ≤ 9223372036854775807 then (pascalineref07_Mark.l0 k t128 (rdOf ByteArray.empty t129 (ji5)) ((rdOf ByteArray.empty t129 (ji5)) ++ (⟨#[10]⟩ : ByteArray)) 0) else (none)) else (none)) else (none)) = some r := by first | (rw [hji5] at H; exact H) | (simp only [hji5] at H ⊢; exact H)
  (try rw [hji5] at A3)
  (try rw [hji5] at A4)
  have hji5w : (IntKind.i64.wrap (t127 - 1)) = ji5 := (i64_w _).trans hji5
  by_cases c6 : 0 ≤ (ji5)
  · rw [if_pos c6] at H
    have c6b0 : decide (0 ≤ (ji5)) = true := decide_eq_true c6
    clear c6
    by_cases c7 : (ji5) < (t129.length : Int)
    · rw [if_pos c7] at H
      have c7b0 : decide ((ji5) < (t129.length : Int)) = true := decide_eq_true c7
      clear c7
      by_cases c8 : (rdOf ByteArray.empty t129 (ji5)).size + 1 ≤ 9223372036854775807
      · rw [if_pos c8] at H
        have c8b0 := eq_true c8
        have c8b1 : decide ((rdOf ByteArray.empty t129 (ji5)).size + 1 ≤ 9223372036854775807) = true := decide_eq_true c8
        try have c8b2 : (9223372036854775807 < (rdOf ByteArray.empty t129 (ji5)).size + 1) = False := eq_false (Nat.not_lt.2 c8)
        have H' := Aside0.mk H
        clear H
        go_enter Try.func24, Try.ntmps24
        go_wp2_with (first | ((with_reducible refine gate_callee (f := 23) rfl ?_); refine goesL_ (some 13) rfl rfl Try.func23 (by kernel_rfl) rfl #[.string a0, .int .i64 a1] rfl (by (try simp only [List.map_toArray, List.map_cons, List.map_nil]); first | done | rfl | (simp only [List.length_drop, List.length_take]; rfl)) ?_; (with_reducible refine (pascalineref07_At.calls k a0 a1 t127 t128 _ A3.out).mono ?_); rintro e w' ⟨rfl, ⟨nd, rfl⟩⟩; refine ⟨_, rfl, ?_⟩) | ((with_reducible refine gate_callee (f := 38) rfl ?_); refine goesL_ (some 17) rfl rfl Try.func38 (by kernel_rfl) rfl #[.string a0] rfl (by (try simp only [List.map_toArray, List.map_cons, List.map_nil]); first | done | rfl | (simp only [List.length_drop, List.length_take]; rfl)) ?_; (with_reducible refine (pascalineref07_Lines.calls k a0 t129 _ A4.out).mono ?_); rintro e w9 ⟨v130, rfl, ho0, hb⟩; refine ⟨_, rfl, ?_⟩; have n0_ := Aside0.mk (Kd.R_lower ho0 (below_size (by repeat (first | (with_reducible first | exact HB.out | apply below_alloc | apply pw_below_drewN | apply below_drew1) | exact HB.out)))); have n1_ := Aside0.mk (below_step (by repeat (first | (with_reducible first | exact HB.out | apply below_alloc | apply pw_below_drewN | apply below_drew1) | exact HB.out)) hb); clear HB; have HO131 := n0_; have HB := n1_; clear n0_ n1_; (try clear hb); (try clear hb2); (try clear hk); (try clear hi); (try clear ho0); obtain ⟨Ao10, co10, eo10⟩ := Kd.R_slice HO131.out; subst eo10; have p132 : 0 ≤ ((ji5) : Int) := of_decide_eq_true (by first | (with_reducible assumption) | assumption); have q132 : (ji5) < (t129.length : Int) := of_decide_eq_true (by first | (with_reducible assumption) | assumption); obtain ⟨ad132, e132, hx132_0⟩ := Kd.at_string (Kd.R_reads' HO131.out).2.2 (ji5) p132 q132; cases e132; replace p132 := eq_true p132; replace q132 := eq_true q132))
        go_loopg [8, 9] k (fun kq v8 v9 w' => ∃ (x8_1 : ByteArray) (x9_1 : Int), v8 = .string x8_1 ∧ v9 = .int .i64 x9_1 ∧ Aside0 (pascalineref07_Mark.l0 kq t128 (rdOf ByteArray.empty t129 (ji5)) x8_1 x9_1 = some r) ∧ Aside0 (kq ≤ k) ∧ Aside0 (Below w.heap.size w w'))
        case atStart => exact ⟨((rdOf ByteArray.empty t129 (ji5)) ++ (⟨#[10]⟩ : ByteArray)), (0), (by first | rfl | (simp; done) | (simp only [← hji5] <;> (first | rfl | simp)) | (simp [*]; done)), (by first | rfl | (simp; done) | (simp [*]; done)), H', ⟨Nat.le_refl _⟩, ⟨by repeat (first | (with_reducible first | exact HB.out | apply below_alloc | apply pw_below_drewN | apply below_drew1) | exact HB.out)⟩⟩
        case round =>
          clear H'
          try clear p1
          try clear q1
          try clear hx1
          try clear c2
          try clear p2
          try clear c3
          try clear c6
          try clear c6b0
          try clear p6
          try clear c7
          try clear c7b0
          try clear c8
          try clear c8b0
          try clear c8b1
          try clear c8b2
          try clear hx132_0
          try clear p132
          try clear q132
          obtain ⟨x8_1, x9_1, rfl, rfl, HA, HK1, HB⟩ := hrel
          cases gk with
          | zero => exact absurd HA.out (by simp [pascalineref07_Mark.l0])
          | succ k1 =>
            have H := HA.out
            clear HA
            simp only [pascalineref07_Mark.l0] at H
            by_cases c11 : x9_1 < (wrap64 (t128 - 1))
            · rw [if_pos c11] at H
              have c11b0 : decide (x9_1 < (wrap64 (t128 - 1))) = true := decide_eq_true c11
              clear c11
              by_cases c12 : 0 ≤ x9_1
              · rw [if_pos c12] at H
                have c12b0 : decide (0 ≤ x9_1) = true := decide_eq_true c12
                clear c12
                by_cases c13 : x9_1 < ((rdOf ByteArray.empty t129 (ji5)).size : Int)
                · rw [if_pos c13] at H
                  have c13b0 : decide (x9_1 < ((rdOf ByteArray.empty t129 (ji5)).size : Int)) = true := decide_eq_true c13
                  clear c13
                  by_cases c15 : (bt (rdOf ByteArray.empty t129 (ji5)) x9_1) = 9
                  · rw [if_pos c15] at H
                    have c15b0 : ((bt (rdOf ByteArray.empty t129 (ji5)) x9_1) == 9) = true := beq_iff_eq.mpr c15
                    have c15b1 : ((bt (rdOf ByteArray.empty t129 (ji5)) x9_1) != 9) = false := bne_eq_false_iff_eq.mpr c15
                    clear c15
                    by_cases c16 : x8_1.size + 1 ≤ 9223372036854775807
                    · rw [if_pos c16] at H
                      have c16b0 := eq_true c16
                      have c16b1 : decide (x8_1.size + 1 ≤ 9223372036854775807) = true := decide_eq_true c16
                      try have c16b2 : (9223372036854775807 < x8_1.size + 1) = False := eq_false (Nat.not_lt.2 c16)
                      have H' := Aside0.mk H
                      clear H
                      have p14 : 0 ≤ (x9_1 : Int) := of_decide_eq_true (by first | (with_reducible assumption) | assumption)
                      have q14 : x9_1 < ((rdOf ByteArray.empty t129 (ji5)).size : Int) := of_decide_eq_true (by first | (with_reducible assumption) | assumption)
                      have hx14 := bt_at (rdOf ByteArray.empty t129 (ji5)) x9_1
                      replace p14 := eq_true p14
                      replace q14 := eq_true q14
                      go_wp2
                      go_roundg k1
                      case measure => have := HK1.out; omega
                      case rel => exact ⟨(x8_1 ++ (⟨#[9]⟩ : ByteArray)), (wrap64 (x9_1 + 1)), (by first | rfl | (simp; done) | (simp [*]; done)), (by first | rfl | (simp; done) | (simp [*]; done)), H', ⟨by have := HK1.out; omega⟩, ⟨by repeat (first | (with_reducible first | exact HB.out | apply below_alloc | apply pw_below_drewN | apply below_drew1) | exact HB.out)⟩⟩
                    · rw [if_neg c16] at H
                      exact absurd H (by simp)
                  · rw [if_neg c15] at H
                    have c15b0 : ((bt (rdOf ByteArray.empty t129 (ji5)) x9_1) == 9) = false := beq_eq_false_iff_ne.mpr c15
                    have c15b1 : ((bt (rdOf ByteArray.empty t129 (ji5)) x9_1) != 9) = true := bne_iff_ne.mpr c15
                    by_cases c17 : x8_1.size + 1 ≤ 9223372036854775807
                    · rw [if_pos c17] at H
                      have c17b0 := eq_true c17
                      have c17b1 : decide (x8_1.size + 1 ≤ 9223372036854775807) = true := decide_eq_true c17
                      try have c17b2 : (9223372036854775807 < x8_1.size + 1) = False := eq_false (Nat.not_lt.2 c17)
                      have H' := Aside0.mk H
                      clear H
                      have p14 : 0 ≤ (x9_1 : Int) := of_decide_eq_true (by first | (with_reducible assumption) | assumption)
                      have q14 : x9_1 < ((rdOf ByteArray.empty t129 (ji5)).size : Int) := of_decide_eq_true (by first | (with_reducible assumption) | assumption)
                      have hx14 := bt_at (rdOf ByteArray.empty t129 (ji5)) x9_1
                      replace p14 := eq_true p14
                      replace q14 := eq_true q14
                      go_wp2
                      go_roundg k1
                      case measure => have := HK1.out; omega
                      case rel => exact ⟨(x8_1 ++ (⟨#[32]⟩ : ByteArray)), (wrap64 (x9_1 + 1)), (by first | rfl | (simp; done) | (simp [*]; done)), (by first | rfl | (simp; done) | (simp [*]; done)), H', ⟨by have := HK1.out; omega⟩, ⟨by repeat (first | (with_reducible first | exact HB.out | apply below_alloc | apply pw_below_drewN | apply below_drew1) | exact HB.out)⟩⟩
                    · rw [if_neg c17] at H
                      exact absurd H (by simp)
                · rw [if_neg c13] at H
                  exact absurd H (by simp)
              · rw [if_neg c12] at H
                exact absurd H (by simp)
            · rw [if_neg c11] at H
              have c11b0 : decide (x9_1 < (wrap64 (t128 - 1))) = false := decide_eq_false c11
              clear c11
              by_cases c18 : x8_1.size + 1 ≤ 9223372036854775807
              · rw [if_pos c18] at H
                have c18b0 := eq_true c18
                have c18b1 : decide (x8_1.size + 1 ≤ 9223372036854775807) = true := decide_eq_true c18
                try have c18b2 : (9223372036854775807 < x8_1.size + 1) = False := eq_false (Nat.not_lt.2 c18)
                obtain rfl := Option.some.inj H
                go_wp2
                go_ret
                exact ⟨by first | rfl | (simp [errW_none, errW_some] <;> rfl) | (simp only [← hji5]; first | rfl | (simp [errW_none, errW_some] <;> rfl)) | (simp [*, errW_none, errW_some] <;> rfl), by repeat (first | (with_reducible first | exact HB.out | apply below_alloc | apply pw_below_drewN | apply below_drew1) | exact HB.out)⟩
              · rw [if_neg c18] at H
                exact absurd H (by simp)
      · rw [if_neg c8] at H
        exact absurd H (by simp)
    · rw [if_neg c7] at H
      exact absurd H (by simp)
  · rw [if_neg c6] at H
    exact absurd H (by simp)

end Go.Proofs.Ytmebogkhdbbbbaa.P

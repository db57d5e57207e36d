-- Written by a program of this session (wip/tools/hp.py) out of the translation.
import Derived.Test.YtmebogkhdbbbbaaPx0
import Derived.Test.YtmebogkhdbbbbaaPx2
namespace Go.Proofs.Ytmebogkhdbbbbaa.P
open Go.RowKit Go.Proofs.YtmebogkhdbbbbaaW.PrintWords Go.Proofs.YtmebogkhdbbbbaaW.PrintLast Go.Proofs.YtmebogkhdbbbbaaW.PrintMore
attribute [local go_sem] max2_int min2_int max_two min_two max_three min_three max_four min_four   -- for this text's walks alone
set_option linter.unusedVariables false
set_option linter.unusedSimpArgs false

/-! ### report_more: function 25 -/
def report_more.j0 : Nat → Int → Int → Bool → Option (ByteArray)
  | 0, _, _, _ => none
  | k + 1, x0, x3, x26 => if x26 = true then (some (⟨#[116, 111, 111, 32, 109, 117, 99, 104, 32, 99, 111, 100, 101]⟩ : ByteArray)) else (if x3 = 243 then (some (⟨#[116, 111, 111, 32, 109, 97, 110, 121, 32, 109, 111, 100, 117, 108, 101, 115]⟩ : ByteArray)) else (if x3 = 244 then (some (⟨#[116, 111, 111, 32, 109, 97, 110, 121, 32, 118, 97, 114, 105, 97, 98, 108, 101, 115]⟩ : ByteArray)) else (if x3 = 270 then (some (⟨#[116, 111, 111, 32, 103, 114, 101, 97, 116, 32, 102, 111, 114, 32, 116, 104, 101, 32, 109, 97, 99, 104, 105, 110, 101]⟩ : ByteArray)) else (if x3 = 33 then (some (⟨#[116, 111, 111, 32, 103, 114, 101, 97, 116, 32, 102, 111, 114, 32, 116, 104, 101, 32, 109, 97, 99, 104, 105, 110, 101]⟩ : ByteArray)) else ((word_Text.f x0).bind fun t103 => (if 6 + t103.size ≤ 9223372036854775807 then (some ((⟨#[101, 114, 114, 111, 114, 32]⟩ : ByteArray) ++ t103)) else (none)))))))
def report_more.f (k : Nat) (a0 : Int) : Option (ByteArray) := if a0 = 51 then (some (⟨#[116, 104, 105, 115, 32, 110, 97, 109, 101, 32, 105, 115, 32, 116, 104, 101, 114, 101, 32, 97, 108, 114, 101, 97, 100, 121]⟩ : ByteArray)) else (if a0 = 90 then (some (⟨#[116, 104, 105, 115, 32, 105, 115, 32, 116, 111, 111, 32, 103, 114, 101, 97, 116, 44, 32, 111, 114, 32, 116, 111, 111, 32, 115, 109, 97, 108, 108]⟩ : ByteArray)) else (if a0 = 141 then (some (⟨#[111, 116, 104, 101, 114, 115, 32, 109, 97, 121, 32, 110, 111, 116, 32, 117, 115, 101, 32, 116, 104, 105, 115]⟩ : ByteArray)) else (if a0 = 144 then (some (⟨#[116, 104, 101, 114, 101, 32, 105, 115, 32, 110, 111, 32, 115, 117, 99, 104, 32, 109, 111, 100, 117, 108, 101]⟩ : ByteArray)) else (if a0 = 143 then (some (⟨#[109, 111, 100, 117, 108, 101, 115, 32, 117, 115, 101, 32, 101, 97, 99, 104, 32, 111, 116, 104, 101, 114]⟩ : ByteArray)) else (if a0 = 142 then (some (⟨#[97, 32, 109, 111, 100, 117, 108, 101, 32, 104, 97, 115, 32, 99, 104, 97, 110, 103, 101, 100]⟩ : ByteArray)) else (if a0 = 201 then (some (⟨#[110, 111, 32, 82, 69, 84, 85, 82, 78, 32, 119, 105, 116, 104, 105, 110, 32, 84, 82, 89]⟩ : ByteArray)) else (if a0 = 202 then (some (⟨#[116, 104, 105, 115, 32, 101, 110, 100, 115, 32, 111, 116, 104, 101, 114, 119, 105, 115, 101]⟩ : ByteArray)) else (if a0 = 203 then (some (⟨#[116, 111, 111, 32, 109, 97, 110, 121, 32, 112, 97, 114, 97, 109, 101, 116, 101, 114, 115]⟩ : ByteArray)) else (if a0 = 240 then (some (⟨#[116, 111, 111, 32, 109, 117, 99, 104, 32, 119, 105, 116, 104, 105, 110, 32, 101, 97, 99, 104, 32, 111, 116, 104, 101, 114]⟩ : ByteArray)) else (if a0 = 241 then (some (⟨#[116, 111, 111, 32, 109, 97, 110, 121, 32, 110, 117, 109, 98, 101, 114, 115, 32, 119, 97, 105, 116]⟩ : ByteArray)) else (if a0 = 242 then (report_more.j0 k a0 a0 (a0 == 242)) else (report_more.j0 k a0 a0 (a0 == 52)))))))))))))
theorem report_more.mono_l : ∀ k, (∀ y0 y1 y2, LeO (report_more.j0 k y0 y1 y2) (report_more.j0 (k + 1) y0 y1 y2))
  | 0 => fun _ _ _ r h => by simp [report_more.j0] at h
  | k + 1 => by
    have ih0 := report_more.mono_l k
    · intro y0 y1 y2
      unfold report_more.j0
      repeat' first
      | (with_reducible exact ih0 _ _ _)
      | (with_reducible exact LeO.refl _)
      | (with_reducible exact LeO.none _)
      | (with_reducible refine LeO.ite ?_ ?_)
      | (with_reducible refine LeO.bind ?_ (fun _ => ?_))
      | exact ih0 _ _ _
      | exact LeO.none _
      | refine LeO.ite ?_ ?_
      | refine LeO.bind ?_ (fun _ => ?_)
theorem report_more.mono : ∀ a0 k, LeO (report_more.f k a0) (report_more.f (k + 1) a0) := by
  intro a0 k
  have ih0 := report_more.mono_l k
  unfold report_more.f
  repeat' first
      | (with_reducible exact ih0 _ _ _)
      | (with_reducible exact LeO.refl _)
      | (with_reducible exact LeO.none _)
      | (with_reducible refine LeO.ite ?_ ?_)
      | (with_reducible refine LeO.bind ?_ (fun _ => ?_))
      | exact ih0 _ _ _
      | exact LeO.none _
      | refine LeO.ite ?_ ?_
      | refine LeO.bind ?_ (fun _ => ?_)
set_option maxHeartbeats 8000000 in
set_option maxRecDepth 100000 in
theorem report_more.calls (k : Nat) (a0 : Int) (r : ByteArray) (w : World) (h : report_more.f k a0 = some r) :
    Calls Try.prog 25 #[.int .i64 a0] w fun e w' => e = .returned (.string r) ∧ Below w.heap.size w w' := by
  have HB := Aside0.mk (Below.refl w.heap.size w)
  have H : (if a0 = 51 then (some (⟨#[116, 104, 105, 115, 32, 110, 97, 109, 101, 32, 105, 115, 32, 116, 104, 101, 114, 101, 32, 97, 108, 114, 101, 97, 100, 121]⟩ : ByteArray)) else (if a0 = 90 then (some (⟨#[116, 104, 105, 115, 32, 105, 115, 32, 116, 111, 111, 32, 103, 114, 101, 97, 116, 44, 32, 111, 114, 32, 116, 111, 111, 32, 115, 109, 97, 108, 108]⟩ : ByteArray)) else (if a0 = 141 then (some (⟨#[111, 116, 104, 101, 114, 115, 32, 109, 97, 121, 32, 110, 111, 116, 32, 117, 115, 101, 32, 116, 104, 105, 115]⟩ : ByteArray)) else (if a0 = 144 then (some (⟨#[116, 104, 101, 114, 101, 32, 105, 115, 32, 110, 111, 32, 115, 117, 99, 104, 32, 109, 111, 100, 117, 108, 101]⟩ : ByteArray)) else (if a0 = 143 then (some (⟨#[109, 111, 100, 117, 108, 101, 115, 32, 117, 115, 101, 32, 101, 97, 99, 104, 32, 111, 116, 104, 101, 114]⟩ : ByteArray)) else (if a0 = 142 then (some (⟨#[97, 32, 109, 111, 100, 117, 108, 101, 32, 104, 97, 115, 32, 99, 104, 97, 110, 103, 101, 100]⟩ : ByteArray)) else (if a0 = 201 then (some (⟨#[110, 111, 32, 82, 69, 84, 85, 82, 78, 32, 119, 105, 116, 104, 105, 110, 32, 84, 82, 89]⟩ : ByteArray)) else (if a0 = 202 then (some (⟨#[116, 104, 105, 115, 32, 101, 110, 100, 115, 32, 111, 116, 104, 101, 114, 119, 105, 115, 101]⟩ : ByteArray)) else (if a0 = 203 then (some (⟨#[116, 111, 111, 32, 109, 97, 110, 121, 32, 112, 97, 114, 97, 109, 101, 116, 101, 114, 115]⟩ : ByteArray)) else (if a0 = 240 then (some (⟨#[116, 111, 111, 32, 109, 117, 99, 104, 32, 119, 105, 116, 104, 105, 110, 32, 101, 97, 99, 104, 32, 111, 116, 104, 101, 114]⟩ : ByteArray)) else (if a0 = 241 then (some (⟨#[116, 111, 111, 32, 109, 97, 110, 121, 32, 110, 117, 109, 98, 101, 114, 115, 32, 119, 97, 105, 116]⟩ : ByteArray)) else (if a0 = 242 then (report_more.j0 k a0 a0 (a0 == 242)) else (report_more.j0 k a0 a0 (a0 == 52)))))))))))))) = some r := h
  clear h
  by_cases c2 : a0 = 51
  · rw [if_pos c2] at H
    have c2b0 : (a0 == 51) = true := beq_iff_eq.mpr c2
    have c2b1 : (a0 != 51) = false := bne_eq_false_iff_eq.mpr c2
    clear c2
    obtain rfl := Option.some.inj H
    go_enter Try.func25, Try.ntmps25
    go_wp2
    go_ret
    exact ⟨by first | rfl | (simp [errW_none, errW_some] <;> rfl) | (simp [*, errW_none, errW_some] <;> rfl), by repeat (first | (with_reducible first | exact HB.out | apply below_alloc | apply pw_below_drewN | apply below_drew1) | exact HB.out)⟩
  · rw [if_neg c2] at H
    have c2b0 : (a0 == 51) = false := beq_eq_false_iff_ne.mpr c2
    have c2b1 : (a0 != 51) = true := bne_iff_ne.mpr c2
    by_cases c3 : a0 = 90
    · rw [if_pos c3] at H
      have c3b0 : (a0 == 90) = true := beq_iff_eq.mpr c3
      have c3b1 : (a0 != 90) = false := bne_eq_false_iff_eq.mpr c3
      clear c3
      obtain rfl := Option.some.inj H
      go_enter Try.func25, Try.ntmps25
      go_wp2
      go_ret
      exact ⟨by first | rfl | (simp [errW_none, errW_some] <;> rfl) | (simp [*, errW_none, errW_some] <;> rfl), by repeat (first | (with_reducible first | exact HB.out | apply below_alloc | apply pw_below_drewN | apply below_drew1) | exact HB.out)⟩
    · rw [if_neg c3] at H
      have c3b0 : (a0 == 90) = false := beq_eq_false_iff_ne.mpr c3
      have c3b1 : (a0 != 90) = true := bne_iff_ne.mpr c3
      by_cases c4 : a0 = 141
      · rw [if_pos c4] at H
        have c4b0 : (a0 == 141) = true := beq_iff_eq.mpr c4
        have c4b1 : (a0 != 141) = false := bne_eq_false_iff_eq.mpr c4
        clear c4
        obtain rfl := Option.some.inj H
        go_enter Try.func25, Try.ntmps25
        go_wp2
        go_ret
        exact ⟨by first | rfl | (simp [errW_none, errW_some] <;> rfl) | (simp [*, errW_none, errW_some] <;> rfl), by repeat (first | (with_reducible first | exact HB.out | apply below_alloc | apply pw_below_drewN | apply below_drew1) | exact HB.out)⟩
      · rw [if_neg c4] at H
        have c4b0 : (a0 == 141) = false := beq_eq_false_iff_ne.mpr c4
        have c4b1 : (a0 != 141) = true := bne_iff_ne.mpr c4
        by_cases c5 : a0 = 144
        · rw [if_pos c5] at H
          have c5b0 : (a0 == 144) = true := beq_iff_eq.mpr c5
          have c5b1 : (a0 != 144) = false := bne_eq_false_iff_eq.mpr c5
          clear c5
          obtain rfl := Option.some.inj H
          go_enter Try.func25, Try.ntmps25
          go_wp2
          go_ret
          exact ⟨by first | rfl | (simp [errW_none, errW_some] <;> rfl) | (simp [*, errW_none, errW_some] <;> rfl), by repeat (first | (with_reducible first | exact HB.out | apply below_alloc | apply pw_below_drewN | apply below_drew1) | exact HB.out)⟩
        · rw [if_neg c5] at H
          have c5b0 : (a0 == 144) = false := beq_eq_false_iff_ne.mpr c5
          have c5b1 : (a0 != 144) = true := bne_iff_ne.mpr c5
          by_cases c6 : a0 = 143
          · rw [if_pos c6] at H
            have c6b0 : (a0 == 143) = true := beq_iff_eq.mpr c6
            have c6b1 : (a0 != 143) = false := bne_eq_false_iff_eq.mpr c6
            clear c6
            obtain rfl := Option.some.inj H
            go_enter Try.func25, Try.ntmps25
            go_wp2
            go_ret
            exact ⟨by first | rfl | (simp [errW_none, errW_some] <;> rfl) | (simp [*, errW_none, errW_some] <;> rfl), by repeat (first | (with_reducible first | exact HB.out | apply below_alloc | apply pw_below_drewN | apply below_drew1) | exact HB.out)⟩
          · rw [if_neg c6] at H
            have c6b0 : (a0 == 143) = false := beq_eq_false_iff_ne.mpr c6
            have c6b1 : (a0 != 143) = true := bne_iff_ne.mpr c6
            by_cases c7 : a0 = 142
            · rw [if_pos c7] at H
              have c7b0 : (a0 == 142) = true := beq_iff_eq.mpr c7
              have c7b1 : (a0 != 142) = false := bne_eq_false_iff_eq.mpr c7
              clear c7
              obtain rfl := Option.some.inj H
              go_enter Try.func25, Try.ntmps25
              go_wp2
              go_ret
              exact ⟨by first | rfl | (simp [errW_none, errW_some] <;> rfl) | (simp [*, errW_none, errW_some] <;> rfl), by repeat (first | (with_reducible first | exact HB.out | apply below_alloc | apply pw_below_drewN | apply below_drew1) | exact HB.out)⟩
            · rw [if_neg c7] at H
              have c7b0 : (a0 == 142) = false := beq_eq_false_iff_ne.mpr c7
              have c7b1 : (a0 != 142) = true := bne_iff_ne.mpr c7
              by_cases c8 : a0 = 201
              · rw [if_pos c8] at H
                have c8b0 : (a0 == 201) = true := beq_iff_eq.mpr c8
                have c8b1 : (a0 != 201) = false := bne_eq_false_iff_eq.mpr c8
                clear c8
                obtain rfl := Option.some.inj H
                go_enter Try.func25, Try.ntmps25
                go_wp2
                go_ret
                exact ⟨by first | rfl | (simp [errW_none, errW_some] <;> rfl) | (simp [*, errW_none, errW_some] <;> rfl), by repeat (first | (with_reducible first | exact HB.out | apply below_alloc | apply pw_below_drewN | apply below_drew1) | exact HB.out)⟩
              · rw [if_neg c8] at H
                have c8b0 : (a0 == 201) = false := beq_eq_false_iff_ne.mpr c8
                have c8b1 : (a0 != 201) = true := bne_iff_ne.mpr c8
                by_cases c9 : a0 = 202
                · rw [if_pos c9] at H
                  have c9b0 : (a0 == 202) = true := beq_iff_eq.mpr c9
                  have c9b1 : (a0 != 202) = false := bne_eq_false_iff_eq.mpr c9
                  clear c9
                  obtain rfl := Option.some.inj H
                  go_enter Try.func25, Try.ntmps25
                  go_wp2
                  go_ret
                  exact ⟨by first | rfl | (simp [errW_none, errW_some] <;> rfl) | (simp [*, errW_none, errW_some] <;> rfl), by repeat (first | (with_reducible first | exact HB.out | apply below_alloc | apply pw_below_drewN | apply below_drew1) | exact HB.out)⟩
                · rw [if_neg c9] at H
                  have c9b0 : (a0 == 202) = false := beq_eq_false_iff_ne.mpr c9
                  have c9b1 : (a0 != 202) = true := bne_iff_ne.mpr c9
                  by_cases c10 : a0 = 203
                  · rw [if_pos c10] at H
                    have c10b0 : (a0 == 203) = true := beq_iff_eq.mpr c10
                    have c10b1 : (a0 != 203) = false := bne_eq_false_iff_eq.mpr c10
                    clear c10
                    obtain rfl := Option.some.inj H
                    go_enter Try.func25, Try.ntmps25
                    go_wp2
                    go_ret
                    exact ⟨by first | rfl | (simp [errW_none, errW_some] <;> rfl) | (simp [*, errW_none, errW_some] <;> rfl), by repeat (first | (with_reducible first | exact HB.out | apply below_alloc | apply pw_below_drewN | apply below_drew1) | exact HB.out)⟩
                  · rw [if_neg c10] at H
                    have c10b0 : (a0 == 203) = false := beq_eq_false_iff_ne.mpr c10
                    have c10b1 : (a0 != 203) = true := bne_iff_ne.mpr c10
                    by_cases c11 : a0 = 240
                    · rw [if_pos c11] at H
                      have c11b0 : (a0 == 240) = true := beq_iff_eq.mpr c11
                      have c11b1 : (a0 != 240) = false := bne_eq_false_iff_eq.mpr c11
                      clear c11
                      obtain rfl := Option.some.inj H
                      go_enter Try.func25, Try.ntmps25
                      go_wp2
                      go_ret
                      exact ⟨by first | rfl | (simp [errW_none, errW_some] <;> rfl) | (simp [*, errW_none, errW_some] <;> rfl), by repeat (first | (with_reducible first | exact HB.out | apply below_alloc | apply pw_below_drewN | apply below_drew1) | exact HB.out)⟩
                    · rw [if_neg c11] at H
                      have c11b0 : (a0 == 240) = false := beq_eq_false_iff_ne.mpr c11
                      have c11b1 : (a0 != 240) = true := bne_iff_ne.mpr c11
                      by_cases c12 : a0 = 241
                      · rw [if_pos c12] at H
                        have c12b0 : (a0 == 241) = true := beq_iff_eq.mpr c12
                        have c12b1 : (a0 != 241) = false := bne_eq_false_iff_eq.mpr c12
                        clear c12
                        obtain rfl := Option.some.inj H
                        go_enter Try.func25, Try.ntmps25
                        go_wp2
                        go_ret
                        exact ⟨by first | rfl | (simp [errW_none, errW_some] <;> rfl) | (simp [*, errW_none, errW_some] <;> rfl), by repeat (first | (with_reducible first | exact HB.out | apply below_alloc | apply pw_below_drewN | apply below_drew1) | exact HB.out)⟩
                      · rw [if_neg c12] at H
                        have c12b0 : (a0 == 241) = false := beq_eq_false_iff_ne.mpr c12
                        have c12b1 : (a0 != 241) = true := bne_iff_ne.mpr c12
                        have HC13 := Aside0.mk H
                        clear H
                        go_enter Try.func25, Try.ntmps25
                        go_upto_if 26 with (fail)
                        go_cut [26] (fun v26 wc => ∃ (kq : Nat) (x26_12 : Bool), v26 = .bool x26_12 ∧ Aside0 (report_more.j0 kq a0 a0 x26_12 = some r) ∧ Aside0 (kq ≤ k) ∧ Aside0 (Below w.heap.size w wc))
                        case first =>
                          have H := HC13.out
                          clear HC13
                          by_cases c14 : a0 = 242
                          · rw [if_pos c14] at H
                            have c14b0 : (a0 == 242) = true := beq_iff_eq.mpr c14
                            have c14b1 : (a0 != 242) = false := bne_eq_false_iff_eq.mpr c14
                            clear c14
                            (first | rw [c14b0] | (simp only [i64_w, i32_w]; rw [c14b0]) | skip)
                            have H' := Aside0.mk H
                            clear H
                            go_wp2
                            go_meet
                            case rel => exact ⟨_, ((a0 == 242)), (by first | rfl | (simp; done) | (simp [*]; done)), H', ⟨by first | omega | exact Nat.le_refl _⟩, ⟨by repeat (first | (with_reducible first | exact HB.out | apply below_alloc | apply pw_below_drewN | apply below_drew1) | exact HB.out)⟩⟩
                          · rw [if_neg c14] at H
                            have c14b0 : (a0 == 242) = false := beq_eq_false_iff_ne.mpr c14
                            have c14b1 : (a0 != 242) = true := bne_iff_ne.mpr c14
                            (first | rw [c14b0] | (simp only [i64_w, i32_w]; rw [c14b0]) | skip)
                            have H' := Aside0.mk H
                            clear H
                            go_wp2
                            go_meet
                            case rel => exact ⟨_, ((a0 == 52)), (by first | rfl | (simp; done) | (simp [*]; done)), H', ⟨by first | omega | exact Nat.le_refl _⟩, ⟨by repeat (first | (with_reducible first | exact HB.out | apply below_alloc | apply pw_below_drewN | apply below_drew1) | exact HB.out)⟩⟩
                        case rest =>
                          clear HC13
                          try clear c1
                          try clear c2
                          try clear c2b0
                          try clear c2b1
                          try clear p2
                          try clear c3
                          try clear c3b0
                          try clear c3b1
                          try clear c4
                          try clear c4b0
                          try clear c4b1
                          try clear c5
                          try clear c5b0
                          try clear c5b1
                          try clear c6
                          try clear c6b0
                          try clear c6b1
                          try clear c7
                          try clear c7b0
                          try clear c7b1
                          try clear c8
                          try clear c8b0
                          try clear c8b1
                          try clear c9
                          try clear c9b0
                          try clear c9b1
                          try clear c10
                          try clear c10b0
                          try clear c10b1
                          try clear c11
                          try clear c11b0
                          try clear c11b1
                          try clear c12
                          try clear c12b0
                          try clear c12b1
                          try clear c14
                          try clear c14b0
                          try clear c14b1
                          obtain ⟨kq, x26_12, rfl, HA, HJ12, HB⟩ := hcut
                          cases kq with
                          | zero => exact absurd HA.out (by simp [report_more.j0])
                          | succ kj12 =>
                            have H := HA.out
                            clear HA
                            simp only [report_more.j0] at H
                            by_cases c15 : x26_12 = true
                            · subst c15
                              have H1 : (some (⟨#[116, 111, 111, 32, 109, 117, 99, 104, 32, 99, 111, 100, 101]⟩ : ByteArray)) = some r := by rw [if_pos rfl] at H; exact H
                              clear H
                              have H := H1
                              clear H1
                              obtain rfl := Option.some.inj H
                              go_wp2
                              go_ret
                              exact ⟨by first | rfl | (simp [errW_none, errW_some] <;> rfl) | (simp [*, errW_none, errW_some] <;> rfl), by repeat (first | (with_reducible first | exact HB.out | apply below_alloc | apply pw_below_drewN | apply below_drew1) | exact HB.out)⟩
                            · replace c15 := Bool.eq_false_iff.mpr c15
                              subst c15
                              have H1 : (if a0 = 243 then (some (⟨#[116, 111, 111, 32, 109, 97, 110, 121, 32, 109, 111, 100, 117, 108, 101, 115]⟩ : ByteArray)) else (if a0 = 244 then (some (⟨#[116, 111, 111, 32, 109, 97, 110, 121, 32, 118, 97, 114, 105, 97, 98, 108, 101, 115]⟩ : ByteArray)) else (if a0 = 270 then (some (⟨#[116, 111, 111, 32, 103, 114, 101, 97, 116, 32, 102, 111, 114, 32, 116, 104, 101, 32, 109, 97, 99, 104, 105, 110, 101]⟩ : ByteArray)) else (if a0 = 33 then (some (⟨#[116, 111, 111, 32, 103, 114, 101, 97, 116, 32, 102, 111, 114, 32, 116, 104, 101, 32, 109, 97, 99, 104, 105, 110, 101]⟩ : ByteArray)) else ((word_Text.f a0).bind fun t103 => (if 6 + t103.size ≤ 9223372036854775807 then (some ((⟨#[101, 114, 114, 111, 114, 32]⟩ : ByteArray) ++ t103)) else (none))))))) = some r := by rw [if_neg (show ¬ (false = true) by decide)] at H; exact H
                              clear H
                              have H := H1
                              clear H1
                              by_cases c16 : a0 = 243
                              · rw [if_pos c16] at H
                                have c16b0 : (a0 == 243) = true := beq_iff_eq.mpr c16
                                have c16b1 : (a0 != 243) = false := bne_eq_false_iff_eq.mpr c16
                                clear c16
                                obtain rfl := Option.some.inj H
                                go_wp2
                                go_ret
                                exact ⟨by first | rfl | (simp [errW_none, errW_some] <;> rfl) | (simp [*, errW_none, errW_some] <;> rfl), by repeat (first | (with_reducible first | exact HB.out | apply below_alloc | apply pw_below_drewN | apply below_drew1) | exact HB.out)⟩
                              · rw [if_neg c16] at H
                                have c16b0 : (a0 == 243) = false := beq_eq_false_iff_ne.mpr c16
                                have c16b1 : (a0 != 243) = true := bne_iff_ne.mpr c16
                                by_cases c17 : a0 = 244
                                · rw [if_pos c17] at H
                                  have c17b0 : (a0 == 244) = true := beq_iff_eq.mpr c17
                                  have c17b1 : (a0 != 244) = false := bne_eq_false_iff_eq.mpr c17
                                  clear c17
                                  obtain rfl := Option.some.inj H
                                  go_wp2
                                  go_ret
                                  exact ⟨by first | rfl | (simp [errW_none, errW_some] <;> rfl) | (simp [*, errW_none, errW_some] <;> rfl), by repeat (first | (with_reducible first | exact HB.out | apply below_alloc | apply pw_below_drewN | apply below_drew1) | exact HB.out)⟩
                                · rw [if_neg c17] at H
                                  have c17b0 : (a0 == 244) = false := beq_eq_false_iff_ne.mpr c17
                                  have c17b1 : (a0 != 244) = true := bne_iff_ne.mpr c17
                                  by_cases c18 : a0 = 270
                                  · rw [if_pos c18] at H
                                    have c18b0 : (a0 == 270) = true := beq_iff_eq.mpr c18
                                    have c18b1 : (a0 != 270) = false := bne_eq_false_iff_eq.mpr c18
                                    clear c18
                                    obtain rfl := Option.some.inj H
                                    go_wp2
                                    go_ret
                                    exact ⟨by first | rfl | (simp [errW_none, errW_some] <;> rfl) | (simp [*, errW_none, errW_some] <;> rfl), by repeat (first | (with_reducible first | exact HB.out | apply below_alloc | apply pw_below_drewN | apply below_drew1) | exact HB.out)⟩
                                  · rw [if_neg c18] at H
                                    have c18b0 : (a0 == 270) = false := beq_eq_false_iff_ne.mpr c18
                                    have c18b1 : (a0 != 270) = true := bne_iff_ne.mpr c18
                                    by_cases c19 : a0 = 33
                                    · rw [if_pos c19] at H
                                      have c19b0 : (a0 == 33) = true := beq_iff_eq.mpr c19
                                      have c19b1 : (a0 != 33) = false := bne_eq_false_iff_eq.mpr c19
                                      clear c19
                                      obtain rfl := Option.some.inj H
                                      go_wp2
                                      go_ret
                                      exact ⟨by first | rfl | (simp [errW_none, errW_some] <;> rfl) | (simp [*, errW_none, errW_some] <;> rfl), by repeat (first | (with_reducible first | exact HB.out | apply below_alloc | apply pw_below_drewN | apply below_drew1) | exact HB.out)⟩
                                    · rw [if_neg c19] at H
                                      have c19b0 : (a0 == 33) = false := beq_eq_false_iff_ne.mpr c19
                                      have c19b1 : (a0 != 33) = true := bne_iff_ne.mpr c19
                                      replace H := Option.bind_eq_some_iff.mp H
                                      obtain ⟨t103, A200, H⟩ := H
                                      replace H : (if 6 + t103.size ≤ 9223372036854775807 then (some ((⟨#[101, 114, 114, 111, 114, 32]⟩ : ByteArray) ++ t103)) else (none)) = some r := H
                                      have A20 := Aside0.mk A200
                                      clear A200
                                      by_cases c21 : 6 + t103.size ≤ 9223372036854775807
                                      · rw [if_pos c21] at H
                                        have c21b0 := eq_true c21
                                        have c21b1 : decide (6 + t103.size ≤ 9223372036854775807) = true := decide_eq_true c21
                                        try have c21b2 : (9223372036854775807 < 6 + t103.size) = False := eq_false (Nat.not_lt.2 c21)
                                        obtain rfl := Option.some.inj H
                                        go_wp2_with (first | ((with_reducible refine gate_callee (f := 18) rfl ?_); refine goesL_ (some 37) rfl rfl Try.func18 (by kernel_rfl) rfl #[.int .i64 a0] rfl (by (try simp only [List.map_toArray, List.map_cons, List.map_nil]); first | done | rfl | (simp only [List.length_drop, List.length_take]; rfl)) ?_; (with_reducible refine (word_Text.calls a0 t103 _ A20.out).mono ?_); rintro e w22 ⟨rfl, hb⟩; refine ⟨_, rfl, ?_⟩; have n0_ := Aside0.mk (below_step (by repeat (first | (with_reducible first | exact HB.out | apply below_alloc | apply pw_below_drewN | apply below_drew1) | exact HB.out)) hb); clear HB; have HB := n0_; clear n0_; (try clear hb); (try clear hb2); (try clear hk); (try clear hi)))
                                        go_ret
                                        exact ⟨by first | rfl | (simp [errW_none, errW_some] <;> rfl) | (simp [*, errW_none, errW_some] <;> rfl), by repeat (first | (with_reducible first | exact HB.out | apply below_alloc | apply pw_below_drewN | apply below_drew1) | exact HB.out)⟩
                                      · rw [if_neg c21] at H
                                        exact absurd H (by simp)

end Go.Proofs.Ytmebogkhdbbbbaa.P

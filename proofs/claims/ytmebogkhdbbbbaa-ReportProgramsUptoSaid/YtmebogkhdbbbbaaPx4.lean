-- Written by a program of this session (wip/tools/hp.py) out of the translation.
import Derived.Test.YtmebogkhdbbbbaaPx0
import Derived.Test.YtmebogkhdbbbbaaPx3
namespace Go.Proofs.Ytmebogkhdbbbbaa.P
open Go.RowKit Go.Proofs.YtmebogkhdbbbbaaW.PrintWords Go.Proofs.YtmebogkhdbbbbaaW.PrintLast Go.Proofs.YtmebogkhdbbbbaaW.PrintMore
attribute [local go_sem] max2_int min2_int max_two min_two max_three min_three max_four min_four   -- for this text's walks alone
set_option linter.unusedVariables false
set_option linter.unusedSimpArgs false

/-! ### report_Message: function 9 -/
def report_Message.f (k : Nat) (a0 : Int) : Option (ByteArray) := if a0 = 0 then (some (⟨#[110, 111, 116, 104, 105, 110, 103, 32, 105, 115, 32, 119, 114, 111, 110, 103]⟩ : ByteArray)) else (if a0 = 10 then (some (⟨#[100, 105, 118, 105, 100, 101, 100, 32, 98, 121, 32, 48]⟩ : ByteArray)) else (if a0 = 80 then (some (⟨#[110, 111, 32, 115, 117, 99, 104, 32, 110, 117, 109, 98, 101, 114]⟩ : ByteArray)) else (if a0 = 81 then (some (⟨#[97, 32, 114, 101, 109, 97, 114, 107, 32, 104, 97, 115, 32, 110, 111, 32, 101, 110, 100]⟩ : ByteArray)) else (if a0 = 82 then (some (⟨#[97, 32, 116, 101, 120, 116, 32, 104, 97, 115, 32, 110, 111, 32, 101, 110, 100]⟩ : ByteArray)) else (if a0 = 83 then (some (⟨#[110, 111, 32, 115, 117, 99, 104, 32, 115, 105, 103, 110]⟩ : ByteArray)) else (if a0 = 140 then (some (⟨#[97, 32, 110, 97, 109, 101, 32, 105, 115, 32, 116, 111, 111, 32, 108, 111, 110, 103]⟩ : ByteArray)) else (if a0 = 200 then (some (⟨#[115, 111, 109, 101, 116, 104, 105, 110, 103, 32, 101, 108, 115, 101, 32, 109, 117, 115, 116, 32, 115, 116, 97, 110, 100, 32, 104, 101, 114, 101]⟩ : ByteArray)) else (if a0 = 91 then (some (⟨#[116, 104, 105, 115, 32, 105, 115, 32, 111, 102, 32, 97, 110, 111, 116, 104, 101, 114, 32, 116, 121, 112, 101]⟩ : ByteArray)) else (if a0 = 111 then (some (⟨#[116, 104, 105, 115, 32, 105, 115, 32, 97, 110, 111, 116, 104, 101, 114, 32, 107, 105, 110, 100, 32, 111, 102, 32, 116, 104, 105, 110, 103]⟩ : ByteArray)) else (if a0 = 110 then (some (⟨#[110, 111, 116, 104, 105, 110, 103, 32, 104, 97, 115, 32, 116, 104, 105, 115, 32, 110, 97, 109, 101]⟩ : ByteArray)) else ((report_more.f k a0).bind fun t104 => (some t104))))))))))))
theorem report_Message.mono : ∀ a0 k, LeO (report_Message.f k a0) (report_Message.f (k + 1) a0) := by
  intro a0 k
  unfold report_Message.f
  repeat' first
      | (with_reducible exact report_more.mono _ _)
      | (with_reducible exact LeO.refl _)
      | (with_reducible exact LeO.none _)
      | (with_reducible refine LeO.ite ?_ ?_)
      | (with_reducible refine LeO.bind ?_ (fun _ => ?_))
      | exact report_more.mono _ _
      | exact LeO.none _
      | refine LeO.ite ?_ ?_
      | refine LeO.bind ?_ (fun _ => ?_)
set_option maxHeartbeats 8000000 in
set_option maxRecDepth 100000 in
theorem report_Message.calls (k : Nat) (a0 : Int) (r : ByteArray) (w : World) (h : report_Message.f k a0 = some r) :
    Calls Try.prog 9 #[.int .i64 a0] w fun e w' => e = .returned (.string r) ∧ Below w.heap.size w w' := by
  have HB := Aside0.mk (Below.refl w.heap.size w)
  have H : (if a0 = 0 then (some (⟨#[110, 111, 116, 104, 105, 110, 103, 32, 105, 115, 32, 119, 114, 111, 110, 103]⟩ : ByteArray)) else (if a0 = 10 then (some (⟨#[100, 105, 118, 105, 100, 101, 100, 32, 98, 121, 32, 48]⟩ : ByteArray)) else (if a0 = 80 then (some (⟨#[110, 111, 32, 115, 117, 99, 104, 32, 110, 117, 109, 98, 101, 114]⟩ : ByteArray)) else (if a0 = 81 then (some (⟨#[97, 32, 114, 101, 109, 97, 114, 107, 32, 104, 97, 115, 32, 110, 111, 32, 101, 110, 100]⟩ : ByteArray)) else (if a0 = 82 then (some (⟨#[97, 32, 116, 101, 120, 116, 32, 104, 97, 115, 32, 110, 111, 32, 101, 110, 100]⟩ : ByteArray)) else (if a0 = 83 then (some (⟨#[110, 111, 32, 115, 117, 99, 104, 32, 115, 105, 103, 110]⟩ : ByteArray)) else (if a0 = 140 then (some (⟨#[97, 32, 110, 97, 109, 101, 32, 105, 115, 32, 116, 111, 111, 32, 108, 111, 110, 103]⟩ : ByteArray)) else (if a0 = 200 then (some (⟨#[115, 111, 109, 101, 116, 104, 105, 110, 103, 32, 101, 108, 115, 101, 32, 109, 117, 115, 116, 32, 115, 116, 97, 110, 100, 32, 104, 101, 114, 101]⟩ : ByteArray)) else (if a0 = 91 then (some (⟨#[116, 104, 105, 115, 32, 105, 115, 32, 111, 102, 32, 97, 110, 111, 116, 104, 101, 114, 32, 116, 121, 112, 101]⟩ : ByteArray)) else (if a0 = 111 then (some (⟨#[116, 104, 105, 115, 32, 105, 115, 32, 97, 110, 111, 116, 104, 101, 114, 32, 107, 105, 110, 100, 32, 111, 102, 32, 116, 104, 105, 110, 103]⟩ : ByteArray)) else (if a0 = 110 then (some (⟨#[110, 111, 116, 104, 105, 110, 103, 32, 104, 97, 115, 32, 116, 104, 105, 115, 32, 110, 97, 109, 101]⟩ : ByteArray)) else ((report_more.f k a0).bind fun t104 => (some t104))))))))))))) = some r := h
  clear h
  by_cases c2 : a0 = 0
  · rw [if_pos c2] at H
    have c2b0 : (a0 == 0) = true := beq_iff_eq.mpr c2
    have c2b1 : (a0 != 0) = false := bne_eq_false_iff_eq.mpr c2
    clear c2
    obtain rfl := Option.some.inj H
    go_enter Try.func9, Try.ntmps9
    go_wp2
    go_ret
    exact ⟨by first | rfl | (simp [errW_none, errW_some] <;> rfl) | (simp [*, errW_none, errW_some] <;> rfl), by repeat (first | (with_reducible first | exact HB.out | apply below_alloc | apply pw_below_drewN | apply below_drew1) | exact HB.out)⟩
  · rw [if_neg c2] at H
    have c2b0 : (a0 == 0) = false := beq_eq_false_iff_ne.mpr c2
    have c2b1 : (a0 != 0) = true := bne_iff_ne.mpr c2
    by_cases c3 : a0 = 10
    · rw [if_pos c3] at H
      have c3b0 : (a0 == 10) = true := beq_iff_eq.mpr c3
      have c3b1 : (a0 != 10) = false := bne_eq_false_iff_eq.mpr c3
      clear c3
      obtain rfl := Option.some.inj H
      go_enter Try.func9, Try.ntmps9
      go_wp2
      go_ret
      exact ⟨by first | rfl | (simp [errW_none, errW_some] <;> rfl) | (simp [*, errW_none, errW_some] <;> rfl), by repeat (first | (with_reducible first | exact HB.out | apply below_alloc | apply pw_below_drewN | apply below_drew1) | exact HB.out)⟩
    · rw [if_neg c3] at H
      have c3b0 : (a0 == 10) = false := beq_eq_false_iff_ne.mpr c3
      have c3b1 : (a0 != 10) = true := bne_iff_ne.mpr c3
      by_cases c4 : a0 = 80
      · rw [if_pos c4] at H
        have c4b0 : (a0 == 80) = true := beq_iff_eq.mpr c4
        have c4b1 : (a0 != 80) = false := bne_eq_false_iff_eq.mpr c4
        clear c4
        obtain rfl := Option.some.inj H
        go_enter Try.func9, Try.ntmps9
        go_wp2
        go_ret
        exact ⟨by first | rfl | (simp [errW_none, errW_some] <;> rfl) | (simp [*, errW_none, errW_some] <;> rfl), by repeat (first | (with_reducible first | exact HB.out | apply below_alloc | apply pw_below_drewN | apply below_drew1) | exact HB.out)⟩
      · rw [if_neg c4] at H
        have c4b0 : (a0 == 80) = false := beq_eq_false_iff_ne.mpr c4
        have c4b1 : (a0 != 80) = true := bne_iff_ne.mpr c4
        by_cases c5 : a0 = 81
        · rw [if_pos c5] at H
          have c5b0 : (a0 == 81) = true := beq_iff_eq.mpr c5
          have c5b1 : (a0 != 81) = false := bne_eq_false_iff_eq.mpr c5
          clear c5
          obtain rfl := Option.some.inj H
          go_enter Try.func9, Try.ntmps9
          go_wp2
          go_ret
          exact ⟨by first | rfl | (simp [errW_none, errW_some] <;> rfl) | (simp [*, errW_none, errW_some] <;> rfl), by repeat (first | (with_reducible first | exact HB.out | apply below_alloc | apply pw_below_drewN | apply below_drew1) | exact HB.out)⟩
        · rw [if_neg c5] at H
          have c5b0 : (a0 == 81) = false := beq_eq_false_iff_ne.mpr c5
          have c5b1 : (a0 != 81) = true := bne_iff_ne.mpr c5
          by_cases c6 : a0 = 82
          · rw [if_pos c6] at H
            have c6b0 : (a0 == 82) = true := beq_iff_eq.mpr c6
            have c6b1 : (a0 != 82) = false := bne_eq_false_iff_eq.mpr c6
            clear c6
            obtain rfl := Option.some.inj H
            go_enter Try.func9, Try.ntmps9
            go_wp2
            go_ret
            exact ⟨by first | rfl | (simp [errW_none, errW_some] <;> rfl) | (simp [*, errW_none, errW_some] <;> rfl), by repeat (first | (with_reducible first | exact HB.out | apply below_alloc | apply pw_below_drewN | apply below_drew1) | exact HB.out)⟩
          · rw [if_neg c6] at H
            have c6b0 : (a0 == 82) = false := beq_eq_false_iff_ne.mpr c6
            have c6b1 : (a0 != 82) = true := bne_iff_ne.mpr c6
            by_cases c7 : a0 = 83
            · rw [if_pos c7] at H
              have c7b0 : (a0 == 83) = true := beq_iff_eq.mpr c7
              have c7b1 : (a0 != 83) = false := bne_eq_false_iff_eq.mpr c7
              clear c7
              obtain rfl := Option.some.inj H
              go_enter Try.func9, Try.ntmps9
              go_wp2
              go_ret
              exact ⟨by first | rfl | (simp [errW_none, errW_some] <;> rfl) | (simp [*, errW_none, errW_some] <;> rfl), by repeat (first | (with_reducible first | exact HB.out | apply below_alloc | apply pw_below_drewN | apply below_drew1) | exact HB.out)⟩
            · rw [if_neg c7] at H
              have c7b0 : (a0 == 83) = false := beq_eq_false_iff_ne.mpr c7
              have c7b1 : (a0 != 83) = true := bne_iff_ne.mpr c7
              by_cases c8 : a0 = 140
              · rw [if_pos c8] at H
                have c8b0 : (a0 == 140) = true := beq_iff_eq.mpr c8
                have c8b1 : (a0 != 140) = false := bne_eq_false_iff_eq.mpr c8
                clear c8
                obtain rfl := Option.some.inj H
                go_enter Try.func9, Try.ntmps9
                go_wp2
                go_ret
                exact ⟨by first | rfl | (simp [errW_none, errW_some] <;> rfl) | (simp [*, errW_none, errW_some] <;> rfl), by repeat (first | (with_reducible first | exact HB.out | apply below_alloc | apply pw_below_drewN | apply below_drew1) | exact HB.out)⟩
              · rw [if_neg c8] at H
                have c8b0 : (a0 == 140) = false := beq_eq_false_iff_ne.mpr c8
                have c8b1 : (a0 != 140) = true := bne_iff_ne.mpr c8
                by_cases c9 : a0 = 200
                · rw [if_pos c9] at H
                  have c9b0 : (a0 == 200) = true := beq_iff_eq.mpr c9
                  have c9b1 : (a0 != 200) = false := bne_eq_false_iff_eq.mpr c9
                  clear c9
                  obtain rfl := Option.some.inj H
                  go_enter Try.func9, Try.ntmps9
                  go_wp2
                  go_ret
                  exact ⟨by first | rfl | (simp [errW_none, errW_some] <;> rfl) | (simp [*, errW_none, errW_some] <;> rfl), by repeat (first | (with_reducible first | exact HB.out | apply below_alloc | apply pw_below_drewN | apply below_drew1) | exact HB.out)⟩
                · rw [if_neg c9] at H
                  have c9b0 : (a0 == 200) = false := beq_eq_false_iff_ne.mpr c9
                  have c9b1 : (a0 != 200) = true := bne_iff_ne.mpr c9
                  by_cases c10 : a0 = 91
                  · rw [if_pos c10] at H
                    have c10b0 : (a0 == 91) = true := beq_iff_eq.mpr c10
                    have c10b1 : (a0 != 91) = false := bne_eq_false_iff_eq.mpr c10
                    clear c10
                    obtain rfl := Option.some.inj H
                    go_enter Try.func9, Try.ntmps9
                    go_wp2
                    go_ret
                    exact ⟨by first | rfl | (simp [errW_none, errW_some] <;> rfl) | (simp [*, errW_none, errW_some] <;> rfl), by repeat (first | (with_reducible first | exact HB.out | apply below_alloc | apply pw_below_drewN | apply below_drew1) | exact HB.out)⟩
                  · rw [if_neg c10] at H
                    have c10b0 : (a0 == 91) = false := beq_eq_false_iff_ne.mpr c10
                    have c10b1 : (a0 != 91) = true := bne_iff_ne.mpr c10
                    by_cases c11 : a0 = 111
                    · rw [if_pos c11] at H
                      have c11b0 : (a0 == 111) = true := beq_iff_eq.mpr c11
                      have c11b1 : (a0 != 111) = false := bne_eq_false_iff_eq.mpr c11
                      clear c11
                      obtain rfl := Option.some.inj H
                      go_enter Try.func9, Try.ntmps9
                      go_wp2
                      go_ret
                      exact ⟨by first | rfl | (simp [errW_none, errW_some] <;> rfl) | (simp [*, errW_none, errW_some] <;> rfl), by repeat (first | (with_reducible first | exact HB.out | apply below_alloc | apply pw_below_drewN | apply below_drew1) | exact HB.out)⟩
                    · rw [if_neg c11] at H
                      have c11b0 : (a0 == 111) = false := beq_eq_false_iff_ne.mpr c11
                      have c11b1 : (a0 != 111) = true := bne_iff_ne.mpr c11
                      by_cases c12 : a0 = 110
                      · rw [if_pos c12] at H
                        have c12b0 : (a0 == 110) = true := beq_iff_eq.mpr c12
                        have c12b1 : (a0 != 110) = false := bne_eq_false_iff_eq.mpr c12
                        clear c12
                        obtain rfl := Option.some.inj H
                        go_enter Try.func9, Try.ntmps9
                        go_wp2
                        go_ret
                        exact ⟨by first | rfl | (simp [errW_none, errW_some] <;> rfl) | (simp [*, errW_none, errW_some] <;> rfl), by repeat (first | (with_reducible first | exact HB.out | apply below_alloc | apply pw_below_drewN | apply below_drew1) | exact HB.out)⟩
                      · rw [if_neg c12] at H
                        have c12b0 : (a0 == 110) = false := beq_eq_false_iff_ne.mpr c12
                        have c12b1 : (a0 != 110) = true := bne_iff_ne.mpr c12
                        replace H := Option.bind_eq_some_iff.mp H
                        obtain ⟨t104, A130, H⟩ := H
                        replace H : (some t104) = some r := H
                        have A13 := Aside0.mk A130
                        clear A130
                        obtain rfl := Option.some.inj H
                        go_enter Try.func9, Try.ntmps9
                        go_wp2_with (first | ((with_reducible refine gate_callee (f := 25) rfl ?_); refine goesL_ (some 27) rfl rfl Try.func25 (by kernel_rfl) rfl #[.int .i64 a0] rfl (by (try simp only [List.map_toArray, List.map_cons, List.map_nil]); first | done | rfl | (simp only [List.length_drop, List.length_take]; rfl)) ?_; (with_reducible refine (report_more.calls k a0 t104 _ A13.out).mono ?_); rintro e w14 ⟨rfl, hb⟩; refine ⟨_, rfl, ?_⟩; have n0_ := Aside0.mk (below_step (by repeat (first | (with_reducible first | exact HB.out | apply below_alloc | apply pw_below_drewN | apply below_drew1) | exact HB.out)) hb); clear HB; have HB := n0_; clear n0_; (try clear hb); (try clear hb2); (try clear hk); (try clear hi)))
                        go_ret
                        exact ⟨by first | rfl | (simp [errW_none, errW_some] <;> rfl) | (simp [*, errW_none, errW_some] <;> rfl), by repeat (first | (with_reducible first | exact HB.out | apply below_alloc | apply pw_below_drewN | apply below_drew1) | exact HB.out)⟩

end Go.Proofs.Ytmebogkhdbbbbaa.P

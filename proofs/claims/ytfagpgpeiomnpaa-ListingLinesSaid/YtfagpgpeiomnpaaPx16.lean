-- Written by a program of this session (wip/tools/hp.py) out of the translation.
import Derived.Test.YtfagpgpeiomnpaaPx0
import Derived.Test.YtfagpgpeiomnpaaPx15
namespace Go.Proofs.Ytfagpgpeiomnpaa.P
open Go.RowKit Go.Proofs.YtfagpgpeiomnpaaW.PrintWords Go.Proofs.YtfagpgpeiomnpaaW.PrintLast Go.Proofs.YtfagpgpeiomnpaaW.PrintMore
attribute [local go_sem] max2_int min2_int max_two min_two max_three min_three max_four min_four   -- for this text's walks alone
set_option linter.unusedVariables false
set_option linter.unusedSimpArgs false

/-! ### pascalineref01_Sext: function 44 -/
def pascalineref01_Sext.f (k : Nat) (a0 : Int) (a1 : Int) : Option (Int) := if a1 < 1 then (some 0) else ((pascalineref01_Power.f k (mn a1 32)).bind fun t187 => (if t187 = 0 then (none) else (if (Int.tmod (wrap64 (a0)) t187) ≥ (wrap64 (Int.tdiv t187 2)) then ((pascalineref01_Round.f (wrap64 ((Int.tmod (wrap64 (a0)) t187) - t187))).bind fun t188 => (some t188)) else ((pascalineref01_Round.f (Int.tmod (wrap64 (a0)) t187)).bind fun t189 => (some t189)))))
theorem pascalineref01_Sext.mono : ∀ a0 a1 k, LeO (pascalineref01_Sext.f k a0 a1) (pascalineref01_Sext.f (k + 1) a0 a1) := by
  intro a0 a1 k
  unfold pascalineref01_Sext.f
  repeat' first
      | (with_reducible exact pascalineref01_Power.mono _ _)
      | (with_reducible exact LeO.refl _)
      | (with_reducible exact LeO.none _)
      | (with_reducible refine LeO.ite ?_ ?_)
      | (with_reducible refine LeO.bind ?_ (fun _ => ?_))
      | exact pascalineref01_Power.mono _ _
      | exact LeO.none _
      | refine LeO.ite ?_ ?_
      | refine LeO.bind ?_ (fun _ => ?_)
set_option maxHeartbeats 8000000 in
set_option maxRecDepth 100000 in
theorem pascalineref01_Sext.calls (k : Nat) (a0 : Int) (a1 : Int) (r : Int) (w : World) (h : pascalineref01_Sext.f k a0 a1 = some r) :
    Calls Try.prog 44 #[.int .u32 a0, .int .i64 a1] w fun e w' => e = .returned (.int .i32 r) ∧ Below w.heap.size w w' := by
  have HB := Aside0.mk (Below.refl w.heap.size w)
  have H : (if a1 < 1 then (some 0) else ((pascalineref01_Power.f k (mn a1 32)).bind fun t187 => (if t187 = 0 then (none) else (if (Int.tmod (wrap64 (a0)) t187) ≥ (wrap64 (Int.tdiv t187 2)) then ((pascalineref01_Round.f (wrap64 ((Int.tmod (wrap64 (a0)) t187) - t187))).bind fun t188 => (some t188)) else ((pascalineref01_Round.f (Int.tmod (wrap64 (a0)) t187)).bind fun t189 => (some t189)))))) = some r := h
  clear h
  by_cases c3 : a1 < 1
  · rw [if_pos c3] at H
    have c3b0 : decide (a1 < 1) = true := decide_eq_true c3
    clear c3
    obtain rfl := Option.some.inj H
    go_enter Try.func44, Try.ntmps44
    go_wp2
    go_ret
    exact ⟨by first | rfl | (simp [errW_none, errW_some] <;> rfl) | (simp [*, errW_none, errW_some] <;> rfl), by repeat (first | (with_reducible first | exact HB.out | apply below_alloc | apply pw_below_drewN | apply below_drew1) | exact HB.out)⟩
  · rw [if_neg c3] at H
    have c3b0 : decide (a1 < 1) = false := decide_eq_false c3
    clear c3
    obtain ⟨ji4, hji4⟩ : ∃ j_ : Int, (mn a1 32) = j_ := ⟨_, rfl⟩
    replace H : ((pascalineref01_Power.f k (ji4)).bind fun t187 => (if t187 = 0 then (none) else (if (Int.tmod (wrap64 (a0)) t187) ≥ (wrap64 (Int.tdiv t187 2)) then ((pascalineref01_Round.f (wrap64 ((Int.tmod (wrap64 (a0)) t187) - t187))).bind fun t188 => (some t188)) else ((pascalineref01_Round.f (Int.tmod (wrap64 (a0)) t187)).bind fun t189 => (some t189))))) = some r := by first | (rw [hji4] at H; exact H) | (simp only [hji4] at H ⊢; exact H)
    (try (have hji4h : ji4 ≤ 32 := by (rw [← hji4]; unfold mn; (repeat' split) <;> omega)))
    (try (have hji4g : ji4 ≤ 64 := by omega))
    have hji4_ : (if 32 < a1 then 32 else a1) = ji4 := hji4
    replace H := Option.bind_eq_some_iff.mp H
    obtain ⟨t187, A50, H⟩ := H
    replace H : (if t187 = 0 then (none) else (if (Int.tmod (wrap64 (a0)) t187) ≥ (wrap64 (Int.tdiv t187 2)) then ((pascalineref01_Round.f (wrap64 ((Int.tmod (wrap64 (a0)) t187) - t187))).bind fun t188 => (some t188)) else ((pascalineref01_Round.f (Int.tmod (wrap64 (a0)) t187)).bind fun t189 => (some t189)))) = some r := H
    have A5 := Aside0.mk A50
    clear A50
    by_cases c6 : t187 = 0
    · rw [if_pos c6] at H
      exact absurd H (by simp)
    · rw [if_neg c6] at H
      have c6b0 : (t187 == 0) = false := beq_eq_false_iff_ne.mpr c6
      have c6b1 : (t187 != 0) = true := bne_iff_ne.mpr c6
      by_cases c7 : (Int.tmod (wrap64 (a0)) t187) ≥ (wrap64 (Int.tdiv t187 2))
      · rw [if_pos c7] at H
        have c7b0 : decide ((wrap64 (Int.tdiv t187 2)) ≤ (Int.tmod (wrap64 (a0)) t187)) = true := decide_eq_true c7
        clear c7
        replace H := Option.bind_eq_some_iff.mp H
        obtain ⟨t188, A80, H⟩ := H
        replace H : (some t188) = some r := H
        have A8 := Aside0.mk A80
        clear A80
        obtain rfl := Option.some.inj H
        go_enter Try.func44, Try.ntmps44
        go_wp2_with (first | ((with_reducible refine gate_callee (f := 55) rfl ?_); refine goesL_ (some 11) rfl rfl Try.func55 (by kernel_rfl) rfl #[.int .i64 ji4] rfl (by (try simp only [List.map_toArray, List.map_cons, List.map_nil]); first | done | (simp only [hji4]; rfl) | rfl | (simp only [List.length_drop, List.length_take]; rfl)) ?_; (with_reducible refine (pascalineref01_Power.calls k ji4 t187 _ A5.out).mono ?_); rintro e w' ⟨rfl, ⟨nd, rfl⟩⟩; refine ⟨_, rfl, ?_⟩) | ((with_reducible refine gate_callee (f := 56) rfl ?_); refine goesL_ (some 24) rfl rfl Try.func56 (by kernel_rfl) rfl #[.int .i64 (wrap64 ((Int.tmod (wrap64 (a0)) t187) - t187))] rfl (by (try simp only [List.map_toArray, List.map_cons, List.map_nil]); first | done | rfl | (simp only [List.length_drop, List.length_take]; rfl)) ?_; (with_reducible refine (pascalineref01_Round.calls (wrap64 ((Int.tmod (wrap64 (a0)) t187) - t187)) t188 _ A8.out).mono ?_); rintro e w' ⟨rfl, ⟨nd, rfl⟩⟩; refine ⟨_, rfl, ?_⟩))
        go_ret
        exact ⟨by first | rfl | (simp [errW_none, errW_some] <;> rfl) | (simp only [← hji4]; first | rfl | (simp [errW_none, errW_some] <;> rfl)) | (simp [*, errW_none, errW_some] <;> rfl), by repeat (first | (with_reducible first | exact HB.out | apply below_alloc | apply pw_below_drewN | apply below_drew1) | exact HB.out)⟩
      · rw [if_neg c7] at H
        have c7b0 : decide ((wrap64 (Int.tdiv t187 2)) ≤ (Int.tmod (wrap64 (a0)) t187)) = false := decide_eq_false c7
        clear c7
        replace H := Option.bind_eq_some_iff.mp H
        obtain ⟨t189, A90, H⟩ := H
        replace H : (some t189) = some r := H
        have A9 := Aside0.mk A90
        clear A90
        obtain rfl := Option.some.inj H
        go_enter Try.func44, Try.ntmps44
        go_wp2_with (first | ((with_reducible refine gate_callee (f := 55) rfl ?_); refine goesL_ (some 11) rfl rfl Try.func55 (by kernel_rfl) rfl #[.int .i64 ji4] rfl (by (try simp only [List.map_toArray, List.map_cons, List.map_nil]); first | done | (simp only [hji4]; rfl) | rfl | (simp only [List.length_drop, List.length_take]; rfl)) ?_; (with_reducible refine (pascalineref01_Power.calls k ji4 t187 _ A5.out).mono ?_); rintro e w' ⟨rfl, ⟨nd, rfl⟩⟩; refine ⟨_, rfl, ?_⟩) | ((with_reducible refine gate_callee (f := 56) rfl ?_); refine goesL_ (some 24) rfl rfl Try.func56 (by kernel_rfl) rfl #[.int .i64 (Int.tmod (wrap64 (a0)) t187)] rfl (by (try simp only [List.map_toArray, List.map_cons, List.map_nil]); first | done | rfl | (simp only [List.length_drop, List.length_take]; rfl)) ?_; (with_reducible refine (pascalineref01_Round.calls (Int.tmod (wrap64 (a0)) t187) t189 _ A9.out).mono ?_); rintro e w' ⟨rfl, ⟨nd, rfl⟩⟩; refine ⟨_, rfl, ?_⟩))
        go_ret
        exact ⟨by first | rfl | (simp [errW_none, errW_some] <;> rfl) | (simp only [← hji4]; first | rfl | (simp [errW_none, errW_some] <;> rfl)) | (simp [*, errW_none, errW_some] <;> rfl), by repeat (first | (with_reducible first | exact HB.out | apply below_alloc | apply pw_below_drewN | apply below_drew1) | exact HB.out)⟩

end Go.Proofs.Ytfagpgpeiomnpaa.P

-- Written by a program of this session (wip/tools/hp.py) out of the translation.
import Derived.Test.YtmebogkhdbbbbaaPx0
import Derived.Test.YtmebogkhdbbbbaaPx10
namespace Go.Proofs.Ytmebogkhdbbbbaa.P
open Go.RowKit Go.Proofs.YtmebogkhdbbbbaaW.PrintWords Go.Proofs.YtmebogkhdbbbbaaW.PrintLast Go.Proofs.YtmebogkhdbbbbaaW.PrintMore
attribute [local go_sem] max2_int min2_int max_two min_two max_three min_three max_four min_four   -- for this text's walks alone
set_option linter.unusedVariables false
set_option linter.unusedSimpArgs false

/-! ### pascalinelaw31_awake: function 6 -/
def pascalinelaw31_awake.f (k : Nat)  : Option (Bool) := (report_Fault.f k ([] : List ByteArray) 64 0 243).bind fun t105 => (some (t105.toList == ([116, 101, 120, 116, 32, 54, 53, 58, 32, 116, 111, 111, 32, 109, 97, 110, 121, 32, 109, 111, 100, 117, 108, 101, 115, 10] : List UInt8)))
theorem pascalinelaw31_awake.mono : ∀ k, LeO (pascalinelaw31_awake.f k ) (pascalinelaw31_awake.f (k + 1) ) := by
  intro  k
  unfold pascalinelaw31_awake.f
  repeat' first
      | (with_reducible exact report_Fault.mono _ _ _ _ _)
      | (with_reducible exact LeO.refl _)
      | (with_reducible exact LeO.none _)
      | (with_reducible refine LeO.ite ?_ ?_)
      | (with_reducible refine LeO.bind ?_ (fun _ => ?_))
      | exact report_Fault.mono _ _ _ _ _
      | exact LeO.none _
      | refine LeO.ite ?_ ?_
      | refine LeO.bind ?_ (fun _ => ?_)
set_option maxHeartbeats 8000000 in
set_option maxRecDepth 100000 in
theorem pascalinelaw31_awake.calls (k : Nat)  (r : Bool) (w : World) (h : pascalinelaw31_awake.f k  = some r) :
    Calls Try.prog 6 #[] w fun e w' => e = .returned (.bool r) ∧ Below w.heap.size w w' := by
  have hu25 := Try.underlying25
  have HB := Aside0.mk (Below.refl w.heap.size w)
  have H : ((report_Fault.f k ([] : List ByteArray) 64 0 243).bind fun t105 => (some (t105.toList == ([116, 101, 120, 116, 32, 54, 53, 58, 32, 116, 111, 111, 32, 109, 97, 110, 121, 32, 109, 111, 100, 117, 108, 101, 115, 10] : List UInt8)))) = some r := h
  clear h
  replace H := Option.bind_eq_some_iff.mp H
  obtain ⟨t105, A10, H⟩ := H
  replace H : (some (t105.toList == ([116, 101, 120, 116, 32, 54, 53, 58, 32, 116, 111, 111, 32, 109, 97, 110, 121, 32, 109, 111, 100, 117, 108, 101, 115, 10] : List UInt8))) = some r := H
  have A1 := Aside0.mk A10
  clear A10
  obtain rfl := Option.some.inj H
  go_enter Try.func6, Try.ntmps6
  go_wp2_with (first | ((with_reducible refine gate_callee (f := 7) rfl ?_); refine goesL_ (some 2) rfl rfl Try.func7 (by kernel_rfl) rfl #[.slice none 0 0, .agg #[.int .i64 64, .int .i64 0, .int .i64 243]] rfl (by (try simp only [List.map_toArray, List.map_cons, List.map_nil]); first | done | rfl | (simp only [List.length_drop, List.length_take]; rfl)) ?_; (refine (report_Fault.calls k _ _ ([] : List ByteArray) 64 0 243 t105 _ ?side1 ?side2 A1.out).mono ?_); (case side1 => exact Kd.C_nil _ _); (case side2 => exact Nat.le_refl _); rintro e w2 ⟨rfl, hb⟩; refine ⟨_, rfl, ?_⟩; have n0_ := Aside0.mk (below_step (by repeat (first | (with_reducible first | exact HB.out | apply below_alloc | apply pw_below_drewN | apply below_drew1) | exact HB.out)) hb); clear HB; have HB := n0_; clear n0_; (try clear hb); (try clear hb2); (try clear hk); (try clear hi)))
  go_ret
  exact ⟨by first | rfl | (simp [errW_none, errW_some] <;> rfl) | (simp [*, errW_none, errW_some] <;> rfl), by repeat (first | (with_reducible first | exact HB.out | apply below_alloc | apply pw_below_drewN | apply below_drew1) | exact HB.out)⟩

end Go.Proofs.Ytmebogkhdbbbbaa.P

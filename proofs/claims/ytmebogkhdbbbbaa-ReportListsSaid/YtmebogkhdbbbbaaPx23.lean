import Derived.Test.YtmebogkhdbbbbaaPx0
import Derived.Test.YtmebogkhdbbbbaaCCf
import Derived.Test.YtmebogkhdbbbbaaPx1
namespace Go.Proofs.Ytmebogkhdbbbbaa.P
open Go.RowKit Go.Proofs.YtmebogkhdbbbbaaW.PrintWords Go.Proofs.YtmebogkhdbbbbaaW.PrintLast Go.Proofs.YtmebogkhdbbbbaaW.PrintMore
attribute [local go_sem] max2_int min2_int max_two min_two max_three min_three max_four min_four   -- for this text's walks alone
set_option linter.unusedVariables false
set_option linter.unusedSimpArgs false

-- NOT PRINTED: function 46 (abi_NoEscape)

-- NOT PRINTED: function 39 (strings_Builder_copyCheck)

-- NOT PRINTED: function 29 (strings_Builder_WriteString)

-- NOT PRINTED: function 30 (strings_Builder_String)

-- NOT PRINTED: function 12 (report_Program)

-- NOT PRINTED: function 13 (pascalineref31_Program)

-- NOT PRINTED: function 31 (pascalinelaw03_Ends)

-- NOT PRINTED: function 14 (pascalinelaw27_Ref)

/-! ### word_Hex: function 32 -/
def word_Hex.f (a0 : Int) : Option (ByteArray) := (word_digits.f (IntKind.u64.wrap (a0)) 16 8).bind fun t157 => (some t157)
set_option maxHeartbeats 8000000 in
set_option maxRecDepth 100000 in
theorem word_Hex.calls (a0 : Int) (r : ByteArray) (w : World) (h : word_Hex.f a0 = some r) :
 Calls Try.prog 32 #[.int .u32 a0] w fun e w' => e = .returned (.string r) ∧ Below w.heap.size w w' := by
 have HB := mK (Below.refl w.heap.size w)
 have H : ((word_digits.f (IntKind.u64.wrap (a0)) 16 8).bind fun t157 => (some t157)) = some r := h
 clear h
 replace H := oB H
 obtain ⟨t157, A20, H⟩ := H
 replace H : (some t157) = some r := H
 have A2 := mK A20
 clear A20
 obtain rfl := Option.some.inj H
 go_enter Try.func32, Try.ntmps32
 go_wp2_with (first | ((with_reducible refine gate_callee (f := 36) rfl ?_); refine goesL_ (some 5) rfl rfl Try.func36 (by kernel_rfl) rfl #[.int .u64 (IntKind.u64.wrap (a0)), .int .u64 16, .int .i64 8] rfl (by (try simp only [List.map_toArray, List.map_cons, List.map_nil]); first | done | rfl) ?_; (with_reducible refine (word_digits.calls (IntKind.u64.wrap (a0)) 16 8 t157 _ A2.out).mono ?_); rintro e w3 ⟨rfl, hb⟩; refine ⟨_, rfl, ?_⟩; have n0_ := mK (bP (by repeat (first | (with_reducible first | exact HB.out | apply bA | apply bN | apply bD) | exact HB.out)) hb); clear HB; have HB := n0_; clear n0_; (try clear hb)))
 go_ret
 exact ⟨by first | rfl | (simp [errW_none, errW_some] <;> rfl) | (simp [*, errW_none, errW_some] <;> rfl), by repeat (first | (with_reducible first | exact HB.out | apply bA | apply bN | apply bD) | exact HB.out)⟩

end Go.Proofs.Ytmebogkhdbbbbaa.P
